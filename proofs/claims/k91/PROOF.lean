import PyProof.Rows.All
import Wide.All
import OpenK.AllK
import Wide.FinOn
import HandS.Base
import HandS.Call
import HandS.List
import HandS.Comp
import HandS.Ends
import HandS.Dict
import HandS.Iter
import HandS.Text
import HandS.Words
import HandS.WordsList
import HandS.WordsDict
import HandS.Walk
import HandS.DictComp
import HandS.Defaults
import KE.GoesNew
import KE.GoesMore
import PyProof.StrOps2
import PyProof.WalkInts
import HandS.WordsExc
import HandS.HeadHook2
import HandS.IsInst
import HandS.Sort
import HandS.SetKeys
import HandS.Zip
import HandS.More
import HandS.ExcInit
import HandS.ExcField
import HandS.Head0
import HandS.Head1
import HandS.Head2
import HandS.HeadEnd
import HandS.HeadHook1
import HandS.Set
import HandS.SetFor
import HandS.SetTxt0
import HandS.Strs
import KE.SortUse
import HandS.SortKw
import HandS.Exc
import KE.DataMinMax
import HandS.CallSlots
import PyProof.FString5
import PyProof.Rows.TupDisplay
import KE.KStateDown
import PySem.Challenge.RW_newesttells_k91_whole_least_lumps
set_option Elab.async false
set_option linter.all false
set_option maxRecDepth 100000
set_option maxHeartbeats 4000000
namespace Nt
open PySem PySem.Spec PyProof.Rows L2
def top (i : Nat) : Stmt := PySem.Challenge.pw_newesttells_k91_whole_least_lumps.main.body.getD i (.Pass ⟨0, 0, 0, 0⟩)
abbrev s_is_name : Stmt := (top 17)
abbrev n_is_name : List Str := ["value", "sign"]
abbrev p_is_name : List Str := ["value"]
abbrev d_is_name : He.DefD := ⟨("is_name", none), "is_name", "is_name", defArgs s_is_name, defBody s_is_name, defScope s_is_name, [], []⟩
theorem sc_is_name : FnScope n_is_name p_is_name (He.DefD.scope d_is_name) := ⟨rfl, rfl, rfl, by decide +kernel, rfl, by decide +kernel, by decide +kernel⟩
abbrev s_is_number : Stmt := (top 18)
abbrev n_is_number : List Str := ["value", "least", "most"]
abbrev p_is_number : List Str := ["value", "least", "most"]
abbrev d_is_number : He.DefD := ⟨("is_number", none), "is_number", "is_number", defArgs s_is_number, defBody s_is_number, defScope s_is_number, [], []⟩
theorem sc_is_number : FnScope n_is_number p_is_number (He.DefD.scope d_is_number) := ⟨rfl, rfl, rfl, by decide +kernel, rfl, by decide +kernel, by decide +kernel⟩
abbrev s_check_cells : Stmt := (top 24)
abbrev n_check_cells : List Str := ["cells", "names", "at", "cell", "name", "many"]
abbrev p_check_cells : List Str := ["cells"]
abbrev d_check_cells : He.DefD := ⟨("check_cells", none), "check_cells", "check_cells", defArgs s_check_cells, defBody s_check_cells, defScope s_check_cells, [], []⟩
theorem sc_check_cells : FnScope n_check_cells p_check_cells (He.DefD.scope d_check_cells) := ⟨rfl, rfl, rfl, by decide +kernel, rfl, by decide +kernel, by decide +kernel⟩
abbrev s_is_row : Stmt := (top 25)
abbrev n_is_row : List Str := ["cells", "value", "sign", "cell"]
abbrev p_is_row : List Str := ["cells", "value"]
abbrev d_is_row : He.DefD := ⟨("is_row", none), "is_row", "is_row", defArgs s_is_row, defBody s_is_row, defScope s_is_row, [], []⟩
theorem sc_is_row : FnScope n_is_row p_is_row (He.DefD.scope d_is_row) := ⟨rfl, rfl, rfl, by decide +kernel, rfl, by decide +kernel, by decide +kernel⟩
abbrev s_over : Stmt := (top 26)
abbrev n_over : List Str := ["newer", "older", "sign", "below"]
abbrev p_over : List Str := ["newer", "older"]
abbrev d_over : He.DefD := ⟨("over", none), "over", "over", defArgs s_over, defBody s_over, defScope s_over, [], []⟩
theorem sc_over : FnScope n_over p_over (He.DefD.scope d_over) := ⟨rfl, rfl, rfl, by decide +kernel, rfl, by decide +kernel, by decide +kernel⟩
abbrev s_lot_of : Stmt := (top 27)
abbrev n_lot_of : List Str := ["row", "sign"]
abbrev p_lot_of : List Str := ["row"]
abbrev d_lot_of : He.DefD := ⟨("lot_of", none), "lot_of", "lot_of", defArgs s_lot_of, defBody s_lot_of, defScope s_lot_of, [], []⟩
theorem sc_lot_of : FnScope n_lot_of p_lot_of (He.DefD.scope d_lot_of) := ⟨rfl, rfl, rfl, by decide +kernel, rfl, by decide +kernel, by decide +kernel⟩
abbrev s_blank : Stmt := (top 28)
abbrev n_blank : List Str := ["many"]
abbrev p_blank : List Str := ["many"]
abbrev d_blank : He.DefD := ⟨("blank", none), "blank", "blank", defArgs s_blank, defBody s_blank, defScope s_blank, [], []⟩
theorem sc_blank : FnScope n_blank p_blank (He.DefD.scope d_blank) := ⟨rfl, rfl, rfl, by decide +kernel, rfl, by decide +kernel, by decide +kernel⟩
abbrev s_lot_size : Stmt := (top 31)
abbrev n_lot_size : List Str := ["lot"]
abbrev p_lot_size : List Str := ["lot"]
abbrev d_lot_size : He.DefD := ⟨("lot_size", none), "lot_size", "lot_size", defArgs s_lot_size, defBody s_lot_size, defScope s_lot_size, [], []⟩
theorem sc_lot_size : FnScope n_lot_size p_lot_size (He.DefD.scope d_lot_size) := ⟨rfl, rfl, rfl, by decide +kernel, rfl, by decide +kernel, by decide +kernel⟩
abbrev s_ordered_lots : Stmt := (top 32)
abbrev n_ordered_lots : List Str := ["lots"]
abbrev p_ordered_lots : List Str := ["lots"]
abbrev d_ordered_lots : He.DefD := ⟨("ordered_lots", none), "ordered_lots", "ordered_lots", defArgs s_ordered_lots, defBody s_ordered_lots, defScope s_ordered_lots, [], []⟩
theorem sc_ordered_lots : FnScope n_ordered_lots p_ordered_lots (He.DefD.scope d_ordered_lots) := ⟨rfl, rfl, rfl, by decide +kernel, rfl, by decide +kernel, by decide +kernel⟩
abbrev s_check_lumps : Stmt := (top 34)
abbrev n_check_lumps : List Str := ["band", "lumps", "full", "row", "seen", "lump"]
abbrev p_check_lumps : List Str := ["band", "lumps"]
abbrev d_check_lumps : He.DefD := ⟨("check_lumps", none), "check_lumps", "check_lumps", defArgs s_check_lumps, defBody s_check_lumps, defScope s_check_lumps, [], []⟩
theorem sc_check_lumps : FnScope n_check_lumps p_check_lumps (He.DefD.scope d_check_lumps) := ⟨rfl, rfl, rfl, by decide +kernel, rfl, by decide +kernel, by decide +kernel⟩
abbrev s_places_of : Stmt := (top 35)
abbrev n_places_of : List Str := ["lumps", "row", "at", "lump"]
abbrev p_places_of : List Str := ["lumps"]
abbrev d_places_of : He.DefD := ⟨("places_of", none), "places_of", "places_of", defArgs s_places_of, defBody s_places_of, defScope s_places_of, [], []⟩
theorem sc_places_of : FnScope n_places_of p_places_of (He.DefD.scope d_places_of) := ⟨rfl, rfl, rfl, by decide +kernel, rfl, by decide +kernel, by decide +kernel⟩
abbrev s_lumps_break : Stmt := (top 36)
abbrev n_lumps_break : List Str := ["band", "lumps", "places", "seed", "broken", "one", "there", "rest", "row"]
abbrev p_lumps_break : List Str := ["band", "lumps"]
abbrev d_lumps_break : He.DefD := ⟨("lumps_break", none), "lumps_break", "lumps_break", defArgs s_lumps_break, defBody s_lumps_break, defScope s_lumps_break, [], []⟩
theorem sc_lumps_break : FnScope n_lumps_break p_lumps_break (He.DefD.scope d_lumps_break) := ⟨rfl, rfl, rfl, by decide +kernel, rfl, by decide +kernel, by decide +kernel⟩
abbrev s_broken_rows : Stmt := (top 37)
abbrev n_broken_rows : List Str := ["seed", "lumps", "places", "broken", "lump", "there", "row"]
abbrev p_broken_rows : List Str := ["seed", "lumps", "places"]
abbrev d_broken_rows : He.DefD := ⟨("broken_rows", none), "broken_rows", "broken_rows", defArgs s_broken_rows, defBody s_broken_rows, defScope s_broken_rows, [], []⟩
theorem sc_broken_rows : FnScope n_broken_rows p_broken_rows (He.DefD.scope d_broken_rows) := ⟨rfl, rfl, rfl, by decide +kernel, rfl, by decide +kernel, by decide +kernel⟩
abbrev s_lump_of : Stmt := (top 41)
abbrev n_lump_of : List Str := ["lumps", "row"]
abbrev p_lump_of : List Str := ["lumps", "row"]
abbrev d_lump_of : He.DefD := ⟨("lump_of", none), "lump_of", "lump_of", defArgs s_lump_of, defBody s_lump_of, defScope s_lump_of, [], []⟩
theorem sc_lump_of : FnScope n_lump_of p_lump_of (He.DefD.scope d_lump_of) := ⟨rfl, rfl, rfl, by decide +kernel, rfl, by decide +kernel, by decide +kernel⟩
abbrev s_check_seeds : Stmt := (top 57)
abbrev n_check_seeds : List Str := ["cells", "seeds", "at", "seed", "cell"]
abbrev p_check_seeds : List Str := ["cells", "seeds"]
abbrev d_check_seeds : He.DefD := ⟨("check_seeds", none), "check_seeds", "check_seeds", defArgs s_check_seeds, defBody s_check_seeds, defScope s_check_seeds, [], []⟩
theorem sc_check_seeds : FnScope n_check_seeds p_check_seeds (He.DefD.scope d_check_seeds) := ⟨rfl, rfl, rfl, by decide +kernel, rfl, by decide +kernel, by decide +kernel⟩
abbrev s_grown_rows : Stmt := (top 58)
abbrev n_grown_rows : List Str := ["seeds", "first", "most", "rows", "known", "at", "seed", "row"]
abbrev p_grown_rows : List Str := ["seeds", "first", "most"]
abbrev d_grown_rows : He.DefD := ⟨("grown_rows", none), "grown_rows", "grown_rows", defArgs s_grown_rows, defBody s_grown_rows, defScope s_grown_rows, [], []⟩
theorem sc_grown_rows : FnScope n_grown_rows p_grown_rows (He.DefD.scope d_grown_rows) := ⟨rfl, rfl, rfl, by decide +kernel, rfl, by decide +kernel, by decide +kernel⟩
abbrev s_Band___init__ : Stmt := (inClass (top 59) 0)
abbrev n_Band___init__ : List Str := ["self", "cells", "seeds", "most", "rows", "row"]
abbrev p_Band___init__ : List Str := ["self", "cells", "seeds", "most"]
abbrev d_Band___init__ : He.DefD := ⟨("Band", some "__init__"), "__init__", "Band.__init__", defArgs s_Band___init__, defBody s_Band___init__, defScope s_Band___init__, [], [("most", .int 800)]⟩
theorem sc_Band___init__ : FnScope n_Band___init__ p_Band___init__ (He.DefD.scope d_Band___init__) := ⟨rfl, rfl, rfl, by decide +kernel, rfl, by decide +kernel, by decide +kernel⟩
abbrev s_Band_seeds : Stmt := (inClass (top 59) 2)
abbrev n_Band_seeds : List Str := ["self"]
abbrev p_Band_seeds : List Str := ["self"]
abbrev d_Band_seeds : He.DefD := ⟨("Band", some "seeds"), "seeds", "Band.seeds", defArgs s_Band_seeds, defBody s_Band_seeds, defScope s_Band_seeds, [], []⟩
theorem sc_Band_seeds : FnScope n_Band_seeds p_Band_seeds (He.DefD.scope d_Band_seeds) := ⟨rfl, rfl, rfl, by decide +kernel, rfl, by decide +kernel, by decide +kernel⟩
abbrev s_Band_rows : Stmt := (inClass (top 59) 4)
abbrev n_Band_rows : List Str := ["self"]
abbrev p_Band_rows : List Str := ["self"]
abbrev d_Band_rows : He.DefD := ⟨("Band", some "rows"), "rows", "Band.rows", defArgs s_Band_rows, defBody s_Band_rows, defScope s_Band_rows, [], []⟩
theorem sc_Band_rows : FnScope n_Band_rows p_Band_rows (He.DefD.scope d_Band_rows) := ⟨rfl, rfl, rfl, by decide +kernel, rfl, by decide +kernel, by decide +kernel⟩
abbrev s_Band_full_rows : Stmt := (inClass (top 59) 5)
abbrev n_Band_full_rows : List Str := ["self", "row"]
abbrev p_Band_full_rows : List Str := ["self"]
abbrev d_Band_full_rows : He.DefD := ⟨("Band", some "full_rows"), "full_rows", "Band.full_rows", defArgs s_Band_full_rows, defBody s_Band_full_rows, defScope s_Band_full_rows, [], []⟩
theorem sc_Band_full_rows : FnScope n_Band_full_rows p_Band_full_rows (He.DefD.scope d_Band_full_rows) := ⟨rfl, rfl, rfl, by decide +kernel, rfl, by decide +kernel, by decide +kernel⟩
abbrev s_BadLumps___init__ : Stmt := (inClass (top 10) 0)
abbrev n_BadLumps___init__ : List Str := ["self"]
abbrev p_BadLumps___init__ : List Str := ["self"]
abbrev d_BadLumps___init__ : He.DefD := ⟨("BadLumps", some "__init__"), "__init__", "BadLumps.__init__", defArgs s_BadLumps___init__, defBody s_BadLumps___init__, defScope s_BadLumps___init__, [], []⟩
theorem sc_BadLumps___init__ : FnScope n_BadLumps___init__ p_BadLumps___init__ (He.DefD.scope d_BadLumps___init__) := ⟨rfl, rfl, rfl, by decide +kernel, rfl, by decide +kernel, by decide +kernel⟩
abbrev s_l_start : Stmt := (top 62)
abbrev n_l_start : List Str := ["_law_script", "_law_mixed", "_law_cell"]
abbrev p_l_start : List Str := ["_law_script"]
abbrev d_l_start : He.DefD := ⟨("_law_start", none), "_law_start", "_law_start", defArgs s_l_start, defBody s_l_start, defScope s_l_start, [], []⟩
theorem sc_l_start : FnScope n_l_start p_l_start (He.DefD.scope d_l_start) := ⟨rfl, rfl, rfl, by decide +kernel, rfl, by decide +kernel, by decide +kernel⟩
abbrev s_l_pull : Stmt := (top 63)
abbrev n_l_pull : List Str := ["_law_bag", "_law_many", "_law_cell", "_law_digit", "_law_seed"]
abbrev p_l_pull : List Str := ["_law_bag", "_law_many"]
abbrev d_l_pull : He.DefD := ⟨("_law_pull", none), "_law_pull", "_law_pull", defArgs s_l_pull, defBody s_l_pull, defScope s_l_pull, [], []⟩
theorem sc_l_pull : FnScope n_l_pull p_l_pull (He.DefD.scope d_l_pull) := ⟨rfl, rfl, rfl, by decide +kernel, rfl, by decide +kernel, by decide +kernel⟩
abbrev s_l_pick : Stmt := (top 64)
abbrev n_l_pick : List Str := ["_law_bag", "_law_some"]
abbrev p_l_pick : List Str := ["_law_bag", "_law_some"]
abbrev d_l_pick : He.DefD := ⟨("_law_pick", none), "_law_pick", "_law_pick", defArgs s_l_pick, defBody s_l_pick, defScope s_l_pick, [], []⟩
theorem sc_l_pick : FnScope n_l_pick p_l_pick (He.DefD.scope d_l_pick) := ⟨rfl, rfl, rfl, by decide +kernel, rfl, by decide +kernel, by decide +kernel⟩
abbrev s_l_same : Stmt := (top 65)
abbrev n_l_same : List Str := ["_law_found", "_law_due", "_law_left", "_law_right"]
abbrev p_l_same : List Str := ["_law_found", "_law_due"]
abbrev d_l_same : He.DefD := ⟨("_law_same", none), "_law_same", "_law_same", defArgs s_l_same, defBody s_l_same, defScope s_l_same, [], []⟩
theorem sc_l_same : FnScope n_l_same p_l_same (He.DefD.scope d_l_same) := ⟨rfl, rfl, rfl, by decide +kernel, rfl, by decide +kernel, by decide +kernel⟩
abbrev s_l_odd : Stmt := (top 66)
abbrev n_l_odd : List Str := ["_law_bag", "_law_plain", "_law_deep"]
abbrev p_l_odd : List Str := ["_law_bag"]
abbrev d_l_odd : He.DefD := ⟨("_law_odd", none), "_law_odd", "_law_odd", defArgs s_l_odd, defBody s_l_odd, defScope s_l_odd, [], []⟩
theorem sc_l_odd : FnScope n_l_odd p_l_odd (He.DefD.scope d_l_odd) := ⟨rfl, rfl, rfl, by decide +kernel, rfl, by decide +kernel, by decide +kernel⟩
abbrev s_l_over : Stmt := (top 67)
abbrev n_l_over : List Str := ["_law_newer", "_law_older", "_law_sign", "_law_under"]
abbrev p_l_over : List Str := ["_law_newer", "_law_older"]
abbrev d_l_over : He.DefD := ⟨("_law_over", none), "_law_over", "_law_over", defArgs s_l_over, defBody s_l_over, defScope s_l_over, [], []⟩
theorem sc_l_over : FnScope n_l_over p_l_over (He.DefD.scope d_l_over) := ⟨rfl, rfl, rfl, by decide +kernel, rfl, by decide +kernel, by decide +kernel⟩
abbrev s_l_full : Stmt := (top 68)
abbrev n_l_full : List Str := ["_law_rows", "_law_row"]
abbrev p_l_full : List Str := ["_law_rows"]
abbrev d_l_full : He.DefD := ⟨("_law_full", none), "_law_full", "_law_full", defArgs s_l_full, defBody s_l_full, defScope s_l_full, [], []⟩
theorem sc_l_full : FnScope n_l_full p_l_full (He.DefD.scope d_l_full) := ⟨rfl, rfl, rfl, by decide +kernel, rfl, by decide +kernel, by decide +kernel⟩
abbrev s_l_closure : Stmt := (top 69)
abbrev n_l_closure : List Str := ["_law_seeds_here", "_law_size", "_law_cap", "_law_found", "_law_known", "_law_turn", "_law_seed", "_law_row"]
abbrev p_l_closure : List Str := ["_law_seeds_here", "_law_size", "_law_cap"]
abbrev d_l_closure : He.DefD := ⟨("_law_closure", none), "_law_closure", "_law_closure", defArgs s_l_closure, defBody s_l_closure, defScope s_l_closure, [], []⟩
theorem sc_l_closure : FnScope n_l_closure p_l_closure (He.DefD.scope d_l_closure) := ⟨rfl, rfl, rfl, by decide +kernel, rfl, by decide +kernel, by decide +kernel⟩
abbrev s_l_names : Stmt := (top 70)
abbrev n_l_names : List Str := ["_law_bag", "_law_many", "_law_letters", "_law_found", "_law_wide", "_law_turn", "_law_size", "_law_name", "_law_k", "_law_one"]
abbrev p_l_names : List Str := ["_law_bag", "_law_many"]
abbrev d_l_names : He.DefD := ⟨("_law_names", none), "_law_names", "_law_names", defArgs s_l_names, defBody s_l_names, defScope s_l_names, [], []⟩
theorem sc_l_names : FnScope n_l_names p_l_names (He.DefD.scope d_l_names) := ⟨rfl, rfl, rfl, by decide +kernel, rfl, by decide +kernel, by decide +kernel⟩
abbrev s_l_clean : Stmt := (top 71)
abbrev n_l_clean : List Str := ["_law_rows", "_law_some", "_law_row", "_law_k"]
abbrev p_l_clean : List Str := ["_law_rows"]
abbrev d_l_clean : He.DefD := ⟨("_law_clean", none), "_law_clean", "_law_clean", defArgs s_l_clean, defBody s_l_clean, defScope s_l_clean, [], []⟩
theorem sc_l_clean : FnScope n_l_clean p_l_clean (He.DefD.scope d_l_clean) := ⟨rfl, rfl, rfl, by decide +kernel, rfl, by decide +kernel, by decide +kernel⟩
abbrev s_l_seeds : Stmt := (top 72)
abbrev n_l_seeds : List Str := ["_law_bag", "_law_cells", "_law_found", "_law_turn", "_law_signs", "_law_at", "_law_name", "_law_many", "_law_last"]
abbrev p_l_seeds : List Str := ["_law_bag", "_law_cells"]
abbrev d_l_seeds : He.DefD := ⟨("_law_seeds", none), "_law_seeds", "_law_seeds", defArgs s_l_seeds, defBody s_l_seeds, defScope s_l_seeds, [], []⟩
theorem sc_l_seeds : FnScope n_l_seeds p_l_seeds (He.DefD.scope d_l_seeds) := ⟨rfl, rfl, rfl, by decide +kernel, rfl, by decide +kernel, by decide +kernel⟩
abbrev s_l_band : Stmt := (top 73)
abbrev n_l_band : List Str := ["_law_bag", "_law_least", "_law_high", "_law_cap", "_law_names_here", "_law_cells", "_law_name", "_law_seeds_here", "_law_size", "_law_rows", "_law_seed"]
abbrev p_l_band : List Str := ["_law_bag", "_law_least", "_law_high", "_law_cap"]
abbrev d_l_band : He.DefD := ⟨("_law_band", none), "_law_band", "_law_band", defArgs s_l_band, defBody s_l_band, defScope s_l_band, [], []⟩
theorem sc_l_band : FnScope n_l_band p_l_band (He.DefD.scope d_l_band) := ⟨rfl, rfl, rfl, by decide +kernel, rfl, by decide +kernel, by decide +kernel⟩
abbrev s_l_is_lumps : Stmt := (top 74)
abbrev n_l_is_lumps : List Str := ["_law_full_here", "_law_value", "_law_found", "_law_lump", "_law_row"]
abbrev p_l_is_lumps : List Str := ["_law_full_here", "_law_value"]
abbrev d_l_is_lumps : He.DefD := ⟨("_law_is_lumps", none), "_law_is_lumps", "_law_is_lumps", defArgs s_l_is_lumps, defBody s_l_is_lumps, defScope s_l_is_lumps, [], []⟩
theorem sc_l_is_lumps : FnScope n_l_is_lumps p_l_is_lumps (He.DefD.scope d_l_is_lumps) := ⟨rfl, rfl, rfl, by decide +kernel, rfl, by decide +kernel, by decide +kernel⟩
abbrev s_l_place : Stmt := (top 75)
abbrev n_l_place : List Str := ["_law_lumps", "_law_row", "_law_k"]
abbrev p_l_place : List Str := ["_law_lumps", "_law_row"]
abbrev d_l_place : He.DefD := ⟨("_law_place", none), "_law_place", "_law_place", defArgs s_l_place, defBody s_l_place, defScope s_l_place, [], []⟩
theorem sc_l_place : FnScope n_l_place p_l_place (He.DefD.scope d_l_place) := ⟨rfl, rfl, rfl, by decide +kernel, rfl, by decide +kernel, by decide +kernel⟩
abbrev s_l_break : Stmt := (top 76)
abbrev n_l_break : List Str := ["_law_seeds_here", "_law_full_here", "_law_lumps", "_law_seed", "_law_row", "_law_mates", "_law_led", "_law_apart", "_law_one"]
abbrev p_l_break : List Str := ["_law_seeds_here", "_law_full_here", "_law_lumps"]
abbrev d_l_break : He.DefD := ⟨("_law_break", none), "_law_break", "_law_break", defArgs s_l_break, defBody s_l_break, defScope s_l_break, [], []⟩
theorem sc_l_break : FnScope n_l_break p_l_break (He.DefD.scope d_l_break) := ⟨rfl, rfl, rfl, by decide +kernel, rfl, by decide +kernel, by decide +kernel⟩
abbrev s_l_least_lumps : Stmt := (top 77)
abbrev n_l_least_lumps : List Str := ["_law_seeds_here", "_law_full_here", "_law_pairs", "_law_name", "_law_row", "_law_todo", "_law_turn", "_law_one", "_law_other", "_law_fresh", "_law_gone", "_law_seed", "_law_found", "_law_mates"]
abbrev p_l_least_lumps : List Str := ["_law_seeds_here", "_law_full_here", "_law_pairs"]
abbrev d_l_least_lumps : He.DefD := ⟨("_law_least_lumps", none), "_law_least_lumps", "_law_least_lumps", defArgs s_l_least_lumps, defBody s_l_least_lumps, defScope s_l_least_lumps, [], []⟩
theorem sc_l_least_lumps : FnScope n_l_least_lumps p_l_least_lumps (He.DefD.scope d_l_least_lumps) := ⟨rfl, rfl, rfl, by decide +kernel, rfl, by decide +kernel, by decide +kernel⟩
abbrev s_l_drawn_pairs : Stmt := (top 78)
abbrev n_l_drawn_pairs : List Str := ["_law_bag", "_law_full_here", "_law_many", "_law_turn"]
abbrev p_l_drawn_pairs : List Str := ["_law_bag", "_law_full_here", "_law_many"]
abbrev d_l_drawn_pairs : He.DefD := ⟨("_law_drawn_pairs", none), "_law_drawn_pairs", "_law_drawn_pairs", defArgs s_l_drawn_pairs, defBody s_l_drawn_pairs, defScope s_l_drawn_pairs, [], []⟩
theorem sc_l_drawn_pairs : FnScope n_l_drawn_pairs p_l_drawn_pairs (He.DefD.scope d_l_drawn_pairs) := ⟨rfl, rfl, rfl, by decide +kernel, rfl, by decide +kernel, by decide +kernel⟩
abbrev s_l_rich_band : Stmt := (top 79)
abbrev n_l_rich_band : List Str := ["_law_bag", "_law_least", "_law_high", "_law_cap", "_law_found", "_law_turn", "_law_other"]
abbrev p_l_rich_band : List Str := ["_law_bag", "_law_least", "_law_high", "_law_cap"]
abbrev d_l_rich_band : He.DefD := ⟨("_law_rich_band", none), "_law_rich_band", "_law_rich_band", defArgs s_l_rich_band, defBody s_l_rich_band, defScope s_l_rich_band, [], []⟩
theorem sc_l_rich_band : FnScope n_l_rich_band p_l_rich_band (He.DefD.scope d_l_rich_band) := ⟨rfl, rfl, rfl, by decide +kernel, rfl, by decide +kernel, by decide +kernel⟩
abbrev s_l_told : Stmt := (top 80)
abbrev n_l_told : List Str := ["_law_band_here", "_law_pairs", "e"]
abbrev p_l_told : List Str := ["_law_band_here", "_law_pairs"]
abbrev d_l_told : He.DefD := ⟨("_law_told", none), "_law_told", "_law_told", defArgs s_l_told, defBody s_l_told, defScope s_l_told, [], []⟩
theorem sc_l_told : FnScope n_l_told p_l_told (He.DefD.scope d_l_told) := ⟨rfl, rfl, rfl, by decide +kernel, rfl, by decide +kernel, by decide +kernel⟩
abbrev s_least_lumps : Stmt := (top 38)
abbrev n_least_lumps : List Str := ["band", "pairs", "rows", "above", "row", "seeds", "waiting", "first", "second", "one", "other", "seed", "lumps"]
abbrev p_least_lumps : List Str := ["band", "pairs"]
abbrev d_least_lumps : He.DefD := ⟨("least_lumps", none), "least_lumps", "least_lumps", defArgs s_least_lumps, defBody s_least_lumps, defScope s_least_lumps, [], []⟩
theorem sc_least_lumps : FnScope n_least_lumps p_least_lumps (He.DefD.scope d_least_lumps) := ⟨rfl, rfl, rfl, by decide +kernel, rfl, by decide +kernel, by decide +kernel⟩
abbrev s_check_pairs : Stmt := (top 39)
abbrev n_check_pairs : List Str := ["rows", "pairs", "full", "row", "pair"]
abbrev p_check_pairs : List Str := ["rows", "pairs"]
abbrev d_check_pairs : He.DefD := ⟨("check_pairs", none), "check_pairs", "check_pairs", defArgs s_check_pairs, defBody s_check_pairs, defScope s_check_pairs, [], []⟩
theorem sc_check_pairs : FnScope n_check_pairs p_check_pairs (He.DefD.scope d_check_pairs) := ⟨rfl, rfl, rfl, by decide +kernel, rfl, by decide +kernel, by decide +kernel⟩
abbrev s_foremost : Stmt := (top 40)
abbrev n_foremost : List Str := ["above", "row", "least", "further"]
abbrev p_foremost : List Str := ["above", "row"]
abbrev d_foremost : He.DefD := ⟨("foremost", none), "foremost", "foremost", defArgs s_foremost, defBody s_foremost, defScope s_foremost, [], []⟩
theorem sc_foremost : FnScope n_foremost p_foremost (He.DefD.scope d_foremost) := ⟨rfl, rfl, rfl, by decide +kernel, rfl, by decide +kernel, by decide +kernel⟩
abbrev s_l_are_pairs : Stmt := (top 81)
abbrev n_l_are_pairs : List Str := ["_law_full_here", "_law_value", "_law_pair", "_law_one"]
abbrev p_l_are_pairs : List Str := ["_law_full_here", "_law_value"]
abbrev d_l_are_pairs : He.DefD := ⟨("_law_are_pairs", none), "_law_are_pairs", "_law_are_pairs", defArgs s_l_are_pairs, defBody s_l_are_pairs, defScope s_l_are_pairs, [], []⟩
theorem sc_l_are_pairs : FnScope n_l_are_pairs p_l_are_pairs (He.DefD.scope d_l_are_pairs) := ⟨rfl, rfl, rfl, by decide +kernel, rfl, by decide +kernel, by decide +kernel⟩
abbrev s_l_bent_pairs : Stmt := (top 82)
abbrev n_l_bent_pairs : List Str := ["_law_bag", "_law_full_here", "_law_pairs", "_law_one", "_law_at", "_law_some"]
abbrev p_l_bent_pairs : List Str := ["_law_bag", "_law_full_here", "_law_pairs"]
abbrev d_l_bent_pairs : He.DefD := ⟨("_law_bent_pairs", none), "_law_bent_pairs", "_law_bent_pairs", defArgs s_l_bent_pairs, defBody s_l_bent_pairs, defScope s_l_bent_pairs, [], []⟩
theorem sc_l_bent_pairs : FnScope n_l_bent_pairs p_l_bent_pairs (He.DefD.scope d_l_bent_pairs) := ⟨rfl, rfl, rfl, by decide +kernel, rfl, by decide +kernel, by decide +kernel⟩
abbrev s_l_all_partings : Stmt := (top 83)
abbrev n_l_all_partings : List Str := ["_law_full_here", "_law_found", "_law_row", "_law_more", "_law_lumps", "_law_at"]
abbrev p_l_all_partings : List Str := ["_law_full_here"]
abbrev d_l_all_partings : He.DefD := ⟨("_law_all_partings", none), "_law_all_partings", "_law_all_partings", defArgs s_l_all_partings, defBody s_l_all_partings, defScope s_l_all_partings, [], []⟩
theorem sc_l_all_partings : FnScope n_l_all_partings p_l_all_partings (He.DefD.scope d_l_all_partings) := ⟨rfl, rfl, rfl, by decide +kernel, rfl, by decide +kernel, by decide +kernel⟩
abbrev s_l_joins : Stmt := (top 84)
abbrev n_l_joins : List Str := ["_law_lumps", "_law_pairs", "_law_one", "_law_other"]
abbrev p_l_joins : List Str := ["_law_lumps", "_law_pairs"]
abbrev d_l_joins : He.DefD := ⟨("_law_joins", none), "_law_joins", "_law_joins", defArgs s_l_joins, defBody s_l_joins, defScope s_l_joins, [], []⟩
theorem sc_l_joins : FnScope n_l_joins p_l_joins (He.DefD.scope d_l_joins) := ⟨rfl, rfl, rfl, by decide +kernel, rfl, by decide +kernel, by decide +kernel⟩
abbrev s_l_within_one : Stmt := (top 85)
abbrev n_l_within_one : List Str := ["_law_lump", "_law_lumps", "_law_one"]
abbrev p_l_within_one : List Str := ["_law_lump", "_law_lumps"]
abbrev d_l_within_one : He.DefD := ⟨("_law_within_one", none), "_law_within_one", "_law_within_one", defArgs s_l_within_one, defBody s_l_within_one, defScope s_l_within_one, [], []⟩
theorem sc_l_within_one : FnScope n_l_within_one p_l_within_one (He.DefD.scope d_l_within_one) := ⟨rfl, rfl, rfl, by decide +kernel, rfl, by decide +kernel, by decide +kernel⟩
abbrev s_l_no_finer : Stmt := (top 86)
abbrev n_l_no_finer : List Str := ["_law_seeds_here", "_law_full_here", "_law_pairs", "_law_least", "_law_lumps", "_law_lump"]
abbrev p_l_no_finer : List Str := ["_law_seeds_here", "_law_full_here", "_law_pairs", "_law_least"]
abbrev d_l_no_finer : He.DefD := ⟨("_law_no_finer", none), "_law_no_finer", "_law_no_finer", defArgs s_l_no_finer, defBody s_l_no_finer, defScope s_l_no_finer, [], []⟩
theorem sc_l_no_finer : FnScope n_l_no_finer p_l_no_finer (He.DefD.scope d_l_no_finer) := ⟨rfl, rfl, rfl, by decide +kernel, rfl, by decide +kernel, by decide +kernel⟩
abbrev s_law : Stmt := (top 87)
abbrev n_law : List Str := ["_law_script", "_law_bag", "_law_cells", "_law_seeds_here", "_law_rows", "_law_full_here", "_law_band_here", "_law_turn", "_law_pairs", "_law_handed", "_law_least", "_law_found", "_law_lump", "_law_more", "_law_again", "_law_bent", "_law_one", "_law_other", "_law_row"]
abbrev p_law : List Str := ["_law_script"]
abbrev d_law : He.DefD := ⟨("law", none), "law", "law", defArgs s_law, defBody s_law, defScope s_law, [], []⟩
theorem sc_law : FnScope n_law p_law (He.DefD.scope d_law) := ⟨rfl, rfl, rfl, by decide +kernel, rfl, by decide +kernel, by decide +kernel⟩
def fn_0 : List He.DefD := [d_is_name, d_is_number, d_check_cells, d_is_row, d_over, d_lot_of, d_blank, d_lot_size, d_ordered_lots, d_check_lumps, d_places_of, d_lumps_break, d_broken_rows, d_lump_of, d_check_seeds, d_grown_rows, d_Band___init__, d_Band_seeds, d_Band_rows, d_Band_full_rows, d_BadLumps___init__, d_l_start, d_l_pull, d_l_pick, d_l_same, d_l_odd, d_l_over, d_l_full, d_l_closure, d_l_names]
def fn_1 : List He.DefD := [d_l_clean, d_l_seeds, d_l_band, d_l_is_lumps, d_l_place, d_l_break, d_l_least_lumps, d_l_drawn_pairs, d_l_rich_band, d_l_told, d_least_lumps, d_check_pairs, d_foremost, d_l_are_pairs, d_l_bent_pairs, d_l_all_partings, d_l_joins, d_l_within_one, d_l_no_finer, d_law]
def fn : List He.DefD := fn_0 ++ fn_1
def fa_0 : List He.Fa := [.glo "is_name", .glo "is_number", .glo "check_cells", .glo "is_row", .glo "over", .glo "lot_of", .glo "blank", .glo "lot_size", .glo "ordered_lots", .glo "check_lumps", .glo "places_of", .glo "lumps_break", .glo "broken_rows", .glo "lump_of", .glo "check_seeds", .glo "grown_rows", .glo "_law_start", .glo "_law_pull", .glo "_law_pick", .glo "_law_same", .glo "_law_odd", .glo "_law_over", .glo "_law_full", .glo "_law_closure", .glo "_law_names", .glo "_law_clean", .glo "_law_seeds", .glo "_law_band", .glo "_law_is_lumps", .glo "_law_place"]
def fa_1 : List He.Fa := [.glo "_law_break", .glo "_law_least_lumps", .glo "_law_drawn_pairs", .glo "_law_rich_band", .glo "_law_told", .glo "least_lumps", .glo "check_pairs", .glo "foremost", .glo "_law_are_pairs", .glo "_law_bent_pairs", .glo "_law_all_partings", .glo "_law_joins", .glo "_law_within_one", .glo "_law_no_finer", .glo "law", .free "all", .free "any", .free "bool", .free "dict", .free "enumerate", .free "int", .free "isinstance", .free "len", .free "list", .free "max", .free "min", .free "range", .free "set", .free "sorted", .free "str"]
def fa_2 : List He.Fa := [.free "tuple", .free "zip", .str "LETTERS" "abcdefghijklmnopqrstuvwxyz", .int "MOST_CELLS" 12, .int "MOST_ROWS" 800, .int "MOST_SEEDS" 30, .int "MOST_VALUES" 4, .glo "Band", .cls "Band", .mkr "Band", .noat "Band" "cell_list", .noat "Band" "seed_list", .noat "Band" "row_list", .noat "Band" "known_rows", .noat "Band" "lot_list", .meth "Band" "seeds", .meth "Band" "rows", .meth "Band" "full_rows", .glo "BadLumps", .noat "BadLumps" "code", .exm "BadLumps" "BadLumps" true]
def fa : List He.Fa := fa_0 ++ fa_1 ++ fa_2
def exs : List Str := ["BadLumps"]
/-! ### what the head tells -/
/-- an own error over ValueError, with its own __init__ -/
def oexB (K : PySem.W.Frag) (x : Str) : Bool := (match K.lookup (He.ga K x) with
  | some ⟨.type "type", _, .cls cd, sl⟩ => (match cd.mro, sl.toList with
    | .ref C' :: bm, [_, _, _, _, some (.builtin n), _] => C' == He.ga K x && (n == "ValueError.__new__" && (!cd.hasDel && (cd.hasDict && PySem.HandSPX.refsVE bm)))
    | _, _ => false)
  | _ => false) && (decide (PySem.W.findIn K (.ref (He.ga K x)) "__setattr__" = some (some (.builtin "object.__setattr__"))) &&
    (decide (PySem.W.subIn K (.ref (He.ga K x)) (.type "BaseException") = some true) && (decide (PySem.W.typeIn K (.ref (He.ga K x)) = some (.type "type")) && (PySem.W.keepIn K (.ref (He.ga K x)) &&
    (decide (PySem.W.findIn K (.ref (He.ga K x)) "__init__" = some (some (.ref (He.fAd K (x, some "__init__"))))) && (decide (PySem.W.typeIn K (.ref (He.fAd K (x, some "__init__"))) = some (.type "function")) && xfB K (He.ga K x)))))))
structure Oex (K : PySem.W.Frag) (x : Str) : Prop where
  oc : OexC K (He.ga K x)
  ic : PySem.W.findIn K (.ref (He.ga K x)) "__init__" = some (some (.ref (He.fAd K (x, some "__init__"))))
  ti : PySem.W.typeIn K (.ref (He.fAd K (x, some "__init__"))) = some (.type "function")
  xf : XfC K (He.ga K x)
theorem oexB_ok {K : PySem.W.Frag} {x : Str} (h : oexB K x = true) : Oex K x := by
  unfold oexB at h
  obtain ⟨h0, h⟩ := He.ba h
  obtain ⟨h1, h⟩ := He.ba h
  obtain ⟨h2, h⟩ := He.ba h
  obtain ⟨h3, h⟩ := He.ba h
  obtain ⟨h4, h⟩ := He.ba h
  obtain ⟨h5, h⟩ := He.ba h
  obtain ⟨h6, h7⟩ := He.ba h
  refine ⟨⟨?_, of_decide_eq_true h1, of_decide_eq_true h2, of_decide_eq_true h3, h4⟩, of_decide_eq_true h5, of_decide_eq_true h6, xfB_ok h7⟩
  split at h0
  · rename_i dd cd sl ho
    split at h0
    · rename_i C' bm k0 k1 k2 k3 n k5 hm hs
      obtain ⟨a1, a⟩ := He.ba h0
      obtain ⟨a2, a⟩ := He.ba a
      obtain ⟨a3, a⟩ := He.ba a
      obtain ⟨a4, a5⟩ := He.ba a
      obtain ⟨nm, bs, mro, ns, qn, hd, sn, sub, ab, col, del⟩ := cd
      dsimp only at hm a3 a4
      obtain rfl := beq_iff_eq.mp a1
      obtain rfl := beq_iff_eq.mp a2
      subst hm a4
      have ed : del = false := by cases del with
        | false => rfl
        | true => cases a3
      subst ed
      have hsl : sl = #[k0, k1, k2, k3, some (.builtin "ValueError.__new__"), k5] := by
        obtain ⟨l⟩ := sl
        simp only at hs
        rw [hs]
      subst hsl
      exact ⟨nm, qn, ns, bs, bm, sn, sub, ab, col, dd, k0, k1, k2, k3, k5, ho, a5⟩
    · cases h0
  · cases h0
/-- the Hook: the facts, the defs, the errors -/
abbrev AlX : Type := Bool × He.AlD
def obsX (K : PySem.W.Frag) : AlX := (exs.all fun x => oexB K x, He.obsD fa fn K)
def valX : AlX := (true, He.valD fn)
def SaysX (K : PySem.W.Frag) : Prop := obsX K = valX
def obsXG (n : Nat) (g : Addr → Option Obj) : AlX := obsX (He.frG g (He.asD g n))
def hookX (n : Nat) : PySem.W.Hook where
  α := AlX
  obs := fun s => obsXG n s.heap.get?
  val := fun _ => valX
  says := fun _ h => ∃ K : PySem.W.Frag, K.In h ∧ SaysX K
  of := fun _ _ e => ⟨_, He.frG_in, e⟩
  keeps := fun _ _ _ ⟨K, hK, c⟩ k => ⟨K, PySem.W.Frag.In.keeps hK k, c⟩
theorem obsXG_eq {n : Nat} {g : Addr → Option Obj} {s : Shared} (h : ∀ a, g a = s.heap.get? a) : obsXG n g = (hookX n).obs s := by
  have e : g = s.heap.get? := funext h
  rw [e]
  rfl
/-- the names of the text, by what the head tells -/
structure Tx (K : PySem.W.Frag) (mg : Str → Option Value) : Prop where
  says : He.SaysD fa fn K
  exc : ∀ x ∈ exs, Oex K x
  glo : ∀ {x : Str}, (He.Fa.glo x).ok K = true → mg x = some (.ref (He.ga K x))
  free : ∀ {x : Str}, (He.Fa.free x).ok K = true → mg x = none
  int : ∀ {x : Str} {i : Int}, (He.Fa.int x i).ok K = true → ∃ t, mg x = some (.int i t)
  str : ∀ {x z : Str}, (He.Fa.str x z).ok K = true → ∃ t, mg x = some (.str z t)
theorem Tx.of {K : PySem.W.Frag} {h : Heap} {mg : Str → Option Value} (X : K.In h) (G : h.Ns mainGlobals mg) (c : SaysX K) : Tx K mg :=
  ⟨congrArg (fun z : AlX => z.2) c, fun x hx => oexB_ok (List.all_eq_true.mp (show (exs.all fun x => oexB K x) = true from congrArg (fun z : AlX => z.1) c) x hx),
    fun c => He.glo_ok X G c, fun c => He.free_ok X G c, fun c => He.int_ok X G c, fun c => He.str_ok X G c⟩
theorem Tx.fact {K : PySem.W.Frag} {mg : Str → Option Value} (T : Tx K mg) (i : Nat) {f : He.Fa} (h : fa[i]? = some f) : f.ok K = true := He.SaysD.fact T.says i h
theorem Tx.def_ {K : PySem.W.Frag} {mg : Str → Option Value} (T : Tx K mg) (i : Nat) {d : He.DefD} (h : fn[i]? = some d) :
    ∃ fd, FunD K d.name d.qual d.params d.body d.scope (d.dvs K) (d.kws K) (He.fAd K d.at_) fd := He.SaysD.def_ T.says i h
section
variable {K : PySem.W.Frag} {mg : Str → Option Value}
theorem Tx.m_is_name (T : Tx K mg) : mg "is_name" = some (.ref (He.fAd K (He.DefD.at_ d_is_name))) := T.glo (T.fact 0 rfl)
theorem Tx.m_is_number (T : Tx K mg) : mg "is_number" = some (.ref (He.fAd K (He.DefD.at_ d_is_number))) := T.glo (T.fact 1 rfl)
theorem Tx.m_check_cells (T : Tx K mg) : mg "check_cells" = some (.ref (He.fAd K (He.DefD.at_ d_check_cells))) := T.glo (T.fact 2 rfl)
theorem Tx.m_is_row (T : Tx K mg) : mg "is_row" = some (.ref (He.fAd K (He.DefD.at_ d_is_row))) := T.glo (T.fact 3 rfl)
theorem Tx.m_over (T : Tx K mg) : mg "over" = some (.ref (He.fAd K (He.DefD.at_ d_over))) := T.glo (T.fact 4 rfl)
theorem Tx.m_lot_of (T : Tx K mg) : mg "lot_of" = some (.ref (He.fAd K (He.DefD.at_ d_lot_of))) := T.glo (T.fact 5 rfl)
theorem Tx.m_blank (T : Tx K mg) : mg "blank" = some (.ref (He.fAd K (He.DefD.at_ d_blank))) := T.glo (T.fact 6 rfl)
theorem Tx.m_lot_size (T : Tx K mg) : mg "lot_size" = some (.ref (He.fAd K (He.DefD.at_ d_lot_size))) := T.glo (T.fact 7 rfl)
theorem Tx.m_ordered_lots (T : Tx K mg) : mg "ordered_lots" = some (.ref (He.fAd K (He.DefD.at_ d_ordered_lots))) := T.glo (T.fact 8 rfl)
theorem Tx.m_check_lumps (T : Tx K mg) : mg "check_lumps" = some (.ref (He.fAd K (He.DefD.at_ d_check_lumps))) := T.glo (T.fact 9 rfl)
theorem Tx.m_places_of (T : Tx K mg) : mg "places_of" = some (.ref (He.fAd K (He.DefD.at_ d_places_of))) := T.glo (T.fact 10 rfl)
theorem Tx.m_lumps_break (T : Tx K mg) : mg "lumps_break" = some (.ref (He.fAd K (He.DefD.at_ d_lumps_break))) := T.glo (T.fact 11 rfl)
theorem Tx.m_broken_rows (T : Tx K mg) : mg "broken_rows" = some (.ref (He.fAd K (He.DefD.at_ d_broken_rows))) := T.glo (T.fact 12 rfl)
theorem Tx.m_lump_of (T : Tx K mg) : mg "lump_of" = some (.ref (He.fAd K (He.DefD.at_ d_lump_of))) := T.glo (T.fact 13 rfl)
theorem Tx.m_check_seeds (T : Tx K mg) : mg "check_seeds" = some (.ref (He.fAd K (He.DefD.at_ d_check_seeds))) := T.glo (T.fact 14 rfl)
theorem Tx.m_grown_rows (T : Tx K mg) : mg "grown_rows" = some (.ref (He.fAd K (He.DefD.at_ d_grown_rows))) := T.glo (T.fact 15 rfl)
theorem Tx.m_l_start (T : Tx K mg) : mg "_law_start" = some (.ref (He.fAd K (He.DefD.at_ d_l_start))) := T.glo (T.fact 16 rfl)
theorem Tx.m_l_pull (T : Tx K mg) : mg "_law_pull" = some (.ref (He.fAd K (He.DefD.at_ d_l_pull))) := T.glo (T.fact 17 rfl)
theorem Tx.m_l_pick (T : Tx K mg) : mg "_law_pick" = some (.ref (He.fAd K (He.DefD.at_ d_l_pick))) := T.glo (T.fact 18 rfl)
theorem Tx.m_l_same (T : Tx K mg) : mg "_law_same" = some (.ref (He.fAd K (He.DefD.at_ d_l_same))) := T.glo (T.fact 19 rfl)
theorem Tx.m_l_odd (T : Tx K mg) : mg "_law_odd" = some (.ref (He.fAd K (He.DefD.at_ d_l_odd))) := T.glo (T.fact 20 rfl)
theorem Tx.m_l_over (T : Tx K mg) : mg "_law_over" = some (.ref (He.fAd K (He.DefD.at_ d_l_over))) := T.glo (T.fact 21 rfl)
theorem Tx.m_l_full (T : Tx K mg) : mg "_law_full" = some (.ref (He.fAd K (He.DefD.at_ d_l_full))) := T.glo (T.fact 22 rfl)
theorem Tx.m_l_closure (T : Tx K mg) : mg "_law_closure" = some (.ref (He.fAd K (He.DefD.at_ d_l_closure))) := T.glo (T.fact 23 rfl)
theorem Tx.m_l_names (T : Tx K mg) : mg "_law_names" = some (.ref (He.fAd K (He.DefD.at_ d_l_names))) := T.glo (T.fact 24 rfl)
theorem Tx.m_l_clean (T : Tx K mg) : mg "_law_clean" = some (.ref (He.fAd K (He.DefD.at_ d_l_clean))) := T.glo (T.fact 25 rfl)
theorem Tx.m_l_seeds (T : Tx K mg) : mg "_law_seeds" = some (.ref (He.fAd K (He.DefD.at_ d_l_seeds))) := T.glo (T.fact 26 rfl)
theorem Tx.m_l_band (T : Tx K mg) : mg "_law_band" = some (.ref (He.fAd K (He.DefD.at_ d_l_band))) := T.glo (T.fact 27 rfl)
theorem Tx.m_l_is_lumps (T : Tx K mg) : mg "_law_is_lumps" = some (.ref (He.fAd K (He.DefD.at_ d_l_is_lumps))) := T.glo (T.fact 28 rfl)
theorem Tx.m_l_place (T : Tx K mg) : mg "_law_place" = some (.ref (He.fAd K (He.DefD.at_ d_l_place))) := T.glo (T.fact 29 rfl)
theorem Tx.m_l_break (T : Tx K mg) : mg "_law_break" = some (.ref (He.fAd K (He.DefD.at_ d_l_break))) := T.glo (T.fact 30 rfl)
theorem Tx.m_l_least_lumps (T : Tx K mg) : mg "_law_least_lumps" = some (.ref (He.fAd K (He.DefD.at_ d_l_least_lumps))) := T.glo (T.fact 31 rfl)
theorem Tx.m_l_drawn_pairs (T : Tx K mg) : mg "_law_drawn_pairs" = some (.ref (He.fAd K (He.DefD.at_ d_l_drawn_pairs))) := T.glo (T.fact 32 rfl)
theorem Tx.m_l_rich_band (T : Tx K mg) : mg "_law_rich_band" = some (.ref (He.fAd K (He.DefD.at_ d_l_rich_band))) := T.glo (T.fact 33 rfl)
theorem Tx.m_l_told (T : Tx K mg) : mg "_law_told" = some (.ref (He.fAd K (He.DefD.at_ d_l_told))) := T.glo (T.fact 34 rfl)
theorem Tx.m_least_lumps (T : Tx K mg) : mg "least_lumps" = some (.ref (He.fAd K (He.DefD.at_ d_least_lumps))) := T.glo (T.fact 35 rfl)
theorem Tx.m_check_pairs (T : Tx K mg) : mg "check_pairs" = some (.ref (He.fAd K (He.DefD.at_ d_check_pairs))) := T.glo (T.fact 36 rfl)
theorem Tx.m_foremost (T : Tx K mg) : mg "foremost" = some (.ref (He.fAd K (He.DefD.at_ d_foremost))) := T.glo (T.fact 37 rfl)
theorem Tx.m_l_are_pairs (T : Tx K mg) : mg "_law_are_pairs" = some (.ref (He.fAd K (He.DefD.at_ d_l_are_pairs))) := T.glo (T.fact 38 rfl)
theorem Tx.m_l_bent_pairs (T : Tx K mg) : mg "_law_bent_pairs" = some (.ref (He.fAd K (He.DefD.at_ d_l_bent_pairs))) := T.glo (T.fact 39 rfl)
theorem Tx.m_l_all_partings (T : Tx K mg) : mg "_law_all_partings" = some (.ref (He.fAd K (He.DefD.at_ d_l_all_partings))) := T.glo (T.fact 40 rfl)
theorem Tx.m_l_joins (T : Tx K mg) : mg "_law_joins" = some (.ref (He.fAd K (He.DefD.at_ d_l_joins))) := T.glo (T.fact 41 rfl)
theorem Tx.m_l_within_one (T : Tx K mg) : mg "_law_within_one" = some (.ref (He.fAd K (He.DefD.at_ d_l_within_one))) := T.glo (T.fact 42 rfl)
theorem Tx.m_l_no_finer (T : Tx K mg) : mg "_law_no_finer" = some (.ref (He.fAd K (He.DefD.at_ d_l_no_finer))) := T.glo (T.fact 43 rfl)
theorem Tx.m_law (T : Tx K mg) : mg "law" = some (.ref (He.fAd K (He.DefD.at_ d_law))) := T.glo (T.fact 44 rfl)
theorem Tx.b_all (T : Tx K mg) : mg "all" = none := T.free (T.fact 45 rfl)
theorem Tx.b_any (T : Tx K mg) : mg "any" = none := T.free (T.fact 46 rfl)
theorem Tx.b_bool (T : Tx K mg) : mg "bool" = none := T.free (T.fact 47 rfl)
theorem Tx.b_dict (T : Tx K mg) : mg "dict" = none := T.free (T.fact 48 rfl)
theorem Tx.b_enumerate (T : Tx K mg) : mg "enumerate" = none := T.free (T.fact 49 rfl)
theorem Tx.b_int (T : Tx K mg) : mg "int" = none := T.free (T.fact 50 rfl)
theorem Tx.b_isinstance (T : Tx K mg) : mg "isinstance" = none := T.free (T.fact 51 rfl)
theorem Tx.b_len (T : Tx K mg) : mg "len" = none := T.free (T.fact 52 rfl)
theorem Tx.b_list (T : Tx K mg) : mg "list" = none := T.free (T.fact 53 rfl)
theorem Tx.b_max (T : Tx K mg) : mg "max" = none := T.free (T.fact 54 rfl)
theorem Tx.b_min (T : Tx K mg) : mg "min" = none := T.free (T.fact 55 rfl)
theorem Tx.b_range (T : Tx K mg) : mg "range" = none := T.free (T.fact 56 rfl)
theorem Tx.b_set (T : Tx K mg) : mg "set" = none := T.free (T.fact 57 rfl)
theorem Tx.b_sorted (T : Tx K mg) : mg "sorted" = none := T.free (T.fact 58 rfl)
theorem Tx.b_str (T : Tx K mg) : mg "str" = none := T.free (T.fact 59 rfl)
theorem Tx.b_tuple (T : Tx K mg) : mg "tuple" = none := T.free (T.fact 60 rfl)
theorem Tx.b_zip (T : Tx K mg) : mg "zip" = none := T.free (T.fact 61 rfl)
theorem Tx.m_LETTERS (T : Tx K mg) : ∃ t, mg "LETTERS" = some (.str "abcdefghijklmnopqrstuvwxyz" t) := T.str (T.fact 62 rfl)
theorem Tx.m_MOST_CELLS (T : Tx K mg) : ∃ t, mg "MOST_CELLS" = some (.int 12 t) := T.int (T.fact 63 rfl)
theorem Tx.m_MOST_ROWS (T : Tx K mg) : ∃ t, mg "MOST_ROWS" = some (.int 800 t) := T.int (T.fact 64 rfl)
theorem Tx.m_MOST_SEEDS (T : Tx K mg) : ∃ t, mg "MOST_SEEDS" = some (.int 30 t) := T.int (T.fact 65 rfl)
theorem Tx.m_MOST_VALUES (T : Tx K mg) : ∃ t, mg "MOST_VALUES" = some (.int 4 t) := T.int (T.fact 66 rfl)
theorem Tx.m_Band (T : Tx K mg) : mg "Band" = some (.ref (He.ga K "Band")) := T.glo (T.fact 67 rfl)
theorem Tx.c_Band (T : Tx K mg) : Cls K (He.ga K "Band") := He.cls_ok (T.fact 68 rfl)
theorem Tx.mk_Band (T : Tx K mg) : Mk K (He.ga K "Band") (He.fAd K ("Band", some "__init__")) := He.mkr_ok (T.fact 69 rfl)
theorem Tx.n_Band_cell_list (T : Tx K mg) : NoAttr K (He.ga K "Band") "cell_list" := He.noat_ok (T.fact 70 rfl)
theorem Tx.n_Band_seed_list (T : Tx K mg) : NoAttr K (He.ga K "Band") "seed_list" := He.noat_ok (T.fact 71 rfl)
theorem Tx.n_Band_row_list (T : Tx K mg) : NoAttr K (He.ga K "Band") "row_list" := He.noat_ok (T.fact 72 rfl)
theorem Tx.n_Band_known_rows (T : Tx K mg) : NoAttr K (He.ga K "Band") "known_rows" := He.noat_ok (T.fact 73 rfl)
theorem Tx.n_Band_lot_list (T : Tx K mg) : NoAttr K (He.ga K "Band") "lot_list" := He.noat_ok (T.fact 74 rfl)
theorem Tx.Band_seeds (T : Tx K mg) : Meth K (He.ga K "Band") "seeds" (He.fAd K ("Band", some "seeds")) := He.meth_ok (T.fact 75 rfl)
theorem Tx.Band_rows (T : Tx K mg) : Meth K (He.ga K "Band") "rows" (He.fAd K ("Band", some "rows")) := He.meth_ok (T.fact 76 rfl)
theorem Tx.Band_full_rows (T : Tx K mg) : Meth K (He.ga K "Band") "full_rows" (He.fAd K ("Band", some "full_rows")) := He.meth_ok (T.fact 77 rfl)
theorem Tx.m_BadLumps (T : Tx K mg) : mg "BadLumps" = some (.ref (He.ga K "BadLumps")) := T.glo (T.fact 78 rfl)
theorem Tx.n_BadLumps_code (T : Tx K mg) : NoAttr K (He.ga K "BadLumps") "code" := He.noat_ok (T.fact 79 rfl)
theorem Tx.x_BadLumps (T : Tx K mg) : PySem.W.exmOne K (.ref (He.ga K "BadLumps")) (.ref (He.ga K "BadLumps")) = some true := He.exm_ok (T.fact 80 rfl)
end
end Nt
namespace Nt
open PySem PySem.Spec PyProof.Rows L2
/-! The head: the top's run, and what is looked at behind it. -/
def frL {α : Type} : List Addr → (List Addr → α) → α
  | [], k => k []
  | a :: r, k => HandSHeadRun.frNat a fun a => frL r fun r => k (a :: r)
theorem frL_eq {α : Type} : ∀ (l : List Addr) (k : List Addr → α), frL l k = k l
  | [], _ => rfl
  | a :: r, k => by
    show (HandSHeadRun.frNat a fun a => frL r fun r => k (a :: r)) = _
    rw [HandSHeadRun.frNat_eq, frL_eq r]
def gnN_0 : List Str := ["is_name", "is_number", "check_cells", "is_row", "over", "lot_of", "blank", "lot_size", "ordered_lots", "check_lumps", "places_of", "lumps_break", "broken_rows", "lump_of", "check_seeds", "grown_rows", "_law_start", "_law_pull", "_law_pick", "_law_same", "_law_odd", "_law_over", "_law_full", "_law_closure", "_law_names", "_law_clean", "_law_seeds", "_law_band", "_law_is_lumps", "_law_place"]
def gnN_1 : List Str := ["_law_break", "_law_least_lumps", "_law_drawn_pairs", "_law_rich_band", "_law_told", "least_lumps", "check_pairs", "foremost", "_law_are_pairs", "_law_bent_pairs", "_law_all_partings", "_law_joins", "_law_within_one", "_law_no_finer", "law", "Band", "BadLumps", "TellsError"]
def gnN : List Str := gnN_0 ++ gnN_1
def refsAt (g : Addr → Option Obj) (a : Addr) : List Addr := match g a with
  | some o => He.refsD o
  | none => []
def msN : List (Str × Str) := [("Band", "__init__"), ("Band", "seeds"), ("Band", "rows"), ("Band", "full_rows"), ("BadLumps", "__init__")]
/-- the addresses that the facts look at -/
def asY {α : Type} (g : Addr → Option Obj) (k : List Addr → α) : α :=
  frL (gnN.map (He.ga (He.frG g [mainGlobals]))) fun A1 => frL (A1.flatMap (refsAt g)) fun A2 =>
    frL (msN.map fun p => He.ma (He.frG g (mainGlobals :: (A1 ++ A2))) (He.ga (He.frG g [mainGlobals]) p.1) p.2) fun A3 => frL (A3.flatMap (refsAt g)) fun A4 =>
      k (mainGlobals :: (A1 ++ (A2 ++ (A3 ++ A4))))
theorem asY_eq (g : Addr → Option Obj) : ∃ l, ∀ {α : Type} (k : List Addr → α), asY g k = k l := ⟨_, fun k => by
  unfold asY
  rw [frL_eq, frL_eq, frL_eq, frL_eq]⟩
def obsYG (g : Addr → Option Obj) : AlX := asY g fun as => obsX (He.frG g as)
def hookY : PySem.W.Hook where
  α := AlX
  obs := fun s => obsYG s.heap.get?
  val := fun _ => valX
  says := fun _ h => ∃ K : PySem.W.Frag, K.In h ∧ SaysX K
  of := fun _ s e => by
    obtain ⟨l, hl⟩ := asY_eq s.heap.get?
    refine ⟨_, He.frG_in (as := l), ?_⟩
    have e' : asY s.heap.get? (fun as => obsX (He.frG s.heap.get? as)) = valX := e
    rw [hl] at e'
    exact e'
  keeps := fun _ _ _ ⟨K, hK, c⟩ k => ⟨K, PySem.W.Frag.In.keeps hK k, c⟩
theorem obsYG_eq {g : Addr → Option Obj} {s : Shared} (h : ∀ a, g a = s.heap.get? a) : obsYG g = hookY.obs s := by
  have e : g = s.heap.get? := funext h
  rw [e]
  rfl
abbrev R : PySem.W.OpenRow := PySem.W.OpenLaw.row PySem.Challenge.rw_newesttells_k91_whole_least_lumps
def ob (s : PySem.W.SharedT) : AlX := obsYG (HandSHeadRun.getT s)
theorem ob_eq (s : PySem.W.SharedT) : ob s = hookY.obs s.abs := obsYG_eq (HandSHeadRun.getT_eq s)
def loose_0 : List PySem.Str := ["_wall", "__name__", "TellsError", "BadCells", "BadSeed", "BadRow", "BadNumber", "TooMany", "Untold", "IsFull", "BadLumps", "InvalidText", "Missing", "UnknownCell", "NotInBand", "LETTERS", "is_name", "is_number", "MOST_ROWS", "MOST_SEEDS", "MOST_CELLS", "MOST_VALUES", "check_cells", "is_row", "over", "lot_of", "blank", "union", "cut", "lot_size"]
def loose_1 : List PySem.Str := ["ordered_lots", "check_lumps", "places_of", "lumps_break", "broken_rows", "least_lumps", "check_pairs", "foremost", "lump_of", "COUNTS", "cell_of", "seed_of", "leading_cells", "leading_seeds", "new_places", "can_take", "first_to_take", "taking", "bar_lines", "come", "come_coming", "check_seeds", "grown_rows", "Band", "cut_band", "_law_start", "_law_pull", "_law_pick", "_law_same", "_law_odd"]
def loose_2 : List PySem.Str := ["_law_over", "_law_full", "_law_closure", "_law_names", "_law_clean", "_law_seeds", "_law_band", "_law_is_lumps", "_law_place", "_law_break", "_law_least_lumps", "_law_drawn_pairs", "_law_rich_band", "_law_told", "_law_are_pairs", "_law_bent_pairs", "_law_all_partings", "_law_joins", "_law_within_one", "_law_no_finer"]
def loose : List PySem.Str := loose_0 ++ loose_1 ++ loose_2
theorem run (w : World) : HandSHeadRun.RunEq R (PySem.W.view R.prog [87]) hookY ob 9000 loose w := by
  intro os
  kernel_rfl
end Nt
/-! The part of the heap that is laid down for good (M) beside the whole heap (H); data that stand in M; the steps that a body takes. -/
namespace Nt
open PySem PySem.Spec PyProof.Rows L2
/-! ### steps -/
/-- from (M, H) to (M', H'): M grows by new objects alone, H keeps all but what ex names -/
structure Stp (ex : Addr → Prop) (M H M' H' : Hp) : Prop where
  mm : Same M M'
  mh : Same M' H'
  hh : ∀ a o, ¬ ex a → H a = some o → H' a = some o
  fr : ∀ a, M a = none → H a ≠ none → M' a = none
  th : ∀ a, H a ≠ none → H' a ≠ none
abbrev no : Addr → Prop := fun _ => False
theorem Stp.refl {ex : Addr → Prop} {M H : Hp} (s : Same M H) : Stp ex M H M H := ⟨Same.refl M, s, fun _ _ _ e => e, fun _ e _ => e, fun _ e => e⟩
theorem Stp.trans {ex : Addr → Prop} {M H M1 H1 M2 H2 : Hp} (a : Stp ex M H M1 H1) (b : Stp ex M1 H1 M2 H2) : Stp ex M H M2 H2 :=
  ⟨a.mm.trans b.mm, b.mh, fun x o n e => b.hh x o n (a.hh x o n e), fun x e n => b.fr x (a.fr x e n) (a.th x n), fun x n => b.th x (a.th x n)⟩
theorem Stp.wide {ex ex' : Addr → Prop} {M H M' H' : Hp} (a : Stp ex M H M' H') (h : ∀ x, ex x → ex' x) : Stp ex' M H M' H' := ⟨a.mm, a.mh, fun x o n e => a.hh x o (fun z => n (h x z)) e, a.fr, a.th⟩
theorem Stp.of {ex : Addr → Prop} {M H M' H' : Hp} (a : Stp no M H M' H') : Stp ex M H M' H' := a.wide fun _ z => z.elim
theorem none_of_same {M H : Hp} {p : Addr} (s : Same M H) (h : H p = none) : M p = none := by
  cases e : M p with
  | none => rfl
  | some o => rw [s p o e] at h; cases h
theorem Stp.hfree {ex : Addr → Prop} {M H M' H' : Hp} (a : Stp ex M H M' H') {p : Addr} (h : H' p = none) : H p = none := by
  cases e : H p with
  | none => rfl
  | some o => exact absurd h (a.th p (by rw [e]; exact Option.some_ne_none o))
theorem Stp.mfree {ex : Addr → Prop} {M H M' H' : Hp} (a : Stp ex M H M' H') {p : Addr} (h : H' p = none) : M' p = none := none_of_same a.mh h
theorem Stp.same {M H M' H' : Hp} (a : Stp no M H M' H') : Same H H' := fun x o e => a.hh x o (fun z => z) e
/-- a new object, laid down for good -/
theorem Stp.lay {ex : Addr → Prop} {M0 H0 M H : Hp} (S : Stp ex M0 H0 M H) {p : Addr} (o : HO) (hp : H p = none) : Stp ex M0 H0 (upd M p o) (upd H p o) := by
  have mp := S.mfree hp
  refine ⟨fun a u e => ?_, fun a u e => ?_, fun a u n e => ?_, fun a e n => ?_, fun a n => ?_⟩
  · rw [upd_ne (ne_of_none (S.mm a u e) mp)]; exact S.mm a u e
  · by_cases q : a = p
    · subst q; rw [upd_same] at e ⊢; exact e
    · rw [upd_ne q] at e ⊢; exact S.mh a u e
  · rw [upd_ne (ne_of_none (S.hh a u n e) hp)]; exact S.hh a u n e
  · have q : a ≠ p := fun z => absurd (S.hfree hp) (by rw [← z]; exact n)
    rw [upd_ne q]; exact S.fr a e n
  · by_cases q : a = p
    · subst q; rw [upd_same]; exact Option.some_ne_none o
    · rw [upd_ne q]; exact S.th a n
/-- a new object that will still change -/
theorem Stp.new {ex : Addr → Prop} {M0 H0 M H : Hp} (S : Stp ex M0 H0 M H) {p : Addr} (o : HO) (hp : H p = none) : Stp ex M0 H0 M (upd H p o) := by
  have mp := S.mfree hp
  refine ⟨S.mm, fun a u e => ?_, fun a u n e => ?_, S.fr, fun a n => ?_⟩
  · rw [upd_ne (ne_of_none e mp)]; exact S.mh a u e
  · rw [upd_ne (ne_of_none (S.hh a u n e) hp)]; exact S.hh a u n e
  · by_cases q : a = p
    · subst q; rw [upd_same]; exact Option.some_ne_none o
    · rw [upd_ne q]; exact S.th a n
/-- an object of one's own (or one that may change) changes -/
theorem Stp.put {ex : Addr → Prop} {M0 H0 M H : Hp} (S : Stp ex M0 H0 M H) {p : Addr} (o : HO) (mp : M p = none) (hp : H0 p = none ∨ ex p) : Stp ex M0 H0 M (upd H p o) := by
  refine ⟨S.mm, fun a u e => ?_, fun a u n e => ?_, S.fr, fun a n => ?_⟩
  · rw [upd_ne (ne_of_none e mp)]; exact S.mh a u e
  · have q : a ≠ p := fun z => by
      subst z
      rcases hp with w | w
      · rw [w] at e; cases e
      · exact n w
    rw [upd_ne q]; exact S.hh a u n e
  · by_cases q : a = p
    · subst q; rw [upd_same]; exact Option.some_ne_none o
    · rw [upd_ne q]; exact S.th a n
/-- an object of one's own is laid down for good -/
theorem Stp.fix {ex : Addr → Prop} {M0 H0 M H : Hp} (S : Stp ex M0 H0 M H) {p : Addr} {o : HO} (e : H p = some o) (h0 : H0 p = none) : Stp ex M0 H0 (upd M p o) H := by
  refine ⟨fun a u q => ?_, fun a u q => ?_, S.hh, fun a q n => ?_, S.th⟩
  · by_cases z : a = p
    · subst z
      have w := S.mh a u (S.mm a u q)
      rw [e] at w
      rw [upd_same, Option.some.inj w]
    · rw [upd_ne z]; exact S.mm a u q
  · by_cases z : a = p
    · subst z; rw [upd_same] at q; rw [e]; exact q
    · rw [upd_ne z] at q; exact S.mh a u q
  · have z : a ≠ p := fun z => n (by rw [z]; exact h0)
    rw [upd_ne z]; exact S.fr a q n
/-- what one's own object is apart from, and what still may change is not in M -/
theorem Stp.own {ex : Addr → Prop} {M0 H0 M H M1 H1 : Hp} (_ : Stp ex M0 H0 M H) (b : Stp ex M H M1 H1) {p : Addr} (mp : M p = none) {o : HO} (hp : H p = some o) : M1 p = none :=
  b.fr p mp (by rw [hp]; exact Option.some_ne_none o)
/-! ### data -/
/-- data by value; dct: a dict, whatever it holds -/
inductive Dat where
  | non | bl (b : Bool) | int (i : Int) | str (x : Str) | lst (ds : List Dat) | tup (ds : List Dat) | dct
mutual
def Is (M : Hp) : Dat → V → Prop
  | .non, v => v = .non
  | .bl b, v => v = .bl b
  | .int i, v => v = .int i
  | .str x, v => v = .str x
  | .lst ds, v => ∃ a vs, v = .ref a ∧ M a = some (.lst vs) ∧ IsA M ds vs
  | .tup ds, v => ∃ a vs, v = .ref a ∧ M a = some (.tup vs) ∧ IsA M ds vs
  | .dct, v => ∃ a, v = .ref a ∧ ((∃ kvs, M a = some (.dK kvs)) ∨ ∃ kvs, M a = some (.dT kvs))
def IsA (M : Hp) : List Dat → List V → Prop
  | [], vs => vs = []
  | d :: ds, vs => ∃ v r, vs = v :: r ∧ Is M d v ∧ IsA M ds r
end
mutual
theorem Is.mono {M M' : Hp} (s : Same M M') : ∀ (d : Dat) {v : V}, Is M d v → Is M' d v
  | .non, _, h => h
  | .bl _, _, h => h
  | .int _, _, h => h
  | .str _, _, h => h
  | .lst ds, _, h => by
    obtain ⟨a, vs, e, q, r⟩ := h
    exact ⟨a, vs, e, s _ _ q, IsA.mono s ds r⟩
  | .tup ds, _, h => by
    obtain ⟨a, vs, e, q, r⟩ := h
    exact ⟨a, vs, e, s _ _ q, IsA.mono s ds r⟩
  | .dct, _, h => by
    obtain ⟨a, e, q⟩ := h
    exact ⟨a, e, q.elim (fun ⟨kvs, q⟩ => .inl ⟨kvs, s _ _ q⟩) fun ⟨kvs, q⟩ => .inr ⟨kvs, s _ _ q⟩⟩
theorem IsA.mono {M M' : Hp} (s : Same M M') : ∀ (ds : List Dat) {vs : List V}, IsA M ds vs → IsA M' ds vs
  | [], _, h => h
  | d :: ds, _, h => by
    obtain ⟨v, r, e, q, t⟩ := h
    exact ⟨v, r, e, Is.mono s d q, IsA.mono s ds t⟩
end
theorem IsA.len {M : Hp} : ∀ {ds : List Dat} {vs : List V}, IsA M ds vs → vs.length = ds.length
  | [], _, h => by rw [show _ = [] from h]; rfl
  | d :: ds, _, h => by
    obtain ⟨v, r, e, _, t⟩ := h
    rw [e, List.length_cons, List.length_cons, IsA.len t]
theorem IsA.get {M : Hp} : ∀ {ds : List Dat} {vs : List V} {i : Nat} {v : V}, IsA M ds vs → vs[i]? = some v → ∃ d, ds[i]? = some d ∧ Is M d v
  | [], vs, i, v, h, e => by rw [show vs = [] from h] at e; simp at e
  | d :: ds, vs, 0, v, h, e => by
    obtain ⟨w, r, q, z, _⟩ := h
    rw [q] at e
    have e' : w = v := by simpa using e
    exact ⟨d, rfl, by rw [← e']; exact z⟩
  | d :: ds, vs, i + 1, v, h, e => by
    obtain ⟨w, r, q, _, t⟩ := h
    rw [q] at e
    obtain ⟨d', a, b⟩ := IsA.get (i := i) (v := v) t (by simpa using e)
    exact ⟨d', by simpa using a, b⟩
theorem IsA.at {M : Hp} {ds : List Dat} {vs : List V} {i : Nat} {d : Dat} (h : IsA M ds vs) (e : ds[i]? = some d) : ∃ v, vs[i]? = some v ∧ Is M d v := by
  have hl := (List.getElem?_eq_some_iff.mp e).1
  rw [← h.len] at hl
  obtain ⟨d', a, b⟩ := h.get (List.getElem?_eq_getElem hl)
  rw [e] at a
  cases a
  exact ⟨_, List.getElem?_eq_getElem hl, b⟩
theorem IsA.snoc {M : Hp} {d : Dat} {v : V} (q : Is M d v) : ∀ {ds : List Dat} {vs : List V}, IsA M ds vs → IsA M (ds ++ [d]) (vs ++ [v])
  | [], vs, h => by rw [show vs = [] from h]; exact ⟨v, [], rfl, q, rfl⟩
  | e :: ds, vs, h => by
    obtain ⟨w, r, z, a, t⟩ := h
    rw [z]
    exact ⟨w, r ++ [v], rfl, a, IsA.snoc q t⟩
theorem IsA.app {M : Hp} {es : List Dat} {ws : List V} (q : IsA M es ws) : ∀ {ds : List Dat} {vs : List V}, IsA M ds vs → IsA M (ds ++ es) (vs ++ ws)
  | [], vs, h => by rw [show vs = [] from h]; exact q
  | e :: ds, vs, h => by
    obtain ⟨w, r, z, a, t⟩ := h
    rw [z]
    exact ⟨w, r ++ ws, rfl, a, IsA.app q t⟩
theorem IsA.take {M : Hp} : ∀ (n : Nat) {ds : List Dat} {vs : List V}, IsA M ds vs → IsA M (ds.take n) (vs.take n)
  | 0, _, _, _ => rfl
  | n + 1, [], vs, h => by rw [show vs = [] from h]; rfl
  | n + 1, e :: ds, vs, h => by
    obtain ⟨w, r, z, a, t⟩ := h
    rw [z]
    exact ⟨w, r.take n, rfl, a, IsA.take n t⟩
theorem IsA.drop {M : Hp} : ∀ (n : Nat) {ds : List Dat} {vs : List V}, IsA M ds vs → IsA M (ds.drop n) (vs.drop n)
  | 0, _, _, h => h
  | n + 1, [], vs, h => by rw [show vs = [] from h]; rfl
  | n + 1, e :: ds, vs, h => by
    obtain ⟨w, r, z, a, t⟩ := h
    rw [z]
    exact IsA.drop n t
theorem IsA.erase {M : Hp} : ∀ (n : Nat) {ds : List Dat} {vs : List V}, IsA M ds vs → IsA M (ds.eraseIdx n) (vs.eraseIdx n)
  | _, [], vs, h => by rw [show vs = [] from h]; rfl
  | 0, e :: ds, vs, h => by
    obtain ⟨w, r, z, a, t⟩ := h
    rw [z]
    exact t
  | n + 1, e :: ds, vs, h => by
    obtain ⟨w, r, z, a, t⟩ := h
    rw [z]
    exact ⟨w, r.eraseIdx n, rfl, a, IsA.erase n t⟩
/-- lists of texts, of ints, of bools -/
theorem IsA.strs {M : Hp} : ∀ {xs : List Str} {vs : List V}, IsA M (xs.map Dat.str) vs ↔ vs = xs.map V.str
  | [], vs => Iff.rfl
  | x :: xs, vs => by
    constructor
    · rintro ⟨v, r, e, q, t⟩
      rw [e, show v = .str x from q, IsA.strs.mp t]
      rfl
    · intro e
      exact ⟨.str x, xs.map V.str, e, rfl, IsA.strs.mpr rfl⟩
theorem IsA.ints {M : Hp} : ∀ {xs : List Int} {vs : List V}, IsA M (xs.map Dat.int) vs ↔ vs = xs.map V.int
  | [], vs => Iff.rfl
  | x :: xs, vs => by
    constructor
    · rintro ⟨v, r, e, q, t⟩
      rw [e, show v = .int x from q, IsA.ints.mp t]
      rfl
    · intro e
      exact ⟨.int x, xs.map V.int, e, rfl, IsA.ints.mpr rfl⟩
theorem IsA.bls {M : Hp} : ∀ {xs : List Bool} {vs : List V}, IsA M (xs.map Dat.bl) vs ↔ vs = xs.map V.bl
  | [], vs => Iff.rfl
  | x :: xs, vs => by
    constructor
    · rintro ⟨v, r, e, q, t⟩
      rw [e, show v = .bl x from q, IsA.bls.mp t]
      rfl
    · intro e
      exact ⟨.bl x, xs.map V.bl, e, rfl, IsA.bls.mpr rfl⟩
/-- a list of texts -/
abbrev dS (xs : List Str) : Dat := .lst (xs.map Dat.str)
theorem Is.strs {M : Hp} {xs : List Str} {v : V} (h : Is M (dS xs) v) : ∃ a, v = .ref a ∧ M a = some (.lst (xs.map V.str)) := by
  obtain ⟨a, vs, e, q, t⟩ := h
  exact ⟨a, e, by rw [q, IsA.strs.mp t]⟩
theorem Is.of_strs {M : Hp} {xs : List Str} {a : Addr} (h : M a = some (.lst (xs.map V.str))) : Is M (dS xs) (.ref a) := ⟨a, _, rfl, h, IsA.strs.mpr rfl⟩
/-! ### what a def hands back -/
/-- a value d, nothing else changed -/
abbrev Ret (M H : Hp) (Q : VK) (d : Dat) : Prop := ∀ v M' H', Stp no M H M' H' → Is M' d v → Q v H'
theorem Ret.mono {ex : Addr → Prop} {M0 H0 M H : Hp} {Q : VK} {d : Dat} (k : ∀ v M' H', Stp ex M0 H0 M' H' → Is M' d v → Q v H') (S : Stp ex M0 H0 M H) : Ret M H Q d :=
  fun v M' H' S' h => k v M' H' (S.trans S'.of) h
/-! ### texts as lists of signs -/
abbrev ch (c : Nat) : Str := ⟨#[c]⟩
theorem str_ext {x y : Str} (h : x.cps.toList = y.cps.toList) : x = y := by
  cases x; cases y
  simp only [Str.mk.injEq]
  exact Array.toList_inj.mp h
end Nt
namespace Nt
open PySem PySem.Spec PyProof.Rows L2
/-- zip of two texts: fresh pairs of signs -/
def ItZss (x y : Str) : It :=
  ⟨fun i _ => i < min x.cps.size y.cps.size,
   fun i H v H' => ∃ T c d, v = .ref T ∧ H T = none ∧ H' = upd H T (.tup [.str ⟨#[c]⟩, .str ⟨#[d]⟩]) ∧ x.cps[i]? = some c ∧ y.cps[i]? = some d,
   fun i _ => i = min x.cps.size y.cps.size⟩
/-- zip of a text and a list -/
def ItZsl (K : PySem.W.Frag) (x : Str) (b : Addr) : It :=
  ⟨fun i H => ∃ ys : List V, SqL K H b ys ∧ i < min x.cps.size ys.length,
   fun i H v H' => ∃ T c w, v = .ref T ∧ H T = none ∧ H' = upd H T (.tup [.str ⟨#[c]⟩, w]) ∧ x.cps[i]? = some c ∧ ∀ ys, SqL K H b ys → ys[i]? = some w,
   fun i H => ∃ ys : List V, SqL K H b ys ∧ i = min x.cps.size ys.length⟩
theorem five_new {h : Heap} {z TI TO i1 i2 T : Addr} (a1 : z < h.objs.size) (a2 : TI < h.objs.size) (a3 : TO < h.objs.size) (a4 : i1 < h.objs.size) (a5 : i2 < h.objs.size) (hT : h.objs.size ≤ T) : ∀ c ∈ [z, TI, TO, i1, i2], c ≠ T := fun c hc e => by
  have q : c = z ∨ c = TI ∨ c = TO ∨ c = i1 ∨ c = i2 := by simpa using hc
  have lt : c < h.objs.size := by rcases q with q | q | q | q | q <;> rw [q] <;> assumption
  exact absurd (Nat.lt_of_lt_of_le lt hT) (by rw [e]; exact Nat.lt_irrefl _)
theorem turn_zss {P : Program} {w : World} {K : PySem.W.Frag} {elts : List Expr} {kk : Nat} {tpos : Pos} {x y : Str} {t u : Tok} {z TI TO i1 i2 : Addr} (S : ZipSep2 z TI TO i1 i2 [i1] [i2]) :
    Turn P w K (.Tuple elts kk tpos) (ItZss x y) [z, TI, TO, i1, i2] z
      (fun i h => IsZip h z TI TO .none ∧ IsTupOf2 h TI (.ref i1) (.ref i2) ∧ (∃ a1 a2, IsTupOf2 h TO a1 a2) ∧ h.IsStrIter i1 (strIterType x) x t i ∧ h.IsStrIter i2 (strIterType y) y u i) where
  mem := by simp
  obj := fun i h st c hc => by
    obtain ⟨hz, hTI, ⟨_, _, hTO⟩, ⟨o1, e1, _, d1⟩, ⟨o2, e2, _, d2⟩⟩ := st
    have q : c = z ∨ c = TI ∨ c = TO ∨ c = i1 ∨ c = i2 := by simpa using hc
    rcases q with q | q | q | q | q
    · rw [q]; exact ⟨_, hz, fun v q => nomatch q⟩
    · rw [q]; exact ⟨_, hTI, fun v q => nomatch q⟩
    · rw [q]; exact ⟨_, hTO, fun v q => nomatch q⟩
    · rw [q]; exact ⟨o1, e1, fun v q => by rw [d1] at q; cases q⟩
    · rw [q]; exact ⟨o2, e2, fun v q => by rw [d2] at q; cases q⟩
  keep := fun i h h' st k => by
    obtain ⟨hz, hTI, ⟨a1, a2, hTO⟩, ⟨o1, e1, r1⟩, ⟨o2, e2, r2⟩⟩ := st
    exact ⟨k z (by simp) _ hz, k TI (by simp) _ hTI, ⟨a1, a2, k TO (by simp) _ hTO⟩, ⟨o1, k i1 (by simp) _ e1, r1⟩, ⟨o2, k i2 (by simp) _ e2, r2⟩⟩
  item := by
    intro X hP hw hK hc i pins s σ H E I hf st hg
    subst hP hw hK
    have hh : X.A.in1.handled = none := I.ok.hd hc
    have G := GoesN.zip2 (elts := elts) (x1 := kk) (pos := tpos) S (Draws.text (prog := X.prog) (w := X.w) (A := X.A.in1) hh i1 x t) (Draws.text (prog := X.prog) (w := X.w) (A := X.A.in1) hh i2 y u)
    obtain ⟨hz0, hTI0, ⟨_, _, hTO0⟩, ⟨_, e10, _⟩, ⟨_, e20, _⟩⟩ := id st
    have away := fun T => five_new (T := T) (Heap.lt_size hz0) (Heap.lt_size hTI0) (Heap.lt_size hTO0) (Heap.lt_size e10) (Heap.lt_size e20)
    refine thn (G.goes i s (fun v s2 => ∃ xx H', Inv X pins σ H' s2 ∧ RelV xx v ∧ (ItZss x y).yld i H xx H' ∧ (IsZip s2.heap z TI TO .none ∧ IsTupOf2 s2.heap TI (.ref i1) (.ref i2) ∧ (∃ a1 a2, IsTupOf2 s2.heap TO a1 a2) ∧ s2.heap.IsStrIter i1 (strIterType x) x t (i + 1) ∧ s2.heap.IsStrIter i2 (strIterType y) y u (i + 1)) ∧ ∀ b ∈ [z, TI, TO, i1, i2], H' b = none) E hg st
      fun v h' tk ⟨T, a, b, ev, hnew, ⟨c, ta, hc1, ea⟩, ⟨d, tb, hd1, eb⟩, hT⟩ st' kk' _ => ?_) fun r s1 ⟨v, e1, e2⟩ => ⟨v, e1, e2⟩
    subst ev ea eb
    have new : ObjOk X.prog X.w (upd H T (.tup [.str ⟨#[c]⟩, .str ⟨#[d]⟩])) h' T (.tup [.str ⟨#[c]⟩, .str ⟨#[d]⟩]) :=
      ⟨by show 2 ≤ sizeLine; decide, [.str ⟨#[c]⟩ ta, .str ⟨#[d]⟩ tb], .cons ⟨_, rfl⟩ (.cons ⟨_, rfl⟩ .nil), hT⟩
    have I1 : Inv X pins σ (upd H T (.tup [.str ⟨#[c]⟩, .str ⟨#[d]⟩])) { s with heap := h', toks := tk } :=
      I.turnedNew (ch := [z, TI, TO, i1, i2]) (fun b o hb q => kk' b o (fun q' => hb (by revert q'; simp only [List.mem_cons, List.not_mem_nil, or_false]; rintro (r | r | r | r) <;> simp [r])) q) hf hnew new
    exact ⟨.ref T, _, I1, rfl, ⟨T, c, d, rfl, I.hok.fresh hnew, rfl, hc1, hd1⟩, st', fun b hb => by rw [upd_ne (away T hnew b hb)]; exact (hf b hb).1⟩
  done := by
    intro X hP hw hK hc i pins s σ H E I hf st hg
    subst hP hw hK
    have hh : X.A.in1.handled = none := I.ok.hd hc
    have hg' : i = min x.cps.size y.cps.size := hg
    subst hg'
    have G := GoesN.zip2 (elts := elts) (x1 := kk) (pos := tpos) S (Draws.text (prog := X.prog) (w := X.w) (A := X.A.in1) hh i1 x t) (Draws.text (prog := X.prog) (w := X.w) (A := X.A.in1) hh i2 y u)
    exact G.stops s (fun s1 => Inv X pins σ H s1) E st fun h' tk kk' _ =>
      I.turnedL (ch := [z, TI, TO, i1, i2]) (fun b o hb q => kk' b o (fun q' => hb (by revert q'; simp only [List.mem_cons, List.not_mem_nil, or_false]; rintro (r | r | r | r) <;> simp [r])) q) hf
  self := fun A i s Q E st h => wpAny_pyIter_zip st.1 h
/-- an object's being a list says that it is not one of the iterator's own -/
theorem turn_zsl {P : Program} {w : World} {K : PySem.W.Frag} {elts : List Expr} {kk : Nat} {tpos : Pos} {x : Str} {t : Tok} {b : Addr} {z TI TO i1 i2 : Addr} (S : ZipSep2 z TI TO i1 i2 [i1] [i2, b]) :
    Turn P w K (.Tuple elts kk tpos) (ItZsl K x b) [z, TI, TO, i1, i2] z
      (fun i h => IsZip h z TI TO .none ∧ IsTupOf2 h TI (.ref i1) (.ref i2) ∧ (∃ a1 a2, IsTupOf2 h TO a1 a2) ∧ h.IsStrIter i1 (strIterType x) x t i ∧ h.IsListIter i2 b i) where
  mem := by simp
  obj := fun i h st c hc => by
    obtain ⟨hz, hTI, ⟨_, _, hTO⟩, ⟨o1, e1, _, d1⟩, ⟨o2, e2, _, d2⟩⟩ := st
    have q : c = z ∨ c = TI ∨ c = TO ∨ c = i1 ∨ c = i2 := by simpa using hc
    rcases q with q | q | q | q | q
    · rw [q]; exact ⟨_, hz, fun v q => nomatch q⟩
    · rw [q]; exact ⟨_, hTI, fun v q => nomatch q⟩
    · rw [q]; exact ⟨_, hTO, fun v q => nomatch q⟩
    · rw [q]; exact ⟨o1, e1, fun v q => by rw [d1] at q; cases q⟩
    · rw [q]; exact ⟨o2, e2, fun v q => by rw [d2] at q; cases q⟩
  keep := fun i h h' st k => by
    obtain ⟨hz, hTI, ⟨a1, a2, hTO⟩, ⟨o1, e1, r1⟩, h2⟩ := st
    exact ⟨k z (by simp) _ hz, k TI (by simp) _ hTI, ⟨a1, a2, k TO (by simp) _ hTO⟩, ⟨o1, k i1 (by simp) _ e1, r1⟩, h2.at fun o q => k i2 (by simp) o q⟩
  item := by
    intro X hP hw hK hc i pins s σ H E I hf st hg
    subst hP hw hK
    have hh : X.A.in1.handled = none := I.ok.hd hc
    obtain ⟨ys, hys, hlt⟩ := hg
    obtain ⟨its, rv, p, _⟩ := I.list hys
    have elen : ys.length = its.length := rv.length
    have hb2 : b ≠ i2 := fun e => by
      obtain ⟨_, _, _, _, ⟨o2, e2, c2, _⟩⟩ := st
      obtain ⟨ol, el, cl, _⟩ := p.isList
      rw [← e, el] at e2
      cases e2
      rw [cl] at c2
      injection c2 with c3
      exact absurd c3 (by decide)
    have G := GoesN.zip2 (elts := elts) (x1 := kk) (pos := tpos) S (Draws.text (prog := X.prog) (w := X.w) (A := X.A.in1) hh i1 x t) (Draws.list (prog := X.prog) (w := X.w) (A := X.A.in1) hh i2 b hb2 its.toArray)
    obtain ⟨hz0, hTI0, ⟨_, _, hTO0⟩, ⟨_, e10, _⟩, ⟨_, e20, _⟩⟩ := id st
    have away := fun T => five_new (T := T) (Heap.lt_size hz0) (Heap.lt_size hTI0) (Heap.lt_size hTO0) (Heap.lt_size e10) (Heap.lt_size e20)
    have hlt' : i < min x.cps.size its.toArray.size := by
      have q : its.toArray.size = ys.length := by simp [elen]
      rw [q]
      exact hlt
    refine thn (G.goes i s (fun v s2 => ∃ xx H', Inv X pins σ H' s2 ∧ RelV xx v ∧ (ItZsl X.K x b).yld i H xx H' ∧ (IsZip s2.heap z TI TO .none ∧ IsTupOf2 s2.heap TI (.ref i1) (.ref i2) ∧ (∃ a1 a2, IsTupOf2 s2.heap TO a1 a2) ∧ s2.heap.IsStrIter i1 (strIterType x) x t (i + 1) ∧ s2.heap.IsListIter i2 b (i + 1)) ∧ ∀ b ∈ [z, TI, TO, i1, i2], H' b = none) E hlt'
      ⟨st.1, st.2.1, st.2.2.1, st.2.2.2.1, st.2.2.2.2, p.isList⟩
      fun v h' tk ⟨T, a, d, ev, hnew, ⟨c, ta, hc1, ea⟩, hd1, hT⟩ st' kk' _ => ?_) fun r s1 ⟨v, e1, e2⟩ => ⟨v, e1, e2⟩
    subst ev ea
    have hil : i < ys.length := Nat.lt_of_lt_of_le hlt (Nat.min_le_right _ _)
    obtain ⟨dv, hdv, rd⟩ := rv.get (List.getElem?_eq_getElem hil)
    have ed : dv = d := by
      have q : its[i]? = some d := by simpa using hd1
      rw [hdv] at q
      exact Option.some.inj q
    subst ed
    have new : ObjOk X.prog X.w (upd H T (.tup [.str ⟨#[c]⟩, ys[i]])) h' T (.tup [.str ⟨#[c]⟩, ys[i]]) :=
      ⟨by show 2 ≤ sizeLine; decide, [.str ⟨#[c]⟩ ta, dv], .cons ⟨_, rfl⟩ (.cons rd .nil), hT⟩
    have I1 : Inv X pins σ (upd H T (.tup [.str ⟨#[c]⟩, ys[i]])) { s with heap := h', toks := tk } :=
      I.turnedNew (ch := [z, TI, TO, i1, i2]) (fun b o hb q => kk' b o (fun q' => hb (by revert q'; simp only [List.mem_cons, List.not_mem_nil, or_false]; rintro (r | r | r | r) <;> simp [r])) q) hf hnew new
    exact ⟨.ref T, _, I1, rfl, ⟨T, c, _, rfl, I.hok.fresh hnew, rfl, hc1, fun l hl => by rw [I.list_inj hl hys]; exact List.getElem?_eq_getElem hil⟩, ⟨st'.1, st'.2.1, st'.2.2.1, st'.2.2.2.1, st'.2.2.2.2.1⟩, fun b hb => by rw [upd_ne (away T hnew b hb)]; exact (hf b hb).1⟩
  done := by
    intro X hP hw hK hc i pins s σ H E I hf st hg
    subst hP hw hK
    have hh : X.A.in1.handled = none := I.ok.hd hc
    obtain ⟨ys, hys, he⟩ := hg
    obtain ⟨its, rv, p, _⟩ := I.list hys
    have elen : ys.length = its.length := rv.length
    have hb2 : b ≠ i2 := fun e => by
      obtain ⟨_, _, _, _, ⟨o2, e2, c2, _⟩⟩ := st
      obtain ⟨ol, el, cl, _⟩ := p.isList
      rw [← e, el] at e2
      cases e2
      rw [cl] at c2
      injection c2 with c3
      exact absurd c3 (by decide)
    have G := GoesN.zip2 (elts := elts) (x1 := kk) (pos := tpos) S (Draws.text (prog := X.prog) (w := X.w) (A := X.A.in1) hh i1 x t) (Draws.list (prog := X.prog) (w := X.w) (A := X.A.in1) hh i2 b hb2 its.toArray)
    have hi : i = min x.cps.size its.toArray.size := by
      have q : its.toArray.size = ys.length := by simp [elen]
      rw [q]
      exact he
    subst hi
    exact G.stops s (fun s1 => Inv X pins σ H s1) E ⟨st.1, st.2.1, st.2.2.1, st.2.2.2.1, st.2.2.2.2, p.isList⟩ fun h' tk kk' _ =>
      I.turnedL (ch := [z, TI, TO, i1, i2]) (fun b o hb q => kk' b o (fun q' => hb (by revert q'; simp only [List.mem_cons, List.not_mem_nil, or_false]; rintro (r | r | r | r) <;> simp [r])) q) hf
  self := fun A i s Q E st h => wpAny_pyIter_zip st.1 h
/-- zip(a, b): two texts, a text and a list -/
def iZs (K : PySem.W.Frag) (ta : TA) : TI := fun σ H R => ta σ H fun vs H1 =>
  (∃ x y, vs = [.str x, .str y] ∧ R (ItZss x y) H1) ∨ (∃ x b, vs = [.str x, .ref b] ∧ (∃ ys, SqL K H1 b ys) ∧ R (ItZsl K x b) H1)
theorem five_ge {N : Nat} {c : Addr} (hc : c ∈ [N + 4, N + 2, N + 3, N, N + 1]) : N ≤ c := by
  have q : c = N + 4 ∨ c = N + 2 ∨ c = N + 3 ∨ c = N ∨ c = N + 1 := by simpa using hc
  rcases q with q | q | q | q | q <;> (rw [q]; first | exact Nat.le_add_right _ _ | exact Nat.le_refl _)
theorem pi_zs {X : Cx} {e e2 : Expr} {ta : TA} {p pos tpos : Pos} {elts : List Expr} {kk : Nat} (hg : Gl X "zip") (hm : X.mg "zip" = none) (ha : PA X [e, e2] ta)
    (hs : starEach [e, e2] X.env = (false, eval e X.env) :: starEach [e2] X.env := by rfl) (hpl : (backTo pos (starEach [e2] X.env)).any (·.1) = false := by rfl) :
    PI X (.Tuple elts kk tpos) (.Call (.Name "zip" p) [e, e2] [] pos) (iZs X.K ta) := by
  refine ⟨fun pins s σ H R I h => ?_⟩
  refine Call_ (ld_blt I hg hm PyProof.Rows.boot_zip (PyProof.Rows.callWith_type1 (thn (ha.run pos pins s σ H _ I h) fun us s1 ⟨vs, H1, I1, r1, q1⟩ => ?_) hs hpl))
  rcases q1 with ⟨x, y, ev, q⟩ | ⟨x, b, ev, ⟨ys, hys⟩, q⟩
  · subst ev
    cases r1 with
    | cons ra rr =>
      cases rr with
      | cons rb rr =>
        cases rr
        obtain ⟨t, rfl⟩ := ra
        obtain ⟨u, rfl⟩ := rb
        refine zip_begins2 (begins_text x t) (begins_text y u) trivial trivial fun h' hz hTI hTO h1 h2 hsz hk => wpAny_pyIter_zip hz ?_
        have I2 : Inv X pins σ H1 { s1 with heap := h' } := I1.kept (t' := s1.toks) hk
        exact ⟨s1.heap.objs.size + 4, [s1.heap.objs.size + 4, s1.heap.objs.size + 2, s1.heap.objs.size + 3, s1.heap.objs.size, s1.heap.objs.size + 1], _, _, H1, rfl, I2,
          turn_zss (t := t) (u := u) (zip_sep2 (N := s1.heap.objs.size) (fp1 := []) (fp2 := []) (fun b hb => nomatch hb) (fun b hb => nomatch hb)), ⟨hz, hTI, ⟨_, _, hTO⟩, ⟨_, h1, rfl, rfl⟩, ⟨_, h2, rfl, rfl⟩⟩,
          fun c hc => I1.fpOk (five_ge hc) (I1.hok.fresh (five_ge hc)), q⟩
  · subst ev
    cases r1 with
    | cons ra rr =>
      cases rr with
      | cons rb rr =>
        cases rr
        obtain ⟨t, rfl⟩ := ra
        cases rb
        obtain ⟨its, rv, pl, _⟩ := I1.list hys
        have lb : b < s1.heap.objs.size := pl.lt
        refine zip_begins2 (begins_text x t) (begins_list b its.toArray) trivial pl.isList fun h' hz hTI hTO h1 h2 hsz hk => wpAny_pyIter_zip hz ?_
        have I2 : Inv X pins σ H1 { s1 with heap := h' } := I1.kept (t' := s1.toks) hk
        exact ⟨s1.heap.objs.size + 4, [s1.heap.objs.size + 4, s1.heap.objs.size + 2, s1.heap.objs.size + 3, s1.heap.objs.size, s1.heap.objs.size + 1], _, _, H1, rfl, I2,
          turn_zsl (t := t) (zip_sep2 (N := s1.heap.objs.size) (fp1 := []) (fp2 := [b]) (fun c hc => nomatch hc) (fun c hc => by rw [List.mem_singleton.mp hc]; exact lb)), ⟨hz, hTI, ⟨_, _, hTO⟩, ⟨_, h1, rfl, rfl⟩, ⟨_, h2, rfl, rfl⟩⟩,
          fun c hc => I1.fpOk (five_ge hc) (I1.hok.fresh (five_ge hc)), q⟩
/-- the pair's form for Walk -/
theorem walk_zss {x y : Str} : Walk (ItZss x y) (min x.cps.size y.cps.size) (fun _ => True) (YPair (fun i => x.cps[i]?.map fun c => .str ⟨#[c]⟩) (fun i => y.cps[i]?.map fun c => .str ⟨#[c]⟩)) :=
  ⟨fun i H hi _ => hi, fun H _ => rfl, fun i H v H' hi _ ⟨T, c, d, h1, h2, h3, h4, h5⟩ => ⟨T, _, _, h1, h2, h3, by simp [h4], by simp [h5]⟩⟩
theorem walk_zsl {K : PySem.W.Frag} {x : Str} {b : Addr} {ys : List V} : Walk (ItZsl K x b) (min x.cps.size ys.length) (fun H => SqL K H b ys) (YPair (fun i => x.cps[i]?.map fun c => .str ⟨#[c]⟩) (fun i => ys[i]?)) :=
  ⟨fun i H hi q => ⟨ys, q, hi⟩, fun H q => ⟨ys, q, rfl⟩, fun i H v H' hi q ⟨T, c, w, h1, h2, h3, h4, h5⟩ => ⟨T, _, _, h1, h2, h3, by simp [h4], h5 ys q⟩⟩
/-! ### a list or a tuple, walked -/
def iSeq (K : PySem.W.Frag) (tl : TE) : TI := fun σ H R => tl σ H fun x H1 => ∃ a, x = .ref a ∧ ((∃ xs, SqL K H1 a xs ∧ R (Itl K a) H1) ∨ ∃ xs, SqT K H1 a xs ∧ R (Itt K a) H1)
theorem pi_seq {X : Cx} {tg l : Expr} {tl : TE} (hl : PE X l tl) : PI X tg l (iSeq X.K tl) := by
  refine ⟨fun pins s σ H R I h => ?_⟩
  refine thn (hl.run pins s σ H _ I h) fun v s1 ⟨x, H1, I1, r1, a, e, q⟩ => ?_
  subst e
  have e : v = .ref a := r1
  subst e
  have fr : ∀ b ∈ [s1.heap.objs.size], FpOk X pins H1 b := fun b hb => by
    rw [List.mem_singleton.mp hb]
    exact I1.fpOk (Nat.le_refl _) (I1.hok.fresh (Nat.le_refl _))
  rcases q with ⟨xs, hq, q⟩ | ⟨xs, hq, q⟩
  · obtain ⟨its, rv, p, hz⟩ := I1.list hq
    exact wpAny_pyIter_list p.isList ⟨_, [s1.heap.objs.size], _, _, H1, rfl, I1.kept (t' := s1.toks) fun b o e => Heap.get?_push_of_some _ e, turn_list a _, ⟨_, Heap.get?_push_size _ rfl, rfl, rfl⟩, fr, q⟩
  · obtain ⟨its, rv, p, hz⟩ := I1.tuple hq
    exact wpAny_pyIter_tuple (show s1.heap.IsTuple a its.toArray from p) ⟨_, [s1.heap.objs.size], _, _, H1, rfl, I1.kept (t' := s1.toks) fun b o e => Heap.get?_push_of_some _ e, turn_tuple a _, ⟨_, Heap.get?_push_size _ rfl, rfl, rfl⟩, fr, q⟩
/-! ### a text times a number -/
def rMulS : R2 := fun x y H Q => ∃ (z : Str) (k : Int), x = .str z ∧ y = .int k ∧ 0 ≤ k ∧ k ≤ 1000 ∧ z.length ≤ 1000 ∧ Q (.str ⟨(List.replicate k.toNat z.cps).foldl (· ++ ·) #[]⟩) H
theorem op_mul_str {X : Cx} : OpR X (binaryOp .Mult) rMulS := by
  intro pins s σ H x y v u Q I rx ry h
  obtain ⟨z, k, rfl, rfl, h0, h1, hz, q⟩ := h
  obtain ⟨t, rfl⟩ := rx
  obtain ⟨t', rfl⟩ := ry
  have big : ¬ ((z.length : Int) > (2 ^ 63 - 1) / k) ∨ k < 1 := by
    by_cases hk : k < 1
    · exact .inr hk
    · refine .inl fun hc => ?_
      have h2 : (1000 : Int) ≤ (2 ^ 63 - 1) / k := by
        rw [Int.le_ediv_iff_mul_le (by omega)]
        omega
      omega
  have hs : z.length * k.toNat ≤ 1000000 := Nat.mul_le_mul hz (by omega : k.toNat ≤ 1000)
  refine PySem.P.mul_str ?_ (fun hk _ => big.resolve_right hk) (fun _ _ => ?_) ?_
  · rw [decide_eq_false (show ¬ k < -(2 ^ 63) by omega), decide_eq_false (show ¬ k ≥ 2 ^ 63 by omega)]; rfl
  · exact decide_eq_false (show ¬ (z.length * k.toNat) > sizeLine by rw [sizeLine_eq]; omega)
  · by_cases hk : k < 1
    · rw [if_pos hk]
      have e0 : k = 0 := by omega
      subst e0
      exact ⟨by decide, .str _, H, I.tok _, ⟨_, rfl⟩, q⟩
    · rw [if_neg hk]
      by_cases h2 : (k == 1 || z.length == 0) = true
      · rw [if_pos h2]
        refine ⟨.str _, H, I, ⟨t, rfl⟩, ?_⟩
        have ez : (⟨(List.replicate k.toNat z.cps).foldl (· ++ ·) #[]⟩ : Str) = z := by
          rcases (Bool.or_eq_true _ _).mp h2 with h3 | h3
          · have e1 : k = 1 := beq_iff_eq.mp h3
            subst e1
            cases z
            simp
          · have e1 : z.cps.size = 0 := beq_iff_eq.mp h3
            have e2 : z.cps = #[] := Array.size_eq_zero_iff.mp e1
            cases z with
            | mk c =>
              dsimp only at e2
              subst e2
              have r : ∀ (n : Nat) (acc : Array Nat), (List.replicate n (#[] : Array Nat)).foldl (· ++ ·) acc = acc := by
                intro n
                induction n with
                | zero => intro acc; rfl
                | succ n ih => intro acc; rw [List.replicate_succ, List.foldl_cons, Array.append_empty, ih]
              rw [r]
        rw [ez] at q
        exact q
      · rw [if_neg h2]
        refine ⟨?_, .str _, H, I.tok _, ⟨_, rfl⟩, q⟩
        have sz : ∀ (n : Nat) (acc : Array Nat), ((List.replicate n z.cps).foldl (· ++ ·) acc).size = acc.size + n * z.cps.size := by
          intro n
          induction n with
          | zero => intro acc; simp
          | succ n ih => intro acc; rw [List.replicate_succ, List.foldl_cons, ih, Array.size_append, Nat.add_mul, Nat.one_mul]; omega
        show (List.foldl (· ++ ·) #[] (List.replicate k.toNat z.cps)).size ≤ sizeLine
        rw [sz, sizeLine_eq]
        have : k.toNat * z.cps.size = z.length * k.toNat := Nat.mul_comm _ _
        simp only [Array.size_empty]
        omega
/-! ### a dict comprehension given to a local name -/
theorem sw_trueD {k v : Expr} {gs : List Comprehension} {scope : Scope} {pos py : Pos} {y : Str} {l : Nat} {env : Env} (hk : env.scope.kind = .function) (hy : env.scope.names.lookup y = some .local) (hl : (py.line == pos.line) = true)
    (ha : (scope.names.any fun (n, k) => n == y && (k == .local || k == .cell)) = false) : swapsWith (.DictComp k v gs scope pos) (some (.Name y py)) l env = pure true := by
  have e1 : (env.blockKind == .function) = true := by
    unfold Env.blockKind
    rw [hk]
    rfl
  have e2 : (env.kindOf y == some .local) = true := by rw [show env.kindOf y = some .local from hy]; rfl
  show (do
    return env.blockKind == .function && env.kindOf y == some .local && py.line == pos.line && !(scope.names.any fun (n, k) => n == y && (k == .local || k == .cell)) : Sem Bool) = pure true
  rw [e1, e2, hl, ha]
  rfl
end Nt
namespace Nt
open PySem PySem.Spec PyProof.Rows L2
section
variable {X : Cx}
/-- told in each block that stands in X -/
abbrev InB (X : Cx) (scope : Scope) (r : Cx → Prop) : Prop := ∀ (s : Shared) (H : Hp) (C : Addr) (cl : List (Str × Addr)) (fp : List Addr), r (X.blk s H scope (compEnvC scope cl C X.env) fp)
/-- the dict at L goes into the name's slot; the block's own names at C go -/
theorem into_name {pins : List (Addr × Obj)} {s : Shared} {σ : L2.St} {H : Hp} {D : Ends} {i : Nat} {y : Str} {py : Pos} {L C : Addr} {m : Str → Option Value} (hN : X.N.Nodup) (hy : X.N[i]? = some y) (loc : X.env.scope.names.lookup y = some .local) (I : L2.Inv X pins σ H s) (q : gName i (.ref L) σ H D.nx)
    (ns : s.heap.Ns C m) (far : FpOk X pins H C) : wpAny (model X.prog X.w) X.A (assign (.Name y py) X.env (.ref L)) (fun _ s2 => ∃ m, s2.heap.Ns C m ∧ ∀ h', Heap.SameBut C s2.heap h' → SP X pins D .next { s2 with heap := h' }) X.xe s := by
  have ⟨free, nl, _, young, nc, np⟩ := far
  refine wpAny_assign_Name (store_ok2 (v := V.ref L) I hN hy (.inl loc) rfl (fun s2 I2 ⟨a, same, at_⟩ => ⟨m, ns.sameBut same ?_, fun h3 back => ⟨_, H, I2.turned (t' := s2.toks) (fun b o hb e => (back.2 b hb).trans e) free nl young nc np, q⟩⟩) (.inr loc))
  rcases at_ with e | e
  · rw [e]; exact nl
  · exact (nc y a e).symm
/-- name = {..} on one line, the name a local -/
theorem ps_setDc {i : Nat} {y : Str} {py : Pos} {kx vx tg iter : Expr} {ifs : List Expr} {scope : Scope} {own : List (Str × Nat)} {pos spos : Pos} {wi : TI} {g : TG} {tt : TT} {tk tv : TE} (hc : X.calm = true) (hN : X.N.Nodup) (hy : X.N[i]? = some y)
    (hyl : X.env.scope.names.lookup y = some .local) (hsw : swapsWith (.DictComp kx vx [⟨tg, iter, ifs, 0⟩] scope pos) (some (.Name y py)) spos.line X.env = pure true) (hi : PI X tg iter wi) (ok : BlkOk X.N X.env.scope scope own)
    (hg : InB X scope fun Y => PG Y tg g) (ht : InB X scope fun Y => PTs Y ifs tt) (hk : InB X scope fun Y => PE Y kx tk) (he : InB X scope fun Y => PE Y vx tv) (hs : ∀ x, foldedSetIterable iter X.env x = pure x := by intro _; rfl) :
    PS X (.Assign [.Name y py] (.DictComp kx vx [⟨tg, iter, ifs, 0⟩] scope pos) spos) (tAsg (tDc wi g tt tk tv (own.map (·.2))) (gName i)) := by
  refine ⟨fun pins s σ H D I h => ?_⟩
  rw [exec_Assign_Name_used _ _ _ _ hsw]
  have made := dc_core (pos := pos) (use := some (assign (.Name y py) X.env)) (pos' := firstIterPos [⟨tg, iter, ifs, 0⟩] pos) (Qf := fun _ s' => SP X pins D .next s') hc hN I hi ok hg ht hk he hs (show tDc wi g tt tk tv (own.map (·.2)) σ H (fun x H1 => gName i x σ H1 D.nx) from h) fun L C s' m H' I' q ns far => into_name hN hy hyl I' q ns far
  exact wpAny_bind (wpAny_standAt (wpAny_bind (wpAny_bind (m := comprehension _ _ _ _ _ _ _ _) (thn made fun _ s' hq => wpAny_pure (wpAny_pure hq)))))
/-- a module's text, a module's number -/
theorem pe_gstr {x z : Str} {pos : Pos} (hg : Gl X x) (hm : ∃ t, X.mg x = some (.str z t)) (hd : (x == ("__debug__" : Str)) = false := by decide) : PE X (.Name x pos) (tC (.str z)) := by
  obtain ⟨t, e⟩ := hm
  exact pe_glob hg e ⟨t, rfl⟩ hd
theorem pe_gint {x : Str} {i : Int} {pos : Pos} (hg : Gl X x) (hm : ∃ t, X.mg x = some (.int i t)) (hd : (x == ("__debug__" : Str)) = false := by decide) : PE X (.Name x pos) (tC (.int i)) := by
  obtain ⟨t, e⟩ := hm
  exact pe_glob hg e ⟨t, rfl⟩ hd
end
/-! ### a def of the text with its promise -/
structure Good (P : Program) (w : World) (K : PySem.W.Frag) (mg : Str → Option Value) (base : Heap) (CX : CXT) (k : Nat) (f : Addr) (ps : List Str) (sp : Sp) : Prop where
  ex : ∃ fd, FnOk P w K mg base CX k f fd ps sp ∧ Binds K fd ps []
  kp : PySem.W.keepIn K (.ref f) = true
section
variable {P : Program} {w : World} {K : PySem.W.Frag} {mg : Str → Option Value} {base : Heap} {x qual : Str} {params : Arguments} {body : List Stmt} {scope : Scope} {f : Addr} {fd : FuncData} {N ps : List Str} {k : Nat} {sp : Sp}
/-- THE RULE for a def that raises nothing -/
theorem good_of (F : FunD K x qual params body scope [] [] f fd) (S : FnScope N ps scope)
    (hbd : ∀ (kV doc pm : Value) (an : Option Addr) (cdv ct : Value) (us : List Value), us.length = ps.length → bindArgs (PySem.W.fnOf x qual params body scope .none kV doc pm an cdv ct) ⟨us, []⟩ = pure (ps.zip us))
    (len : ∀ vs H Q E, sp vs H Q E → vs.length = ps.length)
    (hbody : ∀ (cdv : Value) (A : Around) (outer : List Env) (s : Shared) (H : Hp) (vs : List V) (Q : VK) (E : XK), Room k (A.deeper (envOfC qual scope s.heap.objs.size f cdv)) → sp vs H Q E →
      ∃ t, PSs (cxOf CX0 P w K mg base N qual scope f cdv A outer s H E).nox body t ∧ t { nx := fun _ H' => Q .non H', rt := Q } (start N vs) H) : Good P w K mg base CX0 (k + 1) f ps sp :=
  ⟨⟨fd, F.ok S len fun cdv A outer s H vs Q E hr h => let ⟨t, a, b⟩ := hbody cdv A outer s H vs Q E hr h; ⟨t, a.nox, b⟩, F.bindsN hbd⟩, F.kp⟩
/-- .. for one that may raise -/
theorem good_ofX (F : FunD K x qual params body scope [] [] f fd) (S : FnScope N ps scope)
    (hbd : ∀ (kV doc pm : Value) (an : Option Addr) (cdv ct : Value) (us : List Value), us.length = ps.length → bindArgs (PySem.W.fnOf x qual params body scope .none kV doc pm an cdv ct) ⟨us, []⟩ = pure (ps.zip us))
    (len : ∀ vs H Q E, sp vs H Q E → vs.length = ps.length)
    (hbody : ∀ (cdv : Value) (A : Around) (outer : List Env) (s : Shared) (H : Hp) (vs : List V) (Q : VK) (E : XK), Room k (A.deeper (envOfC qual scope s.heap.objs.size f cdv)) → sp vs H Q E →
      ∃ t, PSs (cxOf (L2.CX P w) P w K mg base N qual scope f cdv A outer s H E) body t ∧ t { nx := fun _ H' => Q .non H', rt := Q } (start N vs) H) : Good P w K mg base (L2.CX P w) (k + 1) f ps sp :=
  ⟨⟨fd, F.ok S len hbody, F.bindsN hbd⟩, F.kp⟩
theorem Good.mono {CX : CXT} {j k : Nat} (g : Good P w K mg base CX j f ps sp) (h : j ≤ k) : Good P w K mg base CX k f ps sp := by
  obtain ⟨⟨fd, F, b⟩, kp⟩ := g
  exact ⟨⟨fd, F.mono h, b⟩, kp⟩
theorem Good.imp {CX : CXT} {k : Nat} {sp' : Sp} (g : Good P w K mg base CX k f ps sp) (h : ∀ vs H Q E, sp' vs H Q E → sp vs H Q E) : Good P w K mg base CX k f ps sp' := by
  obtain ⟨⟨fd, F, b⟩, kp⟩ := g
  exact ⟨⟨fd, F.imp h, b⟩, kp⟩
end
section
variable {X : Cx} {k : Nat} {f C : Addr} {ps : List Str} {sp : Sp} {x m : Str} {p pos apos : Pos} {e o : Expr} {es : List Expr} {t : TA} {ta : TE}
theorem pe_good (g : Good X.prog X.w X.K X.mg X.base CX0 k f ps sp) (hr : Room k X.A) (hg : Gl X x) (hm : X.mg x = some (.ref f)) (ha : PA X (e :: es) t)
    (hdb : (x == ("__debug__" : Str)) = false := by decide) (he : starEach (e :: es) X.env = (false, eval e X.env) :: starEach es X.env := by rfl) (hpl : (backTo pos (starEach es X.env)).any (·.1) = false := by rfl) :
    PE X (.Call (.Name x p) (e :: es) [] pos) (tCall sp [] E0 t) := by
  obtain ⟨⟨fd, F, b⟩, kp⟩ := g
  exact pe_call F hr hg hm kp b .nil pass0 ha hdb he hpl
theorem pe_goodm0 {pl : Sem Bool} (g : Good X.prog X.w X.K X.mg X.base CX0 k f ps sp) (hr : Room k X.A) (ho : PE X o ta) (c : Cls X.K C) (hm : Meth X.K C m f)
    (ht : eval (.Call (.Attribute o m apos) [] [] pos) X.env = (do
      let ov ← eval o X.env
      standAt apos.atName
      let (f, first) ← holding [ov] (getMethod ov m pl)
      callWith pos f first (backTo pos (starEach [] X.env)) (backToKw pos (keywordEach [] X.env))) := by rfl) :
    PE X (.Call (.Attribute o m apos) [] [] pos) (tMeth C m sp [] E0 ta tNil) := by
  obtain ⟨⟨fd, F, b⟩, kp⟩ := g
  exact pe_meth0 ho c hm F hr b .nil pass0 ht
end
/-! ### rules over what is tracked, K not told -/
section
variable {X : Cx}
theorem OpR.weak {f : Value → Value → Sem Value} {r r' : R2} (h : OpR X f r) (w : ∀ x y H Q, r' x y H Q → r x y H Q) : OpR X f r' := fun pins s σ H x y v u Q I rx ry q => h pins s σ H x y v u Q I rx ry (w _ _ _ _ q)
theorem CallR.weak {f : Value} {r r' : List V → Hp → VK → Prop} (h : CallR X f r) (w : ∀ x H Q, r' x H Q → r x H Q) : CallR X f r' := fun pins s σ H xs us Q I r q => h pins s σ H xs us Q I r (w _ _ _ q)
theorem IxR.weak {r r' : R2} (h : IxR X r) (w : ∀ x y H Q, r' x y H Q → r x y H Q) : IxR X r' := by
  intro value slice pins s σ H x y v u Q I rx ry q
  exact h value slice pins s σ H x y v u Q I rx ry (w _ _ _ _ q)
theorem SlR.weak {r r' : V → Option Int → Option Int → Hp → VK → Prop} (h : SlR X r) (w : ∀ x l u H Q, r' x l u H Q → r x l u H Q) : SlR X r' := by
  intro pins s σ H x v vl vu lo hi sl Q I rx hs pl pu q
  exact h pins s σ H x v vl vu lo hi sl Q I rx hs pl pu (w _ _ _ _ _ q)
theorem MtR.weak {id : String} {r r' : V → List V → Hp → VK → Prop} (h : MtR X id r) (w : ∀ x xs H Q, r' x xs H Q → r x xs H Q) : MtR X id r' := by
  intro pins s σ H x xs v us Q I rx rs q
  exact h pins s σ H x xs v us Q I rx rs (w _ _ _ _ q)
theorem PE.weak {e : Expr} {t t' : TE} (h : PE X e t) (w : ∀ σ H Q, t' σ H Q → t σ H Q) : PE X e t' := ⟨fun pins s σ H Q I q => h.run pins s σ H Q I (w _ _ _ q)⟩
theorem PI.weak {tg it : Expr} {t t' : TI} (h : PI X tg it t) (w : ∀ σ H R, t' σ H R → t σ H R) : PI X tg it t' := ⟨fun pins s σ H R I q => h.run pins s σ H R I (w _ _ _ q)⟩
def qIxL : R2 := fun x y H Q => ∃ p xs i v, x = .ref p ∧ y = .int i ∧ H p = some (.lst xs) ∧ atI xs i = some v ∧ Q v H
def qIxT : R2 := fun x y H Q => ∃ p xs i v, x = .ref p ∧ y = .int i ∧ H p = some (.tup xs) ∧ atI xs i = some v ∧ Q v H
def qIxQ : R2 := fun x y H Q => qIxL x y H Q ∨ qIxT x y H Q ∨ rIxS x y H Q
theorem xq_list : IxR X qIxL := IxR.weak ix_list fun x y H Q ⟨p, xs, i, v, a, b, c, d, e⟩ => ⟨p, xs, i, v, a, b, SqL.of c, d, e⟩
theorem xq_tup : IxR X qIxT := IxR.weak ix_tup fun x y H Q ⟨p, xs, i, v, a, b, c, d, e⟩ => ⟨p, xs, i, v, a, b, SqT.of c, d, e⟩
theorem xq_seq : IxR X qIxQ := xq_list.or (xq_tup.or ix_str)
def qIn (neg : Bool) : R2 := fun x y H Q => ∃ p xs, y = .ref p ∧ (H p = some (.lst xs) ∨ H p = some (.tup xs)) ∧ flatV x = true ∧ xs.all flatV = true ∧ Q (.bl (if neg then !inV x xs else inV x xs)) H
theorem oq_in : OpR X (compareOp .In) (qIn false) := OpR.weak op_in_seq fun x y H Q ⟨p, xs, a, b, c⟩ => ⟨p, xs, a, b.imp SqL.of SqT.of, c⟩
theorem oq_notIn : OpR X (compareOp .NotIn) (qIn true) := OpR.weak op_notIn_seq fun x y H Q ⟨p, xs, a, b, c⟩ => ⟨p, xs, a, b.imp SqL.of SqT.of, c⟩
def qLen : List V → Hp → VK → Prop := fun xs H Q => ∃ p ys, xs = [.ref p] ∧ (H p = some (.lst ys) ∨ H p = some (.tup ys)) ∧ Q (.int ys.length) H
theorem cq_len : CallR X (.builtin "len") qLen := CallR.weak call_len_seq fun x H Q ⟨p, ys, a, b, c⟩ => ⟨p, ys, a, b.imp SqL.of SqT.of, c⟩
def qList : List V → Hp → VK → Prop := fun xs H Q => ∃ p ys, xs = [.ref p] ∧ (H p = some (.lst ys) ∨ H p = some (.tup ys)) ∧ ∀ l, H l = none → Q (.ref l) (upd H l (.lst ys))
theorem cq_list : CallR X (.type "list") qList := CallR.weak call_list_of fun x H Q ⟨p, ys, a, b, c⟩ => ⟨p, ys, a, b.imp SqL.of SqT.of, c⟩
def qTuple : List V → Hp → VK → Prop := fun xs H Q => ∃ p ys, xs = [.ref p] ∧ ((H p = some (.lst ys) ∧ ∀ l, H l = none → Q (.ref l) (upd H l (.tup ys))) ∨ (H p = some (.tup ys) ∧ Q (.ref p) H))
theorem cq_tuple : CallR X (.type "tuple") qTuple := CallR.weak call_tuple_of fun x H Q ⟨p, ys, a, b⟩ => ⟨p, ys, a, b.imp (fun z => ⟨SqL.of z.1, z.2⟩) fun z => ⟨SqT.of z.1, z.2⟩⟩
def qSlL : V → Option Int → Option Int → Hp → VK → Prop := fun x lo hi H Q => ∃ a xs, x = .ref a ∧ H a = some (.lst xs) ∧ ∀ p, H p = none → Q (.ref p) (upd H p (.lst (cutV xs lo hi)))
theorem sq_list : SlR X qSlL := SlR.weak sl_list fun x l u H Q ⟨a, xs, b, c, d⟩ => ⟨a, xs, b, SqL.of c, d⟩
def qAll : List V → Hp → VK → Prop := fun vs H Q => ∃ (a : Addr) (bs : List Bool), vs = [V.ref a] ∧ H a = some (.lst (bs.map V.bl)) ∧ Q (.bl (bs.all id)) H
def qAny : List V → Hp → VK → Prop := fun vs H Q => ∃ (a : Addr) (bs : List Bool), vs = [V.ref a] ∧ H a = some (.lst (bs.map V.bl)) ∧ Q (.bl (bs.any id)) H
theorem cq_all (hc : X.calm = true) : CallR X (.builtin "all") qAll := CallR.weak (cr_all hc) fun x H Q ⟨p, ys, a, b, c⟩ => ⟨p, ys, a, SqL.of b, c⟩
theorem cq_any (hc : X.calm = true) : CallR X (.builtin "any") qAny := CallR.weak (cr_any hc) fun x H Q ⟨p, ys, a, b, c⟩ => ⟨p, ys, a, SqL.of b, c⟩
/-- sep.join(a list of texts) -/
def qJoin : V → List V → Hp → VK → Prop := fun x xs H Q => ∃ a p, ∃ ys : List Str, x = .str a ∧ xs = [.ref p] ∧ (H p = some (.lst (ys.map V.str)) ∨ H p = some (.tup (ys.map V.str))) ∧
  (ys.map (·.length)).sum + ys.length * a.length ≤ 16777216 ∧ Q (.str (Txt.join a ys)) H
theorem mq_join : MtR X "str.join" qJoin := MtR.weak mt_join fun x xs H Q ⟨a, p, ys, h1, h2, h3, h4⟩ => ⟨a, p, ys, h1, h2, h3.imp SqL.of SqT.of, h4⟩
/-- methods of a tracked list -/
def qBM (r : V → List V → Hp → VK → Prop) (to : TE) (t : TA) : TE := fun σ H Q => to σ H fun x H1 => (∃ p xs, x = .ref p ∧ H1 p = some (.lst xs)) ∧ t σ H1 fun xs H2 => r x xs H2 Q
variable {o e : Expr} {es : List Expr} {to : TE} {t : TA} {name : Str} {apos cpos : Pos} {id : String} {r : V → List V → Hp → VK → Prop}
theorem eq_bm (slot : Slot "list" name id) (hty : typeOf (.builtin id) = pure (.type "method_descriptor")) (hm : MtR X id r) (ho : PE X o to) (ha : PA X (e :: es) t)
    (hbase : attributeBase o name X.env (eval o X.env) = eval o X.env := by rfl)
    (hfew : ((backTo cpos (starEach (e :: es) X.env)).all (fun x => !x.1) && (backToKw cpos (keywordEach [] X.env)).all (fun x => x.1.isSome)
      && decide ((e :: es).length + ([] : List Keyword).length + (if ([] : List Keyword).isEmpty then 0 else 1) < 30)) = true := by rfl)
    (hline : (apos.endLine == cpos.line) = true := by rfl) (hs : starEach (e :: es) X.env = (false, eval e X.env) :: starEach es X.env := by rfl) (hplain : (backTo cpos (starEach es X.env)).any (·.1) = false := by rfl) :
    PE X (.Call (.Attribute o name apos) (e :: es) [] cpos) (qBM r to t) := by
  refine ⟨fun pins s σ H Q I h => ?_⟩
  refine wpAny_Call_method_late hbase hfew hline rfl (thn (ho.run pins s σ H _ I h) fun v s1 ⟨x, H1, I1, r1, ty, q1⟩ => ?_)
  obtain ⟨p, xs, ep, hp⟩ := ty
  have ty' : tyV X.K "list" x H1 := by rw [ep]; exact .inl ⟨rfl, xs, SqL.of hp⟩
  obtain ⟨h1, h2⟩ := tyV_is I1 r1 ty'
  refine ⟨"list", id, PySem.F.plainAttrs_list, slot, hty, h1, h2, ?_⟩
  have run := ha.run cpos pins s1 σ H1 _ I1 q1
  rw [hs] at run ⊢
  have pl : (backTo cpos ((false, eval e X.env) :: starEach es X.env)).any (·.1) = false := by
    show (false || (backTo cpos (starEach es X.env)).any (·.1)) = false
    rw [hplain]
    rfl
  exact Calls.callWith_builtin pl (Calls.evalArgs_plain (thn run fun us s2 ⟨ys, H2, I2, r2, q2⟩ => hm pins s2 σ H2 x ys v us Q I2 r1 r2 q2))
/-! isinstance -/
/-- a value's built-in type -/
def TyN (x : V) (H : Hp) (T : String) : Prop := match x with
  | .non => T = "NoneType"
  | .bl _ => T = "bool"
  | .int _ => T = "int"
  | .str _ => T = "str"
  | .ref a => (T = "list" ∧ ∃ xs, H a = some (.lst xs)) ∨ (T = "tuple" ∧ ∃ xs, H a = some (.tup xs)) ∨ (T = "dict" ∧ ((∃ kvs, H a = some (.dK kvs)) ∨ ∃ kvs, H a = some (.dT kvs)))
  | _ => False
theorem TyN.x {K : PySem.W.Frag} {x : V} {H : Hp} {T : String} (h : TyN x H T) : TyX K H x (.type T) := by
  cases x with
  | non => rw [show T = "NoneType" from h]; exact .base .non
  | bl b => rw [show T = "bool" from h]; exact .base (.bl b)
  | int i => rw [show T = "int" from h]; exact .base (.int i)
  | str z => rw [show T = "str" from h]; exact .base (.str z)
  | ref a =>
    rcases h with ⟨e, xs, q⟩ | ⟨e, xs, q⟩ | ⟨e, ⟨xs, q⟩ | ⟨xs, q⟩⟩
    · rw [e]; exact .base (.lst q)
    · rw [e]; exact .base (.tup q)
    · rw [e]; exact .base (.dK q)
    · rw [e]; exact .base (.dT q)
  | byt _ => cases h
  | flt _ => cases h
  | ty _ => cases h
def qIsi : List V → Hp → VK → Prop := fun xs H Q => ∃ (x : V) (c T : String) (b : Bool), xs = [x, .ty c] ∧ TyN x H T ∧ kitB T c = some b ∧ Q (.bl b) H
theorem cq_isi : CallR X (.builtin "isinstance") qIsi := CallR.weak call_isi fun xs H Q ⟨x, c, T, b, h1, h2, h3, h4⟩ => ⟨x, .ty c, .type T, .type c, b, h1, .ty c, h2.x, kit_ty h3, h4⟩
def qIsi2 : List V → Hp → VK → Prop := fun xs H Q => ∃ (x : V) (tp : Addr) (c d T : String) (b b' : Bool), xs = [x, .ref tp] ∧ H tp = some (.tup [.ty c, .ty d]) ∧ TyN x H T ∧ kitB T c = some b ∧ kitB T d = some b' ∧ Q (.bl (b || b')) H
theorem cq_isi2 : CallR X (.builtin "isinstance") qIsi2 := CallR.weak call_isiT fun xs H Q ⟨x, tp, c, d, T, b, b', h1, h2, h3, h4, h5, h6⟩ =>
  ⟨x, tp, [.ty c, .ty d], .type T, [.type c, .type d], b || b', h1, h2, .cons (.ty c) (.cons (.ty d) .nil), h3.x, by
    cases b with
    | true => exact kitAny_cons (kit_ty h4) (fun z => by cases z) (fun _ => rfl)
    | false => exact kitAny_cons (kit_ty h4) (fun _ => by
        cases b' with
        | true => exact kitAny_cons (kit_ty h5) (fun z => by cases z) (fun _ => rfl)
        | false => exact kitAny_cons (kit_ty h5) (fun _ => kitAny_nil) (fun z => by cases z)) (fun z => by cases z), h6⟩
/-! what is walked, K told -/
variable {tg l : Expr} {tl : TE}
theorem iq_list (K : PySem.W.Frag) (hl : PE X l tl) (hK : X.K = K := by rfl) : PI X tg l (iList K tl) := by subst hK; exact pi_list hl
theorem iq_tup (K : PySem.W.Frag) (hl : PE X l tl) (hK : X.K = K := by rfl) : PI X tg l (iTup K tl) := by subst hK; exact pi_tup hl
theorem iq_seq (K : PySem.W.Frag) (hl : PE X l tl) (hK : X.K = K := by rfl) : PI X tg l (iSeq K tl) := by subst hK; exact pi_seq hl
variable {ta : TA} {p pos tpos : Pos} {elts : List Expr} {kk n : Nat} {e2 : Expr} {tgs : TGs}
theorem gq_tup (K : PySem.W.Frag) (hc : X.calm = true) (h : PGs X es tgs) (hK : X.K = K := by rfl) (hn : (assignEach es X.env).length = n := by rfl) (hst : (assignEach es X.env).findIdx? (·.1) = none := by rfl) : PG X (.Tuple es kk pos) (gTup K n tgs) := by subst hK; exact pg_tup hc h hn hst
theorem iq_zs (K : PySem.W.Frag) (hg : Gl X "zip") (hm : X.mg "zip" = none) (ha : PA X [e, e2] ta) (hK : X.K = K := by rfl)
    (hs : starEach [e, e2] X.env = (false, eval e X.env) :: starEach [e2] X.env := by rfl) (hpl : (backTo pos (starEach [e2] X.env)).any (·.1) = false := by rfl) :
    PI X (.Tuple elts kk tpos) (.Call (.Name "zip" p) [e, e2] [] pos) (iZs K ta) := by subst hK; exact pi_zs hg hm ha hs hpl
theorem iq_zipA (K : PySem.W.Frag) (hg : Gl X "zip") (hm : X.mg "zip" = none) (ha : PA X [e, e2] ta) (hK : X.K = K := by rfl)
    (hs : starEach [e, e2] X.env = (false, eval e X.env) :: starEach [e2] X.env := by rfl) (hpl : (backTo pos (starEach [e2] X.env)).any (·.1) = false := by rfl) :
    PI X (.Tuple elts kk tpos) (.Call (.Name "zip" p) [e, e2] [] pos) (RZ.iZipA K ta) := by subst hK; exact RZ.pi_zipA hg hm ha hs hpl
theorem iq_enum (K : PySem.W.Frag) (hg : Gl X "enumerate") (hm : X.mg "enumerate" = none) (ha : PA X [e] ta) (hK : X.K = K := by rfl) (hs : starEach [e] X.env = [(false, eval e X.env)] := by rfl) (hpl : (backTo pos (starEach [] X.env)).any (·.1) = false := by rfl) :
    PI X (.Tuple elts kk tpos) (.Call (.Name "enumerate" p) [e] [] pos) (iEnum K ta) := by subst hK; exact pi_enum hg hm ha hs
end
end Nt
/-! Readings taken step by step: each lemma's last premise is what is left. -/
namespace Nt
open PySem PySem.Spec PyProof.Rows L2
section
variable {K : PySem.W.Frag} {σ : L2.St} {H : Hp} {Q : VK} {i : Nat} {v x y : V} {ta tb tc te : TE} {tt tu : TT} {D : Ends} {t u : TS} {r r' : R2} {g : TG}
/-! expressions -/
theorem w_var (h : σ[i]? = some (some v)) (k : Q v H) : tVar i σ H Q := ⟨v, h, k⟩
theorem w_c (k : Q v H) : tC v σ H Q := k
theorem w_op (k : ta σ H fun x H1 => tb σ H1 fun y H2 => r x y H2 Q) : tOp r ta tb σ H Q := k
theorem w_un {r : V → Hp → VK → Prop} (k : ta σ H fun x H1 => r x H1 Q) : tUn r ta σ H Q := k
theorem w_if (k : tt σ H fun c H1 => if c = true then ta σ H1 Q else tb σ H1 Q) : tIf tt ta tb σ H Q := k
theorem w_andV (k : ta σ H fun x H1 => ∃ c, x = .bl c ∧ if c = true then tb σ H1 Q else Q (.bl false) H1) : tAndV ta tb σ H Q := k
theorem w_orV (k : ta σ H fun x H1 => ∃ c, x = .bl c ∧ if c = true then Q (.bl true) H1 else tb σ H1 Q) : tOrV ta tb σ H Q := k
theorem w_notV (k : ta σ H fun x H1 => ∃ c, x = .bl c ∧ Q (.bl (!c)) H1) : tNotV ta σ H Q := k
theorem w_chain (k : ta σ H fun x H1 => tb σ H1 fun y H2 => r x y H2 fun z H3 => ∃ k, z = .bl k ∧ (if k = true then tc σ H3 fun w' H4 => r' y w' H4 Q else Q (.bl false) H3)) : tChain r r' ta tb tc σ H Q := k
theorem w_bl {P : Bool → Prop} {b : Bool} (k : P b) : ∃ c, V.bl b = .bl c ∧ P c := ⟨b, rfl, k⟩
theorem w_I0 {g : Int → Int → V} {a b : Int} (k : Q (g a b) H) : rI0 g (.int a) (.int b) H Q := ⟨a, b, rfl, rfl, k⟩
theorem w_I {C : Int → Int → Prop} {g : Int → Int → V} {a b : Int} (c : C a b) (k : Q (g a b) H) : rI C g (.int a) (.int b) H Q := ⟨a, b, rfl, rfl, c, k⟩
theorem w_eqS {a b : Str} (k : Q (.bl (decide (a = b))) H) : rEq (.str a) (.str b) H Q := ⟨rfl, by
  have e : decide (V.str a = V.str b) = decide (a = b) := by simp
  rw [e]
  exact k⟩
theorem w_neS {a b : Str} (k : Q (.bl (!decide (a = b))) H) : rNe (.str a) (.str b) H Q := ⟨rfl, by
  have e : decide (V.str a = V.str b) = decide (a = b) := by simp
  rw [e]
  exact k⟩
theorem w_eqI {a b : Int} (k : Q (.bl (decide (a = b))) H) : rEq (.int a) (.int b) H Q := ⟨rfl, by
  have e : decide (V.int a = V.int b) = decide (a = b) := by simp
  rw [e]
  exact k⟩
theorem w_neI {a b : Int} (k : Q (.bl (!decide (a = b))) H) : rNe (.int a) (.int b) H Q := ⟨rfl, by
  have e : decide (V.int a = V.int b) = decide (a = b) := by simp
  rw [e]
  exact k⟩
theorem w_neB {a b : Bool} (k : Q (.bl (!decide (a = b))) H) : rNe (.bl a) (.bl b) H Q := ⟨rfl, by
  have e : decide (V.bl a = V.bl b) = decide (a = b) := by simp
  rw [e]
  exact k⟩
theorem w_eqB {a b : Bool} (k : Q (.bl (decide (a = b))) H) : rEq (.bl a) (.bl b) H Q := ⟨rfl, by
  have e : decide (V.bl a = V.bl b) = decide (a = b) := by simp
  rw [e]
  exact k⟩
theorem w_ixL {p : Addr} {xs : List V} {j : Int} (h : H p = some (.lst xs)) (e : atI xs j = some v) (k : Q v H) : rIxL K (.ref p) (.int j) H Q := ⟨p, xs, j, v, rfl, rfl, SqL.of h, e, k⟩
theorem w_ixT {p : Addr} {xs : List V} {j : Int} (h : H p = some (.tup xs)) (e : atI xs j = some v) (k : Q v H) : rIxT K (.ref p) (.int j) H Q := ⟨p, xs, j, v, rfl, rfl, SqT.of h, e, k⟩
theorem w_ixS {z : Str} {j : Int} {c : Nat} (h : z.length ≤ sizeLine) (e : atI z.cps.toList j = some c) (k : Q (.str ⟨#[c]⟩) H) : rIxS (.str z) (.int j) H Q := ⟨z, j, c, rfl, rfl, h, e, k⟩
theorem w_dget (td : TE) (ty : TE) (k : td σ H fun x H1 => ty σ H1 fun y H2 => ∃ a v, x = .ref a ∧ DGet H2 a y (some v) ∧ Q v H2) : tDGet td ty σ H Q := k
/-! tests -/
variable {P : Bool → Hp → Prop}
theorem w_test (k : te σ H fun x H' => ∃ b, x = .bl b ∧ P b H') : tTest te σ H P := k
theorem w_B (k : te σ H fun x H' => ∃ b, x = .bl b ∧ P b H') : tB te σ H P := k
theorem w_and (k : tt σ H fun c H1 => if c = true then tu σ H1 P else P false H1) : tAnd tt tu σ H P := k
theorem w_or (k : tt σ H fun c H1 => if c = true then P true H1 else tu σ H1 P) : tOr tt tu σ H P := k
theorem w_not (k : tt σ H fun c H1 => P (!c) H1) : tNot tt σ H P := k
theorem w_yes (k : P true H) : tYes σ H P := k
/-! arguments -/
variable {tr : TA} {PA : List V → Hp → Prop}
theorem w_nil (k : PA [] H) : tNil σ H PA := k
theorem w_cons (k : te σ H fun x H1 => tr σ H1 fun xs H2 => PA (x :: xs) H2) : tCons te tr σ H PA := k
theorem w_tup (k : tr σ H fun xs H1 => xs.length ≤ sizeLine ∧ ∀ p, H1 p = none → Q (.ref p) (upd H1 p (.tup xs))) : tTup tr σ H Q := k
theorem w_lst (k : tr σ H fun xs H1 => xs.length ≤ sizeLine ∧ ∀ p, H1 p = none → Q (.ref p) (upd H1 p (.lst xs))) : tLst tr σ H Q := k
theorem w_call {sp : Sp} {dvs : List V} {E : XK} (k : tr σ H fun vs H1 => sp (vs ++ dvs) H1 Q E) : tCall sp dvs E tr σ H Q := k
theorem w_cb {rr : List V → Hp → VK → Prop} (k : tr σ H fun vs H1 => rr vs H1 Q) : tCB rr tr σ H Q := k
theorem w_bm {T : String} {rr : V → List V → Hp → VK → Prop} (k : te σ H fun x H1 => tyV K T x H1 ∧ tr σ H1 fun xs H2 => rr x xs H2 Q) : tBM K T rr te tr σ H Q := k
theorem w_m1 {rr : V → List V → Hp → VK → Prop} (k : te σ H fun x H1 => (∃ z, x = .str z) ∧ ta σ H1 fun y H2 => rr x [y] H2 Q) : tM1 rr te ta σ H Q := k
/-! statements -/
theorem w_seq (k : t { D with nx := u D } σ H) : tSeq t u D σ H := k
theorem w_asg (k : te σ H fun x H1 => g x σ H1 D.nx) : tAsg te g D σ H := k
theorem w_name {Z : L2.St → Hp → Prop} (k : Z (σ.set i (some v)) H) : gName i v σ H Z := k
theorem w_ret (k : te σ H D.rt) : tRet te D σ H := k
theorem w_retN (k : D.rt .non H) : tRetN D σ H := k
theorem w_drop (k : te σ H fun _ H1 => D.nx σ H1) : tDrop te D σ H := k
theorem w_ifS (k : tt σ H fun b H1 => if b = true then t D σ H1 else u D σ H1) : tIfS tt t u D σ H := k
theorem w_next (k : D.nx σ H) : tNext D σ H := k
/-- what is left of a list comprehension, a dict comprehension, a for, when its iterator has come -/
def LcG (J : It) (g : TG) (tt : TT) (te : TE) (vs : List Nat) (σ : L2.St) (Q : VK) (H1 : Hp) : Prop := ∀ D, H1 D = none → ∃ W : Nat → Nat → Hp → Prop, (∃ m, W 0 m (upd H1 D (.lst []))) ∧ ∀ i m H, W i m H →
  (J.stop i H ∧ Q (.ref D) H) ∨ (J.go i H ∧ ∃ Nx : Hp → Prop, (∀ H', Nx H' → ∃ m', m' < m ∧ W (i + 1) m' H') ∧ ∀ x H', J.yld i H x H' → g x (wipe σ vs) H' fun σ2 H2 => wipe σ2 vs = wipe σ vs ∧ tt σ2 H2 fun b H3 =>
    if b = true then te σ2 H3 fun y H4 => ∃ acc, H4 D = some (.lst acc) ∧ acc.length < sizeLine ∧ Nx (upd H4 D (.lst (acc ++ [y]))) else Nx H3)
def DcG (J : It) (g : TG) (tt : TT) (tk tv : TE) (vs : List Nat) (σ : L2.St) (Q : VK) (H1 : Hp) : Prop := ∀ D, H1 D = none → ∃ W : Nat → Nat → Hp → Prop, (∃ m, W 0 m (upd H1 D (.dK []))) ∧ ∀ i m H, W i m H →
  (J.stop i H ∧ Q (.ref D) H) ∨ (J.go i H ∧ ∃ Nx : Hp → Prop, (∀ H', Nx H' → ∃ m', m' < m ∧ W (i + 1) m' H') ∧ ∀ x H', J.yld i H x H' → g x (wipe σ vs) H' fun σ2 H2 => wipe σ2 vs = wipe σ vs ∧ tt σ2 H2 fun b H3 =>
    if b = true then tk σ2 H3 fun y H4 => tv σ2 H4 fun z H5 => ∃ kvs k, y = kV k ∧ H5 D = some (.dK kvs) ∧ kvs.length < sizeLine ∧ Nx (upd H5 D (.dK (putK kvs k z))) else Nx H3)
def FoG (J : It) (g : TG) (t : TS) (D : Ends) (σ : L2.St) (H1 : Hp) : Prop := ∃ W : Nat → Nat → L2.St → Hp → Prop, (∃ m, W 0 m σ H1) ∧ ∀ i m σ H, W i m σ H →
  (J.stop i H ∧ D.nx σ H) ∨ (J.go i H ∧ ∃ N : L2.St → Hp → Prop, (∀ σ' H', N σ' H' → ∃ m', m' < m ∧ W (i + 1) m' σ' H') ∧ ∀ x H', J.yld i H x H' → g x σ H' fun σ2 H2 => t { D with nx := N, ct := N, bk := D.nx } σ2 H2)
theorem w_lc {wi : TI} {gg : TG} {vs : List Nat} (k : wi σ H fun J H1 => LcG J gg tt te vs σ Q H1) : tLc wi gg tt te vs σ H Q := k
theorem w_dc {wi : TI} {gg : TG} {vs : List Nat} (k : wi σ H fun J H1 => DcG J gg tt ta tb vs σ Q H1) : tDc wi gg tt ta tb vs σ H Q := k
theorem w_for {wi : TI} {gg : TG} (k : wi σ H fun J H1 => FoG J gg t D σ H1) : tFor wi gg t D σ H := k
variable {R : It → Hp → Prop}
theorem w_iL (k : te σ H fun x H1 => ∃ a, x = .ref a ∧ (∃ xs, SqL K H1 a xs) ∧ R (Itl K a) H1) : iList K te σ H R := k
theorem w_iS (k : te σ H fun v H1 => ∃ x, v = .str x ∧ R (Its x) H1) : iStr te σ H R := k
theorem w_iZ (k : tr σ H fun vs H1 => (∃ x y, vs = [.str x, .str y] ∧ R (ItZss x y) H1) ∨ (∃ x b, vs = [.str x, .ref b] ∧ (∃ ys, SqL K H1 b ys) ∧ R (ItZsl K x b) H1)) : iZs K tr σ H R := k
theorem w_iE (k : tr σ H fun vs H1 => ∃ a xs, vs = [.ref a] ∧ SqL K H1 a xs ∧ R (Ite K a) H1) : iEnum K tr σ H R := k
theorem w_iQ (k : te σ H fun x H1 => ∃ a, x = .ref a ∧ ((∃ xs, SqL K H1 a xs ∧ R (Itl K a) H1) ∨ ∃ xs, SqT K H1 a xs ∧ R (Itt K a) H1)) : iSeq K te σ H R := k
theorem w_sl {rr : V → Option Int → Option Int → Hp → VK → Prop} {tl th : TO} (k : te σ H fun x H1 => tl σ H1 fun l H2 => th σ H2 fun u H3 => rr x l u H3 Q) : tSl rr te tl th σ H Q := k
variable {PO : Option Int → Hp → Prop}
theorem w_po (k : te σ H fun x H1 => ∃ i, x = .int i ∧ PO (some i) H1) : tPart te σ H PO := k
theorem w_no (k : PO none H) : tNoPart σ H PO := k
theorem w_qbm {rr : V → List V → Hp → VK → Prop} (k : te σ H fun x H1 => (∃ p xs, x = .ref p ∧ H1 p = some (.lst xs)) ∧ tr σ H1 fun xs H2 => rr x xs H2 Q) : qBM rr te tr σ H Q := k
/-- what is drawn as a new pair -/
theorem g_pair {T : Addr} {i j : Nat} {a b : V} {Z : L2.St → Hp → Prop} (h : H T = some (.tup [a, b])) (k : Z ((σ.set i (some a)).set j (some b)) H) : gTup K 2 (gCons (gName i) (gCons (gName j) gNil)) (.ref T) σ H Z :=
  ⟨T, [a, b], rfl, SqT.of h, rfl, a, [b], rfl, b, [], rfl, rfl, k⟩
theorem upd_old {a p : Addr} {o u : HO} (h : H a = some o) (hp : H p = none) : upd H p u a = some o := (upd_ne (ne_of_none h hp)).trans h
/-! both ways of a test -/
theorem ifd {A B p : Prop} [Decidable p] (h1 : p → A) (h2 : ¬ p → B) : if decide p = true then A else B := by
  by_cases h : p
  · rw [if_pos (decide_eq_true h)]; exact h1 h
  · rw [if_neg (by rw [decide_eq_false h]; exact Bool.false_ne_true)]; exact h2 h
theorem ifnd {A B p : Prop} [Decidable p] (h1 : ¬ p → A) (h2 : p → B) : if (!decide p) = true then A else B := by
  by_cases h : p
  · rw [if_neg (by rw [decide_eq_true h]; exact Bool.false_ne_true)]; exact h2 h
  · rw [if_pos (by rw [decide_eq_false h]; rfl)]; exact h1 h
theorem ift {A B : Prop} {b : Bool} (e : b = true) (h : A) : if b = true then A else B := by rw [if_pos e]; exact h
theorem iff_ {A B : Prop} {b : Bool} (e : b = false) (h : B) : if b = true then A else B := by rw [if_neg (by rw [e]; exact Bool.false_ne_true)]; exact h
theorem ifb {A B : Prop} {b : Bool} (h1 : b = true → A) (h2 : b = false → B) : if b = true then A else B := by
  cases b with
  | true => exact h1 rfl
  | false => exact h2 rfl
end
/-! comprehensions -/
section
variable {K : PySem.W.Frag} {σ : L2.St} {H : Hp} {Q : VK} {J : It} {n : Nat} {G : Hp → Prop} {Y : Nat → Hp → V → Hp → Prop} {g : TG} {tt : TT} {te tk tv : TE} {vs : List Nat} {ex : Addr → Prop} {M0 H0 M : Hp}
/-- what a list comprehension has made so far: acc at D, told by A -/
structure LcS (ex : Addr → Prop) (M0 H0 : Hp) (D : Addr) (A : List V → Hp → Prop) (H : Hp) : Prop where
  ex : ∃ M acc, Stp ex M0 H0 M H ∧ M D = none ∧ H D = some (.lst acc) ∧ A acc M
/-- one more item comes to the list at D -/
abbrev LcA (ex : Addr → Prop) (M0 H0 : Hp) (D : Addr) (A : List V → Hp → Prop) (y : V) (H : Hp) : Prop := ∃ acc, H D = some (.lst acc) ∧ acc.length < sizeLine ∧ LcS ex M0 H0 D A (upd H D (.lst (acc ++ [y])))
theorem LcA.of {ex : Addr → Prop} {M0 H0 M H : Hp} {D : Addr} {A : List V → Hp → Prop} {y : V} {acc : List V} (hD : H0 D = none) (S : Stp ex M0 H0 M H) (m : M D = none) (h : H D = some (.lst acc)) (hl : acc.length ≤ 1000000) (a : A (acc ++ [y]) M) : LcA ex M0 H0 D A y H :=
  ⟨acc, h, Nat.lt_of_le_of_lt hl (by decide), M, _, S.put _ m (.inl hD), m, upd_same, a⟩
theorem LcS.of {ex : Addr → Prop} {M0 H0 M H : Hp} {D : Addr} {A : List V → Hp → Prop} {acc : List V} (S : Stp ex M0 H0 M H) (m : M D = none) (h : H D = some (.lst acc)) (a : A acc M) : LcS ex M0 H0 D A H := ⟨M, acc, S, m, h, a⟩
/-- a list comprehension: A i acc M what holds of the items made in the first i turns -/
theorem lc_go (w : Walk J n G Y) (s0 : Same M H) (A : Nat → List V → Hp → Prop) (a0 : A 0 [] M) (hG : ∀ M' H', Stp ex M H M' H' → G H')
    (turn : ∀ i x acc M1 H1 H1' D, i < n → Stp ex M H M1 H1 → H D = none → M1 D = none → H1 D = some (.lst acc) → A i acc M1 → Y i H1 x H1' →
      g x (wipe σ vs) H1' fun σ2 H2 => wipe σ2 vs = wipe σ vs ∧ tt σ2 H2 fun b H3 => if b = true then te σ2 H3 fun y H4 => LcA ex M H D (A (i + 1)) y H4 else LcS ex M H D (A (i + 1)) H3)
    (done : ∀ D acc M1 H1, H D = none → Stp ex M H M1 H1 → M1 D = none → H1 D = some (.lst acc) → A n acc M1 → Q (.ref D) H1) :
    LcG J g tt te vs σ Q H := by
  intro D hD
  have R := Stp.refl (ex := ex) s0
  exact lc_it w (fun i H' => LcS ex M H D (A i) H') ⟨M, [], R.new _ hD, R.mfree hD, upd_same, a0⟩ (fun i H' _ ⟨M', acc, S', _, _, _⟩ => hG M' H' S')
    (fun i x H1 H1' hi ⟨M1, acc, S1, m1, h1, a1⟩ hy => turn i x acc M1 H1 H1' D hi S1 hD m1 h1 a1 hy) (fun H1 ⟨M1, acc, S1, m1, h1, a1⟩ => done D acc M1 H1 hD S1 m1 h1 a1)
/-- a for: A i σ M H what holds ahead of turn i -/
theorem fo_go {t : TS} {D : Ends} (w : Walk J n G Y) (A : Nat → L2.St → Hp → Prop) (a0 : A 0 σ H) (hG : ∀ i σ' H', i ≤ n → A i σ' H' → G H')
    (turn : ∀ i x σ1 H1 H1', i < n → A i σ1 H1 → Y i H1 x H1' → g x σ1 H1' fun σ2 H2 => t { D with nx := A (i + 1), ct := A (i + 1), bk := D.nx } σ2 H2) (done : ∀ σ' H', A n σ' H' → D.nx σ' H') : FoG J g t D σ H :=
  for_it w A a0 hG turn done
end
end Nt
/-! Texts as lists of signs; rows over one another; lists taken from the front. -/
namespace Nt
open PySem PySem.Spec PyProof.Rows L2
abbrev sl (x : Str) : List Nat := x.cps.toList
abbrev mkS (l : List Nat) : Str := ⟨l.toArray⟩
theorem sl_mk (l : List Nat) : sl (mkS l) = l := by simp
theorem mk_sl (x : Str) : mkS (sl x) = x := by cases x; simp
theorem sl_inj {x y : Str} (h : sl x = sl y) : x = y := str_ext h
theorem len_sl (x : Str) : x.length = (sl x).length := by show x.cps.size = _; simp
theorem len_mk (l : List Nat) : (mkS l).length = l.length := by rw [len_sl, sl_mk]
theorem ch_inj {a b : Nat} : ch a = ch b ↔ a = b := by simp
theorem ch_dot {c : Nat} : ch c = "." ↔ c = 46 := by
  have e : (("." : Str)) = ch 46 := by decide +kernel
  rw [e, ch_inj]
theorem joinL_nil : ∀ ls : List (List Nat), TL.joinL [] ls = ls.flatten
  | [] => rfl
  | [p] => by simp [TL.joinL]
  | p :: q :: r => by
    show p ++ ([] ++ TL.joinL [] (q :: r)) = _
    rw [joinL_nil (q :: r)]
    simp
theorem sl_join (ys : List Str) : sl (Txt.join ("" : Str) ys) = (ys.map sl).flatten := by
  rw [TL.join_eq]
  show TL.tl _ = _
  rw [TL.tl_join]
  exact joinL_nil _
theorem join_ch (l : List Nat) : Txt.join ("" : Str) (l.map ch) = mkS l := by
  apply sl_inj
  rw [sl_join, sl_mk, List.map_map]
  induction l with
  | nil => rfl
  | cons a r ih =>
    rw [List.map_cons, List.flatten_cons, ih]
    rfl
theorem join_size (l : List Nat) (h : l.length ≤ 10000) : ((l.map ch).map (·.length)).sum + (l.map ch).length * ("" : Str).length ≤ 16777216 := by
  have e : ((l.map ch).map (·.length)).sum = l.length := by
    clear h
    induction l with
    | nil => rfl
    | cons a r ih =>
      rw [List.map_cons, List.map_cons, List.sum_cons, ih, List.length_cons]
      show 1 + r.length = _
      omega
  rw [e]
  show l.length + _ * 0 ≤ _
  omega
/-! ### lists from the front -/
section
variable {α β : Type} {l : List α} {i : Nat} {a : α} {p : α → Bool} {f : α → β}
theorem tk_snoc (h : l[i]? = some a) : l.take (i + 1) = l.take i ++ [a] := by rw [List.take_add_one, h]; rfl
theorem tkm (h : l[i]? = some a) : (l.take (i + 1)).map f = (l.take i).map f ++ [f a] := by rw [tk_snoc h, List.map_append]; rfl
theorem tkf_yes (h : l[i]? = some a) (hp : p a = true) : ((l.take (i + 1)).filter p).map f = ((l.take i).filter p).map f ++ [f a] := by
  rw [tk_snoc h, List.filter_append, List.map_append, List.filter_cons, if_pos hp]; rfl
theorem tkf_no (h : l[i]? = some a) (hp : p a = false) : ((l.take (i + 1)).filter p).map f = ((l.take i).filter p).map f := by
  rw [tk_snoc h, List.filter_append, List.map_append, List.filter_cons, if_neg (by rw [hp]; exact Bool.false_ne_true)]; simp
theorem tk_all : l.take l.length = l := List.take_length
theorem lt_of_get (h : l[i]? = some a) : i < l.length := (List.getElem?_eq_some_iff.mp h).1
theorem mem_of_get (h : l[i]? = some a) : a ∈ l := List.mem_of_getElem? h
end
/-! ### what is walked, by lists -/
theorem walkS {z : Str} : Walk (Its z) (sl z).length (fun _ => True) (fun i H v H' => H' = H ∧ ∃ c, (sl z)[i]? = some c ∧ v = .str (ch c)) := by
  have e : (sl z).length = z.cps.size := by simp
  rw [e]
  exact walk_str.mono (fun _ h => h) fun i H v H' _ _ ⟨h1, c, h2, h3⟩ => ⟨h1, c, by simpa using h2, h3⟩
theorem walkZ {x y : Str} : Walk (ItZss x y) ((sl x).zip (sl y)).length (fun _ => True)
    (fun i H v H' => ∃ T c d, v = .ref T ∧ H T = none ∧ H' = upd H T (.tup [.str (ch c), .str (ch d)]) ∧ ((sl x).zip (sl y))[i]? = some (c, d)) := by
  have e : ((sl x).zip (sl y)).length = min x.cps.size y.cps.size := by simp
  rw [e]
  refine walk_zss.mono (fun _ h => h) fun i H v H' hi _ ⟨T, a, b, h1, h2, h3, h4, h5⟩ => ?_
  dsimp only at h4 h5
  cases ea : x.cps[i]? with
  | none => rw [ea] at h4; cases h4
  | some c =>
    cases eb : y.cps[i]? with
    | none => rw [eb] at h5; cases h5
    | some d =>
      rw [ea] at h4
      rw [eb] at h5
      have h4' : V.str (ch c) = a := Option.some.inj h4
      have h5' : V.str (ch d) = b := Option.some.inj h5
      refine ⟨T, c, d, h1, h2, by rw [h3, ← h4', ← h5'], ?_⟩
      rw [List.getElem?_zip_eq_some]
      exact ⟨by simpa using ea, by simpa using eb⟩
theorem walkZl {K : PySem.W.Frag} {x : Str} {b : Addr} {ys : List V} : Walk (ItZsl K x b) ((sl x).zip ys).length (fun H => H b = some (.lst ys))
    (fun i H v H' => ∃ T c w, v = .ref T ∧ H T = none ∧ H' = upd H T (.tup [.str (ch c), w]) ∧ ((sl x).zip ys)[i]? = some (c, w)) := by
  have e : ((sl x).zip ys).length = min x.cps.size ys.length := by simp
  rw [e]
  refine walk_zsl.mono (fun _ h => SqL.of h) fun i H v H' hi _ ⟨T, a, w, h1, h2, h3, h4, h5⟩ => ?_
  dsimp only at h4 h5
  cases ea : x.cps[i]? with
  | none => rw [ea] at h4; cases h4
  | some c =>
    rw [ea] at h4
    have h4' : V.str (ch c) = a := Option.some.inj h4
    refine ⟨T, c, w, h1, h2, by rw [h3, ← h4'], ?_⟩
    rw [List.getElem?_zip_eq_some]
    exact ⟨by simpa using ea, h5⟩
theorem walkL {K : PySem.W.Frag} {a : Addr} {xs : List V} : Walk (Itl K a) xs.length (fun H => H a = some (.lst xs)) (YAt xs) := walk_list.mono (fun _ h => SqL.of h) fun _ _ _ _ _ _ y => y
theorem walkT {K : PySem.W.Frag} {a : Addr} {xs : List V} : Walk (Itt K a) xs.length (fun H => H a = some (.tup xs)) (YAt xs) := walk_tup.mono (fun _ h => SqT.of h) fun _ _ _ _ _ _ y => y
theorem walkE {K : PySem.W.Frag} {a : Addr} {xs : List V} : Walk (Ite K a) xs.length (fun H => H a = some (.lst xs))
    (fun i H v H' => ∃ T x, v = .ref T ∧ H T = none ∧ H' = upd H T (.tup [.int (i : Nat), x]) ∧ xs[i]? = some x) :=
  walk_enum.mono (fun _ h => SqL.of h) fun i H v H' _ _ ⟨T, x, y, h1, h2, h3, h4, h5⟩ => ⟨T, y, h1, h2, by rw [h3, ← Option.some.inj h4], h5⟩
/-! ### rows -/
def ovN (p : Nat × Nat) : Nat := if p.1 = 46 then p.2 else p.1
def ovr (x y : Str) : Str := mkS (((sl x).zip (sl y)).map ovN)
def ltN (a : Nat) : Nat := if a = 46 then 46 else 43
def lotS (x : Str) : Str := mkS ((sl x).map ltN)
def blk (n : Nat) : Str := mkS (List.replicate n 46)
theorem ovr_sl (x y : Str) : sl (ovr x y) = ((sl x).zip (sl y)).map ovN := sl_mk _
theorem ovr_len {x y : Str} (h : x.length = y.length) : (ovr x y).length = x.length := by
  rw [len_sl, len_sl] at h
  rw [len_sl, ovr_sl, len_sl, List.length_map, List.length_zip, h, Nat.min_self]
theorem blk_len (n : Nat) : (blk n).length = n := by rw [blk, len_mk, List.length_replicate]
end Nt
/-! Data by their types; data compared. -/
namespace Nt
open PySem PySem.Spec PyProof.Rows L2
def Dat.ty : Dat → String
  | .non => "NoneType"
  | .bl _ => "bool"
  | .int _ => "int"
  | .str _ => "str"
  | .lst _ => "list"
  | .tup _ => "tuple"
  | .dct => "dict"
def tyNames : List String := ["NoneType", "bool", "int", "str", "list", "tuple", "dict"]
theorem Dat.ty_mem (d : Dat) : d.ty ∈ tyNames := by cases d <;> simp [Dat.ty, tyNames]
def isTy (t c : String) : Bool := decide (t = c) || (decide (t = "bool") && decide (c = "int"))
theorem kit_all : ∀ t ∈ tyNames, ∀ c ∈ ["bool", "int", "str", "list", "tuple", "dict"], kitB t c = some (isTy t c) := by decide +kernel
abbrev Dat.isT (d : Dat) (c : String) : Bool := isTy d.ty c
theorem Is.tyN {M H : Hp} {d : Dat} {v : V} (s : Same M H) (h : Is M d v) : TyN v H d.ty := by
  cases d with
  | non => rw [show v = .non from h]; rfl
  | bl b => rw [show v = .bl b from h]; rfl
  | int i => rw [show v = .int i from h]; rfl
  | str x => rw [show v = .str x from h]; rfl
  | lst ds => obtain ⟨a, vs, e, q, _⟩ := h; rw [e]; exact .inl ⟨rfl, vs, s _ _ q⟩
  | tup ds => obtain ⟨a, vs, e, q, _⟩ := h; rw [e]; exact .inr (.inl ⟨rfl, vs, s _ _ q⟩)
  | dct => obtain ⟨a, e, q⟩ := h; rw [e]; exact .inr (.inr ⟨rfl, q.elim (fun ⟨kvs, q⟩ => .inl ⟨kvs, s _ _ q⟩) fun ⟨kvs, q⟩ => .inr ⟨kvs, s _ _ q⟩⟩)
section
variable {M H : Hp} {Q : VK} {d : Dat} {v : V} {c e : String}
theorem w_isi (s : Same M H) (h : Is M d v) (hc : c ∈ ["bool", "int", "str", "list", "tuple", "dict"]) (k : Q (.bl (d.isT c)) H) : qIsi [v, .ty c] H Q :=
  ⟨v, c, d.ty, d.isT c, rfl, h.tyN s, kit_all _ d.ty_mem _ hc, k⟩
theorem w_isi2 {tp : Addr} (s : Same M H) (h : Is M d v) (ht : H tp = some (.tup [.ty c, .ty e])) (hc : c ∈ ["bool", "int", "str", "list", "tuple", "dict"]) (he : e ∈ ["bool", "int", "str", "list", "tuple", "dict"]) (k : Q (.bl (d.isT c || d.isT e)) H) : qIsi2 [v, .ref tp] H Q :=
  ⟨v, tp, c, e, d.ty, _, _, rfl, ht, h.tyN s, kit_all _ d.ty_mem _ hc, kit_all _ d.ty_mem _ he, k⟩
/-- isinstance(v, (c, e)) with the tuple made on the way -/
theorem w_isi2n {M0 H0 : Hp} {ex : Addr → Prop} (S : Stp ex M0 H0 M H) (h : Is M d v) (hc : c ∈ ["bool", "int", "str", "list", "tuple", "dict"]) (he : e ∈ ["bool", "int", "str", "list", "tuple", "dict"])
    (k : ∀ p H', H p = none → Stp ex M0 H0 M H' → H' = upd H p (.tup [.ty c, .ty e]) → Q (.bl (d.isT c || d.isT e)) H') :
    ([V.ty c, .ty e] : List V).length ≤ sizeLine ∧ ∀ p, H p = none → qIsi2 [v, .ref p] (upd H p (.tup [.ty c, .ty e])) Q :=
  ⟨by show 2 ≤ sizeLine; decide, fun p hp => w_isi2 (S.new _ hp).mh h upd_same hc he (k p _ hp (S.new _ hp) rfl)⟩
end
/-- cells -/
abbrev cellD (c : Str × Nat) : Dat := .tup [.str c.1, .int (c.2 : Int)]
abbrev cellsD (cs : List (Str × Nat)) : Dat := .lst (cs.map cellD)
theorem Is.cell {M : Hp} {c : Str × Nat} {v : V} (h : Is M (cellD c) v) : ∃ a, v = .ref a ∧ M a = some (.tup [.str c.1, .int (c.2 : Int)]) := by
  obtain ⟨a, vs, e, q, v1, r1, e1, q1, v2, r2, e2, q2, q3⟩ := h
  rw [show r2 = [] from q3] at e2
  rw [e2, show v2 = .int (c.2 : Int) from q2] at e1
  rw [e1, show v1 = .str c.1 from q1] at q
  exact ⟨a, e, q⟩
theorem Is.tup1 {M : Hp} {ds : List Dat} {v : V} (h : Is M (.tup ds) v) : ∃ a vs, v = .ref a ∧ M a = some (.tup vs) ∧ IsA M ds vs := h
theorem Is.lst1 {M : Hp} {ds : List Dat} {v : V} (h : Is M (.lst ds) v) : ∃ a vs, v = .ref a ∧ M a = some (.lst vs) ∧ IsA M ds vs := h
end Nt
/-! The bag that is drawn from; cuts; lists of lists that still grow. -/
namespace Nt
open PySem PySem.Spec PyProof.Rows L2
/-- what follows a statement is told by I alone -/
theorem w_cut {t u : TS} {D : Ends} {σ : L2.St} {H : Hp} (I : L2.St → Hp → Prop) (h : ∀ σ' H', I σ' H' → u D σ' H') (k : ∀ U : L2.St → Hp → Prop, (∀ σ' H', I σ' H' → U σ' H') → t { D with nx := U } σ H) : tSeq t u D σ H := k _ h
structure Bag (M H : Hp) (b : Addr) : Prop where
  mb : M b = none
  ex : ∃ (a : Addr) (xs : List Int) (i r m c : Int), H b = some (.lst [.ref a, .int i, .int r, .int m, .int c]) ∧ M a = some (.lst (xs.map V.int)) ∧ 0 ≤ i ∧ 0 ≤ r ∧ 0 ≤ m ∧ m < 2147483629
abbrev exB (b : Addr) : Addr → Prop := fun a => a = b
section
variable {M H M' H' M1 H1 : Hp} {b p : Addr} {o : HO}
theorem Bag.has (B : Bag M H b) : H b ≠ none := by
  obtain ⟨a, xs, i, r, m, c, h, _⟩ := B.ex
  rw [h]
  exact Option.some_ne_none _
theorem Bag.keep (B : Bag M H b) (S : Stp no M H M' H') : Bag M' H' b := by
  obtain ⟨a, xs, i, r, m, c, h, h2, h3⟩ := B.ex
  exact ⟨S.fr b B.mb B.has, a, xs, i, r, m, c, S.same _ _ h, S.mm _ _ h2, h3⟩
theorem Bag.put (B : Bag M H b) (hp : M p = none) (ne : p ≠ b) : Bag M (L2.upd H p o) b := by
  obtain ⟨a, xs, i, r, m, c, h, h2, h3⟩ := B.ex
  exact ⟨B.mb, a, xs, i, r, m, c, by rw [upd_ne (Ne.symm ne)]; exact h, h2, h3⟩
theorem Bag.ne (B : Bag M H b) (hp : H p = none) : p ≠ b := fun z => B.has (by rw [← z]; exact hp)
theorem Bag.new (B : Bag M H b) (s : Same M H) (hp : H p = none) : Bag M (L2.upd H p o) b := B.put (none_of_same s hp) (B.ne hp)
end
end Nt
namespace Nt
open PySem PySem.Spec PyProof.Rows L2
section
variable {M H M' H' M1 H1 : Hp} {b p : Addr} {o : HO}
theorem Bag.lay (B : Bag M H b) (s : Same M H) (hp : H p = none) : Bag (upd M p o) (upd H p o) b := B.keep ((Stp.refl s).lay o hp)
theorem Bag.fix (B : Bag M H b) (ne : p ≠ b) (hp : M p = none ∨ M p = some o) : Bag (upd M p o) H b := by
  obtain ⟨a, xs, i, r, m, c, h, h2, h3⟩ := B.ex
  refine ⟨by rw [upd_ne (Ne.symm ne)]; exact B.mb, a, xs, i, r, m, c, h, ?_, h3⟩
  by_cases q : a = p
  · subst q
    rcases hp with z | z
    · rw [z] at h2; cases h2
    · rw [upd_same, ← z, h2]
  · rw [upd_ne q]; exact h2
abbrev RetB (b : Addr) (M H : Hp) (Q : VK) (P : Dat → Prop) : Prop := ∀ d v M' H', P d → Stp (exB b) M H M' H' → Bag M' H' b → Is M' d v → Q v H'
theorem RetB.of {M0 H0 : Hp} {Q : VK} {P P' : Dat → Prop} (k : ∀ d v M' H', P d → Stp (exB b) M0 H0 M' H' → Bag M' H' b → Is M' d v → Q v H') (S : Stp (exB b) M0 H0 M H) (h : ∀ d, P' d → P d) : RetB b M H Q P' :=
  fun d v M' H' p S' B i => k d v M' H' (h d p) (S.trans S') B i
end
def isI (n : Int) (d : Dat) : Prop := ∃ k : Nat, d = .int k ∧ (k : Int) < n
theorem isI_fmod {x n : Int} (hn : 0 < n) : isI n (.int (x.fmod n)) := by
  have h1 := Int.fmod_nonneg_of_pos x hn
  have h2 := Int.fmod_lt_of_pos x hn
  exact ⟨(x.fmod n).toNat, by rw [Int.toNat_of_nonneg h1], by rw [Int.toNat_of_nonneg h1]; exact h2⟩
end Nt
namespace Nt
open PySem PySem.Spec PyProof.Rows L2
section
variable {K : PySem.W.Frag} {σ : L2.St} {H : Hp} {Q : VK} {p : Addr} {xs : List V} {v : V} {i j : Int} {k : Nat}
theorem w_ixl (h : H p = some (.lst xs)) (e : atI xs j = some v) (k : Q v H) : qIxL (.ref p) (.int j) H Q := ⟨p, xs, j, v, rfl, rfl, h, e, k⟩
theorem w_ixt (h : H p = some (.tup xs)) (e : atI xs j = some v) (k : Q v H) : qIxT (.ref p) (.int j) H Q := ⟨p, xs, j, v, rfl, rfl, h, e, k⟩
theorem w_int1 {P : Int → Prop} {R : Prop} (k : P i) : (∃ a, [V.int i] = [V.int a] ∧ P a) ∨ R := .inl ⟨i, rfl, k⟩
theorem w_mod (h : j ≠ 0) (k : Q (.int (i.fmod j)) H) : rI (fun _ j => j ≠ 0) (fun i j => .int (i.fmod j)) (.int i) (.int j) H Q := ⟨i, j, rfl, rfl, h, k⟩
theorem w_div (h : j ≠ 0) (h2 : j.natAbs < 1073741824) (k : Q (.int (i.fdiv j)) H) : rI CDivN (fun i j => .int (i.fdiv j)) (.int i) (.int j) H Q := ⟨i, j, rfl, rfl, ⟨h, h2⟩, k⟩
theorem w_mulR (h : -(2 ^ 64) < j ∧ j < 2 ^ 64) (k : Q (.int (i * j)) H) : rI CMul (fun i j => .int (i * j)) (.int i) (.int j) H Q := ⟨i, j, rfl, rfl, .inr h, k⟩
theorem w_pow (h : 0 ≤ j ∧ j ≤ 1000000) (h2 : i.natAbs < 2 ^ 64) (k : Q (.int (i ^ j.toNat)) H) : rI CPow (fun i j => .int (i ^ j.toNat)) (.int i) (.int j) H Q := ⟨i, j, rfl, rfl, ⟨h.1, h.2, h2⟩, k⟩
theorem w_gsub {to ti : TE} {t : TSet} {Z : L2.St → Hp → Prop} (k : to σ H fun o H1 => ti σ H1 fun i H2 => t o i v H2 fun H3 => Z σ H3) : gSub to ti t v σ H Z := k
theorem w_setl {Z : Hp → Prop} (h : H p = some (.lst xs)) (e : ixN xs.length j = some k) (q : Z (upd H p (.lst (xs.set k v)))) : rSetL (.ref p) (.int j) v H Z := ⟨p, xs, j, k, rfl, rfl, h, e, q⟩
theorem w_gtup2 {T : Addr} {a b : V} {t : TGs} {Z : L2.St → Hp → Prop} (k : t [a, b] σ (upd H T (.tup [a, b])) Z) : gTup K 2 t (.ref T) σ (upd H T (.tup [a, b])) Z := ⟨T, [a, b], rfl, SqT.of upd_same, rfl, k⟩
theorem w_gcons {t : TG} {u : TGs} {r : List V} {Z : L2.St → Hp → Prop} (k : t v σ H fun σ' H' => u r σ' H' Z) : gCons t u (v :: r) σ H Z := ⟨v, r, rfl, k⟩
theorem w_gnil {Z : L2.St → Hp → Prop} (k : Z σ H) : gNil [] σ H Z := ⟨rfl, k⟩
theorem w_litT {n : Nat} {Z : Addr → Prop} (h : n.ble 30 = true) (k : ∀ p, H p = none → Z p) : n ≤ sizeLine ∧ ∀ p, H p = none → Z p := ⟨Nat.le_trans (Nat.le_of_ble_eq_true h) (by decide), k⟩
end
end Nt
namespace Nt
open PySem PySem.Spec PyProof.Rows L2
theorem atI_nat {α : Type} {xs : List α} {i : Nat} {x : α} (h : xs[i]? = some x) : atI xs (i : Int) = some x := by
  have hl := (List.getElem?_eq_some_iff.mp h).1
  show (ixN xs.length (i : Int)).bind _ = _
  have e : ixN xs.length (i : Int) = some i := by
    unfold ixN
    simp
    omega
  rw [e]
  exact h
theorem atI_map {xs : List Int} {i : Int} {x : Int} (h0 : 0 ≤ i) (h : xs[i.toNat]? = some x) : atI (xs.map V.int) i = some (.int x) := by
  obtain ⟨n, rfl⟩ : ∃ n : Nat, i = n := ⟨i.toNat, by omega⟩
  exact atI_nat (by simpa using h)
end Nt
namespace Nt
open PySem PySem.Spec PyProof.Rows L2
theorem dot_ch : ("." : Str) = ch 46 := by decide +kernel
/-- a list or a tuple -/
def IsQ (M : Hp) (ds : List Dat) (v : V) : Prop := ∃ a vs, v = .ref a ∧ (M a = some (.lst vs) ∨ M a = some (.tup vs)) ∧ IsA M ds vs
theorem Is.q {M : Hp} {ds : List Dat} {v : V} (h : Is M (.lst ds) v) : IsQ M ds v := by
  obtain ⟨a, vs, e, q, r⟩ := h
  exact ⟨a, vs, e, .inl q, r⟩
theorem Is.qt {M : Hp} {ds : List Dat} {v : V} (h : Is M (.tup ds) v) : IsQ M ds v := by
  obtain ⟨a, vs, e, q, r⟩ := h
  exact ⟨a, vs, e, .inr q, r⟩
theorem IsQ.mono {M M' : Hp} (s : Same M M') {ds : List Dat} {v : V} (h : IsQ M ds v) : IsQ M' ds v := by
  obtain ⟨a, vs, e, q, r⟩ := h
  exact ⟨a, vs, e, q.imp (s _ _) (s _ _), r.mono s⟩
theorem w_ixq {H : Hp} {a : Addr} {vs : List V} {v : V} {k : Nat} {Q : VK} (h : H a = some (.lst vs) ∨ H a = some (.tup vs)) (e : vs[k]? = some v) (q : Q v H) : qIxQ (.ref a) (.int k) H Q :=
  h.elim (fun h => .inl ⟨a, vs, k, v, rfl, rfl, h, atI_nat e, q⟩) fun h => .inr (.inl ⟨a, vs, k, v, rfl, rfl, h, atI_nat e, q⟩)
theorem IsA.at' {M : Hp} {ds : List Dat} {vs : List V} {i : Nat} (h : IsA M ds vs) (hi : i < ds.length) : ∃ v d, vs[i]? = some v ∧ ds[i]? = some d ∧ d ∈ ds ∧ Is M d v := by
  have e := List.getElem?_eq_getElem hi
  obtain ⟨v, a, b⟩ := h.at e
  exact ⟨v, _, a, e, List.getElem_mem hi, b⟩
/-- what is taken out, and what is left -/
def Sub (n : Nat) (ds es : List Dat) : Prop := ∃ r, (es ++ r).Perm ds ∧ es.length = n
/-- a rule's bound -/
theorem line_of {n : Nat} (h : n ≤ 1000000) : n ≤ sizeLine := Nat.le_trans h (by decide)
theorem line_lt {n : Nat} (h : n ≤ 1000000) : n < sizeLine := Nat.lt_of_le_of_lt h (by decide)
/-- what a list of texts keeps -/
def nodot (x : Str) : Bool := !decide (46 ∈ sl x)
def fullS (xs : List Str) : List Str := xs.filter nodot
section
variable {M H M' H' M0 H0 : Hp} {ex : Addr → Prop} {Q : VK} {D : Addr}
theorem ret_strs {xs : List Str} {acc : List V} (k : Ret M0 H0 Q (dS xs)) (S : Stp no M0 H0 M H) (hD : H0 D = none) (h : H D = some (.lst acc)) (e : acc = xs.map V.str) : Q (.ref D) H :=
  k _ _ _ (S.fix h hD) (Is.of_strs (by rw [upd_same, e]))
theorem len_tf {α : Type} {l : List α} {p : α → Bool} {i n : Nat} {f : α → V} (h : l.length ≤ n) : (((l.take i).filter p).map f).length ≤ n := by
  rw [List.length_map]
  exact Nat.le_trans (List.length_filter_le _ _) (Nat.le_trans (by rw [List.length_take]; exact Nat.min_le_right _ _) h)
theorem len_tm {α : Type} {l : List α} {i n : Nat} {f : α → V} (h : l.length ≤ n) : ((l.take i).map f).length ≤ n := by
  rw [List.length_map]
  exact Nat.le_trans (by rw [List.length_take]; exact Nat.min_le_right _ _) h
theorem map_at {α : Type} {l : List α} {f : α → V} {i : Nat} {v : V} (h : (l.map f)[i]? = some v) : ∃ x, l[i]? = some x ∧ v = f x := by
  rw [List.getElem?_map] at h
  cases e : l[i]? with
  | none => rw [e] at h; cases h
  | some x => rw [e] at h; exact ⟨x, rfl, (Option.some.inj h).symm⟩
end
end Nt
namespace Nt
open PySem PySem.Spec PyProof.Rows L2
section
variable {σ : L2.St} {H : Hp} {D : Ends} {ta : TA}
theorem w_par {i j : Nat} (k : ta σ H fun vs H1 => ∃ v w, vs = [v, w] ∧ D.nx ((σ.set i (some v)).set j (some w)) H1) : tPar i j ta D σ H := k
theorem w_pair {v w : V} {P : V → V → Prop} (k : P v w) : ∃ a b, [v, w] = [a, b] ∧ P a b := ⟨v, w, rfl, k⟩
theorem w_min2 {i j : Int} {P : Int → Int → Prop} (k : P i j) : ∃ a b, [V.int i, V.int j] = [V.int a, V.int b] ∧ P a b := ⟨i, j, rfl, k⟩
theorem w_r1 {n : Nat} {P : Int → Prop} (h : n ≤ 1000000) (k : P n) : ∃ a, [V.int n] = [V.int a] ∧ -(2 ^ 62) ≤ a ∧ a < 2 ^ 62 ∧ P a := ⟨n, rfl, by omega, by omega, k⟩
theorem w_rng {R : It → Hp → Prop} (k : ta σ H fun vs H1 => ∃ j : Int, vs = [.int j] ∧ -(2 ^ 62) ≤ j ∧ j < 2 ^ 62 ∧ R (Itr 0 j.toNat) H1) : iRng1 ta σ H R := k
end
section
variable {M0 H0 M H M' H' : Hp} {b p : Addr} {o : HO}
theorem Stp.keepB (S : Stp (exB b) M H M' H') (m : M p = none) (h : H p = some o) (ne : p ≠ b) : M' p = none ∧ H' p = some o :=
  ⟨S.fr p m (by rw [h]; exact Option.some_ne_none o), S.hh p o ne h⟩
theorem Stp.keep (S : Stp no M H M' H') (m : M p = none) (h : H p = some o) : M' p = none ∧ H' p = some o :=
  ⟨S.fr p m (by rw [h]; exact Option.some_ne_none o), S.hh p o (fun z => z) h⟩
end
theorem perm_erase {α : Type} {d : α} : ∀ {l : List α} {k : Nat}, l[k]? = some d → (d :: l.eraseIdx k).Perm l
  | [], k, h => by simp at h
  | a :: l, 0, h => by
    have e : a = d := by simpa using h
    rw [e]
    exact List.Perm.refl _
  | a :: l, k + 1, h => by
    have r := perm_erase (l := l) (k := k) (by simpa using h)
    exact (List.Perm.swap a d _).trans (r.cons a)
theorem sub_step {ds es l : List Dat} {k : Nat} {d : Dat} (hp : (es ++ l).Perm ds) (e : l[k]? = some d) : ((es ++ [d]) ++ l.eraseIdx k).Perm ds := by
  refine List.Perm.trans ?_ hp
  rw [List.append_assoc]
  exact List.Perm.append_left es (perm_erase e)
theorem seqIx {n k : Nat} (h : k < n) : seqIndex? (k : Int) n = some k := by
  unfold seqIndex?
  simp
  omega
theorem two_ne {H : Hp} {l f : Addr} {o : HO} (h : upd H l o f = none) : f ≠ l ∧ H f = none := by
  have q : f ≠ l := fun z => by rw [z, upd_same] at h; cases h
  exact ⟨q, by rw [upd_ne q] at h; exact h⟩
end Nt
namespace Nt
open PySem PySem.Spec PyProof.Rows L2
theorem same_upd {M : Hp} {p : Addr} {o : HO} (h : M p = none) : Same M (upd M p o) := fun a u e => (upd_ne (ne_of_none e h)).trans e
end Nt
namespace Nt
open PySem PySem.Spec PyProof.Rows L2
section
variable {K : PySem.W.Frag} {σ : L2.St} {H : Hp} {Q : VK} {J : It} {n : Nat} {G : Hp → Prop} {Y : Nat → Hp → V → Hp → Prop} {g : TG} {tt : TT} {te tk tv : TE} {vs : List Nat} {M0 H0 M : Hp} {b : Addr}
/-- what a list comprehension that draws has made so far -/
structure LcT (b : Addr) (M0 H0 : Hp) (D : Addr) (A : List V → Hp → Prop) (H : Hp) : Prop where
  ex : ∃ M acc, Stp (exB b) M0 H0 M H ∧ Bag M H b ∧ M D = none ∧ H D = some (.lst acc) ∧ A acc M
abbrev LcB (b : Addr) (M0 H0 : Hp) (D : Addr) (A : List V → Hp → Prop) (y : V) (H : Hp) : Prop := ∃ acc, H D = some (.lst acc) ∧ acc.length < sizeLine ∧ LcT b M0 H0 D A (upd H D (.lst (acc ++ [y])))
theorem LcB.of {D : Addr} {A : List V → Hp → Prop} {y : V} {acc : List V} (hD : H0 D = none) (ne : D ≠ b) (S : Stp (exB b) M0 H0 M H) (B : Bag M H b) (m : M D = none) (h : H D = some (.lst acc)) (hl : acc.length ≤ 1000000) (a : A (acc ++ [y]) M) : LcB b M0 H0 D A y H :=
  ⟨acc, h, line_lt hl, M, _, S.put _ m (.inl hD), B.put m ne, m, upd_same, a⟩
theorem LcT.of {D : Addr} {A : List V → Hp → Prop} {acc : List V} (S : Stp (exB b) M0 H0 M H) (B : Bag M H b) (m : M D = none) (h : H D = some (.lst acc)) (a : A acc M) : LcT b M0 H0 D A H := ⟨M, acc, S, B, m, h, a⟩
theorem lc_goB (w : Walk J n G Y) (s0 : Same M H) (B : Bag M H b) (A : Nat → List V → Hp → Prop) (a0 : A 0 [] M) (hG : ∀ M' H', Stp (exB b) M H M' H' → G H')
    (turn : ∀ i x acc M1 H1 H1' D, i < n → Stp (exB b) M H M1 H1 → Bag M1 H1 b → H D = none → D ≠ b → M1 D = none → H1 D = some (.lst acc) → A i acc M1 → Y i H1 x H1' →
      g x (wipe σ vs) H1' fun σ2 H2 => wipe σ2 vs = wipe σ vs ∧ tt σ2 H2 fun c H3 => if c = true then te σ2 H3 fun y H4 => LcB b M H D (A (i + 1)) y H4 else LcT b M H D (A (i + 1)) H3)
    (done : ∀ D acc M1 H1, H D = none → D ≠ b → Stp (exB b) M H M1 H1 → Bag M1 H1 b → M1 D = none → H1 D = some (.lst acc) → A n acc M1 → Q (.ref D) H1) :
    LcG J g tt te vs σ Q H := by
  intro D hD
  have R := Stp.refl (ex := exB b) s0
  have ne := B.ne hD
  exact lc_it w (fun i H' => LcT b M H D (A i) H') ⟨M, [], R.new _ hD, B.new s0 hD, R.mfree hD, upd_same, a0⟩ (fun i H' _ ⟨M', acc, S', _, _, _, _⟩ => hG M' H' S')
    (fun i x H1 H1' hi ⟨M1, acc, S1, B1, m1, h1, a1⟩ hy => turn i x acc M1 H1 H1' D hi S1 B1 hD ne m1 h1 a1 hy) (fun H1 ⟨M1, acc, S1, B1, m1, h1, a1⟩ => done D acc M1 H1 hD ne S1 B1 m1 h1 a1)
/-- in, not in: a text among texts -/
theorem inV_strs (x : Str) : ∀ xs : List Str, inV (.str x) (xs.map V.str) = decide (x ∈ xs)
  | [] => by simp [inV]
  | y :: xs => by
    have ih := inV_strs x xs
    unfold inV at ih ⊢
    rw [List.map_cons, List.any_cons, ih]
    by_cases q : x = y
    · subst q
      simp [eqV]
    · have q' : ¬ y = x := fun z => q z.symm
      simp [eqV, q, q']
theorem flat_strs (xs : List Str) : (xs.map V.str).all flatV = true := by
  rw [List.all_map]
  exact List.all_eq_true.mpr fun _ _ => rfl
theorem w_inS {p : Addr} {x : Str} {xs : List Str} (h : H p = some (.lst (xs.map V.str)) ∨ H p = some (.tup (xs.map V.str))) (k : Q (.bl (decide (x ∈ xs))) H) : qIn false (.str x) (.ref p) H Q :=
  ⟨p, _, rfl, h, rfl, flat_strs xs, by
    show Q (.bl (inV _ _)) H
    rw [inV_strs]
    exact k⟩
theorem w_notInS {p : Addr} {x : Str} {xs : List Str} (h : H p = some (.lst (xs.map V.str)) ∨ H p = some (.tup (xs.map V.str))) (k : Q (.bl (!decide (x ∈ xs))) H) : qIn true (.str x) (.ref p) H Q :=
  ⟨p, _, rfl, h, rfl, flat_strs xs, by
    show Q (.bl (!inV _ _)) H
    rw [inV_strs]
    exact k⟩
end
/-! names -/
def low (c : Nat) : Bool := decide (97 ≤ c) && decide (c ≤ 122)
def NameOk (x : Str) : Prop := 1 ≤ (sl x).length ∧ (sl x).length ≤ 6 ∧ ∀ c ∈ sl x, low c = true
def LET : Str := "qhxbtmzkrwcnfdyjvgpsaouile"
theorem LET_low : ∀ c ∈ sl LET, low c = true := by decide +kernel
theorem LET_len : (sl LET).length = 26 := by decide +kernel
theorem LET_nd : (sl LET).Nodup := by decide +kernel
theorem LET_free {xs : List Str} (h : xs.length < 26) : ∃ c, c ∈ sl LET ∧ ch c ∉ xs := by
  apply Classical.byContradiction
  intro q
  have all : ∀ c ∈ sl LET, ch c ∈ xs := fun c hc => Classical.byContradiction fun z => q ⟨c, hc, z⟩
  have nd : ((sl LET).map ch).Nodup := by decide +kernel
  have := List.Nodup.length_le_of_subset nd (fun x hx => by
    obtain ⟨c, hc, rfl⟩ := List.mem_map.mp hx
    exact all c hc)
  rw [List.length_map, LET_len] at this
  omega
end Nt
namespace Nt
open PySem PySem.Spec PyProof.Rows L2
theorem w_gtup3 {K : PySem.W.Frag} {σ : L2.St} {H : Hp} {T : Addr} {a b c : V} {t : TGs} {Z : L2.St → Hp → Prop} (k : t [a, b, c] σ (upd H T (.tup [a, b, c])) Z) : gTup K 3 t (.ref T) σ (upd H T (.tup [a, b, c])) Z := ⟨T, [a, b, c], rfl, SqT.of upd_same, rfl, k⟩
theorem join_strs {cs : List Nat} {acc : List V} (h : acc = cs.map fun c => V.str (ch c)) : acc = (cs.map ch).map V.str := by rw [h]; simp
end Nt
namespace Nt
theorem nodup_snoc {α : Type} {l : List α} {a : α} (h : l.Nodup) (n : a ∉ l) : (l ++ [a]).Nodup := by
  rw [List.nodup_append]
  refine ⟨h, List.nodup_cons.mpr ⟨by simp, List.nodup_nil⟩, ?_⟩
  intro x hx y hy e
  rw [List.mem_singleton.mp hy] at e
  exact n (e ▸ hx)
end Nt
namespace Nt
open PySem PySem.Spec PyProof.Rows L2
theorem w_inti {i : Int} {P : Int → Prop} (k : P i) : ∃ a, V.int i = .int a ∧ P a := ⟨i, rfl, k⟩
section
variable {σ : L2.St} {H : Hp} {Q : VK} {ta tb tc te ty td : TE} {D : Ends}
theorem w_dIn (k : ty σ H fun y H1 => td σ H1 fun x H2 => ∃ a o, x = .ref a ∧ DGet H2 a y o ∧ Q (.bl o.isSome) H2) : tDIn ty td σ H Q := k
theorem w_dNotIn (k : ty σ H fun y H1 => td σ H1 fun x H2 => ∃ a o, x = .ref a ∧ DGet H2 a y o ∧ Q (.bl (!o.isSome)) H2) : tDNotIn ty td σ H Q := k
theorem w_dPut (k : tc σ H fun v H1 => td σ H1 fun x H2 => ty σ H2 fun y H3 => ∃ a H4, x = .ref a ∧ DPut H3 a y v H4 ∧ D.nx σ H4) : sDPut td ty tc D σ H := k
theorem w_dGet (k : td σ H fun x H1 => ty σ H1 fun y H2 => ∃ a v, x = .ref a ∧ DGet H2 a y (some v) ∧ Q v H2) : tDGet td ty σ H Q := k
theorem w_one {tk tv : TE} {Z : List (V × V) → Hp → Prop} (k : tk σ H fun x H1 => tv σ H1 fun y H2 => Z [(x, y)] H2) : tPairs [(tk, tv)] σ H Z := k
end
end Nt
/-! Dicts whose keys are texts; the rows that seeds make; sorting. -/
namespace Nt
open PySem PySem.Spec PyProof.Rows L2
def kd (f : Str → V) (xs : List Str) : List (Key × V) := xs.map fun x => (Sum.inr x, f x)
theorem kd_len (f : Str → V) (xs : List Str) : (kd f xs).length = xs.length := List.length_map _
theorem kd_val (f : Str → V) (x : Str) : ∀ xs : List Str, valV (kd f xs) (Sum.inr x) = if x ∈ xs then some (f x) else none
  | [] => rfl
  | y :: xs => by
    by_cases q : y = x
    · subst q
      rw [if_pos List.mem_cons_self]
      exact valV_pos rfl
    · have : (Sum.inr y : Key) ≠ Sum.inr x := fun z => q (Sum.inr.inj z)
      show valV ((Sum.inr y, f y) :: kd f xs) _ = _
      rw [valV_neg this, kd_val f x xs]
      have q' : ¬ x = y := fun z => q z.symm
      simp [q']
theorem kd_put (f : Str → V) (x : Str) (xs : List Str) (h : x ∉ xs) : putK (kd f xs) (Sum.inr x) (f x) = kd f (xs ++ [x]) := by
  rw [putK_new _ (by rw [kd_val, if_neg h])]
  simp [kd]
abbrev yes : Str → V := fun _ => .bl true
section
variable {σ : L2.St} {H : Hp} {Q : VK} {ta tb tc te ty td : TE} {D : Ends} {a : Addr} {f : Str → V} {xs : List Str} {x : Str}
theorem kd_has {P : Option V → Prop} (h : H a = some (.dK (kd f xs))) (k1 : x ∈ xs → P (some (f x))) (k2 : x ∉ xs → P none) : ∃ b o, V.ref a = .ref b ∧ DGet H b (.str x) o ∧ P o :=
  ⟨a, _, rfl, DGet.k (k := Sum.inr x) h, by
    rw [kd_val]
    by_cases q : x ∈ xs
    · rw [if_pos q]; exact k1 q
    · rw [if_neg q]; exact k2 q⟩
theorem kd_get {P : V → Prop} (h : H a = some (.dK (kd f xs))) (hx : x ∈ xs) (k : P (f x)) : ∃ b v, V.ref a = .ref b ∧ DGet H b (.str x) (some v) ∧ P v :=
  ⟨a, f x, rfl, by
    have d := DGet.k (k := Sum.inr x) h
    rw [kd_val, if_pos hx] at d
    exact d, k⟩
theorem kd_set {v : V} {Z : Hp → Prop} (h : H a = some (.dK (kd f xs))) (hx : x ∉ xs) (hl : xs.length ≤ 1000000) (e : v = f x) (k : Z (upd H a (.dK (kd f (xs ++ [x]))))) : ∃ b H', V.ref a = .ref b ∧ DPut H b (.str x) v H' ∧ Z H' :=
  ⟨a, _, rfl, DPut.k (k := Sum.inr x) h (line_lt (by rw [kd_len]; exact hl)), by rw [e, kd_put f x xs hx]; exact k⟩
end
end Nt
namespace Nt
open PySem PySem.Spec PyProof.Rows L2
/-! ### the rows that seeds make, one found row after another -/
def addB (r : Str) (f : List Str) (s : Str) : List Str := if ovr s r ∈ f then f else f ++ [ovr s r]
def stepB (seeds : List Str) (r : Str) (f : List Str) : List Str := seeds.foldl (addB r) f
def itB (seeds : List Str) (z : Str) : Nat → List Str
  | 0 => [z]
  | n + 1 => match (itB seeds z n)[n]? with
    | none => itB seeds z n
    | some r => stepB seeds r (itB seeds z n)
section
variable {seeds : List Str} {r z : Str} {f : List Str} {n : Nat}
theorem fold_tk {α β : Type} {g : β → α → β} {l : List α} {j : Nat} {a : α} {b : β} (h : l[j]? = some a) : (l.take (j + 1)).foldl g b = g ((l.take j).foldl g b) a := by rw [tk_snoc h, List.foldl_append]; rfl
theorem addB_pre : ∃ t, addB r f z = f ++ t ∧ t.length ≤ 1 := by
  unfold addB
  split
  · exact ⟨[], by simp, by simp⟩
  · exact ⟨_, rfl, by simp⟩
theorem stepB_pre : ∀ (seeds f : List Str), ∃ t, stepB seeds r f = f ++ t ∧ t.length ≤ seeds.length
  | [], f => ⟨[], by simp [stepB], by simp⟩
  | s :: seeds, f => by
    obtain ⟨t, e, hl⟩ := stepB_pre seeds (addB r f s)
    obtain ⟨u, e2, hu⟩ := addB_pre (r := r) (f := f) (z := s)
    refine ⟨u ++ t, ?_, by rw [List.length_append, List.length_cons]; omega⟩
    show stepB seeds r (addB r f s) = _
    rw [e, e2, List.append_assoc]
theorem addB_nd (h : f.Nodup) (s : Str) : (addB r f s).Nodup := by
  unfold addB
  split
  · exact h
  · rename_i q
    exact nodup_snoc h q
theorem stepB_nd : ∀ (seeds : List Str) {f : List Str}, f.Nodup → (stepB seeds r f).Nodup
  | [], _, h => h
  | s :: seeds, f, h => stepB_nd seeds (addB_nd h s)
theorem addB_all {P : Str → Prop} (hf : ∀ x ∈ f, P x) {s : Str} (hs : P (ovr s r)) : ∀ x ∈ addB r f s, P x := by
  unfold addB
  split
  · exact hf
  · intro x hx
    rcases List.mem_append.mp hx with q | q
    · exact hf x q
    · rw [List.mem_singleton.mp q]; exact hs
theorem stepB_all {P : Str → Prop} : ∀ (seeds : List Str) {f : List Str}, (∀ x ∈ f, P x) → (∀ s ∈ seeds, P (ovr s r)) → ∀ x ∈ stepB seeds r f, P x
  | [], _, h, _ => h
  | s :: seeds, f, h, hs => stepB_all seeds (addB_all h (hs s List.mem_cons_self)) fun s' h' => hs s' (List.mem_cons_of_mem _ h')
theorem addB_has (s : Str) : ovr s r ∈ addB r f s := by
  unfold addB
  split
  · assumption
  · exact List.mem_append.mpr (.inr (List.mem_singleton.mpr rfl))
theorem stepB_sub {x : Str} (seeds : List Str) (h : x ∈ f) : x ∈ stepB seeds r f := by
  obtain ⟨t, e, _⟩ := stepB_pre (r := r) seeds f
  rw [e]
  exact List.mem_append.mpr (.inl h)
theorem stepB_has : ∀ (seeds : List Str) {f : List Str} {s : Str}, s ∈ seeds → ovr s r ∈ stepB seeds r f
  | s' :: seeds, f, s, h => by
    rcases List.mem_cons.mp h with q | q
    · rw [q]; exact stepB_sub seeds (addB_has s')
    · exact stepB_has seeds q
theorem itB_pre (n : Nat) : ∃ t, itB seeds z (n + 1) = itB seeds z n ++ t := by
  rw [itB]
  split
  · exact ⟨[], by simp⟩
  · obtain ⟨t, e, _⟩ := stepB_pre seeds (itB seeds z n)
    exact ⟨t, e⟩
theorem itB_pres (n : Nat) : ∀ k, ∃ t, itB seeds z (n + k) = itB seeds z n ++ t
  | 0 => ⟨[], by simp⟩
  | k + 1 => by
    obtain ⟨t, e⟩ := itB_pres n k
    obtain ⟨u, e2⟩ := itB_pre (seeds := seeds) (z := z) (n + k)
    exact ⟨t ++ u, by rw [← Nat.add_assoc, e2, e, List.append_assoc]⟩
theorem itB_le {n m : Nat} (h : n ≤ m) : (itB seeds z n).length ≤ (itB seeds z m).length := by
  obtain ⟨t, e⟩ := itB_pres (seeds := seeds) (z := z) n (m - n)
  have q : n + (m - n) = m := by omega
  rw [q] at e
  rw [e, List.length_append]
  omega
theorem itB_nd : ∀ n, (itB seeds z n).Nodup
  | 0 => List.nodup_cons.mpr ⟨by simp, List.nodup_nil⟩
  | n + 1 => by
    rw [itB]
    split
    · exact itB_nd n
    · exact stepB_nd seeds (itB_nd n)
theorem itB_all {P : Str → Prop} (hz : P z) (hs : ∀ x, P x → ∀ s ∈ seeds, P (ovr s x)) : ∀ n, ∀ x ∈ itB seeds z n, P x
  | 0 => by
    intro x hx
    rw [List.mem_singleton.mp hx]
    exact hz
  | n + 1 => by
    rw [itB]
    split
    · exact itB_all hz hs n
    · rename_i r h
      exact stepB_all seeds (itB_all hz hs n) fun s q => hs r (itB_all hz hs n r (mem_of_get h)) s q
/-- nothing comes when all is done -/
theorem itB_stay (h : (itB seeds z n).length ≤ n) : ∀ k, itB seeds z (n + k) = itB seeds z n
  | 0 => rfl
  | k + 1 => by
    have ih := itB_stay h k
    rw [← Nat.add_assoc, itB, ih]
    have e : (itB seeds z n)[n + k]? = none := List.getElem?_eq_none (by omega)
    rw [e]
theorem itB_first (n : Nat) : z ∈ itB seeds z n := by
  obtain ⟨t, e⟩ := itB_pres (seeds := seeds) (z := z) 0 n
  rw [Nat.zero_add] at e
  rw [e]
  exact List.mem_append.mpr (.inl (List.mem_singleton.mpr rfl))
/-- each row found before turn n has been gone through -/
theorem itB_has : ∀ {n i : Nat} {x s : Str}, i < n → (itB seeds z n)[i]? = some x → s ∈ seeds → ovr s x ∈ itB seeds z n
  | n + 1, i, x, s, hi, hx, hs => by
    obtain ⟨t, e⟩ := itB_pre (seeds := seeds) (z := z) n
    by_cases q : i < n
    · by_cases ql : i < (itB seeds z n).length
      · have := itB_has q (by rw [e, List.getElem?_append_left ql] at hx; exact hx) hs
        rw [e]
        exact List.mem_append.mpr (.inl this)
      · have hn : (itB seeds z n).length ≤ n := by omega
        have st := itB_stay hn 1
        rw [st] at hx
        exact absurd (lt_of_get hx) ql
    · have hin : i = n := by omega
      subst hin
      by_cases ql : i < (itB seeds z i).length
      · have e2 : (itB seeds z i)[i]? = some x := by rw [e, List.getElem?_append_left ql] at hx; exact hx
        rw [itB, e2]
        exact stepB_has seeds hs
      · have st := itB_stay (n := i) (seeds := seeds) (z := z) (by omega) 1
        rw [st] at hx
        exact absurd (lt_of_get hx) ql
theorem itB_closed (h : (itB seeds z n).length ≤ n) {x s : Str} (hx : x ∈ itB seeds z n) (hs : s ∈ seeds) : ovr s x ∈ itB seeds z n := by
  obtain ⟨i, hi⟩ := List.getElem?_of_mem hx
  have := lt_of_get hi
  exact itB_has (by omega) hi hs
end
end Nt
namespace Nt
open PySem PySem.Spec PyProof.Rows L2
/-! ### each row once, where it first stands; none blank -/
def dedT (l : List Str) : Nat → List Str
  | 0 => []
  | i + 1 => match l[i]? with
    | none => dedT l i
    | some x => if x ∈ l.take i then dedT l i else dedT l i ++ [x]
def nbS (xs : List Str) : List Str := xs.filter fun x => !decide (x = blk x.length)
def cleanS (xs : List Str) : List Str := dedT (nbS xs) (nbS xs).length
theorem dedT_len (l : List Str) : ∀ i, (dedT l i).length ≤ i
  | 0 => Nat.le_refl _
  | i + 1 => by
    rw [dedT]
    have := dedT_len l i
    split
    · omega
    · split
      · omega
      · rw [List.length_append]; show _ + 1 ≤ _; omega
theorem dedT_mem (l : List Str) (x : Str) : ∀ i, x ∈ dedT l i ↔ x ∈ l.take i
  | 0 => by simp [dedT]
  | i + 1 => by
    rw [dedT]
    have ih := dedT_mem l x i
    split
    · rename_i h
      rw [ih, List.take_of_length_le (List.getElem?_eq_none_iff.mp h), List.take_of_length_le (Nat.le_succ_of_le (List.getElem?_eq_none_iff.mp h))]
    · rename_i y h
      rw [tk_snoc h]
      split
      · rename_i q
        rw [ih, List.mem_append, List.mem_singleton]
        exact ⟨.inl, fun z => z.elim (fun z => z) (fun z => by rw [z]; exact q)⟩
      · rw [List.mem_append, List.mem_append, ih]
theorem dedT_nd (l : List Str) : ∀ i, (dedT l i).Nodup
  | 0 => List.nodup_nil
  | i + 1 => by
    rw [dedT]
    have ih := dedT_nd l i
    split
    · exact ih
    · split
      · exact ih
      · rename_i q
        exact nodup_snoc ih fun z => q ((dedT_mem l _ i).mp z)
theorem clean_mem {xs : List Str} {x : Str} : x ∈ cleanS xs ↔ x ∈ xs ∧ x ≠ blk x.length := by
  unfold cleanS
  rw [dedT_mem, List.take_length]
  unfold nbS
  rw [List.mem_filter]
  simp
theorem clean_nd (xs : List Str) : (cleanS xs).Nodup := dedT_nd _ _
theorem clean_len (xs : List Str) : (cleanS xs).length ≤ xs.length := Nat.le_trans (dedT_len _ _) (List.length_filter_le _ _)
theorem cutV_to (xs : List V) (k : Nat) : cutV xs none (some (k : Int)) = xs.take k := by
  unfold cutV
  rw [HT.sIx_none, HT.sIx_nat, Nat.sub_zero, List.drop_zero]
  by_cases h : k ≤ xs.length
  · rw [Nat.min_eq_left h]
  · rw [Nat.min_eq_right (by omega), List.take_length, List.take_of_length_le (by omega)]
theorem cutV_from (xs : List V) (k : Nat) : cutV xs (some (k : Int)) none = xs.drop k := by
  unfold cutV
  rw [HT.sIx_none, HT.sIx_nat]
  by_cases h : k ≤ xs.length
  · rw [Nat.min_eq_left h, List.take_of_length_le (by simp)]
  · rw [Nat.min_eq_right (by omega), List.drop_eq_nil_of_le (by omega), List.drop_eq_nil_of_le (by omega), List.take_nil]
end Nt
namespace Nt
open PySem PySem.Spec PyProof.Rows L2
theorem walkR {n : Nat} : Walk (Itr 0 n) n (fun _ => True) (fun i H v H' => H' = H ∧ v = .int (i : Nat)) :=
  walk_range.mono (fun _ h => h) fun i H v H' _ _ ⟨h1, h2⟩ => ⟨h1, by rw [h2]; show V.int (0 + (i : Int)) = _; rw [Int.zero_add]⟩
end Nt
/-! == of data. -/
namespace Nt
open PySem PySem.Spec PyProof.Rows L2
theorem dp_strs {K : PySem.W.Frag} {H : Hp} : ∀ xs : List Str, DpAll K H (xs.map V.str) (xs.map PyData.str)
  | [] => .nil
  | x :: xs => .cons (.str x) (dp_strs xs)
theorem eqv_strsA : ∀ xs ys : List Str, PyData.eqvAll (xs.map PyData.str) (ys.map PyData.str) = decide (xs = ys)
  | [], [] => rfl
  | [], y :: ys => by simp [PyData.eqvAll]
  | x :: xs, [] => by simp [PyData.eqvAll]
  | x :: xs, y :: ys => by
    simp only [List.map_cons, PyData.eqvAll, PyData.eqv, eqv_strsA xs ys]
    by_cases h : x = y
    · subst h
      simp
    · simp [h]
theorem can_strs : ∀ xs : List Str, (∀ x ∈ xs, PyData.strOk x = true) → PyData.canLayAll0 (xs.map PyData.str) = true
  | [], _ => rfl
  | x :: xs, h => by
    simp only [List.map_cons, PyData.canLayAll0, PyData.canLay0]
    rw [h x List.mem_cons_self, can_strs xs fun y hy => h y (List.mem_cons_of_mem _ hy)]
    rfl
theorem depth_strs : ∀ xs : List Str, PyData.depthAll (xs.map PyData.str) = 0
  | [] => rfl
  | x :: xs => by
    simp only [List.map_cons, PyData.depthAll, PyData.depth, depth_strs xs]
    rfl
end Nt
namespace Nt
open PySem PySem.Spec PyProof.Rows L2
abbrev okS (xs : List Str) : Prop := ∀ x ∈ xs, PyData.strOk x = true
theorem strOk_of {x : Str} (h : ∀ c ∈ sl x, c < 1000) : PyData.strOk x = true := by
  unfold PyData.strOk
  rw [Array.all_eq_true]
  intro i hi
  have := h x.cps[i] (by simp [sl])
  simp
  omega
theorem shaped_strs {xs : List Str} (h : okS xs) : SeqAt.shaped (.list (xs.map PyData.str)) = true := by
  unfold SeqAt.shaped
  simp only [PyData.canLay0, PyData.depth, can_strs xs h, depth_strs]
  decide
section
variable {K : PySem.W.Frag} {H : Hp} {Q : VK} {a b : Addr} {xs ys : List Str}
theorem w_eqStrs (h1 : H a = some (.lst (xs.map V.str))) (h2 : H b = some (.lst (ys.map V.str))) (o1 : okS xs) (o2 : okS ys) (k : Q (.bl (decide (xs = ys))) H) : rEqD K (.ref a) (.ref b) H Q :=
  ⟨_, _, .lst (SqL.of h1) (dp_strs xs), .lst (SqL.of h2) (dp_strs ys), shaped_strs o1, shaped_strs o2, by
    show Q (.bl (PyData.eqvAll _ _)) H
    rw [eqv_strsA]
    exact k⟩
theorem w_neStrs (h1 : H a = some (.lst (xs.map V.str))) (h2 : H b = some (.lst (ys.map V.str))) (o1 : okS xs) (o2 : okS ys) (k : Q (.bl (!decide (xs = ys))) H) : rNeD K (.ref a) (.ref b) H Q :=
  ⟨_, _, .lst (SqL.of h1) (dp_strs xs), .lst (SqL.of h2) (dp_strs ys), shaped_strs o1, shaped_strs o2, by
    show Q (.bl (!PyData.eqvAll _ _)) H
    rw [eqv_strsA]
    exact k⟩
end
end Nt
/-! Cells, rows and seeds of a band. -/
namespace Nt
open PySem PySem.Spec PyProof.Rows L2
abbrev Cells := List (Str × Nat)
structure CellsOk (cs : Cells) : Prop where
  l1 : 1 ≤ cs.length
  l2 : cs.length ≤ 12
  nd : (cs.map (·.1)).Nodup
  nm : ∀ c ∈ cs, NameOk c.1
  mn : ∀ c ∈ cs, 1 ≤ c.2 ∧ c.2 ≤ 4
/-- a sign that a cell with so many values may show -/
def SgOk (m c : Nat) : Prop := c = 46 ∨ (48 ≤ c ∧ c < 48 + m)
/-- signs by cells -/
def RwL (cs : Cells) (l : List Nat) : Prop := l.length = cs.length ∧ ∀ (i c : Nat) (k : Str × Nat), l[i]? = some c → cs[i]? = some k → SgOk k.2 c
abbrev RowOk (cs : Cells) (s : Str) : Prop := RwL cs (sl s)
structure SeedsOk (cs : Cells) (seeds : List Str) : Prop where
  ln : seeds.length ≤ 20
  rw : ∀ s ∈ seeds, RowOk cs s
  nb : ∀ s ∈ seeds, s ≠ blk cs.length
  nd : seeds.Nodup
  td : ∀ i, i < cs.length → ∃ s ∈ seeds, ∃ c, (sl s)[i]? = some c ∧ c ≠ 46
theorem blk_sl (n : Nat) : sl (blk n) = List.replicate n 46 := sl_mk _
theorem blk_row (cs : Cells) : RowOk cs (blk cs.length) := by
  refine ⟨by rw [blk_sl, List.length_replicate], fun i c k h _ => .inl ?_⟩
  rw [blk_sl, List.getElem?_replicate] at h
  split at h
  · exact (Option.some.inj h).symm
  · cases h
theorem ovr_row {cs : Cells} {x y : Str} (hx : RowOk cs x) (hy : RowOk cs y) : RowOk cs (ovr x y) := by
  refine ⟨by rw [ovr_sl, List.length_map, List.length_zip, hx.1, hy.1, Nat.min_self], fun i c k h hk => ?_⟩
  rw [ovr_sl, List.getElem?_map] at h
  obtain ⟨p, hp, rfl⟩ := Option.map_eq_some_iff.mp h
  rw [List.getElem?_zip_eq_some] at hp
  unfold ovN
  split
  · exact hy.2 i _ k hp.2 hk
  · exact hx.2 i _ k hp.1 hk
theorem row_len {cs : Cells} {x : Str} (h : RowOk cs x) : x.length = cs.length := by rw [len_sl]; exact h.1
theorem sg_low {m c : Nat} (h : SgOk m c) (hm : m ≤ 4) : c < 52 := by
  rcases h with rfl | h
  · decide
  · omega
theorem row_ok {cs : Cells} (hc : CellsOk cs) {x : Str} (h : RowOk cs x) : PyData.strOk x = true := by
  refine strOk_of fun c m => ?_
  obtain ⟨i, hi⟩ := List.getElem?_of_mem m
  have hl := lt_of_get hi
  rw [h.1] at hl
  have hk := List.getElem?_eq_getElem hl
  have := sg_low (h.2 i c _ hi hk) (hc.mn _ (List.getElem_mem hl)).2
  omega
theorem blk_of {cs : Cells} {l : List Nat} (hl : l.length = cs.length) : (∀ i, i < cs.length → l[i]? = some 46) ↔ l = List.replicate cs.length 46 := by
  constructor
  · intro h
    apply List.ext_getElem?
    intro i
    rw [List.getElem?_replicate]
    split
    · exact h i ‹_›
    · exact List.getElem?_eq_none (by omega)
  · intro h i hi
    rw [h, List.getElem?_replicate, if_pos hi]
/-- a sign told by a digit -/
theorem dig : ∀ k : Nat, k < 4 → (Str.ofString (toString ((k : Nat) : Int))) = ch (48 + k) := by decide +kernel
end Nt
namespace Nt
open PySem PySem.Spec PyProof.Rows L2
/-! ### lists of one's own that still grow -/
theorem ne_mem {a x : Addr} {r : List Addr} (h : a ∉ r) (hx : x ∈ r) : x ≠ a := fun z => h (by rw [← z]; exact hx)
def OL (H0 M H : Hp) : List Addr → List (List Str) → Prop
  | [], [] => True
  | a :: r, s :: ss => H0 a = none ∧ M a = none ∧ H a = some (.lst (s.map V.str)) ∧ a ∉ r ∧ OL H0 M H r ss
  | _, _ => False
section
variable {H0 M0 M H M' H' : Hp} {ex : Addr → Prop}
theorem OL.len : ∀ {rs : List Addr} {ss : List (List Str)}, OL H0 M H rs ss → rs.length = ss.length
  | [], [], _ => rfl
  | a :: r, s :: ss, h => by rw [List.length_cons, List.length_cons, OL.len h.2.2.2.2]
  | [], _ :: _, h => h.elim
  | _ :: _, [], h => h.elim
theorem OL.mem : ∀ {rs : List Addr} {ss : List (List Str)} {a : Addr}, OL H0 M H rs ss → a ∈ rs → H0 a = none ∧ M a = none ∧ ∃ o, H a = some o
  | b :: r, s :: ss, a, h, m => by
    rcases List.mem_cons.mp m with q | q
    · subst q; exact ⟨h.1, h.2.1, _, h.2.2.1⟩
    · exact OL.mem h.2.2.2.2 q
theorem OL.at : ∀ {rs : List Addr} {ss : List (List Str)} {i : Nat} {s : List Str}, OL H0 M H rs ss → ss[i]? = some s → ∃ a, rs[i]? = some a ∧ H0 a = none ∧ M a = none ∧ H a = some (.lst (s.map V.str))
  | [], [], i, s, _, h => by simp at h
  | b :: r, t :: ss, 0, s, h, e => by
    have e' : t = s := by simpa using e
    subst e'
    exact ⟨b, rfl, h.1, h.2.1, h.2.2.1⟩
  | b :: r, t :: ss, i + 1, s, h, e => by
    obtain ⟨a, h1, h2⟩ := OL.at (i := i) h.2.2.2.2 (by simpa using e)
    exact ⟨a, by simpa using h1, h2⟩
theorem OL.step : ∀ {rs : List Addr} {ss : List (List Str)}, OL H0 M H rs ss → (∀ a ∈ rs, ∀ o, M a = none → H a = some o → M' a = none ∧ H' a = some o) → OL H0 M' H' rs ss
  | [], [], _, _ => trivial
  | a :: r, s :: ss, h, f =>
    have q := f a List.mem_cons_self _ h.2.1 h.2.2.1
    ⟨h.1, q.1, q.2, h.2.2.2.1, OL.step h.2.2.2.2 fun b hb => f b (List.mem_cons_of_mem _ hb)⟩
theorem OL.put : ∀ {rs : List Addr} {ss : List (List Str)} {i : Nat} {a : Addr} {s : List Str}, OL H0 M H rs ss → rs[i]? = some a → OL H0 M (upd H a (.lst (s.map V.str))) rs (ss.set i s)
  | [], [], i, a, s, _, h => by simp at h
  | b :: r, t :: ss, 0, a, s, h, e => by
    have e' : b = a := by simpa using e
    subst e'
    exact ⟨h.1, h.2.1, upd_same, h.2.2.2.1, h.2.2.2.2.step fun x hx o m q => ⟨m, by rw [upd_ne (ne_mem h.2.2.2.1 hx)]; exact q⟩⟩
  | b :: r, t :: ss, i + 1, a, s, h, e => by
    have e' : r[i]? = some a := by simpa using e
    have ne : b ≠ a := fun z => h.2.2.2.1 (z ▸ mem_of_get e')
    exact ⟨h.1, h.2.1, by rw [upd_ne ne]; exact h.2.2.1, h.2.2.2.1, OL.put h.2.2.2.2 e'⟩
theorem OL.snoc {a : Addr} {s : List Str} (h0 : H0 a = none) (m : M a = none) (h : H a = some (.lst (s.map V.str))) : ∀ {rs : List Addr} {ss : List (List Str)}, OL H0 M H rs ss → a ∉ rs → OL H0 M H (rs ++ [a]) (ss ++ [s])
  | [], [], _, _ => ⟨h0, m, h, by simp, trivial⟩
  | b :: r, t :: ss, o, n => ⟨o.1, o.2.1, o.2.2.1, by
      intro z
      rcases List.mem_append.mp z with z | z
      · exact o.2.2.2.1 z
      · exact n (by rw [List.mem_singleton.mp z]; exact List.mem_cons_self), OL.snoc h0 m h o.2.2.2.2 fun z => n (List.mem_cons_of_mem _ z)⟩
/-- all are laid down for good -/
theorem OL.fix : ∀ {rs : List Addr} {ss : List (List Str)} {M : Hp}, Stp ex M0 H0 M H → OL H0 M H rs ss → ∃ M', Stp ex M0 H0 M' H ∧ Same M M' ∧ IsA M' (ss.map dS) (rs.map V.ref) ∧ ∀ x, x ∉ rs → M' x = M x
  | [], [], M, S, _ => ⟨M, S, Same.refl M, rfl, fun _ _ => rfl⟩
  | a :: r, s :: ss, M, S, h => by
    obtain ⟨M1, S1, s1, i1, f1⟩ := OL.fix (M := upd M a (.lst (s.map V.str))) (S.fix h.2.2.1 h.1) (h.2.2.2.2.step fun x hx o m q => ⟨by rw [upd_ne (ne_mem h.2.2.2.1 hx)]; exact m, q⟩)
    refine ⟨M1, S1, (same_upd h.2.1).trans s1, ⟨_, _, rfl, Is.of_strs (s1 _ _ upd_same), i1⟩, fun x hx => ?_⟩
    rw [f1 x (fun z => hx (List.mem_cons_of_mem _ z)), upd_ne (fun z => hx (by rw [z]; exact List.mem_cons_self))]
end
theorem rep_flat (n : Nat) (v : V) : (List.replicate n [v]).flatten = List.replicate n v := by
  induction n with
  | zero => rfl
  | succ n ih => rw [List.replicate_succ, List.flatten_cons, ih]; rfl
/-- a sign is changed -/
theorem RwL.set {cs : Cells} {l : List Nat} (h : RwL cs l) {j c : Nat} {k : Str × Nat} (hk : cs[j]? = some k) (hc : SgOk k.2 c) : RwL cs (l.set j c) := by
  refine ⟨by rw [List.length_set]; exact h.1, fun i d k' hd hk' => ?_⟩
  by_cases q : j = i
  · subst q
    rw [List.getElem?_set] at hd
    rw [if_pos rfl] at hd
    split at hd
    · rw [hk] at hk'
      cases hk'
      cases hd
      exact hc
    · cases hd
  · rw [List.getElem?_set_ne q] at hd
    exact h.2 i d k' hd hk'
def Told (cds : List (List Nat)) (j : Nat) : Prop := ∃ l ∈ cds, ∃ c, l[j]? = some c ∧ c ≠ 46
theorem Told.set {cds : List (List Nat)} {j i at_ c : Nat} {l : List Nat} (h : Told cds j) (hl : cds[i]? = some l) (hj : j ≠ at_) : Told (cds.set i (l.set at_ c)) j := by
  obtain ⟨l', hm, d, hd, hd'⟩ := h
  obtain ⟨i', hi'⟩ := List.getElem?_of_mem hm
  by_cases q : i = i'
  · subst q
    rw [hl] at hi'
    cases hi'
    refine ⟨l.set at_ c, List.mem_of_getElem? (i := i) ?_, d, ?_, hd'⟩
    · rw [List.getElem?_set, if_pos rfl, if_pos (lt_of_get hl)]
    · rw [List.getElem?_set_ne (Ne.symm hj)]; exact hd
  · exact ⟨l', List.mem_of_getElem? (i := i') (by rw [List.getElem?_set_ne q]; exact hi'), d, hd, hd'⟩
theorem Told.now {cds : List (List Nat)} {i at_ c : Nat} {l : List Nat} (hl : cds[i]? = some l) (ha : at_ < l.length) (hc : c ≠ 46) : Told (cds.set i (l.set at_ c)) at_ :=
  ⟨l.set at_ c, List.mem_of_getElem? (i := i) (by rw [List.getElem?_set, if_pos rfl, if_pos (lt_of_get hl)]), c, by rw [List.getElem?_set, if_pos rfl, if_pos ha], hc⟩
theorem mem_set {α : Type} {l : List α} {i : Nat} {a x : α} (h : x ∈ l.set i a) : x ∈ l ∨ x = a := by
  rcases List.mem_or_eq_of_mem_set h with q | q
  · exact .inl q
  · exact .inr q
theorem seeds_ok {cs : Cells} (hc : CellsOk cs) {cds : List (List Nat)} (hl : cds.length ≤ 20) (hr : ∀ l ∈ cds, RwL cs l) (ht : ∀ j, j < cs.length → Told cds j) : SeedsOk cs (cleanS (cds.map mkS)) := by
  have rw1 : ∀ s ∈ cleanS (cds.map mkS), RowOk cs s := by
    intro s hs
    obtain ⟨l, hl, rfl⟩ := List.mem_map.mp (clean_mem.mp hs).1
    show RwL cs (sl (mkS l))
    rw [sl_mk]
    exact hr l hl
  refine ⟨Nat.le_trans (clean_len _) (by rw [List.length_map]; exact hl), rw1, fun s hs e => ?_, clean_nd _, fun j hj => ?_⟩
  · have q := (clean_mem.mp hs).2
    rw [row_len (rw1 s hs)] at q
    exact q e
  · obtain ⟨l, hm, c, hc, hc'⟩ := ht j hj
    refine ⟨mkS l, clean_mem.mpr ⟨List.mem_map.mpr ⟨l, hm, rfl⟩, fun e => ?_⟩, c, by rw [sl_mk]; exact hc, hc'⟩
    have e2 := congrArg sl e
    rw [sl_mk, blk_sl] at e2
    rw [e2, List.getElem?_replicate] at hc
    split at hc
    · exact hc' (Option.some.inj hc).symm
    · cases hc
end Nt
namespace Nt
open PySem PySem.Spec PyProof.Rows L2
theorem cells_at {M : Hp} {cs : Cells} {cvs : List V} (h : IsA M (cs.map cellD) cvs) {i : Nat} {v : V} (e : cvs[i]? = some v) : ∃ k a, cs[i]? = some k ∧ v = .ref a ∧ M a = some (.tup [.str k.1, .int (k.2 : Int)]) := by
  obtain ⟨d, hd, hi⟩ := h.get e
  rw [List.getElem?_map] at hd
  obtain ⟨k, hk, rfl⟩ := Option.map_eq_some_iff.mp hd
  obtain ⟨a, h1, h2⟩ := hi.cell
  exact ⟨k, a, hk, h1, h2⟩
theorem cells_get {M : Hp} {cs : Cells} {cvs : List V} (h : IsA M (cs.map cellD) cvs) {i : Nat} {k : Str × Nat} (e : cs[i]? = some k) : ∃ a, cvs[i]? = some (.ref a) ∧ M a = some (.tup [.str k.1, .int (k.2 : Int)]) := by
  have hl := lt_of_get e
  obtain ⟨v, hv, _⟩ := h.at (i := i) (d := cellD k) (by rw [List.getElem?_map, e]; rfl)
  obtain ⟨k', a, h1, rfl, h3⟩ := cells_at h hv
  rw [e] at h1
  cases h1
  exact ⟨a, hv, h3⟩
theorem rwl_ok {cs : Cells} (hc : CellsOk cs) {l : List Nat} (h : RwL cs l) : okS (l.map ch) := by
  intro x hx
  obtain ⟨c, hm, rfl⟩ := List.mem_map.mp hx
  obtain ⟨i, hi⟩ := List.getElem?_of_mem hm
  have hl := lt_of_get hi
  rw [h.1] at hl
  have hk := List.getElem?_eq_getElem hl
  have := sg_low (h.2 i c _ hi hk) (hc.mn _ (List.getElem_mem hl)).2
  exact strOk_of fun d hd => by
    rw [show d = c by simpa using hd]
    omega
theorem dots_ok (n : Nat) : okS (List.replicate n ".") := by
  intro x hx
  rw [(List.mem_replicate.mp hx).2]
  decide +kernel
theorem dots_V (n : Nat) : List.replicate n (V.str ".") = (List.replicate n ("." : Str)).map V.str := by rw [List.map_replicate]
end Nt
namespace Nt
open PySem PySem.Spec PyProof.Rows L2
theorem dot_ofS : Str.ofString "." = ch 46 := dot_ch
theorem lo2 : ∀ k : Nat, k < 4 → (((k : Nat) : Int).natAbs).log2 < 1920 := by decide +kernel
end Nt
namespace Nt
open PySem PySem.Spec PyProof.Rows L2
theorem ixN_nat {n i : Nat} (h : i < n) : ixN n (i : Int) = some i := by
  unfold ixN
  simp
  omega
theorem w_rU {g : Int → V} {i : Int} {H : Hp} {Q : VK} (k : Q (g i) H) : rU g (.int i) H Q := ⟨i, rfl, k⟩
theorem atI_last {α : Type} {xs : List α} {m : Nat} {x : α} (hl : xs.length = m + 1) (h : xs[m]? = some x) : atI xs (-1) = some x := by
  show (ixN xs.length (-1)).bind _ = _
  have e : ixN xs.length (-1) = some m := by
    unfold ixN
    rw [hl]
    simp
    omega
  rw [e]
  exact h
theorem told_of {cds : List (List Nat)} {n i : Nat} (hl : ∀ l ∈ cds, l.length = n) (hi : i < n) (h : (cds.map fun l => decide (l[i]? = some 46)).all id = false) : Told cds i := by
  rw [List.all_eq_false] at h
  obtain ⟨b, hm, hb⟩ := h
  obtain ⟨l, hlm, rfl⟩ := List.mem_map.mp hm
  have := hl l hlm
  refine ⟨l, hlm, l[i]'(by omega), List.getElem?_eq_getElem _, fun z => ?_⟩
  rw [List.getElem?_eq_getElem (by omega), z] at hb
  simp at hb
end Nt
namespace Nt
open PySem PySem.Spec PyProof.Rows L2
structure BandOk (cs : Cells) (seeds rows : List Str) : Prop where
  co : CellsOk cs
  c5 : cs.length ≤ 5
  so : SeedsOk cs seeds
  pm : rows.Perm (itB seeds (blk cs.length) 41)
  sd : sortedS rows = true
  le : (itB seeds (blk cs.length) 41).length ≤ 40
abbrev bandD (cs : Cells) (seeds rows : List Str) : Dat := .tup [cellsD cs, dS seeds, dS rows]
theorem CellsOk.take {cs : Cells} (h : CellsOk cs) {k : Nat} (hk : 1 ≤ k) : CellsOk (cs.take k) := by
  have hl := h.l1
  refine ⟨by rw [List.length_take]; omega, Nat.le_trans (by rw [List.length_take]; exact Nat.min_le_right _ _) h.l2, ?_, fun c hc => h.nm c (List.mem_of_mem_take hc), fun c hc => h.mn c (List.mem_of_mem_take hc)⟩
  rw [List.map_take]
  exact List.Sublist.nodup (List.take_sublist _ _) h.nd
theorem RwL.take {cs : Cells} {l : List Nat} (h : RwL cs l) (k : Nat) : RwL (cs.take k) (l.take k) := by
  refine ⟨by rw [List.length_take, List.length_take, h.1], fun i c q h1 h2 => ?_⟩
  rw [List.getElem?_take] at h1 h2
  split at h1
  · rw [if_pos ‹_›] at h2
    exact h.2 i c q h1 h2
  · cases h1
theorem SeedsOk.take {cs : Cells} {seeds : List Str} (hc : CellsOk cs) (h : SeedsOk cs seeds) {k : Nat} (hk : 1 ≤ k) : SeedsOk (cs.take k) (cleanS (seeds.map fun s => mkS ((sl s).take k))) := by
  have e : (seeds.map fun s => mkS ((sl s).take k)) = (seeds.map fun s => (sl s).take k).map mkS := by simp
  rw [e]
  refine seeds_ok (hc.take hk) (by rw [List.length_map]; exact h.ln) ?_ ?_
  · intro l hl
    obtain ⟨s, hs, rfl⟩ := List.mem_map.mp hl
    exact (h.rw s hs).take k
  · intro j hj
    rw [List.length_take] at hj
    obtain ⟨s, hs, c, h1, h2⟩ := h.td j (by omega)
    exact ⟨_, List.mem_map.mpr ⟨s, hs, rfl⟩, c, by rw [List.getElem?_take, if_pos (by omega)]; exact h1, h2⟩
theorem rows_all {cs : Cells} {seeds : List Str} (hs : ∀ s ∈ seeds, RowOk cs s) (n : Nat) : ∀ x ∈ itB seeds (blk cs.length) n, RowOk cs x :=
  itB_all (P := RowOk cs) (blk_row cs) (fun x hx s hm => ovr_row (hs s hm) hx) n
/-- one cell: five rows at most -/
theorem few_rows {cs : Cells} (hc : CellsOk cs) (h1 : cs.length = 1) {seeds : List Str} (hs : ∀ s ∈ seeds, RowOk cs s) (n : Nat) : (itB seeds (blk cs.length) n).length ≤ 5 := by
  refine List.Nodup.length_le_of_subset (l₂ := [46, 48, 49, 50, 51].map ch) (itB_nd n) fun x hx => ?_
  have r := rows_all hs n x hx
  have hl := r.1
  rw [h1] at hl
  obtain ⟨c, e⟩ := List.length_eq_one_iff.mp hl
  have ex : x = ch c := sl_inj (by rw [e])
  have hk := List.getElem?_eq_getElem (show 0 < cs.length by omega)
  have q := r.2 0 c _ (by rw [e]; rfl) hk
  have m := (hc.mn _ (List.getElem_mem (show 0 < cs.length by omega))).2
  rw [ex]
  refine List.mem_map.mpr ⟨c, ?_, rfl⟩
  rcases q with rfl | q
  · simp
  · simp
    omega
theorem cutS_to (z : Str) (k : Nat) : cutS z none (some (k : Int)) = mkS ((sl z).take k) := by
  apply sl_inj
  rw [sl_mk]
  show ((z.cps.toList.drop (HT.sIx z.length 0 none)).take (HT.sIx z.length z.length (some (k : Int)) - HT.sIx z.length 0 none)).toArray.toList = _
  rw [HT.sIx_none, HT.sIx_nat, Nat.sub_zero, List.drop_zero]
  show (sl z).take (min k z.length) = _
  rw [len_sl]
  by_cases h : k ≤ (sl z).length
  · rw [Nat.min_eq_left h]
  · rw [Nat.min_eq_right (by omega), List.take_length, List.take_of_length_le (by omega)]
end Nt
namespace Nt
open PySem PySem.Spec PyProof.Rows L2
theorem Is.cellOf {M : Hp} {T : Addr} {x : Str} {m : Nat} (h : M T = some (.tup [.str x, .int (m : Int)])) : Is M (cellD (x, m)) (.ref T) :=
  ⟨T, _, rfl, h, .str x, [.int (m : Int)], rfl, rfl, .int (m : Int), [], rfl, rfl, rfl⟩
theorem Is.tup3 {M : Hp} {T : Addr} {d e f : Dat} {u v w : V} (h : M T = some (.tup [u, v, w])) (a : Is M d u) (b : Is M e v) (c : Is M f w) : Is M (.tup [d, e, f]) (.ref T) :=
  ⟨T, _, rfl, h, u, [v, w], rfl, a, v, [w], rfl, b, w, [], rfl, c, rfl⟩
theorem Is.tup2 {M : Hp} {T : Addr} {d e : Dat} {u v : V} (h : M T = some (.tup [u, v])) (a : Is M d u) (b : Is M e v) : Is M (.tup [d, e]) (.ref T) :=
  ⟨T, _, rfl, h, u, [v], rfl, a, v, [], rfl, b, rfl⟩
theorem Is.un3 {M : Hp} {d e f : Dat} {v : V} (h : Is M (.tup [d, e, f]) v) : ∃ T u x w, v = .ref T ∧ M T = some (.tup [u, x, w]) ∧ Is M d u ∧ Is M e x ∧ Is M f w := by
  obtain ⟨T, vs, rfl, hT, u, r, rfl, a, x, r2, rfl, b, w, r3, rfl, c, e⟩ := h
  rw [show r3 = [] from e] at hT
  exact ⟨T, u, x, w, rfl, hT, a, b, c⟩
theorem Is.un2 {M : Hp} {d e : Dat} {v : V} (h : Is M (.tup [d, e]) v) : ∃ T u x, v = .ref T ∧ M T = some (.tup [u, x]) ∧ Is M d u ∧ Is M e x := by
  obtain ⟨T, vs, rfl, hT, u, r, rfl, a, x, r2, rfl, b, e⟩ := h
  rw [show r2 = [] from e] at hT
  exact ⟨T, u, x, rfl, hT, a, b⟩
end Nt
namespace Nt
open PySem PySem.Spec PyProof.Rows L2
abbrev ABC : Str := "abcdefghijklmnopqrstuvwxyz"
theorem low_abc {c : Nat} (h : low c = true) : c ∈ sl ABC := by
  have all : ∀ c, c < 123 → low c = true → c ∈ sl ABC := by decide +kernel
  refine all c ?_ h
  unfold low at h
  simp at h
  omega
abbrev SIGNS : Str := ".0123"
theorem sg_in {m c : Nat} (h1 : 1 ≤ m) (h4 : m ≤ 4) (h : SgOk m c) : c ∈ sl (mkS ((sl SIGNS).take (m + 1))) := by
  have all : ∀ m, m < 5 → ∀ c, c < 52 → (c = 46 ∨ (48 ≤ c ∧ c < 48 + m)) → c ∈ sl (mkS ((sl SIGNS).take (m + 1))) := by decide +kernel
  exact all m (by omega) c (sg_low h h4) h
theorem all_true {α : Type} (l : List α) : (l.map fun _ => true).all id = true := by
  rw [List.all_map]
  exact List.all_eq_true.mpr fun _ _ => rfl
end Nt
namespace Nt
open PySem PySem.Spec PyProof.Rows L2
theorem pe_ty {X : Cx} {x : Str} {pos : Pos} (n : String) (hg : Gl X x) (hm : X.mg x = none) (hv : bootBuiltins x = some (.type n)) (hn : x ≠ "__name__" := by decide) (hd : (x == ("__debug__" : Str)) = false := by decide) : PE X (.Name x pos) (tC (.ty n)) := pe_bltn hg hm hv rfl hn hd
end Nt
namespace Nt
open PySem PySem.Spec PyProof.Rows L2
theorem ifdT {A B p : Prop} [Decidable p] (h : p) (k : A) : if decide p = true then A else B := by rw [if_pos (decide_eq_true h)]; exact k
theorem ifdF {A B p : Prop} [Decidable p] (h : ¬ p) (k : B) : if decide p = true then A else B := by rw [if_neg (by rw [decide_eq_false h]; exact Bool.false_ne_true)]; exact k
theorem ifnT {A B p : Prop} [Decidable p] (h : p) (k : B) : if (!decide p) = true then A else B := by rw [if_neg (by rw [decide_eq_true h]; exact Bool.false_ne_true)]; exact k
theorem ifnF {A B p : Prop} [Decidable p] (h : ¬ p) (k : A) : if (!decide p) = true then A else B := by rw [if_pos (by rw [decide_eq_false h]; rfl)]; exact k
theorem all_yes (n : Nat) : (List.replicate n true).all id = true := by
  induction n with
  | zero => rfl
  | succ n ih => rw [List.replicate_succ, List.all_cons, ih]; rfl
theorem rep_snoc (n : Nat) : (List.replicate n true).map V.bl ++ [V.bl true] = (List.replicate (n + 1) true).map V.bl := by
  rw [← List.map_singleton, ← List.map_append, ← List.replicate_succ']
end Nt
/-! set(a list of texts); sorted of it. -/
namespace Nt
open PySem PySem.Spec PyProof.Rows L2 PySem.Froz
section
variable {P : Program} {w : World} {A : Around} {E : Value → Shared → Prop} {s : Shared} {a : Addr} {l : List Str} {x : Str} {u : Tok}
/-- the set of the texts l at a, walkable -/
structure SetS (P : Program) (w : World) (h : Heap) (a : Addr) (l : List Str) : Prop where
  ex : ∃ D : SD, h.get? a = some (sObj "set" D) ∧ TxOk P w D l ∧ Ris D.2.2.place.toList ∧ (w.params.followText "set-order" = true ∨ D.2.2.led = true)
  nd : l.Nodup
theorem SetS.keep {h h' : Heap} (R : SetS P w h a l) (k : ∀ o, h.get? a = some o → h'.get? a = some o) : SetS P w h' a l := by
  obtain ⟨⟨D, h1, h2⟩, nd⟩ := R
  exact ⟨⟨D, k _ h1, h2⟩, nd⟩
theorem tail_ris {ep : Nat} {es : Array (Int × Value)} {t : SetTable} {d : Bool} (r : Ris t.place.toList) : Ris (tailTx ep es t d).2.2.place.toList := by
  unfold tailTx
  split
  · exact relayAll_ris _ _ _
  · exact r
theorem tail_led {ep : Nat} {es : Array (Int × Value)} {t : SetTable} {d : Bool} (r : t.led = true) : (tailTx ep es t d).2.2.led = true := by
  unfold tailTx
  split
  · show (relayAll _ _ _).2.1.led = true
    rw [relayAll_led]; exact r
  · exact r
theorem add_ris {D : SD} {hv : Int} {v : Value} (r : Ris D.2.2.place.toList) : Ris (addTx hv v D).2.2.place.toList := by
  unfold addTx
  refine tail_ris ?_
  have q := layNew_ris D.2.2 D.1 hv v r
  split <;> exact q
theorem add_led {D : SD} {hv : Int} {v : Value} (r : D.2.2.led = true) : (addTx hv v D).2.2.led = true := by
  unfold addTx
  refine tail_led ?_
  have q : (layNew D.2.2 D.1 hv v).2.1.led = true := by rw [layNew_led]; exact r
  split <;> exact q
/-- a text that is there already -/
theorem add_there {D : SD} {Q : Bool → Shared → Prop} (ho : s.heap.get? a = some (sObj "set" D)) (F : TxOk P w D l) (hx : x ∈ l) (hb : l.length < scanBound) (h : Q false s) :
    wpAny (model P w) A (setAddHashed a (.str x u) (hashStr w x)) Q E s := by
  obtain ⟨es, ep, t⟩ := D
  have hs : es.size < scanBound := Nat.lt_of_le_of_lt (Nat.le_of_eq F.sz) hb
  unfold setAddHashed setAddHashedIn
  refine wpAny_holding (wpAny_bind (wpAny_setState_of ho rfl F.fit ?_))
  dsimp only
  rw [byScan_of (knd := strKind P w) rfl hs F.el, if_pos rfl]
  unfold setAddByScan
  refine wpAny_bind (wpAny_bind (wpAny_rule (wpAny_bind (wpAny_setScan_of (knd := strKind P w) (k := x) (is_str x u) ho rfl F.fit F.el ?_))))
  cases e : List.findIdx? (fun y => (strKind P w).is x y.2) es.toList with
  | some j => exact wpAny_pure (wpAny_pure h)
  | none =>
    obtain ⟨y, hy, hz⟩ := (F.mem x).mp hx
    have c := List.findIdx?_eq_none_iff.mp e y hy
    rw [hz] at c
    cases c
/-- one more text -/
def addS (l : List Str) (x : Str) : List Str := if x ∈ l then l else x :: l
theorem setS_add {Q : Bool → Shared → Prop} (R : SetS P w s.heap a l) (hb : l.length + 1 < scanBound)
    (h : ∀ b h', Heap.SameBut a s.heap h' → SetS P w h' a (addS l x) → Q b { s with heap := h' }) : wpAny (model P w) A (setAddHashed a (.str x u) (hashStr w x)) Q E s := by
  obtain ⟨⟨D, ho, F, r, hl⟩, nd⟩ := R
  by_cases hx : x ∈ l
  · have q := h false s.heap (Heap.SameBut.refl a s.heap)
    unfold addS at q
    rw [if_pos hx] at q
    exact add_there ho F hx (by omega) (q ⟨⟨D, ho, F, r, hl⟩, nd⟩)
  · refine add_x ho F hx hb ?_
    have q := h true (s.heap.update a fun _ => sObj "set" (addTx (hashStr w x) (.str x u) D)) (Heap.SameBut.update s.heap a _)
    unfold addS at q
    rw [if_neg hx] at q
    exact q ⟨⟨_, get_upd _ ho rfl, add_ok u F, add_ris r, hl.imp id add_led⟩, List.nodup_cons.mpr ⟨hx, nd⟩⟩
end
end Nt
namespace Nt
open PySem PySem.Spec PyProof.Rows L2 PySem.Froz
theorem addS_mem {l : List Str} {x y : Str} : y ∈ addS l x ↔ y ∈ l ∨ y = x := by
  unfold addS
  split
  · rename_i h
    exact ⟨.inl, fun z => z.elim (fun z => z) (fun z => by rw [z]; exact h)⟩
  · rw [List.mem_cons]
    exact Or.comm
theorem addS_len {l : List Str} {x : Str} : (addS l x).length ≤ l.length + 1 := by
  unfold addS
  split
  · exact Nat.le_succ _
  · exact Nat.le_refl _
def setL (xs : List Str) : List Str := xs.foldl addS []
theorem setL_go : ∀ (xs l : List Str) (y : Str), y ∈ xs.foldl addS l ↔ y ∈ l ∨ y ∈ xs
  | [], l, y => by simp
  | x :: xs, l, y => by
    rw [List.foldl_cons, setL_go xs, addS_mem, List.mem_cons]
    exact or_assoc
theorem setL_len : ∀ (xs l : List Str), (xs.foldl addS l).length ≤ l.length + xs.length
  | [], l => Nat.le_refl _
  | x :: xs, l => by
    have h := setL_len xs (addS l x)
    have q := addS_len (l := l) (x := x)
    rw [List.foldl_cons, List.length_cons]
    omega
abbrev bareSet (w : World) : Obj := { cls := .type "set", dict := none, data := .set #[] 0 (.fresh 0 0 (!w.params.followText "set-order")) }
section
variable {P : Program} {w : World} {A : Around} {E : Value → Shared → Prop} {s : Shared}
theorem setS_bare {h : Heap} {a : Addr} (ho : h.get? a = some (bareSet w)) : SetS P w h a [] :=
  ⟨⟨(#[], 0, .fresh 0 0 (!w.params.followText "set-order")), ho, TxOk.nil rfl, List.Pairwise.nil, by
    show _ ∨ (!w.params.followText "set-order") = true
    cases w.params.followText "set-order" <;> simp⟩, List.nodup_nil⟩
/-- the items go in, one by one -/
theorem upd_loop {I S : Addr} {fp wr : List Addr} {G : Array GenState → Array GenState → Prop} {n : Nat} {Pv : Nat → Value → Prop} {St : Nat → Shared → Prop} {R : Result → Shared → Prop} (xs : List Str)
    (W : WalksS P w A.in1 I fp wr G n Pv St) (apart : S ∉ fp) (hn : n = xs.length) (hb : xs.length + 1 < scanBound) (items : ∀ i v, Pv i v → ∃ x t, xs[i]? = some x ∧ v = .str x t) :
    ∀ (m i : Nat) (s : Shared), n = i + m → St i s → SetS P w s.heap S ((xs.take i).foldl addS []) →
      (∀ s', Moved (S :: wr) G s s' → SetS P w s'.heap S (setL xs) → R (.ok (.ret .none)) s') → codeAny (model P w) A (.builtin "set.update.loop" ⟨[.ref S, .ref I], []⟩) R s := by
  have hSw : S ∉ wr := fun z => apart (W.sub _ z)
  have wide : ∀ b ∈ wr, b ∈ S :: wr := fun b z => List.mem_cons_of_mem _ z
  have off : ∀ {b : Addr}, b ∈ fp → b ≠ S := fun z e => apart (e ▸ z)
  intro m
  induction m with
  | zero =>
    intro i s hm st hS hR
    have hi : n = i := hm
    subst hi
    refine codeAny_builtin F.entry_set_update_loop ?_
    rw [Around.under_plainId F.plain_set_update_loop _]
    refine wpAny_bind (W.done s _ _ st fun s' mv => wpAny_pure (hR s' (mv.mono wide) ?_))
    rw [List.take_of_length_le (by omega)] at hS
    exact hS.keep fun o e => mv.heap S o hSw e
  | succ m ih =>
    intro i s hm st hS hR
    refine codeAny_builtin F.entry_set_update_loop ?_
    rw [Around.under_plainId F.plain_set_update_loop _]
    refine wpAny_bind (W.item i s _ _ (by omega) st fun v s1 pv st1 mv => ?_)
    obtain ⟨x, t, hx, rfl⟩ := items i v pv
    have hS1 := hS.keep fun o e => mv.heap S o hSw e
    have few := setL_len (xs.take i) []
    rw [List.length_take] at few
    refine wpAny_bind (wpAny_holding ?_)
    unfold setAdd
    refine wpAny_holding (wpAny_bind ((strKind P w).pyHash (k := x) (is_str x t) ?_))
    refine setS_add (s := { s1 with toks := s1.toks + 1 }) hS1 (by simp only [List.length_nil] at few; omega) fun b h1 sb hS2 => ?_
    have e2 : (xs.take (i + 1)).foldl addS [] = addS ((xs.take i).foldl addS []) x := by rw [tk_snoc hx, List.foldl_append]; rfl
    rw [← e2] at hS2
    refine wpAny_pure ⟨plainId_quiet F.plain_set_update_loop _, ih (i + 1) _ (by omega) (W.frame _ s1 _ _ st1 (Nat.le_succ _) fun c hc o e => (sb.2 c (off hc)).trans e) hS2 fun s2 mv2 hS3 => hR s2 ?_ hS3⟩
    exact Moved.trans W.gtrans ((mv.mono wide).then_heap (Nat.le_succ _) fun c o hc e => (sb.2 c fun z => hc (by rw [z]; exact List.mem_cons_self)).trans e) mv2
end
end Nt
namespace Nt
open PySem PySem.Spec PyProof.Rows L2 PySem.Froz
section
variable {P : Program} {w : World} {A : Around} {E : Value → Shared → Prop} {s : Shared}
abbrev withSet (w : World) (s : Shared) : Shared := { s with heap := s.heap.push (bareSet w) }
set_option maxHeartbeats 8000000 in
theorem set_of_list {p : Addr} {its : Array Value} {xs : List Str} {Q : Value → Shared → Prop} (hc : A.handled = none) (hp : s.heap.IsList p its) (hi : StrsAre its.toList xs) (hb : xs.length + 1 < scanBound)
    (fin : ∀ (g : Heap) (tk : Nat), SetS P w g s.heap.objs.size (setL xs) → (∀ b o, s.heap.get? b = some o → g.get? b = some o) → Q (.ref s.heap.objs.size) { s with heap := g, toks := tk }) :
    wpAny (model P w) A (call (.type "set") [.ref p]) Q E s := by
  obtain ⟨_, _, hmro⟩ := F.called_set.mro
  have made := F.called_set.made
  have sub := F.called_set.sub
  refine wpAny_call (codeAny_of_tree ?_)
  show wpAny _ _ (callAny (.type "set") _) _ _ _
  refine wpAny_pure ⟨Code.quiet_builtin _ (by decide +kernel), codeAny_builtin F.entry_type_call ?_⟩
  rw [Around.under_plain (weight_type_call_type "set" [.ref p] []) rfl]
  have n1 := F.called_set.notType
  have n2 := F.called_set.canCreate
  have n3 := F.typeCall_set_1 (.ref p)
  repeat (any_goals (first | assumption | wp_step))
  refine codeAny_mono (code_set_led1 (.ref p) (E := E) (Q₁ := fun ob t => ob = .ref s.heap.objs.size ∧ t = withSet w s) ⟨rfl, rfl⟩) fun r t ht => ?_
  cases r with
  | error e => exact ht
  | ok fl =>
    cases fl with
    | ret ob =>
      obtain ⟨rfl, rfl⟩ := ht
      have at0 : (s.heap.push (bareSet w)).get? s.heap.objs.size = some (bareSet w) := Heap.get?_push_size _ rfl
      have ty0 : Shared.TypeIs (withSet w s) (.ref s.heap.objs.size) "set" := ⟨_, at0, rfl⟩
      have li := F.called_set.init.lookup
      have bi := F.called_set.init.bind (.ref s.heap.objs.size)
      repeat (any_goals (first | assumption | wp_step))
      refine codeAny_mono (codeAny_call_builtin (R := wants (fun r t => r = .none ∧ ∃ g tk, t = { s with heap := g, toks := tk } ∧ SetS P w g s.heap.objs.size (setL xs) ∧ (∀ b o, s.heap.get? b = some o → g.get? b = some o)) E)
        F.called_set.init.plain F.entry_set_init (check_set_init_1 ty0 ?_)) fun r t ht => ?_
      · obtain ⟨ob, atp, cls, ne, dat⟩ := hp
        obtain ⟨oc, od, odat, osl⟩ := ob
        simp only at cls dat
        subst cls; subst dat
        have atp' : (s.heap.push (bareSet w)).get? p = some { cls := .type "list", dict := od, data := .seq its ne, slots := osl } := Heap.get?_push_of_some _ atp
        have s1 := F.sub_list_set
        have s2 := F.sub_list_frozenset
        have nd : (Value.type "list" == Value.type "dict") = false := by decide
        have isl : (s.heap.push (bareSet w)).IsList p its := ⟨_, atp', rfl, ne, rfl⟩
        unfold Builtin.«set.__init__» noKeywords Builtin.Frozenset.updateFrom
        generalize hI : pyIter = PI
        wp_walk
        subst hI
        refine wpAny_pyIter_list isl ?_
        refine wpAny_bind (wpAny_runValue ?_)
        have plt : p < s.heap.objs.size := Heap.lt_size atp
        have hc3 : A.in1.in1.in1.handled = none := by simp [hc]
        have sz1 : (s.heap.push (bareSet w)).objs.size = s.heap.objs.size + 1 := Heap.size_push ..
        have pne : p ≠ (s.heap.push (bareSet w)).objs.size := by rw [sz1]; exact Nat.ne_of_lt (Nat.lt_succ_of_lt plt)
        have apart : s.heap.objs.size ∉ [(s.heap.push (bareSet w)).objs.size, p] := by
          rw [sz1]
          simp only [List.mem_cons, List.not_mem_nil, or_false, not_or]
          exact ⟨Nat.ne_of_lt (Nat.lt_succ_self _), Nat.ne_of_gt plt⟩
        have hsz : its.size = xs.length := by rw [← StrsAre.len_eq hi, Array.length_toList]
        refine upd_loop (P := P) xs ((Walks.list hc3 _ p pne its).toS) apart hsz hb (fun i v hv => ?_) its.size 0 _ (by omega) ⟨⟨_, Heap.get?_push_size _ rfl, rfl, rfl⟩, (isl.push _)⟩ (setS_bare (Heap.get?_push_of_some _ at0)) ?_
        · have hl := (Array.getElem?_eq_some_iff.mp hv).1
          obtain ⟨t, e⟩ := SS.strs_at hi i v (by rw [Array.getElem?_toList]; exact hv)
          have hx : xs[i]? = some xs[i] := List.getElem?_eq_getElem (by omega)
          refine ⟨xs[i], t, hx, ?_⟩
          rw [e, List.getD_eq_getElem?_getD, hx]
          rfl
        · intro t mv hS
          obtain ⟨g, gs, dr, tk, os⟩ := t
          obtain rfl : gs = s.gens := mv.gens
          obtain rfl : dr = s.drawn := mv.drawn
          obtain rfl : os = s.os := mv.os
          refine wpAny_pure (wpAny_pure ⟨rfl, g, tk, rfl, hS, fun b o e => ?_⟩)
          have lt := Heap.lt_size e
          refine mv.heap b o ?_ (Heap.get?_push_of_some _ (Heap.get?_push_of_some _ e))
          simp only [List.mem_cons, List.not_mem_nil, or_false, not_or]
          rw [sz1]
          exact ⟨Nat.ne_of_lt lt, Nat.ne_of_lt (Nat.lt_succ_of_lt lt)⟩
      · cases r with
        | error e => exact ht
        | ok fl2 =>
          cases fl2 with
          | ret r =>
            obtain ⟨rfl, g, tk, rfl, hS, kp⟩ := ht
            repeat (any_goals (first | assumption | wp_step))
            exact fin _ _ hS kp
          | _ => exact ht.elim
    | _ => exact ht.elim
end
end Nt
/-! sorted of a set of texts; sorted by a def that counts a sign. -/
namespace Nt
open PySem PySem.Spec PyProof.Rows L2 PySem.Froz
section
variable {P : Program} {w : World} {A : Around} {E : Value → Shared → Prop} {s : Shared}
theorem strs_of : ∀ {vs : List Value}, (∀ v ∈ vs, ∃ x t, v = Value.str x t) → ∃ xs, StrsAre vs xs
  | [], _ => ⟨[], .nil⟩
  | v :: vs, h => by
    obtain ⟨x, t, rfl⟩ := h v List.mem_cons_self
    obtain ⟨xs, q⟩ := strs_of fun u hu => h u (List.mem_cons_of_mem _ hu)
    exact ⟨x :: xs, .cons x t q⟩
theorem strs_mem : ∀ {vs : List Value} {xs : List Str}, StrsAre vs xs → ∀ x, x ∈ xs ↔ ∃ t, Value.str x t ∈ vs
  | _, _, .nil, x => by simp
  | _, _, .cons y t q, x => by
    rw [List.mem_cons, strs_mem q x]
    constructor
    · rintro (rfl | ⟨u, hu⟩)
      · exact ⟨t, List.mem_cons_self⟩
      · exact ⟨u, List.mem_cons_of_mem _ hu⟩
    · rintro ⟨u, hu⟩
      rcases List.mem_cons.mp hu with z | z
      · cases z; exact .inl rfl
      · exact .inr ⟨u, z⟩
theorem sorted_setS {a : Addr} {l : List Str} {Q : Value → Shared → Prop} (R : SetS P w s.heap a l) (hc : A.handled = none) (hl : l.length ≤ 1000)
    (fin : ∀ t p out n ys, (∀ b o, s.heap.get? b = some o → t.heap.get? b = some o) → t.gens = s.gens → t.os = s.os → s.heap.objs.size ≤ p → t.heap.get? p = some (seqObj "list" out n) →
      StrsAre out.toList ys → (∀ y, y ∈ ys ↔ y ∈ l) → ys.length = l.length → sortedS ys = true → Q (.ref p) t) : wpAny (model P w) A (call (.builtin "sorted") [.ref a]) Q E s := by
  obtain ⟨⟨⟨es, ep, tb⟩, ho, F, r, led⟩, nd⟩ := R
  have hs : es.size = l.length := F.sz
  have hb : es.size < scanBound := by unfold scanBound; omega
  refine Calls.call_function_entry kind_sorted plain_sorted entry_sorted (args_sorted1 _) ?_
  unfold Builtin.«sorted»
  refine wpAny_bind (m := checkCount "sorted" 1 1 _) (wpAny_pure (wpAny_bind (collect_set (A := A.in1) hc ⟨_, ho, rfl, rfl⟩ F.fit hb r led fun t vs kp hz hg hos pm => ?_)))
  have vl : vs.length = l.length := by rw [pm.length_eq, List.length_map, Array.length_toList]; exact hs
  obtain ⟨xs, hx⟩ := strs_of (vs := vs) fun v hv => by
    obtain ⟨e, he, q⟩ := List.mem_map.mp (pm.mem_iff.mp hv)
    obtain ⟨⟨k, hk, _⟩, _⟩ := F.el e he
    obtain ⟨t, z⟩ := Value.isStrOf_shape hk
    exact ⟨k, t, by rw [← q]; exact z⟩
  have mem : ∀ y, y ∈ xs ↔ y ∈ l := fun y => by
    rw [strs_mem hx y, F.mem y]
    constructor
    · rintro ⟨t, ht⟩
      obtain ⟨e, he, q⟩ := List.mem_map.mp (pm.mem_iff.mp ht)
      exact ⟨e, he, by rw [q]; exact is_str y t⟩
    · rintro ⟨e, he, q⟩
      obtain ⟨t, z⟩ := Value.isStrOf_shape q
      exact ⟨t, pm.mem_iff.mpr (List.mem_map.mpr ⟨e, he, z⟩)⟩
  have vz : vs.length ≤ sizeLine := line_of (by omega)
  refine wpAny_bind (wpAny_newList ?_ vz)
  have at0 : (t.heap.push (seqObj "list" vs.toArray 0)).get? t.heap.objs.size = some (seqObj "list" vs.toArray 0) := Heap.get?_push_size _ rfl
  refine wpAny_bind (wpAny_holding (wpAny_call_entry slot_list_sort ⟨_, at0, rfl⟩ entry_list_sort
    (list_sort_treeKAny strKind_oneLt at0 hx.keysOf (fun v₁ v₂ rest e => keyKind_strs (by rw [← e]; exact hx)) vz fun st hp hso => ⟨_, rfl, ?_⟩) (args_list_sort _)))
  obtain ⟨ys, h1, h2, h3⟩ := sorted_out_str hx hp hso
  obtain ⟨n, hn⟩ := sortedHeap_at (vs := vs) (out := (arrOf st).map (·.2)) at0
  refine wpAny_pure ⟨_, rfl, fin _ t.heap.objs.size _ n ys (fun b u e => ?_) hg hos hz hn h1 (fun y => by rw [h2.mem_iff]; exact mem y) (by rw [h2.length_eq, ← StrsAre.len_eq hx]; exact vl) h3⟩
  have q := kp b u e
  have lt := Heap.lt_size q
  refine (sortedHeap_old (Nat.ne_of_lt lt) (by rw [size_push']; exact Nat.lt_succ_of_lt lt)).trans (Heap.get?_push_of_some _ q)
end
end Nt
namespace Nt
open PySem PySem.Spec PyProof.Rows L2 PySem.Froz
/-! ### as rules of the walk -/
def SetX (P : Program) (w : World) (a : Addr) (l : List Str) : HO := .ext fun h => SetS P w h a l
section
variable {X : Cx} {pins : List (Addr × Obj)} {σ : L2.St} {H : Hp} {s : Shared} {a : Addr} {l : List Str}
theorem setX_new {P : Program} {w : World} {h : Heap} (R : SetS P w h a l) : ObjOk P w H h a (SetX P w a l) := by
  obtain ⟨D, ho, _⟩ := R.ex
  exact ⟨R, ⟨_, ho⟩, fun h1 h2 p k => SetS.keep p k⟩
theorem setX_get (I : Inv X pins σ H s) (ha : H a = some (SetX X.prog X.w a l)) : SetS X.prog X.w s.heap a l := (I.hok a _ ha).1
/-- set(xs), xs a list of texts -/
def qSet (P : Program) (w : World) : List V → Hp → VK → Prop := fun vs H Q => ∃ (a : Addr) (xs : List Str), vs = [.ref a] ∧ H a = some (.lst (xs.map V.str)) ∧ xs.length ≤ 1000 ∧ ∀ p, H p = none → Q (.ref p) (upd H p (SetX P w p (setL xs)))
theorem cq_set (hc : X.calm = true) : CallR X (.type "set") (qSet X.prog X.w) := by
  intro pins s σ H vs us Q I r h
  obtain ⟨a, xs, rfl, ha, hl, q⟩ := h
  obtain ⟨its, rv, il, _⟩ := I.list (SqL.of ha)
  rw [Vals.ref1 r]
  refine set_of_list (I.ok.hd hc) il.isList (by simpa using rv.strs) (by unfold scanBound; omega) fun g tk R kp => ?_
  exact ⟨.ref _, _, I.laid (t' := tk) kp (Nat.le_refl _) (setX_new R), rfl, q _ (I.hok.fresh (Nat.le_refl _))⟩
/-- sorted(a set of texts) -/
def qSortedSet (P : Program) (w : World) : List V → Hp → VK → Prop := fun vs H Q => ∃ (a : Addr) (l : List Str), vs = [.ref a] ∧ H a = some (SetX P w a l) ∧ l.length ≤ 1000 ∧
  ∀ ys p, (∀ y, y ∈ ys ↔ y ∈ l) → ys.length = l.length → sortedS ys = true → H p = none → Q (.ref p) (upd H p (.lst (ys.map V.str)))
theorem cq_sortedSet (hc : X.calm = true) : CallR X (.builtin "sorted") (qSortedSet X.prog X.w) := by
  intro pins s σ H vs us Q I r h
  obtain ⟨a, l, rfl, ha, hl, q⟩ := h
  rw [Vals.ref1 r]
  refine sorted_setS (setX_get I ha) (I.ok.hd hc) hl fun t p out n ys kp hg hos hz hp hs hm hy hso => ?_
  have fresh : H p = none := I.hok.fresh hz
  have big : (ys.map V.str).length ≤ sizeLine := by rw [List.length_map]; exact line_of (by omega)
  have J : Inv X pins σ (upd H p (.lst (ys.map V.str))) { s with heap := t.heap, gens := t.gens, drawn := t.drawn, toks := t.toks } :=
    I.call (ch := []) (Un.laid kp hz fresh) (I.hok.laid kp hz ⟨big, out.toList, n, vals_of_strs hs, hp⟩) (by rw [hg]; exact I.bare) (fun _ z => nomatch z)
  have e : t = { s with heap := t.heap, gens := t.gens, drawn := t.drawn, toks := t.toks } := by
    cases t
    cases s
    cases hos
    rfl
  rw [e]
  exact ⟨.ref p, _, J, rfl, q ys p hm hy hso fresh⟩
end
end Nt
namespace Nt
open PySem PySem.Spec PyProof.Rows L2 PySem.Froz
/-! ### sorted by a def of one line that counts a sign -/
section
variable {P : Program} {w : World} {K : PySem.W.Frag} {x qual v : Str} {params : Arguments} {scope : Scope} {f : Addr} {fd : FuncData} {z : Str} {p1 ap p2 p3 p4 : Pos} {j : Nat}
theorem count_key (F : FunD K x qual params [.Return (some (.Call (.Attribute (.Name v p1) "count" ap) [.Constant (.str z) j p2] [] p3)) p4] scope [] [] f fd) (S : FnScope [v] [v] scope) (hv : scope.names.lookup v = some .local)
    (hbd : ∀ (kV doc pm : Value) (an : Option Addr) (cdv ct : Value) (us : List Value), us.length = [v].length → bindArgs (PySem.W.fnOf x qual params [.Return (some (.Call (.Attribute (.Name v p1) "count" ap) [.Constant (.str z) j p2] [] p3)) p4] scope .none kV doc pm an cdv ct) ⟨us, []⟩ = pure ([v].zip us))
    (hline : (ap.endLine == p3.line) = true) (hdb : (v == ("__debug__" : Str)) = false) {A : Around} {s : Shared} (hA : A.depth < recursionLimit) (KX : K.In s.heap) (lim : s.heap.NoLimit) (y : Str) (t : Tok) (E : Value → Shared → Prop) :
    wpAny (model P w) A (call (.ref f) [.str y t]) (PySem.W.KeyPure (.int (Txt.count y z)) s) E s := by
  have B := F.bindsN hbd
  obtain ⟨oc, od, dV, kV, doc, pm, an, cdv, ct, osl, rfl, lk, hcd, hD, hK⟩ := F.ex
  refine wpAny_call (codeAny_call_function hA (KX _ _ lk) rfl S.co S.gen rfl (PySem.W.codeRec_of KX hcd) ?_)
  refine B s [.str y t] KX rfl _ _ _ _ ?_
  have hk : ∀ q ∈ [v].zip ([Value.str y t] ++ []), scope.names.lookup q.1 = some .local ∨ (scope.names.lookup q.1 = some .cell ∧ ((cellsFrom (s.heap.objs.size + 1) scope.names []).lookup q.1).isSome = true) := fun q hq => by
    have e : q = (v, Value.str y t) := by simpa using hq
    rw [e]
    exact .inl hv
  refine wpAny_newFunctionEnv_cells S.kind hk fun env he s1 ic => ?_
  have k1 : env.kindOf v = some .local := by rw [he]; exact hv
  have k2 : env.scope.kind = .function := by rw [he]; exact S.kind
  have ns := ic.toInCall.ns
  obtain ⟨g, tk, es, kp⟩ := ic.done
  have lm := lim.keeps ic.toInCall.keep
  clear he ic
  refine ⟨lm, codeAny_func ?_⟩
  refine wpAny_execs_cons (wpAny_Return_some (Call_method1 (by rfl) (by rfl) hline ?_))
  refine wpAny_Name (wpAny_loadName_local k2 k1 ns (v := .str y t) ?_ ?_) hdb
  · show bindL _ [(v, Value.str y t)] _ v = _
    unfold bindL
    rw [k1]
    simp [bindL]
  · refine ⟨"str", _, PySem.F.plainAttrs_str, PySem.F.slot_str_count, PySem.F.type_str_count, typeIs_str _ _ _, (fun _ e => nomatch e), Calls.callWith_builtin rfl (Calls.evalArgs_plain (Calls.spliced_cons ?_))⟩
    refine Calls.Constant_str (Calls.spliced_nil (PySem.SC.count ?_))
    subst es
    exact ⟨g, _, rfl, kp, .int _ _⟩
end
end Nt
namespace Nt
open PySem PySem.Spec PyProof.Rows L2 PySem.Froz
section
variable {X : Cx}
theorem each_strs : ∀ {vs : List Value} {xs : List Str}, StrsAre vs xs → PySem.W.EachIs (fun v y => ∃ t, v = Value.str y t) vs xs
  | _, _, .nil => .nil
  | _, _, .cons y t q => .cons ⟨t, rfl⟩ (each_strs q)
theorem strs_each : ∀ {vs : List Value} {xs : List Str}, PySem.W.EachIs (fun v y => ∃ t, v = Value.str y t) vs xs → StrsAre vs xs
  | _, _, .nil => .nil
  | _, _, .cons ⟨t, e⟩ q => by rw [e]; exact .cons _ t (strs_each q)
/-- sorted(xs, key=f), xs a list of texts, f by count_key -/
def qSortKey (f : Addr) : List V → List V → Hp → VK → Prop := fun vs zs H Q => ∃ (a : Addr) (xs : List Str), vs = [.ref a] ∧ zs = [.ref f] ∧ H a = some (.lst (xs.map V.str)) ∧ xs.length ≤ 1000 ∧
  ∀ (ys : List Str) (p : Addr), ys.Perm xs → H p = none → Q (.ref p) (upd H p (.lst (ys.map V.str)))
theorem cq_sortKey {f : Addr} {z : Str} (hu : X.A.units + 200 < cLine)
    (turn : ∀ (s : Shared), X.K.In s.heap → s.heap.NoLimit → ∀ (y : Str) (t : Tok) (E : Value → Shared → Prop), wpAny (model X.prog X.w) X.A.in1.in1 (call (.ref f) [.str y t]) (PySem.W.KeyPure (.int (Txt.count y z)) s) E s) :
    CallRK X (.builtin "sorted") [Str.ofString "key"] (qSortKey f) := by
  intro pins s σ H vs zs us ws Q I r1 r2 h
  obtain ⟨a, xs, rfl, rfl, ha, hl, q⟩ := h
  obtain ⟨its, rv, il, _⟩ := I.list (SqL.of ha)
  rw [Vals.ref1 r1, Vals.ref1 r2]
  have hS : StrsAre its xs := rv.strs
  refine PySem.W.sorted_key_data (b := false) (kw := [(Str.ofString "key", .ref f)]) (fun y => .int (Txt.count y z)) il.isList (each_strs hS) (PySem.W.AllAlike.of fun _ _ => by simp [PySem.W.alike]) (PySem.W.Sortable.others fun _ => ⟨nofun, nofun⟩) (line_of (by omega)) (fun y _ => ?_)
    (ksk_s1 _ _) (fun _ => ksk_l1 _ _) (fun _ => ksk_t1 _ _) (fun v y hv _ g tk kp => ?_) fun out c g tk kp fr hD ol eo => ?_
  · show X.A.units + 2 + 0 < cLine
    omega
  · obtain ⟨t, rfl⟩ := hv
    exact turn { s with heap := g, toks := tk } (I.kIn.keeps kp) (I.nolimit.keeps kp) y t _
  · have h2 := strs_each eo
    have pm : (xs.mergeSort (PySem.W.dataLe false fun y => .int (Txt.count y z))).Perm xs := List.mergeSort_perm _ _
    generalize xs.mergeSort (PySem.W.dataLe false fun y => .int (Txt.count y z)) = ys at h2 pm
    have big : (ys.map V.str).length ≤ sizeLine := by rw [List.length_map, pm.length_eq]; exact line_of (by omega)
    exact ⟨.ref _, _, I.laid (t' := tk) (o := .lst (ys.map V.str)) kp (Nat.le_succ _) ⟨big, out, c, vals_of_strs h2, hD⟩, rfl, q ys _ pm (I.hok.fresh (Nat.le_succ _))⟩
end
end Nt
namespace Nt
open PySem PySem.Spec PyProof.Rows L2
theorem w_ckw {r : List V → List V → Hp → VK → Prop} {t tk : TA} {σ : L2.St} {H : Hp} {Q : VK} (k : t σ H fun vs H1 => tk σ H1 fun zs H2 => r vs zs H2 Q) : tCKw r t tk σ H Q := k
theorem setL_mem {xs : List Str} {y : Str} : y ∈ setL xs ↔ y ∈ xs := by
  unfold setL
  rw [setL_go]
  simp
theorem setL_le (xs : List Str) : (setL xs).length ≤ xs.length := by
  have h := setL_len xs []
  simp only [List.length_nil] at h
  unfold setL
  omega
end Nt
namespace Nt
open PySem PySem.Spec PyProof.Rows L2
section
variable {K : PySem.W.Frag} {σ : L2.St} {H : Hp} {Q : VK} {J : It} {n : Nat} {G : Hp → Prop} {Y : Nat → Hp → V → Hp → Prop} {g : TG} {tt : TT} {te tk tv : TE} {vs : List Nat} {ex : Addr → Prop} {M0 H0 M : Hp}
structure DcS (ex : Addr → Prop) (M0 H0 : Hp) (D : Addr) (A : List (L2.Key × V) → Hp → Prop) (H : Hp) : Prop where
  ex : ∃ M acc, Stp ex M0 H0 M H ∧ M D = none ∧ H D = some (.dK acc) ∧ A acc M
/-- a dict comprehension over a walk -/
theorem dc_go (w : Walk J n G Y) (s0 : Same M H) (A : Nat → List (L2.Key × V) → Hp → Prop) (a0 : A 0 [] M) (hG : ∀ M' H', Stp ex M H M' H' → G H')
    (turn : ∀ i x acc M1 H1 H1' D, i < n → Stp ex M H M1 H1 → H D = none → M1 D = none → H1 D = some (.dK acc) → A i acc M1 → Y i H1 x H1' →
      g x (wipe σ vs) H1' fun σ2 H2 => wipe σ2 vs = wipe σ vs ∧ tt σ2 H2 fun b H3 => if b = true then tk σ2 H3 fun y H4 => tv σ2 H4 fun z H5 => ∃ kvs k, y = kV k ∧ H5 D = some (.dK kvs) ∧ kvs.length < sizeLine ∧ DcS ex M H D (A (i + 1)) (upd H5 D (.dK (putK kvs k z))) else DcS ex M H D (A (i + 1)) H3)
    (done : ∀ D acc M1 H1, H D = none → Stp ex M H M1 H1 → M1 D = none → H1 D = some (.dK acc) → A n acc M1 → Q (.ref D) H1) :
    DcG J g tt tk tv vs σ Q H := by
  intro D hD
  have R := Stp.refl (ex := ex) s0
  refine ⟨fun i m H' => m = n - i ∧ i ≤ n ∧ DcS ex M H D (A i) H', ⟨n, by omega, Nat.zero_le _, M, [], R.new _ hD, R.mfree hD, upd_same, a0⟩, ?_⟩
  rintro i m H1 ⟨rfl, hi, M1, acc, S1, m1, h1, a1⟩
  by_cases q : i = n
  · subst q
    exact .inl ⟨w.stops H1 (hG _ _ S1), done D acc M1 H1 hD S1 m1 h1 a1⟩
  · have hi : i < n := by omega
    refine .inr ⟨w.goes i H1 hi (hG _ _ S1), fun H' => DcS ex M H D (A (i + 1)) H', fun H' h => ⟨n - (i + 1), by omega, rfl, by omega, h⟩, fun x H' hy => turn i x acc M1 H1 H' D hi S1 hD m1 h1 a1 (w.yields i H1 x H' hi (hG _ _ S1) hy)⟩
end
end Nt
namespace Nt
open PySem PySem.Spec PyProof.Rows L2
abbrev bandF (vc vs vr vk vl : V) : List (Str × V) := [("cell_list", vc), ("seed_list", vs), ("row_list", vr), ("known_rows", vk), ("lot_list", vl)]
theorem fl_seed {vc vs vr vk vl : V} : (bandF vc vs vr vk vl).lookup ("seed_list" : Str) = some vs := rfl
theorem fl_row {vc vs vr vk vl : V} : (bandF vc vs vr vk vl).lookup ("row_list" : Str) = some vr := rfl
/-- a Band that stands -/
def BandO (C : Addr) (M : Hp) (cs : Cells) (seeds rows : List Str) (a : Addr) : Prop := ∃ dx vc vs vr vk vl, M a = some (.ins C dx (bandF vc vs vr vk vl)) ∧ Is M (cellsD cs) vc ∧ Is M (dS seeds) vs ∧ Is M (dS rows) vr
theorem BandO.mono {C : Addr} {M M' : Hp} {cs : Cells} {seeds rows : List Str} {a : Addr} (h : BandO C M cs seeds rows a) (s : Same M M') : BandO C M' cs seeds rows a := by
  obtain ⟨dx, vc, vs, vr, vk, vl, h1, h3, h5, h7⟩ := h
  exact ⟨dx, vc, vs, vr, vk, vl, s _ _ h1, h3.mono s, h5.mono s, h7.mono s⟩
section
variable {K : PySem.W.Frag} {σ : L2.St} {H : Hp} {Q : VK} {D : Ends} {ta tv : TE} {f : Str}
theorem w_fld (k : ta σ H fun x H1 => ∃ a C dx fs v, x = .ref a ∧ H1 a = some (.ins C dx fs) ∧ Cls K C ∧ NoAttr K C f ∧ fs.lookup f = some v ∧ Q v H1) : tFld K ta f σ H Q := k
theorem w_sfld (k : tv σ H fun y H1 => ta σ H1 fun x H2 => ∃ a C dx fs, x = .ref a ∧ H2 a = some (.ins C dx fs) ∧ Cls K C ∧ NoAttr K C f ∧ fs.length < 1000 ∧ D.nx σ (upd H2 a (.ins C dx (putF f y fs)))) : sFld K ta tv f D σ H := k
end
theorem pf1 {v1 : V} : putF "cell_list" v1 ([] : List (Str × V)) = ([("cell_list", v1)] : List (Str × V)) := rfl
theorem pf2 {v1 v2 : V} : putF "seed_list" v2 ([("cell_list", v1)] : List (Str × V)) = ([("cell_list", v1), ("seed_list", v2)] : List (Str × V)) := rfl
theorem pf3 {v1 v2 v3 : V} : putF "row_list" v3 ([("cell_list", v1), ("seed_list", v2)] : List (Str × V)) = ([("cell_list", v1), ("seed_list", v2), ("row_list", v3)] : List (Str × V)) := rfl
theorem pf4 {v1 v2 v3 v4 : V} : putF "known_rows" v4 ([("cell_list", v1), ("seed_list", v2), ("row_list", v3)] : List (Str × V)) = ([("cell_list", v1), ("seed_list", v2), ("row_list", v3), ("known_rows", v4)] : List (Str × V)) := rfl
theorem pf5 {v1 v2 v3 v4 v5 : V} : putF "lot_list" v5 ([("cell_list", v1), ("seed_list", v2), ("row_list", v3), ("known_rows", v4)] : List (Str × V)) = bandF v1 v2 v3 v4 v5 := rfl
end Nt
namespace Nt
open PySem PySem.Spec PyProof.Rows L2
theorem from_nox {X : Cx} {body : List Stmt} {D : Ends} {σ : L2.St} {H : Hp} (h : ∃ t, PSs X.nox body t ∧ t D σ H) : ∃ t, PSs X body t ∧ t D σ H := let ⟨t, a, b⟩ := h; ⟨t, a.nox, b⟩
end Nt
/-! Lists or tuples walked; lumps. -/
namespace Nt
open PySem PySem.Spec PyProof.Rows L2
abbrev SQ (H : Hp) (a : Addr) (vs : List V) : Prop := H a = some (.lst vs) ∨ H a = some (.tup vs)
theorem SQ.mono {M H : Hp} (s : Same M H) {a : Addr} {vs : List V} (h : SQ M a vs) : SQ H a vs := h.imp (s _ _) (s _ _)
theorem SQ.one {H : Hp} {a : Addr} {vs ws : List V} (h : SQ H a vs) (g : SQ H a ws) : vs = ws := by
  rcases h with h | h <;> rcases g with g | g <;> rw [h] at g <;> cases g <;> rfl
section
variable {K : PySem.W.Frag} {σ : L2.St} {H : Hp} {Q : VK} {a : Addr} {vs : List V} {R : It → Hp → Prop} {te : TE}
theorem w_walkQ (h : SQ H a vs) (k : ∀ (J : It) (G : Hp → Prop), (∀ H', (∀ o, H a = some o → H' a = some o) → G H') → Walk J vs.length G (YAt vs) → R J H) : ∃ b, V.ref a = .ref b ∧ ((∃ xs, SqL K H b xs ∧ R (Itl K b) H) ∨ ∃ xs, SqT K H b xs ∧ R (Itt K b) H) := by
  refine ⟨a, rfl, ?_⟩
  rcases h with h | h
  · exact .inl ⟨vs, SqL.of h, k _ (fun H' => H' a = some (.lst vs)) (fun H' q => q _ h) walkL⟩
  · exact .inr ⟨vs, SqT.of h, k _ (fun H' => H' a = some (.tup vs)) (fun H' q => q _ h) walkT⟩
end
/-- what a list or a tuple holds -/
def Dat.seq : Dat → Option (List Dat)
  | .lst ds => some ds
  | .tup ds => some ds
  | _ => none
theorem Dat.seq_ty {d : Dat} : (d.isT "list" || d.isT "tuple") = d.seq.isSome := by cases d <;> rfl
theorem Is.seq {M : Hp} {d : Dat} {v : V} {ds : List Dat} (h : Is M d v) (e : d.seq = some ds) : ∃ a vs, v = .ref a ∧ SQ M a vs ∧ IsA M ds vs := by
  cases d with
  | lst xs =>
    cases e
    obtain ⟨a, vs, e, q, r⟩ := h
    exact ⟨a, vs, e, .inl q, r⟩
  | tup xs =>
    cases e
    obtain ⟨a, vs, e, q, r⟩ := h
    exact ⟨a, vs, e, .inr q, r⟩
  | _ => cases e
/-- the text that it is -/
def Dat.txt : Dat → Option Str
  | .str x => some x
  | _ => none
theorem Dat.txt_ty {d : Dat} : d.isT "str" = d.txt.isSome := by cases d <;> rfl
theorem Is.txt {M : Hp} {d : Dat} {v : V} {x : Str} (h : Is M d v) (e : d.txt = some x) : v = .str x := by
  cases d with
  | str y => cases e; exact h
  | _ => cases e
/-- lumps as texts, whatever lists or tuples hold them -/
def txts : List Dat → Option (List Str)
  | [] => some []
  | d :: ds => match d.txt, txts ds with
    | some x, some xs => some (x :: xs)
    | _, _ => none
def lumpsOf : List Dat → Option (List (List Str))
  | [] => some []
  | d :: ds => match d.seq.bind txts, lumpsOf ds with
    | some g, some gs => some (g :: gs)
    | _, _ => none
theorem txts_at : ∀ {ds : List Dat} {xs : List Str}, txts ds = some xs → ds = xs.map Dat.str
  | [], xs, h => by cases h; rfl
  | d :: ds, xs, h => by
    rw [txts] at h
    cases e : d.txt with
    | none => rw [e] at h; cases h
    | some x =>
      rw [e] at h
      cases e2 : txts ds with
      | none => rw [e2] at h; cases h
      | some ys =>
        rw [e2] at h
        cases h
        have hd : d = .str x := by cases d <;> first | cases e; rfl | cases e
        rw [hd, txts_at e2]
        rfl
theorem txts_map : ∀ xs : List Str, txts (xs.map Dat.str) = some xs
  | [] => rfl
  | x :: xs => by
    rw [List.map_cons, txts, txts_map xs]
    rfl
/-- small enough to be gone through -/
def Sm (d : Dat) : Prop := ∀ ds, d.seq = some ds → ds.length ≤ 200 ∧ ∀ e ∈ ds, ∀ es, e.seq = some es → es.length ≤ 200
/-- the lumps that d holds are a parting of full -/
def IsL (full : List Str) (d : Dat) : Prop := ∃ ds gs, d.seq = some ds ∧ lumpsOf ds = some gs ∧ (∀ g ∈ gs, g ≠ []) ∧ gs.flatten.Perm full
theorem IsQ.seq {M : Hp} {ds : List Dat} {v : V} (h : IsQ M ds v) : ∃ a vs, v = .ref a ∧ SQ M a vs ∧ IsA M ds vs := h
end Nt
/-! Places of rows in lumps; the first break. -/
namespace Nt
open PySem PySem.Spec PyProof.Rows L2
abbrev Lt (x y : Str) : Prop := sl x < sl y
theorem Lt.irrefl (x : Str) : ¬ Lt x x := List.lt_irrefl _
theorem Lt.trans {x y z : Str} (h : Lt x y) (g : Lt y z) : Lt x z := List.lt_trans h g
theorem Lt.tri (x y : Str) : Lt x y ∨ x = y ∨ Lt y x := by
  by_cases h : sl x < sl y
  · exact .inl h
  · by_cases g : sl y < sl x
    · exact .inr (.inr g)
    · exact .inr (.inl (sl_inj (List.le_antisymm (List.not_lt.mp g) (List.not_lt.mp h))))
theorem rising_pw : ∀ {ys : List Str} {x : Str}, risingS x ys = true → (∀ y ∈ ys, ¬ Lt y x) ∧ ys.Pairwise fun a b => ¬ Lt b a
  | [], x, _ => ⟨by simp, List.Pairwise.nil⟩
  | y :: ys, x, h => by
    rw [risingS, Bool.and_eq_true, Bool.not_eq_true', ltCps_eq, decide_eq_false_iff_not] at h
    obtain ⟨h1, h2⟩ := h
    obtain ⟨h3, h4⟩ := rising_pw h2
    refine ⟨fun z hz => ?_, List.pairwise_cons.mpr ⟨h3, h4⟩⟩
    rcases List.mem_cons.mp hz with e | e
    · rw [e]; exact h1
    · intro q
      rcases Lt.tri x y with t | t | t
      · exact h3 z e (q.trans t)
      · rw [t] at q; exact h3 z e q
      · exact h1 t
theorem sorted_pw {ys : List Str} (h : sortedS ys = true) : ys.Pairwise fun a b => ¬ Lt b a := by
  cases ys with
  | nil => exact List.Pairwise.nil
  | cons x r =>
    obtain ⟨h1, h2⟩ := rising_pw (show risingS x r = true from h)
    exact List.pairwise_cons.mpr ⟨h1, h2⟩
/-- there is one sorted list -/
theorem sorted_one : ∀ {xs ys : List Str}, xs.Perm ys → (xs.Pairwise fun a b => ¬ Lt b a) → (ys.Pairwise fun a b => ¬ Lt b a) → xs = ys
  | [], ys, h, _, _ => (List.nil_perm.mp h).symm
  | x :: xs, [], h, _, _ => (List.perm_nil.mp h)
  | x :: xs, y :: ys, h, p, q => by
    obtain ⟨p1, p2⟩ := List.pairwise_cons.mp p
    obtain ⟨q1, q2⟩ := List.pairwise_cons.mp q
    have e : x = y := by
      have hx : x ∈ y :: ys := h.mem_iff.mp List.mem_cons_self
      have hy : y ∈ x :: xs := h.mem_iff.mpr List.mem_cons_self
      rcases List.mem_cons.mp hx with e | e
      · exact e
      · rcases List.mem_cons.mp hy with f | f
        · exact f.symm
        · rcases Lt.tri x y with t | t | t
          · exact absurd t (q1 x e)
          · exact t
          · exact absurd t (p1 y f)
    subst e
    rw [sorted_one (List.Perm.cons_inv h) p2 q2]
/-! ### places -/
def plc (gs : List (List Str)) (r : Str) : Nat := (((List.range gs.length).filter fun k => decide (r ∈ gs.getD k [])).head?).getD 0
theorem plc_has {gs : List (List Str)} {r : Str} (h : r ∈ gs.flatten) : ∃ t, ((List.range gs.length).filter fun k => decide (r ∈ gs.getD k [])) = plc gs r :: t ∧ plc gs r < gs.length ∧ r ∈ gs.getD (plc gs r) [] := by
  obtain ⟨g, hg, hr⟩ := List.mem_flatten.mp h
  obtain ⟨i, hi⟩ := List.getElem?_of_mem hg
  have hm : i ∈ (List.range gs.length).filter fun k => decide (r ∈ gs.getD k []) := List.mem_filter.mpr ⟨List.mem_range.mpr (lt_of_get hi), by
    rw [List.getD_eq_getElem?_getD, hi]
    simpa using hr⟩
  cases e : (List.range gs.length).filter fun k => decide (r ∈ gs.getD k []) with
  | nil => rw [e] at hm; cases hm
  | cons k t =>
    have hp : plc gs r = k := by rw [plc, e]; rfl
    have hk : k ∈ (List.range gs.length).filter fun k => decide (r ∈ gs.getD k []) := by rw [e]; exact List.mem_cons_self
    obtain ⟨h1, h2⟩ := List.mem_filter.mp hk
    rw [hp]
    exact ⟨t, rfl, List.mem_range.mp h1, by simpa using h2⟩
theorem mem_getD {gs : List (List Str)} {k : Nat} {r : Str} (h : r ∈ gs.getD k []) : k < gs.length ∧ gs.getD k [] ∈ gs ∧ r ∈ gs.flatten := by
  rw [List.getD_eq_getElem?_getD] at h ⊢
  cases e : gs[k]? with
  | none => rw [e] at h; simp at h
  | some g =>
    rw [e] at h
    exact ⟨lt_of_get e, mem_of_get e, List.mem_flatten.mpr ⟨g, mem_of_get e, h⟩⟩
/-- in a parting each row has one place -/
theorem plc_one {gs : List (List Str)} (nd : gs.flatten.Nodup) : ∀ {k j : Nat} {r : Str}, r ∈ gs.getD k [] → r ∈ gs.getD j [] → k = j := by
  induction gs with
  | nil => intro k j r h; simp at h
  | cons g gs ih =>
    rw [List.flatten_cons, List.nodup_append] at nd
    intro k j r hk hj
    cases k with
    | zero =>
      cases j with
      | zero => rfl
      | succ j => exact absurd rfl (nd.2.2 r hk r (mem_getD (gs := gs) (k := j) hj).2.2)
    | succ k =>
      cases j with
      | zero => exact absurd rfl (nd.2.2 r hj r (mem_getD (gs := gs) (k := k) hk).2.2)
      | succ j => rw [ih nd.2.1 (k := k) (j := j) hk hj]
theorem plc_at {gs : List (List Str)} (nd : gs.flatten.Nodup) {k : Nat} {r : Str} (h : r ∈ gs.getD k []) : plc gs r = k := by
  obtain ⟨_, _, _, h2⟩ := plc_has (mem_getD h).2.2
  exact plc_one nd h2 h
/-! ### breaks -/
def Apart (gs : List (List Str)) (s r o : Str) : Prop := o ∈ gs.getD (plc gs r) [] ∧ plc gs (ovr s o) ≠ plc gs (ovr s r)
def Whole (gs : List (List Str)) (full : List Str) (s : Str) : Prop := ∀ r ∈ full, ∀ o, ¬ Apart gs s r o
def BrkIs (gs : List (List Str)) (seeds full : List Str) : Option (Str × Str × Str) → Prop
  | none => ∀ s ∈ seeds, Whole gs full s
  | some (s, r, o) => ∃ i : Nat, seeds[i]? = some s ∧ (∀ j s', j < i → seeds[j]? = some s' → Whole gs full s') ∧ r ∈ full ∧ Apart gs s r o ∧ (∀ r' ∈ full, Lt r' r → ∀ o', ¬ Apart gs s r' o') ∧ ∀ o', Apart gs s r o' → ¬ Lt o' o
theorem BrkIs.one {gs : List (List Str)} {seeds full : List Str} : ∀ {a b : Option (Str × Str × Str)}, BrkIs gs seeds full a → BrkIs gs seeds full b → a = b
  | none, none, _, _ => rfl
  | none, some (s, r, o), h, ⟨i, h1, _, h3, h4, _⟩ => absurd h4 (h s (mem_of_get h1) r h3 o)
  | some (s, r, o), none, ⟨i, h1, _, h3, h4, _⟩, h => absurd h4 (h s (mem_of_get h1) r h3 o)
  | some (s, r, o), some (s', r', o'), ⟨i, h1, h2, h3, h4, h5, h6⟩, ⟨i', g1, g2, g3, g4, g5, g6⟩ => by
    have ei : i = i' := by
      rcases Nat.lt_trichotomy i i' with t | t | t
      · exact absurd h4 (g2 i s t h1 r h3 o)
      · exact t
      · exact absurd g4 (h2 i' s' t g1 r' g3 o')
    subst ei
    rw [h1] at g1
    cases g1
    have er : r = r' := by
      rcases Lt.tri r r' with t | t | t
      · exact absurd h4 (g5 r h3 t o)
      · exact t
      · exact absurd g4 (h5 r' g3 t o')
    subst er
    have eo : o = o' := by
      rcases Lt.tri o o' with t | t | t
      · exact absurd t (g6 o h4)
      · exact t
      · exact absurd t (h6 o' g4)
    rw [eo]
def brkD : Option (Str × Str × Str) → Dat
  | none => .non
  | some (s, r, o) => .tup [.str s, .str r, .str o]
end Nt
namespace Nt
open PySem PySem.Spec PyProof.Rows L2
def okE (full : List Str) (e : Dat) : Bool := match e.txt with
  | some x => decide (x ∈ full)
  | none => false
theorem okE_all {full : List Str} : ∀ {es : List Dat}, (es.map (okE full)).all id = true → ∃ g, txts es = some g ∧ ∀ x ∈ g, x ∈ full
  | [], _ => ⟨[], rfl, by simp⟩
  | e :: es, h => by
    rw [List.map_cons, List.all_cons, Bool.and_eq_true] at h
    obtain ⟨g, hg, hx⟩ := okE_all (es := es) h.2
    have h1 : okE full e = true := h.1
    unfold okE at h1
    cases q : e.txt with
    | none => rw [q] at h1; cases h1
    | some x =>
      rw [q] at h1
      refine ⟨x :: g, by rw [txts, q, hg], fun y hy => ?_⟩
      rcases List.mem_cons.mp hy with z | z
      · rw [z]; exact of_decide_eq_true h1
      · exact hx y z
theorem okE_not {full : List Str} {es : List Dat} {g : List Str} (h : txts es = some g) (hx : ∀ x ∈ g, x ∈ full) : (es.map (okE full)).all id = true := by
  rw [txts_at h, List.map_map, List.all_map]
  refine List.all_eq_true.mpr fun x m => ?_
  show decide (x ∈ full) = true
  exact decide_eq_true (hx x m)
theorem lumpsOf_at : ∀ {ds : List Dat} {gs : List (List Str)}, lumpsOf ds = some gs → ∀ {i : Nat} {d : Dat}, ds[i]? = some d → ∃ g, gs[i]? = some g ∧ d.seq.bind txts = some g
  | [], gs, h, i, d, e => by simp at e
  | c :: ds, gs, h, i, d, e => by
    rw [lumpsOf] at h
    cases q : c.seq.bind txts with
    | none => rw [q] at h; cases h
    | some g =>
      rw [q] at h
      cases q2 : lumpsOf ds with
      | none => rw [q2] at h; cases h
      | some hs =>
        rw [q2] at h
        cases h
        cases i with
        | zero =>
          have e' : c = d := by simpa using e
          subst e'
          exact ⟨g, rfl, q⟩
        | succ i =>
          obtain ⟨g', h1, h2⟩ := lumpsOf_at q2 (i := i) (by simpa using e)
          exact ⟨g', by simpa using h1, h2⟩
theorem lumpsOf_snoc : ∀ {ds : List Dat} {gs : List (List Str)} {d : Dat} {g : List Str}, lumpsOf ds = some gs → d.seq.bind txts = some g → lumpsOf (ds ++ [d]) = some (gs ++ [g])
  | [], gs, d, g, h, e => by
    cases h
    show lumpsOf [d] = some [g]
    rw [lumpsOf, e]
    rfl
  | c :: ds, gs, d, g, h, e => by
    rw [lumpsOf] at h
    cases q : c.seq.bind txts with
    | none => rw [q] at h; cases h
    | some g' =>
      rw [q] at h
      cases q2 : lumpsOf ds with
      | none => rw [q2] at h; cases h
      | some hs =>
        rw [q2] at h
        cases h
        show lumpsOf (c :: (ds ++ [d])) = _
        rw [lumpsOf, q, lumpsOf_snoc q2 e]
        rfl
theorem flat_len {gs : List (List Str)} {n : Nat} (h : ∀ g ∈ gs, g.length ≤ n) : gs.flatten.length ≤ gs.length * n := by
  induction gs with
  | nil => simp
  | cons g gs ih =>
    have h1 := ih fun x hx => h x (List.mem_cons_of_mem _ hx)
    have h2 := h g List.mem_cons_self
    rw [List.flatten_cons, List.length_append, List.length_cons, Nat.succ_mul]
    omega
/-- sorted(xs), xs a list of texts of any length -/
def qSortS : List V → Hp → VK → Prop := fun vs H Q => ∃ (a : Addr) (xs : List Str), vs = [.ref a] ∧ H a = some (.lst (xs.map V.str)) ∧ xs.length ≤ 1000000 ∧ ∀ (ys : List Str) (p : Addr), ys.Perm xs → sortedS ys = true → H p = none → Q (.ref p) (upd H p (.lst (ys.map V.str)))
theorem cq_sortS {X : Cx} : CallR X (.builtin "sorted") qSortS := by
  intro pins s σ H vs us Q I r h
  obtain ⟨a, xs, rfl, ha, hl, q⟩ := h
  obtain ⟨its, rv, il, _⟩ := I.list (SqL.of ha)
  rw [Vals.ref1 r]
  have hS := rv.strs
  refine PyProof.Rows.sorted_strsAny il.isList hS (by rw [StrsAre.len_eq hS]; exact line_of hl) fun out ys h1 h2 h3 => ?_
  obtain ⟨ep, he⟩ := PyProof.Rows.sortedAll_at s.heap its out
  have big : (ys.map V.str).length ≤ sizeLine := by rw [List.length_map, h2.length_eq]; exact line_of hl
  exact ⟨.ref _, _, I.laid (t' := s.toks) (o := .lst (ys.map V.str)) (fun _ _ => PyProof.Rows.sortedAll_old) (Nat.le_succ _) ⟨big, out.toList, ep, vals_of_strs h1, he⟩, rfl, q ys _ h2 h3 (I.hok.fresh (Nat.le_succ _))⟩
end Nt
namespace Nt
open PySem PySem.Spec PyProof.Rows L2
theorem SQ.keep {M H H' : Hp} {a : Addr} {vs : List V} (h : SQ M a vs) (s : Same M H) (s' : Same M H') (o : HO) (e : H a = some o) : H' a = some o := by
  rcases h with z | z
  · rw [s _ _ z] at e; cases e; exact s' _ _ z
  · rw [s _ _ z] at e; cases e; exact s' _ _ z
end Nt
namespace Nt
open PySem PySem.Spec PyProof.Rows L2
theorem w_seqV {K : PySem.W.Frag} {σ : L2.St} {H : Hp} {a : Addr} {vs : List V} {i : Nat} {R : It → Hp → Prop} (h : SQ H a vs) (hv : σ[i]? = some (some (.ref a)))
    (k : ∀ (J : It) (G : Hp → Prop), (∀ H', (∀ o, H a = some o → H' a = some o) → G H') → Walk J vs.length G (YAt vs) → R J H) : iSeq K (tVar i) σ H R :=
  ⟨.ref a, hv, w_walkQ h k⟩
end Nt
/-! An own exception made without arguments. -/
namespace Nt
open PySem PySem.Spec PyProof.Rows L2
section
variable {X : Cx} {pins : List (Addr × Obj)} {σ : L2.St} {H : Hp}
/-- where a new exception of the class C comes to stand: its arguments' empty tuple first, then itself -/
abbrev withExc (C : Addr) (h : Heap) : Heap := (h.push (PySem.W.kdv_tup [])).push (PySem.HandSPX.excO C h.objs.size)
theorem withExc_old {C : Addr} {h : Heap} : ∀ b o, h.get? b = some o → (withExc C h).get? b = some o := fun _ _ e => Heap.get?_push_of_some _ (Heap.get?_push_of_some _ e)
theorem withExc_inv {C : Addr} {h : Heap} {g : Array GenState} {dr : Drawn} {tk : Nat} {os : OsState} (I : L2.Inv X pins σ H ⟨h, g, dr, tk, os⟩) : L2.Inv X pins σ (upd H (h.objs.size + 1) (exo (h.objs.size + 1) C none)) ⟨withExc C h, g, dr, tk, os⟩ :=
  I.laid (t' := tk) withExc_old (Nat.le_succ h.objs.size) (exo_ok (by heap_get))
/-- C(), C an own exception with an __init__ of its own whose parameters all have defaults, or that has none but self -/
theorem pmk_oex0 {CX : CXT} {x : Str} {p pos : Pos} {C fI : Addr} {k : Nat} {fd : FuncData} {ps : List Str} {sp : Sp} (T : OexC X.K C) (iC : PySem.W.findIn X.K (.ref C) "__init__" = some (some (.ref fI))) (tI : PySem.W.typeIn X.K (.ref fI) = some (.type "function"))
    (F1 : FnOk X.prog X.w X.K X.mg X.base CX k fI fd ps sp) (hr : Room (k + 1) X.A) (hb : Binds X.K fd ps []) (hx : Passes CX X (fun _ _ _ => False)) (hg : Gl X x) (hm : X.mg x = some (.ref C)) (hdb : (x == ("__debug__" : Str)) = false := by decide) :
    PMk X (.Call (.Name x p) [] [] pos) (tMkO C sp [] tNil) := by
  intro pins ⟨h, g, dr, tk, os⟩ σ H Q I ⟨_, want⟩
  have J := withExc_inv (C := C) I
  have due := want (h.objs.size + 1) (I.hok.fresh (Nat.le_succ _))
  have one : 1 = ps.length := F1.len _ _ _ _ due
  obtain ⟨nm, q, N, bs, bm, sn, sub, ab, col, dd, k0, k1, k2, k3, k5, there, clear⟩ := T.cls
  refine wpAny_Call_Name_kw (ld_glob I hg hm (PySem.W.callWith_K0 I.kIn T.kC (wpAny_call ?_)) hdb)
  refine PySem.HandSPX.call_own F.excBase_ValueError (fun Y => PySem.HandSPX.refsVE_contains Y bm clear) (I.kIn _ _ there) (PySem.W.looks_findIn I.kIn iC) (fun self => PySem.W.bind_fn I.kIn self tI) (Nat.zero_le _) ?_
  have ran := F1.run _ X.stack _ _ ⟨[Value.ref (h.objs.size + 1)], []⟩ [Value.ref (h.objs.size + 1)] [V.ref (h.objs.size + 1)] _ (fun _ _ _ => False) (hr.make C [] []) (J.env0.make C [] [])
    (hb _ [Value.ref (h.objs.size + 1)] J.kIn one) (.cons rfl .nil) due
  refine codeAny_mono ran fun r t ht => ?_
  rcases r with er | fl
  · exact hx pins σ _ _ er t J ht
  · cases fl <;> try exact False.elim ht
    obtain ⟨v, H2, os2, bare2, un2, hok2, rv, ev, d, fs, ea, ed, hd1, more⟩ := ht
    rw [ev] at rv
    exact ⟨rv, mk_end (raises_own T.exC T.tyC) I (Nat.le_succ _) withExc_old un2 hok2 os2 bare2 ea ed hd1 more⟩
end
end Nt
namespace Nt
open PySem PySem.Spec PyProof.Rows L2
theorem perm_of_sub {α : Type} [DecidableEq α] : ∀ {l m : List α}, l.Nodup → (∀ x ∈ l, x ∈ m) → m.length ≤ l.length → l.Perm m
  | [], m, _, _, h => by
    have e : m = [] := List.length_eq_zero_iff.mp (by simpa using h)
    rw [e]
  | x :: l, m, nd, sub, h => by
    obtain ⟨hx, nl⟩ := List.nodup_cons.mp nd
    have hm := sub x List.mem_cons_self
    have p := List.perm_cons_erase hm
    have e := p.length_eq
    rw [List.length_cons] at e h
    refine List.Perm.trans ?_ p.symm
    refine List.Perm.cons x (perm_of_sub nl (fun y hy => ?_) (by omega))
    have := p.mem_iff.mp (sub y (List.mem_cons_of_mem _ hy))
    rcases List.mem_cons.mp this with z | z
    · rw [z] at hy; exact absurd hy hx
    · exact z
theorem lumpsOf_take : ∀ {ds : List Dat} {gs : List (List Str)}, lumpsOf ds = some gs → ∀ i, lumpsOf (ds.take i) = some (gs.take i)
  | [], gs, h, i => by cases h; simp [lumpsOf]
  | c :: ds, gs, h, 0 => by simp [lumpsOf]
  | c :: ds, gs, h, i + 1 => by
    rw [lumpsOf] at h
    cases q : c.seq.bind txts with
    | none => rw [q] at h; cases h
    | some g =>
      rw [q] at h
      cases q2 : lumpsOf ds with
      | none => rw [q2] at h; cases h
      | some hs =>
        rw [q2] at h
        cases h
        rw [List.take_succ_cons, lumpsOf, q, lumpsOf_take q2 i, List.take_succ_cons]
theorem txts_take {es : List Dat} {g : List Str} (h : txts es = some g) (n : Nat) : txts (es.take n) = some (g.take n) := by
  rw [txts_at h, ← List.map_take, txts_map]
theorem flat_pre {gs : List (List Str)} {i : Nat} {g : List Str} (h : gs[i]? = some g) (n : Nat) : ∃ t, gs.flatten = (gs.take i).flatten ++ (g.take n ++ t) ∧ g.take n ++ g.drop n = g ∧ ∀ x, g[n]? = some x → x ∈ t := by
  obtain ⟨hi, rfl⟩ := List.getElem?_eq_some_iff.mp h
  refine ⟨gs[i].drop n ++ (gs.drop (i + 1)).flatten, ?_, List.take_append_drop _ _, fun x hx => List.mem_append.mpr (.inl ?_)⟩
  · have e : gs = gs.take i ++ (gs[i] :: gs.drop (i + 1)) := by rw [List.getElem_cons_drop, List.take_append_drop]
    conv => lhs; rw [e]
    rw [List.flatten_append, List.flatten_cons, ← List.append_assoc (gs[i].take n), List.take_append_drop]
  · rw [← List.take_append_drop n gs[i]] at hx
    have hl : (gs[i].take n).length ≤ n := by rw [List.length_take]; exact Nat.min_le_left _ _
    have hlt : n < gs[i].length := by
      have := lt_of_get hx
      rw [List.take_append_drop] at this
      exact this
    rw [List.getElem?_append_right hl, List.length_take, Nat.min_eq_left (by omega), Nat.sub_self] at hx
    exact mem_of_get hx
theorem seen_twice {gs : List (List Str)} {full : List Str} (nd : full.Nodup) (pm : gs.flatten.Perm full) {i n : Nat} {g : List Str} {x : Str} (h : gs[i]? = some g) (hx : g[n]? = some x) : x ∉ (gs.take i).flatten ++ g.take n := by
  obtain ⟨t, e, _, ht⟩ := flat_pre h n
  have nf : gs.flatten.Nodup := pm.nodup_iff.mpr nd
  rw [e, ← List.append_assoc, List.nodup_append] at nf
  intro z
  exact nf.2.2 x z x (ht x hx) rfl
end Nt
namespace Nt
open PySem PySem.Spec PyProof.Rows L2
theorem w_meth {C : Addr} {m : Str} {sp : Sp} {dvs : List V} {E : XK} {ta : TE} {t : TA} {σ : L2.St} {H : Hp} {Q : VK} (k : ta σ H fun x H1 => ∃ a dx fs, x = .ref a ∧ H1 a = some (.ins C dx fs) ∧ fs.lookup m = none ∧
  t σ H1 fun vs H2 => sp (x :: (vs ++ dvs)) H2 Q E) : tMeth C m sp dvs E ta t σ H Q := k
end Nt
/-! enumerate(a tuple); enumerate of a list or a tuple. -/
namespace Nt
open PySem PySem.Spec PyProof.Rows
open AutoSeq1 (wpAny_loadPart')
abbrev tupIt (l : Addr) : Obj := { cls := .type "tuple_iterator", data := .fields #[.ref l, .int 0 0] }
abbrev enumOf (it : Addr) : Obj := { cls := .type "enumerate", data := .fields #[.none, .bool false, .ref it, rawInt 0, .none, .none] }
theorem meets_enumT (l : Addr) (items : Array Value) (k : Nat) (dc : Option Addr) (sl : Array (Option Value)) :
    Meets (Builtin.«enumerate.__new__» ⟨[.type "enumerate", .ref l], []⟩) (fun _ R s => s.heap.get? l = some { cls := .type "tuple", dict := dc, data := .seq items k, slots := sl } ∧
      R (.ok (.ret (.ref (s.heap.push (tupIt l)).objs.size))) { s with heap := (s.heap.push (tupIt l)).push (enumOf s.heap.objs.size) }) :=
  .of_wp fun prog w A R s h => by
    obtain ⟨hp, g, d, tk, os⟩ := s
    obtain ⟨at0, q⟩ := h
    have sub1 := sub_enumerate
    have tup1 : Heap.IsTuple (Shared.heap ⟨hp, g, d, tk, os⟩) l items := ⟨_, at0, rfl, k, rfl⟩
    wp_walk using wpAny_loadPart' at0
    refine wpAny_stack_any fun st => wpAny_pure ?_
    split
    · rename_i c _ _ _ _ _
      cases (c == Value.type "enumerate") <;> (wp_walk using wpAny_loadPart' at0, wpAny_pyIter_tuple tup1; exact ⟨_, rfl, q⟩)
    · wp_walk using wpAny_loadPart' at0, wpAny_pyIter_tuple tup1
      exact ⟨_, rfl, q⟩
theorem call_enumT {prog : Program} {w : World} {A : Around} {E : Value → Shared → Prop} {s : Shared} {l : Addr} {items : Array Value} {Q : Value → Shared → Prop} (tup1 : s.heap.IsTuple l items)
    (q : ∀ g, IsEnum g (s.heap.objs.size + 1) s.heap.objs.size 0 .none → g.IsTupleIter s.heap.objs.size l 0 → (∀ b o, s.heap.get? b = some o → g.get? b = some o) → Q (.ref (s.heap.objs.size + 1)) { s with heap := g }) :
    wpAny (model prog w) A (call (.type "enumerate") [.ref l]) Q E s := by
  obtain ⟨⟨c, dc, dt, sl⟩, at0, hc, k, hd⟩ := tup1
  obtain rfl : c = .type "tuple" := hc
  obtain rfl : dt = .seq items k := hd
  refine callType_new F.called_enumerate (by decide) (F.typeCall_enumerate_1 _) (F.newCall_enumerate_1 _) (fun obj => F.args_object_init_2 obj _) F.entry_enumerate_new (meets_enumT l items k dc sl) ⟨at0, ?_⟩
  have sz : (s.heap.push (tupIt l)).objs.size = s.heap.objs.size + 1 := Heap.size_push ..
  show _ ∧ _
  rw [sz]
  have en : IsEnum ((s.heap.push (tupIt l)).push (enumOf s.heap.objs.size)) (s.heap.objs.size + 1) s.heap.objs.size 0 .none := by
    have z := Heap.get?_push_size (s.heap.push (tupIt l)) (o := enumOf s.heap.objs.size) rfl
    rw [sz] at z
    exact z
  exact ⟨⟨_, en, rfl⟩, q _ en ⟨_, Heap.get?_push_of_some _ (Heap.get?_push_size _ rfl), rfl, rfl⟩ fun b o e => Heap.get?_push_of_some _ (Heap.get?_push_of_some _ e)⟩
end Nt
namespace Nt
open PySem PySem.Spec PyProof.Rows L2
/-- enumerate of the tuple at a: new pairs -/
def Itet (K : PySem.W.Frag) (a : Addr) : It :=
  ⟨fun i H => ∃ xs : List V, SqT K H a xs ∧ i < xs.length,
   fun i H v H' => ∃ T x, v = .ref T ∧ H T = none ∧ H' = upd H T (.tup [.int (i : Nat), x]) ∧ ∀ xs, SqT K H a xs → xs[i]? = some x,
   fun i H => ∃ xs : List V, SqT K H a xs ∧ i = xs.length⟩
theorem turn_et {P : Program} {w : World} {K : PySem.W.Frag} {elts : List Expr} {kk : Nat} {tpos : Pos} {a e it : Addr} (ne : e ≠ it) :
    Turn P w K (.Tuple elts kk tpos) (Itet K a) [e, it] e (fun i h => (∃ old, IsEnum h e it ((i : Nat) : Int) old) ∧ h.IsTupleIter it a i) where
  mem := by simp
  obj := fun i h st b hb => by
    obtain ⟨⟨old, he⟩, ⟨o, ho, _, hd⟩⟩ := st
    have q : b = e ∨ b = it := by simpa using hb
    rcases q with q | q
    · rw [q]; exact ⟨_, he, fun v q => nomatch q⟩
    · rw [q]; exact ⟨o, ho, fun v q => by rw [hd] at q; cases q⟩
  keep := fun i h h' st k => by
    obtain ⟨⟨old, he⟩, ⟨o, ho, r⟩⟩ := st
    exact ⟨⟨old, k e (by simp) _ he⟩, ⟨o, k it (by simp) _ ho, r⟩⟩
  item := by
    intro X hP hw hK hc i pins s σ H E I hf st hg
    subst hP hw hK
    have hh : X.A.in1.handled = none := I.ok.hd hc
    obtain ⟨xs, hxs, hlt⟩ := hg
    obtain ⟨its, rv, p, _⟩ := I.tuple hxs
    have elen : xs.length = its.length := rv.length
    obtain ⟨⟨old, he⟩, hit⟩ := id st
    have ea : e ≠ a := fun z => by
      obtain ⟨o, ho, ho2, _⟩ := p
      rw [← z, he] at ho
      cases ho
      exact absurd (show Value.type "enumerate" = Value.type "tuple" from ho2) (by decide)
    have ia : a ≠ it := fun z => by
      obtain ⟨o, ho, ho2, _⟩ := p
      obtain ⟨o2, h2, h3, _⟩ := hit
      rw [z, h2] at ho
      cases ho
      rw [h3] at ho2
      injection ho2 with z2
      exact absurd z2 (by decide)
    have G := GoesN.enumFrom (elts := elts) (x1 := kk) (pos := tpos) (prog := X.prog) (w := X.w) (A := X.A) 0 (Draws.tuple (prog := X.prog) (w := X.w) (A := X.A.in1) hh it a ia its.toArray) e ne (by simp [ne, ea]) (by simp)
    have le := Heap.lt_size he
    have li : it < s.heap.objs.size := by obtain ⟨_, q, _⟩ := hit; exact Heap.lt_size q
    have z0 : (0 : Int) + (i : Int) = ((i : Nat) : Int) := Int.zero_add _
    refine thn (G.goes i s (fun v s2 => ∃ xx H', L2.Inv X pins σ H' s2 ∧ RelV xx v ∧ (Itet X.K a).yld i H xx H' ∧ ((∃ old, IsEnum s2.heap e it ((i + 1 : Nat) : Int) old) ∧ s2.heap.IsTupleIter it a (i + 1)) ∧ ∀ b ∈ [e, it], H' b = none) E (by simpa [← elen] using hlt)
      ⟨⟨old, by rw [z0]; exact he⟩, hit, p⟩ fun v h' tk ⟨T, t, x, ev, hnew, hx1, hT⟩ st' kk' _ => ?_) fun r s1 ⟨v, e1, e2⟩ => ⟨v, e1, e2⟩
    subst ev
    obtain ⟨u, hu, ru⟩ := rv.get (List.getElem?_eq_getElem hlt)
    have ed : u = x := by
      have q : its[i]? = some x := by simpa using hx1
      rw [hu] at q
      exact Option.some.inj q
    subst ed
    rw [z0] at hT
    have new : ObjOk X.prog X.w (upd H T (.tup [.int (i : Nat), xs[i]])) h' T (.tup [.int (i : Nat), xs[i]]) :=
      ⟨by show 2 ≤ sizeLine; decide, [.int i t, u], .cons ⟨_, rfl⟩ (.cons ru .nil), hT⟩
    have I1 : L2.Inv X pins σ (upd H T (.tup [.int (i : Nat), xs[i]])) { s with heap := h', toks := tk } :=
      I.turnedNew (ch := [e, it]) (fun b o hb q => kk' b o hb q) hf hnew new
    have away : ∀ b ∈ [e, it], b ≠ T := fun b hb z => by
      have q : b = e ∨ b = it := by simpa using hb
      have lt : b < s.heap.objs.size := by rcases q with q | q <;> rw [q] <;> assumption
      exact absurd (Nat.lt_of_lt_of_le lt hnew) (by rw [z]; exact Nat.lt_irrefl _)
    refine ⟨.ref T, _, I1, rfl, ⟨T, _, rfl, I.hok.fresh hnew, rfl, fun l hl => by rw [I.tuple_inj hl hxs]; exact List.getElem?_eq_getElem hlt⟩, ⟨?_, st'.2.1⟩, fun b hb => by rw [upd_ne (away b hb)]; exact (hf b hb).1⟩
    obtain ⟨old', h2⟩ := st'.1
    have z1 : (0 : Int) + ((i + 1 : Nat) : Int) = ((i + 1 : Nat) : Int) := Int.zero_add _
    rw [z1] at h2
    exact ⟨old', h2⟩
  done := by
    intro X hP hw hK hc i pins s σ H E I hf st hg
    subst hP hw hK
    have hh : X.A.in1.handled = none := I.ok.hd hc
    obtain ⟨xs, hxs, hi⟩ := hg
    obtain ⟨its, rv, p, _⟩ := I.tuple hxs
    have elen : xs.length = its.length := rv.length
    obtain ⟨⟨old, he⟩, hit⟩ := id st
    have ea : e ≠ a := fun z => by
      obtain ⟨o, ho, ho2, _⟩ := p
      rw [← z, he] at ho
      cases ho
      exact absurd (show Value.type "enumerate" = Value.type "tuple" from ho2) (by decide)
    have ia : a ≠ it := fun z => by
      obtain ⟨o, ho, ho2, _⟩ := p
      obtain ⟨o2, h2, h3, _⟩ := hit
      rw [z, h2] at ho
      cases ho
      rw [h3] at ho2
      injection ho2 with z2
      exact absurd z2 (by decide)
    have G := GoesN.enumFrom (elts := elts) (x1 := kk) (pos := tpos) (prog := X.prog) (w := X.w) (A := X.A) 0 (Draws.tuple (prog := X.prog) (w := X.w) (A := X.A.in1) hh it a ia its.toArray) e ne (by simp [ne, ea]) (by simp)
    have hi2 : i = its.toArray.size := by rw [hi, elen]; simp
    subst hi2
    have z0 : (0 : Int) + ((its.toArray.size : Nat) : Int) = ((its.toArray.size : Nat) : Int) := Int.zero_add _
    exact G.stops s (fun s1 => L2.Inv X pins σ H s1) E ⟨⟨old, by rw [z0]; exact he⟩, hit, p⟩ fun h' tk kk' _ => I.turnedL (ch := [e, it]) (fun b o hb q => kk' b o hb q) hf
  self := fun A i s Q E st h => let ⟨⟨_, he⟩, _⟩ := st; wpAny_pyIter_enum he h
end Nt
namespace Nt
open PySem PySem.Spec PyProof.Rows L2
def iEnumS (K : PySem.W.Frag) (ta : TA) : TI := fun σ H R => ta σ H fun vs H1 => ∃ a, vs = [.ref a] ∧ ((∃ xs, SqL K H1 a xs ∧ R (Ite K a) H1) ∨ ∃ xs, SqT K H1 a xs ∧ R (Itet K a) H1)
theorem pi_enumS {X : Cx} {e : Expr} {ta : TA} {p pos tpos : Pos} {elts : List Expr} {kk : Nat} (hg : Gl X "enumerate") (hm : X.mg "enumerate" = none) (ha : PA X [e] ta) (hs : starEach [e] X.env = [(false, eval e X.env)] := by rfl) :
    PI X (.Tuple elts kk tpos) (.Call (.Name "enumerate" p) [e] [] pos) (iEnumS X.K ta) := by
  refine ⟨fun pins s σ H R I h => ?_⟩
  refine Call_ (ld_blt I hg hm boot_enumerate (PyProof.Rows.callWith_type1 (thn (ha.run pos pins s σ H _ I h) fun us s1 ⟨vs, H1, I1, r1, q1⟩ => ?_) hs rfl))
  obtain ⟨a, ex, q⟩ := q1
  subst ex
  cases r1 with
  | cons r rr =>
    cases rr
    cases r
    have two : ∀ {b : Addr}, b ∈ [s1.heap.objs.size + 1, s1.heap.objs.size] → s1.heap.objs.size ≤ b := fun {b} hb => by
      have q : b = s1.heap.objs.size + 1 ∨ b = s1.heap.objs.size := by simpa using hb
      rcases q with q | q <;> rw [q]
      · exact Nat.le_succ _
      · exact Nat.le_refl _
    rcases q with ⟨xs, hq, q⟩ | ⟨xs, hq, q⟩
    · obtain ⟨its, rv, pl, _⟩ := I1.list hq
      refine call_enumerate_list pl.isList fun g he hit _ hk => wpAny_pyIter_enum he ?_
      have I2 : L2.Inv X pins σ H1 { s1 with heap := g } := I1.kept (t' := s1.toks) hk
      exact ⟨s1.heap.objs.size + 1, [s1.heap.objs.size + 1, s1.heap.objs.size], _, _, H1, rfl, I2, turn_enum a (s1.heap.objs.size + 1) s1.heap.objs.size, ⟨⟨.none, he⟩, hit, Nat.succ_ne_self _⟩, fun b hb => I1.fpOk (two hb) (I1.hok.fresh (two hb)), q⟩
    · obtain ⟨its, rv, pl, _⟩ := I1.tuple hq
      refine call_enumT pl fun g he hit hk => wpAny_pyIter_enum he ?_
      have I2 : L2.Inv X pins σ H1 { s1 with heap := g } := I1.kept (t' := s1.toks) hk
      exact ⟨s1.heap.objs.size + 1, [s1.heap.objs.size + 1, s1.heap.objs.size], _, _, H1, rfl, I2, turn_et (Nat.succ_ne_self _), ⟨⟨.none, he⟩, hit⟩, fun b hb => I1.fpOk (two hb) (I1.hok.fresh (two hb)), q⟩
theorem iq_enumS {X : Cx} {e : Expr} {ta : TA} {p pos tpos : Pos} {elts : List Expr} {kk : Nat} (K : PySem.W.Frag) (hg : Gl X "enumerate") (hm : X.mg "enumerate" = none) (ha : PA X [e] ta) (hK : X.K = K := by rfl) (hs : starEach [e] X.env = [(false, eval e X.env)] := by rfl) :
    PI X (.Tuple elts kk tpos) (.Call (.Name "enumerate" p) [e] [] pos) (iEnumS K ta) := by subst hK; exact pi_enumS hg hm ha hs
abbrev YE (vs : List V) : Nat → Hp → V → Hp → Prop := fun i H v H' => ∃ T x, v = .ref T ∧ H T = none ∧ H' = upd H T (.tup [.int (i : Nat), x]) ∧ vs[i]? = some x
theorem walkEt {K : PySem.W.Frag} {a : Addr} {vs : List V} : Walk (Itet K a) vs.length (fun H => H a = some (.tup vs)) (YE vs) :=
  ⟨fun i H hi h => ⟨vs, SqT.of h, hi⟩, fun H h => ⟨vs, SqT.of h, rfl⟩, fun i H v H' _ h ⟨T, x, h1, h2, h3, h4⟩ => ⟨T, x, h1, h2, h3, h4 vs (SqT.of h)⟩⟩
theorem w_enumV {K : PySem.W.Frag} {σ : L2.St} {H : Hp} {a : Addr} {vs : List V} {i : Nat} {R : It → Hp → Prop} (h : SQ H a vs) (hv : σ[i]? = some (some (.ref a)))
    (k : ∀ (J : It) (G : Hp → Prop), (∀ H', (∀ o, H a = some o → H' a = some o) → G H') → Walk J vs.length G (YE vs) → R J H) : iEnumS K (tCons (tVar i) tNil) σ H R := by
  refine ⟨.ref a, hv, a, rfl, ?_⟩
  rcases h with h | h
  · exact .inl ⟨vs, SqL.of h, k _ (fun H' => H' a = some (.lst vs)) (fun H' q => q _ h) walkE⟩
  · exact .inr ⟨vs, SqT.of h, k _ (fun H' => H' a = some (.tup vs)) (fun H' q => q _ h) walkEt⟩
end Nt
/-! {k: v for a in x for b in y}: two clauses without tests. The walk over an iterator inside a block is told once (goOn) and used for both clauses. -/
namespace Nt
open PySem PySem.Spec PyProof.Rows L2
/-- ahead of each turn: the walk is through and out holds, or there is a value and turn leads to a lesser measure -/
abbrev Trn (J : It) (W : Nat → Nat → Hp → Prop) (out : Hp → Prop) (turn : V → Hp → (Hp → Prop) → Prop) : Prop :=
  ∀ i m H, W i m H → (J.stop i H ∧ out H) ∨ (J.go i H ∧ ∃ on : Hp → Prop, (∀ H', on H' → ∃ m', m' < m ∧ W (i + 1) m' H') ∧ ∀ x H', J.yld i H x H' → turn x H' on)
/-- where a walk stands: slots τ, the iterator's objects fp apart -/
structure At (Y : Cx) (P : List (Addr × Obj)) (τ : L2.St) (fp : List Addr) (tn : Nat → Heap → Prop) (W : Nat → Nat → Hp → Prop) (m : Nat) (s : Shared) : Prop where
  ex : ∃ i H, L2.Inv Y P τ H s ∧ tn i s.heap ∧ (∀ b ∈ fp, H b = none) ∧ W i m H
/-- slots that know what τ knows -/
def Knows (τ ρ : L2.St) : Prop := τ.length = ρ.length ∧ ∀ (j : Nat) v, τ[j]? = some (some v) → ρ[j]? = some (some v)
theorem Knows.wipe (τ : L2.St) (vs : List Nat) : Knows (wipe τ vs) τ := ⟨wipe_length τ vs, fun j v e => (wipe_some e).1⟩
theorem Knows.trans {a b c : L2.St} (h : Knows a b) (g : Knows b c) : Knows a c := ⟨h.1.trans g.1, fun j v e => g.2 j v (h.2 j v e)⟩
abbrev nix {α : Type} : α → Shared → Prop := fun _ _ => False
section
variable {Y : Cx} {P : List (Addr × Obj)} {τ : L2.St} {tg : Expr} {J : It} {fp : List Addr} {it : Addr} {tn : Nat → Heap → Prop} {W : Nat → Nat → Hp → Prop} {out : Hp → Prop} {turn : V → Hp → (Hp → Prop) → Prop} {n : Nat} {s : Shared}
theorem goOn (hc : Y.calm = true) (T : Turn Y.prog Y.w Y.K tg J fp it tn) (tr : Trn J W out turn) (apart : ∀ {H s}, L2.Inv Y P τ H s → (∀ b ∈ fp, H b = none) → ∀ b ∈ fp, FpOk Y P H b) (L : At Y P τ fp tn W n s)
    {S : Shared → Prop} {G : Value → Shared → Prop} (hS : ∀ H' s', L2.Inv Y P τ H' s' → out H' → S s')
    (hG : ∀ x u H' s' pl on, L2.Inv Y (P ++ pl) τ H' s' → RelV x u → turn x H' on → (∀ ρ H9 s9, L2.Inv Y (P ++ pl) ρ H9 s9 → Knows τ ρ → on H9 → ∃ m, m < n ∧ At Y P τ fp tn W m s9) → G u s') :
    wpAny (model Y.prog Y.w) Y.A (pyNext (.ref it)) (fun r s1 => match r with
      | none => S s1
      | some u => wpAny (model Y.prog Y.w) Y.A (letOwnedTupleGo tg (.ref it) u) (fun _ s2 => G u s2) nix s1) nix s := by
  obtain ⟨i, H, I, st, free, w⟩ := L.ex
  rcases tr i n H w with ⟨z, o⟩ | ⟨z, on, less, step⟩
  · refine thn (T.done Y rfl rfl rfl hc i P s τ H nix I (apart I free) st z) fun r s1 ⟨e, I1⟩ => ?_
    rw [e]
    exact hS H s1 I1 o
  · refine thn (T.item Y rfl rfl rfl hc i P s τ H nix I (apart I free) st z) fun r s1 ⟨u, e, k⟩ => ?_
    rw [e]
    refine thn k fun _ s2 ⟨x, H2, I2, ru, y, st2, free2⟩ => ?_
    refine hG x u H2 s2 (pinsAt fp s2.heap) on (I2.pinned (apart I2 free2) (T.obj _ _ st2)) ru (step x H2 y) fun ρ H9 s9 I9 kn h9 => ?_
    obtain ⟨m, lt, w9⟩ := less H9 h9
    have held : ∀ b ∈ fp, ∀ o, s2.heap.get? b = some o → s9.heap.get? b = some o ∧ H9 b = none := fun b hb o e => by
      have q := I9.pin (b, o) (List.mem_append_right _ (List.mem_append_right _ (mem_pinsAt hb e)))
      exact ⟨q.1, q.2.1⟩
    refine ⟨m, lt, i + 1, H9, I9.unpinned.weak kn.1 kn.2, T.keep _ _ _ st2 fun b hb o e => (held b hb o e).1, fun b hb => ?_, w9⟩
    have ⟨o, e, _⟩ := T.obj _ _ st2 b hb
    exact (held b hb o e).2
end
/-! the two loops of the block, when nothing is raised -/
section
variable {prog : Program} {w : World} {A : Around} {R : Result → Shared → Prop} {s : Shared} {kx vx t0 i0 t1 i1 : Expr} {scope : Scope} {pos : Pos} {it : Value} {D : Addr} {env : Env}
abbrev two (kx vx t0 i0 t1 i1 : Expr) (scope : Scope) (pos : Pos) : Expr := .DictComp kx vx [⟨t0, i0, [], 0⟩, ⟨t1, i1, [], 0⟩] scope pos
theorem quietly {α : Type} {m : Sem α} {Q : α → Shared → Prop} {E : Value → Shared → Prop} (h : wpAny (model prog w) A m Q nix s) : wpAny (model prog w) A m Q E s := wpAny_mono h (fun _ _ q => q) fun _ _ z => z.elim
theorem loopA (hs : ∀ x, foldedSetIterable i1 env x = pure x) (I : Nat → Shared → Prop) (one : ∀ n s, I n s → wpAny (model prog w) A (pyNext it) (fun r s1 => match r with
      | none => R (.ok .next) s1
      | some v => wpAny (model prog w) A (letOwnedTupleGo t0 it v) (fun _ s2 => wpAny (model prog w) A (assign t0 env v) (fun _ s3 => wpAny (model prog w) A (eval i1 env) (fun x s4 => wpAny (model prog w) A (pyIter x) (fun j s5 =>
          codeAny (model prog w) A (.compStart (two kx vx t0 i0 t1 i1 scope pos) 1 j (.ref D) env) (fun r s6 => (∃ f, r = .ok f) ∧ ∃ m, m < n ∧ I m s6) s5) nix s4) nix s3) nix s2) nix s1) nix s)
    (n : Nat) (h : I n s) : codeAny (model prog w) A (.compLoop (two kx vx t0 i0 t1 i1 scope pos) 0 it (.ref D) env) R s := by
  refine codeAny_loop rfl I (fun n s q => wpAny_noted (quietly ?_)) n h
  unfold compTurn
  refine wpAny_bind (wpAny_standAt (wpAny_bind (thn (one n s q) fun r s1 q1 => ?_)))
  cases r with
  | none => exact wpAny_pure q1
  | some v =>
    refine wpAny_bind (thn q1 fun _ s2 q2 => wpAny_bind (thn q2 fun _ s3 q3 => wpAny_bind (wpAny_of_eq (a := true) rfl ?_)))
    dsimp only
    rw [if_pos rfl]
    refine wpAny_bind (thn q3 fun x s4 q4 => wpAny_bind (wpAny_standAt (wpAny_bind (wpAny_of_eq (hs x) (wpAny_bind (wpAny_holding (thn q4 fun j s5 q5 => ?_)))))))
    refine wpAny_bind (wpAny_runOwn ?_)
    rw [Around.mark_none]
    refine codeAny_mono q5 fun r s6 ⟨⟨f, e⟩, q6⟩ => ?_
    subst e
    exact wpAny_pure ⟨rfl, q6⟩
theorem loopB (I : Nat → Shared → Prop) (one : ∀ n s, I n s → wpAny (model prog w) A (pyNext it) (fun r s1 => match r with
      | none => R (.ok .next) s1
      | some v => wpAny (model prog w) A (letOwnedTupleGo t1 it v) (fun _ s2 => wpAny (model prog w) A (assign t1 env v) (fun _ s3 => wpAny (model prog w) A (eval kx env) (fun a s4 => wpAny (model prog w) A (eval vx env) (fun b s5 =>
          wpAny (model prog w) A (dictSet D a b) (fun _ s6 => ∃ m, m < n ∧ I m s6) nix s5) nix s4) nix s3) nix s2) nix s1) nix s)
    (n : Nat) (h : I n s) : codeAny (model prog w) A (.compLoop (two kx vx t0 i0 t1 i1 scope pos) 1 it (.ref D) env) R s := by
  refine codeAny_loop rfl I (fun n s q => wpAny_noted (quietly ?_)) n h
  unfold compTurn
  refine wpAny_bind (wpAny_standAt (wpAny_bind (thn (one n s q) fun r s1 q1 => ?_)))
  cases r with
  | none => exact wpAny_pure q1
  | some v =>
    refine wpAny_bind (thn q1 fun _ s2 q2 => wpAny_bind (thn q2 fun _ s3 q3 => wpAny_bind (wpAny_of_eq (a := true) rfl ?_)))
    dsimp only
    rw [if_pos rfl]
    refine wpAny_bind (wpAny_bind (thn q3 fun a s4 q4 => wpAny_bind (wpAny_holding (thn q4 fun b s5 q5 => ?_))))
    exact wpAny_bind (wpAny_standAt (wpAny_holding (thn q5 fun _ s6 q6 => wpAny_pure ⟨rfl, q6⟩)))
theorem startB (h0 : codeAny (model prog w) A (.compLoop (two kx vx t0 i0 t1 i1 scope pos) 1 it (.ref D) env) R s)
    (h : wpAny (model prog w) A (pyIter it) (fun j s' => codeAny (model prog w) A (.compLoop (two kx vx t0 i0 t1 i1 scope pos) 1 j (.ref D) env) R s') nix s) :
    codeAny (model prog w) A (.compStart (two kx vx t0 i0 t1 i1 scope pos) 1 it (.ref D) env) R s := by
  refine codeAny_of_tree (wpAny_notedAt (quietly ?_))
  unfold compStart
  refine wpAny_bind (wpAny_askSetting ?_)
  dsimp only
  split
  · exact wpAny_bind (wpAny_pure (wpAny_pure ⟨rfl, h0⟩))
  · exact wpAny_bind (wpAny_rule (wpAny_bind (wpAny_standAt (wpAny_bind (thn h fun j s' q => wpAny_pure ⟨rfl, q⟩)))))
end
/-! the rule -/
def tDcc (wi : TI) (g : TG) (wi1 : TI) (g1 : TG) (tk tv : TE) (vs vs1 : List Nat) : TE := fun σ H Q => wi σ H fun J H1 => ∀ D, H1 D = none → ∃ W : Nat → Nat → Hp → Prop, (∃ m, W 0 m (upd H1 D (.dK []))) ∧
  Trn J W (Q (.ref D)) fun x H' on => g x (wipe σ vs) H' fun σ2 H2 => wipe σ2 vs = wipe σ vs ∧ wi1 σ2 H2 fun J1 H4 => ∃ W1 : Nat → Nat → Hp → Prop, (∃ m, W1 0 m H4) ∧
    Trn J1 W1 on fun x H' on1 => g1 x (wipe σ2 vs1) H' fun σ3 H5 => wipe σ3 vs1 = wipe σ2 vs1 ∧ tk σ3 H5 fun y H7 => tv σ3 H7 fun z H8 => ∃ kvs k, y = kV k ∧ H8 D = some (.dK kvs) ∧ kvs.length < sizeLine ∧ on1 (upd H8 D (.dK (putK kvs k z)))
section
variable {X : Cx} {kx vx tg iter tg1 iter1 : Expr} {scope : Scope} {own : List (Str × Nat)} {vs1 : List Nat} {pos : Pos} {wi wi1 : TI} {g g1 : TG} {tk tv : TE}
/-- both loops, from a state in which the block stands -/
theorem twoRun {Y : Cx} {R : Result → Shared → Prop} {σ : L2.St} {it D : Addr} {fp : List Addr} {tn : Nat → Heap → Prop} {J : It} {W : Nat → Nat → Hp → Prop} {out : Hp → Prop} {vs : List Nat} (hc : Y.calm = true) (hx : Y.xe = nix) (hpn : Y.pn = []) (hex : Y.ex = fp) (hs1 : ∀ x, foldedSetIterable iter1 Y.env x = pure x)
    (hv : ∀ i ∈ vs1, i ∈ vs) (hg : PG Y tg g) (hi1 : PI Y tg1 iter1 wi1) (hg1 : PG Y tg1 g1) (hk : PE Y kx tk) (he : PE Y vx tv) (T : Turn Y.prog Y.w Y.K tg J fp it tn)
    (tr : Trn J W out fun x H' on => g x (wipe σ vs) H' fun σ2 H2 => wipe σ2 vs = wipe σ vs ∧ wi1 σ2 H2 fun J1 H4 => ∃ W1 : Nat → Nat → Hp → Prop, (∃ m, W1 0 m H4) ∧
      Trn J1 W1 on fun x H' on1 => g1 x (wipe σ2 vs1) H' fun σ3 H5 => wipe σ3 vs1 = wipe σ2 vs1 ∧ tk σ3 H5 fun y H7 => tv σ3 H7 fun z H8 => ∃ kvs k, y = kV k ∧ H8 D = some (.dK kvs) ∧ kvs.length < sizeLine ∧ on1 (upd H8 D (.dK (putK kvs k z))))
    (fin : ∀ H' s', L2.Inv Y [] (wipe σ vs) H' s' → out H' → R (.ok .next) s') {m0 : Nat} {s : Shared} (L : At Y [] (wipe σ vs) fp tn W m0 s) :
    codeAny (model Y.prog Y.w) Y.A (.compLoop (two kx vx tg iter tg1 iter1 scope pos) 0 (.ref it) (.ref D) Y.env) R s := by
  have low : ∀ {α : Type} {m : Sem α} {Q : α → Shared → Prop} {s : Shared}, wpAny (model Y.prog Y.w) Y.A m Q Y.xe s → wpAny (model Y.prog Y.w) Y.A m Q nix s := fun h => by rw [hx] at h; exact h
  refine loopA hs1 (At Y [] (wipe σ vs) fp tn W) (fun n s L => ?_) m0 L
  refine goOn hc T tr (fun {H s} I free b hb => ?_) L fin fun x u H1 s1 pl on I1 ru tx back => ?_
  · refine ⟨free b hb, ?_, ?_, .inl (by rw [hex]; exact hb), fun x c e => ?_, fun p hp => ?_⟩
    · exact (I.ok.exf b (by rw [hex]; exact hb)).1
    · exact I.ok.exfs b (by rw [hex]; exact hb)
    · exact (I.ok.exf b (by rw [hex]; exact hb)).2 x c e
    · rw [hpn] at hp; exact absurd hp (by simp)
  refine low (thn (hg.run _ s1 _ H1 x u _ I1 ru tx) fun _ s2 ⟨σ2, H2, I2, hw, q2⟩ => low (thn (hi1.run _ s2 σ2 H2 _ I2 q2) fun xv s3 h3 => low (thn h3 fun jv s4 h4 => ?_)))
  obtain ⟨it1, fp1, tn1, J1, H4, rfl, I4, T1, st4, f4, W1, ⟨m1, w1⟩, tr1⟩ := h4
  have kn : Knows (wipe σ vs) (wipe σ2 vs1) := by
    rw [← hw]
    refine ⟨by rw [wipe_length, wipe_length], fun j v e => ?_⟩
    have ⟨here, out_⟩ := wipe_some e
    exact (wipe_out fun z => out_ (hv j z)).trans here
  have run : codeAny (model Y.prog Y.w) Y.A (.compLoop (two kx vx tg iter tg1 iter1 scope pos) 1 (.ref it1) (.ref D) Y.env) (fun r s6 => (∃ f, r = .ok f) ∧ ∃ m, m < n ∧ At Y [] (wipe σ vs) fp tn W m s6) s4 := by
    refine loopB (At Y ([] ++ pl) (wipe σ2 vs1) fp1 tn1 W1) (fun k s L1 => ?_) m1 ⟨0, H4, I4.weak (wipe_length σ2 vs1) (fun j v e => (wipe_some e).1), st4, fun b hb => (f4 b hb).1, w1⟩
    refine goOn hc T1 tr1 (fun {H s} _ free b hb => ⟨free b hb, (f4 b hb).2⟩) L1 (fun H' s' I' o => ⟨⟨_, rfl⟩, back _ _ _ I' kn o⟩) fun x1 u1 H5 s5 pl1 on1 I5 ru1 tx1 back1 => ?_
    refine low (thn (hg1.run _ s5 _ H5 x1 u1 _ I5 ru1 tx1) fun _ s6 ⟨σ6, H6, I6, hw6, q6⟩ => low (thn (hk.run _ s6 σ6 H6 _ I6 q6) fun a s7 ⟨y, H7, I7, ry, q7⟩ => low (thn (he.run _ s7 σ6 H7 _ I7 q7) fun b s8 ⟨z, H8, I8, rz, kvs, k', ek, hD, hz, o⟩ => ?_)))
    subst ek
    exact d_dictSet I8 hD hz ry rz fun s9 I9 => back1 σ6 _ s9 I9 (by rw [← hw6]; exact Knows.wipe σ6 vs1) o
  exact startB run (T1.self Y.A 0 _ _ _ st4 run)
theorem pe_dcc (hc : X.calm = true) (hN : X.N.Nodup) (hi : PI X tg iter wi) (ok : BlkOk X.N X.env.scope scope own) (hv : ∀ i ∈ vs1, i ∈ own.map (·.2)) (hg : InB X scope fun Y => PG Y tg g) (hi1 : InB X scope fun Y => PI Y tg1 iter1 wi1) (hg1 : InB X scope fun Y => PG Y tg1 g1)
    (hk : InB X scope fun Y => PE Y kx tk) (he : InB X scope fun Y => PE Y vx tv) (hs : ∀ x, foldedSetIterable iter X.env x = pure x := by intro _; rfl) (hs1 : ∀ env x, foldedSetIterable iter1 env x = pure x := by intro _ _; rfl) :
    PE X (two kx vx tg iter tg1 iter1 scope pos) (tDcc wi g wi1 g1 tk tv (own.map (·.2)) vs1) := by
  refine ⟨fun pins s σ H Q I h => ?_⟩
  rw [arm_eval_DictComp]
  have cls : ∀ y ∈ scope.names, y.2 = .free → ∃ c, X.env.cells.lookup y.1 = some c := fun y hy e => I.ok.has _ (by rcases ok.free y hy e with q | q; exact .inl q; exact .inr q)
  refine wpAny_comprehension_free (use := none) rfl hs (closure_ok cls) ok.kind (fun y hy e => (ok.uniq y hy).trans (congrArg some e)) (thn (hi.run pins s σ H _ I h) fun xv s1 h1 => thn h1 fun jv s2 h2 => wpAny_newObj_type (newEnv_comp ?_))
  obtain ⟨it, fp, tn, J, H2, rfl, I2, T, st2, f2, q⟩ := h2
  obtain ⟨D, hD⟩ : ∃ D, D = s2.heap.objs.size := ⟨_, rfl⟩
  obtain ⟨s3, hs3⟩ : ∃ s3 : Shared, s3 = { s2 with heap := s2.heap.push { cls := .type "dict", data := .dict #[] } } := ⟨_, rfl⟩
  have hfree : H2 D = none := I2.hok.fresh (Nat.le_of_eq hD.symm)
  obtain ⟨W, ⟨m0, w0⟩, tr⟩ := q D hfree
  have old : ∀ b o, s2.heap.get? b = some o → s3.heap.get? b = some o := fun b o e => by rw [hs3]; exact Heap.get?_push_of_some _ e
  have I3 : L2.Inv X pins σ (upd H2 D (.dK [])) s3 := by
    have z := I2.laid (t' := s2.toks) (o := .dK []) (a := s2.heap.objs.size) (fun b o e => Heap.get?_push_of_some { cls := .type "dict", data := .dict #[] } e) (Nat.le_refl _) (dk_empty s2.heap I2.big)
    rw [hs3, hD]
    exact z
  have under : ∀ b ∈ fp, b < s2.heap.objs.size := fun b hb => by
    have ⟨_, e, _⟩ := T.obj _ _ st2 b hb
    exact Heap.lt_size e
  have far : ∀ b ∈ fp, FpOk X pins (upd H2 D (.dK [])) b ∧ b < s3.heap.objs.size := fun b hb => by
    refine ⟨⟨?_, (f2 b hb).2⟩, ?_⟩
    · rw [upd_ne (fun z => absurd (under b hb) (by rw [z, hD]; exact Nat.lt_irrefl _))]; exact (f2 b hb).1
    · rw [hs3, Heap.size_push]; exact Nat.lt_succ_of_lt (under b hb)
  have I4 := block_start I3 ok hN far
  rw [← hs3, ← hD]
  have st4 : ∀ b ∈ fp, ∀ o, s2.heap.get? b = some o → (pushCells (s3.heap.push { cls := .type "dict", data := .dict #[] }) scope.names).get? b = some o := fun b _ o e => pushCells_keeps _ _ _ _ (Heap.get?_push_of_some _ (old b o e))
  have loop := twoRun (iter := iter) (kx := kx) (vx := vx) (scope := scope) (pos := pos) (R := compPost (model X.prog X.w) X.A X.xe none (EP X pins σ Q) (.ref D) s3.heap.objs.size) (Y := X.blk s3 (upd H2 D (.dK [])) scope (compEnvC scope (cellsFrom (s3.heap.objs.size + 1) scope.names (cloFrom X.env.cells scope.names [])) s3.heap.objs.size X.env) fp)
    hc rfl rfl rfl (hs1 _) hv (hg _ _ _ _ _) (hi1 _ _ _ _ _) (hg1 _ _ _ _ _) (hk _ _ _ _ _) (he _ _ _ _ _) T tr ?_ ⟨0, _, I4, T.keep _ _ _ st2 st4, fun b hb => (far b hb).1.1, w0⟩
  · exact codeAny_compStart_dict loop (T.self X.A 0 _ _ _ (T.keep _ _ _ st2 st4) loop)
  · intro H' s' I' q'
    have I5 : L2.Inv X pins σ H' s' := I3.call' (ch := fp) I'.os I'.base I'.hok I'.bare fun b hb => ⟨(far b hb).1.2.2.2.1, (far b hb).1.2.1, (far b hb).1.2.2.2.2.1, (far b hb).1.2.2.2.2.2⟩
    obtain ⟨m, ns, _⟩ := I'.loc
    obtain ⟨a0, a1, a2, a3, a4, a5⟩ := I3.fpOk (H' := H') (b := s3.heap.objs.size) (Nat.le_refl _) I'.free
    exact ⟨m, ns, fun h'' sb => ⟨.ref D, H', I5.turned (t' := s'.toks) (fun b o hb e => (sb.2 b hb).trans e) a0 a1 a3 a4 a5, rfl, q'⟩⟩
end
end Nt
/-! min of a list of texts. -/
namespace Nt
open PySem PySem.W PySem.Spec PyProof.Rows L2
def minS (x : Str) (xs : List Str) : Str := xs.foldl (fun a y => if Lt y a then y else a) x
theorem minS_is : ∀ (xs : List Str) (x : Str), minS x xs ∈ x :: xs ∧ ∀ y ∈ x :: xs, ¬ Lt y (minS x xs)
  | [], x => ⟨List.mem_cons_self, fun y hy => by
      have e : y = x := by simpa using hy
      rw [e]
      exact Lt.irrefl x⟩
  | z :: xs, x => by
    have e : minS x (z :: xs) = minS (if Lt z x then z else x) xs := rfl
    obtain ⟨h1, h2⟩ := minS_is xs (if Lt z x then z else x)
    rw [e]
    refine ⟨?_, fun y hy => ?_⟩
    · rcases List.mem_cons.mp h1 with q | q
      · rw [q]
        by_cases t : Lt z x
        · rw [if_pos t]; exact List.mem_cons_of_mem _ List.mem_cons_self
        · rw [if_neg t]; exact List.mem_cons_self
      · exact List.mem_cons_of_mem _ (List.mem_cons_of_mem _ q)
    · have hb := h2 _ List.mem_cons_self
      intro q
      rcases List.mem_cons.mp hy with r | r
      · subst r
        by_cases t : Lt z y
        · rw [if_pos t] at hb q; exact hb (t.trans q)
        · rw [if_neg t] at hb q; exact hb q
      · rcases List.mem_cons.mp r with r | r
        · subst r
          by_cases t : Lt y x
          · rw [if_pos t] at hb q; exact hb q
          · rw [if_neg t] at hb q
            rcases Lt.tri y x with u | u | u
            · exact t u
            · rw [u] at q; exact hb q
            · exact hb (u.trans q)
        · exact h2 y (List.mem_cons_of_mem _ r) q
theorem strs_at {its : List Value} {xs : List Str} (h : StrsAre its xs) : ∀ {i : Nat} {v : Value}, its[i]? = some v → i < xs.length ∧ ∃ t, v = .str (xs.getD i default) t := by
  induction h with
  | nil => intro i v e; simp at e
  | cons y t _ ih =>
    intro i v e
    cases i with
    | zero => exact ⟨by simp, t, by simpa using e.symm⟩
    | succ i =>
      obtain ⟨h1, u, h2⟩ := ih (i := i) (by simpa using e)
      exact ⟨by simp; omega, u, by simpa using h2⟩
theorem min_raws {prog : Program} {w : World} {A : Around} {E : Value → Shared → Prop} {s : Shared} {l : Addr} {its : List Value} {x : Str} {xs : List Str} {Q : Value → Shared → Prop} (hh : A.handled = none) (hl : s.heap.IsList l its.toArray) (hs : StrsAre its (x :: xs))
    (h : ∀ h' tk t, (∀ b o, s.heap.get? b = some o → h'.get? b = some o) → Q (.str (minS x xs) t) { s with heap := h', toks := tk }) :
    wpAny (model prog w) A (call (.builtin "min") [.ref l]) Q E s := by
  have hn : its.toArray.size = xs.length + 1 := by have := hs.len_eq; simpa using this
  refine call_min_walkH (iter_listW (A := A.in1) hh hl fun s₂ e W st hfp hw hk => ?_)
  refine ⟨_, _, _, _, _, _, _, s.heap, (fun i j => decide (Lt ((x :: xs).getD i default) ((x :: xs).getD j default))), rfl, W, st, hfp, by omega, hw, hk, ?_, fun v s' hP m => ?_⟩
  · intro i j vi vj s' Q' E' _ hi hj hq
    obtain ⟨_, t, rfl⟩ := strs_at hs (i := i) (by simpa using hi)
    obtain ⟨_, u, rfl⟩ := strs_at hs (i := j) (by simpa using hj)
    exact PyProof.Rows.lt_str hq
  · obtain ⟨h', tk, rfl, hk'⟩ := moved_old e rfl m
    have e1 : its.toArray.size - 1 = xs.length := by omega
    have e2 := (argBest_fold (fun a b => decide (Lt a b)) default x xs xs.length (Nat.le_refl _)).2
    rw [List.take_length] at e2
    rw [e1] at hP
    obtain ⟨_, t, rfl⟩ := strs_at hs ((List.getElem?_toArray ..).symm.trans hP)
    have e3 : (x :: xs).getD (argBest (fun i j => decide (Lt ((x :: xs).getD i default) ((x :: xs).getD j default))) xs.length) default = minS x xs := by
      rw [e2]
      simp only [minS, decide_eq_true_eq]
    rw [e3]
    exact h h' tk t hk'
def qMinS : List V → Hp → VK → Prop := fun vs H Q => ∃ (a : Addr) (x : Str) (xs : List Str), vs = [.ref a] ∧ H a = some (.lst ((x :: xs).map V.str)) ∧ ∀ m, m ∈ x :: xs → (∀ y ∈ x :: xs, ¬ Lt y m) → Q (.str m) H
theorem cr_minS {X : Cx} (hc : X.calm = true) : CallR X (.builtin "min") qMinS := by
  intro pins s σ H vs us Q I r h
  obtain ⟨a, x, xs, rfl, ha, q⟩ := h
  obtain ⟨its, rv, il, _⟩ := I.list (SqL.of ha)
  rw [Vals.ref1 r]
  obtain ⟨h1, h2⟩ := minS_is xs x
  exact min_raws (I.ok.hd hc) il.isList rv.strs fun h' tk t hk => ⟨.str _, H, I.kept hk, ⟨_, rfl⟩, q _ h1 h2⟩
end Nt
/-! zip of two lists or two tuples; what is never reached. -/
namespace Nt
open PySem PySem.Spec PyProof.Rows L2 RZ
def tNever : TE := fun _ _ _ => False
theorem pe_never {X : Cx} {e : Expr} : PE X e tNever := ⟨fun _ _ _ _ _ _ h => h.elim⟩
abbrev YZ (xs ys : List V) : Nat → Hp → V → Hp → Prop := fun i H v H' => ∃ T x y, v = .ref T ∧ H T = none ∧ H' = upd H T (.tup [x, y]) ∧ xs[i]? = some x ∧ ys[i]? = some y
theorem walkZz {K : PySem.W.Frag} {a b : Addr} {xs ys : List V} (hl : ys.length = xs.length) : Walk (Itz K a b) xs.length (fun H => H a = some (.lst xs) ∧ H b = some (.lst ys)) (YZ xs ys) :=
  ⟨fun i H hi ⟨h, g⟩ => ⟨xs, ys, xs[i], ys[i]'(by omega), SqL.of h, SqL.of g, List.getElem?_eq_getElem hi, List.getElem?_eq_getElem (by omega)⟩, fun H ⟨h, g⟩ => ⟨xs, ys, SqL.of h, SqL.of g, .inl (Nat.le_refl _)⟩,
    fun i H v H' _ ⟨h, g⟩ ⟨T, x, y, h1, h2, h3, h4, h5⟩ => ⟨T, x, y, h1, h2, h3, h4 xs (SqL.of h), h5 ys (SqL.of g)⟩⟩
theorem walkZt {K : PySem.W.Frag} {a b : Addr} {xs ys : List V} (hl : ys.length = xs.length) : Walk (ItzT K a b) xs.length (fun H => H a = some (.tup xs) ∧ H b = some (.tup ys)) (YZ xs ys) :=
  ⟨fun i H hi ⟨h, g⟩ => ⟨xs, ys, xs[i], ys[i]'(by omega), SqT.of h, SqT.of g, List.getElem?_eq_getElem hi, List.getElem?_eq_getElem (by omega)⟩, fun H ⟨h, g⟩ => ⟨xs, ys, SqT.of h, SqT.of g, .inl (Nat.le_refl _)⟩,
    fun i H v H' _ ⟨h, g⟩ ⟨T, x, y, h1, h2, h3, h4, h5⟩ => ⟨T, x, y, h1, h2, h3, h4 xs (SqT.of h), h5 ys (SqT.of g)⟩⟩
theorem w_zipV {K : PySem.W.Frag} {σ : L2.St} {H : Hp} {a b : Addr} {xs ys : List V} {i j : Nat} {R : It → Hp → Prop} (h : (H a = some (.lst xs) ∧ H b = some (.lst ys)) ∨ (H a = some (.tup xs) ∧ H b = some (.tup ys))) (hl : ys.length = xs.length)
    (hv : σ[i]? = some (some (.ref a))) (hw : σ[j]? = some (some (.ref b)))
    (k : ∀ (J : It) (G : Hp → Prop), (∀ H', (∀ o, H a = some o → H' a = some o) → (∀ o, H b = some o → H' b = some o) → G H') → Walk J xs.length G (YZ xs ys) → R J H) : iZipA K (tCons (tVar i) (tCons (tVar j) tNil)) σ H R := by
  refine ⟨.ref a, hv, .ref b, hw, a, b, xs, ys, rfl, ?_⟩
  rcases h with ⟨h, g⟩ | ⟨h, g⟩
  · exact .inl ⟨SqL.of h, SqL.of g, k _ (fun H' => H' a = some (.lst xs) ∧ H' b = some (.lst ys)) (fun H' q r => ⟨q _ h, r _ g⟩) (walkZz hl)⟩
  · exact .inr ⟨SqT.of h, SqT.of g, k _ (fun H' => H' a = some (.tup xs) ∧ H' b = some (.tup ys)) (fun H' q r => ⟨q _ h, r _ g⟩) (walkZt hl)⟩
/-- plain data, at most so deep -/
def PL : Nat → Dat → Prop
  | 0, _ => False
  | _ + 1, .non => True
  | _ + 1, .bl _ => True
  | _ + 1, .int _ => True
  | _ + 1, .str _ => True
  | k + 1, .lst ds => ds.length ≤ 1000000 ∧ ∀ d ∈ ds, PL k d
  | k + 1, .tup ds => ds.length ≤ 1000000 ∧ ∀ d ∈ ds, PL k d
  | _ + 1, .dct => False
end Nt
/-! groups in a dict of lists that grow. -/
namespace Nt
open PySem PySem.Spec PyProof.Rows L2
def zk : List Str → List Addr → List (L2.Key × V)
  | k :: ks, a :: rs => (Sum.inr k, V.ref a) :: zk ks rs
  | _, _ => []
theorem zk_len : ∀ {ks : List Str} {rs : List Addr}, rs.length = ks.length → (zk ks rs).length = ks.length
  | [], _, _ => by simp [zk]
  | k :: ks, [], h => by simp at h
  | k :: ks, a :: rs, h => by
    have := zk_len (ks := ks) (rs := rs) (by simpa using h)
    simp [zk, this]
theorem zk_val : ∀ {ks : List Str} {rs : List Addr} (k : Str), rs.length = ks.length →
    (∃ (i : Nat) (a : Addr), ks[i]? = some k ∧ rs[i]? = some a ∧ valV (zk ks rs) (Sum.inr k) = some (.ref a)) ∨ (k ∉ ks ∧ valV (zk ks rs) (Sum.inr k) = none)
  | [], [], k, _ => .inr ⟨by simp, rfl⟩
  | [], _ :: _, k, h => by simp at h
  | _ :: _, [], k, h => by simp at h
  | x :: ks, a :: rs, k, h => by
    by_cases q : x = k
    · subst q
      exact .inl ⟨0, a, rfl, rfl, valV_pos rfl⟩
    · have ne : (Sum.inr x : L2.Key) ≠ Sum.inr k := fun z => q (Sum.inr.inj z)
      rcases zk_val (ks := ks) (rs := rs) k (by simpa using h) with ⟨i, b, h1, h2, h3⟩ | ⟨h1, h2⟩
      · exact .inl ⟨i + 1, b, by simpa using h1, by simpa using h2, by
          show valV ((Sum.inr x, V.ref a) :: zk ks rs) _ = _
          rw [valV_neg ne]; exact h3⟩
      · refine .inr ⟨fun z => ?_, ?_⟩
        · rcases List.mem_cons.mp z with z | z
          · exact q z.symm
          · exact h1 z
        · show valV ((Sum.inr x, V.ref a) :: zk ks rs) _ = _
          rw [valV_neg ne]; exact h2
theorem zk_snoc : ∀ {ks : List Str} {rs : List Addr} {k : Str} {a : Addr}, rs.length = ks.length → zk (ks ++ [k]) (rs ++ [a]) = zk ks rs ++ [(Sum.inr k, V.ref a)]
  | [], [], _, _, _ => rfl
  | [], _ :: _, _, _, h => by simp at h
  | _ :: _, [], _, _, h => by simp at h
  | x :: ks, b :: rs, k, a, h => by
    show (Sum.inr x, V.ref b) :: zk (ks ++ [k]) (rs ++ [a]) = (Sum.inr x, V.ref b) :: (zk ks rs ++ [_])
    rw [zk_snoc (by simpa using h)]
theorem zk_at : ∀ {ks : List Str} {rs : List Addr} {i : Nat} {k : L2.Key} {v : V}, rs.length = ks.length → (zk ks rs)[i]? = some (k, v) → ∃ (x : Str) (a : Addr), ks[i]? = some x ∧ rs[i]? = some a ∧ k = Sum.inr x ∧ v = .ref a
  | [], [], i, k, v, _, e => by simp [zk] at e
  | [], _ :: _, _, _, _, h, _ => by simp at h
  | _ :: _, [], _, _, _, h, _ => by simp at h
  | x :: ks, a :: rs, 0, k, v, _, e => by
    simp [zk] at e
    exact ⟨x, a, rfl, rfl, e.1.symm, e.2.symm⟩
  | x :: ks, a :: rs, i + 1, k, v, h, e => by
    obtain ⟨y, b, h1, h2, h3⟩ := zk_at (ks := ks) (rs := rs) (i := i) (by simpa using h) (by simpa [zk] using e)
    exact ⟨y, b, by simpa using h1, by simpa using h2, h3⟩
theorem set_perm {r : Str} : ∀ {gs : List (List Str)} {i : Nat} {g : List Str}, gs[i]? = some g → (gs.set i (g ++ [r])).flatten.Perm (gs.flatten ++ [r])
  | [], _, _, h => by simp at h
  | x :: gs, 0, g, h => by
    have e : x = g := by simpa using h
    subst e
    show (x ++ [r] ++ gs.flatten).Perm (x ++ gs.flatten ++ [r])
    rw [List.append_assoc, List.append_assoc]
    exact List.Perm.append_left _ (List.perm_append_comm)
  | x :: gs, i + 1, g, h => by
    have ih := set_perm (r := r) (gs := gs) (i := i) (g := g) (by simpa using h)
    show (x ++ (gs.set i (g ++ [r])).flatten).Perm (x ++ gs.flatten ++ [r])
    rw [List.append_assoc]
    exact List.Perm.append_left _ ih
/-- the groups so far -/
structure Grp (H0 M H : Hp) (d : Addr) (ks : List Str) (rs : List Addr) (gs : List (List Str)) (done : List Str) : Prop where
  dk : H d = some (.dK (zk ks rs))
  hl : rs.length = ks.length
  nd : ks.Nodup
  ol : OL H0 M H rs gs
  dr : d ∉ rs
  md : M d = none
  pm : gs.flatten.Perm done
  ne : ∀ g ∈ gs, g ≠ []
theorem Grp.step {H0 M H M' H' : Hp} {d : Addr} {ks : List Str} {rs : List Addr} {gs : List (List Str)} {done : List Str} (g : Grp H0 M H d ks rs gs done) (S : Stp no M H M' H') : Grp H0 M' H' d ks rs gs done :=
  ⟨(S.keep g.md g.dk).2, g.hl, g.nd, g.ol.step fun a _ o m h => S.keep m h, g.dr, (S.keep g.md g.dk).1, g.pm, g.ne⟩
/-- found.setdefault(key, []), and what is appended to it -/
theorem Grp.setd {H0 M0 M H : Hp} {d p : Addr} {ks : List Str} {rs : List Addr} {gs : List (List Str)} {done : List Str} {key : Str} {Q : VK} (G : Grp H0 M H d ks rs gs done) (S : Stp no M0 H0 M H) (hd : H0 d = none) (hp : H p = none) (hk : ks.length ≤ 100000) (hdl : done.length ≤ 100000)
    (k : ∀ (a : Addr) (H4 : Hp) (g : List Str), Stp no M0 H0 M H4 → H4 a = some (.lst (g.map V.str)) → g.length ≤ 100000 →
      (∀ r : Str, ∃ (ks' : List Str) (rs' : List Addr) (gs' : List (List Str)), Stp no M0 H0 M (upd H4 a (.lst ((g ++ [r]).map V.str))) ∧ Grp H0 M (upd H4 a (.lst ((g ++ [r]).map V.str))) d ks' rs' gs' (done ++ [r]) ∧ ks'.length ≤ ks.length + 1) → Q (.ref a) H4) :
    ∃ (kvs : List (L2.Key × V)) (k' : L2.Key), upd H p (.lst []) d = some (.dK kvs) ∧ V.str key = kV k' ∧ kvs.length < sizeLine ∧ (∀ v, valV kvs k' = some v → Q v (upd H p (.lst []))) ∧ (valV kvs k' = none → Q (.ref p) (upd (upd H p (.lst [])) d (.dK (putK kvs k' (.ref p))))) := by
  have S1 := S.new (.lst []) hp
  have S1' : Stp no M H M (upd H p (.lst [])) := (Stp.refl S.mh).new (.lst []) hp
  have G1 := G.step S1'
  have hdp : d ≠ p := fun z => by rw [← z, G.dk] at hp; cases hp
  have hprs : p ∉ rs := fun z => by obtain ⟨_, _, o, e⟩ := G.ol.mem z; rw [hp] at e; cases e
  refine ⟨_, Sum.inr key, G1.dk, rfl, by rw [zk_len G.hl]; exact Nat.lt_of_le_of_lt (Nat.le_trans hk (by decide)) (line_lt (Nat.le_refl 1000000)), ?_, ?_⟩
  · intro v hv
    rcases zk_val key G.hl with ⟨i, a, h1, h2, h3⟩ | ⟨_, h2⟩
    · rw [h3] at hv
      cases hv
      have hig : i < gs.length := by rw [← G.ol.len]; exact (List.getElem?_eq_some_iff.mp h2).1
      have hg := List.getElem?_eq_getElem hig
      obtain ⟨a', e1, ha0, haM, hag⟩ := G1.ol.at hg
      rw [h2] at e1
      cases e1
      have har := List.mem_of_getElem? h2
      have hda : d ≠ a := fun z => G.dr (z ▸ har)
      have hgl : gs[i].length ≤ 100000 := Nat.le_trans (List.sublist_flatten_of_mem (List.getElem_mem hig)).length_le (by rw [G.pm.length_eq]; exact hdl)
      refine k a _ gs[i] S1 hag hgl fun r => ⟨ks, rs, gs.set i (gs[i] ++ [r]), S1.put _ haM (.inl ha0), ⟨by rw [upd_ne hda]; exact G1.dk, G.hl, G.nd, G1.ol.put h2, G.dr, G.md, (set_perm hg).trans (List.Perm.append_right _ G.pm), ?_⟩, Nat.le_succ _⟩
      intro g hgm
      rcases List.mem_or_eq_of_mem_set hgm with z | z
      · exact G.ne g z
      · rw [z]; simp
    · rw [h2] at hv; cases hv
  · intro hv
    have hkn : key ∉ ks := by
      rcases zk_val key G.hl with ⟨i, a, h1, h2, h3⟩ | ⟨h1, _⟩
      · rw [h3] at hv; cases hv
      · exact h1
    rw [putK_new _ hv, ← zk_snoc G.hl]
    have hpd : p ≠ d := fun z => hdp z.symm
    refine k p _ [] (S1.put _ G.md (.inl hd)) (by rw [upd_ne hpd]; exact upd_same) (by simp) fun r => ⟨ks ++ [key], rs ++ [p], gs ++ [[r]], (S1.put _ G.md (.inl hd)).put _ (S.mfree hp) (.inl (S.hfree hp)), ⟨by rw [upd_ne hdp]; exact upd_same, by rw [List.length_append, List.length_append, G.hl]; rfl, ?_, ?_, ?_, G.md, ?_, ?_⟩, by rw [List.length_append]; exact Nat.le_refl _⟩
    · rw [List.nodup_append]
      exact ⟨G.nd, by simp, fun x hx y hy z => by rw [List.mem_singleton.mp hy] at z; exact hkn (z ▸ hx)⟩
    · refine OL.snoc (S.hfree hp) (S.mfree hp) upd_same (G1.ol.step fun a ha o m e => ⟨m, ?_⟩) hprs
      rw [upd_ne (ne_mem hprs ha), upd_ne (ne_mem G.dr ha)]
      exact e
    · intro z
      rcases List.mem_append.mp z with z | z
      · exact G.dr z
      · exact hdp (List.mem_singleton.mp z)
    · rw [List.flatten_append, List.flatten_singleton]
      exact List.Perm.append_right _ G.pm
    · intro g hg
      rcases List.mem_append.mp hg with z | z
      · exact G.ne g z
      · rw [List.mem_singleton.mp z]; simp
end Nt
/-! A def that may raise, called in a try. -/
namespace Nt
open PySem PySem.Spec PyProof.Rows L2
section
variable {X : Cx} {CX : CXT} {k : Nat} {f : Addr} {ps : List Str} {sp : Sp} {E : L2.St → XK} {x : Str} {p pos : Pos} {e : Expr} {es : List Expr} {t : TA}
theorem pe_goodS (g : Good X.prog X.w X.K X.mg X.base CX k f ps sp) (hr : Room k X.A) (hg : Gl X x) (hm : X.mg x = some (.ref f)) (hx : ∀ σ, PassesAt CX X σ (E σ)) (ha : PA X (e :: es) t)
    (hdb : (x == ("__debug__" : Str)) = false := by decide) (he : starEach (e :: es) X.env = (false, eval e X.env) :: starEach es X.env := by rfl) (hpl : (backTo pos (starEach es X.env)).any (·.1) = false := by rfl) :
    PE X (.Call (.Name x p) (e :: es) [] pos) (tCallS sp E t) := by
  obtain ⟨⟨fd, F, b⟩, kp⟩ := g
  exact pe_callS F hr hg hm kp b hx ha hdb he hpl
end
section
variable {σ : L2.St} {H : Hp} {Q : VK} {t : TA} {te : TE}
theorem w_callS {sp : Sp} {E : L2.St → XK} (k : t σ H fun vs H1 => sp vs H1 Q (E σ)) : tCallS sp E t σ H Q := k
theorem w_xf {a C : Addr} {cls : Value} {d : Option Addr} {f : Str} (k : te σ H fun x H1 => x = .ref a ∧ cls = .ref C ∧ ∃ (dd : Addr) (fs : List (Str × V)) (v : V), d = some dd ∧ H1 dd = some (.xd fs) ∧ fs.lookup f = some v ∧ Q v H1) : tXf a cls d C f te σ H Q := k
end
end Nt
/-! What is known of values: small data, whatever it is. -/
namespace Nt
open PySem PySem.Spec PyProof.Rows L2
def KA (M : Hp) (vs : List V) : Prop := ∀ v ∈ vs, ∃ d, Is M d v ∧ Sm d
def Atom : V → Prop
  | .non => True
  | .bl _ => True
  | .int _ => True
  | .str _ => True
  | _ => False
theorem Atom.is {M : Hp} {v : V} (h : Atom v) : ∃ d, Is M d v ∧ Sm d := by
  cases v with
  | non => exact ⟨.non, rfl, fun _ e => by cases e⟩
  | bl b => exact ⟨.bl b, rfl, fun _ e => by cases e⟩
  | int i => exact ⟨.int i, rfl, fun _ e => by cases e⟩
  | str x => exact ⟨.str x, rfl, fun _ e => by cases e⟩
  | _ => exact h.elim
theorem KA.mono {M M' : Hp} {vs : List V} (k : KA M vs) (s : Same M M') : KA M' vs := fun v h => by
  obtain ⟨d, a, b⟩ := k v h
  exact ⟨d, a.mono s, b⟩
theorem KA.kids {M : Hp} : ∀ {vs : List V}, KA M vs → ∃ ds, IsA M ds vs ∧ ∀ d ∈ ds, Sm d
  | [], _ => ⟨[], rfl, by simp⟩
  | v :: vs, k => by
    obtain ⟨d, a, b⟩ := k v List.mem_cons_self
    obtain ⟨ds, c, e⟩ := KA.kids (vs := vs) fun w h => k w (List.mem_cons_of_mem _ h)
    refine ⟨d :: ds, ⟨v, vs, rfl, a, c⟩, fun x h => ?_⟩
    rcases List.mem_cons.mp h with z | z
    · rw [z]; exact b
    · exact e x z
theorem KA.nil {M : Hp} : KA M [] := fun _ h => by cases h
theorem KA.cons {M : Hp} {d : Dat} {v : V} {vs : List V} (h : Is M d v) (s : Sm d) (k : KA M vs) : KA M (v :: vs) := fun w m => by
  rcases List.mem_cons.mp m with z | z
  · rw [z]; exact ⟨d, h, s⟩
  · exact k w z
theorem KA.sub {M : Hp} {vs ws : List V} (k : KA M ws) (h : ∀ v ∈ vs, Atom v ∨ v ∈ ws) : KA M vs := fun v m => (h v m).elim Atom.is (k v)
theorem Sm.strs {xs : List Str} (h : xs.length ≤ 200) : Sm (dS xs) := fun ds e => by
  cases e
  refine ⟨by rw [List.length_map]; exact h, fun e he es q => ?_⟩
  obtain ⟨x, _, rfl⟩ := List.mem_map.mp he
  cases q
theorem Sm.seq {d : Dat} {ds : List Dat} (e : d.seq = some ds) (hl : ds.length ≤ 200) (h : ∀ x ∈ ds, Sm x) : Sm d := fun es q => by
  rw [e] at q
  cases q
  exact ⟨hl, fun x hx es q => (h x hx es q).1⟩
section
variable {M0 H0 M H : Hp} {b p : Addr} {rs vs : List V} {H1 : Hp}
theorem ka_lst (S : Stp (exB b) M0 H0 M H) (B : Bag M H b) (k : KA M rs) (hH : upd H p (.lst vs) = H1) (hl : vs.length ≤ 200) (h : ∀ v ∈ vs, Atom v ∨ v ∈ rs) (hp : H p = none) :
    ∃ M', Stp (exB b) M0 H0 M' H1 ∧ Bag M' H1 b ∧ Same M M' ∧ M' p = some (.lst vs) ∧ KA M' (.ref p :: rs) ∧ (∀ q, q ≠ p → M' q = M q) ∧ KA M' vs := by
  subst hH
  have s : Same M (upd M p (.lst vs)) := same_upd (S.mfree hp)
  obtain ⟨ds, ia, hd⟩ := (k.sub h).kids
  exact ⟨upd M p (.lst vs), S.lay _ hp, B.lay S.mh hp, s, upd_same, KA.cons (d := .lst ds) ⟨p, vs, rfl, upd_same, ia.mono s⟩ (Sm.seq rfl (by rw [← ia.len]; exact hl) hd) (k.mono s), fun q n => upd_ne n, (k.sub h).mono s⟩
theorem ka_tup (S : Stp (exB b) M0 H0 M H) (B : Bag M H b) (k : KA M rs) (hH : upd H p (.tup vs) = H1) (hl : vs.length ≤ 200) (h : ∀ v ∈ vs, Atom v ∨ v ∈ rs) (hp : H p = none) :
    ∃ M', Stp (exB b) M0 H0 M' H1 ∧ Bag M' H1 b ∧ Same M M' ∧ M' p = some (.tup vs) ∧ KA M' (.ref p :: rs) ∧ (∀ q, q ≠ p → M' q = M q) ∧ KA M' vs := by
  subst hH
  have s : Same M (upd M p (.tup vs)) := same_upd (S.mfree hp)
  obtain ⟨ds, ia, hd⟩ := (k.sub h).kids
  exact ⟨upd M p (.tup vs), S.lay _ hp, B.lay S.mh hp, s, upd_same, KA.cons (d := .tup ds) ⟨p, vs, rfl, upd_same, ia.mono s⟩ (Sm.seq rfl (by rw [← ia.len]; exact hl) hd) (k.mono s), fun q n => upd_ne n, (k.sub h).mono s⟩
theorem ka_lst2 (S : Stp (exB b) M0 H0 M H) (B : Bag M H b) (k : KA M vs) (hH : upd H p (.lst vs) = H1) (hl : vs.length ≤ 200) (hp : H p = none) :
    ∃ M', Stp (exB b) M0 H0 M' H1 ∧ Bag M' H1 b ∧ Same M M' ∧ M' p = some (.lst vs) ∧ (∀ q, q ≠ p → M' q = M q) ∧ KA M' [.ref p] := by
  obtain ⟨M', a, c, d, e, f, g, h⟩ := ka_lst S B k hH hl (fun v m => .inr m) hp
  exact ⟨M', a, c, d, e, g, fun v m => f v (by rw [List.mem_singleton.mp m]; exact List.mem_cons_self)⟩
theorem ka_tup2 (S : Stp (exB b) M0 H0 M H) (B : Bag M H b) (k : KA M vs) (hH : upd H p (.tup vs) = H1) (hl : vs.length ≤ 200) (hp : H p = none) :
    ∃ M', Stp (exB b) M0 H0 M' H1 ∧ Bag M' H1 b ∧ Same M M' ∧ M' p = some (.tup vs) ∧ (∀ q, q ≠ p → M' q = M q) ∧ KA M' [.ref p] := by
  obtain ⟨M', a, c, d, e, f, g, h⟩ := ka_tup S B k hH hl (fun v m => .inr m) hp
  exact ⟨M', a, c, d, e, g, fun v m => f v (by rw [List.mem_singleton.mp m]; exact List.mem_cons_self)⟩
theorem KA.app {M : Hp} {vs ws : List V} (k : KA M vs) (j : KA M ws) : KA M (vs ++ ws) := fun v m => (List.mem_append.mp m).elim (k v) (j v)
theorem KA.at {M : Hp} {v : V} {vs : List V} (h : Atom v) (k : KA M vs) : KA M (v :: vs) := fun w m => by
  rcases List.mem_cons.mp m with z | z
  · rw [z]; exact Atom.is h
  · exact k w z
theorem KA.s {M : Hp} {x : Str} {vs : List V} (k : KA M vs) : KA M (.str x :: vs) := KA.at (v := .str x) trivial k
theorem KA.n {M : Hp} {vs : List V} (k : KA M vs) : KA M (.non :: vs) := KA.at (v := .non) trivial k
theorem KA.i {M : Hp} {i : Int} {vs : List V} (k : KA M vs) : KA M (.int i :: vs) := KA.at (v := .int i) trivial k
theorem KA.bo {M : Hp} {i : Bool} {vs : List V} (k : KA M vs) : KA M (.bl i :: vs) := KA.at (v := .bl i) trivial k
theorem KA.con {M : Hp} {v : V} {vs : List V} (h : KA M [v]) (k : KA M vs) : KA M (v :: vs) := fun w m => by
  rcases List.mem_cons.mp m with z | z
  · rw [z]; exact h v List.mem_cons_self
  · exact k w z
theorem KA.strs {M : Hp} (xs : List Str) : KA M (xs.map V.str) := fun v m => by
  obtain ⟨x, _, rfl⟩ := List.mem_map.mp m
  exact Atom.is trivial
theorem KA.one {M : Hp} {d : Dat} {v : V} (h : Is M d v) (s : Sm d) : KA M [v] := KA.cons h s KA.nil
theorem KA.drop {M : Hp} {vs : List V} (k : KA M vs) (n : Nat) : KA M (vs.drop n) := fun v h => k v (List.mem_of_mem_drop h)
theorem KA.take {M : Hp} {vs : List V} (k : KA M vs) (n : Nat) : KA M (vs.take n) := fun v h => k v (List.mem_of_mem_take h)
theorem KA.of {M : Hp} {ds : List Dat} {vs : List V} (h : IsA M ds vs) (s : ∀ d ∈ ds, Sm d) : KA M vs := fun v m => by
  obtain ⟨i, hi⟩ := List.getElem?_of_mem m
  obtain ⟨d, hd, iv⟩ := h.get hi
  exact ⟨d, iv, s d (List.mem_of_getElem? hd)⟩
theorem ka_dnew (S : Stp (exB b) M0 H0 M H) (B : Bag M H b) (k : KA M rs) (hH : upd H p (.dK []) = H1) (hp : H p = none) :
    ∃ M', Stp (exB b) M0 H0 M' H1 ∧ Bag M' H1 b ∧ Same M M' ∧ KA M' (.ref p :: rs) := by
  subst hH
  have s : Same M (upd M p (.dK [])) := same_upd (S.mfree hp)
  exact ⟨upd M p (.dK []), S.lay _ hp, B.lay S.mh hp, s, KA.cons (d := .dct) ⟨p, rfl, .inl ⟨[], upd_same⟩⟩ (fun _ e => by cases e) (k.mono s)⟩
/-- a dict that is being written -/
theorem ka_d0 (S : Stp (exB b) M0 H0 M H) (B : Bag M H b) (hH : upd H p (.dK []) = H1) (hp : H p = none) : Stp (exB b) M0 H0 M H1 ∧ Bag M H1 b ∧ H1 p = some (.dK []) ∧ M p = none ∧ H0 p = none ∧ p ≠ b := by
  subst hH
  exact ⟨S.new _ hp, B.new S.mh hp, upd_same, S.mfree hp, S.hfree hp, B.ne hp⟩
theorem ka_d1 {kvs : List (L2.Key × V)} (S : Stp (exB b) M0 H0 M H) (B : Bag M H b) (k : KA M rs) (hH : upd H p (.dK kvs) = H1) (mp : M p = none) (h0 : H0 p = none) (ne : p ≠ b) :
    ∃ M', Stp (exB b) M0 H0 M' H1 ∧ Bag M' H1 b ∧ Same M M' ∧ KA M' (.ref p :: rs) := by
  subst hH
  have S1 := S.put (.dK kvs) mp (.inl h0)
  have B1 : Bag M (upd H p (.dK kvs)) b := B.put mp ne
  have s : Same M (upd M p (.dK kvs)) := same_upd mp
  exact ⟨upd M p (.dK kvs), S1.fix upd_same h0, B1.fix ne (.inl mp), s, KA.cons (d := .dct) ⟨p, rfl, .inl ⟨kvs, upd_same⟩⟩ (fun _ e => by cases e) (k.mono s)⟩
/-- a dict with tuples for keys -/
theorem ka_t0 (S : Stp (exB b) M0 H0 M H) (B : Bag M H b) (hH : upd H p (.dT []) = H1) (hp : H p = none) : Stp (exB b) M0 H0 M H1 ∧ Bag M H1 b ∧ H1 p = some (.dT []) ∧ M p = none ∧ H0 p = none ∧ p ≠ b := by
  subst hH
  exact ⟨S.new _ hp, B.new S.mh hp, upd_same, S.mfree hp, S.hfree hp, B.ne hp⟩
theorem ka_t1 {kvs : List (List L2.Key × V)} (S : Stp (exB b) M0 H0 M H) (B : Bag M H b) (k : KA M rs) (hH : upd H p (.dT kvs) = H1) (mp : M p = none) (h0 : H0 p = none) (ne : p ≠ b) :
    ∃ M', Stp (exB b) M0 H0 M' H1 ∧ Bag M' H1 b ∧ Same M M' ∧ KA M' (.ref p :: rs) := by
  subst hH
  have S1 := S.put (.dT kvs) mp (.inl h0)
  have B1 : Bag M (upd H p (.dT kvs)) b := B.put mp ne
  have s : Same M (upd M p (.dT kvs)) := same_upd mp
  exact ⟨upd M p (.dT kvs), S1.fix upd_same h0, B1.fix ne (.inl mp), s, KA.cons (d := .dct) ⟨p, rfl, .inr ⟨kvs, upd_same⟩⟩ (fun _ e => by cases e) (k.mono s)⟩
end
end Nt
/-! Lists of lists: arrangements; a comprehension whose items still change. -/
namespace Nt
open PySem PySem.Spec PyProof.Rows L2
theorem perm_pre {α β : Type} {f : α → β} : ∀ {m : List β} {l : List α}, m.Perm (l.map f) → ∃ l' : List α, l'.Perm l ∧ m = l'.map f
  | [], l, h => by
    have e : l = [] := List.map_eq_nil_iff.mp (List.nil_perm.mp h)
    exact ⟨[], by rw [e], rfl⟩
  | y :: m, l, h => by
    obtain ⟨x, hx, hy⟩ := List.mem_map.mp (h.mem_iff.mp List.mem_cons_self)
    obtain ⟨s, t, rfl⟩ := List.append_of_mem hx
    have h2 : (y :: m).Perm (y :: (s ++ t).map f) := h.trans (by
      rw [← hy, ← List.map_cons (f := f)]
      exact List.Perm.map f List.perm_middle)
    obtain ⟨l', h3, h4⟩ := perm_pre (l := s ++ t) (List.Perm.cons_inv h2)
    exact ⟨x :: l', (h3.cons x).trans List.perm_middle.symm, by rw [List.map_cons, hy, h4]⟩
theorem flat_filt : ∀ gs : List (List Str), (gs.filter fun g => !decide (g = [])).flatten = gs.flatten
  | [] => rfl
  | g :: gs => by
    rw [List.filter_cons]
    by_cases h : g = []
    · subst h
      rw [if_neg (by simp), flat_filt gs]
      rfl
    · rw [if_pos (by simp [h]), List.flatten_cons, List.flatten_cons, flat_filt gs]
theorem perm_flat {gs hs : List (List Str)} (h : gs.Perm hs) : gs.flatten.Perm hs.flatten := h.flatten
theorem Bag.all {M M' H : Hp} {b : Addr} (B : Bag M H b) (s : Same M M') (h : M' b = none) : Bag M' H b := by
  obtain ⟨a, xs, i, r, m, c, e, h2, h3⟩ := B.ex
  exact ⟨h, a, xs, i, r, m, c, e, s _ _ h2, h3⟩
section
variable {σ : L2.St} {H : Hp} {Q : VK} {J : It} {n : Nat} {G : Hp → Prop} {Y : Nat → Hp → V → Hp → Prop} {g : TG} {tt : TT} {te : TE} {vs : List Nat} {M0 H0 M : Hp} {b : Addr}
theorem lay_lst {p : Addr} {H1 : Hp} {vs : List V} (S : Stp (exB b) M0 H0 M H) (B : Bag M H b) (hH : upd H p (.lst vs) = H1) (hp : H p = none) :
    ∃ M', Stp (exB b) M0 H0 M' H1 ∧ Bag M' H1 b ∧ Same M M' ∧ M' p = some (.lst vs) ∧ ∀ q, q ≠ p → M' q = M q := by
  subst hH
  exact ⟨upd M p (.lst vs), S.lay _ hp, B.lay S.mh hp, same_upd (S.mfree hp), upd_same, fun q n => upd_ne n⟩
theorem lay_tup {p : Addr} {H1 : Hp} {vs : List V} (S : Stp (exB b) M0 H0 M H) (B : Bag M H b) (hH : upd H p (.tup vs) = H1) (hp : H p = none) :
    ∃ M', Stp (exB b) M0 H0 M' H1 ∧ Bag M' H1 b ∧ Same M M' ∧ M' p = some (.tup vs) ∧ ∀ q, q ≠ p → M' q = M q := by
  subst hH
  exact ⟨upd M p (.tup vs), S.lay _ hp, B.lay S.mh hp, same_upd (S.mfree hp), upd_same, fun q n => upd_ne n⟩
theorem oq_neD {X : Cx} (K : PySem.W.Frag) (hu : X.A.units + 64 < cLine) (hK : X.K = K := by rfl) : OpR X (compareOp .NotEq) (rNeD K) := by subst hK; exact op_neD hu
theorem oq_eqD {X : Cx} (K : PySem.W.Frag) (hu : X.A.units + 64 < cLine) (hK : X.K = K := by rfl) : OpR X (compareOp .Eq) (rEqD K) := by subst hK; exact op_eqD hu
structure LcTH (b : Addr) (M0 H0 : Hp) (D : Addr) (A : List V → Hp → Hp → Prop) (H : Hp) : Prop where
  ex : ∃ M acc, Stp (exB b) M0 H0 M H ∧ Bag M H b ∧ M D = none ∧ H D = some (.lst acc) ∧ A acc M H
abbrev LcBH (b : Addr) (M0 H0 : Hp) (D : Addr) (A : List V → Hp → Hp → Prop) (y : V) (H : Hp) : Prop := ∃ acc, H D = some (.lst acc) ∧ acc.length < sizeLine ∧ LcTH b M0 H0 D A (upd H D (.lst (acc ++ [y])))
theorem LcBH.of {D : Addr} {A : List V → Hp → Hp → Prop} {y : V} {acc : List V} (hD : H0 D = none) (ne : D ≠ b) (S : Stp (exB b) M0 H0 M H) (B : Bag M H b) (m : M D = none) (h : H D = some (.lst acc)) (hl : acc.length ≤ 1000000) (a : A (acc ++ [y]) M (upd H D (.lst (acc ++ [y])))) : LcBH b M0 H0 D A y H :=
  ⟨acc, h, line_lt hl, M, _, S.put _ m (.inl hD), B.put m ne, m, upd_same, a⟩
theorem lc_goBH (w : Walk J n G Y) (s0 : Same M H) (B : Bag M H b) (A : Addr → Nat → List V → Hp → Hp → Prop) (a0 : ∀ D, H D = none → A D 0 [] M (upd H D (.lst []))) (hG : ∀ M' H', Stp (exB b) M H M' H' → G H')
    (turn : ∀ i x acc M1 H1 H1' D, i < n → Stp (exB b) M H M1 H1 → Bag M1 H1 b → H D = none → D ≠ b → M1 D = none → H1 D = some (.lst acc) → A D i acc M1 H1 → Y i H1 x H1' →
      g x (wipe σ vs) H1' fun σ2 H2 => wipe σ2 vs = wipe σ vs ∧ tt σ2 H2 fun c H3 => if c = true then te σ2 H3 fun y H4 => LcBH b M H D (A D (i + 1)) y H4 else LcTH b M H D (A D (i + 1)) H3)
    (done : ∀ D acc M1 H1, H D = none → D ≠ b → Stp (exB b) M H M1 H1 → Bag M1 H1 b → M1 D = none → H1 D = some (.lst acc) → A D n acc M1 H1 → Q (.ref D) H1) :
    LcG J g tt te vs σ Q H := by
  intro D hD
  have R := Stp.refl (ex := exB b) s0
  have ne := B.ne hD
  exact lc_it w (fun i H' => LcTH b M H D (A D i) H') ⟨M, [], R.new _ hD, B.new s0 hD, R.mfree hD, upd_same, a0 D hD⟩ (fun i H' _ ⟨M', acc, S', _, _, _, _⟩ => hG M' H' S')
    (fun i x H1 H1' hi ⟨M1, acc, S1, B1, m1, h1, a1⟩ hy => turn i x acc M1 H1 H1' D hi S1 B1 hD ne m1 h1 a1 hy) (fun H1 ⟨M1, acc, S1, B1, m1, h1, a1⟩ => done D acc M1 H1 hD ne S1 B1 m1 h1 a1)
end
theorem w_inI2 {p : Addr} {H : Hp} {Q : VK} {i a c : Int} (h : H p = some (.tup [.int a, .int c])) (k : Q (.bl (decide (i = a ∨ i = c))) H) : qIn false (.int i) (.ref p) H Q :=
  ⟨p, _, rfl, .inr h, rfl, rfl, by
    show Q (.bl (inV _ _)) H
    have e : inV (.int i) [.int a, .int c] = decide (i = a ∨ i = c) := by
      unfold inV
      by_cases h1 : i = a
      · subst h1; simp [eqV]
      · by_cases h2 : i = c
        · subst h2; simp [eqV]
        · have h1' : ¬ a = i := fun z => h1 z.symm
          have h2' : ¬ c = i := fun z => h2 z.symm
          simp [eqV, h1, h2, h1', h2']
    rw [e]
    exact k⟩
theorem move_perm {g0 g1 : List Str} {gr : List (List Str)} {m : Str} (nd : g0.Nodup) (hm : m ∈ g0) : ((g0.filter fun r => !decide (r = m)) :: (g1 ++ [m]) :: gr).flatten.Perm (g0 :: g1 :: gr).flatten := by
  have h1 : g0.Perm (m :: g0.filter fun r => !decide (r = m)) := by
    have h2 := List.perm_cons_erase hm
    rw [nd.erase_eq_filter] at h2
    refine h2.trans (List.Perm.of_eq (congrArg (m :: ·) (List.filter_congr fun x _ => ?_)))
    by_cases q : x = m <;> simp [q]
  show (List.filter _ g0 ++ (g1 ++ [m] ++ gr.flatten)).Perm (g0 ++ (g1 ++ gr.flatten))
  refine List.Perm.trans ?_ (List.Perm.append_right _ h1.symm)
  refine List.Perm.trans ?_ (List.perm_middle (l₁ := []) ).symm
  show (List.filter _ g0 ++ (g1 ++ [m] ++ gr.flatten)).Perm (m :: (List.filter _ g0 ++ (g1 ++ gr.flatten)))
  rw [show List.filter (fun r => !decide (r = m)) g0 ++ (g1 ++ [m] ++ gr.flatten) = (List.filter (fun r => !decide (r = m)) g0 ++ g1) ++ m :: gr.flatten by simp]
  refine List.perm_middle.trans ?_
  rw [List.append_assoc]
theorem move_ne {g0 : List Str} {m : Str} (nd : g0.Nodup) (hl : 1 < g0.length) : (g0.filter fun r => !decide (r = m)) ≠ [] := by
  intro h
  have all : ∀ x ∈ g0, x = m := fun x hx => Classical.byContradiction fun q => by
    have : x ∈ g0.filter fun r => !decide (r = m) := List.mem_filter.mpr ⟨hx, by simp [q]⟩
    rw [h] at this
    cases this
  match g0, nd, hl, all with
  | x :: y :: t, nd, _, all =>
    have h1 := all x List.mem_cons_self
    have h2 := all y (List.mem_cons_of_mem _ List.mem_cons_self)
    exact (List.nodup_cons.mp nd).1 (by rw [h1, ← h2]; exact List.mem_cons_self)
theorem nat_ints {M : Hp} {ps : List Nat} : IsA M (ps.map fun p => Dat.int (p : Nat)) (ps.map fun p => V.int (p : Nat)) := by
  have e1 : (ps.map fun p => Dat.int (p : Nat)) = (ps.map fun p => ((p : Nat) : Int)).map Dat.int := by simp
  have e2 : (ps.map fun p => V.int (p : Nat)) = (ps.map fun p => ((p : Nat) : Int)).map V.int := by simp
  rw [e1, e2]
  exact IsA.ints.mpr rfl
end Nt
/-! The least parting that joins pairs and that seeds keep; groups in order; worklists; forests. -/
namespace Nt
open PySem PySem.Spec PyProof.Rows L2
/-! ### what pairs join -/
inductive Cg (seeds : List Str) (ps : List (Str × Str)) : Str → Str → Prop
  | refl (x : Str) : Cg seeds ps x x
  | symm {x y : Str} : Cg seeds ps x y → Cg seeds ps y x
  | trans {x y z : Str} : Cg seeds ps x y → Cg seeds ps y z → Cg seeds ps x z
  | pair {p : Str × Str} : p ∈ ps → Cg seeds ps p.1 p.2
  | seed {s x y : Str} : s ∈ seeds → Cg seeds ps x y → Cg seeds ps (ovr s x) (ovr s y)
structure Eqv (E : Str → Str → Prop) : Prop where
  refl : ∀ x, E x x
  symm : ∀ {x y}, E x y → E y x
  trans : ∀ {x y z}, E x y → E y z → E x z
theorem Cg.least {seeds : List Str} {ps : List (Str × Str)} {E : Str → Str → Prop} (e : Eqv E) (hp : ∀ p ∈ ps, E p.1 p.2) (hs : ∀ s ∈ seeds, ∀ x y, E x y → E (ovr s x) (ovr s y)) {x y : Str} (h : Cg seeds ps x y) : E x y := by
  induction h with
  | refl x => exact e.refl x
  | symm _ ih => exact e.symm ih
  | trans _ _ a b => exact e.trans a b
  | pair h => exact hp _ h
  | seed h _ ih => exact hs _ h _ _ ih
theorem Cg.more {seeds : List Str} {ps qs : List (Str × Str)} (h : ∀ p ∈ ps, Cg seeds qs p.1 p.2) {x y : Str} (c : Cg seeds ps x y) : Cg seeds qs x y :=
  c.least ⟨.refl, .symm, .trans⟩ h fun s hs x y q => .seed hs q
/-- a relation on full, widened by equality -/
def WE' (full : List Str) (R : Str → Str → Prop) (x y : Str) : Prop := x = y ∨ (x ∈ full ∧ y ∈ full ∧ R x y)
structure EqvOn (full : List Str) (R : Str → Str → Prop) : Prop where
  refl : ∀ x ∈ full, R x x
  symm : ∀ {x y}, x ∈ full → y ∈ full → R x y → R y x
  trans : ∀ {x y z}, x ∈ full → y ∈ full → z ∈ full → R x y → R y z → R x z
theorem EqvOn.wide {full : List Str} {R : Str → Str → Prop} (h : EqvOn full R) : Eqv (WE' full R) := by
  refine ⟨fun x => .inl rfl, ?_, ?_⟩
  · rintro x y (rfl | ⟨a, b, c⟩)
    · exact .inl rfl
    · exact .inr ⟨b, a, h.symm a b c⟩
  · rintro x y z (rfl | ⟨a, b, c⟩) (rfl | ⟨d, e, f⟩)
    · exact .inl rfl
    · exact .inr ⟨d, e, f⟩
    · exact .inr ⟨a, b, c⟩
    · exact .inr ⟨a, e, h.trans a b e c f⟩
theorem Cg.on {seeds full : List Str} {ps : List (Str × Str)} {R : Str → Str → Prop} (e : EqvOn full R) (cl : ∀ s ∈ seeds, ∀ r ∈ full, ovr s r ∈ full) (hf : ∀ p ∈ ps, p.1 ∈ full ∧ p.2 ∈ full) (hp : ∀ p ∈ ps, R p.1 p.2)
    (hs : ∀ s ∈ seeds, ∀ x ∈ full, ∀ y ∈ full, R x y → R (ovr s x) (ovr s y)) {x y : Str} (hx : x ∈ full) (h : Cg seeds ps x y) : R x y := by
  have := h.least e.wide (fun p m => .inr ⟨(hf p m).1, (hf p m).2, hp p m⟩) fun s m x y q => by
    rcases q with rfl | ⟨a, b, c⟩
    · exact .inl rfl
    · exact .inr ⟨cl s m x a, cl s m y b, hs s m x a y b c⟩
  rcases this with rfl | ⟨_, _, c⟩
  · exact e.refl x hx
  · exact c
/-! ### worklists -/
inductive Gn (full : List Str) (R : Str → Str → Prop) (W : List (Str × Str)) : Str → Str → Prop
  | refl (x : Str) : Gn full R W x x
  | symm {x y : Str} : Gn full R W x y → Gn full R W y x
  | trans {x y z : Str} : Gn full R W x y → Gn full R W y z → Gn full R W x z
  | base {x y : Str} : x ∈ full → y ∈ full → R x y → Gn full R W x y
  | wait {p : Str × Str} : p ∈ W → Gn full R W p.1 p.2
theorem Gn.least {full : List Str} {R : Str → Str → Prop} {W : List (Str × Str)} {E : Str → Str → Prop} (e : Eqv E) (hr : ∀ x y, x ∈ full → y ∈ full → R x y → E x y) (hw : ∀ p ∈ W, E p.1 p.2) {x y : Str} (h : Gn full R W x y) : E x y := by
  induction h with
  | refl x => exact e.refl x
  | symm _ ih => exact e.symm ih
  | trans _ _ a b => exact e.trans a b
  | base a b c => exact hr _ _ a b c
  | wait h => exact hw _ h
theorem Gn.eqv {full : List Str} {R : Str → Str → Prop} {W : List (Str × Str)} : Eqv (Gn full R W) := ⟨.refl, .symm, .trans⟩
structure Wk (seeds full : List Str) (ps : List (Str × Str)) (R : Str → Str → Prop) (W : List (Str × Str)) : Prop where
  eq : EqvOn full R
  le : ∀ x ∈ full, ∀ y ∈ full, R x y → Cg seeds ps x y
  wt : ∀ p ∈ W, Cg seeds ps p.1 p.2
  wf : ∀ p ∈ W, p.1 ∈ full ∧ p.2 ∈ full
  pr : ∀ p ∈ ps, Gn full R W p.1 p.2
  sd : ∀ s ∈ seeds, ∀ x ∈ full, ∀ y ∈ full, R x y → Gn full R W (ovr s x) (ovr s y)
section
variable {seeds full : List Str} {ps : List (Str × Str)} {R R' : Str → Str → Prop} {W W' : List (Str × Str)}
theorem Wk.start (e : EqvOn full R) (h : ∀ x ∈ full, ∀ y ∈ full, R x y → x = y) (hf : ∀ p ∈ ps, p.1 ∈ full ∧ p.2 ∈ full) : Wk seeds full ps R ps :=
  ⟨e, fun x hx y hy q => by rw [h x hx y hy q]; exact .refl y, fun p m => .pair m, hf, fun p m => .wait m, fun s _ x hx y hy q => by rw [h x hx y hy q]; exact .refl _⟩
/-- the relation is told otherwise -/
theorem Wk.same (k : Wk seeds full ps R W) (h : ∀ x ∈ full, ∀ y ∈ full, (R x y ↔ R' x y)) : Wk seeds full ps R' W := by
  have g : ∀ {x y}, Gn full R W x y → Gn full R' W x y := fun q => q.least Gn.eqv (fun x y a b c => .base a b ((h x a y b).mp c)) fun p m => .wait m
  exact ⟨⟨fun x m => (h x m x m).mp (k.eq.refl x m), fun a b c => (h _ b _ a).mp (k.eq.symm a b ((h _ a _ b).mpr c)), fun a b c d e => (h _ a _ c).mp (k.eq.trans a b c ((h _ a _ b).mpr d) ((h _ b _ c).mpr e))⟩,
    fun x a y b c => k.le x a y b ((h x a y b).mpr c), k.wt, k.wf, fun p m => g (k.pr p m), fun s m x a y b c => g (k.sd s m x a y b ((h x a y b).mpr c))⟩
/-- a pair that is joined as yet -/
theorem Wk.drop (k : Wk seeds full ps R W) {p : Str × Str} (h : ∀ q ∈ W, q = p ∨ q ∈ W') (h' : ∀ q ∈ W', q ∈ W) (hp : p ∈ W) (j : R p.1 p.2) : Wk seeds full ps R W' := by
  have g : ∀ {x y}, Gn full R W x y → Gn full R W' x y := fun q => q.least Gn.eqv (fun x y a b c => .base a b c) fun q m => by
    rcases h q m with rfl | z
    · exact .base (k.wf q hp).1 (k.wf q hp).2 j
    · exact .wait z
  exact ⟨k.eq, k.le, fun p m => k.wt p (h' p m), fun p m => k.wf p (h' p m), fun p m => g (k.pr p m), fun s m x a y b c => g (k.sd s m x a y b c)⟩
/-- a pair is joined, and what seeds make of it waits -/
theorem Wk.join (k : Wk seeds full ps R W) (cl : ∀ s ∈ seeds, ∀ r ∈ full, ovr s r ∈ full) {p : Str × Str} (hp : p ∈ W) (e : EqvOn full R') (r1 : ∀ x ∈ full, ∀ y ∈ full, R x y → R' x y) (r2 : R' p.1 p.2) (r3 : ∀ x ∈ full, ∀ y ∈ full, R' x y → Gn full R [p] x y)
    (h : ∀ q ∈ W, q = p ∨ q ∈ W') (h' : ∀ q ∈ W', q ∈ W ∨ ∃ s ∈ seeds, q = (ovr s p.1, ovr s p.2)) (hs : ∀ s ∈ seeds, (ovr s p.1, ovr s p.2) ∈ W') : Wk seeds full ps R' W' := by
  have g : ∀ {x y}, Gn full R W x y → Gn full R' W' x y := fun q => q.least Gn.eqv (fun x y a b c => .base a b (r1 x a y b c)) fun q m => by
    rcases h q m with rfl | z
    · exact .base (k.wf q hp).1 (k.wf q hp).2 r2
    · exact .wait z
  have c : ∀ {x y}, Gn full R [p] x y → Cg seeds ps x y := fun q => q.least ⟨.refl, .symm, .trans⟩ (fun x y a b c => k.le x a y b c) fun q m => by
    rw [List.mem_singleton.mp m]
    exact k.wt p hp
  refine ⟨e, fun x a y b q => c (r3 x a y b q), fun q m => ?_, fun q m => ?_, fun q m => g (k.pr q m), fun s m x a y b q => ?_⟩
  · rcases h' q m with z | ⟨s, hs, rfl⟩
    · exact k.wt q z
    · exact .seed hs (k.wt p hp)
  · rcases h' q m with z | ⟨s, hs, rfl⟩
    · exact k.wf q z
    · exact ⟨cl s hs _ (k.wf p hp).1, cl s hs _ (k.wf p hp).2⟩
  · have : ∀ {x y}, Gn full R [p] x y → Gn full R' W' (ovr s x) (ovr s y) := fun q => q.least (E := fun x y => Gn full R' W' (ovr s x) (ovr s y)) ⟨fun _ => .refl _, .symm, .trans⟩ (fun x y a b c => g (k.sd s m x a y b c)) fun q m' => by
      rw [List.mem_singleton.mp m']
      exact .wait (p := (ovr s p.1, ovr s p.2)) (hs s m)
    exact this (r3 x a y b q)
/-- nothing waits: it is the least one -/
theorem Wk.done (k : Wk seeds full ps R []) (cl : ∀ s ∈ seeds, ∀ r ∈ full, ovr s r ∈ full) (hf : ∀ p ∈ ps, p.1 ∈ full ∧ p.2 ∈ full) : ∀ x ∈ full, ∀ y ∈ full, (R x y ↔ Cg seeds ps x y) := by
  have u : ∀ {x y}, x ∈ full → Gn full R [] x y → R x y := fun {x y} hx q => by
    have := q.least k.eq.wide (fun x y a b c => .inr ⟨a, b, c⟩) fun p m => by cases m
    rcases this with rfl | ⟨_, _, c⟩
    · exact k.eq.refl x hx
    · exact c
  intro x hx y hy
  refine ⟨k.le x hx y hy, fun c => ?_⟩
  exact c.on k.eq cl hf (fun p m => u (hf p m).1 (k.pr p m)) (fun s m x a y b q => u (cl s m x a) (k.sd s m x a y b q)) hx
end
/-! ### groups in the order in which they come -/
def ins (e : Str → Str → Bool) : List (List Str) → Str → List (List Str)
  | [], x => [[x]]
  | g :: gs, x => if g.any (fun y => e y x) then (g ++ [x]) :: gs else g :: ins e gs x
def lst (e : Str → Str → Bool) (l : List Str) : List (List Str) := l.foldl (ins e) []
theorem lst_snoc (e : Str → Str → Bool) (l : List Str) (x : Str) : lst e (l ++ [x]) = ins e (lst e l) x := by unfold lst; rw [List.foldl_append]; rfl
theorem ins_flat (e : Str → Str → Bool) : ∀ (gs : List (List Str)) (x : Str), (ins e gs x).flatten.Perm (gs.flatten ++ [x])
  | [], x => by simp [ins]
  | g :: gs, x => by
    unfold ins
    split
    · rw [List.flatten_cons, List.flatten_cons, List.append_assoc, List.append_assoc]
      exact List.Perm.append_left _ List.perm_append_comm
    · rw [List.flatten_cons, List.flatten_cons, List.append_assoc]
      exact List.Perm.append_left _ (ins_flat e gs x)
theorem ins_ne (e : Str → Str → Bool) : ∀ (gs : List (List Str)) (x : Str), (∀ g ∈ gs, g ≠ []) → ∀ g ∈ ins e gs x, g ≠ []
  | [], x, _, g, hg => by
    rw [List.mem_singleton.mp (show g ∈ [[x]] from hg)]
    simp
  | h :: gs, x, hn, g, hg => by
    unfold ins at hg
    split at hg
    · rcases List.mem_cons.mp hg with z | z
      · rw [z]; simp
      · exact hn g (List.mem_cons_of_mem _ z)
    · rcases List.mem_cons.mp hg with z | z
      · rw [z]; exact hn h List.mem_cons_self
      · exact ins_ne e gs x (fun g hg => hn g (List.mem_cons_of_mem _ hg)) g z
theorem ins_cong {e e' : Str → Str → Bool} : ∀ {gs : List (List Str)} {x : Str}, (∀ y ∈ gs.flatten, e y x = e' y x) → ins e gs x = ins e' gs x
  | [], x, _ => rfl
  | g :: gs, x, h => by
    have h1 : (g.any fun y => e y x) = g.any fun y => e' y x := by
      rw [Bool.eq_iff_iff, List.any_eq_true, List.any_eq_true]
      constructor
      · rintro ⟨y, a, b⟩
        exact ⟨y, a, by rw [← h y (List.mem_append_left _ a)]; exact b⟩
      · rintro ⟨y, a, b⟩
        exact ⟨y, a, by rw [h y (List.mem_append_left _ a)]; exact b⟩
    unfold ins
    rw [h1, ins_cong (gs := gs) fun y m => h y (List.mem_append_right _ m)]
theorem lst_flat (e : Str → Str → Bool) (l : List Str) : (lst e l).flatten.Perm l := by
  have : ∀ n, n ≤ l.length → (lst e (l.take n)).flatten.Perm (l.take n) := by
    intro n
    induction n with
    | zero => intro _; simp [lst]
    | succ n ih =>
      intro h
      have e1 := List.getElem?_eq_getElem (show n < l.length by omega)
      rw [tk_snoc e1, lst_snoc]
      exact (ins_flat e _ _).trans (List.Perm.append_right _ (ih (by omega)))
  have h := this l.length (Nat.le_refl _)
  rw [List.take_length] at h
  exact h
theorem lst_ne (e : Str → Str → Bool) (l : List Str) : ∀ g ∈ lst e l, g ≠ [] := by
  have : ∀ n, n ≤ l.length → ∀ g ∈ lst e (l.take n), g ≠ [] := by
    intro n
    induction n with
    | zero => intro _; simp [lst]
    | succ n ih =>
      intro h
      have e1 := List.getElem?_eq_getElem (show n < l.length by omega)
      rw [tk_snoc e1, lst_snoc]
      exact ins_ne e _ _ (ih (by omega))
  have h := this l.length (Nat.le_refl _)
  rw [List.take_length] at h
  exact h
theorem lst_cong {e e' : Str → Str → Bool} {l : List Str} (h : ∀ x ∈ l, ∀ y ∈ l, e x y = e' x y) : lst e l = lst e' l := by
  have : ∀ n, n ≤ l.length → lst e (l.take n) = lst e' (l.take n) := by
    intro n
    induction n with
    | zero => intro _; rfl
    | succ n ih =>
      intro hn
      have e1 := List.getElem?_eq_getElem (show n < l.length by omega)
      rw [tk_snoc e1, lst_snoc, lst_snoc, ih (by omega)]
      exact ins_cong fun y m => h y (List.mem_of_mem_take ((lst_flat e' _).mem_iff.mp m)) _ (List.getElem_mem _)
  have h := this l.length (Nat.le_refl _)
  rw [List.take_length] at h
  exact h
abbrev eF (f : Str → Str) (y x : Str) : Bool := decide (f y = f x)
/-- groups by their names -/
def KF (f : Str → Str) : List Str → List (List Str) → Prop
  | [], [] => True
  | k :: ks, g :: gs => g ≠ [] ∧ (∀ y ∈ g, f y = k) ∧ k ∉ ks ∧ KF f ks gs
  | _, _ => False
theorem KF.len {f : Str → Str} : ∀ {ks : List Str} {gs : List (List Str)}, KF f ks gs → gs.length = ks.length
  | [], [], _ => rfl
  | k :: ks, g :: gs, h => by rw [List.length_cons, List.length_cons, KF.len h.2.2.2]
  | [], _ :: _, h => h.elim
  | _ :: _, [], h => h.elim
theorem KF.nd {f : Str → Str} : ∀ {ks : List Str} {gs : List (List Str)}, KF f ks gs → ks.Nodup
  | [], [], _ => List.nodup_nil
  | k :: ks, g :: gs, h => List.nodup_cons.mpr ⟨h.2.2.1, KF.nd h.2.2.2⟩
  | [], _ :: _, h => h.elim
  | _ :: _, [], h => h.elim
theorem KF.at {f : Str → Str} : ∀ {ks : List Str} {gs : List (List Str)} {i : Nat} {g : List Str}, KF f ks gs → gs[i]? = some g → ∃ k, ks[i]? = some k ∧ g ≠ [] ∧ ∀ y ∈ g, f y = k
  | [], [], i, g, _, e => by simp at e
  | k :: ks, h :: gs, 0, g, q, e => by
    have e' : h = g := by simpa using e
    subst e'
    exact ⟨k, rfl, q.1, q.2.1⟩
  | k :: ks, h :: gs, i + 1, g, q, e => by
    obtain ⟨k', a, b⟩ := KF.at (i := i) q.2.2.2 (by simpa using e)
    exact ⟨k', by simpa using a, b⟩
  | [], _ :: _, _, _, h, _ => h.elim
  | _ :: _, [], _, _, h, _ => h.elim
theorem KF.ins {f : Str → Str} {x : Str} : ∀ {ks : List Str} {gs : List (List Str)}, KF f ks gs →
    (∃ (i : Nat) (g : List Str), ks[i]? = some (f x) ∧ gs[i]? = some g ∧ Nt.ins (eF f) gs x = gs.set i (g ++ [x]) ∧ KF f ks (Nt.ins (eF f) gs x)) ∨
      (f x ∉ ks ∧ Nt.ins (eF f) gs x = gs ++ [[x]] ∧ KF f (ks ++ [f x]) (Nt.ins (eF f) gs x))
  | [], [], _ => .inr ⟨by simp, rfl, by
      show KF f [f x] [[x]]
      exact ⟨by simp, by simp, by simp, trivial⟩⟩
  | k :: ks, g :: gs, h => by
    obtain ⟨h1, h2, h3, h4⟩ := h
    by_cases q : k = f x
    · have c : (g.any fun y => eF f y x) = true := by
        obtain ⟨y, hy⟩ := List.exists_mem_of_ne_nil g h1
        exact List.any_eq_true.mpr ⟨y, hy, by simp [eF, h2 y hy, q]⟩
      have e : Nt.ins (eF f) (g :: gs) x = (g ++ [x]) :: gs := by
        rw [Nt.ins, if_pos c]
      refine .inl ⟨0, g, by simp [q], rfl, by rw [e]; rfl, ?_⟩
      rw [e]
      refine ⟨by simp, fun y hy => ?_, h3, h4⟩
      rcases List.mem_append.mp hy with z | z
      · exact h2 y z
      · rw [List.mem_singleton.mp z, q]
    · have c : ¬ (g.any fun y => eF f y x) = true := by
        intro c
        obtain ⟨y, hy, e⟩ := List.any_eq_true.mp c
        have e' : f y = f x := by simpa [eF] using e
        exact q (by rw [← e', h2 y hy])
      have e : Nt.ins (eF f) (g :: gs) x = g :: Nt.ins (eF f) gs x := by
        rw [Nt.ins, if_neg c]
      rcases KF.ins (x := x) h4 with ⟨i, g', a1, a2, a3, a4⟩ | ⟨a1, a2, a3⟩
      · refine .inl ⟨i + 1, g', by simpa using a1, by simpa using a2, by rw [e, a3]; rfl, ?_⟩
        rw [e]
        exact ⟨h1, h2, h3, a4⟩
      · refine .inr ⟨fun z => ?_, by rw [e, a2]; rfl, ?_⟩
        · rcases List.mem_cons.mp z with z | z
          · exact q z.symm
          · exact a1 z
        · rw [e]
          refine ⟨h1, h2, fun z => ?_, a3⟩
          rcases List.mem_append.mp z with z | z
          · exact h3 z
          · exact q (List.mem_singleton.mp z)
  | [], _ :: _, h => h.elim
  | _ :: _, [], h => h.elim
theorem lst_kf (f : Str → Str) (l : List Str) : ∃ ks, KF f ks (lst (eF f) l) := by
  have : ∀ n, n ≤ l.length → ∃ ks, KF f ks (lst (eF f) (l.take n)) := by
    intro n
    induction n with
    | zero => intro _; exact ⟨[], trivial⟩
    | succ n ih =>
      intro h
      have e1 := List.getElem?_eq_getElem (show n < l.length by omega)
      obtain ⟨ks, hk⟩ := ih (by omega)
      rw [tk_snoc e1, lst_snoc]
      rcases hk.ins (x := l[n]) with ⟨_, _, _, _, _, a⟩ | ⟨_, _, a⟩
      · exact ⟨_, a⟩
      · exact ⟨_, a⟩
  have h := this l.length (Nat.le_refl _)
  rw [List.take_length] at h
  exact h
/-- two rows stand in one group just if they have one name -/
theorem lst_grp (f : Str → Str) (l : List Str) : (∀ g ∈ lst (eF f) l, ∀ x ∈ g, ∀ y ∈ g, f x = f y) ∧ ∀ g ∈ lst (eF f) l, ∀ x ∈ g, ∀ y ∈ l, f x = f y → y ∈ g := by
  obtain ⟨ks, hk⟩ := lst_kf f l
  constructor
  · intro g hg x hx y hy
    obtain ⟨i, hi⟩ := List.getElem?_of_mem hg
    obtain ⟨k, _, _, h⟩ := hk.at hi
    rw [h x hx, h y hy]
  · intro g hg x hx y hy e
    obtain ⟨i, hi⟩ := List.getElem?_of_mem hg
    obtain ⟨k, hki, _, h⟩ := hk.at hi
    obtain ⟨g', hg', hy'⟩ := List.mem_flatten.mp ((lst_flat (eF f) l).mem_iff.mpr hy)
    obtain ⟨j, hj⟩ := List.getElem?_of_mem hg'
    obtain ⟨k', hkj, _, h'⟩ := hk.at hj
    have ek : k = k' := by rw [← h x hx, e, h' y hy']
    subst ek
    obtain ⟨l1, e1⟩ := List.getElem?_eq_some_iff.mp hki
    obtain ⟨l2, e2⟩ := List.getElem?_eq_some_iff.mp hkj
    have ij : i = j := by
      have pw := List.pairwise_iff_getElem.mp hk.nd
      rcases Nat.lt_trichotomy i j with t | t | t
      · exact absurd (e1.trans e2.symm) (pw i j l1 l2 t)
      · exact t
      · exact absurd (e2.trans e1.symm) (pw j i l2 l1 t)
    subst ij
    rw [hi] at hj
    cases hj
    exact hy'
theorem lst_ones {f : Str → Str} {l : List Str} (nd : l.Nodup) (h : ∀ x ∈ l, ∀ y ∈ l, f x = f y → x = y) : lst (eF f) l = l.map fun x => [x] := by
  have : ∀ n, n ≤ l.length → lst (eF f) (l.take n) = (l.take n).map fun x => [x] := by
    intro n
    induction n with
    | zero => intro _; rfl
    | succ n ih =>
      intro hn
      have e1 := List.getElem?_eq_getElem (show n < l.length by omega)
      rw [tk_snoc e1, lst_snoc, ih (by omega), List.map_append]
      have hm : ∀ y ∈ l.take n, f y ≠ f l[n] := fun y hy e => by
        have := h y (List.mem_of_mem_take hy) _ (List.getElem_mem _) e
        subst this
        have nd' := List.Sublist.nodup (List.take_sublist (n + 1) l) nd
        rw [tk_snoc e1, List.nodup_append] at nd'
        exact nd'.2.2 _ hy _ List.mem_cons_self rfl
      have key : ∀ m : List Str, (∀ y ∈ m, f y ≠ f l[n]) → ins (eF f) (m.map fun x => [x]) l[n] = (m.map fun x => [x]) ++ [[l[n]]] := by
        intro m
        induction m with
        | nil => intro _; rfl
        | cons a m ih2 =>
          intro hm
          rw [List.map_cons, ins, if_neg (by simp [eF, hm a List.mem_cons_self]), ih2 fun y hy => hm y (List.mem_cons_of_mem _ hy)]
          rfl
      exact key _ hm
  have h := this l.length (Nat.le_refl _)
  rw [List.take_length] at h
  exact h
/-! ### names that stand for their rows -/
structure Nm (full : List Str) (f : Str → Str) : Prop where
  inn : ∀ x ∈ full, f x ∈ full
  idm : ∀ x ∈ full, f (f x) = f x
def fixN (full : List Str) (f : Str → Str) : Nat := (full.filter fun x => decide (f x = x)).length
theorem fixN_le (full : List Str) (f : Str → Str) : fixN full f ≤ full.length := List.length_filter_le _ _
theorem eq_on (full : List Str) (f : Str → Str) : EqvOn full fun x y => f x = f y := ⟨fun _ _ => rfl, fun _ _ h => h.symm, fun _ _ _ a b => a.trans b⟩
section
variable {full : List Str} {f : Str → Str} {fresh gone : Str}
/-- gone is called fresh from now on -/
abbrev ren (f : Str → Str) (fresh gone : Str) : Str → Str := fun x => if f x = gone then fresh else f x
theorem Nm.ren (h : Nm full f) {p q : Str} (hp : p ∈ full) (ne : f p ≠ f q) : Nm full (ren f (f p) (f q)) := by
  refine ⟨fun x hx => ?_, fun x hx => ?_⟩
  · show (if f x = f q then f p else f x) ∈ full
    split
    · exact h.inn p hp
    · exact h.inn x hx
  · show (if f (if f x = f q then f p else f x) = f q then f p else f (if f x = f q then f p else f x)) = if f x = f q then f p else f x
    by_cases c : f x = f q
    · rw [if_pos c, h.idm p hp, if_neg ne]
    · rw [if_neg c, h.idm x hx, if_neg c]
theorem filt_less {α : Type} {p q : α → Bool} (hpq : ∀ x, p x = true → q x = true) : ∀ {l : List α} {a : α}, a ∈ l → q a = true → p a = false → (l.filter p).length < (l.filter q).length
  | [], a, h, _, _ => by cases h
  | b :: l, a, h, hq, hp => by
    have mono : ∀ l : List α, (l.filter p).length ≤ (l.filter q).length := by
      intro l
      induction l with
      | nil => exact Nat.le_refl _
      | cons c l ih =>
        rw [List.filter_cons, List.filter_cons]
        cases e : p c with
        | true => rw [hpq c e, if_pos rfl, if_pos rfl, List.length_cons, List.length_cons]; omega
        | false =>
          rw [if_neg Bool.false_ne_true]
          cases q c
          · rw [if_neg Bool.false_ne_true]; exact ih
          · rw [if_pos rfl, List.length_cons]; omega
    rw [List.filter_cons, List.filter_cons]
    rcases List.mem_cons.mp h with z | z
    · subst z
      rw [hp, hq, if_neg Bool.false_ne_true, if_pos rfl, List.length_cons]
      have := mono l
      omega
    · have ih := filt_less hpq z hq hp
      cases e : p b with
      | true => rw [hpq b e, if_pos rfl, if_pos rfl, List.length_cons, List.length_cons]; omega
      | false =>
        rw [if_neg Bool.false_ne_true]
        cases q b
        · rw [if_neg Bool.false_ne_true]; exact ih
        · rw [if_pos rfl, List.length_cons]; omega
theorem filt_lessOn {l : List Str} {p q : Str → Bool} (hpq : ∀ x ∈ l, p x = true → q x = true) {a : Str} (h : a ∈ l) (hq : q a = true) (hp : p a = false) : (l.filter p).length < (l.filter q).length := by
  have e : l.filter p = l.filter fun x => p x && q x := List.filter_congr fun x hx => by
    cases z : p x with
    | true => rw [hpq x hx z]; rfl
    | false => rfl
  rw [e]
  exact filt_less (fun x hx => (Bool.and_eq_true_iff.mp hx).2) h hq (by rw [hp]; rfl)
theorem Nm.fix (h : Nm full f) {p q : Str} (hp : p ∈ full) (hq : q ∈ full) (ne : f p ≠ f q) : fixN full (Nt.ren f (f p) (f q)) < fixN full f := by
  refine filt_lessOn (a := f q) (fun x hx e => ?_) (h.inn q hq) (by simp [h.idm q hq]) ?_
  · have e' : (if f x = f q then f p else f x) = x := of_decide_eq_true e
    by_cases c : f x = f q
    · rw [if_pos c] at e'
      rw [← e', h.idm p hp] at c
      exact absurd c ne
    · rw [if_neg c] at e'
      exact decide_eq_true e'
  · have : (if f (f q) = f q then f p else f (f q)) = f p := if_pos (h.idm q hq)
    exact decide_eq_false fun z => ne (this.symm.trans z)
end
end Nt
/-! Forests: rows that point to lesser rows. -/
namespace Nt
open PySem PySem.Spec PyProof.Rows L2
inductive Up (f : Str → Str) : Str → Str → Prop
  | here {x : Str} : f x = x → Up f x x
  | step {x r : Str} : f x ≠ x → Up f (f x) r → Up f x r
structure Frs (full : List Str) (f : Str → Str) : Prop where
  inn : ∀ x ∈ full, f x ∈ full
  dn : ∀ x ∈ full, f x = x ∨ Lt (f x) x
def cnt (full : List Str) (x : Str) : Nat := (full.filter fun y => decide (Lt y x)).length
theorem cnt_lt {full : List Str} {x y : Str} (hy : y ∈ full) (h : Lt y x) : cnt full y < cnt full x :=
  filt_lessOn (a := y) (fun z _ e => decide_eq_true (Lt.trans (of_decide_eq_true e) h)) hy (decide_eq_true h) (decide_eq_false (Lt.irrefl y))
theorem cnt_le (full : List Str) (x : Str) : cnt full x ≤ full.length := List.length_filter_le _ _
section
variable {full : List Str} {f : Str → Str} {x y r s : Str}
theorem Up.root (h : Up f x r) : f r = r := by
  induction h with
  | here e => exact e
  | step _ _ ih => exact ih
theorem Up.det (h : Up f x r) : ∀ {s}, Up f x s → r = s := by
  induction h with
  | here e =>
    intro s g
    cases g with
    | here _ => rfl
    | step n _ => exact absurd e n
  | step n _ ih =>
    intro s g
    cases g with
    | here e => exact absurd e n
    | step _ g => exact ih g
theorem Up.mem (F : Frs full f) (h : Up f x r) (hx : x ∈ full) : r ∈ full := by
  induction h with
  | here _ => exact hx
  | step _ _ ih => exact ih (F.inn _ hx)
theorem Up.le (F : Frs full f) (h : Up f x r) (hx : x ∈ full) : r = x ∨ Lt r x := by
  induction h with
  | here _ => exact .inl rfl
  | step n _ ih =>
    rename_i a b c
    have d : Lt (f a) a := (F.dn _ hx).resolve_left n
    rcases ih (F.inn _ hx) with e | e
    · exact .inr (e ▸ d)
    · exact .inr (e.trans d)
theorem Up.ex (F : Frs full f) : ∀ (n : Nat) (x : Str), cnt full x ≤ n → x ∈ full → ∃ r, Up f x r
  | n, x, hn, hx => by
    rcases F.dn x hx with e | e
    · exact ⟨x, .here e⟩
    · have ne : f x ≠ x := fun z => Lt.irrefl x (by rw [z] at e; exact e)
      have := cnt_lt (F.inn x hx) e
      match n, hn with
      | 0, hn => omega
      | n + 1, hn =>
        obtain ⟨r, h⟩ := Up.ex F n (f x) (by omega) (F.inn x hx)
        exact ⟨r, .step ne h⟩
theorem Up.ex' (F : Frs full f) (hx : x ∈ full) : ∃ r, Up f x r := Up.ex F _ x (Nat.le_refl _) hx
/-- two rows with one root -/
def Jn (f : Str → Str) (x y : Str) : Prop := ∃ r, Up f x r ∧ Up f y r
theorem Jn.on (F : Frs full f) : EqvOn full (Jn f) := by
  refine ⟨fun x hx => ?_, fun _ _ ⟨r, a, b⟩ => ⟨r, b, a⟩, fun _ _ _ ⟨r, a, b⟩ ⟨s, c, d⟩ => ⟨r, a, by rw [b.det c]; exact d⟩⟩
  obtain ⟨r, h⟩ := Up.ex' F hx
  exact ⟨r, h, h⟩
/-- names that stand for roots -/
theorem Frs.names (F : Frs full f) : ∃ N : Str → Str, ∀ x ∈ full, Up f x (N x) := by
  have : ∀ x, ∃ r, x ∈ full → Up f x r := fun x => by
    by_cases h : x ∈ full
    · obtain ⟨r, q⟩ := Up.ex' F h
      exact ⟨r, fun _ => q⟩
    · exact ⟨x, fun z => absurd z h⟩
  exact ⟨fun x => Classical.choose (this x), fun x hx => Classical.choose_spec (this x) hx⟩
abbrev put1 (f : Str → Str) (a b : Str) : Str → Str := fun x => if x = a then b else f x
theorem put1_at {a b : Str} : put1 f a b a = b := if_pos rfl
theorem put1_ne {a b c : Str} (h : c ≠ a) : put1 f a b c = f c := if_neg h
/-- a way is shortened -/
theorem Up.short (hx : f x ≠ x) (h : Up f x r) (g : Up f y s) : Up (put1 f x r) y s := by
  have hr := h.root
  have hrx : r ≠ x := fun z => hx (by rw [z] at hr; exact hr)
  induction g with
  | here e =>
    rename_i a
    have ne : a ≠ x := fun z => hx (by rw [z] at e; exact e)
    exact .here (by rw [put1_ne ne]; exact e)
  | step n g ih =>
    rename_i a b
    by_cases q : a = x
    · subst q
      have e : b = r := (Up.step n g).det h
      subst e
      exact .step (by rw [put1_at]; exact hrx) (by rw [put1_at]; exact .here (by rw [put1_ne hrx]; exact hr))
    · exact .step (by rw [put1_ne q]; exact n) (by rw [put1_ne q]; exact ih)
theorem Frs.short (F : Frs full f) (hx : x ∈ full) (h : Up f x r) : Frs full (put1 f x r) := by
  refine ⟨fun y hy => ?_, fun y hy => ?_⟩
  · by_cases q : y = x
    · rw [q, put1_at]; exact h.mem F hx
    · rw [put1_ne q]; exact F.inn y hy
  · by_cases q : y = x
    · subst q
      rw [put1_at]
      exact h.le F hy
    · rw [put1_ne q]; exact F.dn y hy
theorem Up.short' (F : Frs full f) (hx : x ∈ full) (nx : f x ≠ x) (h : Up f x r) (hy : y ∈ full) : Up f y s ↔ Up (put1 f x r) y s := by
  refine ⟨fun g => h.short nx g, fun g => ?_⟩
  obtain ⟨t, ht⟩ := Up.ex' F hy
  have := (h.short nx ht).det g
  rw [← this]
  exact ht
theorem fix_short (nx : f x ≠ x) (h : Up f x r) : fixN full (put1 f x r) = fixN full f := by
  have hrx : r ≠ x := fun z => nx (by have := h.root; rw [z] at this; exact this)
  unfold fixN
  refine congrArg List.length (List.filter_congr fun y _ => ?_)
  by_cases q : y = x
  · subst q
    rw [put1_at, decide_eq_false hrx, decide_eq_false nx]
  · rw [put1_ne q]
section
variable {mx mn : Str} (hmx : f mx = mx) (hmn : f mn = mn) (lt : Lt mn mx)
include hmx hmn lt
/-- a root is put below another one -/
theorem Up.union (g : Up f y s) : Up (put1 f mx mn) y (if s = mx then mn else s) := by
  have ne : mn ≠ mx := fun z => Lt.irrefl mx (z ▸ lt)
  have hm : Up (put1 f mx mn) mn mn := .here (by rw [put1_ne ne]; exact hmn)
  induction g with
  | here e =>
    rename_i a
    by_cases q : a = mx
    · subst q
      rw [if_pos rfl]
      exact .step (by rw [put1_at]; exact ne) (by rw [put1_at]; exact hm)
    · rw [if_neg q]
      exact .here (by rw [put1_ne q]; exact e)
  | step n g' ih =>
    rename_i a b
    have q : a ≠ mx := fun z => n (by rw [z]; exact hmx)
    exact .step (by rw [put1_ne q]; exact n) (by rw [put1_ne q]; exact ih)
theorem Frs.union (F : Frs full f) (h : mn ∈ full) : Frs full (put1 f mx mn) := by
  refine ⟨fun y hy => ?_, fun y hy => ?_⟩
  · by_cases q : y = mx
    · rw [q, put1_at]; exact h
    · rw [put1_ne q]; exact F.inn y hy
  · by_cases q : y = mx
    · subst q
      rw [put1_at]
      exact .inr lt
    · rw [put1_ne q]; exact F.dn y hy
theorem fix_union (h : mx ∈ full) : fixN full (put1 f mx mn) < fixN full f := by
  have ne : mn ≠ mx := fun z => Lt.irrefl mx (z ▸ lt)
  refine filt_lessOn (a := mx) (fun x _ e => ?_) h (decide_eq_true hmx) (decide_eq_false (by rw [put1_at]; exact ne))
  have e' : put1 f mx mn x = x := of_decide_eq_true e
  by_cases q : x = mx
  · subst q
    rw [put1_at] at e'
    exact absurd e' ne
  · rw [put1_ne q] at e'
    exact decide_eq_true e'
/-- what it joins -/
theorem Jn.union (F : Frs full f) (h : mn ∈ full) {p : Str × Str} (hp : (Up f p.1 mx ∧ Up f p.2 mn) ∨ (Up f p.1 mn ∧ Up f p.2 mx)) :
    (∀ x ∈ full, ∀ y ∈ full, Jn f x y → Jn (put1 f mx mn) x y) ∧ Jn (put1 f mx mn) p.1 p.2 ∧ ∀ x ∈ full, ∀ y ∈ full, Jn (put1 f mx mn) x y → (p.1 ∈ full) → (p.2 ∈ full) → Gn full (Jn f) [p] x y := by
  have ne : mn ≠ mx := fun z => Lt.irrefl mx (z ▸ lt)
  refine ⟨fun x _ y _ ⟨r, a, b⟩ => ⟨_, a.union hmx hmn lt, b.union hmx hmn lt⟩, ?_, ?_⟩
  · rcases hp with ⟨a, b⟩ | ⟨a, b⟩
    · have h1 := a.union hmx hmn lt
      have h2 := b.union hmx hmn lt
      rw [if_pos rfl] at h1
      rw [if_neg ne] at h2
      exact ⟨mn, h1, h2⟩
    · have h1 := a.union hmx hmn lt
      have h2 := b.union hmx hmn lt
      rw [if_neg ne] at h1
      rw [if_pos rfl] at h2
      exact ⟨mn, h1, h2⟩
  · rintro x hx y hy ⟨r, a, b⟩ hp1 hp2
    obtain ⟨s, hs⟩ := Up.ex' F hx
    obtain ⟨t, ht⟩ := Up.ex' F hy
    have e1 := (hs.union hmx hmn lt).det a
    have e2 := (ht.union hmx hmn lt).det b
    by_cases q : s = t
    · subst q
      exact .base hx hy ⟨s, hs, ht⟩
    · -- one root is mx, the other one mn
      have pq : Gn full (Jn f) [p] p.1 p.2 := .wait List.mem_cons_self
      have link : ∀ {x y : Str}, x ∈ full → y ∈ full → Up f x mx → Up f y mn → Gn full (Jn f) [p] x y := fun {x y} hx hy u v => by
        rcases hp with ⟨c, d⟩ | ⟨c, d⟩
        · exact (Gn.base hx hp1 ⟨mx, u, c⟩).trans (pq.trans (.base hp2 hy ⟨mn, d, v⟩))
        · exact (Gn.base hx hp2 ⟨mx, u, d⟩).trans (pq.symm.trans (.base hp1 hy ⟨mn, c, v⟩))
      by_cases c1 : s = mx
      · subst c1
        rw [if_pos rfl] at e1
        have c2 : t ≠ s := fun z => q z.symm
        rw [if_neg c2, ← e1] at e2
        subst e2
        exact link hx hy hs ht
      · rw [if_neg c1] at e1
        by_cases c2 : t = mx
        · subst c2
          rw [if_pos rfl, ← e1] at e2
          subst e2
          exact (link hy hx ht hs).symm
        · rw [if_neg c2, ← e1] at e2
          exact absurd e2.symm q
end
end
end Nt
/-! max, min of two texts; list.pop, list.reverse of a tracked list; calls that may raise. -/
namespace Nt
open PySem PySem.Spec PyProof.Rows L2
section
variable {prog : Program} {w : World} {A : Around} {E : Value → Shared → Prop} {s : Shared}
def txA (x y : Str) (t u : Tok) : Array Value := #[.str x t, .str y u]
def txV (x y : Str) (i : Nat) : Str := if i = 0 then x else y
theorem txA_at {x y : Str} {t u : Tok} {i : Nat} {v : Value} (h : (txA x y t u)[i]? = some v) : ∃ k, v = .str (txV x y i) k := by
  match i, h with
  | 0, h => exact ⟨t, (by simpa [txA, txV] using h.symm)⟩
  | 1, h => exact ⟨u, (by simpa [txA, txV] using h.symm)⟩
  | i + 2, h => simp [txA] at h
theorem cmp_gtS {P : Nat → Value → Prop} {val : Nat → Str} (hv : ∀ i v, P i v → ∃ t, v = .str (val i) t) : CmpOf prog w A .Gt P (fun i j => decide (Lt (val j) (val i))) := by
  intro i j vi vj s' Q' E' hi hj hq
  obtain ⟨t1, rfl⟩ := hv i vi hi
  obtain ⟨t2, rfl⟩ := hv j vj hj
  exact richCompare_gives (op := .Gt) (typeIs_str s' _ t1) (typeIs_str s' _ t2) F.slot_str_gt F.entry_str_gt (F.args_str_gt_2 _ _) (gives_str_gt _ _ t1 t2) (fun z => nomatch z) hq
theorem cmp_ltS {P : Nat → Value → Prop} {val : Nat → Str} (hv : ∀ i v, P i v → ∃ t, v = .str (val i) t) : CmpOf prog w A .Lt P (fun i j => decide (Lt (val i) (val j))) := by
  intro i j vi vj s' Q' E' hi hj hq
  obtain ⟨t1, rfl⟩ := hv i vi hi
  obtain ⟨t2, rfl⟩ := hv j vj hj
  exact richCompare_gives (op := .Lt) (typeIs_str s' _ t1) (typeIs_str s' _ t2) F.slot_str_lt F.entry_str_lt (F.args_str_lt_2 _ _) (gives_str_lt _ _ t1 t2) (fun z => nomatch z) hq
/-- the pair's tuple with its iterator: what stood before stands -/
theorem pairKept {x y : Str} {t u : Tok} {h' : Heap} {n1 : Obj}
    (hk : ∀ b o, b ∉ [s.heap.objs.size + 1] → ((s.heap.push { cls := .type "tuple", data := .seq (txA x y t u) }).push n1).get? b = some o → h'.get? b = some o) :
    ∀ b o, s.heap.get? b = some o → h'.get? b = some o := fun b o e => by
  refine hk b o (fun hm => ?_) (Heap.get?_push_of_some _ (Heap.get?_push_of_some _ e))
  have e1 := List.mem_singleton.mp hm
  have lt := Heap.lt_size e
  rw [e1] at lt
  exact absurd lt (Nat.not_lt_of_le (Nat.le_succ _))
theorem max2S {x y : Str} {t u : Tok} {Q : Value → Shared → Prop} (hh : A.handled = none)
    (h : ∀ h' tk k, (∀ b o, s.heap.get? b = some o → h'.get? b = some o) → Q (.str (if Lt x y then y else x) k) { s with heap := h', toks := tk }) :
    wpAny (model prog w) A (call (.builtin "max") [.str x t, .str y u]) Q E s := by
  have hT : (s.heap.push { cls := .type "tuple", data := .seq (txA x y t u) }).IsTuple s.heap.objs.size (txA x y t u) := ⟨_, Heap.get?_push_size _ rfl, rfl, 0, rfl⟩
  have sz : (s.heap.push { cls := .type "tuple", data := .seq #[.str x t, .str y u] }).objs.size = s.heap.objs.size + 1 := Heap.size_push ..
  refine call_max_two (wpAny_pyIter_tuple hT ?_)
  refine ⟨_, [_, s.heap.objs.size], [_], _, _, _, _, rfl, Walks.tuple (A := A.in1) hh _ s.heap.objs.size (by show s.heap.objs.size ≠ _; rw [sz]; exact Nat.ne_of_lt (Nat.lt_succ_self _)) (txA x y t u), ⟨⟨_, Heap.get?_push_size _ rfl, rfl, rfl⟩, hT.push _⟩, fun c hc => ?_, by simp [txA],
    cmp_gtS (val := txV x y) (fun _ _ => txA_at), fun v h' tk hP hk => ?_⟩
  · show c < ((s.heap.push _).push _).objs.size
    rw [Heap.size_push, sz]
    rcases List.mem_cons.mp hc with e | e
    · rw [e]
      show (s.heap.push _).objs.size < _
      rw [sz]; exact Nat.lt_succ_self _
    · rw [List.mem_singleton.mp e]; exact Nat.lt_succ_of_lt (Nat.lt_succ_self _)
  · change ∀ b o, b ∉ [(s.heap.push _).objs.size] → _ at hk
    rw [sz] at hk
    have P2 : (txA x y t u)[argBest (fun i j => decide (Lt (txV x y j) (txV x y i))) 1]? = some v := hP
    have hold := pairKept hk
    by_cases c : Lt x y
    · have e : argBest (fun i j => decide (Lt (txV x y j) (txV x y i))) 1 = 1 := by simp only [argBest, txV]; simp [c]
      rw [e] at P2
      have ev : v = .str y u := by simpa [txA] using P2.symm
      have := h h' tk u hold
      rw [if_pos c] at this
      rw [ev]; exact this
    · have e : argBest (fun i j => decide (Lt (txV x y j) (txV x y i))) 1 = 0 := by simp only [argBest, txV]; simp [c]
      rw [e] at P2
      have ev : v = .str x t := by simpa [txA] using P2.symm
      have := h h' tk t hold
      rw [if_neg c] at this
      rw [ev]; exact this
theorem min2S {x y : Str} {t u : Tok} {Q : Value → Shared → Prop} (hh : A.handled = none)
    (h : ∀ h' tk k, (∀ b o, s.heap.get? b = some o → h'.get? b = some o) → Q (.str (if Lt y x then y else x) k) { s with heap := h', toks := tk }) :
    wpAny (model prog w) A (call (.builtin "min") [.str x t, .str y u]) Q E s := by
  have hT : (s.heap.push { cls := .type "tuple", data := .seq (txA x y t u) }).IsTuple s.heap.objs.size (txA x y t u) := ⟨_, Heap.get?_push_size _ rfl, rfl, 0, rfl⟩
  have sz : (s.heap.push { cls := .type "tuple", data := .seq #[.str x t, .str y u] }).objs.size = s.heap.objs.size + 1 := Heap.size_push ..
  refine call_min_two (wpAny_pyIter_tuple hT ?_)
  refine ⟨_, [_, s.heap.objs.size], [_], _, _, _, _, rfl, Walks.tuple (A := A.in1) hh _ s.heap.objs.size (by show s.heap.objs.size ≠ _; rw [sz]; exact Nat.ne_of_lt (Nat.lt_succ_self _)) (txA x y t u), ⟨⟨_, Heap.get?_push_size _ rfl, rfl, rfl⟩, hT.push _⟩, fun c hc => ?_, by simp [txA],
    cmp_ltS (val := txV x y) (fun _ _ => txA_at), fun v h' tk hP hk => ?_⟩
  · show c < ((s.heap.push _).push _).objs.size
    rw [Heap.size_push, sz]
    rcases List.mem_cons.mp hc with e | e
    · rw [e]
      show (s.heap.push _).objs.size < _
      rw [sz]; exact Nat.lt_succ_self _
    · rw [List.mem_singleton.mp e]; exact Nat.lt_succ_of_lt (Nat.lt_succ_self _)
  · change ∀ b o, b ∉ [(s.heap.push _).objs.size] → _ at hk
    rw [sz] at hk
    have P2 : (txA x y t u)[argBest (fun i j => decide (Lt (txV x y i) (txV x y j))) 1]? = some v := hP
    have hold := pairKept hk
    by_cases c : Lt y x
    · have e : argBest (fun i j => decide (Lt (txV x y i) (txV x y j))) 1 = 1 := by simp only [argBest, txV]; simp [c]
      rw [e] at P2
      have ev : v = .str y u := by simpa [txA] using P2.symm
      have := h h' tk u hold
      rw [if_pos c] at this
      rw [ev]; exact this
    · have e : argBest (fun i j => decide (Lt (txV x y i) (txV x y j))) 1 = 0 := by simp only [argBest, txV]; simp [c]
      rw [e] at P2
      have ev : v = .str x t := by simpa [txA] using P2.symm
      have := h h' tk t hold
      rw [if_neg c] at this
      rw [ev]; exact this
end
section
variable {X : Cx}
def qMax2 : List V → Hp → VK → Prop := fun vs H Q => ∃ x y : Str, vs = [.str x, .str y] ∧ Q (.str (if Lt x y then y else x)) H
def qMin2 : List V → Hp → VK → Prop := fun vs H Q => ∃ x y : Str, vs = [.str x, .str y] ∧ Q (.str (if Lt y x then y else x)) H
theorem cq_max2S (hc : X.calm = true) : CallR X (.builtin "max") qMax2 := by
  intro pins s σ H vs us Q I r h
  obtain ⟨x, y, rfl, q⟩ := h
  obtain ⟨u, v, rfl, ⟨t, rfl⟩, ⟨t', rfl⟩⟩ := vals2 r
  exact max2S (I.ok.hd hc) fun h' tk k hk => ⟨.str _, H, I.kept hk, ⟨k, rfl⟩, q⟩
theorem cq_min2S (hc : X.calm = true) : CallR X (.builtin "min") qMin2 := by
  intro pins s σ H vs us Q I r h
  obtain ⟨x, y, rfl, q⟩ := h
  obtain ⟨u, v, rfl, ⟨t, rfl⟩, ⟨t', rfl⟩⟩ := vals2 r
  exact min2S (I.ok.hd hc) fun h' tk k hk => ⟨.str _, H, I.kept hk, ⟨k, rfl⟩, q⟩
/-! methods without arguments, of a tracked list -/
def qBM0 (r : V → List V → Hp → VK → Prop) (to : TE) : TE := fun σ H Q => to σ H fun x H1 => (∃ p xs, x = .ref p ∧ H1 p = some (.lst xs)) ∧ r x [] H1 Q
theorem eq_bm0 {o : Expr} {to : TE} {name : Str} {apos cpos : Pos} {id : String} {r : V → List V → Hp → VK → Prop} (slot : Slot "list" name id) (hty : typeOf (.builtin id) = pure (.type "method_descriptor")) (hm : MtR X id r) (ho : PE X o to)
    (hbase : attributeBase o name X.env (eval o X.env) = eval o X.env := by rfl) (hline : (apos.endLine == cpos.line) = true := by rfl) : PE X (.Call (.Attribute o name apos) [] [] cpos) (qBM0 r to) := by
  refine ⟨fun pins s σ H Q I h => ?_⟩
  refine wpAny_Call_method0_late hbase hline (thn (ho.run pins s σ H _ I h) fun v s1 hh => ?_)
  obtain ⟨x, H1, I1, r1, ⟨p, xs, ep, hp⟩, q1⟩ := hh
  have ty' : tyV X.K "list" x H1 := by rw [ep]; exact .inl ⟨rfl, xs, SqL.of hp⟩
  obtain ⟨h1, h2⟩ := tyV_is I1 r1 ty'
  exact ⟨"list", id, PySem.F.plainAttrs_list, slot, hty, h1, h2, Calls.callWith_builtin rfl (PySem.evalArgs_none (hm pins s1 σ H1 x [] v [] Q I1 r1 .nil q1))⟩
/-! calls of defs that may raise -/
variable {k : Nat} {f C : Addr} {ps : List Str} {sp : Sp} {x m : Str} {p pos apos : Pos} {e o : Expr} {es : List Expr} {t : TA} {ta : TE}
/-- where it does not raise -/
theorem pe_goodL (g : Good X.prog X.w X.K X.mg X.base (L2.CX X.prog X.w) k f ps sp) (hr : Room k X.A) (hg : Gl X x) (hm : X.mg x = some (.ref f)) (ha : PA X (e :: es) t)
    (hdb : (x == ("__debug__" : Str)) = false := by decide) (he : starEach (e :: es) X.env = (false, eval e X.env) :: starEach es X.env := by rfl) (hpl : (backTo pos (starEach es X.env)).any (·.1) = false := by rfl) :
    PE X (.Call (.Name x p) (e :: es) [] pos) (tCall sp [] E0 t) := by
  obtain ⟨⟨fd, F, b⟩, kp⟩ := g
  exact pe_call F hr hg hm kp b .nil passL ha hdb he hpl
/-- what it raises leaves the caller too -/
theorem pe_goodP {E : XK} (g : Good X.prog X.w X.K X.mg X.base (L2.CX X.prog X.w) k f ps sp) (hr : Room k X.A) (hg : Gl X x) (hm : X.mg x = some (.ref f)) (hx : Passes (L2.CX X.prog X.w) X E) (ha : PA X (e :: es) t)
    (hdb : (x == ("__debug__" : Str)) = false := by decide) (he : starEach (e :: es) X.env = (false, eval e X.env) :: starEach es X.env := by rfl) (hpl : (backTo pos (starEach es X.env)).any (·.1) = false := by rfl) :
    PE X (.Call (.Name x p) (e :: es) [] pos) (tCall sp [] E t) := by
  obtain ⟨⟨fd, F, b⟩, kp⟩ := g
  exact pe_call F hr hg hm kp b .nil hx ha hdb he hpl
end
section
variable {σ : L2.St} {H : Hp} {Q : VK} {to : TE}
theorem w_bm0 {r : V → List V → Hp → VK → Prop} (k : to σ H fun x H1 => (∃ p xs, x = .ref p ∧ H1 p = some (.lst xs)) ∧ r x [] H1 Q) : qBM0 r to σ H Q := k
end
/-- {(..): v}, one pair, a tuple for a key -/
def tDispT (trs : List (TE × TE)) : TE := fun σ H Q => ∀ p, H p = none → tPairs trs σ (upd H p (.dT [])) fun ps H2 => H2 p = some (.dT []) ∧ ∃ (c : Addr) (k : List L2.Key) (x : V), ps = [(.ref c, x)] ∧ H2 c = some (.tup (k.map kV)) ∧ Q (.ref p) (upd H2 p (.dT [(k, x)]))
theorem pe_dispT {X : Cx} {pos : Pos} {keys : List (Option Expr)} {values : List Expr} {trs : List (TE × TE)} (hu : X.A.units + 1 < cLine) (h : PPs X pos keys values trs) (hall : keys.all (·.isSome) = true) (hl : keys.length = values.length) (h0 : keys ≠ [])
    (h15 : keys.length ≤ 15) : PE X (.Dict keys values pos) (tDispT trs) := by
  refine ⟨fun pins s σ H Q I q => ?_⟩
  have hn := I.hok.fresh (Nat.le_refl s.heap.objs.size)
  have I1 := I.laid (a := s.heap.objs.size) (o := .dT []) (h' := s.heap.push { cls := .type "dict", data := .dict #[] }) (t' := s.toks) (fun _ _ q => Heap.get?_push_of_some _ q) (Nat.le_refl _) (dt_empty s.heap I.big)
  refine wpAny_Dict_any hall hl h0 h15 (thn (h.run pins _ σ _ _ I1 (q _ hn)) fun ws s2 ⟨ps, H2, I2, rel, e, c, k, x, ep, eb, q2⟩ => ?_)
  subst ep
  cases rel with
  | @cons _ b _ bs r1 t =>
  cases t
  obtain ⟨b1, b2⟩ := b
  cases (show b1 = Value.ref c from r1.1)
  obtain ⟨z, hd, xs, rel, dd⟩ := dt_of I2.hok e
  have hz : xs.length ≤ sizeLine := by rw [← Paired.length rel]; exact z
  unfold storeAll
  rw [List.forIn_cons]
  refine wpAny_bind (wpAny_bind (wpAny_dictSet_heap (knd := tupleKind (mixKind X.prog X.w)) (hsz := hz) (show X.A.units < cLine from Nat.lt_of_succ_lt hu) (key_of I2.hok eb) dd fun h' dd' hs => wpAny_pure ?_))
  simp only [List.forIn_nil]
  refine wpAny_pure ?_
  obtain ⟨q, es, ep, hq, h2, h3, h4, _, h5⟩ := dd'
  refine ⟨.ref s.heap.objs.size, _, d_write (ob := .dT [(k, x)]) I2 (by rw [e]; exact True.intro) hs ⟨q, hq⟩ ⟨by rw [sizeLine_eq]; show 1 ≤ _; omega, hd, _, ((rel.put k eb r1.2)).keeps fun c ys ec => ?_, q, es, ep, hq, h2, h3, h4, h5⟩, rfl, q2⟩
  rw [upd_ne (ne_of ec e (fun z => nomatch z))]
  exact ec
end Nt
/-! groups in a dict of lists that grow, told to the row. -/
namespace Nt
open PySem PySem.Spec PyProof.Rows L2
structure GrF (f : Str → Str) (H0 M H : Hp) (d : Addr) (ks : List Str) (rs : List Addr) (gs : List (List Str)) : Prop where
  dk : H d = some (.dK (zk ks rs))
  hl : rs.length = ks.length
  ol : OL H0 M H rs gs
  dr : d ∉ rs
  md : M d = none
  kf : KF f ks gs
section
variable {f : Str → Str} {H0 M M' H H' : Hp} {d : Addr} {ks : List Str} {rs : List Addr} {gs : List (List Str)}
theorem GrF.step (g : GrF f H0 M H d ks rs gs) (h : ∀ a, a = d ∨ a ∈ rs → ∀ o, M a = none → H a = some o → M' a = none ∧ H' a = some o) : GrF f H0 M' H' d ks rs gs :=
  ⟨(h d (.inl rfl) _ g.md g.dk).2, g.hl, g.ol.step fun a ha o m e => h a (.inr ha) o m e, g.dr, (h d (.inl rfl) _ g.md g.dk).1, g.kf⟩
theorem GrF.stp (g : GrF f H0 M H d ks rs gs) (S : Stp no M H M' H') : GrF f H0 M' H' d ks rs gs := g.step fun a _ o m e => S.keep m e
/-- found.setdefault(f r, []), to which r is appended -/
theorem GrF.setd {M0 : Hp} {p : Addr} {r : Str} {Q : VK} (G : GrF f H0 M H d ks rs gs) (S : Stp no M0 H0 M H) (hd : H0 d = none) (hp : H p = none) (hk : ks.length ≤ 100000) (hg : ∀ g ∈ gs, g.length ≤ 100000)
    (k : ∀ (a : Addr) (H4 : Hp) (g : List Str), Stp no M0 H0 M H4 → H4 a = some (.lst (g.map V.str)) → g.length ≤ 100000 → (∀ x o, x ≠ d → H x = some o → H4 x = some o) →
      (∃ (ks' : List Str) (rs' : List Addr), Stp no M0 H0 M (upd H4 a (.lst ((g ++ [r]).map V.str))) ∧ GrF f H0 M (upd H4 a (.lst ((g ++ [r]).map V.str))) d ks' rs' (ins (eF f) gs r) ∧ ks'.length ≤ ks.length + 1) → Q (.ref a) H4) :
    ∃ (kvs : List (L2.Key × V)) (k' : L2.Key), upd H p (.lst []) d = some (.dK kvs) ∧ V.str (f r) = kV k' ∧ kvs.length < sizeLine ∧ (∀ v, valV kvs k' = some v → Q v (upd H p (.lst []))) ∧ (valV kvs k' = none → Q (.ref p) (upd (upd H p (.lst [])) d (.dK (putK kvs k' (.ref p))))) := by
  have S1 := S.new (.lst []) hp
  have S1' : Stp no M H M (upd H p (.lst [])) := (Stp.refl S.mh).new (.lst []) hp
  have G1 := G.stp S1'
  have hdp : d ≠ p := fun z => by rw [← z, G.dk] at hp; cases hp
  have hprs : p ∉ rs := fun z => by obtain ⟨_, _, o, e⟩ := G.ol.mem z; rw [hp] at e; cases e
  refine ⟨_, Sum.inr (f r), G1.dk, rfl, by rw [zk_len G.hl]; exact Nat.lt_of_le_of_lt (Nat.le_trans hk (by decide)) (line_lt (Nat.le_refl 1000000)), ?_, ?_⟩
  · intro v hv
    rcases zk_val (f r) G.hl with ⟨i, a, h1, h2, h3⟩ | ⟨_, h2⟩
    · rw [h3] at hv
      cases hv
      rcases G.kf.ins (x := r) with ⟨j, g, a1, a2, a3, a4⟩ | ⟨a1, _, _⟩
      · have ij : i = j := by
          obtain ⟨l1, e1⟩ := List.getElem?_eq_some_iff.mp h1
          obtain ⟨l2, e2⟩ := List.getElem?_eq_some_iff.mp a1
          have pw := List.pairwise_iff_getElem.mp G.kf.nd
          rcases Nat.lt_trichotomy i j with t | t | t
          · exact absurd (e1.trans e2.symm) (pw i j l1 l2 t)
          · exact t
          · exact absurd (e2.trans e1.symm) (pw j i l2 l1 t)
        subst ij
        obtain ⟨a', e1, ha0, haM, hag⟩ := G1.ol.at a2
        rw [h2] at e1
        cases e1
        have har := List.mem_of_getElem? h2
        have hda : d ≠ a := fun z => G.dr (z ▸ har)
        refine k a _ g S1 hag (hg g (List.mem_of_getElem? a2)) (fun x o _ e => upd_old e hp) ⟨ks, rs, S1.put _ haM (.inl ha0), ⟨by rw [upd_ne hda]; exact G1.dk, G.hl, ?_, G.dr, G.md, a4⟩, Nat.le_succ _⟩
        rw [a3]
        exact G1.ol.put h2
      · exact absurd (List.mem_of_getElem? h1) a1
    · rw [h2] at hv; cases hv
  · intro hv
    have hkn : f r ∉ ks := by
      rcases zk_val (f r) G.hl with ⟨i, a, h1, h2, h3⟩ | ⟨h1, _⟩
      · rw [h3] at hv; cases hv
      · exact h1
    rcases G.kf.ins (x := r) with ⟨j, g, a1, _, _, _⟩ | ⟨_, a2, a3⟩
    · exact absurd (List.mem_of_getElem? a1) hkn
    · rw [putK_new _ hv, ← zk_snoc G.hl]
      have hpd : p ≠ d := fun z => hdp z.symm
      refine k p _ [] (S1.put _ G.md (.inl hd)) (by rw [upd_ne hpd]; exact upd_same) (by simp) (fun x o n e => by rw [upd_ne n]; exact upd_old e hp) ⟨ks ++ [f r], rs ++ [p], (S1.put _ G.md (.inl hd)).put _ (S.mfree hp) (.inl (S.hfree hp)), ⟨by rw [upd_ne hdp]; exact upd_same, by rw [List.length_append, List.length_append, G.hl]; rfl, ?_, ?_, G.md, a3⟩, by rw [List.length_append]; exact Nat.le_refl _⟩
      · rw [a2]
        refine OL.snoc (S.hfree hp) (S.mfree hp) upd_same (G1.ol.step fun a ha o m e => ⟨m, ?_⟩) hprs
        rw [upd_ne (ne_mem hprs ha), upd_ne (ne_mem G.dr ha)]
        exact e
      · intro z
        rcases List.mem_append.mp z with z | z
        · exact G.dr z
        · exact hdp (List.mem_singleton.mp z)
end
/-- setdefault, what it gives -/
abbrev SetD (f : Str → Str) (H0 M0 M H : Hp) (d : Addr) (ks : List Str) (gs : List (List Str)) (r : Str) (v : V) (H4 : Hp) : Prop := ∃ (b : Addr) (g : List Str), v = .ref b ∧ H4 b = some (.lst (g.map V.str)) ∧ g.length ≤ 100000 ∧ (∀ x o, x ≠ d → H x = some o → H4 x = some o) ∧
  ∃ (ks' : List Str) (rs' : List Addr), Stp no M0 H0 M (upd H4 b (.lst ((g ++ [r]).map V.str))) ∧ GrF f H0 M (upd H4 b (.lst ((g ++ [r]).map V.str))) d ks' rs' (ins (eF f) gs r) ∧ ks'.length ≤ ks.length + 1
theorem GrF.setd' {f : Str → Str} {H0 M0 M H : Hp} {d p : Addr} {ks : List Str} {rs : List Addr} {gs : List (List Str)} {r : Str} (G : GrF f H0 M H d ks rs gs) (S : Stp no M0 H0 M H) (hd : H0 d = none) (hp : H p = none) (hk : ks.length ≤ 100000) (hg : ∀ g ∈ gs, g.length ≤ 100000) :
    ∃ (kvs : List (L2.Key × V)) (k' : L2.Key), upd H p (.lst []) d = some (.dK kvs) ∧ V.str (f r) = kV k' ∧ kvs.length < sizeLine ∧ (∀ v, valV kvs k' = some v → SetD f H0 M0 M H d ks gs r v (upd H p (.lst []))) ∧ (valV kvs k' = none → SetD f H0 M0 M H d ks gs r (.ref p) (upd (upd H p (.lst [])) d (.dK (putK kvs k' (.ref p))))) :=
  G.setd (Q := fun v H4 => SetD f H0 M0 M H d ks gs r v H4) S hd hp hk hg fun a H4 g _ h4 hl hx kk => ⟨a, g, rfl, h4, hl, hx, kk⟩
theorem OL.ndK {H0 M H : Hp} {rs : List Addr} {gs : List (List Str)} {d : Addr} {kvs : List (L2.Key × V)} (h : OL H0 M H rs gs) (e : H d = some (.dK kvs)) : d ∉ rs := by
  intro m
  obtain ⟨i, hi⟩ := List.getElem?_of_mem m
  have hl : i < gs.length := by rw [← h.len]; exact lt_of_get hi
  obtain ⟨a, h1, _, _, h2⟩ := h.at (List.getElem?_eq_getElem hl)
  rw [hi] at h1
  cases h1
  rw [e] at h2
  cases h2
/-- an object of one's own that a def may change -/
theorem Stp.mine {M0 H0 M H M' H' : Hp} {d : Addr} (S : Stp no M0 H0 M H) (hd : H0 d = none) (T : Stp (exB d) M H M' H') : Stp no M0 H0 M' H' :=
  ⟨S.mm.trans T.mm, T.mh, fun a o _ e => T.hh a o (fun z => by
    have z' : a = d := z
    rw [z', hd] at e; cases e) (S.hh a o (fun z => z) e), fun a m h => T.fr a (S.fr a m h) (S.th a h), fun a h => T.th a (S.th a h)⟩
end Nt
open PySem PySem.Spec PyProof.Rows L2 Nt
local macro_rules | `(tactic| walk_at "vc") => `(tactic| repeat (first
  | with_reducible refine w_seq ?_ | with_reducible refine w_ret ?_ | with_reducible refine w_asg ?_ | with_reducible refine w_name ?_ | with_reducible refine w_drop ?_ | with_reducible refine w_ifS ?_ | with_reducible refine w_next ?_ | with_reducible refine w_retN ?_
  | (with_reducible show tVar _ _ _ _; refine w_var rfl ?_) | with_reducible refine w_c ?_ | with_reducible refine w_op ?_ | with_reducible refine w_un ?_ | with_reducible refine w_if ?_ | with_reducible refine w_andV ?_ | with_reducible refine w_orV ?_ | with_reducible refine w_notV ?_ | with_reducible refine w_chain ?_
  | with_reducible refine w_bl ?_ | with_reducible refine w_I0 ?_ | with_reducible refine w_eqS ?_ | with_reducible refine w_neS ?_ | with_reducible refine w_eqI ?_ | with_reducible refine w_neI ?_ | with_reducible refine w_eqB ?_ | with_reducible refine w_neB ?_
  | with_reducible refine w_test ?_ | with_reducible refine w_B ?_ | with_reducible refine w_and ?_ | with_reducible refine w_or ?_ | with_reducible refine w_not ?_ | with_reducible refine w_yes ?_
  | with_reducible refine w_nil ?_ | with_reducible refine w_cons ?_ | with_reducible refine w_tup ?_ | with_reducible refine w_lst ?_ | with_reducible refine w_call ?_ | with_reducible refine w_cb ?_ | with_reducible refine w_m1 ?_ | with_reducible refine w_lc ?_ | with_reducible refine w_dc ?_
  | with_reducible refine w_for ?_ | with_reducible refine w_iL ?_ | with_reducible refine w_iS ?_ | with_reducible refine w_iZ ?_ | with_reducible refine w_iE ?_ | with_reducible refine w_sl ?_ | with_reducible refine w_po ?_ | with_reducible refine w_no ?_ | with_reducible refine w_qbm ?_
  | with_reducible refine w_ixl (by first | assumption | exact upd_same) rfl ?_ | with_reducible refine w_int1 ?_ | with_reducible refine w_mod (by omega) ?_ | with_reducible refine w_div (by omega) (by omega) ?_ | with_reducible refine w_mulR (by decide) ?_ | with_reducible refine w_pow (by decide) (by omega) ?_
  | with_reducible refine w_gsub ?_ | with_reducible refine w_setl (by first | assumption | exact upd_same) rfl ?_ | with_reducible refine w_gtup2 ?_ | with_reducible refine w_gtup3 ?_ | with_reducible refine w_gcons ?_ | with_reducible refine w_gnil ?_
  | with_reducible refine w_inti ?_ | with_reducible refine w_dIn ?_ | with_reducible refine w_dNotIn ?_ | with_reducible refine w_dPut ?_ | with_reducible refine w_dGet ?_ | with_reducible refine w_rU ?_ | with_reducible refine w_fld ?_ | with_reducible refine w_sfld ?_ | with_reducible refine w_par ?_ | with_reducible refine w_pair ?_ | with_reducible refine w_min2 ?_ | with_reducible refine w_rng ?_ | with_reducible refine w_litT (by with_unfolding_all rfl) ?_ | with_reducible refine ift rfl ?_ | with_reducible refine iff_ rfl ?_))
namespace Nt
section
variable {P : Program} {w : World} {K : PySem.W.Frag} {mg : Str → Option Value} {base : Heap}
def sp_l_pull : Sp := fun vs H Q _ => ∃ (b : Addr) (n : Nat), vs = [.ref b, .int n] ∧ 0 < n ∧ n < 1073741824 ∧ ∃ M, Same M H ∧ Bag M H b ∧ RetB b M H Q (isI n)
theorem ok_l_pull (T : Tx K mg) : Good P w K mg base CX0 1 (He.fAd K (He.DefD.at_ d_l_pull)) p_l_pull sp_l_pull := by
  obtain ⟨fd, F⟩ := T.def_ 22 (d := d_l_pull) rfl
  refine good_of F sc_l_pull (fun _ _ _ _ _ _ us hl => match us, hl with | [_, _], _ => rfl) (by intro vs H Q E h; (repeat obtain ⟨_, h⟩ := h); subst_vars; rfl) fun cdv A outer s H vs Q E hr h => ?_
  have hu := hu_of hr
  refine ⟨_, (pss_cons (ps_asg (pe_op op_add (pe_ix xq_list (pv 0) pe_int (fun _ _ => rfl)) pe_int) (pg_sub (pv 0) pe_int set_list))  (pss_cons (ps_if (PW.pt (pw_and (pt_cmpR op_eq (pe_ix xq_list (pv 0) pe_int (fun _ _ => rfl)) pe_int (nomark _)) (pw_and1 (pt_cmpR op_lt (pe_ix xq_list (pv 0) pe_int (fun _ _ => rfl)) (pe_callB cq_len (by rfl) T.b_len (by decide +kernel) (pa_cons (pe_ix xq_list (pv 0) pe_int (fun _ _ => rfl)) pa_nil)) (nomark _)))))  (pss_cons (ps_asg (pe_tup (pa_cons (pe_ix xq_list (pe_ix xq_list (pv 0) pe_int (fun _ _ => rfl)) (pe_ix xq_list (pv 0) pe_int (fun _ _ => rfl)) (fun _ _ => rfl)) (pa_cons (pe_op op_add (pe_ix xq_list (pv 0) pe_int (fun _ _ => rfl)) pe_int) pa_nil))) (gq_tup K (n := 2) rfl (pgs_cons (pg_name (i := 2) sc_l_pull.nd rfl (Or.inl rfl) (Or.inl rfl)) (pgs_cons (pg_sub (pv 0) pe_int set_list) pgs_nil))))  (pss_one (ps_if (pt_cmpR op_ge (pv 2) (pe_op op_pow pe_int pe_int) (nomark _))  (pss_one (ps_asg (pv 2) (pg_sub (pv 0) pe_int set_list)))  (pss_one (ps_asg (pe_op op_modN (pe_callTy call_int1 (by rfl) T.b_int (by decide +kernel) (pa_cons (pe_op op_add (pe_op op_add (pe_op op_mul (pe_ix xq_list (pv 0) pe_int (fun _ _ => rfl)) pe_int) (pe_op op_mul (pe_op op_modN (pe_callTy call_int1 (by rfl) T.b_int (by decide +kernel) (pa_cons (pv 2) pa_nil)) pe_int) pe_int)) pe_int) pa_nil)) pe_int) (pg_sub (pv 0) pe_int set_list))))))  pss_nil)  (pss_cons (ps_if (pt_cmpR op_gt (pe_ix xq_list (pv 0) pe_int (fun _ _ => rfl)) pe_int (nomark _))  (pss_cons (ps_asg (pe_tup (pa_cons (pe_op op_modN (pe_callTy call_int1 (by rfl) T.b_int (by decide +kernel) (pa_cons (pe_ix xq_list (pv 0) pe_int (fun _ _ => rfl)) pa_nil)) (pv 1)) (pa_cons (pe_op op_fdivN (pe_ix xq_list (pv 0) pe_int (fun _ _ => rfl)) (pv 1)) pa_nil))) (gq_tup K (n := 2) rfl (pgs_cons (pg_name (i := 3) sc_l_pull.nd rfl (Or.inl rfl) (Or.inl rfl)) (pgs_cons (pg_sub (pv 0) pe_int set_list) pgs_nil))))  (pss_one (ps_ret (pv 3))))  pss_nil)  (pss_cons (ps_set (i := 4) sc_l_pull.nd rfl (Or.inl rfl) (pe_callTy call_int1 (by rfl) T.b_int (by decide +kernel) (pa_cons (pe_ix xq_list (pv 0) pe_int (fun _ _ => rfl)) pa_nil)))  (pss_cons (ps_asg (pe_op op_modN (pe_callTy call_int1 (by rfl) T.b_int (by decide +kernel) (pa_cons (pe_op op_add (pe_op op_add (pe_op op_add (pe_op op_pow (pv 4) pe_int) (pe_op op_mul (pv 4) pe_int)) (pe_op op_mul (pe_ix xq_list (pv 0) pe_int (fun _ _ => rfl)) pe_int)) pe_int) pa_nil)) pe_int) (pg_sub (pv 0) pe_int set_list))  (pss_one (ps_ret (pe_op op_modN (pe_callTy call_int1 (by rfl) T.b_int (by decide +kernel) (pa_cons (pe_op op_add (pe_op op_fdivN (pe_ix xq_list (pv 0) pe_int (fun _ _ => rfl)) pe_int) (pe_op op_mul (pe_op op_modN (pe_callTy call_int1 (by rfl) T.b_int (by decide +kernel) (pa_cons (pe_ix xq_list (pv 0) pe_int (fun _ _ => rfl)) pa_nil)) pe_int) pe_int)) pa_nil)) (pv 1))))))))), ?_⟩
  obtain ⟨b, n, rfl, hn, hn2, M, s0, B, k⟩ := h
  have hn' : (0 : Int) < (n : Int) := by omega
  refine w_cut (fun σ' H' => σ' = start n_l_pull [.ref b, .int n] ∧ Stp (exB b) M H M H' ∧ Bag M H' b) ?_ ?_
  · rintro σ1 H1 ⟨rfl, S1, B1⟩
    refine w_cut (fun σ' H' => (∃ o2, σ' = [some (.ref b), some (.int n), o2, none, none]) ∧ Stp (exB b) M H M H' ∧ Bag M H' b) ?_ ?_
    · rintro σ2 H2 ⟨⟨o2, rfl⟩, S2, B2⟩
      obtain ⟨a, xs, i, r, m, c, h, ha, h0, h1, h2, h3⟩ := B2.ex
      walk_at "vc"
      refine ifd (fun q => ?_) (fun q => ?_)
      · walk_at "vc"
        intro p hp
        have hb := upd_old (u := .tup [V.int (r.fmod ↑n), V.int (r.fdiv ↑n)]) h hp
        walk_at "vc"
        refine k _ _ _ _ (isI_fmod hn') ((S2.new _ hp).put _ B.mb (.inr rfl)) ⟨B.mb, a, xs, i, r.fdiv n, m, c, upd_same, ha, h0, Int.fdiv_nonneg h1 (by omega), h2, h3⟩ rfl
      · walk_at "vc"
        have f1 := Int.fmod_nonneg_of_pos (m ^ Int.toNat 3 + m * 30851 + c * 1299709 + 51971) (show (0 : Int) < 2147483587 by decide)
        have f2 := Int.fmod_lt_of_pos (m ^ Int.toNat 3 + m * 30851 + c * 1299709 + 51971) (show (0 : Int) < 2147483587 by decide)
        refine k _ _ _ _ (isI_fmod hn') (S2.put _ B.mb (.inr rfl)) ⟨B.mb, a, xs, i, r, _, c, upd_same, ha, h0, h1, f1, by omega⟩ rfl
    · intro U hU
      obtain ⟨a, xs, i, r, m, c, h, ha, h0, h1, h2, h3⟩ := B1.ex
      have stay : U (start n_l_pull [.ref b, .int n]) H1 := hU _ _ ⟨⟨_, rfl⟩, S1, B1⟩
      walk_at "vc"
      refine ifd (fun q1 => ?_) (fun q1 => ?_)
      · walk_at "vc"
        refine ⟨a, xs.map V.int, rfl, .inl (S1.mh _ _ ha), ?_⟩
        walk_at "vc"
        refine ifd (fun q2 => ?_) (fun q2 => stay)
        walk_at "vc"
        obtain ⟨x, hx⟩ : ∃ x, xs[i.toNat]? = some x := ⟨xs[i.toNat]'(by rw [List.length_map] at q2; omega), List.getElem?_eq_getElem _⟩
        refine w_ixl (xs := xs.map V.int) (v := .int x) (S1.mh _ _ ha) (atI_map h0 hx) ?_
        walk_at "vc"
        intro p hp
        have hb := upd_old (u := .tup [V.int x, V.int (i + 1)]) h hp
        have S3 := S1.new (.tup [V.int x, V.int (i + 1)]) hp
        walk_at "vc"
        refine ifd (fun q3 => ?_) (fun q3 => ?_)
        · walk_at "vc"
          exact hU _ _ ⟨⟨_, rfl⟩, (S3.put _ B.mb (.inr rfl)).put _ B.mb (.inr rfl), B.mb, a, xs, i + 1, x, m, c, upd_same, ha, by omega, Int.le_trans (by decide) q3, h2, h3⟩
        · walk_at "vc"
          have f1 := Int.fmod_nonneg_of_pos (m * 40591 + x.fmod 2147483563 * 733 + 59) (show (0 : Int) < 2147483587 by decide)
          have f2 := Int.fmod_lt_of_pos (m * 40591 + x.fmod 2147483563 * 733 + 59) (show (0 : Int) < 2147483587 by decide)
          exact hU _ _ ⟨⟨_, rfl⟩, (S3.put _ B.mb (.inr rfl)).put _ B.mb (.inr rfl), B.mb, a, xs, i + 1, r, _, c, upd_same, ha, by omega, h1, f1, by omega⟩
      · exact stay
  · intro U hU
    obtain ⟨a, xs, i, r, m, c, h, ha, h0, h1, h2, h3⟩ := B.ex
    walk_at "vc"
    exact hU _ _ ⟨rfl, (Stp.refl s0).put _ B.mb (.inr rfl), B.mb, a, xs, i, r, m, c + 1, upd_same, ha, h0, h1, h2, h3⟩
end
end Nt
namespace Nt
section
variable {P : Program} {w : World} {K : PySem.W.Frag} {mg : Str → Option Value} {base : Heap}
def sp_over : Sp := fun vs H Q _ => ∃ (x y : Str), vs = [.str x, .str y] ∧ ∃ M, Same M H ∧ x.length ≤ 1000 ∧ Ret M H Q (.str (ovr x y))
theorem ok_over (T : Tx K mg) : Good P w K mg base CX0 1 (He.fAd K (He.DefD.at_ d_over)) p_over sp_over := by
  obtain ⟨fd, F⟩ := T.def_ 4 (d := d_over) rfl
  refine good_of F sc_over (fun _ _ _ _ _ _ us hl => match us, hl with | [_, _], _ => rfl) (by intro vs H Q E h; (repeat obtain ⟨_, h⟩ := h); subst_vars; rfl) fun cdv A outer s H vs Q E hr h => ?_
  have hu := hu_of hr
  refine ⟨_, (pss_one (ps_ret (pe_m1 PySem.F.slot_str_join PySem.F.type_str_join mq_join pe_str (pe_lc (own := [("sign", 2), ("below", 3)]) (by rfl) sc_over.nd (iq_zs K (by rfl) T.b_zip (pa_cons (pv 0) (pa_cons (pv 1) pa_nil))) (blkOk_by (own := [("sign", 2), ("below", 3)]) (N := n_over) (sc := He.DefD.scope d_over) (by decide +kernel)) (fun _ _ _ _ _ => (gq_tup K (n := 2) rfl (pgs_cons (pg_name (i := 2) sc_over.nd rfl (Or.inl rfl) (Or.inr rfl)) (pgs_cons (pg_name (i := 3) sc_over.nd rfl (Or.inl rfl) (Or.inr rfl)) pgs_nil)))) (fun _ _ _ _ _ => pts_nil) (fun _ _ _ _ _ => (pe_ifExp (pt_cmpR op_eq (pv 2) pe_str (nomark _)) (pv 3) (pv 2))))))), ?_⟩
  obtain ⟨x, y, rfl, M, s0, hx, k⟩ := h
  walk_at "vc"
  refine ⟨⟨_, rfl⟩, ?_⟩
  walk_at "vc"
  refine .inl ⟨x, y, rfl, ?_⟩
  have hz : ((sl x).zip (sl y)).length ≤ 1000 := by
    rw [List.length_zip, ← len_sl]
    omega
  refine lc_go (ex := no) walkZ s0 (fun i acc _ => acc = (((sl x).zip (sl y)).take i).map fun p => .str (ch (ovN p))) rfl (fun _ _ _ => trivial) ?_ ?_
  · rintro i v acc M1 H1 H1' D hi S1 hD m1 h1 rfl ⟨T, a, b, rfl, hT, rfl, hab⟩
    refine g_pair upd_same ⟨rfl, ?_⟩
    walk_at "vc"
    have go : ∀ z, z = ovN (a, b) → LcA no M H D (fun acc _ => acc = (((sl x).zip (sl y)).take (i + 1)).map fun p => .str (ch (ovN p))) (.str (ch z)) (upd H1 T (.tup [.str (ch a), .str (ch b)])) := fun z hz' =>
      LcA.of hD (S1.new _ hT) m1 (upd_old h1 hT) (by rw [List.length_map, List.length_take]; omega) (by rw [tkm hab, hz'])
    refine ifd (fun q => ?_) (fun q => ?_)
    · walk_at "vc"
      exact go b (by rw [ovN, if_pos (ch_dot.mp q)])
    · walk_at "vc"
      exact go a (by rw [ovN, if_neg fun z => q (ch_dot.mpr z)])
  · rintro D acc M1 H1 hD S1 m1 h1 rfl
    rw [tk_all] at h1
    have e : (((sl x).zip (sl y)).map fun p => V.str (ch (ovN p))) = ((((sl x).zip (sl y)).map ovN).map ch).map V.str := by simp
    rw [e] at h1
    refine ⟨_, D, _, rfl, rfl, .inl h1, join_size _ (by rw [List.length_map]; omega), ?_⟩
    rw [join_ch]
    exact k _ _ _ S1 rfl
def sp_l_over : Sp := sp_over
theorem ok_l_over (T : Tx K mg) : Good P w K mg base CX0 1 (He.fAd K (He.DefD.at_ d_l_over)) p_l_over sp_over := by
  obtain ⟨fd, F⟩ := T.def_ 26 (d := d_l_over) rfl
  refine good_of F sc_l_over (fun _ _ _ _ _ _ us hl => match us, hl with | [_, _], _ => rfl) (by intro vs H Q E h; (repeat obtain ⟨_, h⟩ := h); subst_vars; rfl) fun cdv A outer s H vs Q E hr h => ?_
  have hu := hu_of hr
  refine ⟨_, (pss_one (ps_ret (pe_m1 PySem.F.slot_str_join PySem.F.type_str_join mq_join pe_str (pe_lc (own := [("_law_sign", 2), ("_law_under", 3)]) (by rfl) sc_l_over.nd (iq_zs K (by rfl) T.b_zip (pa_cons (pv 0) (pa_cons (pv 1) pa_nil))) (blkOk_by (own := [("_law_sign", 2), ("_law_under", 3)]) (N := n_l_over) (sc := He.DefD.scope d_l_over) (by decide +kernel)) (fun _ _ _ _ _ => (gq_tup K (n := 2) rfl (pgs_cons (pg_name (i := 2) sc_l_over.nd rfl (Or.inl rfl) (Or.inr rfl)) (pgs_cons (pg_name (i := 3) sc_l_over.nd rfl (Or.inl rfl) (Or.inr rfl)) pgs_nil)))) (fun _ _ _ _ _ => pts_nil) (fun _ _ _ _ _ => (pe_ifExp (pt_cmpR op_eq (pv 2) pe_str (nomark _)) (pv 3) (pv 2))))))), ?_⟩
  obtain ⟨x, y, rfl, M, s0, hx, k⟩ := h
  walk_at "vc"
  refine ⟨⟨_, rfl⟩, ?_⟩
  walk_at "vc"
  refine .inl ⟨x, y, rfl, ?_⟩
  have hz : ((sl x).zip (sl y)).length ≤ 1000 := by
    rw [List.length_zip, ← len_sl]
    omega
  refine lc_go (ex := no) walkZ s0 (fun i acc _ => acc = (((sl x).zip (sl y)).take i).map fun p => .str (ch (ovN p))) rfl (fun _ _ _ => trivial) ?_ ?_
  · rintro i v acc M1 H1 H1' D hi S1 hD m1 h1 rfl ⟨T, a, b, rfl, hT, rfl, hab⟩
    refine g_pair upd_same ⟨rfl, ?_⟩
    walk_at "vc"
    have go : ∀ z, z = ovN (a, b) → LcA no M H D (fun acc _ => acc = (((sl x).zip (sl y)).take (i + 1)).map fun p => .str (ch (ovN p))) (.str (ch z)) (upd H1 T (.tup [.str (ch a), .str (ch b)])) := fun z hz' =>
      LcA.of hD (S1.new _ hT) m1 (upd_old h1 hT) (by rw [List.length_map, List.length_take]; omega) (by rw [tkm hab, hz'])
    refine ifd (fun q => ?_) (fun q => ?_)
    · walk_at "vc"
      exact go b (by rw [ovN, if_pos (ch_dot.mp q)])
    · walk_at "vc"
      exact go a (by rw [ovN, if_neg fun z => q (ch_dot.mpr z)])
  · rintro D acc M1 H1 hD S1 m1 h1 rfl
    rw [tk_all] at h1
    have e : (((sl x).zip (sl y)).map fun p => V.str (ch (ovN p))) = ((((sl x).zip (sl y)).map ovN).map ch).map V.str := by simp
    rw [e] at h1
    refine ⟨_, D, _, rfl, rfl, .inl h1, join_size _ (by rw [List.length_map]; omega), ?_⟩
    rw [join_ch]
    exact k _ _ _ S1 rfl
def sp_lot_of : Sp := fun vs H Q _ => ∃ (x : Str), vs = [.str x] ∧ ∃ M, Same M H ∧ x.length ≤ 1000 ∧ Ret M H Q (.str (lotS x))
theorem ok_lot_of (T : Tx K mg) : Good P w K mg base CX0 1 (He.fAd K (He.DefD.at_ d_lot_of)) p_lot_of sp_lot_of := by
  obtain ⟨fd, F⟩ := T.def_ 5 (d := d_lot_of) rfl
  refine good_of F sc_lot_of (fun _ _ _ _ _ _ us hl => match us, hl with | [_], _ => rfl) (by intro vs H Q E h; (repeat obtain ⟨_, h⟩ := h); subst_vars; rfl) fun cdv A outer s H vs Q E hr h => ?_
  have hu := hu_of hr
  refine ⟨_, (pss_one (ps_ret (pe_m1 PySem.F.slot_str_join PySem.F.type_str_join mq_join pe_str (pe_lc (own := [("sign", 1)]) (by rfl) sc_lot_of.nd (pi_str (pv 0)) (blkOk_by (own := [("sign", 1)]) (N := n_lot_of) (sc := He.DefD.scope d_lot_of) (by decide +kernel)) (fun _ _ _ _ _ => (pg_name (i := 1) sc_lot_of.nd rfl (Or.inl rfl) (Or.inr rfl))) (fun _ _ _ _ _ => pts_nil) (fun _ _ _ _ _ => (pe_ifExp (pt_cmpR op_eq (pv 1) pe_str (nomark _)) pe_str pe_str)))))), ?_⟩
  obtain ⟨x, rfl, M, s0, hx, k⟩ := h
  walk_at "vc"
  refine ⟨⟨_, rfl⟩, ?_⟩
  walk_at "vc"
  refine ⟨x, rfl, ?_⟩
  rw [len_sl] at hx
  refine lc_go (ex := no) walkS s0 (fun i acc _ => acc = ((sl x).take i).map fun c => .str (ch (ltN c))) rfl (fun _ _ _ => trivial) ?_ ?_
  · rintro i v acc M1 H1 H1' D hi S1 hD m1 h1 rfl ⟨rfl, c, hc, rfl⟩
    refine ⟨rfl, ?_⟩
    walk_at "vc"
    have go : ∀ z : Str, z = ch (ltN c) → LcA no M H D (fun acc _ => acc = ((sl x).take (i + 1)).map fun c => .str (ch (ltN c))) (.str z) H1' := fun z hz' =>
      LcA.of hD S1 m1 h1 (by rw [List.length_map, List.length_take]; omega) (by rw [tkm hc, hz'])
    refine ifd (fun q => ?_) (fun q => ?_)
    · walk_at "vc"
      exact go _ (by rw [ltN, if_pos (ch_dot.mp q)]; decide +kernel)
    · walk_at "vc"
      exact go _ (by rw [ltN, if_neg fun z => q (ch_dot.mpr z)]; decide +kernel)
  · rintro D acc M1 H1 hD S1 m1 h1 rfl
    rw [tk_all] at h1
    have e : ((sl x).map fun c => V.str (ch (ltN c))) = (((sl x).map ltN).map ch).map V.str := by simp
    rw [e] at h1
    refine ⟨_, D, _, rfl, rfl, .inl h1, join_size _ (by rw [List.length_map]; omega), ?_⟩
    rw [join_ch]
    exact k _ _ _ S1 rfl
def sp_blank : Sp := fun vs H Q _ => ∃ (n : Nat), vs = [.int n] ∧ ∃ M, Same M H ∧ n ≤ 1000 ∧ Ret M H Q (.str (blk n))
theorem rep_dot (n : Nat) : (⟨(List.replicate (n : Int).toNat ("." : Str).cps).foldl (· ++ ·) #[]⟩ : Str) = blk n := by
  have e : ("." : Str).cps = #[46] := by decide +kernel
  rw [e, Int.toNat_natCast]
  apply str_ext
  show _ = (List.replicate n 46).toArray.toList
  have r : ∀ (n : Nat) (acc : Array Nat), ((List.replicate n (#[46] : Array Nat)).foldl (· ++ ·) acc).toList = acc.toList ++ List.replicate n 46 := by
    intro n
    induction n with
    | zero => intro acc; simp
    | succ n ih => intro acc; rw [List.replicate_succ, List.foldl_cons, ih, List.replicate_succ]; simp
  rw [r]
  simp
theorem ok_blank (T : Tx K mg) : Good P w K mg base CX0 1 (He.fAd K (He.DefD.at_ d_blank)) p_blank sp_blank := by
  obtain ⟨fd, F⟩ := T.def_ 6 (d := d_blank) rfl
  refine good_of F sc_blank (fun _ _ _ _ _ _ us hl => match us, hl with | [_], _ => rfl) (by intro vs H Q E h; (repeat obtain ⟨_, h⟩ := h); subst_vars; rfl) fun cdv A outer s H vs Q E hr h => ?_
  have hu := hu_of hr
  refine ⟨_, (pss_one (ps_ret (pe_op op_mul_str pe_str (pv 0)))), ?_⟩
  obtain ⟨n, rfl, M, s0, hn, k⟩ := h
  walk_at "vc"
  refine ⟨_, _, rfl, rfl, by omega, by omega, by decide +kernel, ?_⟩
  rw [rep_dot]
  exact k _ _ _ (Stp.refl s0) rfl
def sp_lot_size : Sp := fun vs H Q _ => ∃ (x : Str), vs = [.str x] ∧ ∃ M, Same M H ∧ Ret M H Q (.int (Txt.count x "+"))
theorem ok_lot_size (T : Tx K mg) : Good P w K mg base CX0 1 (He.fAd K (He.DefD.at_ d_lot_size)) p_lot_size sp_lot_size := by
  obtain ⟨fd, F⟩ := T.def_ 7 (d := d_lot_size) rfl
  refine good_of F sc_lot_size (fun _ _ _ _ _ _ us hl => match us, hl with | [_], _ => rfl) (by intro vs H Q E h; (repeat obtain ⟨_, h⟩ := h); subst_vars; rfl) fun cdv A outer s H vs Q E hr h => ?_
  have hu := hu_of hr
  refine ⟨_, (pss_one (ps_ret (pe_m1 PySem.F.slot_str_count PySem.F.type_str_count mt_count (pv 0) pe_str))), ?_⟩
  obtain ⟨x, rfl, M, s0, k⟩ := h
  walk_at "vc"
  refine ⟨⟨_, rfl⟩, ?_⟩
  walk_at "vc"
  exact ⟨x, _, rfl, rfl, k _ _ _ (Stp.refl s0) rfl⟩
end
end Nt
namespace Nt
section
variable {P : Program} {w : World} {K : PySem.W.Frag} {mg : Str → Option Value} {base : Heap}
def sp_l_pick : Sp := fun vs H Q _ => ∃ (b : Addr) (v : V) (ds : List Dat), vs = [.ref b, v] ∧ 0 < ds.length ∧ ds.length < 1000000 ∧ ∃ M, Same M H ∧ Bag M H b ∧ IsQ M ds v ∧ RetB b M H Q (· ∈ ds)
theorem ok_l_pick (T : Tx K mg) : Good P w K mg base CX0 2 (He.fAd K (He.DefD.at_ d_l_pick)) p_l_pick sp_l_pick := by
  obtain ⟨fd, F⟩ := T.def_ 23 (d := d_l_pick) rfl
  have g_l_pull : Good P w K mg base CX0 1 (He.fAd K (He.DefD.at_ d_l_pull)) p_l_pull sp_l_pull := ok_l_pull T
  refine good_of F sc_l_pick (fun _ _ _ _ _ _ us hl => match us, hl with | [_, _], _ => rfl) (by intro vs H Q E h; (repeat obtain ⟨_, h⟩ := h); subst_vars; rfl) fun cdv A outer s H vs Q E hr h => ?_
  have hu := hu_of hr
  refine ⟨_, (pss_one (ps_ret (pe_ix xq_seq (pv 1) (pe_good g_l_pull (hr.mono (by decide)) rfl T.m_l_pull (pa_cons (pv 0) (pa_cons (pe_callB cq_len (by rfl) T.b_len (by decide +kernel) (pa_cons (pv 1) pa_nil)) pa_nil))) (fun _ _ => rfl)))), ?_⟩
  obtain ⟨b, v, ds, rfl, h0, h1, M, s0, B, ⟨a, vs, rfl, ha, hvs⟩, k⟩ := h
  have ha' := ha.imp (s0 _ _) (s0 _ _)
  walk_at "vc"
  refine ⟨a, vs, rfl, ha', ?_⟩
  walk_at "vc"
  rw [hvs.len]
  refine ⟨b, ds.length, rfl, h0, by omega, M, s0, B, ?_⟩
  rintro d v M1 H1 ⟨j, rfl, hj⟩ S1 B1 rfl
  obtain ⟨v, d, e, _, hm, hd⟩ := hvs.at' (i := j) (by omega)
  refine w_ixq (ha.imp (fun z => S1.mh _ _ (S1.mm _ _ z)) (fun z => S1.mh _ _ (S1.mm _ _ z))) e ?_
  exact k _ _ _ _ hm S1 B1 (hd.mono S1.mm)
def sp_l_some_of : Sp := fun vs H Q _ => ∃ (b : Addr) (v : V) (n : Nat) (ds : List Dat), vs = [.ref b, v, .int n] ∧ ds.length < 1000000 ∧ n < 1000000 ∧ ∃ M, Same M H ∧ Bag M H b ∧ IsQ M ds v ∧
  RetB b M H Q (fun d => ∃ es, d = .lst es ∧ Sub (min n ds.length) ds es)
def sp_l_full : Sp := fun vs H Q _ => ∃ (v : V) (xs : List Str), vs = [v] ∧ xs.length ≤ 1000 ∧ ∃ M, Same M H ∧ Is M (dS xs) v ∧ Ret M H Q (dS (fullS xs))
theorem ok_l_full (T : Tx K mg) : Good P w K mg base CX0 1 (He.fAd K (He.DefD.at_ d_l_full)) p_l_full sp_l_full := by
  obtain ⟨fd, F⟩ := T.def_ 27 (d := d_l_full) rfl
  refine good_of F sc_l_full (fun _ _ _ _ _ _ us hl => match us, hl with | [_], _ => rfl) (by intro vs H Q E h; (repeat obtain ⟨_, h⟩ := h); subst_vars; rfl) fun cdv A outer s H vs Q E hr h => ?_
  have hu := hu_of hr
  refine ⟨_, (pss_one (ps_ret (pe_lc (own := [("_law_row", 1)]) (by rfl) sc_l_full.nd (iq_list K (pv 0)) (blkOk_by (own := [("_law_row", 1)]) (N := n_l_full) (sc := He.DefD.scope d_l_full) (by decide +kernel)) (fun _ _ _ _ _ => (pg_name (i := 1) sc_l_full.nd rfl (Or.inl rfl) (Or.inr rfl))) (fun _ _ _ _ _ => pts_one (pt_cmpR op_notIn_sign pe_str (pv 1) (by rfl))) (fun _ _ _ _ _ => (pv 1))))), ?_⟩
  obtain ⟨v, xs, rfl, hx, M, s0, i0, k⟩ := h
  obtain ⟨a, rfl, ha⟩ := i0.strs
  walk_at "vc"
  refine ⟨a, rfl, ⟨_, SqL.of (s0 _ _ ha)⟩, ?_⟩
  refine lc_go (ex := no) walkL s0 (fun i acc _ => acc = ((xs.take i).filter nodot).map V.str) rfl (fun _ _ S => S.mh _ _ (S.mm _ _ ha)) ?_ ?_
  · rintro i v acc M1 H1 H1' D hi S1 hD m1 h1 rfl ⟨rfl, hv⟩
    obtain ⟨x, hx', rfl⟩ := map_at hv
    walk_at "vc"
    refine ⟨rfl, ?_⟩
    walk_at "vc"
    refine ⟨46, x, congrArg V.str dot_ch, rfl, ?_⟩
    walk_at "vc"
    refine ifnd (fun q => ?_) (fun q => ?_)
    · walk_at "vc"
      exact LcA.of hD S1 m1 h1 (len_tf (by omega)) (by rw [tkf_yes hx' (by simpa [nodot] using q)])
    · exact LcS.of S1 m1 h1 (by rw [tkf_no hx' (by simpa [nodot] using q)])
  · rintro D acc M1 H1 hD S1 m1 h1 rfl
    exact ret_strs k S1 hD h1 (by rw [List.length_map, tk_all]; rfl)
def sp_l_cut : Sp := fun vs H Q _ => ∃ (x : Str) (v : V) (ps : List Nat), vs = [.str x, v] ∧ x.length ≤ 1000 ∧ ps.length ≤ 1000 ∧ (∀ p ∈ ps, p < x.length) ∧ ∃ M, Same M H ∧ Is M (.lst (ps.map fun p => Dat.int (p : Nat))) v ∧ ∀ y, Ret M H Q (.str y)
end
end Nt
namespace Nt
section
variable {P : Program} {w : World} {K : PySem.W.Frag} {mg : Str → Option Value} {base : Heap}
def sp_l_turned : Sp := fun vs H Q _ => ∃ (b : Addr) (v : V) (ds : List Dat), vs = [.ref b, v] ∧ ds.length < 1000000 ∧ ∃ M, Same M H ∧ Bag M H b ∧ IsQ M ds v ∧ RetB b M H Q (fun d => ∃ es, d = .lst es ∧ es.Perm ds)
def sp_l_names : Sp := fun vs H Q _ => ∃ (b : Addr) (n : Nat), vs = [.ref b, .int n] ∧ n ≤ 20 ∧ ∃ M, Same M H ∧ Bag M H b ∧
  RetB b M H Q (fun d => ∃ xs : List Str, d = dS xs ∧ xs.length = n ∧ xs.Nodup ∧ ∀ x ∈ xs, NameOk x)
theorem ok_l_names (T : Tx K mg) : Good P w K mg base CX0 3 (He.fAd K (He.DefD.at_ d_l_names)) p_l_names sp_l_names := by
  obtain ⟨fd, F⟩ := T.def_ 29 (d := d_l_names) rfl
  have g_l_pick : Good P w K mg base CX0 2 (He.fAd K (He.DefD.at_ d_l_pick)) p_l_pick sp_l_pick := ok_l_pick T
  have g_l_pull : Good P w K mg base CX0 1 (He.fAd K (He.DefD.at_ d_l_pull)) p_l_pull sp_l_pull := ok_l_pull T
  refine good_of F sc_l_names (fun _ _ _ _ _ _ us hl => match us, hl with | [_, _], _ => rfl) (by intro vs H Q E h; (repeat obtain ⟨_, h⟩ := h); subst_vars; rfl) fun cdv A outer s H vs Q E hr h => ?_
  have hu := hu_of hr
  refine ⟨_, (pss_cons (ps_asg (pe_tup (pa_cons pe_str (pa_cons (pe_lst pa_nil) (pa_cons (pe_good g_l_pick (hr.mono (by decide)) rfl T.m_l_pick (pa_cons (pv 0) (pa_cons (pe_lst (pa_cons pe_int (pa_cons pe_int (pa_cons pe_int pa_nil)))) pa_nil))) pa_nil)))) (gq_tup K (n := 3) rfl (pgs_cons (pg_name (i := 2) sc_l_names.nd rfl (Or.inr rfl) (Or.inl rfl)) (pgs_cons (pg_name (i := 3) sc_l_names.nd rfl (Or.inr rfl) (Or.inl rfl)) (pgs_cons (pg_name (i := 4) sc_l_names.nd rfl (Or.inr rfl) (Or.inl rfl)) pgs_nil)))))  (pss_cons (ps_for PassesOwn.never rfl (pi_range1 (by rfl) T.b_range (pa_cons (pv 1) pa_nil)) (pg_name (i := 5) sc_l_names.nd rfl (Or.inl rfl) (Or.inl rfl))  (pss_cons (ps_set (i := 6) sc_l_names.nd rfl (Or.inl rfl) (pe_ifExp (pt_cmpR op_eq (pe_good g_l_pull (hr.mono (by decide)) rfl T.m_l_pull (pa_cons (pv 0) (pa_cons pe_int pa_nil))) pe_int (nomark _)) pe_int (pe_op op_add pe_int (pe_good g_l_pull (hr.mono (by decide)) rfl T.m_l_pull (pa_cons (pv 0) (pa_cons pe_int pa_nil))))))  (pss_cons (ps_set (i := 7) sc_l_names.nd rfl (Or.inl rfl) (pe_m1 PySem.F.slot_str_join PySem.F.type_str_join mq_join pe_str (pe_lc (own := [("_law_k", 8)]) (by rfl) sc_l_names.nd (pi_range1 (by rfl) T.b_range (pa_cons (pv 6) pa_nil)) (blkOk_by (own := [("_law_k", 8)]) (N := n_l_names) (sc := He.DefD.scope d_l_names) (by decide +kernel)) (fun _ _ _ _ _ => (pg_name (i := 8) sc_l_names.nd rfl (Or.inl rfl) (Or.inr rfl))) (fun _ _ _ _ _ => pts_nil) (fun _ _ _ _ _ => (pe_ix ix_str (pv 2) (pe_good g_l_pull (hr.mono (by decide)) rfl T.m_l_pull (pa_cons (pv 0) (pa_cons (pv 4) pa_nil))) (fun _ _ => rfl))))))  (pss_cons (ps_if (pt_cmpR oq_in (pv 7) (pv 3) (by rfl))  (pss_one (ps_set (i := 7) sc_l_names.nd rfl (Or.inl rfl) (pe_ix xq_list (pe_lc (own := [("_law_one", 9)]) (by rfl) sc_l_names.nd (pi_str (pv 2)) (blkOk_by (own := [("_law_one", 9)]) (N := n_l_names) (sc := He.DefD.scope d_l_names) (by decide +kernel)) (fun _ _ _ _ _ => (pg_name (i := 9) sc_l_names.nd rfl (Or.inl rfl) (Or.inr rfl))) (fun _ _ _ _ _ => pts_one (pt_cmpR oq_notIn (pv 9) (pv 3) (by rfl))) (fun _ _ _ _ _ => (pv 9))) pe_int (fun _ _ => rfl))))  pss_nil)  (pss_one (ps_expr (eq_bm PySem.F.slot_list_append PySem.F.type_list_append mt_append (pv 3) (pa_cons (pv 7) pa_nil))))))))  (pss_one (ps_ret (pv 3))))), ?_⟩
  obtain ⟨b, n, rfl, hn, M, s0, B, k⟩ := h
  walk_at "vc"
  intro f hf
  walk_at "vc"
  intro t ht
  obtain ⟨hft, ht0⟩ := two_ne ht
  walk_at "vc"
  have S1 := ((Stp.refl (ex := exB b) s0).new (.lst []) hf).lay (.lst [.int 2, .int 26, .int 26]) ht
  have B1 := (B.new (o := .lst []) s0 hf).lay (o := .lst [.int 2, .int 26, .int 26]) ((Stp.refl (ex := exB b) s0).new (.lst []) hf).mh ht
  refine ⟨b, .ref t, [.int (2 : Nat), .int (26 : Nat), .int (26 : Nat)], rfl, by decide, by decide, _, S1.mh, B1, ⟨t, _, rfl, .inl upd_same, IsA.ints (xs := [2, 26, 26]).mpr rfl⟩, ?_⟩
  rintro d v M2 H2 hd S2 B2 i2
  obtain ⟨wd, rfl, hw0, hw⟩ : ∃ wd : Nat, v = .int wd ∧ 0 < wd ∧ wd ≤ 26 := by
    simp only [List.mem_cons, List.not_mem_nil, or_false] at hd
    rcases hd with rfl | rfl | rfl
    · exact ⟨2, i2, by decide, by decide⟩
    · exact ⟨26, i2, by decide, by decide⟩
    · exact ⟨26, i2, by decide, by decide⟩
  have S2 := S1.trans S2
  have hfb := B.ne hf
  have ⟨mf2, hf2⟩ : M2 f = none ∧ H2 f = some (.lst []) := by
    have m1 : upd M t (.lst [.int 2, .int 26, .int 26]) f = none := by rw [upd_ne (Ne.symm hft)]; exact none_of_same s0 hf
    have q : upd (upd H f (.lst [])) t (.lst [.int 2, .int 26, .int 26]) f = some (.lst []) := by rw [upd_ne (Ne.symm hft), upd_same]
    exact Stp.keepB ‹_› m1 q hfb
  walk_at "vc"
  intro p hp
  walk_at "vc"
  have hfp : p ≠ f := fun z => by rw [z, hf2] at hp; cases hp
  refine w_r1 (by omega) ?_
  rw [Int.toNat_natCast]
  refine fo_go walk_range (fun i σ' H' => ∃ o5 o6 o7 M' xs, σ' = [some (.ref b), some (.int n), some (.str LET), some (.ref f), some (.int wd), o5, o6, o7, none, none] ∧ Stp (exB b) M H M' H' ∧ Bag M' H' b ∧ M' f = none ∧
    H' f = some (.lst (xs.map V.str)) ∧ xs.length = i ∧ xs.Nodup ∧ ∀ x ∈ xs, NameOk x)
    ⟨_, _, _, M2, [], rfl, S2.new _ hp, B2.new S2.mh hp, mf2, by rw [upd_ne (Ne.symm hfp)]; exact hf2, rfl, List.nodup_nil, by simp⟩ (fun _ _ _ _ _ => trivial) ?_ ?_
  · rintro i x σ1 H3 H3' hi ⟨o5, o6, o7, M3, xs, rfl, S3, B3, mf, hf3, hl, hnd, hok⟩ ⟨rfl, rfl⟩
    refine w_name ?_
    refine w_cut (fun σ' H' => ∃ (sz : Nat) (o5 o7 : Option V) (M' : Hp), 1 ≤ sz ∧ sz ≤ 6 ∧ σ' = [some (.ref b), some (.int n), some (.str LET), some (.ref f), some (.int wd), o5, some (.int sz), o7, none, none] ∧ Stp (exB b) M H M' H' ∧ Bag M' H' b ∧ M' f = none ∧
      H' f = some (.lst (xs.map V.str))) ?_ ?_
    · rintro σ2 H4 ⟨sz, o5, o7, M4, hz1, hz6, rfl, S4, B4, mf4, hf4⟩
      refine w_cut (fun σ' H' => ∃ (nm : Str) (o5 : Option V) (M' : Hp), NameOk nm ∧ σ' = [some (.ref b), some (.int n), some (.str LET), some (.ref f), some (.int wd), o5, some (.int sz), some (.str nm), none, none] ∧ Stp (exB b) M H M' H' ∧ Bag M' H' b ∧ M' f = none ∧
        H' f = some (.lst (xs.map V.str))) ?_ ?_
      · rintro σ3 H5 ⟨nm, o5, M5, hnm, rfl, S5, B5, mf5, hf5⟩
        refine w_cut (fun σ' H' => ∃ (nm : Str) (o5 : Option V) (M' : Hp), NameOk nm ∧ nm ∉ xs ∧ σ' = [some (.ref b), some (.int n), some (.str LET), some (.ref f), some (.int wd), o5, some (.int sz), some (.str nm), none, none] ∧ Stp (exB b) M H M' H' ∧ Bag M' H' b ∧ M' f = none ∧
          H' f = some (.lst (xs.map V.str))) ?_ ?_
        · rintro σ4 H6 ⟨nm, o5, M6, hnm, hnx, rfl, S6, B6, mf6, hf6⟩
          walk_at "vc"
          refine ⟨⟨f, _, rfl, hf6⟩, ?_⟩
          walk_at "vc"
          refine ⟨f, _, _, rfl, rfl, hf6, line_lt (by rw [List.length_map]; omega), ?_⟩
          walk_at "vc"
          refine ⟨_, _, _, M6, xs ++ [nm], rfl, S6.put _ mf6 (.inl hf), B6.put mf6 hfb, mf6, by rw [upd_same]; simp, by simp [hl], ?_, ?_⟩
          · exact nodup_snoc hnd hnx
          · intro y hy
            rcases List.mem_append.mp hy with z | z
            · exact hok y z
            · rw [List.mem_singleton.mp z]; exact hnm
        · intro U hU
          walk_at "vc"
          refine w_inS (.inl hf5) ?_
          walk_at "vc"
          refine ifd (fun q => ?_) (fun q => hU _ _ ⟨nm, _, M5, hnm, q, rfl, S5, B5, mf5, hf5⟩)
          walk_at "vc"
          refine ⟨_, rfl, ?_⟩
          refine lc_go (ex := no) (walkS (z := LET)) S5.mh (fun i acc _ => acc = (((sl LET).take i).filter fun c => !decide (ch c ∈ xs)).map fun c => V.str (ch c)) rfl (fun _ _ _ => trivial) ?_ ?_
          · rintro i v acc M6 H6 H6' D hi S6 hD m6 h6 rfl ⟨rfl, c, hc, rfl⟩
            have hf6 := (S6.keep mf5 hf5).2
            walk_at "vc"
            refine ⟨rfl, ?_⟩
            walk_at "vc"
            refine w_notInS (.inl hf6) ?_
            walk_at "vc"
            refine ifnd (fun q => ?_) (fun q => ?_)
            · walk_at "vc"
              exact LcA.of hD S6 m6 h6 (len_tf (by rw [LET_len]; omega)) (by rw [tkf_yes hc (by simpa using q)])
            · exact LcS.of S6 m6 h6 (by rw [tkf_no hc (by simpa using q)])
          · rintro D acc M6 H6 hD S6 m6 h6 rfl
            rw [tk_all] at h6
            obtain ⟨c, hc, hcx⟩ := LET_free (xs := xs) (by omega)
            have hm : c ∈ (sl LET).filter fun c => !decide (ch c ∈ xs) := List.mem_filter.mpr ⟨hc, by simpa using hcx⟩
            obtain ⟨c', r, e⟩ : ∃ c' r, ((sl LET).filter fun c => !decide (ch c ∈ xs)) = c' :: r := by
              cases e : (sl LET).filter fun c => !decide (ch c ∈ xs) with
              | nil => rw [e] at hm; cases hm
              | cons c' r => exact ⟨c', r, rfl⟩
            have hc' : c' ∈ (sl LET).filter fun c => !decide (ch c ∈ xs) := by rw [e]; exact List.mem_cons_self
            obtain ⟨h1, h2⟩ := List.mem_filter.mp hc'
            rw [e] at h6
            walk_at "vc"
            refine w_ixl (j := ((0 : Nat) : Int)) h6 (atI_nat rfl) ?_
            walk_at "vc"
            obtain ⟨mf6, hf6⟩ := S6.keep mf5 hf5
            exact hU _ _ ⟨ch c', _, M6, ⟨by simp, by simp, by simp [LET_low c' h1]⟩, by simpa using h2, rfl, S5.trans S6.of, B5.keep S6, mf6, hf6⟩
      · intro U hU
        walk_at "vc"
        refine ⟨⟨_, rfl⟩, ?_⟩
        walk_at "vc"
        refine w_r1 (by omega) ?_
        rw [Int.toNat_natCast]
        refine lc_goB walk_range S4.mh B4 (fun i acc _ => ∃ cs : List Nat, cs.length = i ∧ (∀ c ∈ cs, low c = true) ∧ acc = cs.map fun c => V.str (ch c)) ⟨[], rfl, by simp, rfl⟩ (fun _ _ _ => trivial) ?_ ?_
        · rintro i v acc M5 H5 H5' D hi S5 B5 hD neD m5 h5 ⟨cs, hcl, hlow, rfl⟩ ⟨rfl, rfl⟩
          walk_at "vc"
          refine ⟨rfl, ?_⟩
          walk_at "vc"
          refine ⟨b, wd, rfl, hw0, by omega, M5, S5.mh, B5, ?_⟩
          rintro d v M6 H6 ⟨j, rfl, hj⟩ S6 B6 rfl
          have hj' : j < (sl LET).length := by rw [LET_len]; omega
          refine w_ixS (line_of (by rw [len_sl, LET_len]; decide)) (atI_nat (List.getElem?_eq_getElem hj')) ?_
          obtain ⟨m6, h6⟩ := S6.keepB m5 h5 neD
          refine LcB.of hD neD (S5.trans S6) B6 m6 h6 (by rw [List.length_map]; omega) ⟨cs ++ [(sl LET)[j]], by simp [hcl], ?_, by simp⟩
          intro c hc
          rcases List.mem_append.mp hc with z | z
          · exact hlow c z
          · rw [List.mem_singleton.mp z]; exact LET_low _ (List.getElem_mem hj')
        · rintro D acc M5 H5 hD neD S5 B5 m5 h5 ⟨cs, hcl, hlow, e⟩
          rw [join_strs e] at h5
          refine ⟨_, D, _, rfl, rfl, .inl h5, join_size _ (by omega), ?_⟩
          rw [join_ch]
          walk_at "vc"
          obtain ⟨mf5, hf5⟩ := S5.keepB mf4 hf4 hfb
          exact hU _ _ ⟨mkS cs, _, M5, ⟨by rw [sl_mk]; omega, by rw [sl_mk]; omega, by rw [sl_mk]; exact hlow⟩, rfl, S4.trans S5, B5, mf5, hf5⟩
    · intro U hU
      walk_at "vc"
      refine ⟨b, 7, rfl, by decide, by decide, M3, S3.mh, B3, ?_⟩
      rintro d v M4 H4 ⟨j, rfl, hj⟩ S4 B4 rfl
      obtain ⟨mf4, hf4⟩ := S4.keepB mf hf3 hfb
      walk_at "vc"
      refine ifd (fun q => ?_) (fun q => ?_)
      · walk_at "vc"
        exact hU _ _ ⟨6, _, _, M4, by decide, by decide, rfl, S3.trans S4, B4, mf4, hf4⟩
      · walk_at "vc"
        refine ⟨b, 3, rfl, by decide, by decide, M4, S4.mh, B4, ?_⟩
        rintro d v M5 H5 ⟨j, rfl, hj⟩ S5 B5 rfl
        obtain ⟨mf5, hf5⟩ := S5.keepB mf4 hf4 hfb
        walk_at "vc"
        exact hU _ _ ⟨1 + j, _, _, M5, by omega, by omega, rfl, (S3.trans S4).trans S5, B5, mf5, hf5⟩
  · rintro σ1 H3 ⟨o5, o6, o7, M3, xs, rfl, S3, B3, mf, hf3, hl, hnd, hok⟩
    walk_at "vc"
    exact k _ _ _ _ ⟨xs, rfl, hl, hnd, hok⟩ (S3.fix hf3 hf) (B3.fix hfb (.inl mf)) (Is.of_strs upd_same)
end
end Nt
namespace Nt
section
variable {P : Program} {w : World} {K : PySem.W.Frag} {mg : Str → Option Value} {base : Heap}
def sp_l_clean : Sp := fun vs H Q _ => ∃ (v : V) (xs : List Str), vs = [v] ∧ xs.length ≤ 1000 ∧ (∀ x ∈ xs, x.length ≤ 1000) ∧ ∃ M, Same M H ∧ Is M (dS xs) v ∧ Ret M H Q (dS (cleanS xs))
theorem ok_l_clean (T : Tx K mg) : Good P w K mg base CX0 1 (He.fAd K (He.DefD.at_ d_l_clean)) p_l_clean sp_l_clean := by
  obtain ⟨fd, F⟩ := T.def_ 30 (d := d_l_clean) rfl
  refine good_of F sc_l_clean (fun _ _ _ _ _ _ us hl => match us, hl with | [_], _ => rfl) (by intro vs H Q E h; (repeat obtain ⟨_, h⟩ := h); subst_vars; rfl) fun cdv A outer s H vs Q E hr h => ?_
  have hu := hu_of hr
  refine ⟨_, (pss_cons (ps_set (i := 1) sc_l_clean.nd rfl (Or.inr rfl) (pe_lc (own := [("_law_row", 2)]) (by rfl) sc_l_clean.nd (iq_list K (pv 0)) (blkOk_by (own := [("_law_row", 2)]) (N := n_l_clean) (sc := He.DefD.scope d_l_clean) (by decide +kernel)) (fun _ _ _ _ _ => (pg_name (i := 2) sc_l_clean.nd rfl (Or.inl rfl) (Or.inr rfl))) (fun _ _ _ _ _ => pts_one (pt_cmpR op_ne (pv 2) (pe_op op_mul_str pe_str (pe_callB call_len_str (by rfl) T.b_len (by decide +kernel) (pa_cons (pv 2) pa_nil))) (nomark _))) (fun _ _ _ _ _ => (pv 2))))  (pss_one (ps_ret (pe_lc (own := [("_law_k", 3)]) (by rfl) sc_l_clean.nd (pi_range1 (by rfl) T.b_range (pa_cons (pe_callB cq_len (by rfl) T.b_len (by decide +kernel) (pa_cons (pv 1) pa_nil)) pa_nil)) (blkOk_by (own := [("_law_k", 3)]) (N := n_l_clean) (sc := He.DefD.scope d_l_clean) (by decide +kernel)) (fun _ _ _ _ _ => (pg_name (i := 3) sc_l_clean.nd rfl (Or.inl rfl) (Or.inr rfl))) (fun _ _ _ _ _ => pts_one (pt_cmpR oq_notIn (pe_ix xq_list (pv 1) (pv 3) (fun _ _ => rfl)) (pe_slice sq_list (pv 1) po_none (po_some (pv 3))) (by rfl))) (fun _ _ _ _ _ => (pe_ix xq_list (pv 1) (pv 3) (fun _ _ => rfl))))))), ?_⟩
  obtain ⟨v, xs, rfl, hx, hl, M, s0, i0, k⟩ := h
  obtain ⟨a, rfl, ha⟩ := i0.strs
  walk_at "vc"
  refine ⟨a, rfl, ⟨_, SqL.of (s0 _ _ ha)⟩, ?_⟩
  refine lc_go (ex := no) walkL s0 (fun i acc _ => acc = ((xs.take i).filter fun x => !decide (x = blk x.length)).map V.str) rfl (fun _ _ S => S.mh _ _ (S.mm _ _ ha)) ?_ ?_
  · rintro i v acc M1 H1 H1' D hi S1 hD m1 h1 rfl ⟨rfl, hv⟩
    obtain ⟨x, hx', rfl⟩ := map_at hv
    have hlx := hl x (mem_of_get hx')
    walk_at "vc"
    refine ⟨rfl, ?_⟩
    walk_at "vc"
    refine ⟨x, rfl, line_of (by omega), ?_⟩
    walk_at "vc"
    refine ⟨_, _, rfl, rfl, by omega, by omega, by decide +kernel, ?_⟩
    rw [rep_dot]
    walk_at "vc"
    refine ifnd (fun q => ?_) (fun q => ?_)
    · walk_at "vc"
      exact LcA.of hD S1 m1 h1 (len_tf (by omega)) (by rw [tkf_yes hx' (by simpa using q)])
    · exact LcS.of S1 m1 h1 (by rw [tkf_no hx' (by simpa using q)])
  · rintro D acc M1 H1 hD S1 m1 h1 rfl
    rw [List.length_map, tk_all] at h1
    have hD' : H1 D = some (.lst ((nbS xs).map V.str)) := h1
    have S2 := S1.fix h1 hD
    have hnl : (nbS xs).length ≤ 1000 := Nat.le_trans (List.length_filter_le _ _) hx
    walk_at "vc"
    refine ⟨D, _, rfl, .inl hD', ?_⟩
    walk_at "vc"
    rw [List.length_map]
    refine w_r1 (by omega) ?_
    rw [Int.toNat_natCast]
    refine lc_go (ex := no) walkR S2.mh (fun i acc _ => acc = (dedT (nbS xs) i).map V.str) rfl (fun _ _ _ => trivial) ?_ ?_
    · rintro i v acc M3 H3 H3' D' hi S3 hD' m3 h3 rfl ⟨rfl, rfl⟩
      have hD3 := S3.same _ _ ‹H1 D = some (.lst ((nbS xs).map V.str))›
      have hx := List.getElem?_eq_getElem hi
      have hx2 : ((nbS xs).map V.str)[i]? = some (.str (nbS xs)[i]) := by rw [List.getElem?_map, hx]; rfl
      walk_at "vc"
      refine ⟨rfl, ?_⟩
      walk_at "vc"
      refine w_ixl hD3 (atI_nat hx2) ?_
      walk_at "vc"
      refine ⟨D, _, rfl, hD3, fun p hp => ?_⟩
      rw [cutV_to, ← List.map_take]
      refine w_notInS (.inl upd_same) ?_
      walk_at "vc"
      have S4 := S3.new (.lst (((nbS xs).take i).map V.str)) hp
      have h4 : upd H3' p (.lst (((nbS xs).take i).map V.str)) D' = some (.lst ((dedT (nbS xs) i).map V.str)) := upd_old h3 hp
      refine ifnd (fun q => ?_) (fun q => ?_)
      · walk_at "vc"
        refine w_ixl (upd_old hD3 hp) (atI_nat hx2) ?_
        exact LcA.of hD' S4 m3 h4 (by rw [List.length_map]; have := dedT_len (nbS xs) i; omega) (by rw [dedT, hx]; simp [q])
      · exact LcS.of S4 m3 h4 (by rw [dedT, hx]; simp [q])
    · rintro D' acc M3 H3 hD' S3 m3 h3 rfl
      have hD0 : H D' = none := S1.hfree hD'
      have S4 := S2.trans S3
      exact k _ _ _ (S4.fix h3 hD0) (Is.of_strs upd_same)
def sp_l_closure : Sp := fun vs H Q _ => ∃ (v : V) (seeds : List Str) (n cap : Nat), vs = [v, .int n, .int cap] ∧ n ≤ 100 ∧ 1 ≤ cap ∧ cap ≤ 50 ∧ seeds.length ≤ 100 ∧ (∀ s ∈ seeds, s.length = n) ∧ ∃ M, Same M H ∧ Is M (dS seeds) v ∧
  (cap < (itB seeds (blk n) (cap + 1)).length → Ret M H Q .non) ∧ (∀ ys, (itB seeds (blk n) (cap + 1)).length ≤ cap → ys.Perm (itB seeds (blk n) (cap + 1)) → sortedS ys = true → Ret M H Q (dS ys))
theorem ok_l_closure (T : Tx K mg) : Good P w K mg base CX0 2 (He.fAd K (He.DefD.at_ d_l_closure)) p_l_closure sp_l_closure := by
  obtain ⟨fd, F⟩ := T.def_ 28 (d := d_l_closure) rfl
  have g_l_over : Good P w K mg base CX0 1 (He.fAd K (He.DefD.at_ d_l_over)) p_l_over sp_l_over := ok_l_over T
  refine good_of F sc_l_closure (fun _ _ _ _ _ _ us hl => match us, hl with | [_, _, _], _ => rfl) (by intro vs H Q E h; (repeat obtain ⟨_, h⟩ := h); subst_vars; rfl) fun cdv A outer s H vs Q E hr h => ?_
  have hu := hu_of hr
  refine ⟨_, (pss_cons (ps_par (i := 3) (j := 4) rfl sc_l_closure.nd rfl rfl (by decide) rfl rfl (pa_cons (pe_lst (pa_cons (pe_op op_mul_str pe_str (pv 1)) pa_nil)) (pa_cons (pe_disp (pps_cons (pe_op op_mul_str pe_str (pv 1)) pe_bl pps_nil) (by rfl) (by rfl) (fun z => by cases z) (by decide)) pa_nil)) (by rfl))  (pss_cons (ps_for PassesOwn.never rfl (pi_range1 (by rfl) T.b_range (pa_cons (pe_op op_add (pv 2) pe_int) pa_nil)) (pg_name (i := 5) sc_l_closure.nd rfl (Or.inl rfl) (Or.inl rfl))  (pss_one (ps_if (pt_cmpR op_lt (pv 5) (pe_callB cq_len (by rfl) T.b_len (by decide +kernel) (pa_cons (pv 3) pa_nil)) (nomark _))  (pss_cons (ps_for PassesOwn.never rfl (iq_list K (pv 0)) (pg_name (i := 6) sc_l_closure.nd rfl (Or.inl rfl) (Or.inl rfl))  (pss_cons (ps_set (i := 7) sc_l_closure.nd rfl (Or.inl rfl) (pe_good g_l_over (hr.mono (by decide)) rfl T.m_l_over (pa_cons (pv 6) (pa_cons (pe_ix xq_list (pv 3) (pv 5) (fun _ _ => rfl)) pa_nil))))  (pss_one (ps_if (pt_cmp (pc_dnotin hu (pv 7) (pv 4)) rfl)  (pss_cons (ps_dput hu (pv 4) (pv 7) pe_bl rfl)  (pss_one (ps_expr (eq_bm PySem.F.slot_list_append PySem.F.type_list_append mt_append (pv 3) (pa_cons (pv 7) pa_nil)))))  pss_nil))))  (pss_one (ps_if (pt_cmpR op_gt (pe_callB cq_len (by rfl) T.b_len (by decide +kernel) (pa_cons (pv 3) pa_nil)) (pv 2) (nomark _))  (pss_one (ps_ret pe_non))  pss_nil)))  pss_nil)))  (pss_one (ps_ret (pe_callB cr_sortedS (by rfl) T.b_sorted (by decide +kernel) (pa_cons (pv 3) pa_nil)))))), ?_⟩
  obtain ⟨v, seeds, n, cap, rfl, hn, hc1, hc2, hsl, hs, M, s0, i0, kN, kY⟩ := h
  obtain ⟨a, rfl, ha⟩ := i0.strs
  walk_at "vc"
  refine ⟨_, _, rfl, rfl, by omega, by omega, by decide +kernel, ?_⟩
  rw [rep_dot]
  walk_at "vc"
  intro f hf
  walk_at "vc"
  intro d hd
  refine w_one ?_
  walk_at "vc"
  refine ⟨_, _, rfl, rfl, by omega, by omega, by decide +kernel, ?_⟩
  rw [rep_dot]
  walk_at "vc"
  refine ⟨upd_same, [(.inr (blk n), .bl true)], rfl, by simp, ?_⟩
  obtain ⟨hfd, hd0⟩ := two_ne hd
  walk_at "vc"
  have S1 := (((Stp.refl (ex := no) s0).new (.lst [.str (blk n)]) hf).new (.dK []) hd).put (.dK (mergeK [] [(Sum.inr (blk n), V.bl true)])) (none_of_same s0 hd0) (.inl hd0)
  refine w_r1 (n := cap + 1) (by omega) ?_
  rw [Int.toNat_natCast]
  let I : Nat → Option V → Option V → Option V → List Str → L2.St → Hp → Prop := fun i o5 o6 o7 fs σ' H' => ∃ M', σ' = [some (.ref a), some (.int n), some (.int cap), some (.ref f), some (.ref d), o5, o6, o7] ∧ Stp no M H M' H' ∧ M' f = none ∧ M' d = none ∧ H' f = some (.lst (fs.map V.str)) ∧ H' d = some (.dK (kd yes fs))
  refine fo_go walkR (fun i σ' H' => ∃ o5 o6 o7, I i o5 o6 o7 (itB seeds (blk n) i) σ' H' ∧ (itB seeds (blk n) i).length ≤ cap)
    ⟨_, _, _, ⟨M, rfl, S1, none_of_same s0 hf, none_of_same s0 hd0, by rw [upd_ne (Ne.symm hfd), upd_ne (Ne.symm hfd), upd_same]; rfl, upd_same⟩, hc1⟩ (fun _ _ _ _ _ => trivial) ?_ ?_
  · rintro i x σ1 H1 H1' hi ⟨o5, o6, o7, ⟨M1, rfl, S1, mf, md, hf1, hd1⟩, hle⟩ ⟨rfl, rfl⟩
    walk_at "vc"
    refine ⟨f, _, rfl, .inl hf1, ?_⟩
    rw [List.length_map]
    walk_at "vc"
    refine ifd (fun q => ?_) (fun q => ?_)
    · have q : i < (itB seeds (blk n) i).length := by omega
      obtain ⟨r, hr1⟩ : ∃ r, (itB seeds (blk n) i)[i]? = some r := ⟨_, List.getElem?_eq_getElem q⟩
      have e1 : itB seeds (blk n) (i + 1) = stepB seeds r (itB seeds (blk n) i) := by rw [itB, hr1]
      refine w_cut (fun σ' H' => ∃ o6 o7, I i (some (.int i)) o6 o7 (itB seeds (blk n) (i + 1)) σ' H') ?_ ?_
      · rintro σ2 H2 ⟨o6, o7, M2, rfl, S2, mf2, md2, hf2, hd2⟩
        walk_at "vc"
        refine ⟨f, _, rfl, .inl hf2, ?_⟩
        rw [List.length_map]
        walk_at "vc"
        refine ifd (fun q2 => ?_) (fun q2 => ?_)
        · walk_at "vc"
          refine kN ?_ _ _ _ S2 rfl
          have := itB_le (seeds := seeds) (z := blk n) (show i + 1 ≤ cap + 1 by omega)
          omega
        · walk_at "vc"
          exact ⟨_, _, _, ⟨M2, rfl, S2, mf2, md2, hf2, hd2⟩, by omega⟩
      · intro U hU
        walk_at "vc"
        refine ⟨a, rfl, ⟨_, SqL.of (S1.mh _ _ (S1.mm _ _ ha))⟩, ?_⟩
        refine fo_go walkL (fun j σ' H' => ∃ o6 o7, I i (some (.int i)) o6 o7 ((seeds.take j).foldl (addB r) (itB seeds (blk n) i)) σ' H') ⟨_, _, M1, rfl, S1, mf, md, hf1, hd1⟩ (fun _ _ _ _ ⟨_, _, _, _, S, _⟩ => S.mh _ _ (S.mm _ _ ha)) ?_ ?_
        · rintro j v σ3 H3 H3' hj ⟨o6, o7, M3, rfl, S3, mf3, md3, hf3, hd3⟩ ⟨rfl, hv⟩
          obtain ⟨s', hs1, rfl⟩ := map_at hv
          obtain ⟨t, et, ht⟩ := stepB_pre (r := r) (seeds.take j) (itB seeds (blk n) i)
          have et' : (seeds.take j).foldl (addB r) (itB seeds (blk n) i) = itB seeds (blk n) i ++ t := et
          rw [List.length_take] at ht
          have hget : (((seeds.take j).foldl (addB r) (itB seeds (blk n) i)).map V.str)[i]? = some (.str r) := by
            rw [List.getElem?_map, et', List.getElem?_append_left q, hr1]
            rfl
          have hlen : ((seeds.take j).foldl (addB r) (itB seeds (blk n) i)).length ≤ 1000 := by
            rw [et', List.length_append]
            omega
          have e2 := fold_tk (g := addB r) (b := itB seeds (blk n) i) hs1
          walk_at "vc"
          refine w_ixl hf3 (atI_nat hget) ?_
          walk_at "vc"
          refine ⟨s', r, rfl, M3, S3.mh, by rw [hs s' (mem_of_get hs1)]; omega, ?_⟩
          rintro v M4 H4 S4 rfl
          obtain ⟨mf4, hf4⟩ := S4.keep mf3 hf3
          obtain ⟨md4, hd4⟩ := S4.keep md3 hd3
          walk_at "vc"
          refine kd_has hd4 (fun q3 => ?_) (fun q3 => ?_)
          · walk_at "vc"
            rw [e2]
            refine ⟨_, _, M4, rfl, S3.trans S4, mf4, md4, ?_, ?_⟩
            · rw [hf4, addB, if_pos q3]
            · rw [hd4, addB, if_pos q3]
          · walk_at "vc"
            refine kd_set (f := yes) hd4 q3 (by omega) rfl ?_
            walk_at "vc"
            have hf5 : upd H4 d (.dK (kd yes ((seeds.take j).foldl (addB r) (itB seeds (blk n) i) ++ [ovr s' r]))) f = some (.lst (((seeds.take j).foldl (addB r) (itB seeds (blk n) i)).map V.str)) := by rw [upd_ne (Ne.symm hfd)]; exact hf4
            refine ⟨⟨f, _, rfl, hf5⟩, ?_⟩
            walk_at "vc"
            refine ⟨f, _, _, rfl, rfl, hf5, line_lt (by rw [List.length_map]; omega), ?_⟩
            walk_at "vc"
            rw [e2]
            refine ⟨_, _, M4, rfl, ((S3.trans S4).put _ md4 (.inl hd0)).put _ mf4 (.inl hf), mf4, md4, ?_, ?_⟩
            · rw [upd_same, addB, if_neg q3]; simp
            · rw [upd_ne hfd, upd_same, addB, if_neg q3]
        · rintro σ3 H3 ⟨o6, o7, M3, rfl, S3, mf3, md3, hf3, hd3⟩
          walk_at "vc"
          rw [List.length_map, tk_all] at hf3 hd3
          rw [e1] at hU
          exact hU _ _ ⟨_, _, M3, rfl, S3, mf3, md3, hf3, hd3⟩
    · have e1 : itB seeds (blk n) (i + 1) = itB seeds (blk n) i := itB_stay (by omega) 1
      walk_at "vc"
      rw [e1]
      exact ⟨_, _, _, ⟨M1, rfl, S1, mf, md, hf1, hd1⟩, hle⟩
  · rintro σ1 H1 ⟨o5, o6, o7, ⟨M1, rfl, S1, mf, md, hf1, hd1⟩, hle⟩
    walk_at "vc"
    refine ⟨f, _, rfl, SqL.of hf1, by omega, ?_⟩
    intro ys p hp hs hpn
    refine kY ys hle hp hs _ _ _ (S1.lay _ hpn) (Is.of_strs upd_same)
end
end Nt
namespace Nt
section
variable {P : Program} {w : World} {K : PySem.W.Frag} {mg : Str → Option Value} {base : Heap}
def sp_l_seeds : Sp := fun vs H Q _ => ∃ (b : Addr) (v : V) (cs : Cells), vs = [.ref b, v] ∧ CellsOk cs ∧ ∃ M, Same M H ∧ Bag M H b ∧ Is M (cellsD cs) v ∧ RetB b M H Q (fun d => ∃ seeds, d = dS seeds ∧ SeedsOk cs seeds)
theorem ok_l_seeds (T : Tx K mg) : Good P w K mg base CX0 2 (He.fAd K (He.DefD.at_ d_l_seeds)) p_l_seeds sp_l_seeds := by
  obtain ⟨fd, F⟩ := T.def_ 31 (d := d_l_seeds) rfl
  have g_l_clean : Good P w K mg base CX0 1 (He.fAd K (He.DefD.at_ d_l_clean)) p_l_clean sp_l_clean := ok_l_clean T
  have g_l_pull : Good P w K mg base CX0 1 (He.fAd K (He.DefD.at_ d_l_pull)) p_l_pull sp_l_pull := ok_l_pull T
  refine good_of F sc_l_seeds (fun _ _ _ _ _ _ us hl => match us, hl with | [_, _], _ => rfl) (by intro vs H Q E h; (repeat obtain ⟨_, h⟩ := h); subst_vars; rfl) fun cdv A outer s H vs Q E hr h => ?_
  have hu := hu_of hr
  refine ⟨_, (pss_cons (ps_set (i := 2) sc_l_seeds.nd rfl (Or.inl rfl) (pe_lst pa_nil))  (pss_cons (ps_for PassesOwn.never rfl (pi_range1 (by rfl) T.b_range (pa_cons (pe_op op_add pe_int (pe_good g_l_pull (hr.mono (by decide)) rfl T.m_l_pull (pa_cons (pv 0) (pa_cons pe_int pa_nil)))) pa_nil)) (pg_name (i := 3) sc_l_seeds.nd rfl (Or.inl rfl) (Or.inl rfl))  (pss_cons (ps_setLc (i := 4) (own := [("_law_name", 6), ("_law_many", 7)]) (by rfl) sc_l_seeds.nd rfl rfl (sw_true rfl rfl rfl (by decide +kernel)) (iq_list K (pv 1)) (blkOk_by (own := [("_law_name", 6), ("_law_many", 7)]) (N := n_l_seeds) (sc := He.DefD.scope d_l_seeds) (by decide +kernel)) (fun _ _ _ _ _ => (gq_tup K (n := 2) rfl (pgs_cons (pg_name (i := 6) sc_l_seeds.nd rfl (Or.inl rfl) (Or.inr rfl)) (pgs_cons (pg_name (i := 7) sc_l_seeds.nd rfl (Or.inl rfl) (Or.inr rfl)) pgs_nil)))) (fun _ _ _ _ _ => pts_nil) (fun _ _ _ _ _ => (pe_ifExp (pt_cmpR op_lt (pe_good g_l_pull (hr.mono (by decide)) rfl T.m_l_pull (pa_cons (pv 0) (pa_cons pe_int pa_nil))) pe_int (nomark _)) pe_str (pe_callTy call_str_int (by rfl) T.b_str (by decide +kernel) (pa_cons (pe_good g_l_pull (hr.mono (by decide)) rfl T.m_l_pull (pa_cons (pv 0) (pa_cons (pv 7) pa_nil))) pa_nil)))))  (pss_cons (ps_if (pt_cmpR (op_eqD hr.units) (pv 4) (pe_op op_rep (pe_lst (pa_cons pe_str pa_nil)) (pe_callB cq_len (by rfl) T.b_len (by decide +kernel) (pa_cons (pv 1) pa_nil))) (nomark _))  (pss_cons (ps_set (i := 5) sc_l_seeds.nd rfl (Or.inr rfl) (pe_good g_l_pull (hr.mono (by decide)) rfl T.m_l_pull (pa_cons (pv 0) (pa_cons (pe_callB cq_len (by rfl) T.b_len (by decide +kernel) (pa_cons (pv 1) pa_nil)) pa_nil))))  (pss_one (ps_asg (pe_callTy call_str_int (by rfl) T.b_str (by decide +kernel) (pa_cons (pe_good g_l_pull (hr.mono (by decide)) rfl T.m_l_pull (pa_cons (pv 0) (pa_cons (pe_ix xq_tup (pe_ix xq_list (pv 1) (pv 5) (fun _ _ => rfl)) pe_int (fun _ _ => rfl)) pa_nil))) pa_nil)) (pg_sub (pv 4) (pv 5) set_list))))  pss_nil)  (pss_one (ps_expr (eq_bm PySem.F.slot_list_append PySem.F.type_list_append mt_append (pv 2) (pa_cons (pv 4) pa_nil)))))))  (pss_cons (ps_set (i := 8) sc_l_seeds.nd rfl (Or.inl rfl) (pe_ix xq_list (pv 2) (pe_un un_neg pe_int) (fun _ _ => rfl)))  (pss_cons (ps_for PassesOwn.never rfl (pi_range1 (by rfl) T.b_range (pa_cons (pe_callB cq_len (by rfl) T.b_len (by decide +kernel) (pa_cons (pv 1) pa_nil)) pa_nil)) (pg_name (i := 5) sc_l_seeds.nd rfl (Or.inr rfl) (Or.inl rfl))  (pss_one (ps_if (pt_val (pe_callB (cq_all rfl) (by rfl) T.b_all (by decide +kernel) (pa_cons (pe_lc (own := [("_law_signs", 4)]) (by rfl) sc_l_seeds.nd (iq_list K (pv 2)) (blkOk_by (own := [("_law_signs", 4)]) (N := n_l_seeds) (sc := He.DefD.scope d_l_seeds) (by decide +kernel)) (fun _ _ _ _ _ => (pg_name (i := 4) sc_l_seeds.nd rfl (Or.inl rfl) (Or.inr rfl))) (fun _ _ _ _ _ => pts_nil) (fun _ _ _ _ _ => (pe_cmpR op_eq (pe_ix xq_list (pv 4) (pv 5) (fun _ _ => rfl)) pe_str (nomark _)))) pa_nil)))  (pss_one (ps_asg (pe_callTy call_str_int (by rfl) T.b_str (by decide +kernel) (pa_cons (pe_good g_l_pull (hr.mono (by decide)) rfl T.m_l_pull (pa_cons (pv 0) (pa_cons (pe_ix xq_tup (pe_ix xq_list (pv 1) (pv 5) (fun _ _ => rfl)) pe_int (fun _ _ => rfl)) pa_nil))) pa_nil)) (pg_sub (pv 8) (pv 5) set_list)))  pss_nil)))  (pss_one (ps_ret (pe_good g_l_clean (hr.mono (by decide)) rfl T.m_l_clean (pa_cons (pe_lc (own := [("_law_signs", 4)]) (by rfl) sc_l_seeds.nd (iq_list K (pv 2)) (blkOk_by (own := [("_law_signs", 4)]) (N := n_l_seeds) (sc := He.DefD.scope d_l_seeds) (by decide +kernel)) (fun _ _ _ _ _ => (pg_name (i := 4) sc_l_seeds.nd rfl (Or.inl rfl) (Or.inr rfl))) (fun _ _ _ _ _ => pts_nil) (fun _ _ _ _ _ => (pe_m1 PySem.F.slot_str_join PySem.F.type_str_join mq_join pe_str (pv 4)))) pa_nil)))))))), ?_⟩
  obtain ⟨b, v, cs, rfl, hc, M, s0, B, ic, k⟩ := h
  obtain ⟨ca, cvs, rfl, hca, hcv⟩ := ic
  have hcl : cvs.length = cs.length := by rw [hcv.len, List.length_map]
  have hcL := hc.l1
  have hcL2 := hc.l2
  refine w_seq ?_
  refine w_asg ?_
  refine w_lst ?_
  refine w_nil ?_
  refine w_litT (by with_unfolding_all rfl) ?_
  intro f hf
  refine w_name ?_
  have hfb := B.ne hf
  -- the seeds as lists of signs
  let I : Nat → List (List Nat) → L2.St → Hp → Prop := fun i cds σ' H' => ∃ o3 o4 o5 M' rs, σ' = [some (.ref b), some (.ref ca), some (.ref f), o3, o4, o5, none, none, none] ∧ Stp (exB b) M H M' H' ∧ Bag M' H' b ∧ M' f = none ∧
    H' f = some (.lst (rs.map V.ref)) ∧ OL H M' H' rs (cds.map fun l => l.map ch) ∧ f ∉ rs ∧ b ∉ rs ∧ cds.length = i ∧ ∀ l ∈ cds, RwL cs l
  with_reducible refine w_cut (fun σ' H' => ∃ cds, 2 ≤ cds.length ∧ cds.length ≤ 5 ∧ I cds.length cds σ' H') ?_ ?_
  · rintro σ1 H1 ⟨cds, hl2, hl5, o3, o4, o5, M1, rs, rfl, S1, B1, mf1, hf1, ol, hfr, hbr, _, hrw⟩
    have hrl := ol.len
    rw [List.length_map] at hrl
    obtain ⟨m, hm⟩ : ∃ m, cds.length = m + 1 := ⟨cds.length - 1, by omega⟩
    obtain ⟨L, hL⟩ : ∃ L, rs[m]? = some L := ⟨_, List.getElem?_eq_getElem (by omega)⟩
    have hLm := mem_of_get hL
    have hfr' := hfr
    walk_at "vc"
    refine w_ixl (v := .ref L) hf1 (atI_last (m := m) (by rw [List.length_map]; omega) (by rw [List.getElem?_map, hL]; rfl)) ?_
    with_reducible refine w_name ?_
    let J : List (List Nat) → L2.St → Hp → Prop := fun cds σ' H' => ∃ o3 o4 o5 M', σ' = [some (.ref b), some (.ref ca), some (.ref f), o3, o4, o5, none, none, some (.ref L)] ∧ Stp (exB b) M H M' H' ∧ Bag M' H' b ∧ M' f = none ∧
      H' f = some (.lst (rs.map V.ref)) ∧ OL H M' H' rs (cds.map fun l => l.map ch) ∧ cds.length = m + 1 ∧ ∀ l ∈ cds, RwL cs l
    have hca1 := S1.mh _ _ (S1.mm _ _ hca)
    with_reducible refine w_cut (fun σ' H' => ∃ cds, J cds σ' H' ∧ ∀ j, j < cs.length → Told cds j) ?_ ?_
    · rintro σ2 H2 ⟨cds, ⟨o3, o4, o5, M2, rfl, S2, B2, mf2, hf2, ol, hm, hrw⟩, ht⟩
      walk_at "vc"
      refine ⟨f, rfl, ⟨_, SqL.of hf2⟩, ?_⟩
      have hrl2 : rs.length = cds.length := by have := ol.len; rw [List.length_map] at this; exact this
      refine lc_go (ex := no) walkL S2.mh (fun n acc _ => acc = ((cds.take n).map mkS).map V.str) rfl (fun _ _ S => S.same _ _ hf2) ?_ ?_
      · rintro n v acc M3 H3 H3' D hn S3 hD m3 h3 rfl ⟨rfl, hv⟩
        obtain ⟨a, ha, rfl⟩ := map_at hv
        rw [List.length_map] at hn
        have hnl : n < cds.length := by omega
        have hln := List.getElem?_eq_getElem hnl
        obtain ⟨a', ha', _, _, hla⟩ := ol.at (i := n) (s := cds[n].map ch) (by rw [List.getElem?_map, hln]; rfl)
        rw [ha] at ha'
        cases ha'
        have hlr := (hrw _ (List.getElem_mem hnl)).1
        walk_at "vc"
        refine ⟨rfl, ?_⟩
        walk_at "vc"
        refine ⟨⟨_, rfl⟩, ?_⟩
        walk_at "vc"
        refine ⟨_, a, _, rfl, rfl, .inl (S3.same _ _ hla), join_size _ (by omega), ?_⟩
        rw [join_ch]
        refine LcA.of hD S3 m3 h3 (by rw [List.length_map, List.length_map, List.length_take]; omega) ?_
        rw [tk_snoc hln]
        simp only [List.map_append, List.map_cons, List.map_nil]
      · rintro D acc M3 H3 hD S3 m3 h3 rfl
        rw [List.length_map, hrl2, tk_all] at h3
        walk_at "vc"
        refine ⟨_, cds.map mkS, rfl, by rw [List.length_map]; omega, ?_, _, (S3.fix h3 hD).mh, Is.of_strs upd_same, ?_⟩
        · intro x hx
          obtain ⟨l, hl, rfl⟩ := List.mem_map.mp hx
          have := (hrw l hl).1
          rw [len_mk]
          omega
        · intro v M4 H4 S4 i4
          exact k _ _ _ _ ⟨_, rfl, seeds_ok hc (by omega) hrw ht⟩ ((S2.trans (S3.fix h3 hD).of).trans S4.of) ((B2.keep (S3.fix h3 hD)).keep S4) i4
    · intro U hU
      walk_at "vc"
      refine ⟨ca, cvs, rfl, .inl hca1, ?_⟩
      walk_at "vc"
      refine w_r1 (n := cvs.length) (by omega) ?_
      rw [Int.toNat_natCast]
      refine fo_go walkR (fun i σ' H' => ∃ cds, J cds σ' H' ∧ ∀ j, j < i → Told cds j) ⟨cds, ⟨_, _, _, M1, rfl, S1, B1, mf1, hf1, ol, hm, hrw⟩, by intro j h; omega⟩ (fun _ _ _ _ _ => trivial) ?_ ?_
      · rintro i x σ1 H2 H2' hi ⟨cds, ⟨o3, o4, o5, M2, rfl, S2, B2, mf2, hf2, ol, hm, hrw⟩, ht⟩ ⟨rfl, rfl⟩
        have hrl2 : rs.length = cds.length := by have := ol.len; rw [List.length_map] at this; exact this
        walk_at "vc"
        refine ⟨f, rfl, ⟨_, SqL.of hf2⟩, ?_⟩
        refine lc_go (ex := no) walkL S2.mh (fun n acc _ => acc = ((cds.take n).map fun l => decide (l[i]? = some 46)).map V.bl) rfl (fun _ _ S => S.same _ _ hf2) ?_ ?_
        · rintro n v acc M3 H3 H3' D hn S3 hD m3 h3 rfl ⟨rfl, hv⟩
          obtain ⟨a, ha, rfl⟩ := map_at hv
          rw [List.length_map] at hn
          have hnl : n < cds.length := by omega
          have hln := List.getElem?_eq_getElem hnl
          obtain ⟨a', ha', _, _, hla⟩ := ol.at (i := n) (s := cds[n].map ch) (by rw [List.getElem?_map, hln]; rfl)
          rw [ha] at ha'
          cases ha'
          have hlr := (hrw _ (List.getElem_mem hnl)).1
          have hil : i < cds[n].length := by omega
          walk_at "vc"
          refine ⟨rfl, ?_⟩
          walk_at "vc"
          refine w_ixl (v := .str (ch cds[n][i])) (S3.same _ _ hla) (atI_nat (by rw [List.getElem?_map, List.getElem?_map, List.getElem?_eq_getElem hil]; rfl)) ?_
          walk_at "vc"
          refine LcA.of hD S3 m3 h3 (by rw [List.length_map, List.length_map, List.length_take]; omega) ?_
          rw [tk_snoc hln]
          have e1 : decide (ch cds[n][i] = Str.ofString ".") = decide (cds[n][i]? = some 46) := by
            rw [List.getElem?_eq_getElem hil, dot_ofS]
            simp
          rw [e1]
          simp only [List.map_append, List.map_cons, List.map_nil]
        · rintro D acc M3 H3 hD S3 m3 h3 rfl
          rw [List.length_map, hrl2, tk_all] at h3
          walk_at "vc"
          refine ⟨D, _, rfl, h3, ?_⟩
          walk_at "vc"
          obtain ⟨mf3, hf3⟩ := S3.keep mf2 hf2
          have ol3 := ol.step (M' := M3) (H' := H3) fun a ha o m e => S3.keep m e
          refine ifb (fun q => ?_) (fun q => ?_)
          · have hk := List.getElem?_eq_getElem (show i < cs.length by omega)
            obtain ⟨a0, hv0, ha0⟩ := cells_get hcv hk
            have ha3 := S3.same _ _ (S2.mh _ _ (S2.mm _ _ ha0))
            have hca3 := S3.same _ _ (S2.mh _ _ (S2.mm _ _ hca))
            have hk1 := hc.mn _ (mem_of_get hk)
            walk_at "vc"
            refine w_ixl hca3 (atI_nat hv0) ?_
            walk_at "vc"
            refine w_ixt ha3 rfl ?_
            walk_at "vc"
            refine ⟨b, cs[i].2, rfl, hk1.1, by omega, M3, S3.mh, B2.keep S3, ?_⟩
            rintro d v M6 H6 ⟨j2, rfl, hj2⟩ S6 B6 rfl
            obtain ⟨mf6, hf6⟩ := S6.keepB mf3 hf3 hfb
            have ol6 := ol3.step (M' := M6) (H' := H6) fun a ha o m e => S6.keepB m e (fun z => hbr (z ▸ ha))
            obtain ⟨l, hlm⟩ : ∃ l, cds[m]? = some l := ⟨_, List.getElem?_eq_getElem (by omega)⟩
            obtain ⟨L', hL', hL0, mL, hLv⟩ := ol6.at (i := m) (s := l.map ch) (by rw [List.getElem?_map, hlm]; rfl)
            rw [hL] at hL'
            cases hL'
            have hlr := hrw l (mem_of_get hlm)
            refine ⟨_, rfl, lo2 j2 (by omega), ?_⟩
            rw [dig j2 (by omega)]
            walk_at "vc"
            refine w_setl hLv (ixN_nat (by rw [List.length_map, List.length_map, hlr.1]; omega)) ?_
            have hLf : L ≠ f := fun z => hfr (z ▸ hLm)
            have hLb : L ≠ b := fun z => hbr (z ▸ hLm)
            have o7 := ol6.put (s := (l.set i (48 + j2)).map ch) hL
            have e7 : (cds.map fun l => l.map ch).set m ((l.set i (48 + j2)).map ch) = (cds.set m (l.set i (48 + j2))).map fun l => l.map ch := by simp [List.map_set]
            rw [e7] at o7
            refine ⟨cds.set m (l.set i (48 + j2)), ⟨_, _, _, M6, rfl, ((S2.trans S3.of).trans S6).put _ mL (.inl hL0), B6.put mL hLb, mf6, by rw [upd_ne (Ne.symm hLf)]; exact hf6, ?_, by rw [List.length_set]; exact hm, ?_⟩, ?_⟩
            · have e8 : (((l.map ch).map V.str).set i (V.str (ch (48 + j2)))) = ((l.set i (48 + j2)).map ch).map V.str := by simp [List.map_set]
              rw [e8]
              exact o7
            · intro l' hl'
              rcases mem_set hl' with z | z
              · exact hrw l' z
              · rw [z]; exact hlr.set hk (.inr ⟨by omega, by omega⟩)
            · intro j hj
              by_cases e : j = i
              · rw [e]; exact Told.now hlm (by rw [hlr.1]; omega) (by omega)
              · exact (ht j (by omega)).set hlm e
          · walk_at "vc"
            refine ⟨cds, ⟨_, _, _, M3, rfl, S2.trans S3.of, B2.keep S3, mf3, hf3, ol3, hm, hrw⟩, ?_⟩
            intro j hj
            by_cases e : j = i
            · rw [e]; exact told_of (n := cs.length) (fun l hl => (hrw l hl).1) (by omega) q
            · exact ht j (by omega)
      · rintro σ1 H2 ⟨cds, hJ, ht⟩
        exact hU _ _ ⟨cds, hJ, fun j hj => ht j (by omega)⟩
  · intro U hU
    walk_at "vc"
    refine ⟨b, 4, rfl, by decide, by decide, M, ((Stp.refl (ex := no) s0).new (.lst []) hf).mh, B.new s0 hf, ?_⟩
    rintro d v M1 H1 ⟨j, rfl, hj⟩ S1 B1 rfl
    obtain ⟨mf1, hf1⟩ := S1.keepB (none_of_same s0 hf) upd_same hfb
    have S1 := ((Stp.refl (ex := exB b) s0).new (.lst []) hf).trans S1
    walk_at "vc"
    refine w_r1 (n := 2 + j) (by omega) ?_
    rw [Int.toNat_natCast]
    refine fo_go walkR (fun i σ' H' => ∃ cds, I i cds σ' H') ⟨[], _, _, _, M1, [], rfl, S1, B1, mf1, hf1, trivial, by simp, by simp, rfl, by simp⟩ (fun _ _ _ _ _ => trivial) ?_ ?_
    · rintro i x σ1 H2 H2' hi ⟨cds, o3, o4, o5, M2, rs, rfl, S2, B2, mf2, hf2, ol, hfr, hbr, hcd, hrw⟩ ⟨rfl, rfl⟩
      refine w_name ?_
      let J : List (List Nat) → List Nat → L2.St → Hp → Prop := fun cds l σ' H' => ∃ o5 M' rs D, σ' = [some (.ref b), some (.ref ca), some (.ref f), some (.int i), some (.ref D), o5, none, none, none] ∧ Stp (exB b) M H M' H' ∧ Bag M' H' b ∧ M' f = none ∧
        H' f = some (.lst (rs.map V.ref)) ∧ OL H M' H' rs (cds.map fun l => l.map ch) ∧ f ∉ rs ∧ b ∉ rs ∧ H D = none ∧ D ≠ f ∧ D ≠ b ∧ D ∉ rs ∧ M' D = none ∧ H' D = some (.lst ((l.map ch).map V.str))
      with_reducible refine w_cut (fun σ' H' => ∃ l, RwL cs l ∧ J cds l σ' H') ?_ ?_
      · rintro σ3 H3 ⟨l, hl, o5, M3, rs, D, rfl, S3, B3, mf3, hf3, ol, hfr, hbr, hD0, hDf, hDb, hDr, mD, hD⟩
        refine w_cut (fun σ' H' => ∃ l, RwL cs l ∧ J cds l σ' H') ?_ ?_
        · rintro σ4 H4 ⟨l, hl, o5, M4, rs, D, rfl, S4, B4, mf4, hf4, ol, hfr, hbr, hD0, hDf, hDb, hDr, mD, hD⟩
          have hrl := ol.len
          rw [List.length_map] at hrl
          walk_at "vc"
          refine ⟨⟨f, _, rfl, hf4⟩, ?_⟩
          walk_at "vc"
          refine ⟨f, _, _, rfl, rfl, hf4, line_lt (by rw [List.length_map]; omega), ?_⟩
          walk_at "vc"
          have o1 := (OL.snoc hD0 mD hD ol hDr).step (M' := M4) (H' := upd H4 f (.lst (rs.map V.ref ++ [V.ref D]))) fun a ha o m q => ⟨m, by
            rw [upd_ne (fun z => by
              subst z
              rcases List.mem_append.mp ha with z | z
              · exact hfr z
              · exact hDf (List.mem_singleton.mp z).symm)]
            exact q⟩
          refine ⟨cds ++ [l], _, _, _, M4, rs ++ [D], rfl, S4.put _ mf4 (.inl hf), B4.put mf4 hfb, mf4, by rw [upd_same]; simp, by rw [List.map_append]; exact o1, ?_, ?_, by rw [List.length_append, hcd]; rfl, ?_⟩
          · intro z
            rcases List.mem_append.mp z with z | z
            · exact hfr z
            · exact hDf (List.mem_singleton.mp z).symm
          · intro z
            rcases List.mem_append.mp z with z | z
            · exact hbr z
            · exact hDb (List.mem_singleton.mp z).symm
          · intro l' h'
            rcases List.mem_append.mp h' with z | z
            · exact hrw l' z
            · rw [List.mem_singleton.mp z]; exact hl
        · intro U hU
          have hca3 := S3.mh _ _ (S3.mm _ _ hca)
          walk_at "vc"
          intro p hp
          walk_at "vc"
          refine ⟨ca, cvs, rfl, .inl (upd_old hca3 hp), ?_⟩
          walk_at "vc"
          refine ⟨p, _, _, rfl, rfl, upd_same, by omega, by omega, by rw [Int.toNat_natCast]; exact line_of (by show 1 * cvs.length ≤ _; omega), fun q hq => ?_⟩
          rw [Int.toNat_natCast, rep_flat, dots_V]
          have S4 := (S3.new (.lst [V.str (Str.ofString ".")]) hp).new (.lst ((List.replicate cvs.length ("." : Str)).map V.str)) hq
          have B4 := (B3.new (o := .lst [V.str (Str.ofString ".")]) S3.mh hp).new (o := .lst ((List.replicate cvs.length ("." : Str)).map V.str)) (S3.new (.lst [V.str (Str.ofString ".")]) hp).mh hq
          have old : ∀ x o, H3 x = some o → upd (upd H3 p (.lst [V.str (Str.ofString ".")])) q (.lst ((List.replicate cvs.length ("." : Str)).map V.str)) x = some o := fun x o e => upd_old (upd_old e hp) hq
          have hq4 : upd (upd H3 p (.lst [V.str (Str.ofString ".")])) q (.lst ((List.replicate cvs.length ("." : Str)).map V.str)) q = some (.lst ((List.replicate cvs.length ("." : Str)).map V.str)) := upd_same
          generalize upd (upd H3 p (.lst [V.str (Str.ofString ".")])) q (.lst ((List.replicate cvs.length ("." : Str)).map V.str)) = H4 at S4 B4 old hq4 ⊢
          refine w_eqStrs (xs := l.map ch) (ys := List.replicate cvs.length ".") (old _ _ hD) hq4 (rwl_ok hc hl) (dots_ok _) ?_
          walk_at "vc"
          have ol4 := ol.step (M' := M3) (H' := H4) fun a _ o m e => ⟨m, old _ _ e⟩
          refine ifb (fun _ => ?_) (fun _ => ?_)
          · walk_at "vc"
            refine ⟨ca, cvs, rfl, .inl (old _ _ hca3), ?_⟩
            walk_at "vc"
            refine ⟨b, cvs.length, rfl, by omega, by omega, M3, S4.mh, B4, ?_⟩
            rintro d v M5 H5 ⟨j, rfl, hj⟩ S5 B5 rfl
            have hjc : j < cs.length := by omega
            have hk := List.getElem?_eq_getElem hjc
            obtain ⟨a0, hv0, ha0⟩ := cells_get hcv hk
            have ha5 := S5.mh _ _ (S5.mm _ _ (S3.mm _ _ ha0))
            have hca5 := S5.mh _ _ (S5.mm _ _ (S3.mm _ _ hca))
            obtain ⟨mD5, hD5⟩ := S5.keepB mD (old _ _ hD) hDb
            obtain ⟨mf5, hf5⟩ := S5.keepB mf3 (old _ _ hf3) hfb
            have ol5 := ol4.step (M' := M5) (H' := H5) fun a ha o m e => S5.keepB m e (fun z => hbr (z ▸ ha))
            walk_at "vc"
            refine w_ixl hca5 (atI_nat hv0) ?_
            walk_at "vc"
            refine w_ixt ha5 rfl ?_
            walk_at "vc"
            have hk1 := hc.mn _ (mem_of_get hk)
            refine ⟨b, cs[j].2, rfl, hk1.1, by omega, M5, S5.mh, B5, ?_⟩
            rintro d v M6 H6 ⟨j2, rfl, hj2⟩ S6 B6 rfl
            obtain ⟨mD6, hD6⟩ := S6.keepB mD5 hD5 hDb
            obtain ⟨mf6, hf6⟩ := S6.keepB mf5 hf5 hfb
            have ol6 := ol5.step (M' := M6) (H' := H6) fun a ha o m e => S6.keepB m e (fun z => hbr (z ▸ ha))
            refine ⟨_, rfl, lo2 j2 (by omega), ?_⟩
            rw [dig j2 (by omega)]
            walk_at "vc"
            refine w_setl hD6 (ixN_nat (by rw [List.length_map, List.length_map, hl.1]; exact hjc)) ?_
            refine hU _ _ ⟨l.set j (48 + j2), hl.set hk (.inr ⟨by omega, by omega⟩), _, M6, rs, D, rfl, ((S4.trans S5).trans S6).put _ mD6 (.inl hD0), B6.put mD6 hDb, mf6, by rw [upd_ne (Ne.symm hDf)]; exact hf6,
              ol6.step fun a ha o m e => ⟨m, by rw [upd_ne (ne_mem hDr ha)]; exact e⟩, hfr, hbr, hD0, hDf, hDb, hDr, mD6, by rw [upd_same]; simp [List.map_set]⟩
          · walk_at "vc"
            exact hU _ _ ⟨l, hl, _, M3, rs, D, rfl, S4, B4, mf3, old _ _ hf3, ol4, hfr, hbr, hD0, hDf, hDb, hDr, mD, old _ _ hD⟩
      · intro U hU
        have hca2 := S2.mh _ _ (S2.mm _ _ hca)
        walk_at "vc"
        refine ⟨ca, rfl, ⟨_, SqL.of hca2⟩, ?_⟩
        refine lc_goB walkL S2.mh B2 (fun n acc _ => ∃ l : List Nat, l.length = n ∧ (∀ (j c : Nat) (k : Str × Nat), l[j]? = some c → cs[j]? = some k → SgOk k.2 c) ∧ acc = (l.map ch).map V.str) ⟨[], rfl, by simp, rfl⟩ (fun _ _ S => S.mh _ _ (S.mm _ _ (S2.mm _ _ hca))) ?_ ?_
        · rintro n v acc M3 H3 H3' D hn S3 B3 hD neD m3 h3 ⟨l, hll, hlr, rfl⟩ ⟨rfl, hv⟩
          obtain ⟨k0, a0, hk, rfl, ha0⟩ := cells_at hcv hv
          have ha3 := S3.mh _ _ (S3.mm _ _ (S2.mm _ _ ha0))
          refine g_pair ha3 ⟨rfl, ?_⟩
          walk_at "vc"
          refine ⟨b, 5, rfl, by decide, by decide, M3, S3.mh, B3, ?_⟩
          rintro d v M4 H4 ⟨j, rfl, hj⟩ S4 B4 rfl
          obtain ⟨m4, h4⟩ := S4.keepB m3 h3 neD
          have more : ∀ c, SgOk k0.2 c → ∀ (j d : Nat) (k : Str × Nat), (l ++ [c])[j]? = some d → cs[j]? = some k → SgOk k.2 d := by
            intro c hc j d k hd hk'
            by_cases q : j < l.length
            · rw [List.getElem?_append_left q] at hd
              exact hlr j d k hd hk'
            · rw [List.getElem?_append_right (by omega)] at hd
              have hj : j - l.length = 0 := by
                have := lt_of_get hd
                simp at this
                omega
              have e : j = n := by omega
              rw [hj] at hd
              rw [e, hk] at hk'
              cases hk'
              have : c = d := by simpa using hd
              rw [← this]; exact hc
          walk_at "vc"
          refine ifd (fun q => ?_) (fun q => ?_)
          · walk_at "vc"
            refine LcB.of hD neD (S3.trans S4) B4 m4 h4 (by rw [List.length_map, List.length_map]; omega) ⟨l ++ [46], by simp [hll], more 46 (.inl rfl), by rw [dot_ofS]; simp⟩
          · walk_at "vc"
            have hk1 := hc.mn k0 (mem_of_get hk)
            refine ⟨b, k0.2, rfl, hk1.1, by omega, M4, S4.mh, B4, ?_⟩
            rintro d v M5 H5 ⟨j2, rfl, hj2⟩ S5 B5 rfl
            obtain ⟨m5, h5⟩ := S5.keepB m4 h4 neD
            refine ⟨_, rfl, lo2 j2 (by omega), ?_⟩
            rw [dig j2 (by omega)]
            refine LcB.of hD neD ((S3.trans S4).trans S5) B5 m5 h5 (by rw [List.length_map, List.length_map]; omega) ⟨l ++ [48 + j2], by simp [hll], more _ (.inr ⟨by omega, by omega⟩), by simp⟩
        · rintro D acc M3 H3 hD neD S3 B3 m3 h3 ⟨l, hll, hlr, rfl⟩
          walk_at "vc"
          obtain ⟨mf3, hf3⟩ := S3.keepB mf2 hf2 hfb
          refine hU _ _ ⟨l, ⟨by omega, hlr⟩, _, M3, rs, D, rfl, S2.trans S3, B3, mf3, hf3, ol.step fun a ha o m e => S3.keepB m e (fun z => hbr (z ▸ ha)), hfr, hbr, S2.hfree hD, ?_, neD, ?_, m3, h3⟩
          · intro z; rw [z, hf2] at hD; cases hD
          · intro z
            obtain ⟨_, _, o, ho⟩ := ol.mem z
            rw [ho] at hD; cases hD
    · rintro σ1 H2 ⟨cds, hI⟩
      refine hU _ _ ⟨cds, ?_⟩
      obtain ⟨o3, o4, o5, M2, rs, rfl, S2, B2, mf2, hf2, ol, hfr, hbr, hcd, hrw⟩ := hI
      exact ⟨by omega, by omega, _, _, _, M2, rs, rfl, S2, B2, mf2, hf2, ol, hfr, hbr, rfl, hrw⟩
end
end Nt
namespace Nt
section
variable {P : Program} {w : World} {K : PySem.W.Frag} {mg : Str → Option Value} {base : Heap}
def sp_l_band : Sp := fun vs H Q _ => ∃ (b : Addr), vs = [.ref b, .int 2, .int 5, .int 40] ∧ ∃ M, Same M H ∧ Bag M H b ∧ RetB b M H Q (fun d => ∃ cs seeds rows, d = bandD cs seeds rows ∧ BandOk cs seeds rows)
theorem ok_l_band (T : Tx K mg) : Good P w K mg base CX0 4 (He.fAd K (He.DefD.at_ d_l_band)) p_l_band sp_l_band := by
  obtain ⟨fd, F⟩ := T.def_ 32 (d := d_l_band) rfl
  have g_l_clean : Good P w K mg base CX0 1 (He.fAd K (He.DefD.at_ d_l_clean)) p_l_clean sp_l_clean := ok_l_clean T
  have g_l_closure : Good P w K mg base CX0 2 (He.fAd K (He.DefD.at_ d_l_closure)) p_l_closure sp_l_closure := ok_l_closure T
  have g_l_names : Good P w K mg base CX0 3 (He.fAd K (He.DefD.at_ d_l_names)) p_l_names sp_l_names := ok_l_names T
  have g_l_pick : Good P w K mg base CX0 2 (He.fAd K (He.DefD.at_ d_l_pick)) p_l_pick sp_l_pick := ok_l_pick T
  have g_l_pull : Good P w K mg base CX0 1 (He.fAd K (He.DefD.at_ d_l_pull)) p_l_pull sp_l_pull := ok_l_pull T
  have g_l_seeds : Good P w K mg base CX0 2 (He.fAd K (He.DefD.at_ d_l_seeds)) p_l_seeds sp_l_seeds := ok_l_seeds T
  refine good_of F sc_l_band (fun _ _ _ _ _ _ us hl => match us, hl with | [_, _, _, _], _ => rfl) (by intro vs H Q E h; (repeat obtain ⟨_, h⟩ := h); subst_vars; rfl) fun cdv A outer s H vs Q E hr h => ?_
  have hu := hu_of hr
  refine ⟨_, (pss_cons (ps_set (i := 4) sc_l_band.nd rfl (Or.inl rfl) (pe_good g_l_names (hr.mono (by decide)) rfl T.m_l_names (pa_cons (pv 0) (pa_cons (pe_op op_add (pv 1) (pe_good g_l_pull (hr.mono (by decide)) rfl T.m_l_pull (pa_cons (pv 0) (pa_cons (pe_op op_add (pe_op op_sub (pv 2) (pv 1)) pe_int) pa_nil)))) pa_nil))))  (pss_cons (ps_setLc (i := 5) (own := [("_law_name", 6)]) (by rfl) sc_l_band.nd rfl rfl (sw_true rfl rfl rfl (by decide +kernel)) (iq_list K (pv 4)) (blkOk_by (own := [("_law_name", 6)]) (N := n_l_band) (sc := He.DefD.scope d_l_band) (by decide +kernel)) (fun _ _ _ _ _ => (pg_name (i := 6) sc_l_band.nd rfl (Or.inl rfl) (Or.inr rfl))) (fun _ _ _ _ _ => pts_nil) (fun _ _ _ _ _ => (pe_tup (pa_cons (pv 6) (pa_cons (pe_good g_l_pick (hr.mono (by decide)) rfl T.m_l_pick (pa_cons (pv 0) (pa_cons (pe_lst (pa_cons pe_int (pa_cons pe_int (pa_cons pe_int (pa_cons pe_int (pa_cons pe_int (pa_cons pe_int pa_nil))))))) pa_nil))) pa_nil)))))  (pss_cons (ps_set (i := 7) sc_l_band.nd rfl (Or.inl rfl) (pe_good g_l_seeds (hr.mono (by decide)) rfl T.m_l_seeds (pa_cons (pv 0) (pa_cons (pv 5) pa_nil))))  (pss_cons (ps_for PassesOwn.never rfl (iq_list K (pe_lst (pa_cons (pe_callB cq_len (by rfl) T.b_len (by decide +kernel) (pa_cons (pv 5) pa_nil)) (pa_cons pe_int (pa_cons pe_int pa_nil))))) (pg_name (i := 8) sc_l_band.nd rfl (Or.inr rfl) (Or.inl rfl))  (pss_cons (ps_par (i := 5) (j := 7) rfl sc_l_band.nd rfl rfl (by decide) rfl rfl (pa_cons (pe_slice sq_list (pv 5) po_none (po_some (pv 8))) (pa_cons (pe_good g_l_clean (hr.mono (by decide)) rfl T.m_l_clean (pa_cons (pe_lc (own := [("_law_seed", 10)]) (by rfl) sc_l_band.nd (iq_list K (pv 7)) (blkOk_by (own := [("_law_seed", 10)]) (N := n_l_band) (sc := He.DefD.scope d_l_band) (by decide +kernel)) (fun _ _ _ _ _ => (pg_name (i := 10) sc_l_band.nd rfl (Or.inl rfl) (Or.inr rfl))) (fun _ _ _ _ _ => pts_nil) (fun _ _ _ _ _ => (pe_slice sl_str (pv 10) po_none (po_some (pv 8))))) pa_nil)) pa_nil)) (by rfl))  (pss_cons (ps_set (i := 9) sc_l_band.nd rfl (Or.inl rfl) (pe_good g_l_closure (hr.mono (by decide)) rfl T.m_l_closure (pa_cons (pv 7) (pa_cons (pe_callB cq_len (by rfl) T.b_len (by decide +kernel) (pa_cons (pv 5) pa_nil)) (pa_cons (pv 3) pa_nil)))))  (pss_one (ps_if (pt_cmpR op_notN (pv 9) pe_non (nomark _))  (pss_one (ps_ret (pe_tup (pa_cons (pv 5) (pa_cons (pv 7) (pa_cons (pv 9) pa_nil))))))  pss_nil)))))  (pss_one (ps_ret (pe_tup (pa_cons (pv 5) (pa_cons (pv 7) (pa_cons (pe_lst (pa_cons (pe_op op_mul_str pe_str (pe_callB cq_len (by rfl) T.b_len (by decide +kernel) (pa_cons (pv 5) pa_nil))) pa_nil)) pa_nil)))))))))), ?_⟩
  obtain ⟨b, rfl, M, s0, B, k⟩ := h
  walk_at "vc"
  refine ⟨b, 4, rfl, by decide, by decide, M, s0, B, ?_⟩
  rintro d v M1 H1 ⟨j, rfl, hj⟩ S1 B1 rfl
  walk_at "vc"
  refine ⟨b, 2 + j, rfl, by omega, M1, S1.mh, B1, ?_⟩
  rintro d v M2 H2 ⟨nms, rfl, hnl, hnd, hok⟩ S2 B2 i2
  obtain ⟨na, rfl, hna⟩ := i2.strs
  have S2 := S1.trans S2
  walk_at "vc"
  refine ⟨na, rfl, ⟨_, SqL.of (S2.mh _ _ hna)⟩, ?_⟩
  refine lc_goB walkL S2.mh B2 (fun n acc M' => ∃ cs : Cells, cs.map (·.1) = nms.take n ∧ (∀ c ∈ cs, 1 ≤ c.2 ∧ c.2 ≤ 4) ∧ IsA M' (cs.map cellD) acc) ⟨[], rfl, by simp, rfl⟩ (fun _ _ S => S.mh _ _ (S.mm _ _ hna)) ?_ ?_
  · rintro n v acc M3 H3 H3' D hn S3 B3 hD neD m3 h3 ⟨cs, hcs, hm, ia⟩ ⟨rfl, hv⟩
    obtain ⟨nm, hnm, rfl⟩ := map_at hv
    refine w_name ?_
    refine ⟨rfl, ?_⟩
    walk_at "vc"
    intro p hp
    have S4 := S3.lay (.lst [.int 2, .int 3, .int 2, .int 1, .int 2, .int 4]) hp
    have B4 := B3.lay (o := .lst [.int 2, .int 3, .int 2, .int 1, .int 2, .int 4]) S3.mh hp
    walk_at "vc"
    refine ⟨b, .ref p, [.int (2 : Nat), .int (3 : Nat), .int (2 : Nat), .int (1 : Nat), .int (2 : Nat), .int (4 : Nat)], rfl, by decide, by decide, _, S4.mh, B4, ⟨p, _, rfl, .inl upd_same, IsA.ints (xs := [2, 3, 2, 1, 2, 4]).mpr rfl⟩, ?_⟩
    rintro d v M5 H5 hd S5 B5 i5
    obtain ⟨mm, rfl, hm1, hm2⟩ : ∃ m : Nat, v = .int m ∧ 1 ≤ m ∧ m ≤ 4 := by
      simp only [List.mem_cons, List.not_mem_nil, or_false] at hd
      rcases hd with rfl | rfl | rfl | rfl | rfl | rfl
      · exact ⟨2, i5, by decide, by decide⟩
      · exact ⟨3, i5, by decide, by decide⟩
      · exact ⟨2, i5, by decide, by decide⟩
      · exact ⟨1, i5, by decide, by decide⟩
      · exact ⟨2, i5, by decide, by decide⟩
      · exact ⟨4, i5, by decide, by decide⟩
    have hDp : D ≠ p := fun z => by rw [← z, h3] at hp; cases hp
    obtain ⟨m5, h5⟩ := S5.keepB (by rw [upd_ne hDp]; exact m3) (by rw [upd_ne hDp]; exact h3) neD
    have S6 := S4.trans S5
    walk_at "vc"
    intro T hT
    have S7 := S6.lay (.tup [.str nm, .int mm]) hT
    have hDT : D ≠ T := fun z => by rw [← z, h5] at hT; cases hT
    refine LcB.of hD neD S7 (B5.lay S6.mh hT) (by rw [upd_ne hDT]; exact m5) (by rw [upd_ne hDT]; exact h5) ?_ ⟨cs ++ [(nm, mm)], ?_, ?_, ?_⟩
    · have := ia.len
      rw [List.length_map] at this
      have e := congrArg List.length hcs
      rw [List.length_map, List.length_take] at e
      omega
    · rw [List.map_append, hcs, tk_snoc hnm]
      rfl
    · intro c hc
      rcases List.mem_append.mp hc with z | z
      · exact hm c z
      · rw [List.mem_singleton.mp z]; exact ⟨hm1, hm2⟩
    · rw [List.map_append]
      have s7 : Same M3 (upd M5 T (.tup [.str nm, .int mm])) := (((Stp.refl (ex := exB b) S3.mh).lay (.lst [.int 2, .int 3, .int 2, .int 1, .int 2, .int 4]) hp).trans S5 |>.lay _ hT).mm
      exact (ia.mono s7).snoc (Is.cellOf upd_same)
  · rintro D acc M3 H3 hD neD S3 B3 m3 h3 ⟨cs0, hcs, hm, ia⟩
    rw [List.length_map, tk_all] at hcs
    have hc0 : CellsOk cs0 := by
      have e := congrArg List.length hcs
      rw [List.length_map] at e
      refine ⟨by omega, by omega, by rw [hcs]; exact hnd, fun c hc => hok _ (by rw [← hcs]; exact List.mem_map.mpr ⟨c, hc, rfl⟩), hm⟩
    have hl5 : cs0.length ≤ 5 := by
      have e := congrArg List.length hcs
      rw [List.length_map] at e
      omega
    have S4 := S2.trans (S3.fix h3 hD)
    have B4 : Bag (upd M3 D (.lst acc)) H3 b := B3.fix neD (.inl m3)
    have i4 : Is (upd M3 D (.lst acc)) (cellsD cs0) (.ref D) := ⟨D, acc, rfl, upd_same, ia.mono (same_upd m3)⟩
    walk_at "vc"
    refine ⟨b, .ref D, cs0, rfl, hc0, _, S4.mh, B4, i4, ?_⟩
    rintro d v M5 H5 ⟨sd0, rfl, hs0⟩ S5 B5 i5
    have hDl : H5 D = some (.lst acc) := S5.mh _ _ (S5.mm _ _ upd_same)
    have i4 := i4.mono S5.mm
    have S5 := S4.trans S5
    walk_at "vc"
    refine ⟨D, acc, rfl, .inl hDl, ?_⟩
    walk_at "vc"
    have hal : acc.length = cs0.length := by have := ia.len; rw [List.length_map] at this; exact this
    rw [hal]
    intro p hp
    have S6 := S5.lay (.lst [.int cs0.length, .int 2, .int 1]) hp
    have B6 := B5.lay (o := .lst [.int cs0.length, .int 2, .int 1]) S5.mh hp
    have hp6 : upd M5 p (.lst [.int cs0.length, .int 2, .int 1]) p = some (.lst [.int cs0.length, .int 2, .int 1]) := upd_same
    have i4 := i4.mono (same_upd (o := .lst [.int cs0.length, .int 2, .int 1]) (S5.mfree hp))
    have i5 := i5.mono (same_upd (o := .lst [.int cs0.length, .int 2, .int 1]) (S5.mfree hp))
    refine ⟨p, rfl, ⟨_, SqL.of upd_same⟩, ?_⟩
    refine fo_go walkL (fun i σ' H' => i < 3 ∧ ∃ v5 v7 o8 o9 M' cs sd, σ' = [some (.ref b), some (.int 2), some (.int 5), some (.int 40), some (.ref na), some v5, none, some v7, o8, o9, none] ∧ Stp (exB b) M H M' H' ∧ Bag M' H' b ∧
      M' p = some (.lst [.int cs0.length, .int 2, .int 1]) ∧ Is M' (cellsD cs) v5 ∧ Is M' (dS sd) v7 ∧ CellsOk cs ∧ cs.length ≤ 5 ∧ SeedsOk cs sd)
      ⟨by decide, _, _, _, _, _, cs0, sd0, rfl, S6, B6, hp6, i4, i5, hc0, hl5, hs0⟩ (fun _ _ _ _ ⟨_, _, _, _, _, M', _, _, _, S, _, h, _⟩ => S.mh _ _ h) ?_ (fun _ _ h => absurd h.1 (by show ¬ (3 < 3); decide))
    rintro i v σ1 H7 H7' hi ⟨hi3, v5, v7, o8, o9, M7, cs, sd, rfl, S7, B7, hp7, i5, i7, hc, hl5, hs⟩ ⟨rfl, hv⟩
    obtain ⟨sz, rfl, hz1, hz2⟩ : ∃ k : Nat, v = .int k ∧ 1 ≤ k ∧ (i = 2 → k = 1) := by
      have := hc0.l1
      match i, hi3 with
      | 0, _ => exact ⟨cs0.length, (Option.some.inj hv).symm, this, by omega⟩
      | 1, _ => exact ⟨2, (Option.some.inj hv).symm, by decide, by omega⟩
      | 2, _ => exact ⟨1, (Option.some.inj hv).symm, by decide, by omega⟩
    obtain ⟨a5, vs5, rfl, h5, ia5⟩ := i5
    obtain ⟨a7, rfl, h7⟩ := i7.strs
    walk_at "vc"
    refine ⟨a5, vs5, rfl, S7.mh _ _ h5, fun q hq => ?_⟩
    rw [cutV_to]
    have S8 := S7.lay (.lst (vs5.take sz)) hq
    have B8 := B7.lay (o := .lst (vs5.take sz)) S7.mh hq
    have s8 : Same M7 (upd M7 q (.lst (vs5.take sz))) := same_upd (S7.mfree hq)
    have i8 : Is (upd M7 q (.lst (vs5.take sz))) (cellsD (cs.take sz)) (.ref q) := ⟨q, _, rfl, upd_same, by rw [List.map_take]; exact (ia5.mono s8).take sz⟩
    have h78 := s8 _ _ h7
    have hp8 := s8 _ _ hp7
    walk_at "vc"
    refine ⟨a7, rfl, ⟨_, SqL.of (S8.mh _ _ h78)⟩, ?_⟩
    have hsl := hs.ln
    refine lc_go (ex := no) walkL S8.mh (fun n acc _ => acc = ((sd.take n).map fun s => mkS ((sl s).take sz)).map V.str) rfl (fun _ _ S => S.mh _ _ (S.mm _ _ h78)) ?_ ?_
    · rintro n v acc M9 H9 H9' D hn S9 hD m9 h9 rfl ⟨rfl, hv⟩
      obtain ⟨s', hs', rfl⟩ := map_at hv
      have hrl := row_len (hs.rw s' (mem_of_get hs'))
      walk_at "vc"
      refine ⟨rfl, ?_⟩
      walk_at "vc"
      refine ⟨s', rfl, line_of (by omega), ?_⟩
      rw [cutS_to]
      exact LcA.of hD S9 m9 h9 (by rw [List.length_map, List.length_map, List.length_take]; omega) (by rw [tk_snoc hs']; simp only [List.map_append, List.map_cons, List.map_nil])
    · rintro D acc M9 H9 hD S9 m9 h9 rfl
      rw [List.length_map, tk_all] at h9
      have F9 := S9.fix h9 hD
      walk_at "vc"
      refine ⟨_, _, rfl, by rw [List.length_map]; omega, ?_, _, F9.mh, Is.of_strs upd_same, ?_⟩
      · intro x hx
        obtain ⟨s', hs', rfl⟩ := List.mem_map.mp hx
        have hrl := row_len (hs.rw s' hs')
        rw [len_sl] at hrl
        rw [len_mk, List.length_take]
        omega
      · intro v10 M10 H10 S10 i10
        have s10 := F9.mm.trans S10.mm
        have S11 := (S8.trans F9.of).trans S10.of
        have B11 := (B8.keep F9).keep S10
        have i8 := i8.mono s10
        have hc' := hc.take hz1
        have hs' := hs.take hc hz1
        have hl5' : (cs.take sz).length ≤ 5 := by rw [List.length_take]; omega
        have hp11 := s10 _ _ hp8
        obtain ⟨qq, vs8, hqq, h8, ia8⟩ := i8
        cases hqq
        have hl8 : vs8.length = (cs.take sz).length := by have := ia8.len; rw [List.length_map] at this; exact this
        have i8 : Is M10 (cellsD (cs.take sz)) (.ref q) := ⟨q, vs8, rfl, h8, ia8⟩
        walk_at "vc"
        refine ⟨q, vs8, rfl, .inl (S11.mh _ _ h8), ?_⟩
        walk_at "vc"
        rw [hl8]
        have hln := hs'.ln
        refine ⟨v10, _, (cs.take sz).length, 40, rfl, by omega, by decide, by decide, by omega, fun s hs => row_len (hs'.rw s hs), M10, S11.mh, i10, ?_, ?_⟩
        · rintro hcap v12 M12 H12 S12 rfl
          walk_at "vc"
          refine ⟨rfl, ?_⟩
          walk_at "vc"
          refine ⟨?_, _, _, _, _, M12, cs.take sz, _, rfl, S11.trans S12.of, B11.keep S12, S12.mm _ _ hp11, i8.mono S12.mm, i10.mono S12.mm, hc', hl5', hs'⟩
          by_cases e : i = 2
          · have hz := hz2 e
            have h1 : (cs.take sz).length = 1 := by have := hc.l1; rw [List.length_take]; omega
            have := few_rows hc' h1 hs'.rw (40 + 1)
            omega
          · omega
        · rintro ys hle hpm hsd v12 M12 H12 S12 i12
          obtain ⟨a12, rfl, h12⟩ := i12.strs
          walk_at "vc"
          refine ⟨rfl, ?_⟩
          walk_at "vc"
          intro T hT
          have S13 := (S11.trans S12.of).lay (.tup [.ref q, v10, .ref a12]) hT
          have s13 : Same M12 (upd M12 T (.tup [.ref q, v10, .ref a12])) := same_upd ((S11.trans S12.of).mfree hT)
          exact k _ _ _ _ ⟨_, _, _, rfl, hc', hl5', hs', hpm, hsd, hle⟩ S13 ((B11.keep S12).lay (S11.trans S12.of).mh hT) (Is.tup3 upd_same ((i8.mono S12.mm).mono s13) ((i10.mono S12.mm).mono s13) (i12.mono s13))
def sp_l_rich_band : Sp := sp_l_band
theorem ok_l_rich_band (T : Tx K mg) : Good P w K mg base CX0 5 (He.fAd K (He.DefD.at_ d_l_rich_band)) p_l_rich_band sp_l_band := by
  obtain ⟨fd, F⟩ := T.def_ 38 (d := d_l_rich_band) rfl
  have g_l_band : Good P w K mg base CX0 4 (He.fAd K (He.DefD.at_ d_l_band)) p_l_band sp_l_band := ok_l_band T
  have g_l_full : Good P w K mg base CX0 1 (He.fAd K (He.DefD.at_ d_l_full)) p_l_full sp_l_full := ok_l_full T
  refine good_of F sc_l_rich_band (fun _ _ _ _ _ _ us hl => match us, hl with | [_, _, _, _], _ => rfl) (by intro vs H Q E h; (repeat obtain ⟨_, h⟩ := h); subst_vars; rfl) fun cdv A outer s H vs Q E hr h => ?_
  have hu := hu_of hr
  refine ⟨_, (pss_cons (ps_set (i := 4) sc_l_rich_band.nd rfl (Or.inl rfl) (pe_good g_l_band (hr.mono (by decide)) rfl T.m_l_band (pa_cons (pv 0) (pa_cons (pv 1) (pa_cons (pv 2) (pa_cons (pv 3) pa_nil))))))  (pss_cons (ps_for PassesOwn.never rfl (pi_range1 (by rfl) T.b_range (pa_cons pe_int pa_nil)) (pg_name (i := 5) sc_l_rich_band.nd rfl (Or.inl rfl) (Or.inl rfl))  (pss_cons (ps_set (i := 6) sc_l_rich_band.nd rfl (Or.inl rfl) (pe_good g_l_band (hr.mono (by decide)) rfl T.m_l_band (pa_cons (pv 0) (pa_cons (pv 1) (pa_cons (pv 2) (pa_cons (pv 3) pa_nil))))))  (pss_one (ps_if (pt_cmpR op_gt (pe_callB cq_len (by rfl) T.b_len (by decide +kernel) (pa_cons (pe_good g_l_full (hr.mono (by decide)) rfl T.m_l_full (pa_cons (pe_ix xq_tup (pv 6) pe_int (fun _ _ => rfl)) pa_nil)) pa_nil)) (pe_callB cq_len (by rfl) T.b_len (by decide +kernel) (pa_cons (pe_good g_l_full (hr.mono (by decide)) rfl T.m_l_full (pa_cons (pe_ix xq_tup (pv 4) pe_int (fun _ _ => rfl)) pa_nil)) pa_nil)) (nomark _))  (pss_one (ps_set (i := 4) sc_l_rich_band.nd rfl (Or.inl rfl) (pv 6)))  pss_nil))))  (pss_one (ps_ret (pv 4))))), ?_⟩
  obtain ⟨b, rfl, M, s0, B, k⟩ := h
  walk_at "vc"
  refine ⟨b, rfl, M, s0, B, ?_⟩
  rintro d v M1 H1 ⟨cs, sd, rows, rfl, hb⟩ S1 B1 i1
  walk_at "vc"
  refine w_r1 (n := 2) (by decide) ?_
  refine fo_go walkR (fun i σ' H' => ∃ o5 o6 v M' cs sd rows, σ' = [some (.ref b), some (.int 2), some (.int 5), some (.int 40), some v, o5, o6] ∧ Stp (exB b) M H M' H' ∧ Bag M' H' b ∧ BandOk cs sd rows ∧ Is M' (bandD cs sd rows) v)
    ⟨_, _, v, M1, cs, sd, rows, rfl, S1, B1, hb, i1⟩ (fun _ _ _ _ _ => trivial) ?_ ?_
  · rintro i x σ1 H2 H2' hi ⟨o5, o6, v, M2, cs, sd, rows, rfl, S2, B2, hb, i2⟩ ⟨rfl, rfl⟩
    walk_at "vc"
    refine ⟨b, rfl, M2, S2.mh, B2, ?_⟩
    rintro d v3 M3 H3 ⟨cs3, sd3, rows3, rfl, hb3⟩ S3 B3 i3
    have i2 := i2.mono S3.mm
    have S3 := S2.trans S3
    have i3' := i3
    have i2' := i2
    obtain ⟨T3, u3, x3, w3, rfl, hT3, _, _, r3⟩ := i3.un3
    obtain ⟨T2, u2, x2, w2, rfl, hT2, _, _, r2⟩ := i2.un3
    have l3 : rows3.length ≤ 1000 := by rw [hb3.pm.length_eq]; have := hb3.le; omega
    have l2 : rows.length ≤ 1000 := by rw [hb.pm.length_eq]; have := hb.le; omega
    walk_at "vc"
    refine w_ixt (S3.mh _ _ hT3) rfl ?_
    walk_at "vc"
    refine ⟨w3, rows3, rfl, l3, M3, S3.mh, r3, ?_⟩
    intro v4 M4 H4 S4 i4
    obtain ⟨a4, rfl, h4⟩ := i4.strs
    walk_at "vc"
    refine ⟨a4, _, rfl, .inl (S4.mh _ _ h4), ?_⟩
    walk_at "vc"
    refine w_ixt (S4.mh _ _ (S4.mm _ _ hT2)) rfl ?_
    walk_at "vc"
    refine ⟨w2, rows, rfl, l2, M4, S4.mh, r2.mono S4.mm, ?_⟩
    intro v5 M5 H5 S5 i5
    obtain ⟨a5, rfl, h5⟩ := i5.strs
    walk_at "vc"
    refine ⟨a5, _, rfl, .inl (S5.mh _ _ h5), ?_⟩
    walk_at "vc"
    have S6 := S3.trans (S4.trans S5).of
    have B6 := B3.keep (S4.trans S5)
    refine ifb (fun _ => ?_) (fun _ => ?_)
    · walk_at "vc"
      exact ⟨_, _, _, M5, _, _, _, rfl, S6, B6, hb3, i3'.mono (S4.trans S5).mm⟩
    · walk_at "vc"
      exact ⟨_, _, _, M5, _, _, _, rfl, S6, B6, hb, i2'.mono (S4.trans S5).mm⟩
  · rintro σ1 H2 ⟨o5, o6, v, M2, cs, sd, rows, rfl, S2, B2, hb, i2⟩
    walk_at "vc"
    exact k _ _ _ _ ⟨_, _, _, rfl, hb⟩ S2 B2 i2
end
end Nt
namespace Nt
section
variable {P : Program} {w : World} {K : PySem.W.Frag} {mg : Str → Option Value} {base : Heap}
def sp_is_name : Sp := fun vs H Q _ => ∃ (x : Str), vs = [.str x] ∧ NameOk x ∧ ∃ M, Same M H ∧ Ret M H Q (.bl true)
theorem ok_is_name (T : Tx K mg) : Good P w K mg base CX0 1 (He.fAd K (He.DefD.at_ d_is_name)) p_is_name sp_is_name := by
  obtain ⟨fd, F⟩ := T.def_ 0 (d := d_is_name) rfl
  refine good_of F sc_is_name (fun _ _ _ _ _ _ us hl => match us, hl with | [_], _ => rfl) (by intro vs H Q E h; (repeat obtain ⟨_, h⟩ := h); subst_vars; rfl) fun cdv A outer s H vs Q E hr h => ?_
  have hu := hu_of hr
  refine ⟨_, (pss_cons (ps_if (PW.pt (pw_or (pt_not (pt_val (pe_callB cq_isi (by rfl) T.b_isinstance (by decide +kernel) (pa_cons (pv 0) (pa_cons (pe_ty "str" (by rfl) T.b_str (by decide +kernel)) pa_nil))))) (pw_or1 (pt_not (pt_chain op_le op_le pe_int (pe_callB call_len_str (by rfl) T.b_len (by decide +kernel) (pa_cons (pv 0) pa_nil)) pe_int)))))  (pss_one (ps_ret pe_bl))  pss_nil)  (pss_one (ps_ret (pe_callB (cq_all rfl) (by rfl) T.b_all (by decide +kernel) (pa_cons (pe_lc (own := [("sign", 1)]) (by rfl) sc_is_name.nd (pi_str (pv 0)) (blkOk_by (own := [("sign", 1)]) (N := n_is_name) (sc := He.DefD.scope d_is_name) (by decide +kernel)) (fun _ _ _ _ _ => (pg_name (i := 1) sc_is_name.nd rfl (Or.inl rfl) (Or.inr rfl))) (fun _ _ _ _ _ => pts_nil) (fun _ _ _ _ _ => (pe_cmpR op_in_sign (pv 1) (pe_gstr rfl T.m_LETTERS) (by rfl)))) pa_nil))))), ?_⟩
  obtain ⟨x, rfl, ⟨h1, h6, hlow⟩, M, s0, k⟩ := h
  walk_at "vc"
  refine w_isi s0 (d := .str x) rfl (by simp) ?_
  rw [show Dat.isT (.str x) "str" = true from rfl]
  walk_at "vc"
  refine ⟨x, rfl, line_of (by rw [len_sl]; omega), ?_⟩
  walk_at "vc"
  refine ifdT (by rw [len_sl]; omega) ?_
  walk_at "vc"
  refine ifnT (by rw [len_sl]; omega) ?_
  walk_at "vc"
  refine ⟨x, rfl, ?_⟩
  refine lc_go (ex := no) walkS s0 (fun i acc _ => acc = (List.replicate i true).map V.bl) rfl (fun _ _ _ => trivial) ?_ ?_
  · rintro i v acc M1 H1 H1' D hi S1 hD m1 h1 rfl ⟨rfl, c, hc, rfl⟩
    refine ⟨rfl, ?_⟩
    walk_at "vc"
    refine ⟨c, _, rfl, rfl, ?_⟩
    have hcl := low_abc (hlow c (mem_of_get hc))
    rw [decide_eq_true (show c ∈ sl ABC from hcl)]
    exact LcA.of hD S1 m1 h1 (by rw [List.length_map, List.length_replicate]; omega) (rep_snoc i)
  · rintro D acc M1 H1 hD S1 m1 h1 rfl
    walk_at "vc"
    refine ⟨D, _, rfl, h1, ?_⟩
    rw [all_yes]
    exact k _ _ _ S1 rfl
def sp_is_number : Sp := fun vs H Q _ => ∃ (i lo hi : Int), vs = [.int i, .int lo, .int hi] ∧ lo ≤ i ∧ i ≤ hi ∧ ∃ M, Same M H ∧ Ret M H Q (.bl true)
theorem ok_is_number (T : Tx K mg) : Good P w K mg base CX0 1 (He.fAd K (He.DefD.at_ d_is_number)) p_is_number sp_is_number := by
  obtain ⟨fd, F⟩ := T.def_ 1 (d := d_is_number) rfl
  refine good_of F sc_is_number (fun _ _ _ _ _ _ us hl => match us, hl with | [_, _, _], _ => rfl) (by intro vs H Q E h; (repeat obtain ⟨_, h⟩ := h); subst_vars; rfl) fun cdv A outer s H vs Q E hr h => ?_
  have hu := hu_of hr
  refine ⟨_, (pss_one (ps_ret (pe_and (pe_callB cq_isi (by rfl) T.b_isinstance (by decide +kernel) (pa_cons (pv 0) (pa_cons (pe_ty "int" (by rfl) T.b_int (by decide +kernel)) pa_nil))) (pe_and (pe_not (pe_callB cq_isi (by rfl) T.b_isinstance (by decide +kernel) (pa_cons (pv 0) (pa_cons (pe_ty "bool" (by rfl) T.b_bool (by decide +kernel)) pa_nil)))) (pe_one (pe_chain op_le op_le (pv 1) (pv 0) (pv 2))))))), ?_⟩
  obtain ⟨i, lo, hi, rfl, h1, h2, M, s0, k⟩ := h
  walk_at "vc"
  refine w_isi s0 (d := .int i) rfl (by simp) ?_
  rw [show Dat.isT (.int i) "int" = true from rfl]
  walk_at "vc"
  refine w_isi s0 (d := .int i) rfl (by simp) ?_
  rw [show Dat.isT (.int i) "bool" = false from rfl]
  walk_at "vc"
  refine ifdT h1 ?_
  walk_at "vc"
  rw [decide_eq_true h2]
  exact k _ _ _ (Stp.refl s0) rfl
def sp_is_row : Sp := fun vs H Q _ => ∃ (v : V) (x : Str) (cs : Cells), vs = [v, .str x] ∧ CellsOk cs ∧ RowOk cs x ∧ ∃ M, Same M H ∧ Is M (cellsD cs) v ∧ Ret M H Q (.bl true)
theorem ok_is_row (T : Tx K mg) : Good P w K mg base CX0 1 (He.fAd K (He.DefD.at_ d_is_row)) p_is_row sp_is_row := by
  obtain ⟨fd, F⟩ := T.def_ 3 (d := d_is_row) rfl
  refine good_of F sc_is_row (fun _ _ _ _ _ _ us hl => match us, hl with | [_, _], _ => rfl) (by intro vs H Q E h; (repeat obtain ⟨_, h⟩ := h); subst_vars; rfl) fun cdv A outer s H vs Q E hr h => ?_
  have hu := hu_of hr
  refine ⟨_, (pss_cons (ps_if (PW.pt (pw_or (pt_not (pt_val (pe_callB cq_isi (by rfl) T.b_isinstance (by decide +kernel) (pa_cons (pv 1) (pa_cons (pe_ty "str" (by rfl) T.b_str (by decide +kernel)) pa_nil))))) (pw_or1 (pt_cmpR op_ne (pe_callB call_len_str (by rfl) T.b_len (by decide +kernel) (pa_cons (pv 1) pa_nil)) (pe_callB cq_len (by rfl) T.b_len (by decide +kernel) (pa_cons (pv 0) pa_nil)) (nomark _)))))  (pss_one (ps_ret pe_bl))  pss_nil)  (pss_one (ps_ret (pe_callB (cq_all rfl) (by rfl) T.b_all (by decide +kernel) (pa_cons (pe_lc (own := [("sign", 2), ("cell", 3)]) (by rfl) sc_is_row.nd (iq_zs K (by rfl) T.b_zip (pa_cons (pv 1) (pa_cons (pv 0) pa_nil))) (blkOk_by (own := [("sign", 2), ("cell", 3)]) (N := n_is_row) (sc := He.DefD.scope d_is_row) (by decide +kernel)) (fun _ _ _ _ _ => (gq_tup K (n := 2) rfl (pgs_cons (pg_name (i := 2) sc_is_row.nd rfl (Or.inl rfl) (Or.inr rfl)) (pgs_cons (pg_name (i := 3) sc_is_row.nd rfl (Or.inl rfl) (Or.inr rfl)) pgs_nil)))) (fun _ _ _ _ _ => pts_nil) (fun _ _ _ _ _ => (pe_cmpR op_in_sign (pv 2) (pe_slice sl_str pe_str po_none (po_some (pe_op op_add (pe_ix xq_tup (pv 3) pe_int (fun _ _ => rfl)) pe_int))) (by rfl)))) pa_nil))))), ?_⟩
  obtain ⟨v, x, cs, rfl, hc, hx, M, s0, ic, k⟩ := h
  obtain ⟨ca, cvs, rfl, hca, hcv⟩ := ic
  have hcl : cvs.length = cs.length := by have := hcv.len; rw [List.length_map] at this; exact this
  have hl2 := hc.l2
  have hxl := hx.1
  walk_at "vc"
  refine w_isi s0 (d := .str x) rfl (by simp) ?_
  rw [show Dat.isT (.str x) "str" = true from rfl]
  walk_at "vc"
  refine ⟨x, rfl, line_of (by rw [len_sl]; omega), ?_⟩
  walk_at "vc"
  refine ⟨ca, cvs, rfl, .inl (s0 _ _ hca), ?_⟩
  walk_at "vc"
  refine ifnT (by rw [len_sl]; omega) ?_
  walk_at "vc"
  refine .inr ⟨x, ca, rfl, ⟨_, SqL.of (s0 _ _ hca)⟩, ?_⟩
  refine lc_go (ex := no) walkZl s0 (fun i acc _ => acc = (List.replicate i true).map V.bl) rfl (fun _ _ S => S.mh _ _ (S.mm _ _ hca)) ?_ ?_
  · rintro i v acc M1 H1 H1' D hi S1 hD m1 h1 rfl ⟨T, c, w', rfl, hT, rfl, hz⟩
    obtain ⟨h1c, h2c⟩ := List.getElem?_zip_eq_some.mp hz
    obtain ⟨k0, a0, hk, rfl, ha0⟩ := cells_at hcv h2c
    refine g_pair upd_same ⟨rfl, ?_⟩
    walk_at "vc"
    refine w_ixt (upd_old (S1.mh _ _ (S1.mm _ _ ha0)) hT) rfl ?_
    walk_at "vc"
    refine ⟨_, rfl, line_of (by decide), ?_⟩
    have hm := hc.mn k0 (mem_of_get hk)
    rw [show ((k0.2 : Int) + 1) = ((k0.2 + 1 : Nat) : Int) from rfl, cutS_to]
    walk_at "vc"
    refine ⟨c, _, rfl, rfl, ?_⟩
    rw [decide_eq_true (sg_in hm.1 hm.2 (hx.2 i c k0 h1c hk))]
    have hxl2 : (sl x).length ≤ 12 := by omega
    rw [List.length_zip] at hi
    exact LcA.of hD (S1.new _ hT) m1 (upd_old h1 hT) (by rw [List.length_map, List.length_replicate]; omega) (rep_snoc i)
  · rintro D acc M1 H1 hD S1 m1 h1 rfl
    walk_at "vc"
    refine ⟨D, _, rfl, h1, ?_⟩
    rw [all_yes]
    exact k _ _ _ S1 rfl
def sp_check_cells : Sp := fun vs H Q _ => ∃ (v : V) (cs : Cells), vs = [v] ∧ CellsOk cs ∧ ∃ M, Same M H ∧ Is M (cellsD cs) v ∧ Ret M H Q .non
theorem ok_check_cells (T : Tx K mg) : Good P w K mg base CX0 2 (He.fAd K (He.DefD.at_ d_check_cells)) p_check_cells sp_check_cells := by
  obtain ⟨fd, F⟩ := T.def_ 2 (d := d_check_cells) rfl
  have g_is_name : Good P w K mg base CX0 1 (He.fAd K (He.DefD.at_ d_is_name)) p_is_name sp_is_name := ok_is_name T
  have g_is_number : Good P w K mg base CX0 1 (He.fAd K (He.DefD.at_ d_is_number)) p_is_number sp_is_number := ok_is_number T
  refine good_of F sc_check_cells (fun _ _ _ _ _ _ us hl => match us, hl with | [_], _ => rfl) (by intro vs H Q E h; (repeat obtain ⟨_, h⟩ := h); subst_vars; rfl) fun cdv A outer s H vs Q E hr h => ?_
  have hu := hu_of hr
  refine ⟨_, (pss_cons (ps_if (PW.pt (pw_or (pt_not (pt_val (pe_callB cq_isi2 (by rfl) T.b_isinstance (by decide +kernel) (pa_cons (pv 0) (pa_cons (pe_tup (pa_cons (pe_ty "list" (by rfl) T.b_list (by decide +kernel)) (pa_cons (pe_ty "tuple" (by rfl) T.b_tuple (by decide +kernel)) pa_nil))) pa_nil))))) (pw_or1 (pt_not (pt_chain op_le op_le pe_int (pe_callB cq_len (by rfl) T.b_len (by decide +kernel) (pa_cons (pv 0) pa_nil)) (pe_gint rfl T.m_MOST_CELLS))))))  (pss_one ps_never)  pss_nil)  (pss_cons (ps_set (i := 1) sc_check_cells.nd rfl (Or.inl rfl) (pe_lst pa_nil))  (pss_one (ps_for PassesOwn.never rfl (iq_enum K (by rfl) T.b_enumerate (pa_cons (pv 0) pa_nil)) (gq_tup K (n := 2) rfl (pgs_cons (pg_name (i := 2) sc_check_cells.nd rfl (Or.inl rfl) (Or.inl rfl)) (pgs_cons (pg_name (i := 3) sc_check_cells.nd rfl (Or.inl rfl) (Or.inl rfl)) pgs_nil)))  (pss_cons (ps_if (PW.pt (pw_or (pt_not (pt_val (pe_callB cq_isi (by rfl) T.b_isinstance (by decide +kernel) (pa_cons (pv 3) (pa_cons (pe_ty "tuple" (by rfl) T.b_tuple (by decide +kernel)) pa_nil))))) (pw_or1 (pt_cmpR op_ne (pe_callB cq_len (by rfl) T.b_len (by decide +kernel) (pa_cons (pv 3) pa_nil)) pe_int (nomark _)))))  (pss_one ps_never)  pss_nil)  (pss_cons (ps_asg (pv 3) (gq_tup K (n := 2) rfl (pgs_cons (pg_name (i := 4) sc_check_cells.nd rfl (Or.inl rfl) (Or.inl rfl)) (pgs_cons (pg_name (i := 5) sc_check_cells.nd rfl (Or.inl rfl) (Or.inl rfl)) pgs_nil))))  (pss_cons (ps_if (PW.pt (pw_or (pt_not (pt_val (pe_good g_is_name (hr.mono (by decide)) rfl T.m_is_name (pa_cons (pv 4) pa_nil)))) (pw_or (pt_not (pt_val (pe_good g_is_number (hr.mono (by decide)) rfl T.m_is_number (pa_cons (pv 5) (pa_cons pe_int (pa_cons (pe_gint rfl T.m_MOST_VALUES) pa_nil)))))) (pw_or1 (pt_cmpR oq_in (pv 4) (pv 1) (by rfl))))))  (pss_one ps_never)  pss_nil)  (pss_one (ps_expr (eq_bm PySem.F.slot_list_append PySem.F.type_list_append mt_append (pv 1) (pa_cons (pv 4) pa_nil))))))))))), ?_⟩
  obtain ⟨v, cs, rfl, hc, M, s0, ic, k⟩ := h
  have ic' := ic
  obtain ⟨ca, cvs, rfl, hca, hcv⟩ := ic
  have hcl : cvs.length = cs.length := by have := hcv.len; rw [List.length_map] at this; exact this
  have hl1 := hc.l1
  have hl2 := hc.l2
  walk_at "vc"
  intro p hp
  have S1 := (Stp.refl (ex := no) s0).new (.tup [.ty "list", .ty "tuple"]) hp
  walk_at "vc"
  refine w_isi2 S1.mh ic' upd_same (by simp) (by simp) ?_
  rw [show (Dat.isT (cellsD cs) "list" || Dat.isT (cellsD cs) "tuple") = true from rfl]
  walk_at "vc"
  refine ⟨ca, cvs, rfl, .inl (S1.mh _ _ hca), ?_⟩
  walk_at "vc"
  refine ifdT (by omega) ?_
  walk_at "vc"
  refine ifnT (by omega) ?_
  walk_at "vc"
  intro f hf
  have S2 := S1.new (.lst []) hf
  have hf0 := S1.hfree hf
  walk_at "vc"
  refine ⟨ca, cvs, rfl, SqL.of (S2.mh _ _ hca), ?_⟩
  refine fo_go walkE (fun i σ' H' => ∃ o2 o3 o4 o5 M', σ' = [some (.ref ca), some (.ref f), o2, o3, o4, o5] ∧ Stp no M H M' H' ∧ M' f = none ∧ H' f = some (.lst (((cs.take i).map (·.1)).map V.str)))
    ⟨_, _, _, _, M, rfl, S2, none_of_same s0 hf0, upd_same⟩ (fun _ _ _ _ ⟨_, _, _, _, _, _, S, _⟩ => S.mh _ _ (S.mm _ _ hca)) ?_ ?_
  · rintro i v σ1 H3 H3' hi ⟨o2, o3, o4, o5, M3, rfl, S3, mf, hf3⟩ ⟨T, x, rfl, hT, rfl, hx⟩
    obtain ⟨k0, a0, hk, rfl, ha0⟩ := cells_at hcv hx
    have hm := hc.mn k0 (mem_of_get hk)
    have S4 := S3.new (.tup [.int i, .ref a0]) hT
    have ha4 := S4.mh _ _ (S3.mm _ _ ha0)
    have hf4 : upd H3 T (.tup [.int i, .ref a0]) f = some (.lst (((cs.take i).map (·.1)).map V.str)) := upd_old hf3 hT
    refine g_pair upd_same ?_
    generalize upd H3 T (.tup [.int i, .ref a0]) = H4 at S4 ha4 hf4 ⊢
    walk_at "vc"
    refine w_isi S4.mh (d := cellD k0) (Is.cellOf (S3.mm _ _ ha0)) (by simp) ?_
    rw [show Dat.isT (cellD k0) "tuple" = true from rfl]
    walk_at "vc"
    refine ⟨a0, _, rfl, .inr ha4, ?_⟩
    walk_at "vc"
    refine g_pair ha4 ?_
    walk_at "vc"
    refine ⟨k0.1, rfl, hc.nm k0 (mem_of_get hk), M3, S4.mh, ?_⟩
    rintro v M5 H5 S5 rfl
    walk_at "vc"
    refine ⟨_, _, _, rfl, by omega, by omega, M5, S5.mh, ?_⟩
    rintro v M6 H6 S6 rfl
    obtain ⟨mf6, hf6⟩ := (S5.trans S6).keep mf hf4
    walk_at "vc"
    refine w_inS (.inl hf6) ?_
    walk_at "vc"
    have hni : k0.1 ∉ (cs.take i).map (·.1) := by
      intro z
      have nd := hc.nd
      have e : (cs.map (·.1)).take (i + 1) = (cs.take i).map (·.1) ++ [k0.1] := by rw [← List.map_take, tk_snoc hk, List.map_append]; rfl
      have nd' : ((cs.map (·.1)).take (i + 1)).Nodup := List.Sublist.nodup (List.take_sublist _ _) nd
      rw [e, List.nodup_append] at nd'
      exact nd'.2.2 _ z _ List.mem_cons_self rfl
    refine ifdF hni ?_
    walk_at "vc"
    refine ⟨⟨f, _, rfl, hf6⟩, ?_⟩
    walk_at "vc"
    refine ⟨f, _, _, rfl, rfl, hf6, line_lt (by rw [List.length_map, List.length_map, List.length_take]; omega), ?_⟩
    walk_at "vc"
    refine ⟨_, _, _, _, M6, rfl, (S4.trans (S5.trans S6)).put _ mf6 (.inl hf0), mf6, ?_⟩
    rw [upd_same, tk_snoc hk]
    simp only [List.map_append, List.map_cons, List.map_nil]
  · rintro σ1 H3 ⟨o2, o3, o4, o5, M3, rfl, S3, mf, hf3⟩
    walk_at "vc"
    exact k _ _ _ S3 rfl
def sp_check_seeds : Sp := fun vs H Q _ => ∃ (v u : V) (cs : Cells) (sd : List Str), vs = [v, u] ∧ CellsOk cs ∧ SeedsOk cs sd ∧ ∃ M, Same M H ∧ Is M (cellsD cs) v ∧ Is M (dS sd) u ∧ Ret M H Q .non
theorem ok_check_seeds (T : Tx K mg) : Good P w K mg base CX0 2 (He.fAd K (He.DefD.at_ d_check_seeds)) p_check_seeds sp_check_seeds := by
  obtain ⟨fd, F⟩ := T.def_ 14 (d := d_check_seeds) rfl
  have g_blank : Good P w K mg base CX0 1 (He.fAd K (He.DefD.at_ d_blank)) p_blank sp_blank := ok_blank T
  have g_is_row : Good P w K mg base CX0 1 (He.fAd K (He.DefD.at_ d_is_row)) p_is_row sp_is_row := ok_is_row T
  refine good_of F sc_check_seeds (fun _ _ _ _ _ _ us hl => match us, hl with | [_, _], _ => rfl) (by intro vs H Q E h; (repeat obtain ⟨_, h⟩ := h); subst_vars; rfl) fun cdv A outer s H vs Q E hr h => ?_
  have hu := hu_of hr
  refine ⟨_, (pss_cons (ps_if (pt_not (pt_val (pe_callB cq_isi2 (by rfl) T.b_isinstance (by decide +kernel) (pa_cons (pv 1) (pa_cons (pe_tup (pa_cons (pe_ty "list" (by rfl) T.b_list (by decide +kernel)) (pa_cons (pe_ty "tuple" (by rfl) T.b_tuple (by decide +kernel)) pa_nil))) pa_nil)))))  (pss_one ps_never)  pss_nil)  (pss_cons (ps_if (pt_cmpR op_gt (pe_callB cq_len (by rfl) T.b_len (by decide +kernel) (pa_cons (pv 1) pa_nil)) (pe_gint rfl T.m_MOST_SEEDS) (nomark _))  (pss_one ps_never)  pss_nil)  (pss_cons (ps_for PassesOwn.never rfl (iq_enum K (by rfl) T.b_enumerate (pa_cons (pv 1) pa_nil)) (gq_tup K (n := 2) rfl (pgs_cons (pg_name (i := 2) sc_check_seeds.nd rfl (Or.inr rfl) (Or.inl rfl)) (pgs_cons (pg_name (i := 3) sc_check_seeds.nd rfl (Or.inl rfl) (Or.inl rfl)) pgs_nil)))  (pss_one (ps_if (PW.pt (pw_or (pt_not (pt_val (pe_good g_is_row (hr.mono (by decide)) rfl T.m_is_row (pa_cons (pv 0) (pa_cons (pv 3) pa_nil))))) (pw_or (pt_cmpR op_eq (pv 3) (pe_good g_blank (hr.mono (by decide)) rfl T.m_blank (pa_cons (pe_callB cq_len (by rfl) T.b_len (by decide +kernel) (pa_cons (pv 0) pa_nil)) pa_nil)) (nomark _)) (pw_or1 (pt_cmpR oq_in (pv 3) (pe_slice sq_list (pv 1) po_none (po_some (pv 2))) (by rfl))))))  (pss_one ps_never)  pss_nil)))  (pss_one (ps_for PassesOwn.never rfl (iq_enum K (by rfl) T.b_enumerate (pa_cons (pv 0) pa_nil)) (gq_tup K (n := 2) rfl (pgs_cons (pg_name (i := 2) sc_check_seeds.nd rfl (Or.inr rfl) (Or.inl rfl)) (pgs_cons (pg_name (i := 4) sc_check_seeds.nd rfl (Or.inl rfl) (Or.inl rfl)) pgs_nil)))  (pss_one (ps_if (pt_val (pe_callB (cq_all rfl) (by rfl) T.b_all (by decide +kernel) (pa_cons (pe_lc (own := [("seed", 3)]) (by rfl) sc_check_seeds.nd (iq_list K (pv 1)) (blkOk_by (own := [("seed", 3)]) (N := n_check_seeds) (sc := He.DefD.scope d_check_seeds) (by decide +kernel)) (fun _ _ _ _ _ => (pg_name (i := 3) sc_check_seeds.nd rfl (Or.inl rfl) (Or.inr rfl))) (fun _ _ _ _ _ => pts_nil) (fun _ _ _ _ _ => (pe_cmpR op_eq (pe_ix ix_str (pv 3) (pv 2) (fun _ _ => rfl)) pe_str (nomark _)))) pa_nil)))  (pss_one ps_never)  pss_nil))))))), ?_⟩
  obtain ⟨v, u, cs, sd, rfl, hc, hs, M, s0, ic, iu, k⟩ := h
  have ic' := ic
  have iu' := iu
  obtain ⟨ca, cvs, rfl, hca, hcv⟩ := ic
  obtain ⟨ua, rfl, hua⟩ := iu.strs
  have hcl : cvs.length = cs.length := by have := hcv.len; rw [List.length_map] at this; exact this
  have hl1 := hc.l1
  have hl2 := hc.l2
  have hsl := hs.ln
  walk_at "vc"
  intro p hp
  have S1 := (Stp.refl (ex := no) s0).new (.tup [.ty "list", .ty "tuple"]) hp
  walk_at "vc"
  refine w_isi2 S1.mh iu' upd_same (by simp) (by simp) ?_
  rw [show (Dat.isT (dS sd) "list" || Dat.isT (dS sd) "tuple") = true from rfl]
  walk_at "vc"
  refine ⟨ua, _, rfl, .inl (S1.mh _ _ hua), ?_⟩
  rw [List.length_map]
  walk_at "vc"
  refine ifdF (by omega) ?_
  refine w_next ?_
  with_reducible refine w_cut (fun σ' H' => ∃ o2 o3, σ' = [some (.ref ca), some (.ref ua), o2, o3, none] ∧ ∃ M', Stp no M H M' H') ?_ ?_
  · rintro σ1 H1 ⟨o2, o3, rfl, M1, S1⟩
    walk_at "vc"
    refine ⟨ca, cvs, rfl, SqL.of (S1.mh _ _ (S1.mm _ _ hca)), ?_⟩
    refine fo_go walkE (fun i σ' H' => ∃ o2 o3 o4 M', σ' = [some (.ref ca), some (.ref ua), o2, o3, o4] ∧ Stp no M H M' H') ⟨_, _, _, M1, rfl, S1⟩ (fun _ _ _ _ ⟨_, _, _, _, _, S⟩ => S.mh _ _ (S.mm _ _ hca)) ?_ ?_
    · rintro i v σ1 H3 H3' hi ⟨o2, o3, o4, M3, rfl, S3⟩ ⟨T, x, rfl, hT, rfl, hx⟩
      obtain ⟨k0, a0, hk, rfl, ha0⟩ := cells_at hcv hx
      have S4 := S3.new (.tup [.int i, .ref a0]) hT
      refine g_pair upd_same ?_
      generalize upd H3 T (.tup [.int i, .ref a0]) = H4 at S4 ⊢
      walk_at "vc"
      refine ⟨ua, rfl, ⟨_, SqL.of (S4.mh _ _ (S3.mm _ _ hua))⟩, ?_⟩
      refine lc_go (ex := no) walkL S4.mh (fun n acc _ => acc = ((sd.take n).map fun s => decide ((sl s)[i]? = some 46)).map V.bl) rfl (fun _ _ S => S.mh _ _ (S.mm _ _ (S3.mm _ _ hua))) ?_ ?_
      · rintro n v acc M5 H5 H5' D hn S5 hD m5 h5 rfl ⟨rfl, hv⟩
        obtain ⟨s', hs', rfl⟩ := map_at hv
        have hr := (hs.rw s' (mem_of_get hs')).1
        have hil : i < (sl s').length := by omega
        walk_at "vc"
        refine ⟨rfl, ?_⟩
        walk_at "vc"
        refine w_ixS (line_of (by rw [len_sl]; omega)) (atI_nat (List.getElem?_eq_getElem hil)) ?_
        walk_at "vc"
        refine LcA.of hD S5 m5 h5 (by rw [List.length_map, List.length_map, List.length_take]; omega) ?_
        rw [tk_snoc hs']
        have e1 : decide ((⟨#[(sl s')[i]]⟩ : Str) = Str.ofString ".") = decide ((sl s')[i]? = some 46) := by
          rw [List.getElem?_eq_getElem hil, dot_ofS]
          simp
        rw [e1]
        simp only [List.map_append, List.map_cons, List.map_nil]
      · rintro D acc M5 H5 hD S5 m5 h5 rfl
        rw [List.length_map, tk_all] at h5
        walk_at "vc"
        refine ⟨D, _, rfl, h5, ?_⟩
        have e : (sd.map fun s => decide ((sl s)[i]? = some 46)).all id = false := by
          obtain ⟨s', hm, c, h1, h2⟩ := hs.td i (by omega)
          rw [List.all_eq_false]
          exact ⟨_, List.mem_map.mpr ⟨s', hm, rfl⟩, by rw [h1]; simpa using h2⟩
        rw [e]
        walk_at "vc"
        exact ⟨_, _, _, M5, rfl, S4.trans S5⟩
    · rintro σ1 H3 ⟨o2, o3, o4, M3, rfl, S3⟩
      walk_at "vc"
      exact k _ _ _ S3 rfl
  · intro U hU
    walk_at "vc"
    refine ⟨ua, _, rfl, SqL.of (S1.mh _ _ hua), ?_⟩
    refine fo_go walkE (fun i σ' H' => ∃ o2 o3 M', σ' = [some (.ref ca), some (.ref ua), o2, o3, none] ∧ Stp no M H M' H') ⟨_, _, M, rfl, S1⟩ (fun _ _ _ _ ⟨_, _, _, _, S⟩ => S.mh _ _ (S.mm _ _ hua)) ?_ ?_
    · rintro i v σ1 H3 H3' hi ⟨o2, o3, M3, rfl, S3⟩ ⟨T, x, rfl, hT, rfl, hx⟩
      obtain ⟨s', hs', rfl⟩ := map_at hx
      have S4 := S3.new (.tup [.int i, .str s']) hT
      have hm := mem_of_get hs'
      refine g_pair upd_same ?_
      generalize upd H3 T (.tup [.int i, .str s']) = H4 at S4 ⊢
      walk_at "vc"
      refine ⟨.ref ca, s', cs, rfl, hc, hs.rw s' hm, M3, S4.mh, ic'.mono S3.mm, ?_⟩
      rintro v M5 H5 S5 rfl
      have S6 := S4.trans S5
      walk_at "vc"
      refine ⟨ca, cvs, rfl, .inl (S6.mh _ _ (S6.mm _ _ hca)), ?_⟩
      walk_at "vc"
      refine ⟨cvs.length, rfl, M5, S6.mh, by omega, ?_⟩
      rintro v M7 H7 S7 rfl
      have S8 := S6.trans S7
      walk_at "vc"
      refine ifdF (by rw [hcl]; exact hs.nb s' hm) ?_
      walk_at "vc"
      refine ⟨ua, _, rfl, S8.mh _ _ (S8.mm _ _ hua), fun q hq => ?_⟩
      rw [cutV_to, ← List.map_take]
      refine w_inS (.inl upd_same) ?_
      walk_at "vc"
      have hni : s' ∉ sd.take i := by
        intro z
        have nd := List.Sublist.nodup (List.take_sublist (i + 1) sd) hs.nd
        rw [tk_snoc hs', List.nodup_append] at nd
        exact nd.2.2 _ z _ List.mem_cons_self rfl
      refine ifdF hni ?_
      walk_at "vc"
      exact ⟨_, _, M7, rfl, S8.new _ hq⟩
    · rintro σ1 H3 ⟨o2, o3, M3, rfl, S3⟩
      exact hU _ _ ⟨_, _, rfl, M3, S3⟩
end
end Nt
namespace Nt
section
variable {P : Program} {w : World} {K : PySem.W.Frag} {mg : Str → Option Value} {base : Heap}
def sp_ordered_lots : Sp := fun vs H Q _ => ∃ (v : V) (xs : List Str), vs = [v] ∧ xs.length ≤ 1000 ∧ ∃ M, Same M H ∧ Is M (dS xs) v ∧ ∀ ys : List Str, (∀ y, y ∈ ys ↔ y ∈ xs) → Ret M H Q (dS ys)
theorem ok_ordered_lots (T : Tx K mg) : Good P w K mg base CX0 2 (He.fAd K (He.DefD.at_ d_ordered_lots)) p_ordered_lots sp_ordered_lots := by
  obtain ⟨fd, F⟩ := T.def_ 8 (d := d_ordered_lots) rfl
  obtain ⟨fl, L⟩ := T.def_ 7 (d := d_lot_size) rfl
  refine good_of F sc_ordered_lots (fun _ _ _ _ _ _ us hl => match us, hl with | [_], _ => rfl) (by intro vs H Q E h; (repeat obtain ⟨_, h⟩ := h); subst_vars; rfl) fun cdv A outer s H vs Q E hr h => ?_
  have hu := hu_of hr
  refine ⟨_, (pss_one (ps_ret (pe_callBK (cq_sortKey (z := "+") (Nat.lt_of_le_of_lt (Nat.add_le_add_right (Nat.le_add_right _ _) _) hr.un) (fun s KX lim y t E => count_key L sc_lot_size rfl (fun _ _ _ _ _ _ us hl => match us, hl with | [_], _ => rfl) rfl (by decide) (by have := hr.dp; exact Nat.lt_of_le_of_lt (Nat.le_add_right _ _) this) KX lim y t E)) (by rfl) T.b_sorted (by decide +kernel)
    (pa_cons (pe_callB (cq_sortedSet rfl) (by rfl) T.b_sorted (by decide +kernel) (pa_cons (pe_callTy (cq_set rfl) (by rfl) T.b_set (by decide +kernel) (pa_cons (pv 0) pa_nil)) pa_nil)) pa_nil) (pk_cons (pe_glob (v := .ref (He.fAd K (He.DefD.at_ d_lot_size))) (by rfl) T.m_lot_size rfl) pk_nil)))), ?_⟩
  obtain ⟨v, xs, rfl, hl, M, s0, iv, k⟩ := h
  obtain ⟨a, rfl, ha⟩ := iv.strs
  walk_at "vc"
  refine w_ckw ?_
  walk_at "vc"
  refine ⟨a, xs, rfl, s0 _ _ ha, hl, fun p hp => ?_⟩
  have S1 := (Stp.refl (ex := no) s0).new (SetX P w p (setL xs)) hp
  walk_at "vc"
  refine ⟨p, setL xs, rfl, upd_same, Nat.le_trans (setL_le xs) hl, fun ys q hm hy _ hq => ?_⟩
  have S2 := S1.new (.lst (ys.map V.str)) hq
  walk_at "vc"
  refine ⟨q, ys, rfl, rfl, upd_same, by have := setL_le xs; omega, fun zs r pz hr' => ?_⟩
  have S3 := S2.lay (.lst (zs.map V.str)) hr'
  exact k zs (fun y => by rw [pz.mem_iff, hm, setL_mem]) _ _ _ S3 (Is.of_strs upd_same)
def sp_grown_rows : Sp := fun vs H Q _ => ∃ (v : V) (seeds : List Str) (n : Nat), vs = [v, .str (blk n), .int 800] ∧ n ≤ 100 ∧ seeds.length ≤ 100 ∧ (∀ s ∈ seeds, s.length = n) ∧ (itB seeds (blk n) 41).length ≤ 40 ∧ ∃ M, Same M H ∧ Is M (dS seeds) v ∧ Ret M H Q (dS (itB seeds (blk n) 41))
theorem ok_grown_rows (T : Tx K mg) : Good P w K mg base CX0 2 (He.fAd K (He.DefD.at_ d_grown_rows)) p_grown_rows sp_grown_rows := by
  obtain ⟨fd, F⟩ := T.def_ 15 (d := d_grown_rows) rfl
  have g_over : Good P w K mg base CX0 1 (He.fAd K (He.DefD.at_ d_over)) p_over sp_over := ok_over T
  refine good_of F sc_grown_rows (fun _ _ _ _ _ _ us hl => match us, hl with | [_, _, _], _ => rfl) (by intro vs H Q E h; (repeat obtain ⟨_, h⟩ := h); subst_vars; rfl) fun cdv A outer s H vs Q E hr h => ?_
  have hu := hu_of hr
  refine ⟨_, (pss_cons (ps_set (i := 3) sc_grown_rows.nd rfl (Or.inl rfl) (pe_lst (pa_cons (pv 1) pa_nil)))  (pss_cons (ps_set (i := 4) sc_grown_rows.nd rfl (Or.inl rfl) (pe_disp (pps_cons (pv 1) pe_bl pps_nil) (by rfl) (by rfl) (fun z => by cases z) (by decide)))  (pss_cons (ps_set (i := 5) sc_grown_rows.nd rfl (Or.inl rfl) pe_int)  (pss_cons (ps_while PassesOwn.never (PW.pt (pw_and (pt_cmpR op_lt (pv 5) (pe_callB cq_len (by rfl) T.b_len (by decide +kernel) (pa_cons (pv 3) pa_nil)) (nomark _)) (pw_and1 (pt_cmpR op_le (pe_callB cq_len (by rfl) T.b_len (by decide +kernel) (pa_cons (pv 3) pa_nil)) (pv 2) (nomark _)))))  (pss_cons (ps_for PassesOwn.never rfl (iq_list K (pv 0)) (pg_name (i := 6) sc_grown_rows.nd rfl (Or.inl rfl) (Or.inl rfl))  (pss_cons (ps_set (i := 7) sc_grown_rows.nd rfl (Or.inl rfl) (pe_good g_over (hr.mono (by decide)) rfl T.m_over (pa_cons (pv 6) (pa_cons (pe_ix xq_list (pv 3) (pv 5) (fun _ _ => rfl)) pa_nil))))  (pss_one (ps_if (pt_cmp (pc_dnotin hu (pv 7) (pv 4)) rfl)  (pss_cons (ps_dput hu (pv 4) (pv 7) pe_bl rfl)  (pss_one (ps_expr (eq_bm PySem.F.slot_list_append PySem.F.type_list_append mt_append (pv 3) (pa_cons (pv 7) pa_nil)))))  pss_nil))))  (pss_one (ps_set (i := 5) sc_grown_rows.nd rfl (Or.inl rfl) (pe_op op_add (pv 5) pe_int)))))  (pss_one (ps_ret (pv 3))))))), ?_⟩
  obtain ⟨v, seeds, n, rfl, hn, hsl, hs, h40, M, s0, i0, k⟩ := h
  obtain ⟨a, rfl, ha⟩ := i0.strs
  walk_at "vc"
  intro f hf
  walk_at "vc"
  intro d hd
  refine w_one ?_
  walk_at "vc"
  refine ⟨upd_same, [(.inr (blk n), .bl true)], rfl, by simp, ?_⟩
  obtain ⟨hfd, hd0⟩ := two_ne hd
  walk_at "vc"
  have S1 := (((Stp.refl (ex := no) s0).new (.lst [.str (blk n)]) hf).new (.dK []) hd).put (.dK (mergeK [] [(Sum.inr (blk n), V.bl true)])) (none_of_same s0 hd0) (.inl hd0)
  let I : Nat → Option V → Option V → List Str → L2.St → Hp → Prop := fun i o6 o7 fs σ' H' => ∃ M', σ' = [some (.ref a), some (.str (blk n)), some (.int 800), some (.ref f), some (.ref d), some (.int (i : Nat)), o6, o7] ∧ Stp no M H M' H' ∧ M' f = none ∧ M' d = none ∧ H' f = some (.lst (fs.map V.str)) ∧ H' d = some (.dK (kd yes fs))
  refine ⟨fun m σ' H' => ∃ i o6 o7, i + m = 50 ∧ i ≤ 41 ∧ I i o6 o7 (itB seeds (blk n) i) σ' H', ⟨50, 0, none, none, rfl, by omega, M, rfl, S1, none_of_same s0 hf, none_of_same s0 hd0, by rw [upd_ne (Ne.symm hfd), upd_ne (Ne.symm hfd), upd_same]; rfl, upd_same⟩, ?_⟩
  rintro m σ1 H1 ⟨i, o6, o7, him, hi, M1, rfl, S1, mf, md, hf1, hd1⟩
  have hle : (itB seeds (blk n) i).length ≤ 40 := Nat.le_trans (itB_le hi) h40
  walk_at "vc"
  refine ⟨f, _, rfl, .inl hf1, ?_⟩
  rw [List.length_map]
  walk_at "vc"
  refine ifd (fun q => ?_) (fun q => ?_)
  · walk_at "vc"
    refine ⟨f, _, rfl, .inl hf1, ?_⟩
    rw [List.length_map]
    walk_at "vc"
    refine ifdT (by omega) ?_
    have q : i < (itB seeds (blk n) i).length := by omega
    obtain ⟨r, hr1⟩ : ∃ r, (itB seeds (blk n) i)[i]? = some r := ⟨_, List.getElem?_eq_getElem q⟩
    have e1 : itB seeds (blk n) (i + 1) = stepB seeds r (itB seeds (blk n) i) := by rw [itB, hr1]
    refine ⟨fun σ' H' => ∃ o6 o7, I (i + 1) o6 o7 (itB seeds (blk n) (i + 1)) σ' H', fun σ' H' ⟨o6, o7, hI⟩ => ⟨m - 1, by omega, i + 1, o6, o7, by omega, by omega, hI⟩, ?_⟩
    refine w_cut (fun σ' H' => ∃ o6 o7, I i o6 o7 (itB seeds (blk n) (i + 1)) σ' H') ?_ ?_
    · rintro σ2 H2 ⟨o6, o7, M2, rfl, S2, mf2, md2, hf2, hd2⟩
      walk_at "vc"
      exact ⟨_, _, M2, rfl, S2, mf2, md2, hf2, hd2⟩
    · intro U hU
      walk_at "vc"
      refine ⟨a, rfl, ⟨_, SqL.of (S1.mh _ _ (S1.mm _ _ ha))⟩, ?_⟩
      refine fo_go walkL (fun j σ' H' => ∃ o6 o7, I i o6 o7 ((seeds.take j).foldl (addB r) (itB seeds (blk n) i)) σ' H') ⟨_, _, M1, rfl, S1, mf, md, hf1, hd1⟩ (fun _ _ _ _ ⟨_, _, _, _, S, _⟩ => S.mh _ _ (S.mm _ _ ha)) ?_ ?_
      · rintro j v σ3 H3 H3' hj ⟨o6, o7, M3, rfl, S3, mf3, md3, hf3, hd3⟩ ⟨rfl, hv⟩
        obtain ⟨s', hs1, rfl⟩ := map_at hv
        obtain ⟨t, et, ht⟩ := stepB_pre (r := r) (seeds.take j) (itB seeds (blk n) i)
        have et' : (seeds.take j).foldl (addB r) (itB seeds (blk n) i) = itB seeds (blk n) i ++ t := et
        rw [List.length_take] at ht
        have hget : (((seeds.take j).foldl (addB r) (itB seeds (blk n) i)).map V.str)[i]? = some (.str r) := by
          rw [List.getElem?_map, et', List.getElem?_append_left q, hr1]
          rfl
        have hlen : ((seeds.take j).foldl (addB r) (itB seeds (blk n) i)).length ≤ 1000 := by
          rw [et', List.length_append]
          omega
        have e2 := fold_tk (g := addB r) (b := itB seeds (blk n) i) hs1
        walk_at "vc"
        refine w_ixl hf3 (atI_nat hget) ?_
        walk_at "vc"
        refine ⟨s', r, rfl, M3, S3.mh, by rw [hs s' (mem_of_get hs1)]; omega, ?_⟩
        rintro v M4 H4 S4 rfl
        obtain ⟨mf4, hf4⟩ := S4.keep mf3 hf3
        obtain ⟨md4, hd4⟩ := S4.keep md3 hd3
        walk_at "vc"
        refine kd_has hd4 (fun q3 => ?_) (fun q3 => ?_)
        · walk_at "vc"
          rw [e2]
          refine ⟨_, _, M4, rfl, S3.trans S4, mf4, md4, ?_, ?_⟩
          · rw [hf4, addB, if_pos q3]
          · rw [hd4, addB, if_pos q3]
        · walk_at "vc"
          refine kd_set (f := yes) hd4 q3 (by omega) rfl ?_
          walk_at "vc"
          have hf5 : upd H4 d (.dK (kd yes ((seeds.take j).foldl (addB r) (itB seeds (blk n) i) ++ [ovr s' r]))) f = some (.lst (((seeds.take j).foldl (addB r) (itB seeds (blk n) i)).map V.str)) := by rw [upd_ne (Ne.symm hfd)]; exact hf4
          refine ⟨⟨f, _, rfl, hf5⟩, ?_⟩
          walk_at "vc"
          refine ⟨f, _, _, rfl, rfl, hf5, line_lt (by rw [List.length_map]; omega), ?_⟩
          walk_at "vc"
          rw [e2]
          refine ⟨_, _, M4, rfl, ((S3.trans S4).put _ md4 (.inl hd0)).put _ mf4 (.inl hf), mf4, md4, ?_, ?_⟩
          · rw [upd_same, addB, if_neg q3]; simp
          · rw [upd_ne hfd, upd_same, addB, if_neg q3]
      · rintro σ3 H3 ⟨o6, o7, M3, rfl, S3, mf3, md3, hf3, hd3⟩
        walk_at "vc"
        rw [List.length_map, tk_all] at hf3 hd3
        rw [e1] at hU
        exact hU _ _ ⟨_, _, M3, rfl, S3, mf3, md3, hf3, hd3⟩
  · walk_at "vc"
    have e : itB seeds (blk n) 41 = itB seeds (blk n) i := by
      have st := itB_stay (seeds := seeds) (z := blk n) (n := i) (by omega) (41 - i)
      rw [show i + (41 - i) = 41 by omega] at st
      exact st
    rw [e] at k
    exact k _ _ _ (S1.fix hf1 hf) (Is.of_strs upd_same)
end
end Nt
namespace Nt
section
variable {P : Program} {w : World} {K : PySem.W.Frag} {mg : Str → Option Value} {base : Heap}
def sp_Band_seeds (C : Addr) : Sp := fun vs H Q _ => ∃ (a : Addr) (cs : Cells) (seeds rows : List Str), vs = [.ref a] ∧ ∃ M, Same M H ∧ BandO C M cs seeds rows a ∧ Ret M H Q (dS seeds)
theorem ok_Band_seeds (T : Tx K mg) : Good P w K mg base CX0 1 (He.fAd K (He.DefD.at_ d_Band_seeds)) p_Band_seeds (sp_Band_seeds (He.ga K "Band")) := by
  obtain ⟨fd, F⟩ := T.def_ 17 (d := d_Band_seeds) rfl
  refine good_of F sc_Band_seeds (fun _ _ _ _ _ _ us hl => match us, hl with | [_], _ => rfl) (by intro vs H Q E h; (repeat obtain ⟨_, h⟩ := h); subst_vars; rfl) fun cdv A outer s H vs Q E hr h => ?_
  have hu := hu_of hr
  refine ⟨_, (pss_one (ps_ret (pe_callTy cq_list (by rfl) T.b_list (by decide +kernel) (pa_cons (pe_fld (pv 0) rfl) pa_nil)))), ?_⟩
  obtain ⟨a, cs, seeds, rows, rfl, M, s0, ⟨dx, vc, vs, vr, vk, vl, h1, h3, h5, h7⟩, k⟩ := h
  obtain ⟨b, rfl, hb⟩ := h5.strs
  walk_at "vc"
  refine ⟨a, _, dx, _, _, rfl, s0 _ _ h1, T.c_Band, T.n_Band_seed_list, fl_seed, ?_⟩
  walk_at "vc"
  refine ⟨b, _, rfl, .inl (s0 _ _ hb), fun l hl => ?_⟩
  exact k _ _ _ ((Stp.refl s0).lay _ hl) (Is.of_strs upd_same)
def sp_Band_rows (C : Addr) : Sp := fun vs H Q _ => ∃ (a : Addr) (cs : Cells) (seeds rows : List Str), vs = [.ref a] ∧ ∃ M, Same M H ∧ BandO C M cs seeds rows a ∧ Ret M H Q (dS rows)
theorem ok_Band_rows (T : Tx K mg) : Good P w K mg base CX0 1 (He.fAd K (He.DefD.at_ d_Band_rows)) p_Band_rows (sp_Band_rows (He.ga K "Band")) := by
  obtain ⟨fd, F⟩ := T.def_ 18 (d := d_Band_rows) rfl
  refine good_of F sc_Band_rows (fun _ _ _ _ _ _ us hl => match us, hl with | [_], _ => rfl) (by intro vs H Q E h; (repeat obtain ⟨_, h⟩ := h); subst_vars; rfl) fun cdv A outer s H vs Q E hr h => ?_
  have hu := hu_of hr
  refine ⟨_, (pss_one (ps_ret (pe_callTy cq_list (by rfl) T.b_list (by decide +kernel) (pa_cons (pe_fld (pv 0) rfl) pa_nil)))), ?_⟩
  obtain ⟨a, cs, seeds, rows, rfl, M, s0, ⟨dx, vc, vs, vr, vk, vl, h1, h3, h5, h7⟩, k⟩ := h
  obtain ⟨b, rfl, hb⟩ := h7.strs
  walk_at "vc"
  refine ⟨a, _, dx, _, _, rfl, s0 _ _ h1, T.c_Band, T.n_Band_row_list, fl_row, ?_⟩
  walk_at "vc"
  refine ⟨b, _, rfl, .inl (s0 _ _ hb), fun l hl => ?_⟩
  exact k _ _ _ ((Stp.refl s0).lay _ hl) (Is.of_strs upd_same)
def sp_Band_full_rows (C : Addr) : Sp := fun vs H Q _ => ∃ (a : Addr) (cs : Cells) (seeds rows : List Str), vs = [.ref a] ∧ rows.length ≤ 1000 ∧ ∃ M, Same M H ∧ BandO C M cs seeds rows a ∧ Ret M H Q (dS (fullS rows))
theorem ok_Band_full_rows (T : Tx K mg) : Good P w K mg base CX0 1 (He.fAd K (He.DefD.at_ d_Band_full_rows)) p_Band_full_rows (sp_Band_full_rows (He.ga K "Band")) := by
  obtain ⟨fd, F⟩ := T.def_ 19 (d := d_Band_full_rows) rfl
  refine good_of F sc_Band_full_rows (fun _ _ _ _ _ _ us hl => match us, hl with | [_], _ => rfl) (by intro vs H Q E h; (repeat obtain ⟨_, h⟩ := h); subst_vars; rfl) fun cdv A outer s H vs Q E hr h => ?_
  have hu := hu_of hr
  refine ⟨_, (pss_one (ps_ret (pe_lc (own := [("row", 1)]) (by rfl) sc_Band_full_rows.nd (iq_list K (pe_fld (pv 0) rfl)) (blkOk_by (own := [("row", 1)]) (N := n_Band_full_rows) (sc := He.DefD.scope d_Band_full_rows) (by decide +kernel)) (fun _ _ _ _ _ => (pg_name (i := 1) sc_Band_full_rows.nd rfl (Or.inl rfl) (Or.inr rfl))) (fun _ _ _ _ _ => pts_one (pt_cmpR op_notIn_sign pe_str (pv 1) (by rfl))) (fun _ _ _ _ _ => (pv 1))))), ?_⟩
  obtain ⟨a, cs, seeds, xs, rfl, hx, M, s0, ⟨dx, vc, vs, vr, vk, vl, h1, h3, h5, h7⟩, k⟩ := h
  obtain ⟨b, rfl, ha⟩ := h7.strs
  walk_at "vc"
  refine ⟨a, _, dx, _, _, rfl, s0 _ _ h1, T.c_Band, T.n_Band_row_list, fl_row, ?_⟩
  refine ⟨b, rfl, ⟨_, SqL.of (s0 _ _ ha)⟩, ?_⟩
  refine lc_go (ex := no) walkL s0 (fun i acc _ => acc = ((xs.take i).filter nodot).map V.str) rfl (fun _ _ S => S.mh _ _ (S.mm _ _ ha)) ?_ ?_
  · rintro i v acc M1 H1 H1' D hi S1 hD m1 h1 rfl ⟨rfl, hv⟩
    obtain ⟨x, hx', rfl⟩ := map_at hv
    walk_at "vc"
    refine ⟨rfl, ?_⟩
    walk_at "vc"
    refine ⟨46, x, congrArg V.str dot_ch, rfl, ?_⟩
    walk_at "vc"
    refine ifnd (fun q => ?_) (fun q => ?_)
    · walk_at "vc"
      exact LcA.of hD S1 m1 h1 (len_tf (by omega)) (by rw [tkf_yes hx' (by simpa [nodot] using q)])
    · exact LcS.of S1 m1 h1 (by rw [tkf_no hx' (by simpa [nodot] using q)])
  · rintro D acc M1 H1 hD S1 m1 h1 rfl
    exact ret_strs k S1 hD h1 (by rw [List.length_map, tk_all]; rfl)
def sp_Band___init__ (C : Addr) : Sp := fun vs H Q _ => ∃ (x dx : Addr) (u v : V) (cs : Cells) (seeds : List Str) (H0 M : Hp), vs = [.ref x, u, v, .int 800] ∧ H = upd (upd H0 dx (.own x)) x (.ins C dx []) ∧ H0 x = none ∧ H0 dx = none ∧ dx ≠ x ∧
  CellsOk cs ∧ SeedsOk cs seeds ∧ (itB seeds (blk cs.length) 41).length ≤ 40 ∧ Same M H0 ∧ Is M (cellsD cs) u ∧ Is M (dS seeds) v ∧
  ∀ rows M' H', rows.Perm (itB seeds (blk cs.length) 41) → sortedS rows = true → Stp no M H0 M' H' → BandO C M' cs seeds rows x → Q .non H'
theorem bind_band {fd : FuncData} (F : FunD K d_Band___init__.name d_Band___init__.qual d_Band___init__.params d_Band___init__.body d_Band___init__.scope [] [("most", V.int 800)] (He.fAd K d_Band___init__.at_) fd) : ∃ ds, Vals [V.int 800] ds ∧ Binds K fd p_Band___init__ ds := by
  refine FunD.binds0 (ps := p_Band___init__) F 3 (List.cons_ne_nil _ _) (by show 3 + 1 = 4; rfl) ?_
  intro D doc pm an cdv ct us ks h1 h2
  match us, ks, h1, h2 with
  | [a, b, c], [d], _, _ => exact ⟨_, _, _, _, _, _, rfl, rfl, rfl⟩
theorem ok_Band___init__ (T : Tx K mg) : ∃ fd, FnOk P w K mg base CX0 3 (He.fAd K (He.DefD.at_ d_Band___init__)) fd p_Band___init__ (sp_Band___init__ (He.ga K "Band")) ∧ ∃ ds, Vals [V.int 800] ds ∧ Binds K fd p_Band___init__ ds := by
  obtain ⟨fd, F⟩ := T.def_ 16 (d := d_Band___init__) rfl
  have g_blank : Good P w K mg base CX0 1 (He.fAd K (He.DefD.at_ d_blank)) p_blank sp_blank := ok_blank T
  have g_check_cells : Good P w K mg base CX0 2 (He.fAd K (He.DefD.at_ d_check_cells)) p_check_cells sp_check_cells := ok_check_cells T
  have g_check_seeds : Good P w K mg base CX0 2 (He.fAd K (He.DefD.at_ d_check_seeds)) p_check_seeds sp_check_seeds := ok_check_seeds T
  have g_grown_rows : Good P w K mg base CX0 2 (He.fAd K (He.DefD.at_ d_grown_rows)) p_grown_rows sp_grown_rows := ok_grown_rows T
  have g_is_number : Good P w K mg base CX0 1 (He.fAd K (He.DefD.at_ d_is_number)) p_is_number sp_is_number := ok_is_number T
  have g_lot_of : Good P w K mg base CX0 1 (He.fAd K (He.DefD.at_ d_lot_of)) p_lot_of sp_lot_of := ok_lot_of T
  have g_ordered_lots : Good P w K mg base CX0 2 (He.fAd K (He.DefD.at_ d_ordered_lots)) p_ordered_lots sp_ordered_lots := ok_ordered_lots T
  refine ⟨fd, F.ok sc_Band___init__ (by intro vs H Q E h; (repeat obtain ⟨_, h⟩ := h); subst_vars; rfl) (fun cdv A outer s H vs Q E hr h => ?_), bind_band F⟩
  have hu := hu_of hr
  refine from_nox ?_
  refine ⟨_, (pss_cons (ps_expr (pe_good g_check_cells (hr.mono (by decide)) rfl T.m_check_cells (pa_cons (pv 1) pa_nil)))  (pss_cons (ps_expr (pe_good g_check_seeds (hr.mono (by decide)) rfl T.m_check_seeds (pa_cons (pv 1) (pa_cons (pv 2) pa_nil))))  (pss_cons (ps_if (pt_not (pt_val (pe_good g_is_number (hr.mono (by decide)) rfl T.m_is_number (pa_cons (pv 3) (pa_cons pe_int (pa_cons (pe_gint rfl T.m_MOST_ROWS) pa_nil))))))  (pss_one ps_never)  pss_nil)  (pss_cons (ps_set (i := 4) sc_Band___init__.nd rfl (Or.inl rfl) (pe_good g_grown_rows (hr.mono (by decide)) rfl T.m_grown_rows (pa_cons (pv 2) (pa_cons (pe_good g_blank (hr.mono (by decide)) rfl T.m_blank (pa_cons (pe_callB cq_len (by rfl) T.b_len (by decide +kernel) (pa_cons (pv 1) pa_nil)) pa_nil)) (pa_cons (pv 3) pa_nil)))))  (pss_cons (ps_if (pt_cmpR op_gt (pe_callB cq_len (by rfl) T.b_len (by decide +kernel) (pa_cons (pv 4) pa_nil)) (pv 3) (nomark _))  (pss_one ps_never)  pss_nil)  (pss_cons (ps_fld (pv 0) (pe_callTy cq_list (by rfl) T.b_list (by decide +kernel) (pa_cons (pv 1) pa_nil)) rfl)  (pss_cons (ps_fld (pv 0) (pe_callTy cq_list (by rfl) T.b_list (by decide +kernel) (pa_cons (pv 2) pa_nil)) rfl)  (pss_cons (ps_fld (pv 0) (pe_callB cr_sortedS (by rfl) T.b_sorted (by decide +kernel) (pa_cons (pv 4) pa_nil)) rfl)  (pss_cons (ps_fld (pv 0) (pe_dc (own := [("row", 5)]) (by rfl) sc_Band___init__.nd (iq_list K (pv 4)) (blkOk_by (own := [("row", 5)]) (N := n_Band___init__) (sc := He.DefD.scope d_Band___init__) (by decide +kernel)) (fun _ _ _ _ _ => (pg_name (i := 5) sc_Band___init__.nd rfl (Or.inl rfl) (Or.inr rfl))) (fun _ _ _ _ _ => pts_nil) (fun _ _ _ _ _ => (pv 5)) (fun _ _ _ _ _ => pe_bl)) rfl)  (pss_one (ps_fld (pv 0) (pe_good g_ordered_lots (hr.mono (by decide)) rfl T.m_ordered_lots (pa_cons (pe_lc (own := [("row", 5)]) (by rfl) sc_Band___init__.nd (iq_list K (pv 4)) (blkOk_by (own := [("row", 5)]) (N := n_Band___init__) (sc := He.DefD.scope d_Band___init__) (by decide +kernel)) (fun _ _ _ _ _ => (pg_name (i := 5) sc_Band___init__.nd rfl (Or.inl rfl) (Or.inr rfl))) (fun _ _ _ _ _ => pts_nil) (fun _ _ _ _ _ => (pe_good g_lot_of (hr.mono (by decide)) rfl T.m_lot_of (pa_cons (pv 5) pa_nil)))) pa_nil)) rfl))))))))))), ?_⟩
  obtain ⟨x, dx, u, v, cs, seeds, H0, M, rfl, rfl, hx, hdx, hne, hc, hs, h40, s0, iu, iv, k⟩ := h
  have S1 := ((Stp.refl (ex := no) s0).new (.own x) hdx).new (.ins (He.ga K "Band") dx []) (p := x) (by rw [upd_ne (Ne.symm hne)]; exact hx)
  have hx1 : upd (upd H0 dx (.own x)) x (.ins (He.ga K "Band") dx []) x = some (.ins (He.ga K "Band") dx []) := upd_same
  have mx1 : M x = none := none_of_same s0 hx
  have iu' := iu
  have iv' := iv
  obtain ⟨ca, cvs, rfl, hca, hcv⟩ := iu
  obtain ⟨sa, rfl, hsa⟩ := iv.strs
  have hcl : cvs.length = cs.length := by have := hcv.len; rw [List.length_map] at this; exact this
  have hl2 := hc.l2
  have hsl := hs.ln
  generalize upd (upd H0 dx (.own x)) x (.ins (He.ga K "Band") dx []) = H1 at S1 hx1 ⊢
  walk_at "vc"
  refine ⟨_, cs, rfl, hc, M, S1.mh, iu', ?_⟩
  intro v2 M2 H2 S2 i2
  obtain ⟨mx2, hx2⟩ := S2.keep mx1 hx1
  have S2' := S1.trans S2
  walk_at "vc"
  refine ⟨_, _, cs, seeds, rfl, hc, hs, M2, S2.mh, iu'.mono S2.mm, iv'.mono S2.mm, ?_⟩
  intro v3 M3 H3 S3 i3
  obtain ⟨mx3, hx3⟩ := S3.keep mx2 hx2
  have S3' := S2'.trans S3
  walk_at "vc"
  refine ⟨800, 1, 800, rfl, by decide, by decide, M3, S3.mh, ?_⟩
  rintro v4 M4 H4 S4 rfl
  obtain ⟨mx4, hx4⟩ := S4.keep mx3 hx3
  have S4' := S3'.trans S4
  walk_at "vc"
  refine ⟨ca, cvs, rfl, .inl (S4'.mh _ _ (S4'.mm _ _ hca)), ?_⟩
  walk_at "vc"
  refine ⟨cvs.length, rfl, M4, S4.mh, by omega, ?_⟩
  rintro v5 M5 H5 S5 rfl
  obtain ⟨mx5, hx5⟩ := S5.keep mx4 hx4
  have S5' := S4'.trans S5
  walk_at "vc"
  rw [hcl]
  refine ⟨.ref sa, seeds, cs.length, rfl, by omega, by omega, fun s hs' => row_len (hs.rw s hs'), h40, M5, S5.mh, iv'.mono S5'.mm, ?_⟩
  intro v6 M6 H6 S6 i6
  obtain ⟨ra, rfl, hra⟩ := i6.strs
  obtain ⟨mx6, hx6⟩ := S6.keep mx5 hx5
  have S6' := S5'.trans S6
  walk_at "vc"
  have hRl : ∀ r ∈ itB seeds (blk cs.length) 41, r.length ≤ 1000 := fun r hr' => by rw [row_len (rows_all hs.rw 41 r hr')]; omega
  generalize itB seeds (blk cs.length) 41 = R at h40 k hra hRl
  refine ⟨ra, _, rfl, .inl (S6.mh _ _ hra), ?_⟩
  rw [List.length_map]
  walk_at "vc"
  refine ifdF (by omega) ?_
  walk_at "vc"
  refine ⟨ca, cvs, rfl, .inl (S6'.mh _ _ (S6'.mm _ _ hca)), fun l1 hl1 => ?_⟩
  have S7 := S6'.lay (.lst cvs) hl1
  have hxl1 : x ≠ l1 := fun z => by rw [z, hl1] at hx6; cases hx6
  have m7 : Same M6 (upd M6 l1 (.lst cvs)) := same_upd (S6.mfree hl1)
  have iu7 : Is (upd M6 l1 (.lst cvs)) (cellsD cs) (.ref l1) := ⟨l1, cvs, rfl, upd_same, (hcv.mono S6'.mm).mono m7⟩
  have mx7 : upd M6 l1 (.lst cvs) x = none := by rw [upd_ne hxl1]; exact mx6
  have hx7 : upd H6 l1 (.lst cvs) x = some (.ins (He.ga K "Band") dx []) := by rw [upd_ne hxl1]; exact hx6
  have hra7 := m7 _ _ hra
  have hsa7 : upd M6 l1 (.lst cvs) sa = some (.lst (seeds.map V.str)) := S7.mm _ _ hsa
  generalize upd M6 l1 (.lst cvs) = M7 at S7 iu7 mx7 hra7 hsa7
  generalize upd H6 l1 (.lst cvs) = H7 at S7 hx7 ⊢
  walk_at "vc"
  refine ⟨x, _, dx, [], rfl, hx7, T.c_Band, T.n_Band_cell_list, (by simp), ?_⟩
  rw [pf1]
  have S8 := S7.put (.ins (He.ga K "Band") dx [("cell_list", .ref l1)]) mx7 (.inl hx)
  have hx8 : upd H7 x (.ins (He.ga K "Band") dx [("cell_list", .ref l1)]) x = some (.ins (He.ga K "Band") dx [("cell_list", .ref l1)]) := upd_same
  generalize upd H7 x (.ins (He.ga K "Band") dx [("cell_list", .ref l1)]) = H8 at S8 hx8 ⊢
  walk_at "vc"
  refine ⟨sa, _, rfl, .inl (S8.mh _ _ hsa7), fun l2 hl2' => ?_⟩
  have S9 := S8.lay (.lst (seeds.map V.str)) hl2'
  have hxl2 : x ≠ l2 := fun z => by rw [z, hl2'] at hx8; cases hx8
  have m9 : Same M7 (upd M7 l2 (.lst (seeds.map V.str))) := same_upd (S8.mfree hl2')
  have iv9 : Is (upd M7 l2 (.lst (seeds.map V.str))) (dS seeds) (.ref l2) := Is.of_strs upd_same
  have mx9 : upd M7 l2 (.lst (seeds.map V.str)) x = none := by rw [upd_ne hxl2]; exact mx7
  have hx9 : upd H8 l2 (.lst (seeds.map V.str)) x = some (.ins (He.ga K "Band") dx [("cell_list", .ref l1)]) := by rw [upd_ne hxl2]; exact hx8
  have hra9 := m9 _ _ hra7
  have iu9 := iu7.mono m9
  generalize upd M7 l2 (.lst (seeds.map V.str)) = M9 at S9 iu9 iv9 mx9 hra9
  generalize upd H8 l2 (.lst (seeds.map V.str)) = H9 at S9 hx9 ⊢
  walk_at "vc"
  refine ⟨x, _, dx, _, rfl, hx9, T.c_Band, T.n_Band_seed_list, (by simp), ?_⟩
  rw [pf2]
  have S10 := S9.put (.ins (He.ga K "Band") dx [("cell_list", .ref l1), ("seed_list", .ref l2)]) mx9 (.inl hx)
  have hx10 : upd H9 x (.ins (He.ga K "Band") dx [("cell_list", .ref l1), ("seed_list", .ref l2)]) x = some (.ins (He.ga K "Band") dx [("cell_list", .ref l1), ("seed_list", .ref l2)]) := upd_same
  generalize upd H9 x (.ins (He.ga K "Band") dx [("cell_list", .ref l1), ("seed_list", .ref l2)]) = H10 at S10 hx10 ⊢
  walk_at "vc"
  refine ⟨ra, R, rfl, SqL.of (S10.mh _ _ hra9), by omega, ?_⟩
  intro rows l3 hpm hsd hl3
  have S11 := S10.lay (.lst (rows.map V.str)) hl3
  have hxl3 : x ≠ l3 := fun z => by rw [z, hl3] at hx10; cases hx10
  have m11 : Same M9 (upd M9 l3 (.lst (rows.map V.str))) := same_upd (S10.mfree hl3)
  have ir11 : Is (upd M9 l3 (.lst (rows.map V.str))) (dS rows) (.ref l3) := Is.of_strs upd_same
  have mx11 : upd M9 l3 (.lst (rows.map V.str)) x = none := by rw [upd_ne hxl3]; exact mx9
  have hx11 : upd H10 l3 (.lst (rows.map V.str)) x = some (.ins (He.ga K "Band") dx [("cell_list", .ref l1), ("seed_list", .ref l2)]) := by rw [upd_ne hxl3]; exact hx10
  have hra11 := m11 _ _ hra9
  have iu11 := iu9.mono m11
  have iv11 := iv9.mono m11
  generalize upd M9 l3 (.lst (rows.map V.str)) = M11 at S11 iu11 iv11 ir11 mx11 hra11
  generalize upd H10 l3 (.lst (rows.map V.str)) = H11 at S11 hx11 ⊢
  walk_at "vc"
  refine ⟨x, _, dx, _, rfl, hx11, T.c_Band, T.n_Band_row_list, (by simp), ?_⟩
  rw [pf3]
  have S12 := S11.put (.ins (He.ga K "Band") dx [("cell_list", .ref l1), ("seed_list", .ref l2), ("row_list", .ref l3)]) mx11 (.inl hx)
  have hx12 : upd H11 x (.ins (He.ga K "Band") dx [("cell_list", .ref l1), ("seed_list", .ref l2), ("row_list", .ref l3)]) x = some (.ins (He.ga K "Band") dx [("cell_list", .ref l1), ("seed_list", .ref l2), ("row_list", .ref l3)]) := upd_same
  generalize upd H11 x (.ins (He.ga K "Band") dx [("cell_list", .ref l1), ("seed_list", .ref l2), ("row_list", .ref l3)]) = H12 at S12 hx12 ⊢
  walk_at "vc"
  refine ⟨ra, rfl, ⟨_, SqL.of (S12.mh _ _ hra11)⟩, ?_⟩
  refine dc_go (ex := no) walkL S12.mh (fun i acc _ => acc.length ≤ i) (Nat.le_refl _) (fun _ _ S => S.mh _ _ (S.mm _ _ hra11)) ?_ ?_
  · rintro i v acc M13 H13 H13' D hi S13 hD m13 h13 ha ⟨rfl, hv⟩
    obtain ⟨r, hr', rfl⟩ := map_at hv
    rw [List.length_map] at hi
    walk_at "vc"
    refine ⟨rfl, ?_⟩
    walk_at "vc"
    exact ⟨acc, .inr r, rfl, h13, line_lt (by omega), M13, _, S13.put _ m13 (.inl hD), m13, upd_same, Nat.le_trans (length_putK _ _ _) (by omega)⟩
  · rintro D acc M13 H13 hD S13 m13 h13 _
    obtain ⟨mx13, hx13⟩ := S13.keep mx11 hx12
    have S13' := S12.trans S13
    walk_at "vc"
    refine ⟨x, _, dx, _, rfl, hx13, T.c_Band, T.n_Band_known_rows, (by simp), ?_⟩
    rw [pf4]
    have S14 := S13'.put (.ins (He.ga K "Band") dx [("cell_list", .ref l1), ("seed_list", .ref l2), ("row_list", .ref l3), ("known_rows", .ref D)]) mx13 (.inl hx)
    have hx14 : upd H13 x (.ins (He.ga K "Band") dx [("cell_list", .ref l1), ("seed_list", .ref l2), ("row_list", .ref l3), ("known_rows", .ref D)]) x = some (.ins (He.ga K "Band") dx [("cell_list", .ref l1), ("seed_list", .ref l2), ("row_list", .ref l3), ("known_rows", .ref D)]) := upd_same
    have hra13 := S13.mm _ _ hra11
    have iu13 := iu11.mono S13.mm
    have iv13 := iv11.mono S13.mm
    have ir13 := ir11.mono S13.mm
    generalize upd H13 x (.ins (He.ga K "Band") dx [("cell_list", .ref l1), ("seed_list", .ref l2), ("row_list", .ref l3), ("known_rows", .ref D)]) = H14 at S14 hx14 ⊢
    walk_at "vc"
    refine ⟨ra, rfl, ⟨_, SqL.of (S14.mh _ _ hra13)⟩, ?_⟩
    refine lc_go (ex := no) walkL S14.mh (fun i acc _ => acc = ((R.take i).map lotS).map V.str) rfl (fun _ _ S => S.mh _ _ (S.mm _ _ hra13)) ?_ ?_
    · rintro i v acc M15 H15 H15' D2 hi S15 hD2 m15 h15 rfl ⟨rfl, hv⟩
      obtain ⟨r, hr', rfl⟩ := map_at hv
      rw [List.length_map] at hi
      walk_at "vc"
      refine ⟨rfl, ?_⟩
      walk_at "vc"
      refine ⟨r, rfl, M15, S15.mh, hRl r (mem_of_get hr'), ?_⟩
      rintro v M16 H16 S16 rfl
      obtain ⟨m16, h16⟩ := S16.keep m15 h15
      exact LcA.of hD2 (S15.trans S16) m16 h16 (by rw [List.length_map, List.length_map, List.length_take]; omega) (by rw [tk_snoc hr']; simp only [List.map_append, List.map_cons, List.map_nil])
    · rintro D2 acc M15 H15 hD2 S15 m15 h15 rfl
      rw [List.length_map, tk_all] at h15
      have F15 := S15.fix h15 hD2
      walk_at "vc"
      refine ⟨_, R.map lotS, rfl, by rw [List.length_map]; omega, _, F15.mh, Is.of_strs upd_same, ?_⟩
      intro ys _ v17 M17 H17 S17 i17
      have hxD2 : x ≠ D2 := fun z => by rw [z, hD2] at hx14; cases hx14
      obtain ⟨mx15, hx15⟩ := S15.keep mx13 hx14
      obtain ⟨mx17, hx17⟩ := S17.keep (by rw [upd_ne hxD2]; exact mx15) hx15
      have st := F15.mm.trans S17.mm
      have iu17 := iu13.mono st
      have iv17 := iv13.mono st
      have ir17 := ir13.mono st
      have S17' := (S14.trans F15).trans S17
      walk_at "vc"
      refine ⟨x, _, dx, _, rfl, hx17, T.c_Band, T.n_Band_lot_list, (by simp), ?_⟩
      rw [pf5]
      have S18 := S17'.put (.ins (He.ga K "Band") dx (bandF (.ref l1) (.ref l2) (.ref l3) (.ref D) v17)) mx17 (.inl hx)
      have S19 := S18.fix upd_same hx
      have m19 : Same M17 (upd M17 x (.ins (He.ga K "Band") dx (bandF (.ref l1) (.ref l2) (.ref l3) (.ref D) v17))) := same_upd mx17
      exact k rows _ _ hpm hsd S19 ⟨dx, _, _, _, _, _, upd_same, iu17.mono m19, iv17.mono m19, ir17.mono m19⟩
end
end Nt
namespace Nt
section
variable {P : Program} {w : World} {K : PySem.W.Frag} {mg : Str → Option Value} {base : Heap}
abbrev lumpsD (gs : List (List Str)) : Dat := .lst (gs.map dS)
theorem lumps_at {M : Hp} {gs : List (List Str)} {vs : List V} (h : IsA M (gs.map dS) vs) {k : Nat} (hk : k < gs.length) : ∃ a, vs[k]? = some (.ref a) ∧ M a = some (.lst ((gs.getD k []).map V.str)) := by
  have e := List.getElem?_eq_getElem hk
  obtain ⟨v, hv, iv⟩ := h.at (i := k) (d := dS gs[k]) (by rw [List.getElem?_map, e]; rfl)
  obtain ⟨a, rfl, ha⟩ := iv.strs
  exact ⟨a, hv, by rw [List.getD_eq_getElem?_getD, e]; exact ha⟩
def sp_l_place : Sp := fun vs H Q _ => ∃ (v : V) (gs : List (List Str)) (r : Str), vs = [v, .str r] ∧ gs.length ≤ 1000 ∧ r ∈ gs.flatten ∧ ∃ M, Same M H ∧ Is M (lumpsD gs) v ∧ Ret M H Q (.int (plc gs r))
theorem ok_l_place (T : Tx K mg) : Good P w K mg base CX0 1 (He.fAd K (He.DefD.at_ d_l_place)) p_l_place sp_l_place := by
  obtain ⟨fd, F⟩ := T.def_ 34 (d := d_l_place) rfl
  refine good_of F sc_l_place (fun _ _ _ _ _ _ us hl => match us, hl with | [_, _], _ => rfl) (by intro vs H Q E h; (repeat obtain ⟨_, h⟩ := h); subst_vars; rfl) fun cdv A outer s H vs Q E hr h => ?_
  have hu := hu_of hr
  refine ⟨_, (pss_one (ps_ret (pe_ix xq_list (pe_lc (own := [("_law_k", 2)]) (by rfl) sc_l_place.nd (pi_range1 (by rfl) T.b_range (pa_cons (pe_callB cq_len (by rfl) T.b_len (by decide +kernel) (pa_cons (pv 0) pa_nil)) pa_nil)) (blkOk_by (own := [("_law_k", 2)]) (N := n_l_place) (sc := He.DefD.scope d_l_place) (by decide +kernel)) (fun _ _ _ _ _ => (pg_name (i := 2) sc_l_place.nd rfl (Or.inl rfl) (Or.inr rfl))) (fun _ _ _ _ _ => pts_one (pt_cmpR oq_in (pv 1) (pe_ix xq_list (pv 0) (pv 2) (fun _ _ => rfl)) (by rfl))) (fun _ _ _ _ _ => (pv 2))) pe_int (fun _ _ => rfl)))), ?_⟩
  obtain ⟨v, gs, r, rfl, hg, hr, M, s0, ⟨a, vs, rfl, ha, ia⟩, k⟩ := h
  have hl : vs.length = gs.length := by have := ia.len; rw [List.length_map] at this; exact this
  walk_at "vc"
  refine ⟨a, vs, rfl, .inl (s0 _ _ ha), ?_⟩
  walk_at "vc"
  refine w_r1 (n := vs.length) (by omega) ?_
  rw [Int.toNat_natCast]
  refine lc_go (ex := no) walkR s0 (fun i acc _ => acc = (((List.range gs.length).take i).filter fun k => decide (r ∈ gs.getD k [])).map fun k => V.int (k : Nat)) rfl (fun _ _ _ => trivial) ?_ ?_
  · rintro i v acc M1 H1 H1' D hi S1 hD m1 h1 rfl ⟨rfl, rfl⟩
    obtain ⟨b, hb, hMb⟩ := lumps_at ia (k := i) (by omega)
    have hri : (List.range gs.length)[i]? = some i := by rw [List.getElem?_range (by omega)]
    walk_at "vc"
    refine ⟨rfl, ?_⟩
    walk_at "vc"
    refine w_ixl (S1.mh _ _ (S1.mm _ _ ha)) (atI_nat hb) ?_
    refine w_inS (.inl (S1.mh _ _ (S1.mm _ _ hMb))) ?_
    walk_at "vc"
    refine ifd (fun q => ?_) (fun q => ?_)
    · walk_at "vc"
      exact LcA.of hD S1 m1 h1 (len_tf (by rw [List.length_range]; omega)) (by rw [tkf_yes hri (by simpa using q)])
    · exact LcS.of S1 m1 h1 (by rw [tkf_no hri (by simpa using q)])
  · rintro D acc M1 H1 hD S1 m1 h1 rfl
    obtain ⟨t, et, _, _⟩ := plc_has hr
    have e : (List.range gs.length).take vs.length = List.range gs.length := List.take_of_length_le (by rw [List.length_range]; omega)
    rw [e, et] at h1
    walk_at "vc"
    refine w_ixl (j := ((0 : Nat) : Int)) h1 (atI_nat rfl) ?_
    exact k _ _ _ S1 rfl
/-- what law_break is told of -/
structure LpOk (gs : List (List Str)) (seeds full : List Str) : Prop where
  pm : gs.flatten.Perm full
  nd : full.Nodup
  so : sortedS full = true
  cl : ∀ s ∈ seeds, ∀ r ∈ full, ovr s r ∈ full
  ok : okS full
  ln : full.length ≤ 40
  sl : ∀ s ∈ seeds, s.length ≤ 100
  sn : seeds.length ≤ 100
theorem LpOk.few {gs : List (List Str)} {seeds full : List Str} (h : LpOk gs seeds full) (hne : ∀ g ∈ gs, g ≠ []) : gs.length ≤ 1000 := by
  have : ∀ gs : List (List Str), (∀ g ∈ gs, g ≠ []) → gs.length ≤ gs.flatten.length := by
    intro gs
    induction gs with
    | nil => intro _; exact Nat.le_refl _
    | cons g gs ih =>
      intro hne
      have h1 := ih fun x hx => hne x (List.mem_cons_of_mem _ hx)
      have h2 : 1 ≤ g.length := List.length_pos_iff.mpr (hne g List.mem_cons_self)
      rw [List.flatten_cons, List.length_append, List.length_cons]
      omega
  have h1 := this gs hne
  rw [h.pm.length_eq] at h1
  have := h.ln
  omega
theorem LpOk.fl {gs : List (List Str)} {seeds full : List Str} (h : LpOk gs seeds full) {r : Str} (hr : r ∈ full) : r ∈ gs.flatten := h.pm.mem_iff.mpr hr
theorem LpOk.grp {gs : List (List Str)} {seeds full : List Str} (h : LpOk gs seeds full) {k : Nat} {o : Str} (ho : o ∈ gs.getD k []) : o ∈ full := h.pm.mem_iff.mp (mem_getD ho).2.2
theorem LpOk.glen {gs : List (List Str)} {seeds full : List Str} (h : LpOk gs seeds full) (k : Nat) : (gs.getD k []).length ≤ 40 := by
  have nd : gs.flatten.Nodup := h.pm.nodup_iff.mpr h.nd
  rw [List.getD_eq_getElem?_getD]
  cases e : gs[k]? with
  | none => simp
  | some g =>
    have hs := (List.sublist_flatten_of_mem (mem_of_get e)).length_le
    have := h.ln
    rw [h.pm.length_eq] at hs
    show g.length ≤ 40
    omega
def sp_l_break : Sp := fun vs H Q _ => ∃ (u v x : V) (seeds full : List Str) (gs : List (List Str)), vs = [u, v, x] ∧ LpOk gs seeds full ∧ (∀ g ∈ gs, g ≠ []) ∧ ∃ M, Same M H ∧ Is M (dS seeds) u ∧ Is M (dS full) v ∧ Is M (lumpsD gs) x ∧
  ∀ res, BrkIs gs seeds full res → Ret M H Q (brkD res)
theorem ok_l_break (T : Tx K mg) : Good P w K mg base CX0 2 (He.fAd K (He.DefD.at_ d_l_break)) p_l_break sp_l_break := by
  obtain ⟨fd, F⟩ := T.def_ 35 (d := d_l_break) rfl
  have g_l_over : Good P w K mg base CX0 1 (He.fAd K (He.DefD.at_ d_l_over)) p_l_over sp_l_over := ok_l_over T
  have g_l_place : Good P w K mg base CX0 1 (He.fAd K (He.DefD.at_ d_l_place)) p_l_place sp_l_place := ok_l_place T
  refine good_of F sc_l_break (fun _ _ _ _ _ _ us hl => match us, hl with | [_, _, _], _ => rfl) (by intro vs H Q E h; (repeat obtain ⟨_, h⟩ := h); subst_vars; rfl) fun cdv A outer s H vs Q E hr h => ?_
  have hu := hu_of hr
  refine ⟨_, (pss_cons (ps_for PassesOwn.never rfl (iq_list K (pv 0)) (pg_name (i := 3) sc_l_break.nd rfl (Or.inr rfl) (Or.inl rfl))  (pss_one (ps_for PassesOwn.never rfl (iq_list K (pv 1)) (pg_name (i := 4) sc_l_break.nd rfl (Or.inl rfl) (Or.inl rfl))  (pss_cons (ps_set (i := 5) sc_l_break.nd rfl (Or.inl rfl) (pe_callB cr_sortedS (by rfl) T.b_sorted (by decide +kernel) (pa_cons (pe_ix xq_list (pv 2) (pe_good g_l_place (hr.mono (by decide)) rfl T.m_l_place (pa_cons (pv 2) (pa_cons (pv 4) pa_nil))) (fun _ _ => rfl)) pa_nil)))  (pss_cons (ps_set (i := 6) sc_l_break.nd rfl (Or.inr rfl) (pe_good g_l_place (hr.mono (by decide)) rfl T.m_l_place (pa_cons (pv 2) (pa_cons (pe_good g_l_over (hr.mono (by decide)) rfl T.m_l_over (pa_cons (pv 3) (pa_cons (pv 4) pa_nil))) pa_nil))))  (pss_cons (ps_setLc (i := 7) (own := [("_law_one", 8)]) (by rfl) sc_l_break.nd rfl rfl (sw_true rfl rfl rfl (by decide +kernel)) (iq_list K (pv 5)) (blkOk_by (own := [("_law_one", 8)]) (N := n_l_break) (sc := He.DefD.scope d_l_break) (by decide +kernel)) (fun _ _ _ _ _ => (pg_name (i := 8) sc_l_break.nd rfl (Or.inl rfl) (Or.inr rfl))) (fun _ _ _ _ _ => pts_one (pt_cmpR op_ne (pe_good g_l_place (hr.mono (by decide)) rfl T.m_l_place (pa_cons (pv 2) (pa_cons (pe_good g_l_over (hr.mono (by decide)) rfl T.m_l_over (pa_cons (pv 3) (pa_cons (pv 8) pa_nil))) pa_nil))) (pv 6) (nomark _))) (fun _ _ _ _ _ => (pv 8)))  (pss_one (ps_if (pt_cmpR (op_neD hr.units) (pv 7) (pe_lst pa_nil) (nomark _))  (pss_one (ps_ret (pe_tup (pa_cons (pv 3) (pa_cons (pv 4) (pa_cons (pe_ix xq_list (pv 7) pe_int (fun _ _ => rfl)) pa_nil))))))  pss_nil))))))))  (pss_one (ps_ret pe_non))), ?_⟩
  obtain ⟨u, v, x, seeds, full, gs, rfl, L, hne, M, s0, iu, iv, ix, k⟩ := h
  have ix' := ix
  obtain ⟨ua, rfl, hua⟩ := iu.strs
  obtain ⟨va, rfl, hva⟩ := iv.strs
  obtain ⟨xa, xvs, rfl, hxa, ixa⟩ := ix
  have hfew := L.few hne
  have hsn := L.sn
  have hln := L.ln
  walk_at "vc"
  refine ⟨ua, rfl, ⟨_, SqL.of (s0 _ _ hua)⟩, ?_⟩
  let I : L2.St → Hp → Hp → Prop := fun σ' M' H' => ∃ o3 o4 o5 o6 o7, σ' = [some (.ref ua), some (.ref va), some (.ref xa), o3, o4, o5, o6, o7, none] ∧ Stp no M H M' H'
  refine fo_go walkL (fun i σ' H' => ∃ M', I σ' M' H' ∧ ∀ j s', j < i → seeds[j]? = some s' → Whole gs full s') ⟨M, ⟨_, _, _, _, _, rfl, Stp.refl s0⟩, by intro j s' h; omega⟩ (fun _ _ _ _ ⟨_, ⟨_, _, _, _, _, _, S⟩, _⟩ => S.mh _ _ (S.mm _ _ hua)) ?_ ?_
  · rintro i y σ1 H1 H1' hi ⟨M1, ⟨o3, o4, o5, o6, o7, rfl, S1⟩, hw⟩ ⟨rfl, hy⟩
    obtain ⟨sd, hsd, rfl⟩ := map_at hy
    have hsdm := mem_of_get hsd
    walk_at "vc"
    refine ⟨va, rfl, ⟨_, SqL.of (S1.mh _ _ (S1.mm _ _ hva))⟩, ?_⟩
    let J : L2.St → Hp → Hp → Prop := fun σ' M' H' => ∃ o4 o5 o6 o7, σ' = [some (.ref ua), some (.ref va), some (.ref xa), some (.str sd), o4, o5, o6, o7, none] ∧ Stp no M H M' H'
    refine fo_go walkL (fun n σ' H' => ∃ M', J σ' M' H' ∧ ∀ m r, m < n → full[m]? = some r → ∀ o, ¬ Apart gs sd r o) ⟨M1, ⟨_, _, _, _, rfl, S1⟩, by intro j s' h; omega⟩ (fun _ _ _ _ ⟨_, ⟨_, _, _, _, _, S⟩, _⟩ => S.mh _ _ (S.mm _ _ hva)) ?_ ?_
    · rintro n y2 σ2 H2 H2' hn ⟨M2, ⟨o4, o5, o6, o7, rfl, S2⟩, hw2⟩ ⟨rfl, hy2⟩
      obtain ⟨r, hr, rfl⟩ := map_at hy2
      have hrm := mem_of_get hr
      obtain ⟨_, _, pl, pm⟩ := plc_has (L.fl hrm)
      walk_at "vc"
      refine ⟨_, gs, r, rfl, hfew, L.fl hrm, M2, S2.mh, ix'.mono S2.mm, ?_⟩
      rintro v3 M3 H3 S3 rfl
      have S3' := S2.trans S3
      obtain ⟨b, hb, hMb⟩ := lumps_at ixa pl
      refine w_ixl (S3'.mh _ _ (S3'.mm _ _ hxa)) (atI_nat hb) ?_
      walk_at "vc"
      have hgl := L.glen (plc gs r)
      refine ⟨b, gs.getD (plc gs r) [], rfl, SqL.of (S3'.mh _ _ (S3'.mm _ _ hMb)), by omega, ?_⟩
      intro mates p4 hpm hso hp4
      have S4 := S3'.lay (.lst (mates.map V.str)) hp4
      have hM4 : upd M3 p4 (.lst (mates.map V.str)) p4 = some (.lst (mates.map V.str)) := upd_same
      generalize upd M3 p4 (.lst (mates.map V.str)) = M4 at S4 hM4
      generalize upd H3 p4 (.lst (mates.map V.str)) = H4 at S4 ⊢
      have hmt : ∀ o ∈ mates, o ∈ full := fun o ho => L.grp (hpm.mem_iff.mp ho)
      have hml : mates.length ≤ 40 := by rw [hpm.length_eq]; exact hgl
      have hov := L.cl sd hsdm r hrm
      walk_at "vc"
      refine ⟨sd, r, rfl, M4, S4.mh, by have := L.sl sd hsdm; omega, ?_⟩
      rintro v5 M5 H5 S5 rfl
      have S5' := S4.trans S5
      walk_at "vc"
      refine ⟨_, gs, ovr sd r, rfl, hfew, L.fl hov, M5, S5.mh, ix'.mono S5'.mm, ?_⟩
      rintro v6 M6 H6 S6 rfl
      have S6' := S5'.trans S6
      have hM6 := S6.mm _ _ (S5.mm _ _ hM4)
      walk_at "vc"
      refine ⟨p4, rfl, ⟨_, SqL.of (S6.mh _ _ hM6)⟩, ?_⟩
      refine lc_go (ex := no) walkL S6.mh (fun m acc _ => acc = ((mates.take m).filter fun o => !decide (((plc gs (ovr sd o) : Nat) : Int) = (plc gs (ovr sd r) : Nat))).map V.str) rfl (fun _ _ S => S.mh _ _ (S.mm _ _ hM6)) ?_ ?_
      · rintro m y7 acc M7 H7 H7' D hm S7 hD m7 h7 rfl ⟨rfl, hy7⟩
        obtain ⟨o, ho, rfl⟩ := map_at hy7
        have hof := hmt o (mem_of_get ho)
        walk_at "vc"
        refine ⟨rfl, ?_⟩
        walk_at "vc"
        refine ⟨sd, o, rfl, M7, S7.mh, by have := L.sl sd hsdm; omega, ?_⟩
        rintro v8 M8 H8 S8 rfl
        obtain ⟨m8, h8⟩ := S8.keep m7 h7
        walk_at "vc"
        refine ⟨_, gs, ovr sd o, rfl, hfew, L.fl (L.cl sd hsdm o hof), M8, S8.mh, ix'.mono ((S6'.trans S7).trans S8).mm, ?_⟩
        rintro v9 M9 H9 S9 rfl
        obtain ⟨m9, h9⟩ := S9.keep m8 h8
        have S9' := (S7.trans S8).trans S9
        walk_at "vc"
        refine ifnd (fun q => ?_) (fun q => ?_)
        · walk_at "vc"
          exact LcA.of hD S9' m9 h9 (len_tf (by omega)) (by rw [tkf_yes ho (by simpa using q)])
        · exact LcS.of S9' m9 h9 (by rw [tkf_no ho (by simpa using q)])
      · rintro D acc M7 H7 hD S7 m7 h7 rfl
        rw [List.length_map, tk_all] at h7
        have F7 := S7.fix h7 hD
        have S7' := S6'.trans F7
        have apw : ∀ o, o ∈ (mates.filter fun o => !decide (((plc gs (ovr sd o) : Nat) : Int) = (plc gs (ovr sd r) : Nat))) ↔ Apart gs sd r o := by
          intro o
          rw [List.mem_filter, hpm.mem_iff]
          unfold Apart
          simp
          intro _
          constructor <;> intro h z <;> exact h (by omega)
        have oks : okS (mates.filter fun o => !decide (((plc gs (ovr sd o) : Nat) : Int) = (plc gs (ovr sd r) : Nat))) := fun o ho => L.ok o (hmt o (List.mem_filter.mp ho).1)
        have pw : (mates.filter fun o => !decide (((plc gs (ovr sd o) : Nat) : Int) = (plc gs (ovr sd r) : Nat))).Pairwise fun a b => ¬ Lt b a := List.Pairwise.filter _ (sorted_pw hso)
        generalize (mates.filter fun o => !decide (((plc gs (ovr sd o) : Nat) : Int) = (plc gs (ovr sd r) : Nat))) = ap at h7 F7 S7' apw oks pw
        walk_at "vc"
        intro q hq
        refine w_neStrs (xs := ap) (ys := []) (upd_old h7 hq) upd_same oks (by intro x hx; cases hx) ?_
        have S8 := S7'.new (.lst []) hq
        walk_at "vc"
        refine ifnd (fun z => ?_) (fun z => ?_)
        · cases ap with
          | nil => exact absurd rfl z
          | cons o t =>
            walk_at "vc"
            refine w_ixl (j := ((0 : Nat) : Int)) (upd_old h7 hq) (atI_nat rfl) ?_
            walk_at "vc"
            intro T hT
            have S9 := S8.lay (.tup [.str sd, .str r, .str o]) hT
            refine k (some (sd, r, o)) ⟨i, hsd, fun j s' hj hs' => hw j s' hj hs', hrm, (apw o).mp List.mem_cons_self, ?_, ?_⟩ _ _ _ S9 (Is.tup3 upd_same rfl rfl rfl)
            · intro r' hr' hlt o' hap
              obtain ⟨m, hm⟩ := List.getElem?_of_mem hr'
              by_cases c : m < n
              · exact hw2 m r' c hm o' hap
              · by_cases e : m = n
                · subst e
                  rw [hr] at hm
                  cases hm
                  exact Lt.irrefl _ hlt
                · obtain ⟨hl1, e1⟩ := List.getElem?_eq_some_iff.mp hr
                  obtain ⟨hl2, e2⟩ := List.getElem?_eq_some_iff.mp hm
                  have := List.pairwise_iff_getElem.mp (sorted_pw L.so) n m hl1 hl2 (by omega)
                  rw [e1, e2] at this
                  exact this hlt
            · intro o' ho' hlt
              rcases List.mem_cons.mp ((apw o').mpr ho') with e | e
              · rw [e] at hlt; exact Lt.irrefl _ hlt
              · exact (List.pairwise_cons.mp pw).1 o' e hlt
        · walk_at "vc"
          refine ⟨_, ⟨_, _, _, _, rfl, S8⟩, ?_⟩
          intro m r' hm hr'
          by_cases c : m < n
          · exact hw2 m r' c hr'
          · have e : m = n := by omega
            subst e
            rw [hr] at hr'
            cases hr'
            intro o ho
            have := (apw o).mpr ho
            rw [z] at this
            cases this
    · rintro σ2 H2 ⟨M2, ⟨o4, o5, o6, o7, rfl, S2⟩, hw2⟩
      refine ⟨M2, ⟨_, _, _, _, _, rfl, S2⟩, ?_⟩
      intro j s' hj hs'
      by_cases c : j < i
      · exact hw j s' c hs'
      · have e : j = i := by omega
        subst e
        rw [hsd] at hs'
        cases hs'
        intro r hr
        obtain ⟨m, hm⟩ := List.getElem?_of_mem hr
        exact hw2 m r (by rw [List.length_map]; exact lt_of_get hm) hm
  · rintro σ2 H2 ⟨M2, ⟨o3, o4, o5, o6, o7, rfl, S2⟩, hw⟩
    walk_at "vc"
    refine k none ?_ _ _ _ S2 rfl
    intro s' hs'
    obtain ⟨j, hj⟩ := List.getElem?_of_mem hs'
    exact hw j s' (by rw [List.length_map]; exact lt_of_get hj) hj
end
end Nt
namespace Nt
section
variable {P : Program} {w : World} {K : PySem.W.Frag} {mg : Str → Option Value} {base : Heap}
def sp_l_is_lumps : Sp := fun vs H Q _ => ∃ (u v : V) (full : List Str) (d : Dat), vs = [u, v] ∧ full.length ≤ 40 ∧ okS full ∧ sortedS full = true ∧ Sm d ∧ ∃ M, Same M H ∧ Is M (dS full) u ∧ Is M d v ∧ ∀ b : Bool, (b = true ↔ IsL full d) → Ret M H Q (.bl b)
theorem ok_l_is_lumps (T : Tx K mg) : Good P w K mg base CX0 1 (He.fAd K (He.DefD.at_ d_l_is_lumps)) p_l_is_lumps sp_l_is_lumps := by
  obtain ⟨fd, F⟩ := T.def_ 33 (d := d_l_is_lumps) rfl
  refine good_of F sc_l_is_lumps (fun _ _ _ _ _ _ us hl => match us, hl with | [_, _], _ => rfl) (by intro vs H Q E h; (repeat obtain ⟨_, h⟩ := h); subst_vars; rfl) fun cdv A outer s H vs Q E hr h => ?_
  have hu := hu_of hr
  refine ⟨_, (pss_cons (ps_if (pt_not (pt_val (pe_callB cq_isi2 (by rfl) T.b_isinstance (by decide +kernel) (pa_cons (pv 1) (pa_cons (pe_tup (pa_cons (pe_ty "list" (by rfl) T.b_list (by decide +kernel)) (pa_cons (pe_ty "tuple" (by rfl) T.b_tuple (by decide +kernel)) pa_nil))) pa_nil)))))  (pss_one (ps_ret pe_bl))  pss_nil)  (pss_cons (ps_set (i := 2) sc_l_is_lumps.nd rfl (Or.inl rfl) (pe_lst pa_nil))  (pss_cons (ps_for PassesOwn.never rfl (iq_seq K (pv 1)) (pg_name (i := 3) sc_l_is_lumps.nd rfl (Or.inl rfl) (Or.inl rfl))  (pss_cons (ps_if (PW.pt (pw_or (pt_not (pt_val (pe_callB cq_isi2 (by rfl) T.b_isinstance (by decide +kernel) (pa_cons (pv 3) (pa_cons (pe_tup (pa_cons (pe_ty "list" (by rfl) T.b_list (by decide +kernel)) (pa_cons (pe_ty "tuple" (by rfl) T.b_tuple (by decide +kernel)) pa_nil))) pa_nil))))) (pw_or1 (pt_cmpR op_eq (pe_callB cq_len (by rfl) T.b_len (by decide +kernel) (pa_cons (pv 3) pa_nil)) pe_int (nomark _)))))  (pss_one (ps_ret pe_bl))  pss_nil)  (pss_cons (ps_if (pt_not (pt_val (pe_callB (cq_all rfl) (by rfl) T.b_all (by decide +kernel) (pa_cons (pe_lc (own := [("_law_row", 4)]) (by rfl) sc_l_is_lumps.nd (iq_seq K (pv 3)) (blkOk_by (own := [("_law_row", 4)]) (N := n_l_is_lumps) (sc := He.DefD.scope d_l_is_lumps) (by decide +kernel)) (fun _ _ _ _ _ => (pg_name (i := 4) sc_l_is_lumps.nd rfl (Or.inl rfl) (Or.inr rfl))) (fun _ _ _ _ _ => pts_nil) (fun _ _ _ _ _ => (pe_and (pe_callB cq_isi (by rfl) T.b_isinstance (by decide +kernel) (pa_cons (pv 4) (pa_cons (pe_ty "str" (by rfl) T.b_str (by decide +kernel)) pa_nil))) (pe_one (pe_cmpR oq_in (pv 4) (pv 0) (by rfl)))))) pa_nil))))  (pss_one (ps_ret pe_bl))  pss_nil)  (pss_one (ps_set (i := 2) sc_l_is_lumps.nd rfl (Or.inl rfl) (pe_op op_cat (pv 2) (pe_callTy cq_list (by rfl) T.b_list (by decide +kernel) (pa_cons (pv 3) pa_nil))))))))  (pss_one (ps_ret (pe_cmpR (op_eqD hr.units) (pe_callB cq_sortS (by rfl) T.b_sorted (by decide +kernel) (pa_cons (pv 2) pa_nil)) (pv 0) (nomark _))))))), ?_⟩
  obtain ⟨u, v, full, d, rfl, hfl, hok, hso, hsm, M, s0, iu, iv, k⟩ := h
  obtain ⟨ua, rfl, hua⟩ := iu.strs
  walk_at "vc"
  intro p hp
  have S1 := (Stp.refl (ex := no) s0).new (.tup [.ty "list", .ty "tuple"]) hp
  walk_at "vc"
  refine w_isi2 S1.mh iv upd_same (by simp) (by simp) ?_
  rw [Dat.seq_ty]
  walk_at "vc"
  cases hd : d.seq with
  | none =>
    walk_at "vc"
    exact k false ⟨nofun, fun ⟨ds, gs, h1, _⟩ => by rw [hd] at h1; cases h1⟩ _ _ _ S1 rfl
  | some ds =>
    obtain ⟨va, vvs, rfl, hva, iva⟩ := iv.seq hd
    obtain ⟨hd1, hd2⟩ := hsm ds hd
    have hvl := iva.len
    walk_at "vc"
    intro f hf
    have S2 := S1.lay (.lst []) hf
    walk_at "vc"
    have hf2 : upd M f (.lst []) f = some (.lst ([] : List V)) := upd_same
    have mm2 := S2.mm
    have mh2 := S2.mh
    generalize upd M f (.lst []) = M2 at S2 hf2 mm2 mh2
    generalize upd (upd H p (.tup [.ty "list", .ty "tuple"])) f (.lst []) = H2 at S2 mh2 ⊢
    refine w_seqV ((hva.mono mm2).mono mh2) rfl fun J G hG W => ?_
    refine fo_go W (fun i σ' H' => ∃ o3 M' f gs, σ' = [some (.ref ua), some (.ref va), some (.ref f), o3, none] ∧ Stp no M H M' H' ∧ M' f = some (.lst (gs.flatten.map V.str)) ∧ lumpsOf (ds.take i) = some gs ∧ gs.length = i ∧ (∀ g ∈ gs, g ≠ [] ∧ g.length ≤ 200) ∧ ∀ r ∈ gs.flatten, r ∈ full)
      ⟨_, _, f, [], rfl, S2, hf2, rfl, rfl, by simp, by simp⟩ (fun i σ' H' _ ⟨_, M', _, _, _, S, _⟩ => hG H' (hva.keep (mm2.trans mh2) (S.mm.trans S.mh))) ?_ ?_
    · rintro i y σ1 H1 H1' hi ⟨o3, M1, f1, gs, rfl, S3, hf1, hgs, hgl, hgp, hgf⟩ ⟨rfl, hy⟩
      obtain ⟨dd, hdd, idd⟩ := iva.get hy
      have hddm := mem_of_get hdd
      have idd := idd.mono S3.mm
      walk_at "vc"
      intro p2 hp2
      have S4 := S3.new (.tup [.ty "list", .ty "tuple"]) hp2
      walk_at "vc"
      refine w_isi2 S4.mh idd upd_same (by simp) (by simp) ?_
      rw [Dat.seq_ty]
      generalize upd H1' p2 (.tup [.ty "list", .ty "tuple"]) = H4 at S4 ⊢
      walk_at "vc"
      cases hs : dd.seq with
      | none =>
        walk_at "vc"
        refine k false ⟨nofun, fun ⟨ds', gs', h1, h2, _⟩ => ?_⟩ _ _ _ S4 rfl
        rw [hd] at h1
        cases h1
        obtain ⟨g, _, h4⟩ := lumpsOf_at h2 hdd
        rw [hs] at h4
        cases h4
      | some es =>
        obtain ⟨la, lvs, rfl, hla, ila⟩ := idd.seq hs
        have hel := hd2 dd hddm es hs
        have hll := ila.len
        walk_at "vc"
        refine ⟨la, lvs, rfl, hla.mono S4.mh, ?_⟩
        walk_at "vc"
        refine ifd (fun q => ?_) (fun q => ?_)
        · walk_at "vc"
          refine k false ⟨nofun, fun ⟨ds', gs', h1, h2, h3, _⟩ => ?_⟩ _ _ _ S4 rfl
          rw [hd] at h1
          cases h1
          obtain ⟨g, h5, h4⟩ := lumpsOf_at h2 hdd
          rw [hs] at h4
          have e0 : es = [] := List.length_eq_zero_iff.mp (by omega)
          rw [e0] at h4
          cases h4
          exact absurd rfl (h3 [] (mem_of_get h5))
        · walk_at "vc"
          refine w_seqV (hla.mono S4.mh) rfl fun J2 G2 hG2 W2 => ?_
          refine lc_go (ex := no) W2 S4.mh (fun n acc _ => acc = ((es.take n).map (okE full)).map V.bl) rfl (fun M' H' S => hG2 H' (fun o e => S.same _ _ e)) ?_ ?_
          · rintro n y5 acc M5 H5 H5' D hn S5 hD m5 h5 rfl ⟨rfl, hy5⟩
            obtain ⟨e, he, ie⟩ := ila.get hy5
            have ie := ie.mono S5.mm
            have go : ∀ b, b = okE full e → LcA no M1 H4 D (fun acc _ => acc = ((es.take (n + 1)).map (okE full)).map V.bl) (.bl b) H5' := fun b hb =>
              LcA.of hD S5 m5 h5 (by rw [List.length_map, List.length_map, List.length_take]; omega) (by rw [tk_snoc he, hb]; simp only [List.map_append, List.map_cons, List.map_nil])
            walk_at "vc"
            refine ⟨rfl, ?_⟩
            walk_at "vc"
            refine w_isi S5.mh ie (by simp) ?_
            rw [Dat.txt_ty]
            walk_at "vc"
            cases ht : e.txt with
            | none =>
              walk_at "vc"
              exact go _ (by unfold okE; rw [ht])
            | some x =>
              have hx := ie.txt ht
              subst hx
              walk_at "vc"
              refine w_inS (.inl (S5.mh _ _ (S5.mm _ _ (S3.mm _ _ hua)))) ?_
              exact go _ (by unfold okE; rw [ht])
          · rintro D acc M5 H5 hD S5 m5 h5 rfl
            have e0 : es.take lvs.length = es := List.take_of_length_le (by omega)
            rw [e0] at h5
            have S5' := S4.trans S5
            walk_at "vc"
            refine ⟨D, _, rfl, h5, ?_⟩
            walk_at "vc"
            cases hb : (es.map (okE full)).all id with
            | false =>
              walk_at "vc"
              refine k false ⟨nofun, fun ⟨ds', gs', h1, h2, _, h3⟩ => ?_⟩ _ _ _ S5' rfl
              rw [hd] at h1
              cases h1
              obtain ⟨g, h6, h4⟩ := lumpsOf_at h2 hdd
              rw [hs] at h4
              have := okE_not (full := full) (show txts es = some g from h4) fun x hx => h3.mem_iff.mp (List.mem_flatten.mpr ⟨g, mem_of_get h6, hx⟩)
              rw [hb] at this
              cases this
            | true =>
              obtain ⟨g, hg, hgx⟩ := okE_all hb
              have eg := txts_at hg
              subst eg
              have hlv := IsA.strs.mp ila
              subst hlv
              walk_at "vc"
              refine ⟨la, _, rfl, (hla.mono S4.mh).imp (S5.same _ _) (S5.same _ _), fun p6 hp6 => ?_⟩
              have S6 := S5'.new (.lst (g.map V.str)) hp6
              refine ⟨f1, p6, _, _, rfl, rfl, S6.mh _ _ (S5.mm _ _ hf1), upd_same, ?_, fun p7 hp7 => ?_⟩
              · rw [List.length_map, List.length_map]
                have := flat_len (n := 200) fun g hg => (hgp g hg).2
                rw [List.length_map] at hel
                exact line_of (by omega)
              · have S7 := S6.lay (.lst (gs.flatten.map V.str ++ g.map V.str)) hp7
                walk_at "vc"
                refine ⟨_, _, p7, gs ++ [g], rfl, S7, ?_, ?_, by rw [List.length_append, hgl]; rfl, ?_, ?_⟩
                · rw [upd_same]; simp
                · rw [tk_snoc hdd]
                  exact lumpsOf_snoc hgs (by rw [hs]; exact hg)
                · intro g' hg'
                  rcases List.mem_append.mp hg' with z | z
                  · exact hgp g' z
                  · rw [List.mem_singleton.mp z]
                    rw [List.length_map] at hel
                    refine ⟨fun z => q ?_, hel⟩
                    rw [z]
                    rfl
                · intro r hr
                  rw [List.flatten_append] at hr
                  rcases List.mem_append.mp hr with z | z
                  · exact hgf r z
                  · exact hgx r (by simpa using z)
    · rintro σ1 H1 ⟨o3, M1, f1, gs, rfl, S3, hf1, hgs, hgl, hgp, hgf⟩
      have hfl2 := flat_len (n := 200) fun g hg => (hgp g hg).2
      have e0 : ds.take vvs.length = ds := List.take_of_length_le (by omega)
      rw [e0] at hgs
      walk_at "vc"
      refine ⟨f1, gs.flatten, rfl, S3.mh _ _ hf1, by omega, fun ys p4 hpm hso4 hp4 => ?_⟩
      walk_at "vc"
      refine w_eqStrs (xs := ys) (ys := full) upd_same (upd_old (S3.mh _ _ (S3.mm _ _ hua)) hp4) (fun x hx => hok x (hgf x (hpm.mem_iff.mp hx))) hok ?_
      refine k _ ?_ _ _ _ (S3.new _ hp4) rfl
      rw [decide_eq_true_iff]
      constructor
      · intro e
        exact ⟨ds, gs, hd, hgs, fun g hg => (hgp g hg).1, by rw [← e]; exact hpm.symm⟩
      · rintro ⟨ds', gs', h1, h2, h3, h4⟩
        rw [hd] at h1
        cases h1
        rw [hgs] at h2
        cases h2
        exact sorted_one (hpm.trans h4) (sorted_pw hso4) (sorted_pw hso)
end
end Nt
namespace Nt
section
variable {P : Program} {w : World} {K : PySem.W.Frag} {mg : Str → Option Value} {base : Heap}
theorem w_ost {f : Str} {to te : TE} {D : Ends} {σ : L2.St} {H : Hp} (k : te σ H fun y H1 => to σ H1 fun x H2 => ∃ a C : Addr, x = .ref a ∧ OexC K C ∧ PySem.W.findIn K (.ref C) f = some none ∧
  ((H2 a = some (exo a C none) ∧ ∀ dx, H2 dx = none → dx ≠ a → D.nx σ (upd (upd H2 dx (exd dx [(f, y)])) a (exo a C (some dx)))) ∨
    ∃ (dx : Addr) (fs : List (Str × V)), H2 a = some (exo a C (some dx)) ∧ H2 dx = some (exd dx fs) ∧ fs.length ≤ 900 ∧ D.nx σ (upd H2 dx (exd dx ((f, y) :: fs))))) : tOst K f to te D σ H := k
def sp_BadLumps___init__ (C : Addr) : Sp := fun vs H Q _ => ∃ (a : Addr), vs = [.ref a] ∧ H a = some (exo a C none) ∧ ∀ dx, H dx = none → dx ≠ a → Q .non (upd (upd H dx (exd dx [("code", .str "BadLumps")])) a (exo a C (some dx)))
theorem ok_BadLumps___init__ (T : Tx K mg) : Good P w K mg base CX0 2 (He.fAd K (He.DefD.at_ d_BadLumps___init__)) p_BadLumps___init__ (sp_BadLumps___init__ (He.ga K "BadLumps")) := by
  obtain ⟨fd, F⟩ := T.def_ 20 (d := d_BadLumps___init__) rfl
  refine good_of F sc_BadLumps___init__ (fun _ _ _ _ _ _ us hl => match us, hl with | [_], _ => rfl) (by intro vs H Q E h; (repeat obtain ⟨_, h⟩ := h); subst_vars; rfl) fun cdv A outer s H vs Q E hr h => ?_
  have hu := hu_of hr
  refine ⟨_, (pss_one (ps_ost (pv 0) pe_str)), ?_⟩
  obtain ⟨a, rfl, ha, k⟩ := h
  have x_BadLumps := T.exc "BadLumps" (by decide)
  refine w_ost ?_
  walk_at "vc"
  refine ⟨a, _, rfl, x_BadLumps.oc, ?_, .inl ⟨ha, fun dx h1 h2 => ?_⟩⟩
  · exact T.n_BadLumps_code
  · exact k dx h1 h2
theorem raise0 {C : Addr} {σ : L2.St} {H : Hp} {E : XK} (k : ∀ dx, H dx = none → E (.ref C) (some dx) (upd H dx (.xd [("code", .str "BadLumps")]))) : tMkO C (sp_BadLumps___init__ C) [] tNil σ H E := by
  refine ⟨by decide, fun a ha => ⟨a, rfl, upd_same, fun dx h1 h2 => ⟨rfl, dx, [("code", .str "BadLumps")], upd_same, ?_, ?_, ?_⟩⟩⟩
  · rw [upd_ne h2, upd_same]
  · rw [upd_ne h2] at h1; exact h1
  · have h1' : H dx = none := by rw [upd_ne h2] at h1; exact h1
    have e : upd (del (upd (upd (upd H a (exo a C none)) dx (exd dx [("code", .str "BadLumps")])) a (exo a C (some dx))) a) dx (.xd [("code", .str "BadLumps")]) = upd H dx (.xd [("code", .str "BadLumps")]) := by
      funext b
      by_cases q : b = dx
      · rw [q, upd_same, upd_same]
      · rw [upd_ne q, upd_ne q]
        by_cases q2 : b = a
        · rw [q2, del_same, ha]
        · rw [del_ne q2, upd_ne q2, upd_ne q, upd_ne q2]
    rw [e]
    exact k dx h1'
def sp_check_lumps (C C' : Addr) : Sp := fun vs H Q E => ∃ (a : Addr) (v : V) (cs : Cells) (seeds rows : List Str) (d : Dat), vs = [.ref a, v] ∧ rows.length ≤ 1000 ∧ (fullS rows).Nodup ∧ Sm d ∧ ∃ M, Same M H ∧ BandO C M cs seeds rows a ∧ Is M d v ∧
  (IsL (fullS rows) d → Ret M H Q .non) ∧ (¬ IsL (fullS rows) d → ∀ M' H' dx, Stp no M H M' H' → H' dx = none → E (.ref C') (some dx) (upd H' dx (.xd [("code", .str "BadLumps")])))
theorem ok_check_lumps (T : Tx K mg) : Good P w K mg base (L2.CX P w) 5 (He.fAd K (He.DefD.at_ d_check_lumps)) p_check_lumps (sp_check_lumps (He.ga K "Band") (He.ga K "BadLumps")) := by
  obtain ⟨fd, F⟩ := T.def_ 9 (d := d_check_lumps) rfl
  have g_Band_full_rows : Good P w K mg base CX0 1 (He.fAd K (He.DefD.at_ d_Band_full_rows)) p_Band_full_rows (sp_Band_full_rows (He.ga K "Band")) := ok_Band_full_rows T
  obtain ⟨⟨fd_BadLumps, F_BadLumps, B_BadLumps⟩, _⟩ : Good P w K mg base CX0 2 (He.fAd K (He.DefD.at_ d_BadLumps___init__)) p_BadLumps___init__ (sp_BadLumps___init__ (He.ga K "BadLumps")) := ok_BadLumps___init__ T
  have x_BadLumps := T.exc "BadLumps" (by decide)
  refine good_ofX F sc_check_lumps (fun _ _ _ _ _ _ us hl => match us, hl with | [_, _], _ => rfl) (by intro vs H Q E h; (repeat obtain ⟨_, h⟩ := h); subst_vars; rfl) fun cdv A outer s H vs Q E hr h => ?_
  have hu := hu_of hr
  refine ⟨_, (pss_cons (ps_if (pt_not (pt_val (pe_callB cq_isi2 (by rfl) T.b_isinstance (by decide +kernel) (pa_cons (pv 1) (pa_cons (pe_tup (pa_cons (pe_ty "list" (by rfl) T.b_list (by decide +kernel)) (pa_cons (pe_ty "tuple" (by rfl) T.b_tuple (by decide +kernel)) pa_nil))) pa_nil)))))  (pss_one (ps_raise rfl (takes_of rfl rfl rfl rfl) (pmk_oex0 x_BadLumps.oc x_BadLumps.ic x_BadLumps.ti F_BadLumps (hr.mono (by decide)) B_BadLumps pass0 (by rfl) T.m_BadLumps)))  pss_nil)  (pss_cons (ps_setDc (i := 2) (own := [("row", 3)]) (by rfl) sc_check_lumps.nd rfl rfl (sw_trueD rfl rfl rfl (by decide +kernel)) (iq_list K (pe_goodm0 g_Band_full_rows (hr.mono (by decide)) (pv 0) T.c_Band T.Band_full_rows)) (blkOk_by (own := [("row", 3)]) (N := n_check_lumps) (sc := He.DefD.scope d_check_lumps) (by decide +kernel)) (fun _ _ _ _ _ => (pg_name (i := 3) sc_check_lumps.nd rfl (Or.inl rfl) (Or.inr rfl))) (fun _ _ _ _ _ => pts_nil) (fun _ _ _ _ _ => (pv 3)) (fun _ _ _ _ _ => pe_bl))  (pss_cons (ps_set (i := 4) sc_check_lumps.nd rfl (Or.inl rfl) pe_dnewK)  (pss_cons (ps_for (passes_of rfl) rfl (iq_seq K (pv 1)) (pg_name (i := 5) sc_check_lumps.nd rfl (Or.inl rfl) (Or.inl rfl))  (pss_cons (ps_if (PW.pt (pw_or (pt_not (pt_val (pe_callB cq_isi2 (by rfl) T.b_isinstance (by decide +kernel) (pa_cons (pv 5) (pa_cons (pe_tup (pa_cons (pe_ty "list" (by rfl) T.b_list (by decide +kernel)) (pa_cons (pe_ty "tuple" (by rfl) T.b_tuple (by decide +kernel)) pa_nil))) pa_nil))))) (pw_or1 (pt_cmpR op_eq (pe_callB cq_len (by rfl) T.b_len (by decide +kernel) (pa_cons (pv 5) pa_nil)) pe_int (nomark _)))))  (pss_one (ps_raise rfl (takes_of rfl rfl rfl rfl) (pmk_oex0 x_BadLumps.oc x_BadLumps.ic x_BadLumps.ti F_BadLumps (hr.mono (by decide)) B_BadLumps pass0 (by rfl) T.m_BadLumps)))  pss_nil)  (pss_one (ps_for (passes_of rfl) rfl (iq_seq K (pv 5)) (pg_name (i := 3) sc_check_lumps.nd rfl (Or.inl rfl) (Or.inl rfl))  (pss_cons (ps_if (PW.pt (pw_or (pt_not (pt_val (pe_callB cq_isi (by rfl) T.b_isinstance (by decide +kernel) (pa_cons (pv 3) (pa_cons (pe_ty "str" (by rfl) T.b_str (by decide +kernel)) pa_nil))))) (pw_or (pt_cmp (pc_dnotin hu (pv 3) (pv 2)) rfl) (pw_or1 (pt_cmp (pc_din hu (pv 3) (pv 4)) rfl)))))  (pss_one (ps_raise rfl (takes_of rfl rfl rfl rfl) (pmk_oex0 x_BadLumps.oc x_BadLumps.ic x_BadLumps.ti F_BadLumps (hr.mono (by decide)) B_BadLumps pass0 (by rfl) T.m_BadLumps)))  pss_nil)  (pss_one (ps_dput hu (pv 4) (pv 3) pe_bl rfl)))))))  (pss_one (ps_if (pt_cmpR op_ne (pe_callB call_lenD (by rfl) T.b_len (by decide +kernel) (pa_cons (pv 4) pa_nil)) (pe_callB call_lenD (by rfl) T.b_len (by decide +kernel) (pa_cons (pv 2) pa_nil)) (nomark _))  (pss_one (ps_raise rfl (takes_of rfl rfl rfl rfl) (pmk_oex0 x_BadLumps.oc x_BadLumps.ic x_BadLumps.ti F_BadLumps (hr.mono (by decide)) B_BadLumps pass0 (by rfl) T.m_BadLumps)))  pss_nil)))))), ?_⟩
  obtain ⟨a, v, cs, seeds, rows, d, rfl, hl, hnd, hsm, M, s0, ib, iv, kY, kN⟩ := h
  have bad : ¬ IsL (fullS rows) d → ∀ M' H', Stp no M H M' H' → ∀ dx, H' dx = none → E (.ref (He.ga K "BadLumps")) (some dx) (upd H' dx (.xd [("code", .str "BadLumps")])) := fun n M' H' S dx hdx => kN n M' H' dx S hdx
  walk_at "vc"
  intro p hp
  have S1 := (Stp.refl (ex := no) s0).new (.tup [.ty "list", .ty "tuple"]) hp
  walk_at "vc"
  refine w_isi2 S1.mh iv upd_same (by simp) (by simp) ?_
  rw [Dat.seq_ty]
  generalize upd H p (.tup [.ty "list", .ty "tuple"]) = H1 at S1 ⊢
  walk_at "vc"
  cases hd : d.seq with
  | none =>
    walk_at "vc"
    exact raise0 (bad (fun ⟨ds, gs, h1, _⟩ => by rw [hd] at h1; cases h1) _ _ S1)
  | some ds =>
    obtain ⟨va, vvs, rfl, hva, iva⟩ := iv.seq hd
    obtain ⟨hd1, hd2⟩ := hsm ds hd
    have hvl := iva.len
    have ib' := ib
    obtain ⟨bdx, bvc, bvs, bvr, bvk, bvl, hb1, _⟩ := ib
    walk_at "vc"
    refine w_meth ?_
    walk_at "vc"
    refine ⟨a, bdx, _, rfl, S1.mh _ _ hb1, rfl, ?_⟩
    walk_at "vc"
    refine ⟨a, cs, seeds, rows, rfl, hl, M, S1.mh, ib', ?_⟩
    intro v2 M2 H2 S2 i2
    obtain ⟨fa, rfl, hfa⟩ := i2.strs
    have S2' := S1.trans S2
    have hfl : (fullS rows).length ≤ 1000 := Nat.le_trans (List.length_filter_le _ _) hl
    refine ⟨fa, rfl, ⟨_, SqL.of (S2.mh _ _ hfa)⟩, ?_⟩
    refine dc_go (ex := no) walkL S2.mh (fun i acc _ => acc = kd yes ((fullS rows).take i)) rfl (fun _ _ S => S.mh _ _ (S.mm _ _ hfa)) ?_ ?_
    · rintro i y acc M3 H3 H3' D hi S3 hD m3 h3 rfl ⟨rfl, hy⟩
      obtain ⟨r, hr', rfl⟩ := map_at hy
      walk_at "vc"
      refine ⟨rfl, ?_⟩
      walk_at "vc"
      refine ⟨_, .inr r, rfl, h3, line_lt (by rw [kd_len, List.length_take]; omega), M3, _, S3.put _ m3 (.inl hD), m3, upd_same, ?_⟩
      have hni : r ∉ (fullS rows).take i := by
        intro z
        have nd := List.Sublist.nodup (List.take_sublist (i + 1) (fullS rows)) hnd
        rw [tk_snoc hr', List.nodup_append] at nd
        exact nd.2.2 _ z _ List.mem_cons_self rfl
      rw [kd_put yes r _ hni, tk_snoc hr']
    · rintro D acc M3 H3 hD S3 m3 h3 rfl
      rw [List.length_map, tk_all] at h3
      generalize hF : fullS rows = full at *
      have S3' := S2'.trans S3
      walk_at "vc"
      intro q hq
      have S4 := S3'.new (.dK []) hq
      have hq0 : H q = none := S3'.hfree hq
      have h4D : upd H3 q (.dK []) D = some (.dK (kd yes full)) := upd_old h3 hq
      have h4q : upd H3 q (.dK ([] : List (L2.Key × V))) q = some (.dK (kd yes [])) := upd_same
      have mq : M3 q = none := S3.mfree hq
      have hDq : D ≠ q := fun z => by rw [← z, h3] at hq; cases hq
      have hD0 : H D = none := S2'.hfree hD
      generalize upd H3 q (.dK []) = H4 at S4 h4D h4q ⊢
      with_reducible refine w_name ?_
      let I : Option V → L2.St → Hp → Hp → List Str → Prop := fun o3 σ' M' H' xs => ∃ o5, σ' = [some (.ref a), some (.ref va), some (.ref D), o3, some (.ref q), o5] ∧ Stp no M H M' H' ∧ M' D = none ∧ M' q = none ∧ H' D = some (.dK (kd yes full)) ∧ H' q = some (.dK (kd yes xs)) ∧ xs.Nodup ∧ (∀ x ∈ xs, x ∈ full)
      with_reducible refine w_cut (fun σ' H' => ∃ o3 M' gs, lumpsOf ds = some gs ∧ (∀ g ∈ gs, g ≠ []) ∧ I o3 σ' M' H' gs.flatten) ?_ ?_
      · rintro σ5 H5 ⟨o3, M5, gs, hgs, hgne, o5, rfl, S5, mD5, mq5, hD5, hq5, hn5, hs5⟩
        walk_at "vc"
        refine ⟨q, _, rfl, hq5, ?_⟩
        walk_at "vc"
        refine ⟨D, _, rfl, hD5, ?_⟩
        rw [kd_len, kd_len]
        walk_at "vc"
        refine ifnd (fun z => ?_) (fun z => ?_)
        · refine raise0 (bad (fun ⟨ds', gs', h1, h2, _, h4⟩ => z ?_) _ _ S5)
          rw [hd] at h1
          cases h1
          rw [hgs] at h2
          cases h2
          rw [h4.length_eq]
        · walk_at "vc"
          exact kY ⟨ds, gs, hd, hgs, hgne, perm_of_sub hn5 hs5 (by omega)⟩ _ _ _ S5 rfl
      · intro U hU
        with_reducible refine w_for ?_
        refine w_seqV (hva.mono (fun x o e => S4.mh _ _ (S4.mm _ _ e))) rfl fun J G hG W => ?_
        refine fo_go W (fun i σ' H' => ∃ o3 M' gs, lumpsOf (ds.take i) = some gs ∧ (∀ g ∈ gs, g ≠ []) ∧ I o3 σ' M' H' gs.flatten)
          ⟨_, M3, [], rfl, by simp, _, rfl, S4, m3, mq, h4D, h4q, List.nodup_nil, by simp⟩ (fun i σ' H' _ ⟨_, M', _, _, _, _, _, S, _⟩ => hG H' (hva.keep (fun x o e => S4.mh _ _ (S4.mm _ _ e)) (fun x o e => S.mh _ _ (S.mm _ _ e)))) ?_ ?_
        · rintro i y σ5 H5 H5' hi ⟨o3, M5, gs, hgs, hgne, o5, rfl, S5, mD5, mq5, hD5, hq5, hn5, hs5⟩ ⟨rfl, hy⟩
          obtain ⟨dd, hdd, idd⟩ := iva.get hy
          have hddm := mem_of_get hdd
          have idd := idd.mono S5.mm
          walk_at "vc"
          intro p2 hp2
          have S6 := S5.new (.tup [.ty "list", .ty "tuple"]) hp2
          walk_at "vc"
          refine w_isi2 S6.mh idd upd_same (by simp) (by simp) ?_
          rw [Dat.seq_ty]
          have hD6 : upd H5' p2 (.tup [.ty "list", .ty "tuple"]) D = some (.dK (kd yes full)) := upd_old hD5 hp2
          have hq6 : upd H5' p2 (.tup [.ty "list", .ty "tuple"]) q = some (.dK (kd yes gs.flatten)) := upd_old hq5 hp2
          generalize upd H5' p2 (.tup [.ty "list", .ty "tuple"]) = H6 at S6 hD6 hq6 ⊢
          walk_at "vc"
          cases hs : dd.seq with
          | none =>
            walk_at "vc"
            refine raise0 (bad (fun ⟨ds', gs', h1, h2, _⟩ => ?_) _ _ S6)
            rw [hd] at h1
            cases h1
            obtain ⟨g, _, h4⟩ := lumpsOf_at h2 hdd
            rw [hs] at h4
            cases h4
          | some es =>
            obtain ⟨la, lvs, rfl, hla, ila⟩ := idd.seq hs
            have hel := hd2 dd hddm es hs
            have hll := ila.len
            walk_at "vc"
            refine ⟨la, lvs, rfl, hla.mono S6.mh, ?_⟩
            walk_at "vc"
            refine ifd (fun z => ?_) (fun z => ?_)
            · refine raise0 (bad (fun ⟨ds', gs', h1, h2, h3, _⟩ => ?_) _ _ S6)
              rw [hd] at h1
              cases h1
              obtain ⟨g, h5, h4⟩ := lumpsOf_at h2 hdd
              rw [hs] at h4
              have e0 : es = [] := List.length_eq_zero_iff.mp (by omega)
              rw [e0] at h4
              cases h4
              exact absurd rfl (h3 [] (mem_of_get h5))
            · refine w_next ?_
              with_reducible refine w_for ?_
              refine w_seqV (hla.mono S6.mh) rfl fun J2 G2 hG2 W2 => ?_
              refine fo_go W2 (fun n σ' H' => ∃ o3 M' xs, Same M5 M' ∧ txts (es.take n) = some xs ∧ I o3 σ' M' H' (gs.flatten ++ xs))
                ⟨_, M5, [], Same.refl M5, rfl, _, rfl, S6, mD5, mq5, hD6, by rw [List.append_nil]; exact hq6, by rw [List.append_nil]; exact hn5, by rw [List.append_nil]; exact hs5⟩ (fun n σ' H' _ ⟨_, M', _, sm, _, _, _, S, _⟩ => hG2 H' (hla.keep S6.mh (sm.trans S.mh))) ?_ ?_
              · rintro n y7 σ7 H7 H7' hn ⟨o3, M7, xs, sm7, hxs, o5, rfl, S7, mD7, mq7, hD7, hq7, hn7, hs7⟩ ⟨rfl, hy7⟩
                obtain ⟨e, he, ie⟩ := ila.get hy7
                have ie := ie.mono sm7
                have bad2 : (∀ gs' g, lumpsOf ds = some gs' → gs'.flatten.Perm full → gs'[i]? = some g → txts es = some g → False) → ∀ dx, H7' dx = none → E (.ref (He.ga K "BadLumps")) (some dx) (upd H7' dx (.xd [("code", .str "BadLumps")])) := by
                  intro n0
                  refine bad ?_ _ _ S7
                  rintro ⟨ds', gs', h1, h2, _, h4⟩
                  rw [hd] at h1
                  cases h1
                  obtain ⟨g, h5, h6⟩ := lumpsOf_at h2 hdd
                  rw [hs] at h6
                  exact n0 gs' g h2 h4 h5 h6
                walk_at "vc"
                refine w_isi S7.mh ie (by simp) ?_
                rw [Dat.txt_ty]
                walk_at "vc"
                cases ht : e.txt with
                | none =>
                  walk_at "vc"
                  refine raise0 (bad2 fun gs' g _ _ _ hg => ?_)
                  rw [txts_at hg, List.getElem?_map] at he
                  cases q2 : g[n]? with
                  | none => rw [q2] at he; cases he
                  | some x => rw [q2] at he; cases he; cases ht
                | some x =>
                  have hx := ie.txt ht
                  subst hx
                  have inG : ∀ g, txts es = some g → g[n]? = some x := fun g hg => by
                    rw [txts_at hg, List.getElem?_map] at he
                    cases q2 : g[n]? with
                    | none => rw [q2] at he; cases he
                    | some y => rw [q2] at he; cases he; cases ht; rfl
                  walk_at "vc"
                  refine kd_has hD7 (fun q3 => ?_) (fun q3 => ?_)
                  · walk_at "vc"
                    refine kd_has hq7 (fun q4 => ?_) (fun q4 => ?_)
                    · walk_at "vc"
                      refine raise0 (bad2 fun gs' g h2 h4 h5 hg => ?_)
                      have e1 := lumpsOf_take h2 i
                      rw [hgs] at e1
                      cases e1
                      have e2 := txts_take hg n
                      rw [hxs] at e2
                      cases e2
                      exact seen_twice hnd h4 h5 (inG g hg) q4
                    · walk_at "vc"
                      refine kd_set (f := yes) hq7 q4 ?_ rfl ?_
                      · have := List.Nodup.length_le_of_subset hn7 hs7
                        omega
                      · refine ⟨_, M7, xs ++ [x], sm7, ?_, _, rfl, S7.put _ mq7 (.inl hq0), mD7, mq7, by rw [upd_ne hDq]; exact hD7, by rw [upd_same, List.append_assoc], by rw [← List.append_assoc]; exact nodup_snoc hn7 q4, ?_⟩
                        · rw [tk_snoc he]
                          have : ∀ (l : List Dat) (ys : List Str), txts l = some ys → txts (l ++ [e]) = some (ys ++ [x]) := by
                            intro l ys h
                            have hee : e = .str x := by cases e <;> first | cases ht; rfl | cases ht
                            rw [txts_at h, hee, show ys.map Dat.str ++ [Dat.str x] = (ys ++ [x]).map Dat.str by simp, txts_map]
                          exact this _ _ hxs
                        · intro y hy
                          rw [← List.append_assoc] at hy
                          rcases List.mem_append.mp hy with z | z
                          · exact hs7 y z
                          · rw [List.mem_singleton.mp z]; exact q3
                  · walk_at "vc"
                    refine raise0 (bad2 fun gs' g h2 h4 h5 hg => q3 ?_)
                    exact h4.mem_iff.mp (List.mem_flatten.mpr ⟨g, mem_of_get h5, mem_of_get (inG g hg)⟩)
              · rintro σ7 H7 ⟨o3, M7, xs, sm7, hxs, o5, rfl, S7, mD7, mq7, hD7, hq7, hn7, hs7⟩
                have e0 : es.take lvs.length = es := List.take_of_length_le (by omega)
                rw [e0] at hxs
                have fl : (gs ++ [xs]).flatten = gs.flatten ++ xs := by simp
                refine ⟨_, M7, gs ++ [xs], ?_, ?_, _, rfl, S7, mD7, mq7, hD7, by rw [fl]; exact hq7, by rw [fl]; exact hn7, by rw [fl]; exact hs7⟩
                · rw [tk_snoc hdd]
                  exact lumpsOf_snoc hgs (by rw [hs]; exact hxs)
                · intro g hg
                  rcases List.mem_append.mp hg with w1 | w1
                  · exact hgne g w1
                  · rw [List.mem_singleton.mp w1]
                    intro w2
                    rw [w2] at hxs
                    have e3 := txts_at hxs
                    exact z (by rw [hll, e3]; rfl)
        · rintro σ5 H5 ⟨o3, M5, gs, hgs, hgne, hI⟩
          have e0 : ds.take vvs.length = ds := List.take_of_length_le (by omega)
          rw [e0] at hgs
          exact hU _ _ ⟨o3, M5, gs, hgs, hgne, hI⟩
end
end Nt
namespace Nt
section
variable {P : Program} {w : World} {K : PySem.W.Frag} {mg : Str → Option Value} {base : Heap}
abbrev pk (gs : List (List Str)) : List (L2.Key × V) := kd (fun r => V.int (plc gs r)) gs.flatten
/-- v is a list or tuple of lists or tuples of texts: these lumps -/
def Lmp (M : Hp) (gs : List (List Str)) (v : V) : Prop := ∃ (d : Dat) (ds : List Dat), Is M d v ∧ d.seq = some ds ∧ lumpsOf ds = some gs
theorem lumpsOf_len : ∀ {ds : List Dat} {gs : List (List Str)}, lumpsOf ds = some gs → gs.length = ds.length
  | [], gs, h => by cases h; rfl
  | d :: ds, gs, h => by
    rw [lumpsOf] at h
    cases q : d.seq.bind txts with
    | none => rw [q] at h; cases h
    | some g =>
      rw [q] at h
      cases q2 : lumpsOf ds with
      | none => rw [q2] at h; cases h
      | some hs =>
        rw [q2] at h
        cases h
        rw [List.length_cons, List.length_cons, lumpsOf_len q2]
/-- one lump of theirs -/
theorem Lmp.one {M : Hp} {ds : List Dat} {vs : List V} {gs : List (List Str)} (h : IsA M ds vs) (hg : lumpsOf ds = some gs) {i : Nat} {y : V} (e : vs[i]? = some y) : ∃ a g, y = .ref a ∧ gs[i]? = some g ∧ SQ M a (g.map V.str) := by
  obtain ⟨dd, hdd, idd⟩ := h.get e
  obtain ⟨g, h1, h2⟩ := lumpsOf_at hg hdd
  cases hs : dd.seq with
  | none => rw [hs] at h2; cases h2
  | some es =>
    rw [hs] at h2
    obtain ⟨la, lvs, rfl, hla, ila⟩ := idd.seq hs
    rw [txts_at (show txts es = some g from h2)] at ila
    rw [IsA.strs.mp ila] at hla
    exact ⟨la, g, rfl, h1, hla⟩
theorem flat_take {gs : List (List Str)} {i : Nat} {g : List Str} (h : gs[i]? = some g) : (gs.take (i + 1)).flatten = (gs.take i).flatten ++ g := by
  rw [tk_snoc h, List.flatten_append, List.flatten_singleton]
theorem mem_get {gs : List (List Str)} {i : Nat} {g : List Str} (h : gs[i]? = some g) {r : Str} (hr : r ∈ g) : r ∈ gs.getD i [] := by
  rw [List.getD_eq_getElem?_getD, h]
  exact hr
theorem flat_sub (gs : List (List Str)) (n : Nat) : (gs.take n).flatten.Sublist gs.flatten := by
  have e : gs.flatten = (gs.take n).flatten ++ (gs.drop n).flatten := by rw [← List.flatten_append, List.take_append_drop]
  rw [e]
  exact List.sublist_append_left _ _
theorem filt_len (p : List Str → Bool) : ∀ gs : List (List Str), (gs.filter p).flatten.length ≤ gs.flatten.length
  | [] => Nat.le_refl _
  | g :: gs => by
    have := filt_len p gs
    rw [List.filter_cons]
    cases p g
    · rw [if_neg Bool.false_ne_true, List.flatten_cons, List.length_append]
      omega
    · rw [if_pos rfl, List.flatten_cons, List.flatten_cons, List.length_append, List.length_append]
      omega
theorem nodup_part {gs : List (List Str)} (hnd : gs.flatten.Nodup) {i : Nat} {g : List Str} (h : gs[i]? = some g) : ((gs.take i).flatten ++ g).Nodup := by
  rw [← flat_take h]
  exact List.Nodup.sublist (flat_sub _ _) hnd
theorem len_part {gs : List (List Str)} (n : Nat) : (gs.take n).flatten.length ≤ gs.flatten.length := (flat_sub _ _).length_le
theorem w_yesI {σ : L2.St} {H : Hp} {Y N : Hp → Prop} (h : Y H) : tYes σ H fun b H' => if b = true then Y H' else N H' := by
  show (if true = true then Y H else N H)
  rw [if_pos rfl]
  exact h
def sp_places_of : Sp := fun vs H Q _ => ∃ (v : V) (gs : List (List Str)), vs = [v] ∧ gs.flatten.Nodup ∧ gs.flatten.length ≤ 1000 ∧ ∃ M, Same M H ∧ Lmp M gs v ∧
  ∀ p M' H', Stp no M H M' H' → M' p = some (.dK (pk gs)) → Q (.ref p) H'
theorem ok_places_of (T : Tx K mg) : Good P w K mg base CX0 1 (He.fAd K (He.DefD.at_ d_places_of)) p_places_of sp_places_of := by
  obtain ⟨fd, F⟩ := T.def_ 10 (d := d_places_of) rfl
  refine good_of F sc_places_of (fun _ _ _ _ _ _ us hl => match us, hl with | [_], _ => rfl) (by intro vs H Q E h; (repeat obtain ⟨_, h⟩ := h); subst_vars; rfl) fun cdv A outer s H vs Q E hr h => ?_
  have hu := hu_of hr
  refine ⟨_, (pss_one (ps_ret (pe_dcc (own := [("at", 2), ("lump", 3), ("row", 1)]) (vs1 := [1]) (by rfl) sc_places_of.nd (iq_enumS K (by rfl) T.b_enumerate (pa_cons (pv 0) pa_nil)) (blkOk_by (own := [("at", 2), ("lump", 3), ("row", 1)]) (N := n_places_of) (sc := He.DefD.scope d_places_of) (by decide +kernel)) (by decide) (fun _ _ _ _ _ => (gq_tup K (n := 2) rfl (pgs_cons (pg_name (i := 2) sc_places_of.nd rfl (Or.inl rfl) (Or.inr rfl)) (pgs_cons (pg_name (i := 3) sc_places_of.nd rfl (Or.inl rfl) (Or.inr rfl)) pgs_nil)))) (fun _ _ _ _ _ => (iq_seq K (pv 3))) (fun _ _ _ _ _ => (pg_name (i := 1) sc_places_of.nd rfl (Or.inl rfl) (Or.inr rfl))) (fun _ _ _ _ _ => (pv 1)) (fun _ _ _ _ _ => (pv 2))))), ?_⟩
  obtain ⟨v, gs, rfl, hnd, hfl, M, s0, ⟨d, ds, iv, hd, hgs⟩, k⟩ := h
  obtain ⟨va, vvs, rfl, hva, iva⟩ := iv.seq hd
  have hvl := iva.len
  walk_at "vc"
  have hgl : gs.length = ds.length := lumpsOf_len hgs
  refine w_enumV (hva.mono s0) rfl fun J G hG W => ?_
  intro D hD
  have R := Stp.refl (ex := no) s0
  let A : List Str → Hp → Prop := fun xs H' => ∃ M', Stp no M H M' H' ∧ M' D = none ∧ H' D = some (.dK (kd (fun r => V.int (plc gs r)) xs))
  have kp : ∀ {M' H'}, Stp no M H M' H' → ∀ o, H va = some o → H' va = some o := fun S o e => hva.keep s0 (fun x o e => S.mh _ _ (S.mm _ _ e)) o e
  refine ⟨fun i m H' => m = vvs.length - i ∧ i ≤ vvs.length ∧ A (gs.take i).flatten H', ⟨_, rfl, Nat.zero_le _, M, R.new _ hD, R.mfree hD, upd_same⟩, ?_⟩
  rintro i m H1 ⟨rfl, hi, M1, S1, m1, h1⟩
  by_cases q : i = vvs.length
  · subst q
    rw [List.take_of_length_le (by omega)] at h1
    exact .inl ⟨W.stops H1 (hG H1 (kp S1)), k D _ _ (S1.fix h1 hD) upd_same⟩
  · have hi : i < vvs.length := by omega
    refine .inr ⟨W.goes i H1 hi (hG H1 (kp S1)), A (gs.take (i + 1)).flatten, fun H' h => ⟨_, by omega, rfl, by omega, h⟩, ?_⟩
    intro x H' hy
    obtain ⟨T, y, rfl, hT, rfl, hyv⟩ := W.yields i H1 x H' hi (hG H1 (kp S1)) hy
    obtain ⟨la, g, rfl, hg, hla⟩ := Lmp.one iva hgs hyv
    have hgD := nodup_part hnd hg
    have hpl := len_part (gs := gs) (i + 1)
    have hplc : ∀ r ∈ g, plc gs r = i := fun r hr => plc_at hnd (mem_get hg hr)
    have S2 := S1.new (.tup [.int (i : Nat), .ref la]) hT
    have h2 := upd_old (u := HO.tup [.int (i : Nat), .ref la]) h1 hT
    walk_at "vc"
    refine ⟨rfl, ?_⟩
    generalize upd H1 T (HO.tup [.int (i : Nat), .ref la]) = H2 at S2 h2 ⊢
    refine w_seqV (hla.mono (fun x o e => S2.mh _ _ (S2.mm _ _ e))) rfl fun J2 G2 hG2 W2 => ?_
    have kp2 : ∀ {M' H'}, Stp no M H M' H' → ∀ o, H2 la = some o → H' la = some o := fun S o e => hla.keep (fun x o e => S2.mh _ _ (S2.mm _ _ e)) (fun x o e => S.mh _ _ (S.mm _ _ e)) o e
    refine ⟨fun j k H' => k = (g.map V.str).length - j ∧ j ≤ (g.map V.str).length ∧ A ((gs.take i).flatten ++ g.take j) H', ⟨_, rfl, Nat.zero_le _, M1, S2, m1, by rw [List.take_zero, List.append_nil]; exact h2⟩, ?_⟩
    rintro j m3 H3 ⟨rfl, hj, M3, S3, m3, h3⟩
    by_cases q2 : j = (g.map V.str).length
    · have e0 : g.take j = g := List.take_of_length_le (by rw [q2, List.length_map]; omega)
      rw [e0] at h3
      subst q2
      exact .inl ⟨W2.stops H3 (hG2 H3 (kp2 S3)), M3, S3, m3, by rw [flat_take hg]; exact h3⟩
    · have hj : j < (g.map V.str).length := by omega
      refine .inr ⟨W2.goes j H3 hj (hG2 H3 (kp2 S3)), A ((gs.take i).flatten ++ g.take (j + 1)), fun H' h => ⟨_, by omega, rfl, by omega, h⟩, ?_⟩
      intro x H' hy
      obtain ⟨rfl, hyv2⟩ := W2.yields j H3 x H' hj (hG2 H3 (kp2 S3)) hy
      obtain ⟨r, hr', rfl⟩ := map_at hyv2
      walk_at "vc"
      refine ⟨rfl, ?_⟩
      walk_at "vc"
      have hlen : ((gs.take i).flatten ++ g.take j).length ≤ 1000 := by
        rw [flat_take hg] at hpl
        rw [List.length_append] at hpl ⊢
        have := List.length_take_le j g
        rw [List.length_take]
        omega
      refine ⟨_, .inr r, rfl, h3, line_lt (by rw [kd_len]; omega), M3, S3.put _ m3 (.inl hD), m3, ?_⟩
      rw [upd_same]
      have hni : r ∉ (gs.take i).flatten ++ g.take j := by
        intro z
        have nd : ((gs.take i).flatten ++ g.take (j + 1)).Nodup := List.Nodup.sublist (List.Sublist.append (List.Sublist.refl _) (List.take_sublist _ _)) hgD
        rw [tk_snoc hr', ← List.append_assoc, List.nodup_append] at nd
        exact nd.2.2 _ z _ List.mem_cons_self rfl
      have e1 : V.int (i : Nat) = (fun r => V.int (plc gs r)) r := by
        show V.int (i : Nat) = V.int (plc gs r)
        rw [hplc r (mem_of_get hr')]
      rw [e1, kd_put (fun r => V.int (plc gs r)) r _ hni, tk_snoc hr', ← List.append_assoc]
def bad1 (gs : List (List Str)) (s : Str) (g : List Str) : Bool := g.any fun o => !decide (((plc gs (ovr s o) : Nat) : Int) = (plc gs (ovr s (g.headD default)) : Nat))
def brw (gs : List (List Str)) (s : Str) : List Str := (gs.filter (bad1 gs s)).flatten
def sp_broken_rows : Sp := fun vs H Q _ => ∃ (s : Str) (v : V) (a : Addr) (gs : List (List Str)) (seeds full : List Str), vs = [.str s, v, .ref a] ∧ LpOk gs seeds full ∧ s ∈ seeds ∧ (∀ g ∈ gs, g ≠ []) ∧ ∃ M, Same M H ∧ Lmp M gs v ∧ M a = some (.dK (pk gs)) ∧
  Ret M H Q (dS (brw gs s))
theorem ok_broken_rows (T : Tx K mg) : Good P w K mg base CX0 2 (He.fAd K (He.DefD.at_ d_broken_rows)) p_broken_rows sp_broken_rows := by
  obtain ⟨fd, F⟩ := T.def_ 12 (d := d_broken_rows) rfl
  have g_over : Good P w K mg base CX0 1 (He.fAd K (He.DefD.at_ d_over)) p_over sp_over := ok_over T
  refine good_of F sc_broken_rows (fun _ _ _ _ _ _ us hl => match us, hl with | [_, _, _], _ => rfl) (by intro vs H Q E h; (repeat obtain ⟨_, h⟩ := h); subst_vars; rfl) fun cdv A outer s H vs Q E hr h => ?_
  have hu := hu_of hr
  refine ⟨_, (pss_cons (ps_set (i := 3) sc_broken_rows.nd rfl (Or.inl rfl) (pe_lst pa_nil))  (pss_cons (ps_for PassesOwn.never rfl (iq_seq K (pv 1)) (pg_name (i := 4) sc_broken_rows.nd rfl (Or.inl rfl) (Or.inl rfl))  (pss_cons (ps_set (i := 5) sc_broken_rows.nd rfl (Or.inr rfl) (pe_dget hu (pv 2) (pe_good g_over (hr.mono (by decide)) rfl T.m_over (pa_cons (pv 0) (pa_cons (pe_ix xq_seq (pv 4) pe_int (fun _ _ => rfl)) pa_nil))) (fun _ _ => rfl)))  (pss_one (ps_if (pt_val (pe_callB (cq_any rfl) (by rfl) T.b_any (by decide +kernel) (pa_cons (pe_lc (own := [("row", 6)]) (by rfl) sc_broken_rows.nd (iq_seq K (pv 4)) (blkOk_by (own := [("row", 6)]) (N := n_broken_rows) (sc := He.DefD.scope d_broken_rows) (by decide +kernel)) (fun _ _ _ _ _ => (pg_name (i := 6) sc_broken_rows.nd rfl (Or.inl rfl) (Or.inr rfl))) (fun _ _ _ _ _ => pts_nil) (fun _ _ _ _ _ => (pe_cmpR op_ne (pe_dget hu (pv 2) (pe_good g_over (hr.mono (by decide)) rfl T.m_over (pa_cons (pv 0) (pa_cons (pv 6) pa_nil))) (fun _ _ => rfl)) (pv 5) (nomark _)))) pa_nil)))  (pss_one (ps_expr (eq_bm PySem.F.slot_list_extend PySem.F.type_list_extend mt_extend (pv 3) (pa_cons (pe_callTy cq_list (by rfl) T.b_list (by decide +kernel) (pa_cons (pv 4) pa_nil)) pa_nil))))  pss_nil))))  (pss_one (ps_ret (pv 3))))), ?_⟩
  obtain ⟨sd, v, pa, gs, seeds, full, rfl, L, hsd, hne, M, s0, ⟨d, ds, iv, hd, hgs⟩, hpa, k⟩ := h
  obtain ⟨va, vvs, rfl, hva, iva⟩ := iv.seq hd
  have hvl := iva.len
  have hgl : gs.length = ds.length := lumpsOf_len hgs
  have hln := L.ln
  have hsl := L.sl sd hsd
  have fl40 : gs.flatten.length ≤ 40 := by rw [L.pm.length_eq]; exact hln
  walk_at "vc"
  intro b hb
  walk_at "vc"
  have S0 := (Stp.refl (ex := no) s0).new (.lst []) hb
  have hM0 : M b = none := (Stp.refl (ex := no) s0).mfree hb
  have h00 : upd H b (.lst []) b = some (.lst (([] : List Str).map V.str)) := upd_same
  generalize upd H b (.lst []) = H0 at S0 h00 ⊢
  refine w_seqV (hva.mono S0.mh) rfl fun J G hG W => ?_
  let I : Nat → L2.St → Hp → Prop := fun i σ' H' => ∃ o4 o5 o6 M', σ' = [some (.str sd), some (.ref va), some (.ref pa), some (.ref b), o4, o5, o6] ∧ Stp no M H M' H' ∧ M' b = none ∧ H' b = some (.lst ((((gs.take i).filter (bad1 gs sd)).flatten).map V.str))
  refine fo_go W (fun i σ' H' => I i σ' H') ⟨_, _, _, M, rfl, S0, hM0, h00⟩ (fun i σ' H' _ ⟨_, _, _, M', _, S, _⟩ => hG H' (hva.keep S0.mh (S.mm.trans S.mh))) ?_ ?_
  · rintro i y σ1 H1 H1' hi ⟨o4, o5, o6, M1, rfl, S1, m1, h1⟩ ⟨rfl, hy⟩
    obtain ⟨la, g, rfl, hg, hla⟩ := Lmp.one iva hgs hy
    have hgm := mem_of_get hg
    have hgf : ∀ r ∈ g, r ∈ full := fun r hr => L.pm.mem_iff.mp (List.mem_flatten.mpr ⟨g, hgm, hr⟩)
    have hgl2 : g.length ≤ 40 := Nat.le_trans (List.sublist_flatten_of_mem hgm).length_le fl40
    have hbl : (((gs.take i).filter (bad1 gs sd)).flatten).length ≤ 40 := Nat.le_trans (Nat.le_trans (filt_len _ _) (len_part i)) fl40
    obtain ⟨x0, gt, rfl⟩ : ∃ x t, g = x :: t := by
      cases g with
      | nil => exact absurd rfl (hne _ hgm)
      | cons x t => exact ⟨x, t, rfl⟩
    walk_at "vc"
    refine w_ixq (k := 0) (hla.mono (S1.mm.trans S1.mh)) rfl ?_
    walk_at "vc"
    refine ⟨sd, x0, rfl, M1, S1.mh, by omega, ?_⟩
    rintro v2 M2 H2 S2 rfl
    obtain ⟨m2, h2⟩ := S2.keep m1 h1
    have S2' := S1.trans S2
    walk_at "vc"
    refine kd_get (S2'.mh _ _ (S2'.mm _ _ hpa)) (L.fl (L.cl sd hsd x0 (hgf x0 List.mem_cons_self))) ?_
    walk_at "vc"
    refine w_seqV (hla.mono (S2'.mm.trans S2'.mh)) rfl fun J2 G2 hG2 W2 => ?_
    refine lc_go (ex := no) W2 S2.mh (fun m acc _ => acc = ((x0 :: gt).take m).map fun o => V.bl (!decide (((plc gs (ovr sd o) : Nat) : Int) = (plc gs (ovr sd x0) : Nat)))) rfl (fun M' H' S => hG2 H' (hla.keep (S2'.mm.trans S2'.mh) (S2'.mm.trans (S.mm.trans S.mh)))) ?_ ?_
    · rintro m y7 acc M7 H7 H7' D hm S7 hD m7 h7 rfl ⟨rfl, hy7⟩
      obtain ⟨o, ho, rfl⟩ := map_at hy7
      have hof := hgf o (mem_of_get ho)
      walk_at "vc"
      refine ⟨rfl, ?_⟩
      walk_at "vc"
      refine ⟨sd, o, rfl, M7, S7.mh, by omega, ?_⟩
      rintro v8 M8 H8 S8 rfl
      obtain ⟨m8, h8⟩ := S8.keep m7 h7
      have S8' := (S2'.trans S7).trans S8
      walk_at "vc"
      refine kd_get (S8'.mh _ _ (S8'.mm _ _ hpa)) (L.fl (L.cl sd hsd o hof)) ?_
      walk_at "vc"
      exact LcA.of hD (S7.trans S8) m8 h8 (len_tm (by omega)) (by rw [tkm ho])
    · rintro D acc M7 H7 hD S7 m7 h7 rfl
      rw [List.length_map, tk_all] at h7
      obtain ⟨m7b, h7b⟩ := S7.keep m2 h2
      have S7' := S2'.trans S7
      have ea : (((x0 :: gt).map fun o => !decide (((plc gs (ovr sd o) : Nat) : Int) = (plc gs (ovr sd x0) : Nat))).any id) = bad1 gs sd (x0 :: gt) := by
        rw [List.any_map]
        rfl
      walk_at "vc"
      refine ⟨D, _, rfl, by rw [h7, List.map_map]; rfl, ?_⟩
      rw [ea]
      cases hb1 : bad1 gs sd (x0 :: gt) with
      | true =>
        walk_at "vc"
        refine ⟨⟨b, _, rfl, h7b⟩, ?_⟩
        walk_at "vc"
        refine ⟨la, _, rfl, hla.mono (S7'.mm.trans S7'.mh), fun l hl => ?_⟩
        have S8 := S7'.new (.lst ((x0 :: gt).map V.str)) hl
        walk_at "vc"
        refine ⟨b, l, _, _, rfl, rfl, upd_old h7b hl, upd_same, ?_, ?_⟩
        · rw [List.length_map, List.length_map]
          exact Nat.le_of_lt (line_lt (by omega))
        · refine ⟨_, _, _, M7, rfl, S8.put _ m7b (.inl hb), m7b, ?_⟩
          rw [upd_same, ← List.map_append, tk_snoc hg, List.filter_append, List.filter_cons, if_pos hb1, List.filter_nil, List.flatten_append, List.flatten_singleton]
      | false =>
        walk_at "vc"
        refine ⟨_, _, _, M7, rfl, S7', m7b, ?_⟩
        rw [tk_snoc hg, List.filter_append, List.filter_cons, if_neg (by rw [hb1]; exact Bool.false_ne_true), List.filter_nil, List.append_nil]
        exact h7b
  · rintro σ1 H1 ⟨o4, o5, o6, M1, rfl, S1, m1, h1⟩
    have e0 : gs.take vvs.length = gs := List.take_of_length_le (by omega)
    rw [e0] at h1
    walk_at "vc"
    exact k _ _ _ (S1.fix h1 hb) (Is.of_strs upd_same)
end
end Nt
namespace Nt
section
variable {P : Program} {w : World} {K : PySem.W.Frag} {mg : Str → Option Value} {base : Heap}
theorem w_iqW {K : PySem.W.Frag} {te : TE} {σ : L2.St} {H H' : Hp} {a : Addr} {vs : List V} {R : It → Hp → Prop} (h : SQ H' a vs) (hv : ∀ Q : VK, Q (.ref a) H' → te σ H Q)
    (k : ∀ (J : It) (G : Hp → Prop), (∀ H2, (∀ o, H' a = some o → H2 a = some o) → G H2) → Walk J vs.length G (YAt vs) → R J H') : iSeq K te σ H R := hv _ (w_walkQ h k)
theorem Lmp.mono {M M' : Hp} (s : Same M M') {gs : List (List Str)} {v : V} (h : Lmp M gs v) : Lmp M' gs v := by
  obtain ⟨d, ds, a, b, c⟩ := h
  exact ⟨d, ds, a.mono s, b, c⟩
theorem bad1_iff {gs : List (List Str)} {seeds full : List Str} (L : LpOk gs seeds full) {s : Str} {k : Nat} {g : List Str} (hg : gs[k]? = some g) : bad1 gs s g = true ↔ ∃ r ∈ g, ∃ o, Apart gs s r o := by
  have nd : gs.flatten.Nodup := L.pm.nodup_iff.mpr L.nd
  have hp : ∀ r ∈ g, plc gs r = k := fun r hr => plc_at nd (mem_get hg hr)
  have hk : gs.getD k [] = g := by rw [List.getD_eq_getElem?_getD, hg]; rfl
  unfold bad1
  rw [List.any_eq_true]
  constructor
  · rintro ⟨o, ho, hne⟩
    cases g with
    | nil => cases ho
    | cons x t =>
      refine ⟨x, List.mem_cons_self, o, ?_, ?_⟩
      · rw [hp x List.mem_cons_self, hk]; exact ho
      · intro z
        simp [z] at hne
  · rintro ⟨r, hr, o, h1, h2⟩
    rw [hp r hr, hk] at h1
    cases g with
    | nil => cases hr
    | cons x t =>
      by_cases z : plc gs (ovr s o) = plc gs (ovr s x)
      · refine ⟨r, hr, ?_⟩
        have : ¬ ((plc gs (ovr s r) : Nat) : Int) = (plc gs (ovr s x) : Nat) := fun q => h2 (z.trans (Int.ofNat.inj q).symm)
        exact (by rw [decide_eq_false this]; rfl : (!decide (((plc gs (ovr s r) : Nat) : Int) = (plc gs (ovr s x) : Nat))) = true)
      · have : ¬ ((plc gs (ovr s o) : Nat) : Int) = (plc gs (ovr s x) : Nat) := fun q => z (Int.ofNat.inj q)
        exact ⟨o, h1, (by rw [decide_eq_false this]; rfl : (!decide (((plc gs (ovr s o) : Nat) : Int) = (plc gs (ovr s x) : Nat))) = true)⟩
theorem mem_brw {gs : List (List Str)} {seeds full : List Str} (L : LpOk gs seeds full) {s r : Str} : r ∈ brw gs s ↔ r ∈ full ∧ ∃ o, Apart gs s r o := by
  have nd : gs.flatten.Nodup := L.pm.nodup_iff.mpr L.nd
  unfold brw
  rw [List.mem_flatten]
  constructor
  · rintro ⟨g, hg, hr⟩
    obtain ⟨hg1, hg2⟩ := List.mem_filter.mp hg
    have hf : r ∈ full := L.pm.mem_iff.mp (List.mem_flatten.mpr ⟨g, hg1, hr⟩)
    obtain ⟨k, hk⟩ := List.getElem?_of_mem hg1
    obtain ⟨r', hr', o, ho1, ho2⟩ := (bad1_iff L hk).mp hg2
    have e : plc gs r = k := plc_at nd (mem_get hk hr)
    have e' : plc gs r' = k := plc_at nd (mem_get hk hr')
    refine ⟨hf, ?_⟩
    unfold Apart
    rw [e]
    rw [e'] at ho1
    by_cases z : plc gs (ovr s o) = plc gs (ovr s r)
    · exact ⟨r', mem_get hk hr', fun q => ho2 (z.trans q.symm)⟩
    · exact ⟨o, ho1, z⟩
  · rintro ⟨hf, o, ho⟩
    obtain ⟨g, hg, hr⟩ := List.mem_flatten.mp (L.fl hf)
    obtain ⟨k, hk⟩ := List.getElem?_of_mem hg
    exact ⟨g, List.mem_filter.mpr ⟨hg, (bad1_iff L hk).mpr ⟨r, hr, o, ho⟩⟩, hr⟩
theorem brw_ok {gs : List (List Str)} {seeds full : List Str} (L : LpOk gs seeds full) (s : Str) : okS (brw gs s) := fun r hr => L.ok r ((mem_brw L).mp hr).1
theorem brw_len {gs : List (List Str)} {seeds full : List Str} (L : LpOk gs seeds full) (s : Str) : (brw gs s).length ≤ 40 := by
  have := filt_len (bad1 gs s) gs
  have h2 := L.pm.length_eq
  have h3 := L.ln
  show (gs.filter (bad1 gs s)).flatten.length ≤ 40
  omega
def sp_lumps_break (C : Addr) : Sp := fun vs H Q _ => ∃ (a : Addr) (v : V) (cs : Cells) (seeds rows : List Str) (gs : List (List Str)), vs = [.ref a, v] ∧ LpOk gs seeds (fullS rows) ∧ (∀ g ∈ gs, g ≠ []) ∧ ∃ M, Same M H ∧ BandO C M cs seeds rows a ∧ Lmp M gs v ∧
  ∀ res, BrkIs gs seeds (fullS rows) res → Ret M H Q (brkD res)
theorem ok_lumps_break (T : Tx K mg) : Good P w K mg base CX0 3 (He.fAd K (He.DefD.at_ d_lumps_break)) p_lumps_break (sp_lumps_break (He.ga K "Band")) := by
  obtain ⟨fd, F⟩ := T.def_ 11 (d := d_lumps_break) rfl
  have g_Band_seeds : Good P w K mg base CX0 1 (He.fAd K (He.DefD.at_ d_Band_seeds)) p_Band_seeds (sp_Band_seeds (He.ga K "Band")) := ok_Band_seeds T
  have g_broken_rows : Good P w K mg base CX0 2 (He.fAd K (He.DefD.at_ d_broken_rows)) p_broken_rows sp_broken_rows := ok_broken_rows T
  have g_over : Good P w K mg base CX0 1 (He.fAd K (He.DefD.at_ d_over)) p_over sp_over := ok_over T
  have g_places_of : Good P w K mg base CX0 1 (He.fAd K (He.DefD.at_ d_places_of)) p_places_of sp_places_of := ok_places_of T
  refine good_of F sc_lumps_break (fun _ _ _ _ _ _ us hl => match us, hl with | [_, _], _ => rfl) (by intro vs H Q E h; (repeat obtain ⟨_, h⟩ := h); subst_vars; rfl) fun cdv A outer s H vs Q E hr h => ?_
  have hu := hu_of hr
  refine ⟨_, (pss_cons (ps_set (i := 2) sc_lumps_break.nd rfl (Or.inr rfl) (pe_good g_places_of (hr.mono (by decide)) rfl T.m_places_of (pa_cons (pv 1) pa_nil)))  (pss_cons (ps_for PassesOwn.never rfl (iq_list K (pe_goodm0 g_Band_seeds (hr.mono (by decide)) (pv 0) T.c_Band T.Band_seeds)) (pg_name (i := 3) sc_lumps_break.nd rfl (Or.inr rfl) (Or.inl rfl))  (pss_cons (ps_set (i := 4) sc_lumps_break.nd rfl (Or.inl rfl) (pe_good g_broken_rows (hr.mono (by decide)) rfl T.m_broken_rows (pa_cons (pv 3) (pa_cons (pv 1) (pa_cons (pv 2) pa_nil)))))  (pss_one (ps_if (pt_cmpR (op_neD hr.units) (pv 4) (pe_lst pa_nil) (nomark _))  (pss_cons (ps_set (i := 5) sc_lumps_break.nd rfl (Or.inl rfl) (pe_callB (cr_minS rfl) (by rfl) T.b_min (by decide +kernel) (pa_cons (pv 4) pa_nil)))  (pss_cons (ps_set (i := 6) sc_lumps_break.nd rfl (Or.inr rfl) (pe_dget hu (pv 2) (pe_good g_over (hr.mono (by decide)) rfl T.m_over (pa_cons (pv 3) (pa_cons (pv 5) pa_nil))) (fun _ _ => rfl)))  (pss_cons (ps_setLc (i := 7) (own := [("row", 8)]) (by rfl) sc_lumps_break.nd rfl rfl (sw_true rfl rfl rfl (by decide +kernel)) (iq_seq K (pe_ix xq_seq (pv 1) (pe_dget hu (pv 2) (pv 5) (fun _ _ => rfl)) (fun _ _ => rfl))) (blkOk_by (own := [("row", 8)]) (N := n_lumps_break) (sc := He.DefD.scope d_lumps_break) (by decide +kernel)) (fun _ _ _ _ _ => (pg_name (i := 8) sc_lumps_break.nd rfl (Or.inl rfl) (Or.inr rfl))) (fun _ _ _ _ _ => pts_one (pt_cmpR op_ne (pe_dget hu (pv 2) (pe_good g_over (hr.mono (by decide)) rfl T.m_over (pa_cons (pv 3) (pa_cons (pv 8) pa_nil))) (fun _ _ => rfl)) (pv 6) (nomark _))) (fun _ _ _ _ _ => (pv 8)))  (pss_one (ps_ret (pe_tup (pa_cons (pv 3) (pa_cons (pv 5) (pa_cons (pe_callB (cr_minS rfl) (by rfl) T.b_min (by decide +kernel) (pa_cons (pv 7) pa_nil)) pa_nil)))))))))  pss_nil))))  (pss_one (ps_ret pe_non)))), ?_⟩
  obtain ⟨a, v, cs, seeds, rows, gs, rfl, L, hne, M, s0, ib, iv, k⟩ := h
  have ib' := ib
  obtain ⟨bdx, bvc, bvs, bvr, bvk, bvl, hb1, _⟩ := ib
  obtain ⟨d, ds, id_, hd, hgs⟩ := id iv
  obtain ⟨va, vvs, rfl, hva, iva⟩ := id_.seq hd
  have hvl := iva.len
  have hgl : gs.length = ds.length := lumpsOf_len hgs
  have hln := L.ln
  have nd : gs.flatten.Nodup := L.pm.nodup_iff.mpr L.nd
  have fl40 : gs.flatten.length ≤ 40 := by rw [L.pm.length_eq]; exact hln
  have g40 : ∀ g ∈ gs, g.length ≤ 40 := fun g hg => Nat.le_trans (List.sublist_flatten_of_mem hg).length_le fl40
  walk_at "vc"
  refine ⟨_, gs, rfl, nd, by omega, M, s0, iv, ?_⟩
  intro pa M1 H1 S1 hpa
  walk_at "vc"
  refine w_meth ?_
  walk_at "vc"
  refine ⟨a, bdx, _, rfl, S1.mh _ _ (S1.mm _ _ hb1), rfl, ?_⟩
  walk_at "vc"
  refine ⟨a, cs, seeds, rows, rfl, M1, S1.mh, ib'.mono S1.mm, ?_⟩
  intro v2 M2 H2 S2 i2
  obtain ⟨sa, rfl, hsa⟩ := i2.strs
  have S2' := S1.trans S2
  have hpa2 := S2.mm _ _ hpa
  refine ⟨sa, rfl, ⟨_, SqL.of (S2.mh _ _ hsa)⟩, ?_⟩
  let I : Nat → L2.St → Hp → Prop := fun i σ' H' => ∃ o3 o4 o5 o6 o7 o8 M', σ' = [some (.ref a), some (.ref va), some (.ref pa), o3, o4, o5, o6, o7, o8] ∧ Stp no M2 H2 M' H' ∧ ∀ j s', j < i → seeds[j]? = some s' → Whole gs (fullS rows) s'
  refine fo_go walkL (fun i σ' H' => I i σ' H') ⟨_, _, _, _, _, _, M2, rfl, Stp.refl S2.mh, by intro j s' h; omega⟩ (fun _ _ _ _ ⟨_, _, _, _, _, _, _, _, S, _⟩ => S.mh _ _ (S.mm _ _ hsa)) ?_ ?_
  · rintro i y σ3 H3 H3' hi ⟨o3, o4, o5, o6, o7, o8, M3, rfl, S3, hw⟩ ⟨rfl, hy⟩
    obtain ⟨sd, hsd, rfl⟩ := map_at hy
    have hsdm := mem_of_get hsd
    have hsl := L.sl sd hsdm
    have S3' := S2'.trans S3
    have hpa3 := S3.mm _ _ hpa2
    walk_at "vc"
    refine ⟨sd, _, pa, gs, seeds, fullS rows, rfl, L, hsdm, hne, M3, S3.mh, iv.mono S3'.mm, hpa3, ?_⟩
    intro v4 M4 H4 S4 i4
    obtain ⟨ba, rfl, hba⟩ := i4.strs
    have S4' := S3'.trans S4
    have hpa4 := S4.mm _ _ hpa3
    have hbl := brw_len L sd
    have hmb : ∀ r, r ∈ brw gs sd ↔ r ∈ fullS rows ∧ ∃ o, Apart gs sd r o := fun r => mem_brw L
    have hbo := brw_ok L sd
    generalize brw gs sd = bad at hba hbl hmb hbo
    walk_at "vc"
    intro q hq
    refine w_neStrs (xs := bad) (ys := []) (upd_old (S4.mh _ _ hba) hq) upd_same hbo (by intro x hx; cases hx) ?_
    have S5 := S4.new (.lst []) hq
    generalize upd H4 q (.lst []) = H5 at S5 ⊢
    have S5' := S3'.trans S5
    walk_at "vc"
    refine ifnd (fun z => ?_) (fun z => ?_)
    · cases bad with
      | nil => exact absurd rfl z
      | cons x t =>
        walk_at "vc"
        refine ⟨ba, x, t, rfl, S5.mh _ _ hba, ?_⟩
        intro m hm hmin
        obtain ⟨hmf, hap⟩ := (hmb m).mp hm
        obtain ⟨_, _, pl, pm⟩ := plc_has (L.fl hmf)
        walk_at "vc"
        refine ⟨sd, m, rfl, M4, S5.mh, by omega, ?_⟩
        rintro v6 M6 H6 S6 rfl
        have S6' := S5'.trans S6
        have hpa6 := S6.mm _ _ hpa4
        walk_at "vc"
        refine kd_get (S6.mh _ _ hpa6) (L.fl (L.cl sd hsdm m hmf)) ?_
        walk_at "vc"
        obtain ⟨y0, hy0⟩ : ∃ y, vvs[plc gs m]? = some y := ⟨_, List.getElem?_eq_getElem (by omega)⟩
        obtain ⟨la, g, rfl, hg, hla⟩ := Lmp.one iva hgs hy0
        have hgm := mem_of_get hg
        have hgD : gs.getD (plc gs m) [] = g := by rw [List.getD_eq_getElem?_getD, hg]; rfl
        refine w_iqW (hla.mono (S6'.mm.trans S6'.mh)) (fun R0 hR0 => ?_) fun J2 G2 hG2 W2 => ?_
        · walk_at "vc"
          refine kd_get (S6.mh _ _ hpa6) (L.fl hmf) ?_
          exact w_ixq (k := plc gs m) (hva.mono (S6'.mm.trans S6'.mh)) hy0 hR0
        refine lc_go (ex := no) W2 S6.mh (fun n acc _ => acc = ((g.take n).filter fun o => !decide (((plc gs (ovr sd o) : Nat) : Int) = (plc gs (ovr sd m) : Nat))).map V.str) rfl (fun M' H' S => hG2 H' (hla.keep (S6'.mm.trans S6'.mh) (S6'.mm.trans (S.mm.trans S.mh)))) ?_ ?_
        · rintro n y7 acc M7 H7 H7' D hn S7 hD m7 h7 rfl ⟨rfl, hy7⟩
          obtain ⟨o, ho, rfl⟩ := map_at hy7
          have hof : o ∈ fullS rows := L.pm.mem_iff.mp (List.mem_flatten.mpr ⟨g, hgm, mem_of_get ho⟩)
          walk_at "vc"
          refine ⟨rfl, ?_⟩
          walk_at "vc"
          refine ⟨sd, o, rfl, M7, S7.mh, by omega, ?_⟩
          rintro v8 M8 H8 S8 rfl
          obtain ⟨m8, h8⟩ := S8.keep m7 h7
          walk_at "vc"
          refine kd_get (S8.mh _ _ (S8.mm _ _ (S7.mm _ _ hpa6))) (L.fl (L.cl sd hsdm o hof)) ?_
          walk_at "vc"
          refine ifnd (fun q => ?_) (fun q => ?_)
          · walk_at "vc"
            exact LcA.of hD (S7.trans S8) m8 h8 (len_tf (by have := g40 g hgm; omega)) (by rw [tkf_yes ho (by simpa using q)])
          · exact LcS.of (S7.trans S8) m8 h8 (by rw [tkf_no ho (by simpa using q)])
        · rintro D acc M7 H7 hD S7 m7 h7 rfl
          rw [List.length_map, tk_all] at h7
          have F7 := S7.fix h7 hD
          have S7' := S6'.trans F7
          have apw : ∀ o, o ∈ (g.filter fun o => !decide (((plc gs (ovr sd o) : Nat) : Int) = (plc gs (ovr sd m) : Nat))) ↔ Apart gs sd m o := by
            intro o
            unfold Apart
            rw [List.mem_filter, hgD]
            simp
            intro _
            constructor <;> intro h z <;> exact h (by omega)
          generalize (g.filter fun o => !decide (((plc gs (ovr sd o) : Nat) : Int) = (plc gs (ovr sd m) : Nat))) = ap at h7 F7 S7' apw
          obtain ⟨o0, ho0⟩ := hap
          cases ap with
          | nil => exact absurd ((apw o0).mpr ho0) (by simp)
          | cons u us =>
            walk_at "vc"
            refine ⟨D, u, us, rfl, h7, ?_⟩
            intro o ho homin
            walk_at "vc"
            intro T hT
            have S9 := S7'.lay (.tup [.str sd, .str m, .str o]) hT
            refine k (some (sd, m, o)) ⟨i, hsd, hw, hmf, (apw o).mp ho, ?_, fun o' ho' => homin o' ((apw o').mpr ho')⟩ _ _ _ S9 (Is.tup3 upd_same rfl rfl rfl)
            intro r' hr' hlt o' hap'
            exact hmin r' ((hmb r').mpr ⟨hr', o', hap'⟩) hlt
    · walk_at "vc"
      refine ⟨_, _, _, _, _, _, M4, rfl, S3.trans S5, ?_⟩
      intro j s' hj hs'
      by_cases c : j < i
      · exact hw j s' c hs'
      · have e : j = i := by omega
        subst e
        rw [hsd] at hs'
        cases hs'
        intro r hr o ho
        have := (hmb r).mpr ⟨hr, o, ho⟩
        rw [z] at this
        cases this
  · rintro σ3 H3 ⟨o3, o4, o5, o6, o7, o8, M3, rfl, S3, hw⟩
    walk_at "vc"
    refine k none ?_ _ _ _ (S2'.trans S3) rfl
    intro s' hs'
    obtain ⟨j, hj⟩ := List.getElem?_of_mem hs'
    exact hw j s' (by rw [List.length_map]; exact lt_of_get hj) hj
end
end Nt
namespace Nt
section
variable {P : Program} {w : World} {K : PySem.W.Frag} {mg : Str → Option Value} {base : Heap}
def sp_lump_of : Sp := fun vs H Q _ => ∃ (v : V) (gs : List (List Str)) (r : Str), vs = [v, .str r] ∧ gs.flatten.Nodup ∧ gs.flatten.length ≤ 1000 ∧ r ∈ gs.flatten ∧ ∃ M, Same M H ∧ Lmp M gs v ∧ Ret M H Q (.int (plc gs r))
theorem ok_lump_of (T : Tx K mg) : Good P w K mg base CX0 2 (He.fAd K (He.DefD.at_ d_lump_of)) p_lump_of sp_lump_of := by
  obtain ⟨fd, F⟩ := T.def_ 13 (d := d_lump_of) rfl
  have g_places_of : Good P w K mg base CX0 1 (He.fAd K (He.DefD.at_ d_places_of)) p_places_of sp_places_of := ok_places_of T
  refine good_of F sc_lump_of (fun _ _ _ _ _ _ us hl => match us, hl with | [_, _], _ => rfl) (by intro vs H Q E h; (repeat obtain ⟨_, h⟩ := h); subst_vars; rfl) fun cdv A outer s H vs Q E hr h => ?_
  have hu := hu_of hr
  refine ⟨_, (pss_one (ps_ret (pe_dget hu (pe_good g_places_of (hr.mono (by decide)) rfl T.m_places_of (pa_cons (pv 0) pa_nil)) (pv 1) (fun _ _ => rfl)))), ?_⟩
  obtain ⟨v, gs, r, rfl, nd, hl, hr', M, s0, iv, k⟩ := h
  walk_at "vc"
  refine ⟨_, gs, rfl, nd, hl, M, s0, iv, ?_⟩
  intro pa M1 H1 S1 hpa
  walk_at "vc"
  refine kd_get (S1.mh _ _ hpa) hr' ?_
  exact k _ _ _ S1 rfl
theorem same_new {M : Hp} {p : Addr} {o : HO} (h : M p = none) : Same M (upd M p o) := fun b ob e => upd_old e h
abbrev tS (g : List Str) : Dat := .tup (g.map Dat.str)
def sp_l_deep : Sp := fun vs H Q _ => ∃ (v : V) (gs : List (List Str)), vs = [v] ∧ gs.length ≤ 1000 ∧ ∃ M, Same M H ∧ Lmp M gs v ∧ Ret M H Q (.tup (gs.map tS))
end
end Nt
namespace Nt
section
variable {P : Program} {w : World} {K : PySem.W.Frag} {mg : Str → Option Value} {base : Heap}
def sp_l_same (k : Nat) : Sp := fun vs H Q _ => ∃ (u v : V) (d : Dat), vs = [u, v] ∧ PL k d ∧ ∃ M, Same M H ∧ Is M d u ∧ Is M d v ∧ Ret M H Q (.bl true)
theorem sp_l_same_0 {vs : List V} {H : Hp} {Q : VK} {E : XK} (h : sp_l_same 0 vs H Q E) : False := by
  obtain ⟨_, _, d, _, h, _⟩ := h
  cases d <;> exact h
theorem okR_l_same (T : Tx K mg) : ∀ k : Nat, Good P w K mg base CX0 (k + 1) (He.fAd K (He.DefD.at_ d_l_same)) p_l_same (sp_l_same k) := by
  intro k
  induction k with
  | zero =>
    obtain ⟨fd, F⟩ := T.def_ 24 (d := d_l_same) rfl
    refine good_of F sc_l_same (fun _ _ _ _ _ _ us hl => match us, hl with | [_, _], _ => rfl) (by intro vs H Q E h; (repeat obtain ⟨_, h⟩ := h); subst_vars; rfl) fun cdv A outer s H vs Q E hr h => ?_
    exact (sp_l_same_0 h).elim
  | succ k g_l_same =>
  obtain ⟨fd, F⟩ := T.def_ 24 (d := d_l_same) rfl
  refine good_of F sc_l_same (fun _ _ _ _ _ _ us hl => match us, hl with | [_, _], _ => rfl) (by intro vs H Q E h; (repeat obtain ⟨_, h⟩ := h); subst_vars; rfl) fun cdv A outer s H vs Q E hr h => ?_
  have hu := hu_of hr
  refine ⟨_, (pss_cons (ps_if (PW.pt (pw_or (pt_cmpR op_isN (pv 1) pe_non (nomark _)) (pw_or1 (pt_cmpR op_isN (pv 0) pe_non (nomark _)))))  (pss_one (ps_ret (pe_and (pe_cmpR op_isN (pv 1) pe_non (nomark _)) (pe_one (pe_cmpR op_isN (pv 0) pe_non (nomark _))))))  pss_nil)  (pss_cons (ps_if (pt_val (pe_callB cq_isi (by rfl) T.b_isinstance (by decide +kernel) (pa_cons (pv 1) (pa_cons (pe_ty "dict" (by rfl) T.b_dict (by decide +kernel)) pa_nil))))  (pss_one (ps_ret pe_never))  pss_nil)  (pss_cons (ps_if (pt_val (pe_callB cq_isi2 (by rfl) T.b_isinstance (by decide +kernel) (pa_cons (pv 1) (pa_cons (pe_tup (pa_cons (pe_ty "list" (by rfl) T.b_list (by decide +kernel)) (pa_cons (pe_ty "tuple" (by rfl) T.b_tuple (by decide +kernel)) pa_nil))) pa_nil))))  (pss_cons (ps_if (PW.pt (pw_or (pt_cmpR op_ne (pe_callB cq_isi (by rfl) T.b_isinstance (by decide +kernel) (pa_cons (pv 0) (pa_cons (pe_ty "list" (by rfl) T.b_list (by decide +kernel)) pa_nil))) (pe_callB cq_isi (by rfl) T.b_isinstance (by decide +kernel) (pa_cons (pv 1) (pa_cons (pe_ty "list" (by rfl) T.b_list (by decide +kernel)) pa_nil))) (nomark _)) (pw_or1 (pt_cmpR op_ne (pe_callB cq_isi (by rfl) T.b_isinstance (by decide +kernel) (pa_cons (pv 0) (pa_cons (pe_ty "tuple" (by rfl) T.b_tuple (by decide +kernel)) pa_nil))) (pe_callB cq_isi (by rfl) T.b_isinstance (by decide +kernel) (pa_cons (pv 1) (pa_cons (pe_ty "tuple" (by rfl) T.b_tuple (by decide +kernel)) pa_nil))) (nomark _)))))  (pss_one (ps_ret pe_bl))  pss_nil)  (pss_one (ps_ret (pe_and (pe_cmpR op_eq (pe_callB cq_len (by rfl) T.b_len (by decide +kernel) (pa_cons (pv 0) pa_nil)) (pe_callB cq_len (by rfl) T.b_len (by decide +kernel) (pa_cons (pv 1) pa_nil)) (nomark _)) (pe_one (pe_callB (cq_all rfl) (by rfl) T.b_all (by decide +kernel) (pa_cons (pe_lc (own := [("_law_left", 2), ("_law_right", 3)]) (by rfl) sc_l_same.nd (iq_zipA K (by rfl) T.b_zip (pa_cons (pv 0) (pa_cons (pv 1) pa_nil))) (blkOk_by (own := [("_law_left", 2), ("_law_right", 3)]) (N := n_l_same) (sc := He.DefD.scope d_l_same) (by decide +kernel)) (fun _ _ _ _ _ => (gq_tup K (n := 2) rfl (pgs_cons (pg_name (i := 2) sc_l_same.nd rfl (Or.inl rfl) (Or.inr rfl)) (pgs_cons (pg_name (i := 3) sc_l_same.nd rfl (Or.inl rfl) (Or.inr rfl)) pgs_nil)))) (fun _ _ _ _ _ => pts_nil) (fun _ _ _ _ _ => (pe_good g_l_same (hr.mono (by omega)) rfl T.m_l_same (pa_cons (pv 2) (pa_cons (pv 3) pa_nil))))) pa_nil)))))))  pss_nil)  (pss_cons (ps_if (PW.pt (pw_or (pt_cmpR op_ne (pe_callB cq_isi (by rfl) T.b_isinstance (by decide +kernel) (pa_cons (pv 0) (pa_cons (pe_ty "bool" (by rfl) T.b_bool (by decide +kernel)) pa_nil))) (pe_callB cq_isi (by rfl) T.b_isinstance (by decide +kernel) (pa_cons (pv 1) (pa_cons (pe_ty "bool" (by rfl) T.b_bool (by decide +kernel)) pa_nil))) (nomark _)) (pw_or1 (pt_cmpR op_ne (pe_callB cq_isi (by rfl) T.b_isinstance (by decide +kernel) (pa_cons (pv 0) (pa_cons (pe_ty "int" (by rfl) T.b_int (by decide +kernel)) pa_nil))) (pe_callB cq_isi (by rfl) T.b_isinstance (by decide +kernel) (pa_cons (pv 1) (pa_cons (pe_ty "int" (by rfl) T.b_int (by decide +kernel)) pa_nil))) (nomark _)))))  (pss_one (ps_ret pe_bl))  pss_nil)  (pss_one (ps_ret (pe_and (pe_cmpR op_eq (pe_callB cq_isi (by rfl) T.b_isinstance (by decide +kernel) (pa_cons (pv 0) (pa_cons (pe_ty "str" (by rfl) T.b_str (by decide +kernel)) pa_nil))) (pe_callB cq_isi (by rfl) T.b_isinstance (by decide +kernel) (pa_cons (pv 1) (pa_cons (pe_ty "str" (by rfl) T.b_str (by decide +kernel)) pa_nil))) (nomark _)) (pe_one (pe_cmpR op_eq (pv 0) (pv 1) (nomark _)))))))))), ?_⟩
  obtain ⟨u, v, d, rfl, hd, M, s0, iu, iv, kk⟩ := h
  by_cases hn : d = .non
  · subst hn
    cases iu
    cases iv
    walk_at "vc"
    refine ⟨rfl, true, rfl, ?_⟩
    walk_at "vc"
    refine ⟨rfl, ?_⟩
    walk_at "vc"
    exact ⟨rfl, kk _ _ _ (Stp.refl s0) rfl⟩
  have nn : ∀ x : V, Is M d x → decide (x = V.non) = false := fun x hx => by
    cases d with
    | non => exact absurd rfl hn
    | bl b => rw [show x = V.bl b from hx]; rfl
    | int b => rw [show x = V.int b from hx]; rfl
    | str b => rw [show x = V.str b from hx]; rfl
    | lst ds => obtain ⟨a, _, e, _⟩ := hx; rw [e]; rfl
    | tup ds => obtain ⟨a, _, e, _⟩ := hx; rw [e]; rfl
    | dct => exact hd.elim
  have nd : d.isT "dict" = false := by
    cases d with
    | dct => exact hd.elim
    | _ => rfl
  walk_at "vc"
  refine ⟨rfl, false, by rw [nn v iv], ?_⟩
  walk_at "vc"
  refine ⟨rfl, false, by rw [nn u iu], ?_⟩
  walk_at "vc"
  refine w_isi s0 iv (by simp) ?_
  rw [nd]
  walk_at "vc"
  intro p hp
  have S1 := (Stp.refl (ex := no) s0).new (.tup [.ty "list", .ty "tuple"]) hp
  walk_at "vc"
  refine w_isi2 S1.mh iv upd_same (by simp) (by simp) ?_
  rw [Dat.seq_ty]
  generalize upd H p (.tup [.ty "list", .ty "tuple"]) = H1 at S1 ⊢
  cases hs : d.seq with
  | none =>
    walk_at "vc"
    refine w_isi S1.mh iu (by simp) ?_
    walk_at "vc"
    refine w_isi S1.mh iv (by simp) ?_
    walk_at "vc"
    refine ifnT rfl ?_
    walk_at "vc"
    refine w_isi S1.mh iu (by simp) ?_
    walk_at "vc"
    refine w_isi S1.mh iv (by simp) ?_
    walk_at "vc"
    refine ifnT rfl ?_
    walk_at "vc"
    refine w_isi S1.mh iu (by simp) ?_
    walk_at "vc"
    refine w_isi S1.mh iv (by simp) ?_
    walk_at "vc"
    refine ifdT rfl ?_
    cases d with
    | non => exact absurd rfl hn
    | bl c =>
      cases iu
      cases iv
      walk_at "vc"
      rw [decide_eq_true rfl]
      exact kk _ _ _ S1 rfl
    | int c =>
      cases iu
      cases iv
      walk_at "vc"
      rw [decide_eq_true rfl]
      exact kk _ _ _ S1 rfl
    | str c =>
      cases iu
      cases iv
      walk_at "vc"
      rw [decide_eq_true rfl]
      exact kk _ _ _ S1 rfl
    | lst ds => cases hs
    | tup ds => cases hs
    | dct => exact hd.elim
  | some ds =>
    obtain ⟨a, xs, rfl, ha, ia⟩ := iu.seq hs
    obtain ⟨b, ys, rfl, hb, ib⟩ := iv.seq hs
    walk_at "vc"
    refine w_isi S1.mh iu (by simp) ?_
    walk_at "vc"
    refine w_isi S1.mh iv (by simp) ?_
    walk_at "vc"
    refine ifnT rfl ?_
    walk_at "vc"
    refine w_isi S1.mh iu (by simp) ?_
    walk_at "vc"
    refine w_isi S1.mh iv (by simp) ?_
    walk_at "vc"
    refine ifnT rfl ?_
    walk_at "vc"
    refine ⟨a, xs, rfl, ha.mono S1.mh, ?_⟩
    walk_at "vc"
    refine ⟨b, ys, rfl, hb.mono S1.mh, ?_⟩
    rw [ia.len, ib.len]
    walk_at "vc"
    refine ifdT rfl ?_
    walk_at "vc"
    have hz : (H1 a = some (.lst xs) ∧ H1 b = some (.lst ys)) ∨ (H1 a = some (.tup xs) ∧ H1 b = some (.tup ys)) := by
      cases d with
      | lst es =>
        obtain ⟨a', xs', e1, h1, _⟩ := iu
        obtain ⟨b', ys', e2, h2, _⟩ := iv
        cases e1
        cases e2
        rw [ha.one (.inl h1), hb.one (.inl h2)]
        exact .inl ⟨S1.mh _ _ h1, S1.mh _ _ h2⟩
      | tup es =>
        obtain ⟨a', xs', e1, h1, _⟩ := iu
        obtain ⟨b', ys', e2, h2, _⟩ := iv
        cases e1
        cases e2
        rw [ha.one (.inr h1), hb.one (.inr h2)]
        exact .inr ⟨S1.mh _ _ h1, S1.mh _ _ h2⟩
      | _ => cases hs
    have hpl : ds.length ≤ 1000000 ∧ ∀ e ∈ ds, PL k e := by
      cases d with
      | lst es => cases hs; exact hd
      | tup es => cases hs; exact hd
      | _ => cases hs
    have hxl := ia.len
    refine w_zipV hz (by rw [ib.len, ia.len]) rfl rfl fun J G hG W => ?_
    refine lc_go (ex := no) W S1.mh (fun i acc _ => acc = (List.replicate i true).map V.bl) rfl (fun M' H' S => hG H' (fun o e => ha.keep S1.mh (S.mm.trans S.mh) o e) (fun o e => hb.keep S1.mh (S.mm.trans S.mh) o e)) ?_ ?_
    · rintro i y acc M2 H2 H2' D hi S2 hD m2 h2 rfl ⟨Tt, x1, y1, rfl, hT, rfl, hx1, hy1⟩
      obtain ⟨e, he, ie⟩ := ia.get hx1
      obtain ⟨e', he', ie'⟩ := ib.get hy1
      rw [he] at he'
      cases he'
      have S3 := S2.new (.tup [x1, y1]) hT
      have h3 := upd_old (u := HO.tup [x1, y1]) h2 hT
      walk_at "vc"
      refine ⟨rfl, ?_⟩
      generalize upd H2 Tt (.tup [x1, y1]) = H3 at S3 h3 ⊢
      refine w_yesI ?_
      walk_at "vc"
      refine ⟨x1, y1, e, rfl, hpl.2 e (mem_of_get he), M2, S3.mh, ie.mono S2.mm, ie'.mono S2.mm, ?_⟩
      rintro v4 M4 H4 S4 rfl
      obtain ⟨m4, h4⟩ := S4.keep m2 h3
      exact LcA.of hD (S3.trans S4) m4 h4 (by rw [List.length_map, List.length_replicate]; omega) (by rw [List.replicate_succ', List.map_append]; rfl)
    · rintro D acc M2 H2 hD S2 m2 h2 rfl
      walk_at "vc"
      refine ⟨D, _, rfl, h2, ?_⟩
      rw [all_yes]
      exact kk _ _ _ (S1.trans (S2.fix h2 hD)) rfl
theorem ok_l_same (T : Tx K mg) : Good P w K mg base CX0 5 (He.fAd K (He.DefD.at_ d_l_same)) p_l_same (sp_l_same 4) := okR_l_same T 4
end
end Nt
namespace Nt
section
variable {P : Program} {w : World} {K : PySem.W.Frag} {mg : Str → Option Value} {base : Heap}
abbrev prD (p : Str × Str) : Dat := .tup [.str p.1, .str p.2]
def sp_l_drawn_pairs : Sp := fun vs H Q _ => ∃ (b : Addr) (v : V) (full : List Str) (n : Nat), vs = [.ref b, v, .int n] ∧ 0 < full.length ∧ full.length < 1000000 ∧ n ≤ 1000 ∧ ∃ M, Same M H ∧ Bag M H b ∧ Is M (dS full) v ∧
  RetB b M H Q fun d => ∃ ps : List (Str × Str), d = .lst (ps.map prD) ∧ ps.length = n ∧ ∀ p ∈ ps, p.1 ∈ full ∧ p.2 ∈ full
theorem ok_l_drawn_pairs (T : Tx K mg) : Good P w K mg base CX0 3 (He.fAd K (He.DefD.at_ d_l_drawn_pairs)) p_l_drawn_pairs sp_l_drawn_pairs := by
  obtain ⟨fd, F⟩ := T.def_ 37 (d := d_l_drawn_pairs) rfl
  have g_l_pick : Good P w K mg base CX0 2 (He.fAd K (He.DefD.at_ d_l_pick)) p_l_pick sp_l_pick := ok_l_pick T
  refine good_of F sc_l_drawn_pairs (fun _ _ _ _ _ _ us hl => match us, hl with | [_, _, _], _ => rfl) (by intro vs H Q E h; (repeat obtain ⟨_, h⟩ := h); subst_vars; rfl) fun cdv A outer s H vs Q E hr h => ?_
  have hu := hu_of hr
  refine ⟨_, (pss_one (ps_ret (pe_lc (own := [("_law_turn", 3)]) (by rfl) sc_l_drawn_pairs.nd (pi_range1 (by rfl) T.b_range (pa_cons (pv 2) pa_nil)) (blkOk_by (own := [("_law_turn", 3)]) (N := n_l_drawn_pairs) (sc := He.DefD.scope d_l_drawn_pairs) (by decide +kernel)) (fun _ _ _ _ _ => (pg_name (i := 3) sc_l_drawn_pairs.nd rfl (Or.inl rfl) (Or.inr rfl))) (fun _ _ _ _ _ => pts_nil) (fun _ _ _ _ _ => (pe_tup (pa_cons (pe_good g_l_pick (hr.mono (by decide)) rfl T.m_l_pick (pa_cons (pv 0) (pa_cons (pv 1) pa_nil))) (pa_cons (pe_good g_l_pick (hr.mono (by decide)) rfl T.m_l_pick (pa_cons (pv 0) (pa_cons (pv 1) pa_nil))) pa_nil))))))), ?_⟩
  obtain ⟨b, v, full, n, rfl, h0, h1, hn, M, s0, B, iv, k⟩ := h
  obtain ⟨a, rfl, ha⟩ := id iv.strs
  walk_at "vc"
  refine w_r1 (n := n) (by omega) ?_
  rw [Int.toNat_natCast]
  refine lc_goB walkR s0 B (fun i acc M' => ∃ ps : List (Str × Str), ps.length = i ∧ (∀ p ∈ ps, p.1 ∈ full ∧ p.2 ∈ full) ∧ IsA M' (ps.map prD) acc) ⟨[], rfl, by simp, rfl⟩ (fun _ _ _ => trivial) ?_ ?_
  · rintro i v acc M1 H1 H1' D hi S1 B1 hD neD m1 h1 ⟨ps, hpl, hpm, ia⟩ ⟨rfl, rfl⟩
    walk_at "vc"
    refine ⟨rfl, ?_⟩
    walk_at "vc"
    refine ⟨b, _, full.map Dat.str, rfl, by rw [List.length_map]; exact h0, by rw [List.length_map]; assumption, M1, S1.mh, B1, (iv.mono S1.mm).q, ?_⟩
    rintro d2 v2 M2 H2 hd2 S2 B2 i2
    obtain ⟨x, hx, rfl⟩ := List.mem_map.mp hd2
    obtain rfl : v2 = .str x := i2
    obtain ⟨m2, h2⟩ := S2.keepB m1 h1 neD
    have S2' := S1.trans S2
    walk_at "vc"
    refine ⟨b, _, full.map Dat.str, rfl, by rw [List.length_map]; exact h0, by rw [List.length_map]; assumption, M2, S2.mh, B2, (iv.mono S2'.mm).q, ?_⟩
    rintro d3 v3 M3 H3 hd3 S3 B3 i3
    obtain ⟨y, hy, rfl⟩ := List.mem_map.mp hd3
    obtain rfl : v3 = .str y := i3
    obtain ⟨m3, h3⟩ := S3.keepB m2 h2 neD
    have S3' := S2'.trans S3
    walk_at "vc"
    intro T hT
    have S4 := S3'.lay (.tup [.str x, .str y]) hT
    have B4 := B3.lay (o := .tup [.str x, .str y]) S3.mh hT
    have neT : D ≠ T := fun q => by rw [← q, h3] at hT; cases hT
    have hal := ia.len
    rw [List.length_map] at hal
    refine LcB.of hD neD S4 B4 (by rw [upd_ne neT]; exact m3) (upd_old h3 hT) (by omega) ⟨ps ++ [(x, y)], by rw [List.length_append, hpl]; rfl, ?_, ?_⟩
    · intro p hp
      rcases List.mem_append.mp hp with z | z
      · exact hpm p z
      · rw [List.mem_singleton.mp z]; exact ⟨hx, hy⟩
    · rw [List.map_append]
      have mm : Same M1 (upd M3 T (.tup [.str x, .str y])) := (S2.mm.trans S3.mm).trans (same_new (none_of_same S3.mh hT))
      exact IsA.snoc (d := prD (x, y)) (show Is _ (prD (x, y)) _ from ⟨T, _, rfl, upd_same, .str x, [.str y], rfl, rfl, .str y, [], rfl, rfl, rfl⟩) (ia.mono mm)
  · rintro D acc M1 H1 hD neD S1 B1 m1 h1 ⟨ps, hpl, hpm, ia⟩
    have F := S1.fix h1 hD
    exact k _ _ _ _ ⟨ps, rfl, hpl, hpm⟩ F (B1.fix neD (.inl m1)) ⟨D, _, rfl, upd_same, ia.mono (same_new m1)⟩
end
end Nt
namespace Nt
section
variable {P : Program} {w : World} {K : PySem.W.Frag} {mg : Str → Option Value} {base : Heap}
theorem nodup_at {xs : List Str} {i j : Nat} {x : Str} (nd : xs.Nodup) (h : xs[i]? = some x) (g : xs[j]? = some x) : i = j := by
  obtain ⟨l1, e1⟩ := List.getElem?_eq_some_iff.mp h
  obtain ⟨l2, e2⟩ := List.getElem?_eq_some_iff.mp g
  have pw := List.pairwise_iff_getElem.mp nd
  rcases Nat.lt_trichotomy i j with t | t | t
  · exact absurd (e1.trans e2.symm) (pw i j l1 l2 t)
  · exact t
  · exact absurd (e2.trans e1.symm) (pw j i l2 l1 t)
def sp_l_by_signs : Sp := fun vs H Q _ => ∃ (u v : V) (full : List Str) (ps : List Nat), vs = [u, v] ∧ full.length ≤ 1000 ∧ ps.length ≤ 1000 ∧ (∀ r ∈ full, r.length ≤ 1000 ∧ ∀ p ∈ ps, p < r.length) ∧ ∃ M, Same M H ∧ Is M (dS full) u ∧ Is M (.lst (ps.map fun p => Dat.int (p : Nat))) v ∧
  ∀ gs : List (List Str), gs.flatten.Perm full → (∀ g ∈ gs, g ≠ []) → Ret M H Q (.lst (gs.map dS))
end
end Nt
namespace Nt
section
variable {P : Program} {w : World} {K : PySem.W.Frag} {mg : Str → Option Value} {base : Heap}
theorem kd_over (f : Str → V) (r : Str) (v : V) : ∀ xs : List Str, r ∈ xs → putK (kd f xs) (Sum.inr r) v = kd (fun x => if x = r then v else f x) xs := by
  intro xs hr
  unfold putK
  have hv : ((kd f xs).any fun kv => decide (kv.1 = Sum.inr r)) = true := by
    rw [valV_any, kd_val, if_pos hr]
    rfl
  rw [if_pos hv]
  unfold kd
  rw [List.map_map]
  refine List.map_congr_left fun x _ => ?_
  show (if (Sum.inr x : L2.Key) = Sum.inr r then _ else _) = _
  by_cases q : x = r
  · subst q
    simp
  · rw [if_neg (fun z => q (Sum.inr.inj z))]
    simp [q]
abbrev kdS (f : Str → Str) (full : List Str) : List (L2.Key × V) := kd (fun y => V.str (f y)) full
theorem kd_put1 {f : Str → Str} {full : List Str} {a b : Str} (h : a ∈ full) : putK (kdS f full) (Sum.inr a) (.str b) = kdS (put1 f a b) full := by
  rw [kd_over _ a _ full h]
  unfold kdS
  congr 1
  funext x
  by_cases z : x = a
  · simp [z]
  · simp [z]
theorem Is.prS {M : Hp} {p : Str × Str} {v : V} (h : Is M (prD p) v) : ∃ T, v = .ref T ∧ M T = some (.tup [.str p.1, .str p.2]) := by
  obtain ⟨a, vs, e, q, v1, r1, e1, q1, v2, r2, e2, q2, q3⟩ := h
  obtain rfl : v1 = V.str p.1 := q1
  obtain rfl : v2 = V.str p.2 := q2
  have : r2 = [] := q3
  subst this e2 e1
  exact ⟨a, e, q⟩
def sp_foremost : Sp := fun vs H Q _ => ∃ (d : Addr) (x : Str) (full : List Str) (f : Str → Str) (r : Str), vs = [.ref d, .str x] ∧ full.length ≤ 1000 ∧ Frs full f ∧ x ∈ full ∧ Up f x r ∧ ∃ M, Same M H ∧ M d = none ∧ H d = some (.dK (kdS f full)) ∧
  ∀ f' H', Stp (exB d) M H M H' → H' d = some (.dK (kdS f' full)) → Frs full f' → (∀ y ∈ full, ∀ s, Up f y s ↔ Up f' y s) → fixN full f' = fixN full f → Q (.str r) H'
theorem ok_foremost (T : Tx K mg) : Good P w K mg base CX0 1 (He.fAd K (He.DefD.at_ d_foremost)) p_foremost sp_foremost := by
  obtain ⟨fd, F⟩ := T.def_ 42 (d := d_foremost) rfl
  refine good_of F sc_foremost (fun _ _ _ _ _ _ us hl => match us, hl with | [_, _], _ => rfl) (by intro vs H Q E h; (repeat obtain ⟨_, h⟩ := h); subst_vars; rfl) fun cdv A outer s H vs Q E hr h => ?_
  have hu := hu_of hr
  refine ⟨_, (pss_cons (ps_set (i := 2) sc_foremost.nd rfl (Or.inl rfl) (pv 1))  (pss_cons (ps_while PassesOwn.never (pt_cmpR op_ne (pe_dget hu (pv 0) (pv 2) (fun _ _ => rfl)) (pv 2) (nomark _))  (pss_one (ps_set (i := 2) sc_foremost.nd rfl (Or.inl rfl) (pe_dget hu (pv 0) (pv 2) (fun _ _ => rfl)))))  (pss_cons (ps_while PassesOwn.never (pt_cmpR op_ne (pe_dget hu (pv 0) (pv 1) (fun _ _ => rfl)) (pv 2) (nomark _))  (pss_cons (ps_set (i := 3) sc_foremost.nd rfl (Or.inl rfl) (pe_dget hu (pv 0) (pv 1) (fun _ _ => rfl)))  (pss_cons (ps_dput hu (pv 0) (pv 1) (pv 2) rfl)  (pss_one (ps_set (i := 1) sc_foremost.nd rfl (Or.inl rfl) (pv 3))))))  (pss_one (ps_ret (pv 2)))))), ?_⟩
  obtain ⟨d, x, full, f, r, rfl, hfl, F, hx, ux, M, s0, md, hd, k⟩ := h
  walk_at "vc"
  let W : Nat → L2.St → Hp → Prop := fun m σ' H' => ∃ l, m = cnt full l ∧ σ' = [some (.ref d), some (.str x), some (.str l), none] ∧ H' = H ∧ l ∈ full ∧ Up f l r
  refine ⟨W, ⟨_, x, rfl, rfl, rfl, hx, ux⟩, ?_⟩
  rintro m σ1 H1 ⟨l, rfl, rfl, rfl, hl, ul⟩
  walk_at "vc"
  refine kd_get (f := fun y => V.str (f y)) hd hl ?_
  walk_at "vc"
  refine ifnd (fun q => ?_) (fun q => ?_)
  · have lt := (F.dn l hl).resolve_left q
    refine ⟨W (cnt full (f l)), fun σ' H' h => ⟨_, cnt_lt (F.inn l hl) lt, h⟩, ?_⟩
    walk_at "vc"
    refine kd_get (f := fun y => V.str (f y)) hd hl ?_
    walk_at "vc"
    refine ⟨f l, rfl, rfl, rfl, F.inn l hl, ?_⟩
    cases ul with
    | here e => exact absurd e q
    | step _ u => exact u
  · obtain rfl : l = r := (Up.here q).det ul
    walk_at "vc"
    let Z : Nat → L2.St → Hp → Prop := fun m σ' H' => ∃ (y : Str) (f' : Str → Str) (o3 : Option V), m = cnt full y ∧ σ' = [some (.ref d), some (.str y), some (.str l), o3] ∧ Stp (exB d) M H1 M H' ∧ H' d = some (.dK (kdS f' full)) ∧ Frs full f' ∧ (∀ z ∈ full, ∀ s, Up f z s ↔ Up f' z s) ∧ fixN full f' = fixN full f ∧ y ∈ full ∧ Up f' y l
    refine ⟨Z, ⟨_, x, f, none, rfl, rfl, Stp.refl s0, hd, F, fun _ _ _ => Iff.rfl, rfl, hx, ux⟩, ?_⟩
    rintro m σ2 H2 ⟨y, f', o3, rfl, rfl, S2, h2, F2, U2, X2, hy, uy⟩
    walk_at "vc"
    refine kd_get (f := fun y => V.str (f' y)) h2 hy ?_
    walk_at "vc"
    refine ifnd (fun q => ?_) (fun q => ?_)
    · have nx : f' y ≠ y := fun z => q (z.trans ((Up.here z).det uy))
      have lt := (F2.dn y hy).resolve_left nx
      refine ⟨Z (cnt full (f' y)), fun σ' H' h => ⟨_, cnt_lt (F2.inn y hy) lt, h⟩, ?_⟩
      walk_at "vc"
      refine kd_get (f := fun y => V.str (f' y)) h2 hy ?_
      walk_at "vc"
      refine ⟨d, _, rfl, DPut.k (k := Sum.inr y) h2 (by rw [kd_len]; exact line_lt (by omega)), ?_⟩
      rw [show putK (kd (fun y => V.str (f' y)) full) (Sum.inr y) (V.str l) = kdS (put1 f' y l) full from kd_put1 hy]
      have uf : Up f' (f' y) l := by
        cases uy with
        | here e => exact absurd e nx
        | step _ u => exact u
      walk_at "vc"
      refine ⟨f' y, put1 f' y l, _, rfl, rfl, S2.put _ md (.inr rfl), upd_same, F2.short hy uy, fun z hz s => (U2 z hz s).trans (Up.short' F2 hy nx uy hz), (fix_short nx uy).trans X2, F2.inn y hy, uy.short nx uf⟩
    · walk_at "vc"
      exact k f' H2 S2 h2 F2 U2 X2
end
end Nt
namespace Nt
end Nt
namespace Nt
section
variable {P : Program} {w : World} {K : PySem.W.Frag} {mg : Str → Option Value} {base : Heap}
def sp_l_odd : Sp := fun vs H Q _ => ∃ (b : Addr), vs = [.ref b] ∧ ∃ M, Same M H ∧ Bag M H b ∧ RetB b M H Q Sm
theorem ok_l_odd (T : Tx K mg) : Good P w K mg base CX0 3 (He.fAd K (He.DefD.at_ d_l_odd)) p_l_odd sp_l_odd := by
  obtain ⟨fd, F⟩ := T.def_ 25 (d := d_l_odd) rfl
  have g_l_pick : Good P w K mg base CX0 2 (He.fAd K (He.DefD.at_ d_l_pick)) p_l_pick sp_l_pick := ok_l_pick T
  refine good_of F sc_l_odd (fun _ _ _ _ _ _ us hl => match us, hl with | [_], _ => rfl) (by intro vs H Q E h; (repeat obtain ⟨_, h⟩ := h); subst_vars; rfl) fun cdv A outer s H vs Q E hr h => ?_
  have hu := hu_of hr
  refine ⟨_, (pss_cons (ps_set (i := 1) sc_l_odd.nd rfl (Or.inl rfl) (pe_lst (pa_cons pe_non (pa_cons pe_bl (pa_cons pe_bl (pa_cons pe_int (pa_cons (pe_un un_neg pe_int) (pa_cons pe_int (pa_cons pe_str (pa_cons pe_str (pa_cons pe_str (pa_cons pe_str (pa_cons pe_str (pa_cons pe_str (pa_cons pe_str (pa_cons (pe_lst pa_nil) (pa_cons (pe_tup pa_nil) (pa_cons pe_dnewK (pa_cons (pe_tup (pa_cons (pe_tup pa_nil) pa_nil)) (pa_cons (pe_op op_pow pe_int pe_int) pa_nil))))))))))))))))))))  (pss_cons (ps_set (i := 2) sc_l_odd.nd rfl (Or.inl rfl) (pe_lst (pa_cons (pe_lst (pa_cons pe_non pa_nil)) (pa_cons (pe_tup (pa_cons pe_str pa_nil)) (pa_cons (pe_disp (pps_cons pe_str pe_int pps_nil) (by rfl) (by rfl) (fun z => by cases z) (by decide)) (pa_cons (pe_lst (pa_cons (pe_lst pa_nil) pa_nil)) (pa_cons (pe_lst (pa_cons pe_str (pa_cons pe_str pa_nil))) (pa_cons (pe_tup (pa_cons pe_str (pa_cons pe_int pa_nil))) (pa_cons (pe_disp (pps_cons pe_int pe_str pps_nil) (by rfl) (by rfl) (fun z => by cases z) (by decide)) (pa_cons (pe_lst (pa_cons (pe_tup (pa_cons pe_str (pa_cons pe_bl pa_nil))) pa_nil)) (pa_cons (pe_disp (pps_cons pe_str (pe_lst (pa_cons pe_str pa_nil)) pps_nil) (by rfl) (by rfl) (fun z => by cases z) (by decide)) pa_nil)))))))))))  (pss_one (ps_ret (pe_good g_l_pick (hr.mono (by decide)) rfl T.m_l_pick (pa_cons (pv 0) (pa_cons (pe_op op_cat (pv 1) (pv 2)) pa_nil))))))), ?_⟩
  obtain ⟨b, rfl, M, s0, B, k⟩ := h
  have S := Stp.refl (ex := exB b) s0
  have kk : KA M [] := KA.nil
  walk_at "vc"
  intro p1 hp
  generalize hH : upd _ p1 _ = H'
  obtain ⟨M', S', B', mm, e1, k', fr, kv⟩ := ka_lst S B kk hH (Nat.le_of_ble_eq_true rfl) (by simp [Atom]) hp
  clear kk S B
  have kk := k'
  have S := S'
  have B := B'
  clear k' S' B' mm hp hH
  try clear fr kv
  walk_at "vc"
  intro p2 hp
  generalize hH : upd _ p2 _ = H'
  obtain ⟨M', S', B', mm, e2, k', fr, kv⟩ := ka_tup S B kk hH (Nat.le_of_ble_eq_true rfl) (by simp [Atom]) hp
  clear kk S B
  have kk := k'
  have S := S'
  have B := B'
  clear k' S' B' mm hp hH
  try clear fr kv
  walk_at "vc"
  intro p3 hp
  generalize hH : upd _ p3 _ = H'
  obtain ⟨M', S', B', mm, k'⟩ := ka_dnew S B kk hH hp
  clear kk S B
  have kk := k'
  have S := S'
  have B := B'
  clear k' S' B' mm hp hH
  try clear fr kv
  walk_at "vc"
  intro p4 hp
  generalize hH : upd _ p4 _ = H'
  obtain ⟨M', S', B', mm, e4, k', fr, kv⟩ := ka_tup S B kk hH (Nat.le_of_ble_eq_true rfl) (by simp [Atom]) hp
  clear kk S B
  have kk := k'
  have S := S'
  have B := B'
  clear k' S' B' mm hp hH
  try clear fr kv
  walk_at "vc"
  intro p5 hp
  generalize hH : upd _ p5 _ = H'
  obtain ⟨M', S', B', mm, e5, k', fr, kv⟩ := ka_tup S B kk hH (Nat.le_of_ble_eq_true rfl) (by simp [Atom]) hp
  clear kk S B
  have kk := k'
  have S := S'
  have B := B'
  clear k' S' B' mm hp hH
  try clear fr kv
  walk_at "vc"
  intro p6 hp
  generalize hH : upd _ p6 _ = H'
  obtain ⟨M', S', B', mm, e6, k', fr, kv⟩ := ka_lst S B kk hH (Nat.le_of_ble_eq_true rfl) (by simp [Atom]) hp
  clear kk S B
  have kk := k'
  have S := S'
  have B := B'
  clear k' S' B' mm hp hH
  try clear fr kv
  walk_at "vc"
  intro p7 hp
  generalize hH : upd _ p7 _ = H'
  obtain ⟨M', S', B', mm, e7, k', fr, kv⟩ := ka_lst S B kk hH (Nat.le_of_ble_eq_true rfl) (by simp [Atom]) hp
  have e6 := mm _ _ e6
  clear kk S B
  have kk := k'
  have S := S'
  have B := B'
  clear k' S' B' mm hp hH
  try clear fr kv
  walk_at "vc"
  intro p8 hp
  generalize hH : upd _ p8 _ = H'
  obtain ⟨M', S', B', mm, e8, k', fr, kv⟩ := ka_tup S B kk hH (Nat.le_of_ble_eq_true rfl) (by simp [Atom]) hp
  have e6 := mm _ _ e6
  clear kk S B
  have kk := k'
  have S := S'
  have B := B'
  clear k' S' B' mm hp hH
  try clear fr kv
  walk_at "vc"
  intro p9 hp
  generalize hH : upd _ p9 _ = H'
  obtain ⟨S', B', h0', mp, hq, ne⟩ := ka_d0 S B hH hp
  clear S B hH
  have S := S'
  have B := B'
  clear S' B' hp
  refine w_one ?_
  walk_at "vc"
  refine ⟨h0', [(Sum.inr (Str.ofString "a"), V.int 1)], rfl, Nat.le_of_ble_eq_true rfl, ?_⟩
  generalize hH : upd _ p9 _ = H'
  obtain ⟨M', S', B', mm, k'⟩ := ka_d1 S B kk hH mp hq ne
  have e6 := mm _ _ e6
  clear kk S B h0'
  have kk := k'
  have S := S'
  have B := B'
  clear k' S' B' mm mp hq ne hH
  walk_at "vc"
  intro p10 hp
  generalize hH : upd _ p10 _ = H'
  obtain ⟨M', S', B', mm, e10, k', fr, kv⟩ := ka_lst S B kk hH (Nat.le_of_ble_eq_true rfl) (by simp [Atom]) hp
  have e6 := mm _ _ e6
  clear kk S B
  have kk := k'
  have S := S'
  have B := B'
  clear k' S' B' mm hp hH
  try clear fr kv
  walk_at "vc"
  intro p11 hp
  generalize hH : upd _ p11 _ = H'
  obtain ⟨M', S', B', mm, e11, k', fr, kv⟩ := ka_lst S B kk hH (Nat.le_of_ble_eq_true rfl) (by simp [Atom]) hp
  have e6 := mm _ _ e6
  clear kk S B
  have kk := k'
  have S := S'
  have B := B'
  clear k' S' B' mm hp hH
  try clear fr kv
  walk_at "vc"
  intro p12 hp
  generalize hH : upd _ p12 _ = H'
  obtain ⟨M', S', B', mm, e12, k', fr, kv⟩ := ka_lst S B kk hH (Nat.le_of_ble_eq_true rfl) (by simp [Atom]) hp
  have e6 := mm _ _ e6
  clear kk S B
  have kk := k'
  have S := S'
  have B := B'
  clear k' S' B' mm hp hH
  try clear fr kv
  walk_at "vc"
  intro p13 hp
  generalize hH : upd _ p13 _ = H'
  obtain ⟨M', S', B', mm, e13, k', fr, kv⟩ := ka_tup S B kk hH (Nat.le_of_ble_eq_true rfl) (by simp [Atom]) hp
  have e6 := mm _ _ e6
  clear kk S B
  have kk := k'
  have S := S'
  have B := B'
  clear k' S' B' mm hp hH
  try clear fr kv
  walk_at "vc"
  intro p14 hp
  generalize hH : upd _ p14 _ = H'
  obtain ⟨S', B', h0', mp, hq, ne⟩ := ka_d0 S B hH hp
  clear S B hH
  have S := S'
  have B := B'
  clear S' B' hp
  refine w_one ?_
  walk_at "vc"
  refine ⟨h0', [(Sum.inl 0, V.str (Str.ofString "0"))], rfl, Nat.le_of_ble_eq_true rfl, ?_⟩
  generalize hH : upd _ p14 _ = H'
  obtain ⟨M', S', B', mm, k'⟩ := ka_d1 S B kk hH mp hq ne
  have e6 := mm _ _ e6
  clear kk S B h0'
  have kk := k'
  have S := S'
  have B := B'
  clear k' S' B' mm mp hq ne hH
  walk_at "vc"
  intro p15 hp
  generalize hH : upd _ p15 _ = H'
  obtain ⟨M', S', B', mm, e15, k', fr, kv⟩ := ka_tup S B kk hH (Nat.le_of_ble_eq_true rfl) (by simp [Atom]) hp
  have e6 := mm _ _ e6
  clear kk S B
  have kk := k'
  have S := S'
  have B := B'
  clear k' S' B' mm hp hH
  try clear fr kv
  walk_at "vc"
  intro p16 hp
  generalize hH : upd _ p16 _ = H'
  obtain ⟨M', S', B', mm, e16, k', fr, kv⟩ := ka_lst S B kk hH (Nat.le_of_ble_eq_true rfl) (by simp [Atom]) hp
  have e6 := mm _ _ e6
  clear kk S B
  have kk := k'
  have S := S'
  have B := B'
  clear k' S' B' mm hp hH
  try clear fr kv
  walk_at "vc"
  intro p17 hp
  generalize hH : upd _ p17 _ = H'
  obtain ⟨S', B', h0', mp, hq, ne⟩ := ka_d0 S B hH hp
  clear S B hH
  have S := S'
  have B := B'
  clear S' B' hp
  refine w_one ?_
  walk_at "vc"
  intro p18 hp
  generalize hH : upd _ p18 _ = H'
  have h1' := upd_old (u := HO.lst [V.str (Str.ofString "x")]) h0' hp
  have ne' : p17 ≠ p18 := fun z => by rw [← z, h0'] at hp; cases hp
  obtain ⟨M', S', B', mm, e18, k', fr, kv⟩ := ka_lst S B kk hH (Nat.le_of_ble_eq_true rfl) (by simp [Atom]) hp
  rw [hH] at h1'
  have mp := (fr _ ne').trans mp
  clear h0'
  have h0' := h1'
  have e6 := mm _ _ e6
  clear kk S B
  have kk := k'
  have S := S'
  have B := B'
  clear k' S' B' mm hp hH
  try clear fr kv
  walk_at "vc"
  refine ⟨h0', [(Sum.inr (Str.ofString "0."), V.ref p18)], rfl, Nat.le_of_ble_eq_true rfl, ?_⟩
  generalize hH : upd _ p17 _ = H'
  obtain ⟨M', S', B', mm, k'⟩ := ka_d1 S B kk hH mp hq ne
  have e6 := mm _ _ e6
  clear kk S B h0'
  have kk := k'
  have S := S'
  have B := B'
  clear k' S' B' mm mp hq ne hH
  walk_at "vc"
  intro p19 hp
  generalize hH : upd _ p19 _ = H'
  obtain ⟨M', S', B', mm, e19, k', fr, kv⟩ := ka_lst S B kk hH (Nat.le_of_ble_eq_true rfl) (by simp [Atom]) hp
  have e6 := mm _ _ e6
  clear kk S B
  have kk := k'
  have S := S'
  have B := B'
  clear k' S' B' mm hp hH
  try clear fr kv
  walk_at "vc"
  refine ⟨p6, p19, _, _, rfl, rfl, S.mh _ _ e6, S.mh _ _ e19, Nat.le_trans (Nat.le_of_ble_eq_true (m := 100) rfl) (by decide), ?_⟩
  intro p20 hp
  generalize hH : upd _ p20 _ = H'
  obtain ⟨M', S', B', mm, e20, k', fr, kv⟩ := ka_lst S B kk hH (Nat.le_of_ble_eq_true rfl) (by simp [Atom]) hp
  obtain ⟨ds, ia, hd⟩ := kv.kids
  have hl := ia.len
  walk_at "vc"
  refine ⟨b, _, ds, rfl, by rw [← hl]; exact Nat.le_of_ble_eq_true rfl, by rw [← hl]; exact Nat.lt_of_le_of_lt (Nat.le_of_ble_eq_true (m := 100) rfl) (by decide), M', S'.mh, B', ⟨p20, _, rfl, .inl e20, ia⟩, ?_⟩
  exact fun d v M2 H2 hm S2 B2 i2 => k d v M2 H2 (hd d hm) (S'.trans S2) B2 i2
end
end Nt
namespace Nt
section
variable {P : Program} {w : World} {K : PySem.W.Frag} {mg : Str → Option Value} {base : Heap}
theorem line200 {n : Nat} (h : n ≤ 400) : n ≤ sizeLine := Nat.le_trans h (by decide)
def sp_l_bent_lumps : Sp := fun vs H Q _ => ∃ (b : Addr) (u v x : V) (full rows : List Str) (gs : List (List Str)), vs = [.ref b, u, v, x] ∧ 0 < full.length ∧ full.length ≤ 40 ∧ 0 < rows.length ∧ rows.length ≤ 40 ∧ 0 < gs.length ∧ gs.length ≤ 40 ∧ (∀ g ∈ gs, g.length ≤ 40) ∧ (∀ r ∈ full, r.length ≤ 100) ∧
  ∃ M, Same M H ∧ Bag M H b ∧ Is M (dS full) u ∧ Is M (dS rows) v ∧ Is M (lumpsD gs) x ∧ RetB b M H Q Sm
end
end Nt
namespace Nt
section
variable {P : Program} {w : World} {K : PySem.W.Frag} {mg : Str → Option Value} {base : Heap}
theorem grp_few : ∀ gs : List (List Str), (∀ g ∈ gs, g ≠ []) → gs.length ≤ gs.flatten.length := by
  intro gs
  induction gs with
  | nil => intro _; exact Nat.le_refl _
  | cons g gs ih =>
    intro hne
    have h1 := ih fun x hx => hne x (List.mem_cons_of_mem _ hx)
    have h2 : 1 ≤ g.length := List.length_pos_iff.mpr (hne g List.mem_cons_self)
    rw [List.flatten_cons, List.length_append, List.length_cons]
    omega
abbrev isLps (full : List Str) (d : Dat) : Prop := ∃ gs : List (List Str), d = lumpsD gs ∧ gs.flatten.Perm full ∧ ∀ g ∈ gs, g ≠ []
def sp_l_drawn_lumps : Sp := fun vs H Q _ => ∃ (b : Addr) (n : Nat) (u v : V) (seeds full : List Str), vs = [.ref b, .int n, u, v] ∧ n ≤ 1000 ∧ 0 < full.length ∧ full.length ≤ 40 ∧ full.Nodup ∧ okS full ∧ seeds.length ≤ 100 ∧ (∀ s ∈ seeds, s.length ≤ 1000) ∧ (∀ s ∈ seeds, ∀ r ∈ full, ovr s r ∈ full) ∧ (∀ r ∈ full, r.length ≤ 1000 ∧ n ≤ r.length) ∧
  ∃ M, Same M H ∧ Bag M H b ∧ Is M (dS seeds) u ∧ Is M (dS full) v ∧ RetB b M H Q (isLps full)
end
end Nt
namespace Nt
section
variable {P : Program} {w : World} {K : PySem.W.Frag} {mg : Str → Option Value} {base : Heap}
/-- what holds of the full rows and the seeds of a band -/
structure FlOk (seeds full : List Str) : Prop where
  nd : full.Nodup
  so : sortedS full = true
  cl : ∀ s ∈ seeds, ∀ r ∈ full, ovr s r ∈ full
  ok : okS full
  ln : full.length ≤ 40
  sl : ∀ s ∈ seeds, s.length ≤ 100
  sn : seeds.length ≤ 100
theorem FlOk.lp {seeds full : List Str} (h : FlOk seeds full) {gs : List (List Str)} (p : gs.flatten.Perm full) : LpOk gs seeds full := ⟨p, h.nd, h.so, h.cl, h.ok, h.ln, h.sl, h.sn⟩
theorem pl_brk (res : Option (Str × Str × Str)) : PL 3 (brkD res) := by
  cases res with
  | none => trivial
  | some r =>
    obtain ⟨a, b, c⟩ := r
    refine ⟨Nat.le_of_ble_eq_true rfl, fun d hd => ?_⟩
    simp only [List.mem_cons, List.not_mem_nil, or_false] at hd
    rcases hd with rfl | rfl | rfl <;> trivial
def sp_l_asked (C : Addr) : Sp := fun vs H Q _ => ∃ (a : Addr) (u v x : V) (cs : Cells) (seeds rows : List Str) (d : Dat), vs = [.ref a, u, v, x] ∧ rows.length ≤ 1000 ∧ FlOk seeds (fullS rows) ∧ Sm d ∧ ∃ M, Same M H ∧ BandO C M cs seeds rows a ∧ Is M (dS seeds) u ∧ Is M (dS (fullS rows)) v ∧ Is M d x ∧ Ret M H Q (.bl true)
end
end Nt
namespace Nt
section
variable {P : Program} {w : World} {K : PySem.W.Frag} {mg : Str → Option Value} {base : Heap}
theorem lumpsOf_map : ∀ gs : List (List Str), lumpsOf (gs.map dS) = some gs
  | [] => rfl
  | g :: gs => by
    rw [List.map_cons, lumpsOf, lumpsOf_map gs]
    show (match (some (g.map Dat.str)).bind txts, some gs with | some g, some gs => some (g :: gs) | _, _ => none) = _
    rw [Option.bind_some, txts_map]
theorem pl_ints (n : Nat) (p : Int) (h : n ≤ 1000000) : PL 4 (.lst (List.replicate n (.int p))) := ⟨by rw [List.length_replicate]; exact h, fun d hd => by rw [(List.mem_replicate.mp hd).2]; trivial⟩
theorem isa_rep {M : Hp} (p : Int) : ∀ n : Nat, IsA M (List.replicate n (Dat.int p)) (List.replicate n (V.int p))
  | 0 => rfl
  | n + 1 => ⟨.int p, List.replicate n (.int p), rfl, rfl, isa_rep p n⟩
def sp_l_holding_right : Sp := fun vs H Q _ => ∃ (b : Addr) (u x : V) (rows : List Str) (gs : List (List Str)), vs = [.ref b, u, x] ∧ rows.length < 1000000 ∧ gs.flatten.Nodup ∧ gs.flatten.length ≤ 1000 ∧ gs.length ≤ 1000 ∧ (∀ g ∈ gs, g ≠ []) ∧ (∀ r ∈ rows, r.length ≤ 1000 ∧ ∀ o ∈ gs.flatten, ovr r o ∈ gs.flatten) ∧
  (∀ r ∈ rows, ∀ g ∈ gs, ∀ o ∈ g, ∀ o' ∈ g, plc gs (ovr r o) = plc gs (ovr r o')) ∧
  ∃ M, Same M H ∧ Bag M H b ∧ Is M (dS rows) u ∧ Is M (lumpsD gs) x ∧ RetB b M H Q (· = .bl true)
end
end Nt
namespace Nt
section
variable {P : Program} {w : World} {K : PySem.W.Frag} {mg : Str → Option Value} {base : Heap}
abbrev M00 : Hp := fun _ => none
def sp_l_start (K : PySem.W.Frag) : Sp := fun vs H Q _ => ∃ (a : Addr) (ns : List Int), vs = [.ref a] ∧ SqL K H a (ns.map V.int) ∧ ns.length ≤ 1000 ∧ ∀ b M' H', Stp no M00 H M' H' → Bag M' H' b → Q (.ref b) H'
theorem ok_l_start (T : Tx K mg) : Good P w K mg base CX0 1 (He.fAd K (He.DefD.at_ d_l_start)) p_l_start (sp_l_start K) := by
  obtain ⟨fd, F⟩ := T.def_ 21 (d := d_l_start) rfl
  refine good_of F sc_l_start (fun _ _ _ _ _ _ us hl => match us, hl with | [_], _ => rfl) (by intro vs H Q E h; (repeat obtain ⟨_, h⟩ := h); subst_vars; rfl) fun cdv A outer s H vs Q E hr h => ?_
  have hu := hu_of hr
  refine ⟨_, (pss_cons (ps_set (i := 1) sc_l_start.nd rfl (Or.inl rfl) pe_int)  (pss_cons (ps_for PassesOwn.never rfl (iq_list K (pe_slice sl_list (pv 0) po_none (po_some pe_int))) (pg_name (i := 2) sc_l_start.nd rfl (Or.inl rfl) (Or.inl rfl))  (pss_one (ps_set (i := 1) sc_l_start.nd rfl (Or.inl rfl) (pe_op op_modN (pe_callTy call_int1 (by rfl) T.b_int (by decide +kernel) (pa_cons (pe_op op_add (pe_op op_add (pe_op op_mul (pv 1) pe_int) (pe_op op_modN (pe_callTy call_int1 (by rfl) T.b_int (by decide +kernel) (pa_cons (pv 2) pa_nil)) pe_int)) pe_int) pa_nil)) pe_int))))  (pss_one (ps_ret (pe_lst (pa_cons (pe_callTy cq_list (by rfl) T.b_list (by decide +kernel) (pa_cons (pe_slice sl_list (pv 0) po_none (po_some pe_int)) pa_nil)) (pa_cons pe_int (pa_cons pe_int (pa_cons (pv 1) (pa_cons pe_int pa_nil)))))))))), ?_⟩
  obtain ⟨a, ns, rfl, ha, hl, k⟩ := h
  have S0 := Stp.refl (ex := no) (M := M00) (H := H) (fun a o e => by cases e)
  walk_at "vc"
  have e : cutV (ns.map V.int) none (some 63) = (ns.take 63).map V.int := by rw [show (63 : Int) = ((63 : Nat) : Int) from rfl, cutV_to, List.map_take]
  refine ⟨a, _, rfl, ha, fun p hp => ?_⟩
  rw [e]
  generalize ns.take 63 = ms at e
  have S1 := S0.lay (.lst (ms.map V.int)) hp
  have hM1 : upd M00 p (.lst (ms.map V.int)) p = some (.lst (ms.map V.int)) := upd_same
  generalize upd M00 p (.lst (ms.map V.int)) = M1 at S1 hM1
  generalize upd H p (.lst (ms.map V.int)) = H1 at S1 ⊢
  refine ⟨p, rfl, ⟨_, SqL.of (S1.mh _ _ hM1)⟩, ?_⟩
  refine fo_go walkL (fun i σ' H' => ∃ (o : Option V) (m : Int), σ' = [some (.ref a), some (.int m), o] ∧ 0 ≤ m ∧ m < 2147483629 ∧ Stp no M00 H M1 H') ⟨_, _, rfl, by decide, by decide, S1⟩ (fun _ _ _ _ ⟨_, _, _, _, _, S⟩ => S.mh _ _ hM1) ?_ ?_
  · rintro i y σ2 H2 H2' hi ⟨o, m, rfl, h0, h1, S2⟩ ⟨rfl, hy⟩
    obtain ⟨x, hx, rfl⟩ := map_at hy
    walk_at "vc"
    have f1 := Int.fmod_nonneg_of_pos (m * 48397 + x.fmod 2147483549 + 53) (show (0 : Int) < 2147483629 by decide)
    have f2 := Int.fmod_lt_of_pos (m * 48397 + x.fmod 2147483549 + 53) (show (0 : Int) < 2147483629 by decide)
    exact ⟨_, _, rfl, f1, f2, S2⟩
  · rintro σ2 H2 ⟨o, m, rfl, h0, h1, S2⟩
    walk_at "vc"
    refine ⟨a, _, rfl, Same.seq S2.same ha, fun p2 hp2 => ?_⟩
    rw [e]
    have S3 := S2.new (.lst (ms.map V.int)) hp2
    walk_at "vc"
    refine ⟨p2, _, rfl, .inl upd_same, fun p3 hp3 => ?_⟩
    have S4 := S3.lay (.lst (ms.map V.int)) hp3
    have hM4 : upd M1 p3 (.lst (ms.map V.int)) p3 = some (.lst (ms.map V.int)) := upd_same
    generalize upd M1 p3 (.lst (ms.map V.int)) = M4 at S4 hM4
    generalize upd (upd H2 p2 (.lst (ms.map V.int))) p3 (.lst (ms.map V.int)) = H4 at S4 ⊢
    walk_at "vc"
    intro b hb
    exact k _ _ _ (S4.new _ hb) ⟨S4.mfree hb, p3, ms, 0, 0, m, 0, upd_same, hM4, Int.le_refl _, Int.le_refl _, h0, h1⟩
end
end Nt
namespace Nt
section
/-! ### the maths of a band's full rows -/
theorem zip_assoc : ∀ a b c : List Nat, (((a.zip b).map ovN).zip c).map ovN = (a.zip ((b.zip c).map ovN)).map ovN
  | [], _, _ => by simp
  | _ :: _, [], _ => by simp
  | _ :: _, _ :: _, [] => by simp
  | x :: a, y :: b, z :: c => by
    have ih := zip_assoc a b c
    simp only [List.zip_cons_cons, List.map_cons]
    rw [ih]
    congr 1
    unfold ovN
    by_cases h : x = 46
    · simp [h]
    · simp [h]
theorem ovr_assoc (a b c : Str) : ovr (ovr a b) c = ovr a (ovr b c) := by
  apply sl_inj
  rw [ovr_sl, ovr_sl, ovr_sl, ovr_sl, zip_assoc]
theorem zip_blk : ∀ (n : Nat) (l : List Nat), l.length = n → ((List.replicate n 46).zip l).map ovN = l
  | 0, l, h => by rw [List.length_eq_zero_iff.mp h]; rfl
  | n + 1, [], h => by simp at h
  | n + 1, x :: l, h => by
    rw [List.replicate_succ, List.zip_cons_cons, List.map_cons, zip_blk n l (by simpa using h)]
    rfl
theorem ovr_blk {n : Nat} {o : Str} (h : o.length = n) : ovr (blk n) o = o := by
  apply sl_inj
  rw [ovr_sl, blk_sl]
  exact zip_blk n (sl o) (by rw [← len_sl]; exact h)
theorem nodot_iff {x : Str} : nodot x = true ↔ 46 ∉ sl x := by
  unfold nodot
  simp
theorem zip_nodot {a b : List Nat} (hb : 46 ∉ b) : 46 ∉ (a.zip b).map ovN := by
  intro h
  obtain ⟨p, hp, e⟩ := List.mem_map.mp h
  have h2 := List.of_mem_zip hp
  unfold ovN at e
  split at e
  · exact hb (e ▸ h2.2)
  · exact absurd e ‹_›
theorem mem_full {rows : List Str} {x : Str} : x ∈ fullS rows ↔ x ∈ rows ∧ 46 ∉ sl x := by
  unfold fullS
  rw [List.mem_filter, nodot_iff]
theorem rising_of {x : Str} : ∀ {ys : List Str} {x : Str}, (∀ y ∈ ys, ¬ Lt y x) → (ys.Pairwise fun a b => ¬ Lt b a) → risingS x ys = true
  | [], x, _, _ => rfl
  | y :: ys, x, h, p => by
    obtain ⟨p1, p2⟩ := List.pairwise_cons.mp p
    rw [risingS, Bool.and_eq_true, Bool.not_eq_true', ltCps_eq, decide_eq_false_iff_not]
    exact ⟨h y List.mem_cons_self, rising_of (x := y) p1 p2⟩
theorem sorted_of : ∀ {ys : List Str}, (ys.Pairwise fun a b => ¬ Lt b a) → sortedS ys = true
  | [], _ => rfl
  | x :: ys, p => by
    obtain ⟨p1, p2⟩ := List.pairwise_cons.mp p
    exact rising_of (x := x) p1 p2
section
variable {cs : Cells} {seeds rows : List Str} (h : BandOk cs seeds rows)
include h
theorem BandOk.mem {x : Str} : x ∈ rows ↔ x ∈ itB seeds (blk cs.length) 41 := h.pm.mem_iff
theorem BandOk.row {x : Str} (hx : x ∈ rows) : RowOk cs x := rows_all h.so.rw 41 x (h.mem.mp hx)
theorem BandOk.len : rows.length ≤ 40 := by rw [h.pm.length_eq]; exact h.le
theorem BandOk.cl {x s : Str} (hx : x ∈ rows) (hs : s ∈ seeds) : ovr s x ∈ rows :=
  h.mem.mpr (itB_closed (by have := h.le; omega) (h.mem.mp hx) hs)
theorem BandOk.clf {x s : Str} (hx : x ∈ fullS rows) (hs : s ∈ seeds) : ovr s x ∈ fullS rows := by
  obtain ⟨h1, h2⟩ := mem_full.mp hx
  refine mem_full.mpr ⟨h.cl h1 hs, ?_⟩
  rw [ovr_sl]
  exact zip_nodot h2
theorem BandOk.fl : FlOk seeds (fullS rows) := by
  have h5 := h.c5
  have hlen := h.len
  have hsn := h.so.ln
  refine ⟨List.Nodup.sublist List.filter_sublist (h.pm.nodup_iff.mpr (itB_nd 41)), sorted_of (List.Pairwise.filter _ (sorted_pw h.sd)), fun s hs r hr => h.clf hr hs, fun x hx => row_ok h.co (h.row (mem_full.mp hx).1), ?_, fun s hs => ?_, by omega⟩
  · exact Nat.le_trans (List.length_filter_le _ _) hlen
  · rw [row_len (h.so.rw s hs)]; omega
/-- each row of the band leads full rows into full rows -/
theorem BandOk.lead {r : Str} (hr : r ∈ rows) : ∀ o ∈ fullS rows, ovr r o ∈ fullS rows := by
  refine itB_all (seeds := seeds) (z := blk cs.length) (P := fun r => ∀ o ∈ fullS rows, ovr r o ∈ fullS rows) (fun o ho => ?_) (fun x hx s hs o ho => ?_) 41 r (h.mem.mp hr)
  · rw [ovr_blk (row_len (h.row (mem_full.mp ho).1))]
    exact ho
  · rw [ovr_assoc]
    exact h.clf (hx o ho) hs
/-- there is a full row -/
theorem BandOk.some : 0 < (fullS rows).length := by
  have key : ∀ l : List Str, (∀ s ∈ l, s ∈ seeds) → ∃ x ∈ rows, ∀ i, i < cs.length → (∃ s ∈ l, ∃ c, (sl s)[i]? = Option.some c ∧ c ≠ 46) → ∃ c, (sl x)[i]? = Option.some c ∧ c ≠ 46 := by
    intro l
    induction l with
    | nil => exact fun _ => ⟨blk cs.length, h.mem.mpr (itB_first 41), fun i hi ⟨s, hs, _⟩ => by cases hs⟩
    | cons s l ih =>
      intro hl
      obtain ⟨x, hx, hi⟩ := ih fun t ht => hl t (List.mem_cons_of_mem _ ht)
      have hs := hl s List.mem_cons_self
      refine ⟨ovr s x, h.cl hx hs, fun i hic => ?_⟩
      have l1 := (h.so.rw s hs).1
      have l2 := (h.row hx).1
      have e1 := List.getElem?_eq_getElem (show i < (sl s).length by omega)
      have e2 := List.getElem?_eq_getElem (show i < (sl x).length by omega)
      have e3 : (sl (ovr s x))[i]? = Option.some (ovN ((sl s)[i], (sl x)[i])) := by
        have e4 : ((sl s).zip (sl x))[i]? = Option.some ((sl s)[i], (sl x)[i]) := List.getElem?_zip_eq_some.mpr ⟨e1, e2⟩
        rw [ovr_sl, List.getElem?_map, e4]
        rfl
      rintro ⟨t, ht, c, h1, h2⟩
      refine ⟨_, e3, ?_⟩
      unfold ovN
      by_cases q : (sl s)[i] = 46
      · rw [if_pos q]
        rcases List.mem_cons.mp ht with z | z
        · subst z
          rw [e1] at h1
          cases h1
          exact absurd q h2
        · obtain ⟨d, h3, h4⟩ := hi i hic ⟨t, z, c, h1, h2⟩
          rw [e2] at h3
          cases h3
          exact h4
      · rw [if_neg q]; exact q
  obtain ⟨x, hx, hi⟩ := key seeds fun s hs => hs
  refine List.length_pos_iff_exists_mem.mpr ⟨x, mem_full.mpr ⟨hx, fun hm => ?_⟩⟩
  obtain ⟨i, e⟩ := List.getElem?_of_mem hm
  have hl := lt_of_get e
  rw [(h.row hx).1] at hl
  obtain ⟨c, h1, h2⟩ := hi i hl (h.so.td i hl)
  rw [e] at h1
  cases h1
  exact h2 rfl
end
theorem plc_same {gs : List (List Str)} (nd : gs.flatten.Nodup) {g : List Str} (hg : g ∈ gs) {o o' : Str} (h : o ∈ g) (h' : o' ∈ g) : plc gs o = plc gs o' := by
  obtain ⟨k, hk⟩ := List.getElem?_of_mem hg
  rw [plc_at nd (mem_get hk h), plc_at nd (mem_get hk h')]
/-- where no seed breaks the lumps, no row does -/
theorem BandOk.hold {cs : Cells} {seeds rows : List Str} (h : BandOk cs seeds rows) {gs : List (List Str)} (pm : gs.flatten.Perm (fullS rows)) (hb : BrkIs gs seeds (fullS rows) none) {r : Str} (hr : r ∈ rows) :
    ∀ g ∈ gs, ∀ o ∈ g, ∀ o' ∈ g, plc gs (ovr r o) = plc gs (ovr r o') := by
  have nd : gs.flatten.Nodup := pm.nodup_iff.mpr h.fl.nd
  have inF : ∀ g ∈ gs, ∀ o ∈ g, o ∈ fullS rows := fun g hg o ho => pm.mem_iff.mp (List.mem_flatten.mpr ⟨g, hg, ho⟩)
  have grp : ∀ o ∈ fullS rows, ∀ o' ∈ fullS rows, plc gs o = plc gs o' → ∃ g ∈ gs, o ∈ g ∧ o' ∈ g := by
    intro o ho o' ho' e
    obtain ⟨_, _, h1, h2⟩ := plc_has (pm.mem_iff.mpr ho)
    obtain ⟨_, _, _, h4⟩ := plc_has (pm.mem_iff.mpr ho')
    rw [← e] at h4
    exact ⟨_, (mem_getD h2).2.1, h2, h4⟩
  refine itB_all (seeds := seeds) (z := blk cs.length) (P := fun r => (∀ o ∈ fullS rows, ovr r o ∈ fullS rows) ∧ ∀ g ∈ gs, ∀ o ∈ g, ∀ o' ∈ g, plc gs (ovr r o) = plc gs (ovr r o')) ⟨fun o ho => ?_, fun g hg o ho o' ho' => ?_⟩ (fun x hx s hs => ⟨fun o ho => ?_, fun g hg o ho o' ho' => ?_⟩) 41 r (h.mem.mp hr) |>.2
  · rw [ovr_blk (row_len (h.row (mem_full.mp ho).1))]; exact ho
  · rw [ovr_blk (row_len (h.row (mem_full.mp (inF g hg o ho)).1)), ovr_blk (row_len (h.row (mem_full.mp (inF g hg o' ho')).1))]
    exact plc_same nd hg ho ho'
  · rw [ovr_assoc]; exact h.clf (hx.1 o ho) hs
  · rw [ovr_assoc, ovr_assoc]
    have f1 := hx.1 o (inF g hg o ho)
    have f2 := hx.1 o' (inF g hg o' ho')
    have e := hx.2 g hg o ho o' ho'
    obtain ⟨_, _, _, h2⟩ := plc_has (pm.mem_iff.mpr f1)
    obtain ⟨_, _, _, h4⟩ := plc_has (pm.mem_iff.mpr f2)
    have w := hb s hs (ovr x o) f1 (ovr x o')
    apply Classical.byContradiction
    intro q
    exact w ⟨by rw [e]; exact h4, fun z => q z.symm⟩
theorem flat_ones : ∀ l : List Str, (l.map fun r => [r]).flatten = l
  | [] => rfl
  | x :: l => by rw [List.map_cons, List.flatten_cons, flat_ones l]; rfl
theorem brk_alone {seeds full : List Str} {res : Option (Str × Str × Str)} (nd : full.Nodup) (hb : BrkIs (full.map fun r => [r]) seeds full res) : res = none := by
  match res, hb with
  | none, _ => rfl
  | some (s, r, o), ⟨i, h1, h2, h3, ⟨h4, h5⟩, _⟩ =>
    have fl := flat_ones full
    obtain ⟨_, _, p1, p2⟩ := plc_has (gs := full.map fun r => [r]) (r := r) (by rw [fl]; exact h3)
    rw [List.getD_eq_getElem?_getD, List.getElem?_map] at h4 p2
    cases q : full[plc (full.map fun r => [r]) r]? with
    | none => rw [q] at h4; cases h4
    | some x =>
      rw [q] at h4 p2
      have e1 : o = x := by simpa using h4
      have e2 : r = x := by simpa using p2
      exact absurd (by rw [e1, e2]) h5
theorem brk_whole {seeds full : List Str} {res : Option (Str × Str × Str)} (cl : ∀ s ∈ seeds, ∀ r ∈ full, ovr s r ∈ full) (hb : BrkIs [full] seeds full res) : res = none := by
  match res, hb with
  | none, _ => rfl
  | some (s, r, o), ⟨i, h1, h2, h3, ⟨h4, h5⟩, _⟩ =>
    have z : ∀ x ∈ full, plc [full] x = 0 := fun x hx => by
      obtain ⟨_, _, p1, _⟩ := plc_has (gs := [full]) (r := x) (by simpa using hx)
      have : plc [full] x < 1 := p1
      omega
    have ho := (mem_getD h4).2.2
    have ho' : o ∈ full := by simpa using ho
    have hs := mem_of_get h1
    exact absurd ((z _ (cl s hs o ho')).trans (z _ (cl s hs r h3)).symm) h5
/-! ### == of lumps as tuples -/
theorem dp_tS {K : PySem.W.Frag} {M H : Hp} (s : Same M H) : ∀ (gs : List (List Str)) {vs : List V}, IsA M (gs.map tS) vs → DpAll K H vs (gs.map fun g => PyData.tuple (g.map PyData.str))
  | [], vs, h => by rw [show vs = [] from h]; exact .nil
  | g :: gs, vs, h => by
    obtain ⟨v, r, rfl, ⟨a, ws, rfl, q, i⟩, t⟩ := h
    rw [IsA.strs.mp i] at q
    exact .cons (.tup (SqT.of (s _ _ q)) (dp_strs g)) (dp_tS s gs t)
theorem eqv_tS : ∀ gs : List (List Str), PyData.eqvAll (gs.map fun g => PyData.tuple (g.map PyData.str)) (gs.map fun g => PyData.tuple (g.map PyData.str)) = true
  | [] => rfl
  | g :: gs => by
    simp only [List.map_cons, PyData.eqvAll, PyData.eqv, eqv_tS gs, eqv_strsA g g]
    simp
theorem can_tS : ∀ gs : List (List Str), (∀ g ∈ gs, okS g) → PyData.canLayAll0 (gs.map fun g => PyData.tuple (g.map PyData.str)) = true
  | [], _ => rfl
  | g :: gs, h => by
    simp only [List.map_cons, PyData.canLayAll0, PyData.canLay0]
    rw [can_strs g (h g List.mem_cons_self), can_tS gs fun x hx => h x (List.mem_cons_of_mem _ hx)]
    rfl
theorem depth_tS : ∀ gs : List (List Str), PyData.depthAll (gs.map fun g => PyData.tuple (g.map PyData.str)) ≤ 1
  | [] => by simp [PyData.depthAll]
  | g :: gs => by
    have := depth_tS gs
    simp only [List.map_cons, PyData.depthAll, PyData.depth, depth_strs g]
    omega
theorem w_neTup {K : PySem.W.Frag} {M H : Hp} {Q : VK} {u v : V} {gs : List (List Str)} (s : Same M H) (iu : Is M (.tup (gs.map tS)) u) (iv : Is M (.tup (gs.map tS)) v) (ok : ∀ g ∈ gs, okS g) (k : Q (.bl false) H) : rNeD K u v H Q := by
  obtain ⟨a, xs, rfl, ha, ia⟩ := iu
  obtain ⟨b, ys, rfl, hb, ib⟩ := iv
  have sh : SeqAt.shaped (.tuple (gs.map fun g => PyData.tuple (g.map PyData.str))) = true := by
    unfold SeqAt.shaped
    simp only [PyData.canLay0, PyData.depth, can_tS gs ok]
    have := depth_tS gs
    simp
    omega
  refine ⟨_, _, .tup (SqT.of (s _ _ ha)) (dp_tS s gs ia), .tup (SqT.of (s _ _ hb)) (dp_tS s gs ib), sh, sh, ?_⟩
  show Q (.bl (!PyData.eqvAll _ _)) H
  rw [eqv_tS]
  exact k
theorem lumpsOf_seq : ∀ {ds : List Dat} {gs : List (List Str)}, lumpsOf ds = some gs → ∀ {e : Dat}, e ∈ ds → ∀ {es : List Dat}, e.seq = some es → ∃ g ∈ gs, es.length = g.length := by
  intro ds gs h e he es hs
  obtain ⟨i, hi⟩ := List.getElem?_of_mem he
  obtain ⟨g, h1, h2⟩ := lumpsOf_at h hi
  rw [hs] at h2
  exact ⟨g, mem_of_get h1, by rw [txts_at (show txts es = some g from h2), List.length_map]⟩
/-- lumps are small data -/
theorem Lmp.sm {M : Hp} {gs : List (List Str)} {v : V} (h : Lmp M gs v) (h1 : gs.length ≤ 200) (h2 : ∀ g ∈ gs, g.length ≤ 200) : ∃ d, Is M d v ∧ Sm d := by
  obtain ⟨d, ds, i, e, l⟩ := h
  refine ⟨d, i, fun es q => ?_⟩
  rw [e] at q
  cases q
  refine ⟨by rw [← lumpsOf_len l]; exact h1, fun x hx es q => ?_⟩
  obtain ⟨g, hg, e2⟩ := lumpsOf_seq l hx q
  rw [e2]
  exact h2 g hg
theorem lumpsOf_mapT : ∀ gs : List (List Str), lumpsOf (gs.map tS) = some gs
  | [] => rfl
  | g :: gs => by
    rw [List.map_cons, lumpsOf, lumpsOf_mapT gs]
    show (match (some (g.map Dat.str)).bind txts, some gs with | some g, some gs => some (g :: gs) | _, _ => none) = _
    rw [Option.bind_some, txts_map]
end
end Nt
namespace Nt
section
variable {P : Program} {w : World} {K : PySem.W.Frag} {mg : Str → Option Value} {base : Heap}
/-- a list or a tuple of pairs of rows of full -/
def IsP (full : List Str) (d : Dat) : Prop := ∃ ps : List (Str × Str), d.seq = some (ps.map prD) ∧ ∀ p ∈ ps, p.1 ∈ full ∧ p.2 ∈ full
theorem raiseB {C : Addr} {σ : L2.St} {H : Hp} {E : XK} (k : ∀ dx, H dx = none → E (.ref C) (some dx) (upd H dx (.xd [("code", .str "BadLumps")]))) : tMkO C (sp_BadLumps___init__ C) [] tNil σ H E := raise0 k
theorem prD_inj {p q : Str × Str} (h : prD p = prD q) : p = q := by
  obtain ⟨a, b⟩ := p
  obtain ⟨c, e⟩ := q
  simp only [prD, Dat.tup.injEq, List.cons.injEq, Dat.str.injEq, and_true] at h
  rw [h.1, h.2]
theorem IsP.at {full : List Str} {d : Dat} {ds : List Dat} (h : IsP full d) (e : d.seq = some ds) {i : Nat} {x : Dat} (hx : ds[i]? = some x) : ∃ p : Str × Str, x = prD p ∧ p.1 ∈ full ∧ p.2 ∈ full := by
  obtain ⟨ps, h1, h2⟩ := h
  rw [e] at h1
  cases h1
  rw [List.getElem?_map] at hx
  obtain ⟨p, hp, rfl⟩ := Option.map_eq_some_iff.mp hx
  exact ⟨p, rfl, h2 p (mem_of_get hp)⟩
/-- the tuple that it is -/
def Dat.tp : Dat → Option (List Dat)
  | .tup ds => some ds
  | _ => none
theorem Dat.tp_ty {d : Dat} : d.isT "tuple" = d.tp.isSome := by cases d <;> rfl
theorem Is.tp {M : Hp} {d : Dat} {v : V} {ds : List Dat} (h : Is M d v) (e : d.tp = some ds) : d = .tup ds ∧ ∃ a vs, v = .ref a ∧ M a = some (.tup vs) ∧ IsA M ds vs := by
  cases d with
  | tup xs =>
    cases e
    exact ⟨rfl, h⟩
  | _ => cases e
theorem two_of {es : List Dat} {xs : List Str} (h : es = xs.map Dat.str) (h2 : es.length = 2) : ∃ a b, xs = [a, b] ∧ (.tup es : Dat) = prD (a, b) := by
  subst h
  rw [List.length_map] at h2
  match xs, h2 with
  | [a, b], _ => exact ⟨a, b, rfl, rfl⟩
theorem w_iT {K : PySem.W.Frag} {te : TE} {σ : L2.St} {H : Hp} {R : It → Hp → Prop} (k : te σ H fun x H1 => ∃ a, x = .ref a ∧ (∃ xs, SqT K H1 a xs) ∧ R (Itt K a) H1) : iTup K te σ H R := k
def sp_check_pairs (C' : Addr) : Sp := fun vs H Q E => ∃ (u v : V) (full : List Str) (d : Dat), vs = [u, v] ∧ full.length ≤ 1000 ∧ full.Nodup ∧ Sm d ∧ ∃ M, Same M H ∧ Is M (dS full) u ∧ Is M d v ∧
  (IsP full d → Ret M H Q .non) ∧ (¬ IsP full d → ∀ M' H' dx, Stp no M H M' H' → H' dx = none → E (.ref C') (some dx) (upd H' dx (.xd [("code", .str "BadLumps")])))
theorem ok_check_pairs (T : Tx K mg) : Good P w K mg base (L2.CX P w) 5 (He.fAd K (He.DefD.at_ d_check_pairs)) p_check_pairs (sp_check_pairs (He.ga K "BadLumps")) := by
  obtain ⟨fd, F⟩ := T.def_ 41 (d := d_check_pairs) rfl
  obtain ⟨⟨fd_BadLumps, F_BadLumps, B_BadLumps⟩, _⟩ : Good P w K mg base CX0 2 (He.fAd K (He.DefD.at_ d_BadLumps___init__)) p_BadLumps___init__ (sp_BadLumps___init__ (He.ga K "BadLumps")) := ok_BadLumps___init__ T
  have x_BadLumps := T.exc "BadLumps" (by decide)
  refine good_ofX F sc_check_pairs (fun _ _ _ _ _ _ us hl => match us, hl with | [_, _], _ => rfl) (by intro vs H Q E h; (repeat obtain ⟨_, h⟩ := h); subst_vars; rfl) fun cdv A outer s H vs Q E hr h => ?_
  have hu := hu_of hr
  refine ⟨_, (pss_cons (ps_if (pt_not (pt_val (pe_callB cq_isi2 (by rfl) T.b_isinstance (by decide +kernel) (pa_cons (pv 1) (pa_cons (pe_tup (pa_cons (pe_ty "list" (by rfl) T.b_list (by decide +kernel)) (pa_cons (pe_ty "tuple" (by rfl) T.b_tuple (by decide +kernel)) pa_nil))) pa_nil)))))  (pss_one (ps_raise rfl (takes_of rfl rfl rfl rfl) (pmk_oex0 x_BadLumps.oc x_BadLumps.ic x_BadLumps.ti F_BadLumps (hr.mono (by decide)) B_BadLumps pass0 (by rfl) T.m_BadLumps)))  pss_nil)  (pss_cons (ps_setDc (i := 2) (own := [("row", 3)]) (by rfl) sc_check_pairs.nd rfl rfl (sw_trueD rfl rfl rfl (by decide +kernel)) (iq_list K (pv 0)) (blkOk_by (own := [("row", 3)]) (N := n_check_pairs) (sc := He.DefD.scope d_check_pairs) (by decide +kernel)) (fun _ _ _ _ _ => (pg_name (i := 3) sc_check_pairs.nd rfl (Or.inl rfl) (Or.inr rfl))) (fun _ _ _ _ _ => pts_nil) (fun _ _ _ _ _ => (pv 3)) (fun _ _ _ _ _ => pe_bl))  (pss_one (ps_for (passes_of rfl) rfl (iq_seq K (pv 1)) (pg_name (i := 4) sc_check_pairs.nd rfl (Or.inl rfl) (Or.inl rfl))  (pss_cons (ps_if (PW.pt (pw_or (pt_not (pt_val (pe_callB cq_isi (by rfl) T.b_isinstance (by decide +kernel) (pa_cons (pv 4) (pa_cons (pe_ty "tuple" (by rfl) T.b_tuple (by decide +kernel)) pa_nil))))) (pw_or1 (pt_cmpR op_ne (pe_callB cq_len (by rfl) T.b_len (by decide +kernel) (pa_cons (pv 4) pa_nil)) pe_int (nomark _)))))  (pss_one (ps_raise rfl (takes_of rfl rfl rfl rfl) (pmk_oex0 x_BadLumps.oc x_BadLumps.ic x_BadLumps.ti F_BadLumps (hr.mono (by decide)) B_BadLumps pass0 (by rfl) T.m_BadLumps)))  pss_nil)  (pss_one (ps_for (passes_of rfl) rfl (iq_tup K (pv 4)) (pg_name (i := 3) sc_check_pairs.nd rfl (Or.inl rfl) (Or.inl rfl))  (pss_one (ps_if (PW.pt (pw_or (pt_not (pt_val (pe_callB cq_isi (by rfl) T.b_isinstance (by decide +kernel) (pa_cons (pv 3) (pa_cons (pe_ty "str" (by rfl) T.b_str (by decide +kernel)) pa_nil))))) (pw_or1 (pt_cmp (pc_dnotin hu (pv 3) (pv 2)) rfl))))  (pss_one (ps_raise rfl (takes_of rfl rfl rfl rfl) (pmk_oex0 x_BadLumps.oc x_BadLumps.ic x_BadLumps.ti F_BadLumps (hr.mono (by decide)) B_BadLumps pass0 (by rfl) T.m_BadLumps)))  pss_nil))))))))), ?_⟩
  obtain ⟨u, v, full, d, rfl, hl, hnd, hsm, M, s0, iu, iv, kY, kN⟩ := h
  have bad : ¬ IsP full d → ∀ M' H', Stp no M H M' H' → ∀ dx, H' dx = none → E (.ref (He.ga K "BadLumps")) (some dx) (upd H' dx (.xd [("code", .str "BadLumps")])) := fun n M' H' S dx hdx => kN n M' H' dx S hdx
  obtain ⟨fa, rfl, hfa⟩ := iu.strs
  walk_at "vc"
  intro p hp
  have S1 := (Stp.refl (ex := no) s0).new (.tup [.ty "list", .ty "tuple"]) hp
  walk_at "vc"
  refine w_isi2 S1.mh iv upd_same (by simp) (by simp) ?_
  rw [Dat.seq_ty]
  generalize upd H p (.tup [.ty "list", .ty "tuple"]) = H1 at S1 ⊢
  walk_at "vc"
  cases hd : d.seq with
  | none =>
    walk_at "vc"
    exact raiseB (bad (fun ⟨ps, h1, _⟩ => by rw [hd] at h1; cases h1) _ _ S1)
  | some ds =>
    obtain ⟨va, vvs, rfl, hva, iva⟩ := iv.seq hd
    obtain ⟨hd1, hd2⟩ := hsm ds hd
    have hvl := iva.len
    walk_at "vc"
    refine ⟨fa, rfl, ⟨_, SqL.of (S1.mh _ _ hfa)⟩, ?_⟩
    refine dc_go (ex := no) walkL S1.mh (fun i acc _ => acc = kd yes (full.take i)) rfl (fun _ _ S => S.mh _ _ (S.mm _ _ hfa)) ?_ ?_
    · rintro i y acc M3 H3 H3' D hi S3 hD m3 h3 rfl ⟨rfl, hy⟩
      obtain ⟨r, hr', rfl⟩ := map_at hy
      walk_at "vc"
      refine ⟨rfl, ?_⟩
      refine w_yesI ?_
      walk_at "vc"
      refine ⟨_, .inr r, rfl, h3, line_lt (by rw [kd_len, List.length_take]; omega), M3, _, S3.put _ m3 (.inl hD), m3, upd_same, ?_⟩
      have hni : r ∉ full.take i := by
        intro z
        have nd := List.Sublist.nodup (List.take_sublist (i + 1) full) hnd
        rw [tk_snoc hr', List.nodup_append] at nd
        exact nd.2.2 _ z _ List.mem_cons_self rfl
      rw [kd_put yes r _ hni, tk_snoc hr']
    · rintro D acc M3 H3 hD S3 m3 h3 rfl
      rw [List.length_map, tk_all] at h3
      have S3' := S1.trans (S3.fix h3 hD)
      have hMD : upd M3 D (.dK (kd yes full)) D = some (.dK (kd yes full)) := upd_same
      generalize upd M3 D (.dK (kd yes full)) = M4 at S3' hMD
      walk_at "vc"
      refine w_seqV (hva.mono (S3'.mm.trans S3'.mh)) rfl fun J G hG W => ?_
      refine fo_go W (fun i σ' H' => ∃ (o3 o4 : Option V) (M' : Hp) (ps : List (Str × Str)), σ' = [some (.ref fa), some (.ref va), some (.ref D), o3, o4] ∧ Stp no M4 H3 M' H' ∧ ds.take i = ps.map prD ∧ ∀ p ∈ ps, p.1 ∈ full ∧ p.2 ∈ full)
        ⟨_, _, M4, [], rfl, Stp.refl S3'.mh, rfl, by simp⟩ (fun i σ' H' _ ⟨_, _, M', _, _, S, _⟩ => hG H' (hva.keep (S3'.mm.trans S3'.mh) (S3'.mm.trans (S.mm.trans S.mh)))) ?_ ?_
      · rintro i y σ5 H5 H5' hi ⟨o3, o4, M5, ps, rfl, S5, hps, hpf⟩ ⟨rfl, hy⟩
        obtain ⟨dd, hdd, idd⟩ := iva.get hy
        have hddm := mem_of_get hdd
        have S5' := S3'.trans S5
        have idd := idd.mono S5'.mm
        have no1 : (∀ p, dd ≠ prD p) → ¬ IsP full d := fun n h => by
          obtain ⟨p, e, _⟩ := h.at hd hdd
          exact n p e
        walk_at "vc"
        refine w_isi S5.mh idd (by simp) ?_
        rw [Dat.tp_ty]
        walk_at "vc"
        cases ht : dd.tp with
        | none =>
          walk_at "vc"
          exact raiseB (bad (no1 fun p e => by rw [e] at ht; cases ht) _ _ S5')
        | some es =>
          obtain ⟨rfl, la, lvs, rfl, hla, ila⟩ := idd.tp ht
          have hll := ila.len
          walk_at "vc"
          refine ⟨la, lvs, rfl, .inr (S5.mh _ _ hla), ?_⟩
          walk_at "vc"
          refine ifnd (fun z => ?_) (fun z => ?_)
          · refine raiseB (bad (no1 fun p e => z ?_) _ _ S5')
            have e' : es = [.str p.1, .str p.2] := by cases e; rfl
            rw [hll, e']
            rfl
          · have h2 : es.length = 2 := by omega
            walk_at "vc"
            refine w_iT ?_
            walk_at "vc"
            refine ⟨la, rfl, ⟨_, SqT.of (S5.mh _ _ hla)⟩, ?_⟩
            refine fo_go walkT (fun n σ' H' => ∃ (o3 : Option V) (M' : Hp) (xs : List Str), σ' = [some (.ref fa), some (.ref va), some (.ref D), o3, some (.ref la)] ∧ Stp no M5 H5' M' H' ∧ es.take n = xs.map Dat.str ∧ ∀ x ∈ xs, x ∈ full)
              ⟨_, M5, [], rfl, Stp.refl S5.mh, rfl, by simp⟩ (fun _ _ _ _ ⟨_, _, _, _, S, _⟩ => S.mh _ _ (S.mm _ _ hla)) ?_ ?_
            · rintro n y6 σ6 H6 H6' hn ⟨p3, M6, xs, rfl, S6, hxs, hxf⟩ ⟨rfl, hy6⟩
              obtain ⟨e, he, ie⟩ := ila.get hy6
              have ie := ie.mono S6.mm
              have S6' := S5'.trans S6
              have no2 : (∀ x, e = .str x → x ∉ full) → ¬ IsP full d := fun nn h => by
                obtain ⟨p, e1, e2, e3⟩ := h.at hd hdd
                have e' : es = [.str p.1, .str p.2] := by cases e1; rfl
                rw [e'] at he
                match n, he with
                | 0, he => exact nn p.1 (by simpa using he.symm) e2
                | 1, he => exact nn p.2 (by simpa using he.symm) e3
                | n + 2, he => simp at he
              walk_at "vc"
              refine w_isi S6.mh ie (by simp) ?_
              rw [Dat.txt_ty]
              walk_at "vc"
              cases hx : e.txt with
              | none =>
                walk_at "vc"
                exact raiseB (bad (no2 fun x e' => by rw [e'] at hx; cases hx) _ _ S6')
              | some x =>
                obtain rfl := ie.txt hx
                have ex : e = .str x := by cases e <;> first | cases hx; rfl | cases hx
                walk_at "vc"
                refine kd_has (S6.mh _ _ (S6.mm _ _ (S5.mm _ _ hMD))) (fun q3 => ?_) (fun q3 => ?_)
                · walk_at "vc"
                  refine ⟨_, M6, xs ++ [x], rfl, S6, ?_, ?_⟩
                  · rw [tk_snoc he, hxs, ex, List.map_append]
                    rfl
                  · intro z hz
                    rcases List.mem_append.mp hz with w1 | w1
                    · exact hxf z w1
                    · rw [List.mem_singleton.mp w1]; exact q3
                · walk_at "vc"
                  exact raiseB (bad (no2 fun x' e' => by rw [ex] at e'; cases e'; exact q3) _ _ S6')
            · rintro σ6 H6 ⟨p3, M6, xs, rfl, S6, hxs, hxf⟩
              rw [List.take_of_length_le (by omega)] at hxs
              obtain ⟨a, b, rfl, e2⟩ := two_of hxs h2
              refine ⟨_, _, M6, ps ++ [(a, b)], rfl, S5.trans S6, ?_, ?_⟩
              · rw [tk_snoc hdd, hps, e2, List.map_append]
                rfl
              · intro p hp
                rcases List.mem_append.mp hp with w1 | w1
                · exact hpf p w1
                · rw [List.mem_singleton.mp w1]
                  exact ⟨hxf a (by simp), hxf b (by simp)⟩
      · rintro σ5 H5 ⟨o3, o4, M5, ps, rfl, S5, hps, hpf⟩
        rw [List.take_of_length_le (by omega)] at hps
        walk_at "vc"
        exact kY ⟨ps, by rw [hd, hps], hpf⟩ _ _ _ (S3'.trans S5) rfl
def sp_l_are_pairs : Sp := fun vs H Q _ => ∃ (u v : V) (full : List Str) (d : Dat), vs = [u, v] ∧ full.length ≤ 1000 ∧ Sm d ∧ ∃ M, Same M H ∧ Is M (dS full) u ∧ Is M d v ∧ ∀ b : Bool, (b = true ↔ IsP full d) → Ret M H Q (.bl b)
theorem ok_l_are_pairs (T : Tx K mg) : Good P w K mg base CX0 1 (He.fAd K (He.DefD.at_ d_l_are_pairs)) p_l_are_pairs sp_l_are_pairs := by
  obtain ⟨fd, F⟩ := T.def_ 43 (d := d_l_are_pairs) rfl
  refine good_of F sc_l_are_pairs (fun _ _ _ _ _ _ us hl => match us, hl with | [_, _], _ => rfl) (by intro vs H Q E h; (repeat obtain ⟨_, h⟩ := h); subst_vars; rfl) fun cdv A outer s H vs Q E hr h => ?_
  have hu := hu_of hr
  refine ⟨_, (pss_cons (ps_if (pt_not (pt_val (pe_callB cq_isi2 (by rfl) T.b_isinstance (by decide +kernel) (pa_cons (pv 1) (pa_cons (pe_tup (pa_cons (pe_ty "list" (by rfl) T.b_list (by decide +kernel)) (pa_cons (pe_ty "tuple" (by rfl) T.b_tuple (by decide +kernel)) pa_nil))) pa_nil)))))  (pss_one (ps_ret pe_bl))  pss_nil)  (pss_cons (ps_for PassesOwn.never rfl (iq_seq K (pv 1)) (pg_name (i := 2) sc_l_are_pairs.nd rfl (Or.inl rfl) (Or.inl rfl))  (pss_cons (ps_if (PW.pt (pw_or (pt_not (pt_val (pe_callB cq_isi (by rfl) T.b_isinstance (by decide +kernel) (pa_cons (pv 2) (pa_cons (pe_ty "tuple" (by rfl) T.b_tuple (by decide +kernel)) pa_nil))))) (pw_or1 (pt_cmpR op_ne (pe_callB cq_len (by rfl) T.b_len (by decide +kernel) (pa_cons (pv 2) pa_nil)) pe_int (nomark _)))))  (pss_one (ps_ret pe_bl))  pss_nil)  (pss_one (ps_if (pt_not (pt_val (pe_callB (cq_all rfl) (by rfl) T.b_all (by decide +kernel) (pa_cons (pe_lc (own := [("_law_one", 3)]) (by rfl) sc_l_are_pairs.nd (iq_seq K (pv 2)) (blkOk_by (own := [("_law_one", 3)]) (N := n_l_are_pairs) (sc := He.DefD.scope d_l_are_pairs) (by decide +kernel)) (fun _ _ _ _ _ => (pg_name (i := 3) sc_l_are_pairs.nd rfl (Or.inl rfl) (Or.inr rfl))) (fun _ _ _ _ _ => pts_nil) (fun _ _ _ _ _ => (pe_and (pe_callB cq_isi (by rfl) T.b_isinstance (by decide +kernel) (pa_cons (pv 3) (pa_cons (pe_ty "str" (by rfl) T.b_str (by decide +kernel)) pa_nil))) (pe_one (pe_cmpR oq_in (pv 3) (pv 0) (by rfl)))))) pa_nil))))  (pss_one (ps_ret pe_bl))  pss_nil))))  (pss_one (ps_ret pe_bl)))), ?_⟩
  obtain ⟨u, v, full, d, rfl, hl, hsm, M, s0, iu, iv, k⟩ := h
  obtain ⟨fa, rfl, hfa⟩ := iu.strs
  have kN : ¬ IsP full d → Ret M H Q (.bl false) := fun n => k false ⟨nofun, fun h => absurd h n⟩
  walk_at "vc"
  intro p hp
  have S1 := (Stp.refl (ex := no) s0).new (.tup [.ty "list", .ty "tuple"]) hp
  walk_at "vc"
  refine w_isi2 S1.mh iv upd_same (by simp) (by simp) ?_
  rw [Dat.seq_ty]
  generalize upd H p (.tup [.ty "list", .ty "tuple"]) = H1 at S1 ⊢
  walk_at "vc"
  cases hd : d.seq with
  | none =>
    walk_at "vc"
    exact kN (fun ⟨ps, h1, _⟩ => by rw [hd] at h1; cases h1) _ _ _ S1 rfl
  | some ds =>
    obtain ⟨va, vvs, rfl, hva, iva⟩ := iv.seq hd
    obtain ⟨hd1, hd2⟩ := hsm ds hd
    have hvl := iva.len
    walk_at "vc"
    refine w_seqV (hva.mono (S1.mm.trans S1.mh)) rfl fun J G hG W => ?_
    refine fo_go W (fun i σ' H' => ∃ (o2 o3 : Option V) (M' : Hp) (ps : List (Str × Str)), σ' = [some (.ref fa), some (.ref va), o2, o3] ∧ Stp no M H M' H' ∧ ds.take i = ps.map prD ∧ ∀ p ∈ ps, p.1 ∈ full ∧ p.2 ∈ full)
      ⟨_, _, M, [], rfl, S1, rfl, by simp⟩ (fun i σ' H' _ ⟨_, _, M', _, _, S, _⟩ => hG H' (hva.keep (S1.mm.trans S1.mh) (S.mm.trans S.mh))) ?_ ?_
    · rintro i y σ5 H5 H5' hi ⟨o2, o3, M5, ps, rfl, S5, hps, hpf⟩ ⟨rfl, hy⟩
      obtain ⟨dd, hdd, idd⟩ := iva.get hy
      have hddm := mem_of_get hdd
      have idd := idd.mono S5.mm
      have no1 : (∀ p, dd = prD p → ¬ (p.1 ∈ full ∧ p.2 ∈ full)) → ¬ IsP full d := fun n h => by
        obtain ⟨p, e, h2⟩ := h.at hd hdd
        exact n p e h2
      walk_at "vc"
      refine w_isi S5.mh idd (by simp) ?_
      rw [Dat.tp_ty]
      walk_at "vc"
      cases ht : dd.tp with
      | none =>
        walk_at "vc"
        exact kN (no1 fun p e => by rw [e] at ht; cases ht) _ _ _ S5 rfl
      | some es =>
        obtain ⟨rfl, la, lvs, rfl, hla, ila⟩ := idd.tp ht
        have hll := ila.len
        walk_at "vc"
        refine ⟨la, lvs, rfl, .inr (S5.mh _ _ hla), ?_⟩
        walk_at "vc"
        refine ifnd (fun z => ?_) (fun z => ?_)
        · walk_at "vc"
          refine kN (no1 fun p e => absurd ?_ z) _ _ _ S5 rfl
          have e' : es = [.str p.1, .str p.2] := by cases e; rfl
          rw [hll, e']
          rfl
        · have h2 : es.length = 2 := by omega
          walk_at "vc"
          refine w_seqV (.inr (S5.mh _ _ hla)) rfl fun J2 G2 hG2 W2 => ?_
          refine lc_go (ex := no) W2 S5.mh (fun n acc _ => acc = ((es.take n).map (okE full)).map V.bl) rfl (fun M' H' S => hG2 H' (fun o e => S.same _ _ e)) ?_ ?_
          · rintro n y5 acc M6 H6 H6' D hn S6 hD m6 h6 rfl ⟨rfl, hy5⟩
            obtain ⟨e, he, ie⟩ := ila.get hy5
            have ie := ie.mono S6.mm
            have go : ∀ b, b = okE full e → LcA no M5 H5' D (fun acc _ => acc = ((es.take (n + 1)).map (okE full)).map V.bl) (.bl b) H6' := fun b hb =>
              LcA.of hD S6 m6 h6 (by rw [List.length_map, List.length_map, List.length_take]; omega) (by rw [tk_snoc he, hb]; simp only [List.map_append, List.map_cons, List.map_nil])
            walk_at "vc"
            refine ⟨rfl, ?_⟩
            walk_at "vc"
            refine w_isi S6.mh ie (by simp) ?_
            rw [Dat.txt_ty]
            walk_at "vc"
            cases ht : e.txt with
            | none =>
              walk_at "vc"
              exact go _ (by unfold okE; rw [ht])
            | some x =>
              have hx := ie.txt ht
              subst hx
              walk_at "vc"
              refine w_inS (.inl (S6.mh _ _ (S6.mm _ _ (S5.mm _ _ hfa)))) ?_
              exact go _ (by unfold okE; rw [ht])
          · rintro D acc M6 H6 hD S6 m6 h6 rfl
            rw [List.take_of_length_le (by omega)] at h6
            have S6' := S5.trans S6
            walk_at "vc"
            refine ⟨D, _, rfl, h6, ?_⟩
            walk_at "vc"
            cases hb : (es.map (okE full)).all id with
            | false =>
              walk_at "vc"
              refine kN (no1 fun p e hpp => ?_) _ _ _ S6' rfl
              have e' : es = [.str p.1, .str p.2] := by cases e; rfl
              rw [e'] at hb
              simp [okE, Dat.txt, hpp.1, hpp.2] at hb
            | true =>
              obtain ⟨g, hg, hgx⟩ := okE_all hb
              have eg := txts_at hg
              obtain ⟨a, b, rfl, e2⟩ := two_of eg h2
              walk_at "vc"
              refine ⟨_, _, M6, ps ++ [(a, b)], rfl, S6', ?_, ?_⟩
              · rw [tk_snoc hdd, hps, e2, List.map_append]
                rfl
              · intro p hp
                rcases List.mem_append.mp hp with w1 | w1
                · exact hpf p w1
                · rw [List.mem_singleton.mp w1]
                  exact ⟨hgx a (by simp), hgx b (by simp)⟩
    · rintro σ5 H5 ⟨o2, o3, M5, ps, rfl, S5, hps, hpf⟩
      rw [List.take_of_length_le (by omega)] at hps
      walk_at "vc"
      exact k true ⟨fun _ => ⟨ps, by rw [hd, hps], hpf⟩, fun _ => rfl⟩ _ _ _ S5 rfl
end
end Nt
namespace Nt
section
variable {P : Program} {w : World} {K : PySem.W.Frag} {mg : Str → Option Value} {base : Heap}
theorem w_max2 {H : Hp} {Q : VK} {x y : Str} (k : Q (.str (if Lt x y then y else x)) H) : qMax2 [.str x, .str y] H Q := ⟨x, y, rfl, k⟩
theorem w_min2s {H : Hp} {Q : VK} {x y : Str} (k : Q (.str (if Lt y x then y else x)) H) : qMin2 [.str x, .str y] H Q := ⟨x, y, rfl, k⟩
/-- lists of one's own are handed back -/
abbrev RetL (M H : Hp) (Q : VK) (gs : List (List Str)) : Prop := ∀ (D : Addr) (rs : List Addr) (M' H' : Hp), Stp no M H M' H' → H D = none → M' D = none → H' D = some (.lst (rs.map V.ref)) → OL H M' H' rs gs → D ∉ rs → Q (.ref D) H'
abbrev LeE (seeds full : List Str) (ps : List (Str × Str)) (e : Str → Str → Bool) : Prop := ∀ x ∈ full, ∀ y ∈ full, (e x y = true ↔ Cg seeds ps x y)
def sp_least_lumps (C C' : Addr) : Sp := fun vs H Q E => ∃ (a : Addr) (v : V) (cs : Cells) (seeds rows : List Str) (d : Dat), vs = [.ref a, v] ∧ rows.length ≤ 1000 ∧ FlOk seeds (fullS rows) ∧ Sm d ∧ ∃ M, Same M H ∧ BandO C M cs seeds rows a ∧ Is M d v ∧
  (∀ ps : List (Str × Str), d.seq = some (ps.map prD) → (∀ p ∈ ps, p.1 ∈ fullS rows ∧ p.2 ∈ fullS rows) → ∀ e, LeE seeds (fullS rows) ps e → RetL M H Q (lst e (fullS rows))) ∧
  (¬ IsP (fullS rows) d → ∀ M' H' dx, Stp no M H M' H' → H' dx = none → E (.ref C') (some dx) (upd H' dx (.xd [("code", .str "BadLumps")])))
theorem dp_prs {M H : Hp} (s : Same M H) {W : List (Str × Str)} {vs : List V} (h : IsA M (W.map prD) vs) : DpAll K H vs ((W.map fun p => [p.1, p.2]).map fun g => PyData.tuple (g.map PyData.str)) :=
  dp_tS s (W.map fun p => [p.1, p.2]) (by rw [List.map_map]; exact h)
theorem sh_lst {gs : List (List Str)} (h : ∀ g ∈ gs, okS g) : SeqAt.shaped (.list (gs.map fun g => PyData.tuple (g.map PyData.str))) = true := by
  unfold SeqAt.shaped
  have h1 := can_tS gs h
  have h2 := depth_tS gs
  simp only [PyData.canLay0, PyData.depth, h1]
  simp
  omega
theorem sh_prs {W : List (Str × Str)} (ok : ∀ p ∈ W, PyData.strOk p.1 = true ∧ PyData.strOk p.2 = true) : SeqAt.shaped (.list ((W.map fun p => [p.1, p.2]).map fun g => PyData.tuple (g.map PyData.str))) = true :=
  sh_lst fun g hg => by
    obtain ⟨p, hp, rfl⟩ := List.mem_map.mp hg
    intro x hx
    simp only [List.mem_cons, List.not_mem_nil, or_false] at hx
    rcases hx with rfl | rfl
    · exact (ok p hp).1
    · exact (ok p hp).2
theorem w_nePrsNil {M H : Hp} {Q : VK} {a b : Addr} {vs : List V} {W : List (Str × Str)} (s : Same M H) (ha : H a = some (.lst vs)) (ia : IsA M (W.map prD) vs) (hb : H b = some (.lst [])) (ok : ∀ p ∈ W, PyData.strOk p.1 = true ∧ PyData.strOk p.2 = true) (k : Q (.bl (!decide (W = []))) H) : rNeD K (.ref a) (.ref b) H Q := by
  refine ⟨_, _, .lst (SqL.of ha) (dp_prs s ia), .lst (SqL.of hb) .nil, sh_prs ok, by decide +kernel, ?_⟩
  have e : PyData.eqv (.list ((W.map fun p => [p.1, p.2]).map fun g => PyData.tuple (g.map PyData.str))) (.list []) = decide (W = []) := by
    cases W with
    | nil => rfl
    | cons p W => simp [PyData.eqv, PyData.eqvAll]
  rw [e]
  exact k
theorem w_nePrs {M H : Hp} {Q : VK} {a b : Addr} {vs ws : List V} {W : List (Str × Str)} (s : Same M H) (ha : H a = some (.lst vs)) (ia : IsA M (W.map prD) vs) (hb : H b = some (.lst ws)) (ib : IsA M (W.map prD) ws) (ok : ∀ p ∈ W, PyData.strOk p.1 = true ∧ PyData.strOk p.2 = true) (k : Q (.bl false) H) : rNeD K (.ref a) (.ref b) H Q := by
  refine ⟨_, _, .lst (SqL.of ha) (dp_prs s ia), .lst (SqL.of hb) (dp_prs s ib), sh_prs ok, sh_prs ok, ?_⟩
  show Q (.bl (!PyData.eqvAll _ _)) H
  rw [eqv_tS]
  exact k
theorem IsA.last {M : Hp} {x : Dat} : ∀ {ds : List Dat} {vs : List V}, IsA M (ds ++ [x]) vs → ∃ ws v, vs = ws ++ [v] ∧ IsA M ds ws ∧ Is M x v
  | [], vs, h => by
    obtain ⟨v, r, rfl, a, b⟩ := h
    rw [show r = [] from b]
    exact ⟨[], v, rfl, rfl, a⟩
  | d :: ds, vs, h => by
    obtain ⟨v, r, rfl, a, b⟩ := h
    obtain ⟨ws, u, rfl, c, e⟩ := IsA.last (ds := ds) b
    exact ⟨v :: ws, u, rfl, ⟨v, ws, rfl, a, c⟩, e⟩
theorem okS_nil : okS [] := by intro x hx; cases hx
theorem ok_least_lumps (T : Tx K mg) : Good P w K mg base (L2.CX P w) 6 (He.fAd K (He.DefD.at_ d_least_lumps)) p_least_lumps (sp_least_lumps (He.ga K "Band") (He.ga K "BadLumps")) := by
  obtain ⟨fd, F⟩ := T.def_ 40 (d := d_least_lumps) rfl
  have g_Band_full_rows : Good P w K mg base CX0 1 (He.fAd K (He.DefD.at_ d_Band_full_rows)) p_Band_full_rows (sp_Band_full_rows (He.ga K "Band")) := ok_Band_full_rows T
  have g_Band_seeds : Good P w K mg base CX0 1 (He.fAd K (He.DefD.at_ d_Band_seeds)) p_Band_seeds (sp_Band_seeds (He.ga K "Band")) := ok_Band_seeds T
  have g_foremost : Good P w K mg base CX0 1 (He.fAd K (He.DefD.at_ d_foremost)) p_foremost sp_foremost := ok_foremost T
  have g_over : Good P w K mg base CX0 1 (He.fAd K (He.DefD.at_ d_over)) p_over sp_over := ok_over T
  have g_check_pairs : Good P w K mg base (L2.CX P w) 5 (He.fAd K (He.DefD.at_ d_check_pairs)) p_check_pairs (sp_check_pairs (He.ga K "BadLumps")) := ok_check_pairs T
  refine good_ofX F sc_least_lumps (fun _ _ _ _ _ _ us hl => match us, hl with | [_, _], _ => rfl) (by intro vs H Q E h; (repeat obtain ⟨_, h⟩ := h); subst_vars; rfl) fun cdv A outer s H vs Q E hr h => ?_
  have hu := hu_of hr
  refine ⟨_, (pss_cons (ps_set (i := 2) sc_least_lumps.nd rfl (Or.inl rfl) (pe_goodm0 g_Band_full_rows (hr.mono (by decide)) (pv 0) T.c_Band T.Band_full_rows))  (pss_cons (ps_expr (pe_goodP (E := E) g_check_pairs (hr.mono (by decide)) rfl T.m_check_pairs (passes_call (takes_of rfl rfl rfl rfl) (fun _ _ _ _ h => h)) (pa_cons (pv 2) (pa_cons (pv 1) pa_nil))))  (pss_cons (ps_setDc (i := 3) (own := [("row", 4)]) (by rfl) sc_least_lumps.nd rfl rfl (sw_trueD rfl rfl rfl (by decide +kernel)) (iq_list K (pv 2)) (blkOk_by (own := [("row", 4)]) (N := n_least_lumps) (sc := He.DefD.scope d_least_lumps) (by decide +kernel)) (fun _ _ _ _ _ => (pg_name (i := 4) sc_least_lumps.nd rfl (Or.inl rfl) (Or.inr rfl))) (fun _ _ _ _ _ => pts_nil) (fun _ _ _ _ _ => (pv 4)) (fun _ _ _ _ _ => (pv 4)))  (pss_cons (ps_set (i := 5) sc_least_lumps.nd rfl (Or.inl rfl) (pe_goodm0 g_Band_seeds (hr.mono (by decide)) (pv 0) T.c_Band T.Band_seeds))  (pss_cons (ps_set (i := 6) sc_least_lumps.nd rfl (Or.inl rfl) (pe_callTy cq_list (by rfl) T.b_list (by decide +kernel) (pa_cons (pv 1) pa_nil)))  (pss_cons (ps_while (passes_of rfl) (pt_cmpR (op_neD hr.units) (pv 6) (pe_lst pa_nil) (nomark _))  (pss_cons (ps_asg (eq_bm0 PySem.F.slot_list_pop PySem.F.type_list_pop mt_pop (pv 6)) (gq_tup K (n := 2) rfl (pgs_cons (pg_name (i := 9) sc_least_lumps.nd rfl (Or.inr rfl) (Or.inl rfl)) (pgs_cons (pg_name (i := 10) sc_least_lumps.nd rfl (Or.inr rfl) (Or.inl rfl)) pgs_nil))))  (pss_cons (ps_set (i := 7) sc_least_lumps.nd rfl (Or.inl rfl) (pe_good g_foremost (hr.mono (by decide)) rfl T.m_foremost (pa_cons (pv 3) (pa_cons (pv 9) pa_nil))))  (pss_cons (ps_set (i := 8) sc_least_lumps.nd rfl (Or.inl rfl) (pe_good g_foremost (hr.mono (by decide)) rfl T.m_foremost (pa_cons (pv 3) (pa_cons (pv 10) pa_nil))))  (pss_one (ps_if (pt_cmpR op_ne (pv 7) (pv 8) (nomark _))  (pss_cons (ps_dput hu (pv 3) (pe_callB (cq_max2S rfl) (by rfl) T.b_max (by decide +kernel) (pa_cons (pv 7) (pa_cons (pv 8) pa_nil))) (pe_callB (cq_min2S rfl) (by rfl) T.b_min (by decide +kernel) (pa_cons (pv 7) (pa_cons (pv 8) pa_nil))) rfl)  (pss_one (ps_expr (eq_bm PySem.F.slot_list_extend PySem.F.type_list_extend mt_extend (pv 6) (pa_cons (pe_lc (own := [("seed", 11)]) (by rfl) sc_least_lumps.nd (iq_list K (pv 5)) (blkOk_by (own := [("seed", 11)]) (N := n_least_lumps) (sc := He.DefD.scope d_least_lumps) (by decide +kernel)) (fun _ _ _ _ _ => (pg_name (i := 11) sc_least_lumps.nd rfl (Or.inl rfl) (Or.inr rfl))) (fun _ _ _ _ _ => pts_nil) (fun _ _ _ _ _ => (pe_tup (pa_cons (pe_good g_over (hr.mono (by decide)) rfl T.m_over (pa_cons (pv 11) (pa_cons (pv 9) pa_nil))) (pa_cons (pe_good g_over (hr.mono (by decide)) rfl T.m_over (pa_cons (pv 11) (pa_cons (pv 10) pa_nil))) pa_nil))))) pa_nil)))))  pss_nil))))))  (pss_cons (ps_set (i := 12) sc_least_lumps.nd rfl (Or.inr rfl) pe_dnewK)  (pss_cons (ps_for (passes_of rfl) rfl (iq_list K (pv 2)) (pg_name (i := 4) sc_least_lumps.nd rfl (Or.inl rfl) (Or.inl rfl))  (pss_one (ps_expr (eq_bm PySem.F.slot_list_append PySem.F.type_list_append mt_append (pe_dsetd (pv 12) (pe_good g_foremost (hr.mono (by decide)) rfl T.m_foremost (pa_cons (pv 3) (pa_cons (pv 4) pa_nil))) (pe_lst pa_nil) ⟨rfl, rfl, rfl, rfl⟩) (pa_cons (pv 4) pa_nil)))))  (pss_one (ps_ret (pe_lock (pe_lc (own := [("row", 4)]) (by rfl) sc_least_lumps.nd (pi_keys (pv 12)) (blkOk_by (own := [("row", 4)]) (N := n_least_lumps) (sc := He.DefD.scope d_least_lumps) (by decide +kernel)) (fun _ _ _ _ _ => (pg_name (i := 4) sc_least_lumps.nd rfl (Or.inl rfl) (Or.inr rfl))) (fun _ _ _ _ _ => pts_nil) (fun _ _ _ _ _ => (pe_dget hu (pv 12) (pv 4) (fun _ _ => rfl))))))))))))))), ?_⟩
  obtain ⟨a, v, cs, seeds, rows, d, rfl, hl, F, hsm, M, s0, ib, iv, kY, kN⟩ := h
  have ib' := ib
  obtain ⟨bdx, bvc, bvs, bvr, bvk, bvl, hb1, _⟩ := ib
  walk_at "vc"
  refine w_meth ?_
  walk_at "vc"
  refine ⟨a, bdx, _, rfl, s0 _ _ hb1, rfl, ?_⟩
  walk_at "vc"
  refine ⟨a, cs, seeds, rows, rfl, hl, M, s0, ib', ?_⟩
  intro v2 M1 H1 S1 i2
  generalize hF : fullS rows = full at *
  have hfl := F.ln
  obtain ⟨fa, rfl, hfa⟩ := id i2.strs
  walk_at "vc"
  refine ⟨.ref fa, v, full, d, rfl, by omega, F.nd, hsm, M1, S1.mh, i2, iv.mono S1.mm, fun hP => ?_, fun hP M' H' dx S hdx => kN hP M' H' dx (S1.trans S) hdx⟩
  rintro v3 M2 H2 S2 rfl
  obtain ⟨ps, hd, hpf⟩ := hP
  obtain ⟨va, vvs, rfl, hva, iva⟩ := iv.seq hd
  obtain ⟨hd1, hd2⟩ := hsm _ hd
  have hvl := iva.len
  rw [List.length_map] at hd1 hvl
  have k := kY ps hd hpf
  clear kY kN
  have S2' := S1.trans S2
  have hfa2 := S2.mm _ _ hfa
  walk_at "vc"
  refine ⟨fa, rfl, ⟨_, SqL.of (S2.mh _ _ hfa2)⟩, ?_⟩
  refine dc_go (ex := no) walkL S2.mh (fun i acc _ => acc = kdS (fun x => x) (full.take i)) rfl (fun _ _ S => S.mh _ _ (S.mm _ _ hfa2)) ?_ ?_
  · rintro i y acc M3 H3 H3' D hi S3 hD m3 h3 rfl ⟨rfl, hy⟩
    obtain ⟨r, hr', rfl⟩ := map_at hy
    walk_at "vc"
    refine ⟨rfl, ?_⟩
    refine w_yesI ?_
    walk_at "vc"
    refine ⟨_, .inr r, rfl, h3, line_lt (by rw [kd_len, List.length_take]; omega), M3, _, S3.put _ m3 (.inl hD), m3, upd_same, ?_⟩
    have hni : r ∉ full.take i := by
      intro z
      have nd := List.Sublist.nodup (List.take_sublist (i + 1) full) F.nd
      rw [tk_snoc hr', List.nodup_append] at nd
      exact nd.2.2 _ z _ List.mem_cons_self rfl
    rw [show V.str r = (fun y => V.str ((fun x => x) y)) r from rfl, kd_put _ r _ hni, tk_snoc hr']
  rintro d1 acc M3 H3 hd0 S3 m3 h3 rfl
  rw [List.length_map, tk_all] at h3
  have S3' := S2'.trans S3
  have hd0' : H d1 = none := S2'.hfree hd0
  walk_at "vc"
  refine w_meth ?_
  walk_at "vc"
  refine ⟨a, bdx, _, rfl, S3'.mh _ _ (S3'.mm _ _ hb1), rfl, ?_⟩
  walk_at "vc"
  refine ⟨a, cs, seeds, rows, rfl, M3, S3.mh, ib'.mono S3'.mm, ?_⟩
  intro v5 M4 H4 S4 i5
  obtain ⟨sa, rfl, hsa⟩ := id i5.strs
  obtain ⟨m4, h4⟩ := S4.keep m3 h3
  have S4' := S3'.trans S4
  walk_at "vc"
  refine ⟨va, vvs, rfl, hva.mono (S4'.mm.trans S4'.mh), fun wa hwa => ?_⟩
  have S5 := S4'.new (.lst vvs) hwa
  have mwa : M4 wa = none := S4.mfree hwa
  have hwa0 : H wa = none := S4'.hfree hwa
  have hwd : wa ≠ d1 := fun z => by rw [z, h4] at hwa; cases hwa
  have h5 := upd_old (u := HO.lst vvs) h4 hwa
  have h5w : upd H4 wa (.lst vvs) wa = some (.lst vvs) := upd_same
  generalize upd H4 wa (.lst vvs) = H5 at S5 h5 h5w ⊢
  have hfa4 := S4.mm _ _ (S3.mm _ _ hfa2)
  walk_at "vc"
  let I : (Str → Str) → List (Str × Str) → L2.St → Hp → Hp → Prop := fun f W σ' M' H' => ∃ (o7 o8 o9 o10 o11 o12 : Option V) (wv : List V), σ' = [some (.ref a), some (.ref va), some (.ref fa), some (.ref d1), none, some (.ref sa), some (.ref wa), o7, o8, o9, o10, o11, o12] ∧ Stp no M H M' H' ∧ Same M4 M' ∧ M' d1 = none ∧ M' wa = none ∧
    H' d1 = some (.dK (kdS f full)) ∧ H' wa = some (.lst wv) ∧ IsA M' (W.map prD) wv ∧ Frs full f ∧ Wk seeds full ps (Jn f) W ∧ W.length + fixN full f * seeds.length ≤ ps.length + full.length * seeds.length
  let Wm : Nat → L2.St → Hp → Prop := fun m σ' H' => ∃ f W M', m = fixN full f * (seeds.length + 1) + W.length ∧ I f W σ' M' H'
  have F0 : Frs full (fun x => x) := ⟨fun x hx => hx, fun x _ => .inl rfl⟩
  have hNb : ps.length + full.length * seeds.length ≤ 4200 := by
    have := Nat.mul_le_mul hfl F.sn
    omega
  refine ⟨Wm, ⟨_, fun x => x, ps, M4, rfl, _, _, _, _, _, _, vvs, rfl, S5, Same.refl _, m4, mwa, h5, h5w, iva.mono S4'.mm, F0, Wk.start (Jn.on F0) (fun x hx y hy ⟨r, p, q⟩ => ?_) hpf, ?_⟩, ?_⟩
  · exact (p.det (.here rfl)).symm.trans (q.det (.here rfl))
  · have := Nat.mul_le_mul_right seeds.length (fixN_le full fun x => x)
    omega
  rintro m σ6 H6 ⟨f, W, M6, rfl, o7, o8, o9, o10, o11, o12, wv, rfl, S6, s46, m6, m6w, h6, h6w, i6, F6, k6, hb6⟩
  have hwl := i6.len
  rw [List.length_map] at hwl
  have okw : ∀ p ∈ W, p.1 ∈ full ∧ p.2 ∈ full := k6.wf
  walk_at "vc"
  intro q0 hq0
  have S7 := S6.new (.lst []) hq0
  have hqd : d1 ≠ q0 := fun z => by rw [← z, h6] at hq0; cases hq0
  have hqw : wa ≠ q0 := fun z => by rw [← z, h6w] at hq0; cases hq0
  have h7 := upd_old (u := HO.lst []) h6 hq0
  have h7w := upd_old (u := HO.lst []) h6w hq0
  refine w_nePrsNil (W := W) S7.mh h7w i6 upd_same (fun p hp => ⟨F.ok _ (okw p hp).1, F.ok _ (okw p hp).2⟩) ?_
  generalize upd H6 q0 (.lst []) = H7 at S7 h7 h7w ⊢
  walk_at "vc"
  refine ifnd (fun qW => ?_) (fun qW => ?_)
  · obtain ⟨W', p, rfl⟩ : ∃ W' p, W = W' ++ [p] := ⟨W.dropLast, W.getLast qW, (List.dropLast_concat_getLast qW).symm⟩
    obtain ⟨hp1, hp2⟩ := okw p (by simp)
    rw [List.map_append] at i6
    obtain ⟨wv', v7, rfl, i7, ip⟩ := i6.last
    obtain ⟨T7, rfl, hT7⟩ := Is.prS ip
    refine ⟨fun σ' H' => ∃ m', m' < fixN full f * (seeds.length + 1) + (W' ++ [p]).length ∧ Wm m' σ' H', fun _ _ h => h, ?_⟩
    walk_at "vc"
    refine w_bm0 ?_
    walk_at "vc"
    refine ⟨⟨wa, _, rfl, h7w⟩, wa, _, .ref T7, rfl, rfl, h7w, by simp, ?_⟩
    rw [List.dropLast_concat]
    have S8 := S7.put (.lst wv') m6w (.inl hwa0)
    have h8 : upd H7 wa (.lst wv') d1 = some (.dK (kdS f full)) := by rw [upd_ne (fun z => hwd z.symm)]; exact h7
    have h8w : upd H7 wa (.lst wv') wa = some (.lst wv') := upd_same
    generalize upd H7 wa (.lst wv') = H8 at S8 h8 h8w ⊢
    refine ⟨T7, _, rfl, SqT.of (S8.mh _ _ hT7), rfl, ?_⟩
    walk_at "vc"
    obtain ⟨r1, u1⟩ := Up.ex' F6 hp1
    obtain ⟨r2, u2⟩ := Up.ex' F6 hp2
    refine ⟨d1, p.1, full, f, r1, rfl, by omega, F6, hp1, u1, M6, S8.mh, m6, h8, ?_⟩
    intro f1 H9 T9 h9 F9 U9 X9
    have S9 := S8.mine hd0' T9
    have h9w := T9.hh _ _ hwd h8w
    walk_at "vc"
    refine ⟨d1, p.2, full, f1, r2, rfl, by omega, F9, hp2, (U9 _ hp2 _).mp u2, M6, S9.mh, m6, h9, ?_⟩
    intro f2 H10 T10 h10 F10 U10 X10
    have S10 := S9.mine hd0' T10
    have h10w := T10.hh _ _ hwd h9w
    have X2 : fixN full f2 = fixN full f := X10.trans X9
    have U2 : ∀ y ∈ full, ∀ s, Up f y s ↔ Up f2 y s := fun y hy s => (U9 y hy s).trans (U10 y hy s)
    have k2 : Wk seeds full ps (Jn f2) (W' ++ [p]) := k6.same fun x hx y hy => ⟨fun ⟨r, a, b⟩ => ⟨r, (U2 x hx r).mp a, (U2 y hy r).mp b⟩, fun ⟨r, a, b⟩ => ⟨r, (U2 x hx r).mpr a, (U2 y hy r).mpr b⟩⟩
    have v1 := (U2 _ hp1 _).mp u1
    have v2 := (U2 _ hp2 _).mp u2
    have mW : ∀ q ∈ W' ++ [p], q = p ∨ q ∈ W' := fun q hq => by
      rcases List.mem_append.mp hq with z | z
      · exact .inr z
      · exact .inl (List.mem_singleton.mp z)
    rw [List.length_append] at hb6
    rw [List.length_singleton] at hb6
    walk_at "vc"
    refine ifnd (fun q1 => ?_) (fun q1 => ?_)
    · -- two roots
      obtain ⟨mx, mn, emx, emn, lt, hor⟩ : ∃ mx mn, (if Lt r1 r2 then r2 else r1) = mx ∧ (if Lt r2 r1 then r2 else r1) = mn ∧ Lt mn mx ∧ ((mx = r1 ∧ mn = r2) ∨ (mx = r2 ∧ mn = r1)) := by
        rcases Lt.tri r1 r2 with t | t | t
        · exact ⟨r2, r1, if_pos t, if_neg fun z => Lt.irrefl _ (t.trans z), t, .inr ⟨rfl, rfl⟩⟩
        · exact absurd t q1
        · exact ⟨r1, r2, if_neg fun z => Lt.irrefl _ (t.trans z), if_pos t, t, .inl ⟨rfl, rfl⟩⟩
      have hmxf : mx ∈ full := by
        rcases hor with ⟨rfl, _⟩ | ⟨rfl, _⟩
        · exact v1.mem F10 hp1
        · exact v2.mem F10 hp2
      have hmnf : mn ∈ full := by
        rcases hor with ⟨_, rfl⟩ | ⟨_, rfl⟩
        · exact v2.mem F10 hp2
        · exact v1.mem F10 hp1
      have rmx : f2 mx = mx := by
        rcases hor with ⟨rfl, _⟩ | ⟨rfl, _⟩
        · exact v1.root
        · exact v2.root
      have rmn : f2 mn = mn := by
        rcases hor with ⟨_, rfl⟩ | ⟨_, rfl⟩
        · exact v2.root
        · exact v1.root
      have hpp : (Up f2 p.1 mx ∧ Up f2 p.2 mn) ∨ (Up f2 p.1 mn ∧ Up f2 p.2 mx) := by
        rcases hor with ⟨rfl, rfl⟩ | ⟨rfl, rfl⟩
        · exact .inl ⟨v1, v2⟩
        · exact .inr ⟨v1, v2⟩
      obtain ⟨j1, j2, j3⟩ := Jn.union rmx rmn lt F10 hmnf hpp
      have F11 := F10.union rmx rmn lt hmnf
      have X11 := fix_union rmx rmn lt hmxf
      rw [X2] at X11
      walk_at "vc"
      refine w_min2s ?_
      rw [emn]
      walk_at "vc"
      refine w_max2 ?_
      rw [emx]
      refine ⟨d1, _, rfl, DPut.k (k := Sum.inr mx) h10 (by rw [kd_len]; exact line_lt (by omega)), ?_⟩
      rw [kd_put1 hmxf]
      have S11 := S10.put (.dK (kdS (put1 f2 mx mn) full)) m6 (.inl hd0')
      have h11 : upd H10 d1 (.dK (kdS (put1 f2 mx mn) full)) d1 = some (.dK (kdS (put1 f2 mx mn) full)) := upd_same
      have h11w : upd H10 d1 (.dK (kdS (put1 f2 mx mn) full)) wa = some (.lst wv') := by rw [upd_ne hwd]; exact h10w
      generalize upd H10 d1 (.dK (kdS (put1 f2 mx mn) full)) = H11 at S11 h11 h11w ⊢
      walk_at "vc"
      refine ⟨⟨wa, wv', rfl, h11w⟩, ?_⟩
      walk_at "vc"
      have hsa6 := s46 _ _ hsa
      refine ⟨sa, rfl, ⟨_, SqL.of (S11.mh _ _ hsa6)⟩, ?_⟩
      refine lc_go (ex := no) walkL S11.mh (fun n acc M' => IsA M' ((seeds.take n).map fun s => prD (ovr s p.1, ovr s p.2)) acc) rfl (fun _ _ S => S.mh _ _ (S.mm _ _ hsa6)) ?_ ?_
      · rintro n y acc M12 H12 H12' D hn S12 hD m12 h12 ia ⟨rfl, hy⟩
        obtain ⟨sd, hsd, rfl⟩ := map_at hy
        have hsdl := F.sl sd (mem_of_get hsd)
        have hal := ia.len
        rw [List.length_map, List.length_take] at hal
        have hsn := F.sn
        walk_at "vc"
        refine ⟨rfl, ?_⟩
        refine w_yesI ?_
        walk_at "vc"
        refine ⟨sd, p.1, rfl, M12, S12.mh, by omega, ?_⟩
        rintro v13 M13 H13 S13 rfl
        obtain ⟨m13, h13⟩ := S13.keep m12 h12
        walk_at "vc"
        refine ⟨sd, p.2, rfl, M13, S13.mh, by omega, ?_⟩
        rintro v14 M14 H14 S14 rfl
        obtain ⟨m14, h14⟩ := S14.keep m13 h13
        walk_at "vc"
        intro T2 hT2
        have S15 := ((S12.trans S13).trans S14).lay (.tup [.str (ovr sd p.1), .str (ovr sd p.2)]) hT2
        have neT : D ≠ T2 := fun q => by rw [← q, h14] at hT2; cases hT2
        refine LcA.of hD S15 (by rw [upd_ne neT]; exact m14) (upd_old h14 hT2) (by omega) ?_
        rw [tk_snoc hsd, List.map_append]
        have mm : Same M12 (upd M14 T2 (.tup [.str (ovr sd p.1), .str (ovr sd p.2)])) := (S13.mm.trans S14.mm).trans (same_upd (none_of_same S14.mh hT2))
        exact IsA.snoc (d := prD (ovr sd p.1, ovr sd p.2)) (show Is _ (prD (ovr sd p.1, ovr sd p.2)) _ from ⟨T2, _, rfl, upd_same, .str _, [.str _], rfl, rfl, .str _, [], rfl, rfl, rfl⟩) (ia.mono mm)
      · rintro D acc M12 H12 hD S12 m12 h12 ia
        rw [List.length_map, tk_all] at ia
        have hal := ia.len
        rw [List.length_map] at hal
        have hwl' := i7.len
        rw [List.length_map] at hwl'
        obtain ⟨m12d, h12d⟩ := S12.keep m6 h11
        obtain ⟨m12w, h12w⟩ := S12.keep m6w h11w
        have hsn := F.sn
        refine ⟨wa, D, wv', acc, rfl, rfl, h12w, h12, line_of (by omega), ?_⟩
        have S13 := (S11.trans S12).put (.lst (wv' ++ acc)) m12w (.inl hwa0)
        refine ⟨_, ?_, put1 f2 mx mn, W' ++ seeds.map fun s => (ovr s p.1, ovr s p.2), M12, rfl, _, _, _, _, _, _, _, rfl, S13, s46.trans S12.mm, m12d, m12w, by rw [upd_ne (fun z => hwd z.symm)]; exact h12d, upd_same, ?_, F11, ?_, ?_⟩
        · rw [List.length_append, List.length_append, List.length_map, List.length_singleton]
          have h1 : (fixN full (put1 f2 mx mn) + 1) * (seeds.length + 1) ≤ fixN full f * (seeds.length + 1) := Nat.mul_le_mul_right _ X11
          rw [Nat.add_mul, Nat.one_mul] at h1
          omega
        · rw [List.map_append, List.map_map]
          exact IsA.app ia (i7.mono S12.mm)
        · refine k2.join (W' := W' ++ seeds.map fun s => (ovr s p.1, ovr s p.2)) F.cl (p := p) (by simp) (Jn.on F11) j1 j2 (fun x hx y hy j => j3 x hx y hy j hp1 hp2) (fun q hq => ?_) (fun q hq => ?_) (fun s hs => ?_)
          · rcases mW q hq with z | z
            · exact .inl z
            · exact .inr (List.mem_append_left _ z)
          · rcases List.mem_append.mp hq with z | z
            · exact .inl (List.mem_append_left _ z)
            · obtain ⟨s, hs, rfl⟩ := List.mem_map.mp z
              exact .inr ⟨s, hs, rfl⟩
          · exact List.mem_append_right _ (List.mem_map.mpr ⟨s, hs, rfl⟩)
        · rw [List.length_append, List.length_map]
          have h1 : (fixN full (put1 f2 mx mn) + 1) * seeds.length ≤ fixN full f * seeds.length := Nat.mul_le_mul_right _ X11
          rw [Nat.add_mul, Nat.one_mul] at h1
          omega
    · -- one root
      have hj : Jn f2 p.1 p.2 := ⟨r1, v1, by rw [q1]; exact v2⟩
      walk_at "vc"
      refine ⟨_, ?_, f2, W', M6, rfl, _, _, _, _, _, _, _, rfl, S10, s46, m6, m6w, h10, h10w, i7, F10, k2.drop mW (fun q hq => List.mem_append_left _ hq) (by simp) hj, ?_⟩
      · rw [X2, List.length_append, List.length_singleton]; omega
      · rw [X2]; omega
  · -- nothing waits
    subst qW
    have hcg := k6.done F.cl hpf
    obtain ⟨N, hN⟩ := F6.names
    have hNe : ∀ e, LeE seeds full ps e → lst (eF N) full = lst e full := fun e he => lst_cong fun x hx y hy => by
      have h1 : Jn f x y ↔ N x = N y := ⟨fun ⟨r, p, q⟩ => ((hN x hx).det p).trans ((hN y hy).det q).symm, fun z => ⟨N x, hN x hx, by rw [z]; exact hN y hy⟩⟩
      have h2 := (hcg x hx y hy).symm.trans h1
      have h3 := (he x hx y hy).trans h2
      cases q : e x y with
      | true => exact decide_eq_true (h3.mp q)
      | false => exact decide_eq_false fun z => by rw [h3.mpr z] at q; cases q
    have kk : ∀ e, LeE seeds full ps e → RetL M H Q (lst (eF N) full) := fun e he => by rw [hNe e he]; exact k e he
    have he0 : LeE seeds full ps (eF N) := fun x hx y hy => by
      have h1 : Jn f x y ↔ N x = N y := ⟨fun ⟨r, p, q⟩ => ((hN x hx).det p).trans ((hN y hy).det q).symm, fun z => ⟨N x, hN x hx, by rw [z]; exact hN y hy⟩⟩
      rw [decide_eq_true_iff, ← hcg x hx y hy, h1]
    have k := k _ he0
    clear kk hNe
    walk_at "vc"
    intro e1 he1
    have he0 : H e1 = none := S7.hfree he1
    have mE : M6 e1 = none := S7.mfree he1
    have hed : d1 ≠ e1 := fun z => by rw [← z, h7] at he1; cases he1
    have S8 := S7.new (.dK []) he1
    have h8 := upd_old (u := HO.dK []) h7 he1
    have g0 : GrF N H M6 (upd H7 e1 (.dK [])) e1 [] [] [] := ⟨upd_same, rfl, trivial, by simp, mE, trivial⟩
    generalize upd H7 e1 (.dK []) = H8 at S8 h8 g0 ⊢
    have hfa6 := s46 _ _ hfa4
    walk_at "vc"
    refine ⟨fa, rfl, ⟨_, SqL.of (S8.mh _ _ hfa6)⟩, ?_⟩
    refine fo_go walkL (fun i σ' H' => ∃ (o4 : Option V) (M' : Hp) (f' : Str → Str) (ks : List Str) (rs : List Addr), σ' = [some (.ref a), some (.ref va), some (.ref fa), some (.ref d1), o4, some (.ref sa), some (.ref wa), o7, o8, o9, o10, o11, some (.ref e1)] ∧ Stp no M H M' H' ∧ Same M6 M' ∧ M' d1 = none ∧ H' d1 = some (.dK (kdS f' full)) ∧ Frs full f' ∧ (∀ x ∈ full, Up f' x (N x)) ∧
      GrF N H M' H' e1 ks rs (lst (eF N) (full.take i)) ∧ ks.length ≤ i)
      ⟨_, M6, f, [], [], rfl, S8, Same.refl _, m6, h8, F6, hN, g0, Nat.le_refl _⟩ (fun _ _ _ _ ⟨_, _, _, _, _, _, S, s, _⟩ => S.mh _ _ (s _ _ hfa6)) ?_ ?_
    · rintro i y σ9 H9 H9' hi ⟨o4, M9, f', ks, rs, rfl, S9, s9, m9, h9, F9, hN9, G9, hk9⟩ ⟨rfl, hy⟩
      obtain ⟨r, hr', rfl⟩ := map_at hy
      have hrm := mem_of_get hr'
      rw [List.length_map] at hi
      walk_at "vc"
      unfold tDSetd
      walk_at "vc"
      refine ⟨e1, rfl, .inl ⟨_, .inl G9.dk⟩, ?_⟩
      walk_at "vc"
      refine ⟨d1, r, full, f', N r, rfl, by omega, F9, hrm, hN9 r hrm, M9, S9.mh, m9, h9, ?_⟩
      intro f'' H10 T10 h10 F10 U10 _
      have S10 := S9.mine hd0' T10
      have G10 : GrF N H M9 H10 e1 ks rs (lst (eF N) (full.take i)) := G9.step fun b hb o m e => ⟨m, T10.hh b o (fun z => by
        have z' : b = d1 := z
        subst z'
        rcases hb with hb | hb
        · exact hed hb
        · exact G9.ol.ndK h9 hb) e⟩
      walk_at "vc"
      intro p hp
      have hlt : ∀ g ∈ lst (eF N) (full.take i), g.length ≤ 100000 := fun g hg => by
        have h1 := (List.sublist_flatten_of_mem hg).length_le
        rw [(lst_flat _ _).length_eq, List.length_take] at h1
        omega
      obtain ⟨kvs, k', z1, z2, z3, z4, z5⟩ := G10.setd' (r := r) S10 he0 hp (by omega) hlt
      have h10' : ∀ {H4 : Hp} {b : Addr} {g : List Str}, H4 b = some (.lst (g.map V.str)) → (∀ x o, x ≠ e1 → H10 x = some o → H4 x = some o) → ∀ o, upd H4 b o d1 = some (.dK (kdS f'' full)) := fun {H4 b g} hb hx o => by
        have h1 := hx _ _ hed h10
        rw [upd_ne (fun z => by rw [← z, h1] at hb; cases hb)]
        exact h1
      have fin : ∀ {x : Str}, x ∈ full → Up f'' x (N x) := fun {x} hx => (U10 x hx _).mp (hN9 x hx)
      refine ⟨kvs, k', z1, z2, z3, fun v hv => ?_, fun hv => ?_⟩
      · obtain ⟨b, g, rfl, h11, hgl, hx, ks', rs', S12, G12, hk12⟩ := z4 v hv
        refine ⟨⟨b, _, rfl, h11⟩, ?_⟩
        walk_at "vc"
        refine ⟨b, _, _, rfl, rfl, h11, line_lt (by rw [List.length_map]; omega), ?_⟩
        rw [← lst_snoc, ← tk_snoc hr'] at G12
        have h13 := h10' h11 hx (.lst ((g ++ [r]).map V.str))
        rw [show g.map V.str ++ [V.str r] = (g ++ [r]).map V.str by simp]
        exact ⟨_, M9, f'', ks', rs', rfl, S12, s9, m9, h13, F10, fun x hx => fin hx, G12, by omega⟩
      · obtain ⟨b, g, eb, h11, hgl, hx, ks', rs', S12, G12, hk12⟩ := z5 hv
        obtain rfl : p = b := by cases eb; rfl
        refine ⟨⟨p, _, rfl, h11⟩, ?_⟩
        walk_at "vc"
        refine ⟨p, _, _, rfl, rfl, h11, line_lt (by rw [List.length_map]; omega), ?_⟩
        rw [← lst_snoc, ← tk_snoc hr'] at G12
        have h13 := h10' h11 hx (.lst ((g ++ [r]).map V.str))
        rw [show g.map V.str ++ [V.str r] = (g ++ [r]).map V.str by simp]
        exact ⟨_, M9, f'', ks', rs', rfl, S12, s9, m9, h13, F10, fun x hx => fin hx, G12, by omega⟩
    · rintro σ1 H1' ⟨o4, M9, f', ks, rs, rfl, S9, s9, m9, h9, F9, hN9, G9, hk9⟩
      rw [List.length_map, tk_all] at G9
      rw [List.length_map] at hk9
      have hrl := G9.hl
      walk_at "vc"
      refine ⟨e1, _, G9.dk, trivial, fun od => ?_⟩
      have S10 := S9.put (.frz od (.dK (zk ks rs))) G9.md (.inl he0)
      have h2 : upd H1' e1 (.frz od (.dK (zk ks rs))) e1 = some (.frz od (.dK (zk ks rs))) := upd_same
      have ol2 : OL H M9 (upd H1' e1 (.frz od (.dK (zk ks rs)))) rs (lst (eF N) full) := G9.ol.step fun a ha o m e => ⟨m, by rw [upd_ne (ne_mem G9.dr ha)]; exact e⟩
      generalize upd H1' e1 (.frz od (.dK (zk ks rs))) = H10 at S10 h2 ol2 ⊢
      walk_at "vc"
      refine ⟨.ref e1, rfl, e1, od, rfl, .inl ⟨_, h2, ?_⟩⟩
      have Wk1 : Walk (Itk e1 od (zk ks rs)) ks.length (fun H => H e1 = some (.frz od (.dK (zk ks rs)))) (fun i H v H' => H' = H ∧ ∃ (x : Str), ks[i]? = some x ∧ v = .str x) :=
        ⟨fun i H hi h => ⟨h, by rw [zk_len G9.hl]; exact hi⟩, fun H h => ⟨h, by rw [zk_len G9.hl]; exact Nat.le_refl _⟩, fun i H v H' hi h ⟨e, k0, v0, h1, h2⟩ => by
          obtain ⟨x, a, e1, e2, e3, e4⟩ := zk_at G9.hl h1
          subst e3
          exact ⟨e, x, e1, h2⟩⟩
      refine lc_go (ex := no) Wk1 S10.mh (fun i acc _ => acc = (rs.take i).map V.ref) rfl (fun M' H' S => (S.keep G9.md h2).2) ?_ ?_
      · rintro i y acc M11 H11 H11' D hi S11 hD m11 h11 rfl ⟨rfl, x, hx, rfl⟩
        have hir : i < rs.length := by rw [G9.hl]; exact hi
        have hra := List.getElem?_eq_getElem hir
        walk_at "vc"
        refine ⟨rfl, ?_⟩
        refine w_yesI ?_
        walk_at "vc"
        have hv : valV (zk ks rs) (Sum.inr x) = some (.ref rs[i]) := by
          rcases zk_val x G9.hl with ⟨j, a, h4, h5, h6⟩ | ⟨h4, _⟩
          · have e : i = j := nodup_at G9.kf.nd hx h4
            subst e
            rw [hra] at h5
            cases h5
            exact h6
          · exact absurd (mem_of_get hx) h4
        refine ⟨e1, .ref rs[i], rfl, ?_, ?_⟩
        · rw [← hv]
          exact .inl ⟨_, Sum.inr x, .inr ⟨od, (S11.keep G9.md h2).2⟩, rfl, rfl⟩
        · exact LcA.of hD S11 m11 h11 (by rw [List.length_map, List.length_take]; omega) (by rw [tkm hra])
      · rintro D acc M11 H11 hD S11 m11 h11 rfl
        have e0 : rs.take ks.length = rs := List.take_of_length_le (by rw [G9.hl]; exact Nat.le_refl _)
        rw [e0] at h11
        have m3d := (S11.keep G9.md h2).1
        have S12 := (S10.trans S11).put (.dK (zk ks rs)) m3d (.inl he0)
        have ol4 : OL H M11 (upd H11 e1 (.dK (zk ks rs))) rs (lst (eF N) full) := (ol2.step (fun a _ o m e => S11.keep m e)).step fun a ha o m e => ⟨m, by rw [upd_ne (ne_mem G9.dr ha)]; exact e⟩
        have hDd : D ≠ e1 := fun z => by rw [z, h2] at hD; cases hD
        have hDr : D ∉ rs := fun z => by obtain ⟨_, _, o, e⟩ := ol2.mem z; rw [hD] at e; cases e
        exact ⟨(S11.keep G9.md h2).2, k D rs M11 _ S12 (S10.hfree hD) m11 (by rw [upd_ne hDd]; exact h11) ol4 hDr⟩
end
end Nt
namespace Nt
section
variable {P : Program} {w : World} {K : PySem.W.Frag} {mg : Str → Option Value} {base : Heap}
theorem kd_congr {f g : Str → Str} {full : List Str} (h : ∀ x ∈ full, f x = g x) : kdS f full = kdS g full := by
  unfold kdS kd
  exact List.map_congr_left fun x hx => by
    show (Sum.inr x, V.str (f x)) = (Sum.inr x, V.str (g x))
    rw [h x hx]
theorem ren_gn {full : List Str} {f : Str → Str} {p : Str × Str} (hp1 : p.1 ∈ full) (hp2 : p.2 ∈ full) (ne : f p.1 ≠ f p.2) :
    (∀ x ∈ full, ∀ y ∈ full, f x = f y → ren f (f p.1) (f p.2) x = ren f (f p.1) (f p.2) y) ∧ ren f (f p.1) (f p.2) p.1 = ren f (f p.1) (f p.2) p.2 ∧
      ∀ x ∈ full, ∀ y ∈ full, ren f (f p.1) (f p.2) x = ren f (f p.1) (f p.2) y → Gn full (fun x y => f x = f y) [p] x y := by
  refine ⟨fun x _ y _ h => by unfold ren; rw [h], ?_, fun x hx y hy h => ?_⟩
  · show (if f p.1 = f p.2 then f p.1 else f p.1) = if f p.2 = f p.2 then f p.1 else f p.2
    rw [if_neg ne, if_pos rfl]
  · have h' : (if f x = f p.2 then f p.1 else f x) = if f y = f p.2 then f p.1 else f y := h
    have pq : Gn full (fun x y => f x = f y) [p] p.1 p.2 := .wait List.mem_cons_self
    by_cases c1 : f x = f p.2
    · by_cases c2 : f y = f p.2
      · exact .base hx hy (c1.trans c2.symm)
      · rw [if_pos c1, if_neg c2] at h'
        exact (Gn.base hx hp2 c1).trans (pq.symm.trans (.base hp1 hy h'))
    · by_cases c2 : f y = f p.2
      · rw [if_neg c1, if_pos c2] at h'
        exact (Gn.base hx hp1 h').trans (pq.trans (.base hp2 hy c2.symm))
      · rw [if_neg c1, if_neg c2] at h'
        exact .base hx hy h'
def sp_l_least_lumps : Sp := fun vs H Q _ => ∃ (u v x : V) (seeds full : List Str) (ps : List (Str × Str)), vs = [u, v, x] ∧ FlOk seeds full ∧ ps.length ≤ 100 ∧ (∀ p ∈ ps, p.1 ∈ full ∧ p.2 ∈ full) ∧
  ∃ M, Same M H ∧ Is M (dS seeds) u ∧ Is M (dS full) v ∧ Is M (.lst (ps.map prD)) x ∧ ∀ e, LeE seeds full ps e → Ret M H Q (lumpsD (lst e full))
theorem ok_l_least_lumps (T : Tx K mg) : Good P w K mg base CX0 2 (He.fAd K (He.DefD.at_ d_l_least_lumps)) p_l_least_lumps sp_l_least_lumps := by
  obtain ⟨fd, F⟩ := T.def_ 36 (d := d_l_least_lumps) rfl
  have g_l_over : Good P w K mg base CX0 1 (He.fAd K (He.DefD.at_ d_l_over)) p_l_over sp_l_over := ok_l_over T
  refine good_of F sc_l_least_lumps (fun _ _ _ _ _ _ us hl => match us, hl with | [_, _, _], _ => rfl) (by intro vs H Q E h; (repeat obtain ⟨_, h⟩ := h); subst_vars; rfl) fun cdv A outer s H vs Q E hr h => ?_
  have hu := hu_of hr
  refine ⟨_, (pss_cons (ps_set (i := 3) sc_l_least_lumps.nd rfl (Or.inl rfl) pe_dnewK)  (pss_cons (ps_for PassesOwn.never rfl (iq_list K (pv 1)) (pg_name (i := 4) sc_l_least_lumps.nd rfl (Or.inl rfl) (Or.inl rfl))  (pss_one (ps_dput hu (pv 3) (pv 4) (pv 4) rfl)))  (pss_cons (ps_set (i := 5) sc_l_least_lumps.nd rfl (Or.inl rfl) (pe_callTy cq_list (by rfl) T.b_list (by decide +kernel) (pa_cons (pv 2) pa_nil)))  (pss_cons (ps_for PassesOwn.never rfl (pi_range1 (by rfl) T.b_range (pa_cons (pe_op op_add (pe_callB cq_len (by rfl) T.b_len (by decide +kernel) (pa_cons (pv 2) pa_nil)) (pe_op op_mul (pe_callB cq_len (by rfl) T.b_len (by decide +kernel) (pa_cons (pv 1) pa_nil)) (pe_callB cq_len (by rfl) T.b_len (by decide +kernel) (pa_cons (pv 0) pa_nil)))) pa_nil)) (pg_name (i := 6) sc_l_least_lumps.nd rfl (Or.inl rfl) (Or.inl rfl))  (pss_one (ps_if (pt_cmpR op_lt (pv 6) (pe_callB cq_len (by rfl) T.b_len (by decide +kernel) (pa_cons (pv 5) pa_nil)) (nomark _))  (pss_cons (ps_asg (pe_ix xq_list (pv 5) (pv 6) (fun _ _ => rfl)) (gq_tup K (n := 2) rfl (pgs_cons (pg_name (i := 7) sc_l_least_lumps.nd rfl (Or.inr rfl) (Or.inl rfl)) (pgs_cons (pg_name (i := 8) sc_l_least_lumps.nd rfl (Or.inr rfl) (Or.inl rfl)) pgs_nil))))  (pss_one (ps_if (pt_cmpR op_ne (pe_dget hu (pv 3) (pv 7) (fun _ _ => rfl)) (pe_dget hu (pv 3) (pv 8) (fun _ _ => rfl)) (nomark _))  (pss_cons (ps_par (i := 9) (j := 10) rfl sc_l_least_lumps.nd rfl rfl (by decide) rfl rfl (pa_cons (pe_dget hu (pv 3) (pv 7) (fun _ _ => rfl)) (pa_cons (pe_dget hu (pv 3) (pv 8) (fun _ _ => rfl)) pa_nil)) (by rfl))  (pss_cons (ps_for PassesOwn.never rfl (iq_list K (pv 1)) (pg_name (i := 4) sc_l_least_lumps.nd rfl (Or.inl rfl) (Or.inl rfl))  (pss_one (ps_if (pt_cmpR op_eq (pe_dget hu (pv 3) (pv 4) (fun _ _ => rfl)) (pv 10) (nomark _))  (pss_one (ps_dput hu (pv 3) (pv 4) (pv 9) rfl))  pss_nil)))  (pss_one (ps_set (i := 5) sc_l_least_lumps.nd rfl (Or.inl rfl) (pe_op op_cat (pv 5) (pe_lc (own := [("_law_seed", 11)]) (by rfl) sc_l_least_lumps.nd (iq_list K (pv 0)) (blkOk_by (own := [("_law_seed", 11)]) (N := n_l_least_lumps) (sc := He.DefD.scope d_l_least_lumps) (by decide +kernel)) (fun _ _ _ _ _ => (pg_name (i := 11) sc_l_least_lumps.nd rfl (Or.inl rfl) (Or.inr rfl))) (fun _ _ _ _ _ => pts_nil) (fun _ _ _ _ _ => (pe_tup (pa_cons (pe_good g_l_over (hr.mono (by decide)) rfl T.m_l_over (pa_cons (pv 11) (pa_cons (pv 7) pa_nil))) (pa_cons (pe_good g_l_over (hr.mono (by decide)) rfl T.m_l_over (pa_cons (pv 11) (pa_cons (pv 8) pa_nil))) pa_nil))))))))))  pss_nil)))  pss_nil)))  (pss_cons (ps_set (i := 12) sc_l_least_lumps.nd rfl (Or.inr rfl) pe_dnewK)  (pss_cons (ps_for PassesOwn.never rfl (iq_list K (pv 1)) (pg_name (i := 4) sc_l_least_lumps.nd rfl (Or.inl rfl) (Or.inl rfl))  (pss_cons (ps_set (i := 13) sc_l_least_lumps.nd rfl (Or.inl rfl) (pe_dsetd (pv 12) (pe_dget hu (pv 3) (pv 4) (fun _ _ => rfl)) (pe_lst pa_nil) ⟨rfl, rfl, rfl, rfl⟩))  (pss_one (ps_expr (eq_bm PySem.F.slot_list_append PySem.F.type_list_append mt_append (pv 13) (pa_cons (pv 4) pa_nil))))))  (pss_one (ps_ret (pe_lock (pe_lc (own := [("_law_one", 7)]) (by rfl) sc_l_least_lumps.nd (pi_keys (pv 12)) (blkOk_by (own := [("_law_one", 7)]) (N := n_l_least_lumps) (sc := He.DefD.scope d_l_least_lumps) (by decide +kernel)) (fun _ _ _ _ _ => (pg_name (i := 7) sc_l_least_lumps.nd rfl (Or.inl rfl) (Or.inr rfl))) (fun _ _ _ _ _ => pts_nil) (fun _ _ _ _ _ => (pe_dget hu (pv 12) (pv 7) (fun _ _ => rfl))))))))))))), ?_⟩
  obtain ⟨u, v, x, seeds, full, ps, rfl, F, hpl, hpm, M, s0, iu, iv, ix, k⟩ := h
  have hf := F.ln
  have hnd := F.nd
  have hsl := F.sn
  have hcl := F.cl
  have hsn : ∀ s ∈ seeds, s.length ≤ 1000 := fun s hs => Nat.le_trans (F.sl s hs) (by decide)
  obtain ⟨ua, rfl, hua⟩ := id iu.strs
  obtain ⟨va, rfl, hva⟩ := id iv.strs
  obtain ⟨xa, xs, rfl, hxa, ixa⟩ := id ix
  walk_at "vc"
  intro d hd
  have S0 := (Stp.refl (ex := no) s0).new (.dK []) hd
  have hM0 : M d = none := (Stp.refl (ex := no) s0).mfree hd
  have h0 : upd H d (.dK []) d = some (.dK (kd (fun r => V.str r) [])) := upd_same
  generalize upd H d (.dK []) = H0 at S0 h0 ⊢
  walk_at "vc"
  refine ⟨va, rfl, ⟨_, SqL.of (S0.mh _ _ hva)⟩, ?_⟩
  let I1 : Nat → L2.St → Hp → Prop := fun i σ' H' => ∃ o4 o5 o6 o7 o8 o9 o10 o11 o12 o13, σ' = [some (.ref ua), some (.ref va), some (.ref xa), some (.ref d), o4, o5, o6, o7, o8, o9, o10, o11, o12, o13] ∧ Stp no M H M H' ∧ H' d = some (.dK (kd (fun r => V.str r) (full.take i)))
  refine fo_go walkL (fun i σ' H' => I1 i σ' H') ⟨_, _, _, _, _, _, _, _, _, _, rfl, S0, h0⟩ (fun i σ' H' _ ⟨_, _, _, _, _, _, _, _, _, _, _, S, _⟩ => S.mh _ _ hva) ?_ ?_
  · rintro i y σ1 H1 H1' hi ⟨o4, o5, o6, o7, o8, o9, o10, o11, o12, o13, rfl, S1, h1⟩ ⟨rfl, hy⟩
    obtain ⟨r, hr', rfl⟩ := map_at hy
    walk_at "vc"
    refine kd_set (f := fun r => V.str r) h1 ?_ (by rw [List.length_take]; omega) rfl ?_
    · intro z
      have nd := List.Sublist.nodup (List.take_sublist (i + 1) full) hnd
      rw [tk_snoc hr', List.nodup_append] at nd
      exact nd.2.2 _ z _ List.mem_cons_self rfl
    · exact ⟨_, _, _, _, _, _, _, _, _, _, rfl, S1.put _ hM0 (.inl hd), by rw [upd_same, tk_snoc hr']⟩
  rintro σ1 H1 ⟨o4, o5, o6, o7, o8, o9, o10, o11, o12, o13, rfl, S1, h1⟩
  rw [List.length_map, tk_all] at h1
  walk_at "vc"
  refine ⟨xa, xs, rfl, .inl (S1.mh _ _ hxa), fun t ht => ?_⟩
  have S2 := S1.lay (.lst xs) ht
  have hM2t : upd M t (.lst xs) t = some (.lst xs) := upd_same
  have mt : M t = none := S1.mfree ht
  have hdt : d ≠ t := fun z => by rw [← z, h1] at ht; cases ht
  have hM2d : upd M t (.lst xs) d = none := by rw [upd_ne hdt]; exact hM0
  have h2 : upd H1 t (.lst xs) d = some (.dK (kd (fun r => V.str r) full)) := upd_old h1 ht
  have ia2 : IsA (upd M t (.lst xs)) (ps.map prD) xs := ixa.mono (same_new mt)
  have hxl := ixa.len
  rw [List.length_map] at hxl
  generalize upd M t (.lst xs) = M2 at S2 hM2t hM2d ia2
  generalize upd H1 t (.lst xs) = H2 at S2 h2 ⊢
  walk_at "vc"
  refine ⟨xa, xs, rfl, .inl (S2.mh _ _ (S2.mm _ _ hxa)), ?_⟩
  walk_at "vc"
  refine ⟨va, _, rfl, .inl (S2.mh _ _ (S2.mm _ _ hva)), ?_⟩
  walk_at "vc"
  refine ⟨ua, _, rfl, .inl (S2.mh _ _ (S2.mm _ _ hua)), ?_⟩
  rw [List.length_map, List.length_map, hxl]
  walk_at "vc"
  have en : ((ps.length : Nat) : Int) + ((full.length : Nat) : Int) * ((seeds.length : Nat) : Int) = ((ps.length + full.length * seeds.length : Nat) : Int) := by simp
  refine w_mulR (by omega) ?_
  walk_at "vc"
  rw [en]
  have hnb : ps.length + full.length * seeds.length ≤ 4100 := by
    have := Nat.mul_le_mul hf hsl
    omega
  have hN0 := Nat.mul_le_mul_right seeds.length (fixN_le full fun x => x)
  have hNe : ps.length + full.length * seeds.length = ps.length + full.length * seeds.length := rfl
  generalize hNN : ps.length + full.length * seeds.length = N at hnb
  refine w_r1 (n := N) (by omega) ?_
  rw [Int.toNat_natCast]
  let I2 : Nat → L2.St → Hp → Prop := fun i σ' H' => ∃ (o4 o6 o7 o8 o9 o10 o11 o12 o13 : Option V) (t : Addr) (tl : List V) (M' : Hp) (f : Str → Str) (qs : List (Str × Str)), σ' = [some (.ref ua), some (.ref va), some (.ref xa), some (.ref d), o4, some (.ref t), o6, o7, o8, o9, o10, o11, o12, o13] ∧ Stp no M H M' H' ∧ M' d = none ∧ H' d = some (.dK (kdS f full)) ∧ M' t = some (.lst tl) ∧ IsA M' (qs.map prD) tl ∧ Nm full f ∧ Wk seeds full ps (fun x y => f x = f y) (qs.drop i) ∧ qs.length + fixN full f * seeds.length ≤ N
  refine fo_go walkR (fun i σ' H' => I2 i σ' H') ⟨_, _, _, _, _, _, _, _, _, t, xs, M2, fun x => x, ps, rfl, S2, hM2d, h2, hM2t, ia2, ⟨fun _ h => h, fun _ _ => rfl⟩, Wk.start (eq_on full _) (fun _ _ _ _ h => h) hpm, by omega⟩ (fun _ _ _ _ _ => trivial) ?_ ?_
  · rintro i y σ3 H3 H3' hi ⟨o4, o6, o7, o8, o9, o10, o11, o12, o13, t3, tl, M3, f, qs, rfl, S3, m3, h3, ht3, ia3, nm3, k3, hl3⟩ ⟨rfl, rfl⟩
    have htl := ia3.len
    rw [List.length_map] at htl
    walk_at "vc"
    refine ⟨t3, tl, rfl, .inl (S3.mh _ _ ht3), ?_⟩
    walk_at "vc"
    refine ifd (fun q => ?_) (fun q => ?_)
    · have hit : i < tl.length := by omega
      obtain ⟨v0, hv0⟩ : ∃ v, tl[i]? = some v := ⟨_, List.getElem?_eq_getElem hit⟩
      obtain ⟨e, he, ie⟩ := ia3.get hv0
      rw [List.getElem?_map] at he
      obtain ⟨pq, hpq, rfl⟩ : ∃ pq, qs[i]? = some pq ∧ e = prD pq := by
        cases z : qs[i]? with
        | none => rw [z] at he; cases he
        | some pq => rw [z] at he; cases he; exact ⟨pq, rfl, rfl⟩
      obtain ⟨T, rfl, hT⟩ := Is.prS ie
      have hdr : qs.drop i = pq :: qs.drop (i + 1) := by
        obtain ⟨hlt, e⟩ := List.getElem?_eq_some_iff.mp hpq
        rw [List.drop_eq_getElem_cons hlt, e]
      obtain ⟨hp1, hp2⟩ := k3.wf pq (by rw [hdr]; exact List.mem_cons_self)
      walk_at "vc"
      refine w_ixl (S3.mh _ _ ht3) (atI_nat hv0) ?_
      refine ⟨T, _, rfl, SqT.of (S3.mh _ _ hT), rfl, ?_⟩
      walk_at "vc"
      refine kd_get (f := fun r => V.str (f r)) h3 hp1 ?_
      walk_at "vc"
      refine kd_get (f := fun r => V.str (f r)) h3 hp2 ?_
      walk_at "vc"
      refine ifnd (fun q2 => ?_) (fun q2 => ?_)
      · walk_at "vc"
        refine kd_get (f := fun r => V.str (f r)) h3 hp1 ?_
        walk_at "vc"
        refine kd_get (f := fun r => V.str (f r)) h3 hp2 ?_
        walk_at "vc"
        refine ⟨va, rfl, ⟨_, SqL.of (S3.mh _ _ (S3.mm _ _ hva))⟩, ?_⟩
        let J : Nat → L2.St → Hp → Prop := fun n σ' H' => ∃ (o4 o11 o12 o13 : Option V) (f' : Str → Str), σ' = [some (.ref ua), some (.ref va), some (.ref xa), some (.ref d), o4, some (.ref t3), some (.int (i : Nat)), some (.str pq.1), some (.str pq.2), some (.str (f pq.1)), some (.str (f pq.2)), o11, o12, o13] ∧ Stp no M H M3 H' ∧ H' d = some (.dK (kdS f' full)) ∧ ∀ x, f' x = if x ∈ full.take n ∧ f x = f pq.2 then f pq.1 else f x
        refine fo_go walkL (fun n σ' H' => J n σ' H') ⟨_, _, _, _, f, rfl, S3, h3, fun x => by rw [if_neg (by simp)]⟩ (fun n σ' H' _ ⟨_, _, _, _, _, _, S, _⟩ => S.mh _ _ (S.mm _ _ hva)) ?_ ?_
        · rintro n y σ4 H4 H4' hn ⟨p4, p11, p12, p13, f4, rfl, S4, h4, e4⟩ ⟨rfl, hy4⟩
          obtain ⟨r, hr', rfl⟩ := map_at hy4
          have hrm := mem_of_get hr'
          walk_at "vc"
          refine kd_get (f := fun r => V.str (f4 r)) h4 hrm ?_
          have hni : r ∉ full.take n := by
            intro z
            have nd := List.Sublist.nodup (List.take_sublist (n + 1) full) hnd
            rw [tk_snoc hr', List.nodup_append] at nd
            exact nd.2.2 _ z _ List.mem_cons_self rfl
          have er : f4 r = f r := by rw [e4, if_neg fun z => hni z.1]
          walk_at "vc"
          refine ifd (fun q3 => ?_) (fun q3 => ?_)
          · walk_at "vc"
            refine ⟨d, _, rfl, DPut.k (k := Sum.inr r) h4 (by rw [kd_len]; exact line_lt (by omega)), ?_⟩
            rw [kd_put1 hrm]
            refine ⟨_, _, _, _, put1 f4 r (f pq.1), rfl, S4.put _ m3 (.inl hd), upd_same, fun x => ?_⟩
            rw [tk_snoc hr']
            by_cases z : x = r
            · subst z
              rw [put1_at, if_pos ⟨by simp, by rw [← er]; exact q3⟩]
            · rw [put1_ne z, e4]
              simp [z]
          · walk_at "vc"
            refine ⟨_, _, _, _, f4, rfl, S4, h4, fun x => ?_⟩
            rw [e4, tk_snoc hr']
            by_cases z : x = r
            · subst z
              rw [if_neg fun w => hni w.1, if_neg fun w => q3 (by rw [er]; exact w.2)]
            · simp [z]
        · rintro σ4 H4 ⟨p4, p11, p12, p13, f4, rfl, S4, h4, e4⟩
          rw [kd_congr (g := ren f (f pq.1) (f pq.2)) fun x hx => by
            rw [e4]
            simp [hx]] at h4
          obtain ⟨r1, r2, r3⟩ := ren_gn hp1 hp2 q2
          have nm4 := nm3.ren hp1 q2
          have hfx := nm3.fix hp1 hp2 q2
          have hfx2 : (fixN full (ren f (f pq.1) (f pq.2)) + 1) * seeds.length ≤ fixN full f * seeds.length := Nat.mul_le_mul_right _ hfx
          rw [Nat.add_mul, Nat.one_mul] at hfx2
          walk_at "vc"
          refine ⟨ua, rfl, ⟨_, SqL.of (S4.mh _ _ (S4.mm _ _ hua))⟩, ?_⟩
          refine lc_go (ex := no) walkL S4.mh (fun n acc M' => IsA M' ((seeds.take n).map fun s => prD (ovr s pq.1, ovr s pq.2)) acc) rfl (fun _ _ S => S.mh _ _ (S.mm _ _ (S4.mm _ _ hua))) ?_ ?_
          · rintro n y acc M5 H5 H5' D hn S5 hD m5 h5 ia5 ⟨rfl, hy5⟩
            obtain ⟨sd, hsd, rfl⟩ := map_at hy5
            have hsdl := hsn sd (mem_of_get hsd)
            have hal := ia5.len
            rw [List.length_map, List.length_take] at hal
            walk_at "vc"
            refine ⟨rfl, ?_⟩
            walk_at "vc"
            refine ⟨sd, pq.1, rfl, M5, S5.mh, hsdl, ?_⟩
            rintro v6 M6 H6 S6 rfl
            obtain ⟨m6, h6⟩ := S6.keep m5 h5
            walk_at "vc"
            refine ⟨sd, pq.2, rfl, M6, S6.mh, hsdl, ?_⟩
            rintro v7 M7 H7 S7 rfl
            obtain ⟨m7, h7⟩ := S7.keep m6 h6
            walk_at "vc"
            intro T2 hT2
            have S8 := ((S5.trans S6).trans S7).lay (.tup [.str (ovr sd pq.1), .str (ovr sd pq.2)]) hT2
            have neT : D ≠ T2 := fun q => by rw [← q, h7] at hT2; cases hT2
            refine LcA.of hD S8 (by rw [upd_ne neT]; exact m7) (upd_old h7 hT2) (by omega) ?_
            rw [tk_snoc hsd, List.map_append]
            have mm : Same M5 (upd M7 T2 (.tup [.str (ovr sd pq.1), .str (ovr sd pq.2)])) := (S6.mm.trans S7.mm).trans (same_new (none_of_same S7.mh hT2))
            exact IsA.snoc (d := prD (ovr sd pq.1, ovr sd pq.2)) (show Is _ (prD (ovr sd pq.1, ovr sd pq.2)) _ from ⟨T2, _, rfl, upd_same, .str _, [.str _], rfl, rfl, .str _, [], rfl, rfl, rfl⟩) (ia5.mono mm)
          · rintro D acc M5 H5 hD S5 m5 h5 ia5
            rw [List.length_map, tk_all] at ia5
            walk_at "vc"
            have hal := ia5.len
            rw [List.length_map] at hal
            obtain ⟨m5d, h5d⟩ := S5.keep m3 h4
            refine ⟨t3, D, tl, acc, rfl, rfl, S5.mh _ _ (S5.mm _ _ ht3), h5, line_of (by omega), fun p7 hp7 => ?_⟩
            have S6 := (S4.trans S5).lay (.lst (tl ++ acc)) hp7
            have hd7 : d ≠ p7 := fun z => by rw [← z, h5d] at hp7; cases hp7
            have mm : Same M5 (upd M5 p7 (.lst (tl ++ acc))) := same_new (none_of_same S5.mh hp7)
            walk_at "vc"
            refine ⟨_, _, _, _, _, _, _, _, _, p7, tl ++ acc, upd M5 p7 (.lst (tl ++ acc)), ren f (f pq.1) (f pq.2), qs ++ seeds.map fun s => (ovr s pq.1, ovr s pq.2), rfl, S6, by rw [upd_ne hd7]; exact m5d, upd_old h5d hp7, upd_same, ?_, nm4, ?_, ?_⟩
            · rw [List.map_append, List.map_map]
              exact IsA.app (ia5.mono mm) ((ia3.mono S5.mm).mono mm)
            · have hd2 : (qs ++ seeds.map fun s => (ovr s pq.1, ovr s pq.2)).drop (i + 1) = qs.drop (i + 1) ++ seeds.map fun s => (ovr s pq.1, ovr s pq.2) := by
                rw [List.drop_append_of_le_length (by omega)]
              rw [hd2]
              refine k3.join hcl (p := pq) (by rw [hdr]; exact List.mem_cons_self) (eq_on full _) r1 r2 r3 (fun q hq => ?_) (fun q hq => ?_) (fun s hs => List.mem_append_right _ (List.mem_map.mpr ⟨s, hs, rfl⟩))
              · rw [hdr] at hq
                rcases List.mem_cons.mp hq with z | z
                · exact .inl z
                · exact .inr (List.mem_append_left _ z)
              · rcases List.mem_append.mp hq with z | z
                · exact .inl (by rw [hdr]; exact List.mem_cons_of_mem _ z)
                · obtain ⟨s, hs, rfl⟩ := List.mem_map.mp z
                  exact .inr ⟨s, hs, rfl⟩
            · rw [List.length_append, List.length_map]
              omega
      · walk_at "vc"
        exact ⟨_, _, _, _, _, _, _, _, _, t3, tl, M3, f, qs, rfl, S3, m3, h3, ht3, ia3, nm3, k3.drop (p := pq) (fun q hq => by rw [hdr] at hq; exact List.mem_cons.mp hq) (fun q hq => by rw [hdr]; exact List.mem_cons_of_mem _ hq) (by rw [hdr]; exact List.mem_cons_self) q2, hl3⟩
    · walk_at "vc"
      have e1 : qs.drop i = [] := List.drop_eq_nil_of_le (by omega)
      have e2 : qs.drop (i + 1) = [] := List.drop_eq_nil_of_le (by omega)
      exact ⟨_, _, _, _, _, _, _, _, _, t3, tl, M3, f, qs, rfl, S3, m3, h3, ht3, ia3, nm3, by rw [e2, ← e1]; exact k3, hl3⟩
  · rintro σ3 H3 ⟨o4, o6, o7, o8, o9, o10, o11, o12, o13, t3, tl, M3, f, qs, rfl, S3, m3, h3, ht3, ia3, nm3, k3, hl3⟩
    have k3' : Wk seeds full ps (fun x y => f x = f y) [] := by rw [← List.drop_eq_nil_of_le (show qs.length ≤ N by omega)]; exact k3
    have hcg := k3'.done hcl hpm
    have he0 : LeE seeds full ps (eF f) := fun x hx y hy => by
      rw [decide_eq_true_iff, ← hcg x hx y hy]
    have k := k _ he0
    have Fx := S3.fix h3 hd
    have hMd : upd M3 d (.dK (kdS f full)) d = some (.dK (kdS f full)) := upd_same
    generalize upd M3 d (.dK (kdS f full)) = M4 at Fx hMd
    walk_at "vc"
    intro e he
    have he0' : H e = none := Fx.hfree he
    have S5 := Fx.new (.dK []) he
    have hM5 : M4 e = none := Fx.mfree he
    have g0 : GrF f H M4 (upd H3 e (.dK [])) e [] [] [] := ⟨upd_same, rfl, trivial, by simp, hM5, trivial⟩
    generalize upd H3 e (.dK []) = H5 at S5 g0 ⊢
    walk_at "vc"
    refine ⟨va, rfl, ⟨_, SqL.of (S5.mh _ _ (S5.mm _ _ hva))⟩, ?_⟩
    let I : Nat → L2.St → Hp → Prop := fun i σ' H' => ∃ (o4 o5 o6 o7 o8 o9 o10 o11 o13 : Option V) (M' : Hp) (ks : List Str) (rs : List Addr), σ' = [some (.ref ua), some (.ref va), some (.ref xa), some (.ref d), o4, o5, o6, o7, o8, o9, o10, o11, some (.ref e), o13] ∧ Stp no M H M' H' ∧ GrF f H M' H' e ks rs (lst (eF f) (full.take i)) ∧ ks.length ≤ i ∧ M' d = some (.dK (kdS f full))
    refine fo_go walkL (fun i σ' H' => I i σ' H') ⟨_, _, _, _, _, _, _, _, _, M4, [], [], rfl, S5, g0, Nat.le_refl _, hMd⟩ (fun i σ' H' _ ⟨_, _, _, _, _, _, _, _, _, M', _, _, _, S, _⟩ => S.mh _ _ (S.mm _ _ hva)) ?_ ?_
    · rintro i y σ1 H1 H1' hi ⟨o4, o5, o6, o7, o8, o9, o10, o11, o13, M1, ks, rs, rfl, S1, G1, hk1, hd1⟩ ⟨rfl, hy⟩
      obtain ⟨r, hr', rfl⟩ := map_at hy
      rw [List.length_map] at hi
      walk_at "vc"
      unfold tDSetd
      walk_at "vc"
      refine ⟨e, rfl, .inl ⟨_, .inl G1.dk⟩, ?_⟩
      walk_at "vc"
      refine kd_get (f := fun r => V.str (f r)) (S1.mh _ _ hd1) (mem_of_get hr') ?_
      walk_at "vc"
      intro p hp
      have hlt : ∀ g ∈ lst (eF f) (full.take i), g.length ≤ 100000 := fun g hg => by
        have h1 := (List.sublist_flatten_of_mem hg).length_le
        rw [(lst_flat _ _).length_eq, List.length_take] at h1
        omega
      obtain ⟨kvs, k', z1, z2, z3, z4, z5⟩ := G1.setd' (r := r) S1 he0' hp (by omega) hlt
      refine ⟨kvs, k', z1, z2, z3, fun v hv => ?_, fun hv => ?_⟩
      · obtain ⟨b, g, rfl, h11, hgl, hx, ks', rs', S12, G12, hk12⟩ := z4 v hv
        walk_at "vc"
        refine ⟨⟨b, _, rfl, h11⟩, ?_⟩
        walk_at "vc"
        refine ⟨b, _, _, rfl, rfl, h11, line_lt (by rw [List.length_map]; omega), ?_⟩
        rw [← lst_snoc, ← tk_snoc hr'] at G12
        rw [show g.map V.str ++ [V.str r] = (g ++ [r]).map V.str by simp]
        exact ⟨_, _, _, _, _, _, _, _, _, M1, ks', rs', rfl, S12, G12, by omega, hd1⟩
      · obtain ⟨b, g, eb, h11, hgl, hx, ks', rs', S12, G12, hk12⟩ := z5 hv
        obtain rfl : p = b := by cases eb; rfl
        walk_at "vc"
        refine ⟨⟨p, _, rfl, h11⟩, ?_⟩
        walk_at "vc"
        refine ⟨p, _, _, rfl, rfl, h11, line_lt (by rw [List.length_map]; omega), ?_⟩
        rw [← lst_snoc, ← tk_snoc hr'] at G12
        rw [show g.map V.str ++ [V.str r] = (g ++ [r]).map V.str by simp]
        exact ⟨_, _, _, _, _, _, _, _, _, M1, ks', rs', rfl, S12, G12, by omega, hd1⟩
    · rintro σ1 H1 ⟨o4, o5, o6, o7, o8, o9, o10, o11, o13, M1, ks, rs, rfl, S1, G1, hk1, hd1⟩
      rw [List.length_map, tk_all] at G1
      rw [List.length_map] at hk1
      have hrl := G1.hl
      walk_at "vc"
      refine ⟨e, _, G1.dk, trivial, fun od => ?_⟩
      have S2 := S1.put (.frz od (.dK (zk ks rs))) G1.md (.inl he0')
      have h2 : upd H1 e (.frz od (.dK (zk ks rs))) e = some (.frz od (.dK (zk ks rs))) := upd_same
      have ol2 : OL H M1 (upd H1 e (.frz od (.dK (zk ks rs)))) rs (lst (eF f) full) := G1.ol.step fun a ha o m e => ⟨m, by rw [upd_ne (ne_mem G1.dr ha)]; exact e⟩
      generalize upd H1 e (.frz od (.dK (zk ks rs))) = H2 at S2 h2 ol2 ⊢
      walk_at "vc"
      refine ⟨.ref e, rfl, e, od, rfl, .inl ⟨_, h2, ?_⟩⟩
      have W : Walk (Itk e od (zk ks rs)) ks.length (fun H => H e = some (.frz od (.dK (zk ks rs)))) (fun i H v H' => H' = H ∧ ∃ (x : Str), ks[i]? = some x ∧ v = .str x) :=
        ⟨fun i H hi h => ⟨h, by rw [zk_len G1.hl]; exact hi⟩, fun H h => ⟨h, by rw [zk_len G1.hl]; exact Nat.le_refl _⟩, fun i H v H' hi h ⟨e, k0, v0, h1, h2⟩ => by
          obtain ⟨x, a, e1, e2, e3, e4⟩ := zk_at G1.hl h1
          subst e3
          exact ⟨e, x, e1, h2⟩⟩
      refine lc_go (ex := no) W S2.mh (fun i acc _ => acc = (rs.take i).map V.ref) rfl (fun M' H' S => (S.keep G1.md h2).2) ?_ ?_
      · rintro i y acc M3 H3 H3' D hi S3 hD m3 h3 rfl ⟨rfl, x, hx, rfl⟩
        have hir : i < rs.length := by rw [G1.hl]; exact hi
        have hra := List.getElem?_eq_getElem hir
        walk_at "vc"
        refine ⟨rfl, ?_⟩
        refine w_yesI ?_
        walk_at "vc"
        have hv : valV (zk ks rs) (Sum.inr x) = some (.ref rs[i]) := by
          rcases zk_val x G1.hl with ⟨j, a, h4, h5, h6⟩ | ⟨h4, _⟩
          · have e : i = j := nodup_at G1.kf.nd hx h4
            subst e
            rw [hra] at h5
            cases h5
            exact h6
          · exact absurd (mem_of_get hx) h4
        refine ⟨e, .ref rs[i], rfl, ?_, ?_⟩
        · rw [← hv]
          exact .inl ⟨_, Sum.inr x, .inr ⟨od, (S3.keep G1.md h2).2⟩, rfl, rfl⟩
        · exact LcA.of hD S3 m3 h3 (by rw [List.length_map, List.length_take]; omega) (by rw [tkm hra])
      · rintro D acc M3 H3 hD S3 m3 h3 rfl
        have e0 : rs.take ks.length = rs := List.take_of_length_le (by rw [G1.hl]; exact Nat.le_refl _)
        rw [e0] at h3
        have m3d := (S3.keep G1.md h2).1
        have S4 := (S2.trans S3).put (.dK (zk ks rs)) m3d (.inl he0')
        have ol4 : OL H M3 (upd H3 e (.dK (zk ks rs))) rs (lst (eF f) full) := (ol2.step (fun a _ o m e => S3.keep m e)).step fun a ha o m e => ⟨m, by rw [upd_ne (ne_mem G1.dr ha)]; exact e⟩
        obtain ⟨M5, S5, s5, i5, f5⟩ := ol4.fix S4
        have hDd : D ≠ e := fun z => by rw [z, h2] at hD; cases hD
        have hDr : D ∉ rs := fun z => by obtain ⟨_, _, o, e⟩ := ol2.mem z; rw [hD] at e; cases e
        have m5 : M5 D = none := by rw [f5 D hDr]; exact m3
        have S6 := S5.fix (show upd H3 e (.dK (zk ks rs)) D = some _ by rw [upd_ne hDd]; exact h3) (S2.hfree hD)
        exact ⟨(S3.keep G1.md h2).2, k _ _ _ S6 ⟨D, _, rfl, upd_same, i5.mono (same_new m5)⟩⟩
end
end Nt
namespace Nt
section
variable {P : Program} {w : World} {K : PySem.W.Frag} {mg : Str → Option Value} {base : Heap}
def sp_l_told (C : Addr) : Sp := fun vs H Q _ => ∃ (a : Addr) (v : V) (cs : Cells) (seeds rows : List Str) (d : Dat), vs = [.ref a, v] ∧ rows.length ≤ 1000 ∧ FlOk seeds (fullS rows) ∧ Sm d ∧ ¬ IsP (fullS rows) d ∧ ∃ M, Same M H ∧ BandO C M cs seeds rows a ∧ Is M d v ∧ Ret M H Q (.tup [.str "BadLumps", .str "BadLumps"])
theorem ok_l_told (T : Tx K mg) : Good P w K mg base CX0 7 (He.fAd K (He.DefD.at_ d_l_told)) p_l_told (sp_l_told (He.ga K "Band")) := by
  obtain ⟨fd, F⟩ := T.def_ 39 (d := d_l_told) rfl
  have g_least_lumps : Good P w K mg base (L2.CX P w) 6 (He.fAd K (He.DefD.at_ d_least_lumps)) p_least_lumps (sp_least_lumps (He.ga K "Band") (He.ga K "BadLumps")) := ok_least_lumps T
  have x_BadLumps := T.exc "BadLumps" (by decide)
  refine good_of F sc_l_told (fun _ _ _ _ _ _ us hl => match us, hl with | [_, _], _ => rfl) (by intro vs H Q E h; (repeat obtain ⟨_, h⟩ := h); subst_vars; rfl) fun cdv A outer s H vs Q E hr h => ?_
  have hu := hu_of hr
  refine ⟨_, (pss_one (ps_try_as (i := 2) (tb := fun W => tRet (tTup (tCons (tC (.str "told")) (tCons (tCallS (sp_least_lumps (He.ga K "Band") (He.ga K "BadLumps")) (WE W) (tCons (tVar 0) (tCons (tVar 1) tNil))) tNil)))) (ts := fun a cls d => tRet (tTup (tCons (tC (.str "BadLumps")) (tCons (tXf a cls d (He.ga K "BadLumps") "code" (tVar 2)) tNil)))) (Wout := fun _ _ _ _ => False) rfl rfl sc_l_told.nd rfl rfl ⟨rfl, by decide, Or.inl T.m_BadLumps⟩ takes0 (fun W pn xe tk _ => pss_one (ps_ret (pe_tup (pa_cons pe_str (pa_cons (pe_goodS g_least_lumps (hr.mono (by decide)) rfl T.m_least_lumps (fun σ => passAt tk σ) (pa_cons (pv 0) (pa_cons (pv 1) pa_nil))) pa_nil))))) (fun a oe cls d pn hz hf => pss_one (ps_ret (pe_tup (pa_cons pe_str (pa_cons (pe_xf x_BadLumps.xf T.n_BadLumps_code hz hf (pv 2)) pa_nil))))))), ?_⟩
  obtain ⟨a, v, cs, seeds, rows, d, rfl, hl, F, hsm, hn, M, s0, ib, iv, k⟩ := h
  walk_at "vc"
  refine w_callS ?_
  walk_at "vc"
  refine ⟨a, v, cs, seeds, rows, d, rfl, hl, F, hsm, M, s0, ib, iv, fun ps h1 h2 => absurd ⟨ps, h1, h2⟩ hn, fun _ M1 H1 dx S1 hdx => ?_⟩
  refine ⟨true, T.x_BadLumps, fun _ b hb => ?_, fun q => nomatch q⟩
  walk_at "vc"
  refine w_xf ?_
  walk_at "vc"
  refine ⟨rfl, rfl, dx, _, _, rfl, upd_same, rfl, ?_⟩
  walk_at "vc"
  intro p hp
  have S2 := (S1.new (.xd [("code", .str "BadLumps")]) hdx).lay (.tup [.str "BadLumps", .str "BadLumps"]) hp
  exact k _ _ _ S2 (Is.tup2 upd_same rfl rfl)
theorem isa1 {M : Hp} {d : Dat} {v : V} (h : Is M d v) : IsA M [d] [v] := ⟨v, [], rfl, h, rfl⟩
/-! ### all partings -/
/-- lumps of l -/
def PrtOf' (l : List Str) (gs : List (List Str)) : Prop := gs.flatten.Perm l ∧ ∀ g ∈ gs, g ≠ []
section
variable {ex : Addr → Prop} {M0 H0 M H H1 : Hp} {p : Addr} {vs : List V}
theorem layn_lst (S : Stp ex M0 H0 M H) (hH : upd H p (.lst vs) = H1) (hp : H p = none) :
    ∃ M', Stp ex M0 H0 M' H1 ∧ Same M M' ∧ M' p = some (.lst vs) ∧ (∀ x o, H x = some o → H1 x = some o) ∧ ∀ x o, H x = some o → M x = none → M' x = none := by
  subst hH
  exact ⟨upd M p (.lst vs), S.lay _ hp, same_upd (S.mfree hp), upd_same, fun x o e => upd_old e hp, fun x o e m => by rw [upd_ne (ne_of_none e hp)]; exact m⟩
theorem layn_tup (S : Stp ex M0 H0 M H) (hH : upd H p (.tup vs) = H1) (hp : H p = none) :
    ∃ M', Stp ex M0 H0 M' H1 ∧ Same M M' ∧ M' p = some (.tup vs) ∧ (∀ x o, H x = some o → H1 x = some o) ∧ ∀ x o, H x = some o → M x = none → M' x = none := by
  subst hH
  exact ⟨upd M p (.tup vs), S.lay _ hp, same_upd (S.mfree hp), upd_same, fun x o e => upd_old e hp, fun x o e m => by rw [upd_ne (ne_of_none e hp)]; exact m⟩
end
theorem PrtOf.put {l : List Str} {gs : List (List Str)} {r : Str} {j : Nat} (h : PrtOf' l gs) (hj : j < gs.length) : PrtOf' (l ++ [r]) (gs.take j ++ [gs[j] ++ [r]] ++ gs.drop (j + 1)) := by
  obtain ⟨h1, h2⟩ := h
  have e : gs = gs.take j ++ (gs[j] :: gs.drop (j + 1)) := by rw [List.getElem_cons_drop, List.take_append_drop]
  constructor
  · have h3 : gs.flatten.Perm l := h1
    rw [e, List.flatten_append, List.flatten_cons] at h3
    rw [List.flatten_append, List.flatten_append, List.flatten_singleton]
    refine List.Perm.trans ?_ (List.Perm.append_right [r] h3)
    rw [List.append_assoc, List.append_assoc, List.append_assoc]
    refine List.Perm.append_left _ ?_
    rw [List.append_assoc]
    refine List.Perm.append_left _ List.perm_append_comm
  · intro g hg
    rcases List.mem_append.mp hg with z | z
    · rcases List.mem_append.mp z with z | z
      · exact h2 g (List.mem_of_mem_take z)
      · rw [List.mem_singleton.mp z]; simp
    · exact h2 g (List.mem_of_mem_drop z)
theorem PrtOf.new {l : List Str} {gs : List (List Str)} {r : Str} (h : PrtOf' l gs) : PrtOf' (l ++ [r]) (gs ++ [[r]]) := by
  obtain ⟨h1, h2⟩ := h
  constructor
  · rw [List.flatten_append, List.flatten_singleton]
    exact List.Perm.append_right _ h1
  · intro g hg
    rcases List.mem_append.mp hg with z | z
    · exact h2 g z
    · rw [List.mem_singleton.mp z]; simp
/-- lists of lumps: lists of lists of lists of texts -/
abbrev llD (gss : List (List (List Str))) : Dat := .lst (gss.map lumpsD)
abbrev PrtOf := PrtOf'
def sp_l_all_partings : Sp := fun vs H Q _ => ∃ (v : V) (full : List Str), vs = [v] ∧ full.length ≤ 6 ∧ ∃ M, Same M H ∧ Is M (dS full) v ∧ ∀ gss, (∀ gs ∈ gss, PrtOf full gs) → Ret M H Q (llD gss)
theorem ok_l_all_partings (T : Tx K mg) : Good P w K mg base CX0 1 (He.fAd K (He.DefD.at_ d_l_all_partings)) p_l_all_partings sp_l_all_partings := by
  obtain ⟨fd, F⟩ := T.def_ 45 (d := d_l_all_partings) rfl
  refine good_of F sc_l_all_partings (fun _ _ _ _ _ _ us hl => match us, hl with | [_], _ => rfl) (by intro vs H Q E h; (repeat obtain ⟨_, h⟩ := h); subst_vars; rfl) fun cdv A outer s H vs Q E hr h => ?_
  have hu := hu_of hr
  refine ⟨_, (pss_cons (ps_set (i := 1) sc_l_all_partings.nd rfl (Or.inl rfl) (pe_lst (pa_cons (pe_lst pa_nil) pa_nil)))  (pss_cons (ps_for PassesOwn.never rfl (iq_list K (pv 0)) (pg_name (i := 2) sc_l_all_partings.nd rfl (Or.inl rfl) (Or.inl rfl))  (pss_cons (ps_set (i := 3) sc_l_all_partings.nd rfl (Or.inl rfl) (pe_lst pa_nil))  (pss_cons (ps_for PassesOwn.never rfl (iq_list K (pv 1)) (pg_name (i := 4) sc_l_all_partings.nd rfl (Or.inl rfl) (Or.inl rfl))  (pss_cons (ps_for PassesOwn.never rfl (pi_range1 (by rfl) T.b_range (pa_cons (pe_callB cq_len (by rfl) T.b_len (by decide +kernel) (pa_cons (pv 4) pa_nil)) pa_nil)) (pg_name (i := 5) sc_l_all_partings.nd rfl (Or.inl rfl) (Or.inl rfl))  (pss_one (ps_expr (eq_bm PySem.F.slot_list_append PySem.F.type_list_append mt_append (pv 3) (pa_cons (pe_op op_cat (pe_op op_cat (pe_slice sq_list (pv 4) po_none (po_some (pv 5))) (pe_lst (pa_cons (pe_op op_cat (pe_ix xq_list (pv 4) (pv 5) (fun _ _ => rfl)) (pe_lst (pa_cons (pv 2) pa_nil))) pa_nil))) (pe_slice sq_list (pv 4) (po_some (pe_op op_add (pv 5) pe_int)) po_none)) pa_nil)))))  (pss_one (ps_expr (eq_bm PySem.F.slot_list_append PySem.F.type_list_append mt_append (pv 3) (pa_cons (pe_op op_cat (pv 4) (pe_lst (pa_cons (pe_lst (pa_cons (pv 2) pa_nil)) pa_nil))) pa_nil))))))  (pss_one (ps_set (i := 1) sc_l_all_partings.nd rfl (Or.inl rfl) (pv 3))))))  (pss_one (ps_ret (pv 1))))), ?_⟩
  obtain ⟨v, full, rfl, hl, M, s0, iv, k⟩ := h
  walk_at "vc"
  have S := Stp.refl (ex := no) s0
  obtain ⟨va, rfl, hva⟩ := id iv.strs
  intro p1 hp
  generalize hH : upd _ p1 _ = H'
  obtain ⟨M', S', mm, e1, hx, nn⟩ := layn_lst S hH hp
  replace hva := mm _ _ hva
  clear S
  have S := S'
  clear S' hp hH hx nn mm
  walk_at "vc"
  intro p2 hp
  generalize hH : upd _ p2 _ = H'
  obtain ⟨M', S', mm, e2, hx, nn⟩ := layn_lst S hH hp
  replace hva := mm _ _ hva
  replace e1 := mm _ _ e1
  clear S
  have S := S'
  clear S' hp hH hx nn mm
  walk_at "vc"
  refine ⟨va, rfl, ⟨_, SqL.of (S.mh _ _ hva)⟩, ?_⟩
  refine fo_go walkL (fun i σ' H' => ∃ (o2 o3 o4 o5 : Option V) (ga : Addr) (gvs : List V) (gss : List (List (List Str))) (M' : Hp), σ' = [some (.ref va), some (.ref ga), o2, o3, o4, o5] ∧ Stp no M H M' H' ∧ M' va = some (.lst (full.map V.str)) ∧ M' ga = some (.lst gvs) ∧ IsA M' (gss.map lumpsD) gvs ∧ (∀ gs ∈ gss, PrtOf (full.take i) gs) ∧ gss.length ≤ 7 ^ i)
    ⟨_, _, _, _, p2, _, [[]], _, rfl, S, hva, e2, ⟨.ref p1, [], rfl, ⟨p1, [], rfl, e1, rfl⟩, rfl⟩, fun gs hg => by rw [List.mem_singleton.mp hg]; exact ⟨List.Perm.refl _, by simp⟩, Nat.le_refl _⟩ (fun _ _ _ _ ⟨_, _, _, _, _, _, _, _, _, S, h, _⟩ => S.mh _ _ h) ?_ ?_
  · clear S hva e1 e2
    rintro i y σ1 H1 H1' hi ⟨o2, o3, o4, o5, ga, gvs, gss, M1, rfl, S, hva, hga, iga, hgs, hgl⟩ ⟨rfl, hy⟩
    obtain ⟨r, hr', rfl⟩ := map_at hy
    rw [List.length_map] at hi
    have hgl2 := iga.len
    rw [List.length_map] at hgl2
    have h7 : (7 : Nat) ^ i ≤ 7 ^ 5 := Nat.pow_le_pow_right (by decide) (by omega)
    have h7' : (7 : Nat) ^ (i + 1) = 7 * 7 ^ i := by rw [Nat.pow_succ, Nat.mul_comm]
    have h75 : (7 : Nat) ^ 5 = 16807 := by decide
    walk_at "vc"
    intro ma hma0
    have Sm := S.new (.lst []) hma0
    have mma : M1 ma = none := S.mfree hma0
    have hma : upd H1' ma (.lst []) ma = some (.lst []) := upd_same
    have hmaH : H ma = none := S.hfree hma0
    generalize upd H1' ma (.lst []) = H2 at Sm hma ⊢
    walk_at "vc"
    refine ⟨ga, rfl, ⟨_, SqL.of (Sm.mh _ _ hga)⟩, ?_⟩
    refine fo_go walkL (fun k σ' H' => ∃ (o4 o5 : Option V) (mvs : List V) (mss : List (List (List Str))) (M' : Hp), σ' = [some (.ref va), some (.ref ga), some (.str r), some (.ref ma), o4, o5] ∧ Stp no M H M' H' ∧ Same M1 M' ∧ M' ma = none ∧ H' ma = some (.lst mvs) ∧ IsA M' (mss.map lumpsD) mvs ∧ (∀ gs ∈ mss, PrtOf (full.take (i + 1)) gs) ∧ mss.length ≤ 7 * k)
      ⟨_, _, [], [], M1, rfl, Sm, Same.refl _, mma, hma, rfl, by simp, Nat.le_refl _⟩ (fun _ _ _ _ ⟨_, _, _, _, _, _, S, s, _⟩ => S.mh _ _ (s _ _ hga)) ?_ ?_
    · clear Sm mma hma
      rintro k y2 σ2 H2 H2' hk ⟨o4, o5, mvs, mss, M2, rfl, S, s12, mma, hma, imv, hms, hml⟩ ⟨rfl, hy2⟩
      obtain ⟨d, hd, id2⟩ := iga.get hy2
      rw [List.getElem?_map] at hd
      obtain ⟨gs, hg, rfl⟩ := Option.map_eq_some_iff.mp hd
      have hP := hgs gs (mem_of_get hg)
      have hgs6 : gs.length ≤ 6 := by
        have h1 := grp_few gs hP.2
        rw [hP.1.length_eq, List.length_take] at h1
        omega
      have id2 := id2.mono s12
      have id2' := id2
      obtain ⟨la, lvs, rfl, hla, ila⟩ := id2
      have hlv := ila.len
      rw [List.length_map] at hlv
      walk_at "vc"
      refine ⟨la, lvs, rfl, .inl (S.mh _ _ hla), ?_⟩
      walk_at "vc"
      refine w_r1 (n := lvs.length) (by omega) ?_
      rw [Int.toNat_natCast]
      refine fo_go walkR (fun j σ' H' => ∃ (o5 : Option V) (mvs : List V) (mss : List (List (List Str))) (M' : Hp), σ' = [some (.ref va), some (.ref ga), some (.str r), some (.ref ma), some (.ref la), o5] ∧ Stp no M H M' H' ∧ Same M1 M' ∧ Same M2 M' ∧ M' ma = none ∧ H' ma = some (.lst mvs) ∧ IsA M' (mss.map lumpsD) mvs ∧ (∀ gs ∈ mss, PrtOf (full.take (i + 1)) gs) ∧ mss.length ≤ 7 * k + j)
        ⟨_, mvs, mss, M2, rfl, S, s12, Same.refl _, mma, hma, imv, hms, hml⟩ (fun _ _ _ _ _ => trivial) ?_ ?_
      · clear S mma hma imv hms hml mvs mss
        rintro j y3 σ3 H3 H3' hj ⟨o5, mvs, mss, M3, rfl, S, s13, s23, mma, hma, imv, hms, hml⟩ ⟨rfl, rfl⟩
        have hmv := imv.len
        rw [List.length_map] at hmv
        have hla := s23 _ _ hla
        have ila := ila.mono s23
        obtain ⟨ba, hba, hMb⟩ := lumps_at ila (k := j) (by omega)
        have hgj := List.getElem?_eq_getElem (show j < gs.length by omega)
        have egj : gs.getD j [] = gs[j]'(by omega) := by rw [List.getD_eq_getElem?_getD, hgj]; rfl
        have hbl : (gs[j]'(by omega)).length ≤ 6 := by
          have h1 := (List.sublist_flatten_of_mem (mem_of_get hgj)).length_le
          rw [hP.1.length_eq, List.length_take] at h1
          omega
        rw [egj] at hMb
        walk_at "vc"
        refine ⟨⟨ma, mvs, rfl, hma⟩, ?_⟩
        walk_at "vc"
        refine ⟨la, lvs, rfl, S.mh _ _ hla, ?_⟩
        intro q1 hp
        generalize hH : upd _ q1 _ = H'
        obtain ⟨M', S', mm, f1, hx, nn⟩ := layn_lst S hH hp
        replace hla := mm _ _ hla
        replace hMb := mm _ _ hMb
        replace ila := ila.mono mm
        replace imv := imv.mono mm
        replace s13 := s13.trans mm
        replace s23 := s23.trans mm
        replace mma := nn _ _ hma mma
        replace hma := hx _ _ hma
        clear S
        have S := S'
        clear S' hp hH hx nn mm
        walk_at "vc"
        refine w_ixl (S.mh _ _ hla) (atI_nat hba) ?_
        walk_at "vc"
        intro q2 hp
        generalize hH : upd _ q2 _ = H'
        obtain ⟨M', S', mm, f2, hx, nn⟩ := layn_lst S hH hp
        replace hla := mm _ _ hla
        replace hMb := mm _ _ hMb
        replace f1 := mm _ _ f1
        replace ila := ila.mono mm
        replace imv := imv.mono mm
        replace s13 := s13.trans mm
        replace s23 := s23.trans mm
        replace mma := nn _ _ hma mma
        replace hma := hx _ _ hma
        clear S
        have S := S'
        clear S' hp hH hx nn mm
        walk_at "vc"
        refine ⟨ba, q2, _, _, rfl, rfl, S.mh _ _ hMb, S.mh _ _ f2, line_of (by rw [List.length_map]; show _ + 1 ≤ _; omega), ?_⟩
        intro q3 hp
        generalize hH : upd _ q3 _ = H'
        obtain ⟨M', S', mm, f3, hx, nn⟩ := layn_lst S hH hp
        replace hla := mm _ _ hla
        replace hMb := mm _ _ hMb
        replace f1 := mm _ _ f1
        replace ila := ila.mono mm
        replace imv := imv.mono mm
        replace s13 := s13.trans mm
        replace s23 := s23.trans mm
        replace mma := nn _ _ hma mma
        replace hma := hx _ _ hma
        clear S
        have S := S'
        clear S' hp hH hx nn mm
        walk_at "vc"
        intro q4 hp
        generalize hH : upd _ q4 _ = H'
        obtain ⟨M', S', mm, f4, hx, nn⟩ := layn_lst S hH hp
        replace hla := mm _ _ hla
        replace hMb := mm _ _ hMb
        replace f1 := mm _ _ f1
        replace f3 := mm _ _ f3
        replace ila := ila.mono mm
        replace imv := imv.mono mm
        replace s13 := s13.trans mm
        replace s23 := s23.trans mm
        replace mma := nn _ _ hma mma
        replace hma := hx _ _ hma
        clear S
        have S := S'
        clear S' hp hH hx nn mm
        walk_at "vc"
        refine ⟨q1, q4, _, _, rfl, rfl, S.mh _ _ f1, S.mh _ _ f4, line_of (by rw [cutV_to, List.length_take]; show _ + 1 ≤ _; omega), ?_⟩
        intro q5 hp
        generalize hH : upd _ q5 _ = H'
        obtain ⟨M', S', mm, f5, hx, nn⟩ := layn_lst S hH hp
        replace hla := mm _ _ hla
        replace hMb := mm _ _ hMb
        replace f1 := mm _ _ f1
        replace f3 := mm _ _ f3
        replace f4 := mm _ _ f4
        replace ila := ila.mono mm
        replace imv := imv.mono mm
        replace s13 := s13.trans mm
        replace s23 := s23.trans mm
        replace mma := nn _ _ hma mma
        replace hma := hx _ _ hma
        clear S
        have S := S'
        clear S' hp hH hx nn mm
        walk_at "vc"
        refine ⟨la, lvs, rfl, S.mh _ _ hla, ?_⟩
        rw [show ((j : Nat) : Int) + 1 = ((j + 1 : Nat) : Int) from rfl]
        intro q6 hp
        generalize hH : upd _ q6 _ = H'
        obtain ⟨M', S', mm, f6, hx, nn⟩ := layn_lst S hH hp
        replace hla := mm _ _ hla
        replace hMb := mm _ _ hMb
        replace f1 := mm _ _ f1
        replace f3 := mm _ _ f3
        replace f4 := mm _ _ f4
        replace f5 := mm _ _ f5
        replace ila := ila.mono mm
        replace imv := imv.mono mm
        replace s13 := s13.trans mm
        replace s23 := s23.trans mm
        replace mma := nn _ _ hma mma
        replace hma := hx _ _ hma
        clear S
        have S := S'
        clear S' hp hH hx nn mm
        walk_at "vc"
        refine ⟨q5, q6, _, _, rfl, rfl, S.mh _ _ f5, S.mh _ _ f6, line_of (by rw [cutV_to, cutV_from, List.length_append, List.length_take, List.length_drop]; show _ + 1 + _ ≤ _; omega), ?_⟩
        intro q7 hp
        generalize hH : upd _ q7 _ = H'
        obtain ⟨M', S', mm, f7, hx, nn⟩ := layn_lst S hH hp
        replace hla := mm _ _ hla
        replace hMb := mm _ _ hMb
        replace f1 := mm _ _ f1
        replace f3 := mm _ _ f3
        replace f4 := mm _ _ f4
        replace f5 := mm _ _ f5
        replace f6 := mm _ _ f6
        replace ila := ila.mono mm
        replace imv := imv.mono mm
        replace s13 := s13.trans mm
        replace s23 := s23.trans mm
        replace mma := nn _ _ hma mma
        replace hma := hx _ _ hma
        clear S
        have S := S'
        clear S' hp hH hx nn mm
        walk_at "vc"
        refine ⟨ma, mvs, _, rfl, rfl, hma, line_lt (by omega), ?_⟩
        walk_at "vc"
        rw [cutV_to, cutV_from] at f7
        refine ⟨_, _, mss ++ [gs.take j ++ [gs[j]'(by omega) ++ [r]] ++ gs.drop (j + 1)], _, rfl, S.put _ mma (.inl hmaH), s13, s23, mma, upd_same, ?_, ?_, by rw [List.length_append]; simp; omega⟩
        · rw [List.map_append]
          refine IsA.snoc (show Is _ (lumpsD _) (.ref q7) from ⟨q7, _, rfl, f7, ?_⟩) imv
          rw [List.map_append, List.map_append, List.map_take, List.map_drop]
          refine IsA.app (ila.drop (j + 1)) (IsA.app (isa1 (Is.of_strs (by rw [f3, List.map_append]; rfl))) (ila.take j))
        · intro gs' hg'
          rcases List.mem_append.mp hg' with z | z
          · exact hms gs' z
          · rw [List.mem_singleton.mp z, tk_snoc hr']
            exact PrtOf.put hP (by omega)
      · clear S mma hma imv hms hml mvs mss
        rintro σ3 H3 ⟨o5, mvs, mss, M3, rfl, S, s13, s23, mma, hma, imv, hms, hml⟩
        have hmv := imv.len
        rw [List.length_map] at hmv
        have hla := s23 _ _ hla
        have ila := ila.mono s23
        walk_at "vc"
        refine ⟨⟨ma, mvs, rfl, hma⟩, ?_⟩
        walk_at "vc"
        intro q1 hp
        generalize hH : upd _ q1 _ = H'
        obtain ⟨M', S', mm, f1, hx, nn⟩ := layn_lst S hH hp
        replace hla := mm _ _ hla
        replace ila := ila.mono mm
        replace imv := imv.mono mm
        replace s13 := s13.trans mm
        replace s23 := s23.trans mm
        replace mma := nn _ _ hma mma
        replace hma := hx _ _ hma
        clear S
        have S := S'
        clear S' hp hH hx nn mm
        walk_at "vc"
        intro q2 hp
        generalize hH : upd _ q2 _ = H'
        obtain ⟨M', S', mm, f2, hx, nn⟩ := layn_lst S hH hp
        replace hla := mm _ _ hla
        replace f1 := mm _ _ f1
        replace ila := ila.mono mm
        replace imv := imv.mono mm
        replace s13 := s13.trans mm
        replace s23 := s23.trans mm
        replace mma := nn _ _ hma mma
        replace hma := hx _ _ hma
        clear S
        have S := S'
        clear S' hp hH hx nn mm
        walk_at "vc"
        refine ⟨la, q2, lvs, _, rfl, rfl, S.mh _ _ hla, S.mh _ _ f2, line_of (by show _ + 1 ≤ _; omega), ?_⟩
        intro q3 hp
        generalize hH : upd _ q3 _ = H'
        obtain ⟨M', S', mm, f3, hx, nn⟩ := layn_lst S hH hp
        replace hla := mm _ _ hla
        replace f1 := mm _ _ f1
        replace f2 := mm _ _ f2
        replace ila := ila.mono mm
        replace imv := imv.mono mm
        replace s13 := s13.trans mm
        replace s23 := s23.trans mm
        replace mma := nn _ _ hma mma
        replace hma := hx _ _ hma
        clear S
        have S := S'
        clear S' hp hH hx nn mm
        walk_at "vc"
        refine ⟨ma, mvs, _, rfl, rfl, hma, line_lt (by omega), ?_⟩
        walk_at "vc"
        refine ⟨_, _, _, mss ++ [gs ++ [[r]]], _, rfl, S.put _ mma (.inl hmaH), s13, mma, upd_same, ?_, ?_, by rw [List.length_append]; simp; omega⟩
        · rw [List.map_append]
          refine IsA.snoc (show Is _ (lumpsD _) (.ref q3) from ⟨q3, _, rfl, f3, ?_⟩) imv
          rw [List.map_append]
          exact IsA.app (isa1 (Is.of_strs f1)) ila
        · intro gs' hg'
          rcases List.mem_append.mp hg' with z | z
          · exact hms gs' z
          · rw [List.mem_singleton.mp z, tk_snoc hr']
            exact PrtOf.new hP
    · rintro σ2 H2 ⟨o4, o5, mvs, mss, M2, rfl, S, s12, mma, hma, imv, hms, hml⟩
      walk_at "vc"
      have Fx := S.fix hma hmaH
      refine ⟨_, _, _, _, ma, mvs, mss, _, rfl, Fx, (s12.trans (same_upd mma)) _ _ hva, upd_same, imv.mono (same_upd mma), hms, ?_⟩
      rw [h7']
      omega
  · rintro σ1 H1 ⟨o2, o3, o4, o5, ga, gvs, gss, M1, rfl, S, hva, hga, iga, hgs, hgl⟩
    rw [List.length_map, List.take_length] at hgs
    walk_at "vc"
    exact k gss hgs _ _ _ S ⟨ga, gvs, rfl, hga, iga⟩
def sp_l_joins : Sp := fun vs H Q _ => ∃ (u v : V) (gs : List (List Str)) (ps : List (Str × Str)), vs = [u, v] ∧ gs.length ≤ 1000 ∧ ps.length ≤ 1000 ∧ (∀ p ∈ ps, p.1 ∈ gs.flatten ∧ p.2 ∈ gs.flatten) ∧ ∃ M, Same M H ∧ Is M (lumpsD gs) u ∧ Is M (.lst (ps.map prD)) v ∧
  ∀ b : Bool, (b = true → ∀ p ∈ ps, plc gs p.1 = plc gs p.2) → Ret M H Q (.bl b)
theorem ok_l_joins (T : Tx K mg) : Good P w K mg base CX0 2 (He.fAd K (He.DefD.at_ d_l_joins)) p_l_joins sp_l_joins := by
  obtain ⟨fd, F⟩ := T.def_ 46 (d := d_l_joins) rfl
  have g_l_place : Good P w K mg base CX0 1 (He.fAd K (He.DefD.at_ d_l_place)) p_l_place sp_l_place := ok_l_place T
  refine good_of F sc_l_joins (fun _ _ _ _ _ _ us hl => match us, hl with | [_, _], _ => rfl) (by intro vs H Q E h; (repeat obtain ⟨_, h⟩ := h); subst_vars; rfl) fun cdv A outer s H vs Q E hr h => ?_
  have hu := hu_of hr
  refine ⟨_, (pss_one (ps_ret (pe_callB (cq_all rfl) (by rfl) T.b_all (by decide +kernel) (pa_cons (pe_lc (own := [("_law_one", 2), ("_law_other", 3)]) (by rfl) sc_l_joins.nd (iq_list K (pv 1)) (blkOk_by (own := [("_law_one", 2), ("_law_other", 3)]) (N := n_l_joins) (sc := He.DefD.scope d_l_joins) (by decide +kernel)) (fun _ _ _ _ _ => (gq_tup K (n := 2) rfl (pgs_cons (pg_name (i := 2) sc_l_joins.nd rfl (Or.inl rfl) (Or.inr rfl)) (pgs_cons (pg_name (i := 3) sc_l_joins.nd rfl (Or.inl rfl) (Or.inr rfl)) pgs_nil)))) (fun _ _ _ _ _ => pts_nil) (fun _ _ _ _ _ => (pe_cmpR op_eq (pe_good g_l_place (hr.mono (by decide)) rfl T.m_l_place (pa_cons (pv 0) (pa_cons (pv 2) pa_nil))) (pe_good g_l_place (hr.mono (by decide)) rfl T.m_l_place (pa_cons (pv 0) (pa_cons (pv 3) pa_nil))) (nomark _)))) pa_nil)))), ?_⟩
  obtain ⟨u, v, gs, ps, rfl, hgl, hpl, hpf, M, s0, iu, iv, k⟩ := h
  obtain ⟨a, vs, rfl, ha, ia⟩ := iv
  have hal := ia.len
  rw [List.length_map] at hal
  walk_at "vc"
  refine ⟨a, rfl, ⟨_, SqL.of (s0 _ _ ha)⟩, ?_⟩
  refine lc_go (ex := no) walkL s0 (fun i acc _ => acc = ((ps.take i).map fun p => decide (((plc gs p.1 : Nat) : Int) = (plc gs p.2 : Nat))).map V.bl) rfl (fun _ _ S => S.mh _ _ (S.mm _ _ ha)) ?_ ?_
  · rintro i y acc M1 H1 H1' D hi S1 hD m1 h1 rfl ⟨rfl, hy⟩
    obtain ⟨d, hd, id1⟩ := ia.get hy
    rw [List.getElem?_map] at hd
    obtain ⟨p, hp, rfl⟩ := Option.map_eq_some_iff.mp hd
    obtain ⟨T1, rfl, hT⟩ := Is.prS id1
    obtain ⟨hp1, hp2⟩ := hpf p (mem_of_get hp)
    walk_at "vc"
    refine ⟨T1, _, rfl, SqT.of (S1.mh _ _ (S1.mm _ _ hT)), rfl, ?_⟩
    walk_at "vc"
    refine ⟨rfl, ?_⟩
    refine w_yesI ?_
    walk_at "vc"
    refine ⟨_, gs, p.1, rfl, hgl, hp1, M1, S1.mh, iu.mono S1.mm, ?_⟩
    rintro v2 M2 H2 S2 rfl
    obtain ⟨m2, h2⟩ := S2.keep m1 h1
    walk_at "vc"
    refine ⟨_, gs, p.2, rfl, hgl, hp2, M2, S2.mh, iu.mono (S1.mm.trans S2.mm), ?_⟩
    rintro v3 M3 H3 S3 rfl
    obtain ⟨m3, h3⟩ := S3.keep m2 h2
    walk_at "vc"
    refine LcA.of hD ((S1.trans S2).trans S3) m3 h3 (by rw [List.length_map, List.length_map, List.length_take]; omega) ?_
    rw [tk_snoc hp]
    simp only [List.map_append, List.map_cons, List.map_nil]
  · rintro D acc M1 H1 hD S1 m1 h1 rfl
    rw [List.take_of_length_le (by omega)] at h1
    walk_at "vc"
    refine ⟨D, _, rfl, h1, ?_⟩
    refine k _ (fun h p hp => ?_) _ _ _ S1 rfl
    have := List.all_eq_true.mp h _ (List.mem_map.mpr ⟨p, hp, rfl⟩)
    have e := of_decide_eq_true this
    omega
def sp_l_within_one : Sp := fun vs H Q _ => ∃ (u v : V) (g : List Str) (gs : List (List Str)), vs = [u, v] ∧ gs.length ≤ 1000 ∧ g ≠ [] ∧ g.length ≤ 1000 ∧ (∀ x ∈ g, x ∈ gs.flatten) ∧ gs.flatten.Nodup ∧ (∀ x ∈ g, ∀ y ∈ g, plc gs x = plc gs y) ∧ ∃ M, Same M H ∧ Is M (dS g) u ∧ Is M (lumpsD gs) v ∧ Ret M H Q (.bl true)
theorem ok_l_within_one (T : Tx K mg) : Good P w K mg base CX0 2 (He.fAd K (He.DefD.at_ d_l_within_one)) p_l_within_one sp_l_within_one := by
  obtain ⟨fd, F⟩ := T.def_ 47 (d := d_l_within_one) rfl
  have g_l_place : Good P w K mg base CX0 1 (He.fAd K (He.DefD.at_ d_l_place)) p_l_place sp_l_place := ok_l_place T
  refine good_of F sc_l_within_one (fun _ _ _ _ _ _ us hl => match us, hl with | [_, _], _ => rfl) (by intro vs H Q E h; (repeat obtain ⟨_, h⟩ := h); subst_vars; rfl) fun cdv A outer s H vs Q E hr h => ?_
  have hu := hu_of hr
  refine ⟨_, (pss_one (ps_ret (pe_callB (cq_all rfl) (by rfl) T.b_all (by decide +kernel) (pa_cons (pe_lc (own := [("_law_one", 2)]) (by rfl) sc_l_within_one.nd (iq_list K (pv 0)) (blkOk_by (own := [("_law_one", 2)]) (N := n_l_within_one) (sc := He.DefD.scope d_l_within_one) (by decide +kernel)) (fun _ _ _ _ _ => (pg_name (i := 2) sc_l_within_one.nd rfl (Or.inl rfl) (Or.inr rfl))) (fun _ _ _ _ _ => pts_nil) (fun _ _ _ _ _ => (pe_cmpR oq_in (pv 2) (pe_ix xq_list (pv 1) (pe_good g_l_place (hr.mono (by decide)) rfl T.m_l_place (pa_cons (pv 1) (pa_cons (pe_ix xq_list (pv 0) pe_int (fun _ _ => rfl)) pa_nil))) (fun _ _ => rfl)) (by rfl)))) pa_nil)))), ?_⟩
  obtain ⟨u, v, g, gs, rfl, hgl, hne, hl, hin, nd, hall, M, s0, iu, iv, k⟩ := h
  have iv' := iv
  obtain ⟨a, rfl, ha⟩ := iu.strs
  obtain ⟨b, bvs, rfl, hb, ib⟩ := iv
  obtain ⟨x0, gt, rfl⟩ : ∃ x t, g = x :: t := by
    cases g with
    | nil => exact absurd rfl hne
    | cons x t => exact ⟨x, t, rfl⟩
  walk_at "vc"
  refine ⟨a, rfl, ⟨_, SqL.of (s0 _ _ ha)⟩, ?_⟩
  refine lc_go (ex := no) walkL s0 (fun i acc _ => acc = (List.replicate i true).map V.bl) rfl (fun _ _ S => S.mh _ _ (S.mm _ _ ha)) ?_ ?_
  · rintro i y acc M1 H1 H1' D hi S1 hD m1 h1 rfl ⟨rfl, hy⟩
    obtain ⟨o, ho, rfl⟩ := map_at hy
    have hom := mem_of_get ho
    rw [List.length_map] at hi
    walk_at "vc"
    refine ⟨rfl, ?_⟩
    refine w_yesI ?_
    walk_at "vc"
    refine w_ixl (j := ((0 : Nat) : Int)) (S1.mh _ _ (S1.mm _ _ ha)) (atI_nat rfl) ?_
    walk_at "vc"
    refine ⟨_, gs, x0, rfl, hgl, hin x0 List.mem_cons_self, M1, S1.mh, iv'.mono S1.mm, ?_⟩
    rintro v2 M2 H2 S2 rfl
    obtain ⟨m2, h2⟩ := S2.keep m1 h1
    have S2' := S1.trans S2
    obtain ⟨_, _, p1, p2⟩ := plc_has (hin x0 List.mem_cons_self)
    obtain ⟨_, _, _, q2⟩ := plc_has (hin o hom)
    rw [hall o hom x0 List.mem_cons_self] at q2
    obtain ⟨c, hc, hMc⟩ := lumps_at ib p1
    refine w_ixl (S2'.mh _ _ (S2'.mm _ _ hb)) (atI_nat hc) ?_
    refine w_inS (.inl (S2'.mh _ _ (S2'.mm _ _ hMc))) ?_
    rw [decide_eq_true q2]
    exact LcA.of hD S2' m2 h2 (by rw [List.length_map, List.length_replicate]; omega) (by rw [List.replicate_succ', List.map_append]; rfl)
  · rintro D acc M1 H1 hD S1 m1 h1 rfl
    walk_at "vc"
    refine ⟨D, _, rfl, h1, ?_⟩
    rw [all_yes]
    exact k _ _ _ S1 rfl
def sp_l_no_finer : Sp := fun vs H Q _ => ∃ (u v x y : V) (seeds full : List Str) (ps : List (Str × Str)) (ls : List (List Str)), vs = [u, v, x, y] ∧ FlOk seeds full ∧ full.length ≤ 6 ∧ ps.length ≤ 1000 ∧ (∀ p ∈ ps, p.1 ∈ full ∧ p.2 ∈ full) ∧ PrtOf full ls ∧ ls.length ≤ 1000 ∧
  (∀ g ∈ ls, ∀ x ∈ g, ∀ y ∈ g, Cg seeds ps x y) ∧ ∃ M, Same M H ∧ Is M (dS seeds) u ∧ Is M (dS full) v ∧ Is M (.lst (ps.map prD)) x ∧ Is M (lumpsD ls) y ∧ Ret M H Q (.bl true)
theorem ok_l_no_finer (T : Tx K mg) : Good P w K mg base CX0 3 (He.fAd K (He.DefD.at_ d_l_no_finer)) p_l_no_finer sp_l_no_finer := by
  obtain ⟨fd, F⟩ := T.def_ 48 (d := d_l_no_finer) rfl
  have g_l_all_partings : Good P w K mg base CX0 1 (He.fAd K (He.DefD.at_ d_l_all_partings)) p_l_all_partings sp_l_all_partings := ok_l_all_partings T
  have g_l_break : Good P w K mg base CX0 2 (He.fAd K (He.DefD.at_ d_l_break)) p_l_break sp_l_break := ok_l_break T
  have g_l_joins : Good P w K mg base CX0 2 (He.fAd K (He.DefD.at_ d_l_joins)) p_l_joins sp_l_joins := ok_l_joins T
  have g_l_within_one : Good P w K mg base CX0 2 (He.fAd K (He.DefD.at_ d_l_within_one)) p_l_within_one sp_l_within_one := ok_l_within_one T
  refine good_of F sc_l_no_finer (fun _ _ _ _ _ _ us hl => match us, hl with | [_, _, _, _], _ => rfl) (by intro vs H Q E h; (repeat obtain ⟨_, h⟩ := h); subst_vars; rfl) fun cdv A outer s H vs Q E hr h => ?_
  have hu := hu_of hr
  refine ⟨_, (pss_cons (ps_for PassesOwn.never rfl (iq_list K (pe_good g_l_all_partings (hr.mono (by decide)) rfl T.m_l_all_partings (pa_cons (pv 1) pa_nil))) (pg_name (i := 4) sc_l_no_finer.nd rfl (Or.inr rfl) (Or.inl rfl))  (pss_one (ps_if (PW.pt (pw_and (pt_val (pe_good g_l_joins (hr.mono (by decide)) rfl T.m_l_joins (pa_cons (pv 4) (pa_cons (pv 2) pa_nil)))) (pw_and1 (pt_cmpR op_isN (pe_good g_l_break (hr.mono (by decide)) rfl T.m_l_break (pa_cons (pv 0) (pa_cons (pv 1) (pa_cons (pv 4) pa_nil)))) pe_non (nomark _)))))  (pss_one (ps_if (pt_not (pt_val (pe_callB (cq_all rfl) (by rfl) T.b_all (by decide +kernel) (pa_cons (pe_lc (own := [("_law_lump", 5)]) (by rfl) sc_l_no_finer.nd (iq_list K (pv 3)) (blkOk_by (own := [("_law_lump", 5)]) (N := n_l_no_finer) (sc := He.DefD.scope d_l_no_finer) (by decide +kernel)) (fun _ _ _ _ _ => (pg_name (i := 5) sc_l_no_finer.nd rfl (Or.inl rfl) (Or.inr rfl))) (fun _ _ _ _ _ => pts_nil) (fun _ _ _ _ _ => (pe_good g_l_within_one (hr.mono (by decide)) rfl T.m_l_within_one (pa_cons (pv 5) (pa_cons (pv 4) pa_nil))))) pa_nil))))  (pss_one (ps_ret pe_bl))  pss_nil))  pss_nil)))  (pss_one (ps_ret pe_bl))), ?_⟩
  obtain ⟨u, v, x, y, seeds, full, ps, ls, rfl, F, hl6, hpl, hpf, ⟨lpm, lne⟩, hll, hcg, M, s0, iu, iv, ix, iy, k⟩ := h
  obtain ⟨ya, yvs, rfl, hya, iya⟩ := id iy
  have hyl := iya.len
  rw [List.length_map] at hyl
  walk_at "vc"
  refine ⟨v, full, rfl, hl6, M, s0, iv, ?_⟩
  rintro gss hgss v1 M1 H1 S1 ⟨ga, gvs, rfl, hga, iga⟩
  refine ⟨ga, rfl, ⟨_, SqL.of (S1.mh _ _ hga)⟩, ?_⟩
  refine fo_go walkL (fun i σ' H' => ∃ (o4 o5 : Option V) (M' : Hp), σ' = [some u, some v, some x, some (.ref ya), o4, o5] ∧ Stp no M1 H1 M' H') ⟨_, _, M1, rfl, Stp.refl S1.mh⟩ (fun _ _ _ _ ⟨_, _, _, _, S⟩ => S.mh _ _ (S.mm _ _ hga)) ?_ ?_
  · rintro i y σ2 H2 H2' hi ⟨o4, o5, M2, rfl, S2⟩ ⟨rfl, hy⟩
    obtain ⟨d, hd, id2⟩ := iga.get hy
    rw [List.getElem?_map] at hd
    obtain ⟨gs, hg, rfl⟩ := Option.map_eq_some_iff.mp hd
    obtain ⟨pm, ne⟩ := hgss gs (mem_of_get hg)
    have id2 := id2.mono S2.mm
    have S2' := S1.trans S2
    have hfew := grp_few gs ne
    rw [pm.length_eq] at hfew
    have nd : gs.flatten.Nodup := pm.nodup_iff.mpr F.nd
    walk_at "vc"
    refine ⟨y, x, gs, ps, rfl, by omega, hpl, fun p hp => ⟨pm.mem_iff.mpr (hpf p hp).1, pm.mem_iff.mpr (hpf p hp).2⟩, M2, S2.mh, id2, ix.mono S2'.mm, ?_⟩
    rintro b hb v3 M3 H3 S3 rfl
    have S3' := S2'.trans S3
    walk_at "vc"
    cases b with
    | false =>
      walk_at "vc"
      exact ⟨_, _, M3, rfl, S2.trans S3⟩
    | true =>
      walk_at "vc"
      refine ⟨u, v, y, seeds, full, gs, rfl, F.lp pm, ne, M3, S3.mh, iu.mono S3'.mm, iv.mono S3'.mm, id2.mono S3.mm, ?_⟩
      rintro res hres v4 M4 H4 S4 i4
      have S4' := S3'.trans S4
      walk_at "vc"
      cases res with
      | some r =>
        obtain ⟨q1, q2, q3⟩ := r
        obtain ⟨T1, vs1, rfl, _⟩ := id i4
        refine ⟨rfl, false, rfl, ?_⟩
        walk_at "vc"
        exact ⟨_, _, M4, rfl, (S2.trans S3).trans S4⟩
      | none =>
        obtain rfl : v4 = .non := i4
        refine ⟨rfl, true, rfl, ?_⟩
        have same : ∀ x ∈ full, ∀ y, Cg seeds ps x y → plc gs x = plc gs y := fun x hx y c =>
          c.on (R := fun x y => plc gs x = plc gs y) ⟨fun _ _ => rfl, fun _ _ h => h.symm, fun _ _ _ a b => a.trans b⟩ F.cl hpf (fun p hp => hb rfl p hp) (fun s hs x hx y hy h => by
            have w1 := hres s hs x hx y
            apply Classical.byContradiction
            intro q
            obtain ⟨_, _, _, h2⟩ := plc_has (pm.mem_iff.mpr hy)
            exact w1 ⟨by rw [h]; exact h2, fun z => q z.symm⟩) hx
        walk_at "vc"
        refine ⟨ya, rfl, ⟨_, SqL.of (S4'.mh _ _ (S4'.mm _ _ hya))⟩, ?_⟩
        refine lc_go (ex := no) walkL S4.mh (fun i acc _ => acc = (List.replicate i true).map V.bl) rfl (fun _ _ S => S.mh _ _ (S.mm _ _ (S4'.mm _ _ hya))) ?_ ?_
        · rintro n y5 acc M5 H5 H5' D hn S5 hD m5 h5 rfl ⟨rfl, hy5⟩
          obtain ⟨d, hd, id5⟩ := iya.get hy5
          rw [List.getElem?_map] at hd
          obtain ⟨g, hg5, rfl⟩ := Option.map_eq_some_iff.mp hd
          have hgm := mem_of_get hg5
          have hgf : ∀ x ∈ g, x ∈ full := fun x hx => lpm.mem_iff.mp (List.mem_flatten.mpr ⟨g, hgm, hx⟩)
          have hgl2 : g.length ≤ 6 := by
            have h1 := (List.sublist_flatten_of_mem hgm).length_le
            rw [lpm.length_eq] at h1
            omega
          have S5' := S4'.trans S5
          walk_at "vc"
          refine ⟨rfl, ?_⟩
          refine w_yesI ?_
          walk_at "vc"
          refine ⟨y5, y, g, gs, rfl, by omega, lne g hgm, by omega, fun x hx => pm.mem_iff.mpr (hgf x hx), nd, fun x hx y hy => same x (hgf x hx) y (hcg g hgm x hx y hy), M5, S5.mh, id5.mono S5'.mm, id2.mono ((S3.trans S4).trans S5).mm, ?_⟩
          rintro v6 M6 H6 S6 rfl
          obtain ⟨m6, h6⟩ := S6.keep m5 h5
          exact LcA.of hD (S5.trans S6) m6 h6 (by rw [List.length_map, List.length_replicate]; omega) (by rw [List.replicate_succ', List.map_append]; rfl)
        · rintro D acc M5 H5 hD S5 m5 h5 rfl
          walk_at "vc"
          refine ⟨D, _, rfl, h5, ?_⟩
          rw [all_yes]
          walk_at "vc"
          exact ⟨_, _, M5, rfl, ((S2.trans S3).trans S4).trans S5⟩
  · rintro σ2 H2 ⟨o4, o5, M2, rfl, S2⟩
    walk_at "vc"
    exact k _ _ _ (S1.trans S2) rfl
end
end Nt
namespace Nt
section
variable {P : Program} {w : World} {K : PySem.W.Frag} {mg : Str → Option Value} {base : Heap}
def sp_l_bent_pairs : Sp := fun vs H Q _ => ∃ (b : Addr) (u v : V) (full : List Str) (ps : List (Str × Str)), vs = [.ref b, u, v] ∧ 0 < full.length ∧ full.length ≤ 40 ∧ (∀ r ∈ full, r.length ≤ 100) ∧ ps.length ≤ 20 ∧
  ∃ M, Same M H ∧ Bag M H b ∧ Is M (dS full) u ∧ Is M (.lst (ps.map prD)) v ∧ RetB b M H Q Sm
theorem Sm.prD (p : Str × Str) : Sm (prD p) := Sm.seq rfl (Nat.le_of_ble_eq_true rfl) fun x hx => by
  simp only [List.mem_cons, List.not_mem_nil, or_false] at hx
  rcases hx with rfl | rfl <;> exact fun _ e => by cases e
theorem ok_l_bent_pairs (T : Tx K mg) : Good P w K mg base CX0 4 (He.fAd K (He.DefD.at_ d_l_bent_pairs)) p_l_bent_pairs sp_l_bent_pairs := by
  obtain ⟨fd, F⟩ := T.def_ 44 (d := d_l_bent_pairs) rfl
  have g_l_odd : Good P w K mg base CX0 3 (He.fAd K (He.DefD.at_ d_l_odd)) p_l_odd sp_l_odd := ok_l_odd T
  have g_l_pick : Good P w K mg base CX0 2 (He.fAd K (He.DefD.at_ d_l_pick)) p_l_pick sp_l_pick := ok_l_pick T
  have g_l_pull : Good P w K mg base CX0 1 (He.fAd K (He.DefD.at_ d_l_pull)) p_l_pull sp_l_pull := ok_l_pull T
  refine good_of F sc_l_bent_pairs (fun _ _ _ _ _ _ us hl => match us, hl with | [_, _, _], _ => rfl) (by intro vs H Q E h; (repeat obtain ⟨_, h⟩ := h); subst_vars; rfl) fun cdv A outer s H vs Q E hr h => ?_
  have hu := hu_of hr
  refine ⟨_, (pss_cons (ps_par (i := 3) (j := 4) rfl sc_l_bent_pairs.nd rfl rfl (by decide) rfl rfl (pa_cons (pe_good g_l_pick (hr.mono (by decide)) rfl T.m_l_pick (pa_cons (pv 0) (pa_cons (pv 1) pa_nil))) (pa_cons (pe_good g_l_pull (hr.mono (by decide)) rfl T.m_l_pull (pa_cons (pv 0) (pa_cons (pe_op op_add (pe_callB cq_len (by rfl) T.b_len (by decide +kernel) (pa_cons (pv 2) pa_nil)) pe_int) pa_nil))) pa_nil)) (by rfl))  (pss_cons (ps_set (i := 5) sc_l_bent_pairs.nd rfl (Or.inl rfl) (pe_lst (pa_cons (pe_tup (pa_cons (pv 3) pa_nil)) (pa_cons (pe_tup (pa_cons (pv 3) (pa_cons (pv 3) (pa_cons (pv 3) pa_nil)))) (pa_cons (pe_lst (pa_cons (pv 3) (pa_cons (pv 3) pa_nil))) (pa_cons (pv 3) (pa_cons (pe_tup (pa_cons (pv 3) (pa_cons (pe_op op_mul_str pe_str (pe_callB call_len_str (by rfl) T.b_len (by decide +kernel) (pa_cons (pv 3) pa_nil))) pa_nil))) (pa_cons (pe_tup (pa_cons (pv 3) (pa_cons pe_non pa_nil))) (pa_cons (pe_tup (pa_cons pe_int (pa_cons (pv 3) pa_nil))) (pa_cons pe_non (pa_cons pe_bl (pa_cons pe_dnewK (pa_cons (pe_tup pa_nil) pa_nil)))))))))))))  (pss_cons (ps_if (pt_cmpR op_eq (pe_good g_l_pull (hr.mono (by decide)) rfl T.m_l_pull (pa_cons (pv 0) (pa_cons pe_int pa_nil))) pe_int (nomark _))  (pss_one (ps_ret (pe_good g_l_pick (hr.mono (by decide)) rfl T.m_l_pick (pa_cons (pv 0) (pa_cons (pe_lst (pa_cons pe_non (pa_cons pe_bl (pa_cons pe_int (pa_cons pe_str (pa_cons (pv 3) (pa_cons pe_dnewK (pa_cons (pe_tup (pa_cons (pv 3) (pa_cons (pv 3) pa_nil))) (pa_cons (pe_dispT hu (pps_cons (pe_tup (pa_cons (pv 3) (pa_cons (pv 3) pa_nil))) pe_int pps_nil) (by rfl) (by rfl) (fun z => by cases z) (by decide)) (pa_cons (pe_op op_add_str (pv 3) (pv 3)) pa_nil)))))))))) pa_nil)))))  pss_nil)  (pss_one (ps_ret (pe_op op_cat (pe_op op_cat (pe_slice sq_list (pv 2) po_none (po_some (pv 4))) (pe_lst (pa_cons (pe_good g_l_pick (hr.mono (by decide)) rfl T.m_l_pick (pa_cons (pv 0) (pa_cons (pe_op op_cat (pv 5) (pe_lst (pa_cons (pe_tup (pa_cons (pv 3) (pa_cons (pe_good g_l_odd (hr.mono (by decide)) rfl T.m_l_odd (pa_cons (pv 0) pa_nil)) pa_nil))) pa_nil))) pa_nil))) pa_nil))) (pe_slice sq_list (pv 2) (po_some (pv 4)) po_none))))))), ?_⟩
  obtain ⟨b, u, v, full, ps, rfl, hf0, hf1, hrl, hpl, M, s0, B, iu, iv, k⟩ := h
  obtain ⟨xa, xs, rfl, hxa, ixa⟩ := id iv
  have S := Stp.refl (ex := exB b) s0
  have hxl : xs.length = ps.length := by have := ixa.len; rw [List.length_map] at this; exact this
  have kx : KA M xs := KA.of ixa fun d hd => by
    obtain ⟨g, hg, rfl⟩ := List.mem_map.mp hd
    exact Sm.prD g
  walk_at "vc"
  refine ⟨b, u, full.map Dat.str, rfl, by rw [List.length_map]; exact hf0, by rw [List.length_map]; omega, M, s0, B, iu.q, ?_⟩
  clear B
  rintro d v1 M1 H1 hd S1 B i1
  obtain ⟨r, hr', rfl⟩ := List.mem_map.mp hd
  obtain rfl : v1 = .str r := i1
  have hrl := hrl r hr'
  have S' := S.trans S1
  have mm := S1.mm
  replace hxa := mm _ _ hxa
  replace kx := kx.mono mm
  clear S
  have S := S'
  clear S' mm
  walk_at "vc"
  refine ⟨xa, xs, rfl, .inl (S.mh _ _ hxa), ?_⟩
  walk_at "vc"
  refine ⟨b, xs.length + 1, rfl, by omega, by omega, _, S.mh, B, ?_⟩
  clear B
  rintro d v2 M2 H2 ⟨i, rfl, hi⟩ S2 B rfl
  have S' := S.trans S2
  have mm := S2.mm
  replace hxa := mm _ _ hxa
  replace kx := kx.mono mm
  clear S
  have S := S'
  clear S' mm
  clear S1 S2
  walk_at "vc"
  intro p1 hp
  generalize hH : upd _ p1 _ = H'
  obtain ⟨M', S', B', mm, e1, fr, kp1⟩ := ka_tup2 S B (KA.s KA.nil) hH (Nat.le_of_ble_eq_true rfl) hp
  replace hxa := mm _ _ hxa
  replace kx := kx.mono mm
  clear S B
  have S := S'
  have B := B'
  clear S' B' hp hH fr mm
  walk_at "vc"
  intro p2 hp
  generalize hH : upd _ p2 _ = H'
  obtain ⟨M', S', B', mm, e2, fr, kp2⟩ := ka_tup2 S B (KA.s (KA.s (KA.s KA.nil))) hH (Nat.le_of_ble_eq_true rfl) hp
  replace hxa := mm _ _ hxa
  replace kx := kx.mono mm
  replace kp1 := kp1.mono mm
  clear S B
  have S := S'
  have B := B'
  clear S' B' hp hH fr mm
  walk_at "vc"
  intro p3 hp
  generalize hH : upd _ p3 _ = H'
  obtain ⟨M', S', B', mm, e3, fr, kp3⟩ := ka_lst2 S B (KA.s (KA.s KA.nil)) hH (Nat.le_of_ble_eq_true rfl) hp
  replace hxa := mm _ _ hxa
  replace kx := kx.mono mm
  replace kp1 := kp1.mono mm
  replace kp2 := kp2.mono mm
  clear S B
  have S := S'
  have B := B'
  clear S' B' hp hH fr mm
  walk_at "vc"
  refine ⟨r, rfl, Nat.le_trans hrl (by decide), ?_⟩
  refine ⟨_, _, rfl, rfl, by omega, by omega, by decide +kernel, ?_⟩
  walk_at "vc"
  intro p5 hp
  generalize hH : upd _ p5 _ = H'
  obtain ⟨M', S', B', mm, e5, fr, kp5⟩ := ka_tup2 S B (KA.s (KA.s KA.nil)) hH (Nat.le_of_ble_eq_true rfl) hp
  replace hxa := mm _ _ hxa
  replace kx := kx.mono mm
  replace kp1 := kp1.mono mm
  replace kp2 := kp2.mono mm
  replace kp3 := kp3.mono mm
  clear S B
  have S := S'
  have B := B'
  clear S' B' hp hH fr mm
  walk_at "vc"
  intro p6 hp
  generalize hH : upd _ p6 _ = H'
  obtain ⟨M', S', B', mm, e6, fr, kp6⟩ := ka_tup2 S B (KA.s (KA.n KA.nil)) hH (Nat.le_of_ble_eq_true rfl) hp
  replace hxa := mm _ _ hxa
  replace kx := kx.mono mm
  replace kp1 := kp1.mono mm
  replace kp2 := kp2.mono mm
  replace kp3 := kp3.mono mm
  replace kp5 := kp5.mono mm
  clear S B
  have S := S'
  have B := B'
  clear S' B' hp hH fr mm
  walk_at "vc"
  intro p7 hp
  generalize hH : upd _ p7 _ = H'
  obtain ⟨M', S', B', mm, e7, fr, kp7⟩ := ka_tup2 S B (KA.i (KA.s KA.nil)) hH (Nat.le_of_ble_eq_true rfl) hp
  replace hxa := mm _ _ hxa
  replace kx := kx.mono mm
  replace kp1 := kp1.mono mm
  replace kp2 := kp2.mono mm
  replace kp3 := kp3.mono mm
  replace kp5 := kp5.mono mm
  replace kp6 := kp6.mono mm
  clear S B
  have S := S'
  have B := B'
  clear S' B' hp hH fr mm
  walk_at "vc"
  intro p8 hp
  generalize hH : upd _ p8 _ = H'
  obtain ⟨M', S', B', mm, kq⟩ := ka_dnew S B KA.nil hH hp
  have kp8 := kq
  replace hxa := mm _ _ hxa
  replace kx := kx.mono mm
  replace kp1 := kp1.mono mm
  replace kp2 := kp2.mono mm
  replace kp3 := kp3.mono mm
  replace kp5 := kp5.mono mm
  replace kp6 := kp6.mono mm
  replace kp7 := kp7.mono mm
  clear S B
  have S := S'
  have B := B'
  clear S' B' hp hH kq mm
  walk_at "vc"
  intro p9 hp
  generalize hH : upd _ p9 _ = H'
  obtain ⟨M', S', B', mm, e9, fr, kp9⟩ := ka_tup2 S B (KA.nil) hH (Nat.le_of_ble_eq_true rfl) hp
  replace hxa := mm _ _ hxa
  replace kx := kx.mono mm
  replace kp1 := kp1.mono mm
  replace kp2 := kp2.mono mm
  replace kp3 := kp3.mono mm
  replace kp5 := kp5.mono mm
  replace kp6 := kp6.mono mm
  replace kp7 := kp7.mono mm
  replace kp8 := kp8.mono mm
  clear S B
  have S := S'
  have B := B'
  clear S' B' hp hH fr mm
  walk_at "vc"
  have kz := KA.con kp1 (KA.con kp2 (KA.con kp3 (KA.s (x := r) (KA.con kp5 (KA.con kp6 (KA.con kp7 (KA.n (KA.bo (i := true) (KA.con kp8 kp9)))))))))
  intro p10 hp
  generalize hH : upd _ p10 _ = H'
  obtain ⟨M', S', B', mm, e10, fr, kp10⟩ := ka_lst2 S B (kz) hH (Nat.le_of_ble_eq_true rfl) hp
  replace hxa := mm _ _ hxa
  replace kx := kx.mono mm
  replace kz := kz.mono mm
  clear S B
  have S := S'
  have B := B'
  clear S' B' hp hH fr mm
  walk_at "vc"
  clear kp1 kp2 kp3 kp5 kp6 kp7 kp8 kp9 kp10
  refine ⟨b, 5, rfl, by omega, by omega, _, S.mh, B, ?_⟩
  clear B
  rintro d v3 M3 H3 ⟨j, rfl, hj⟩ S3 B rfl
  have S' := S.trans S3
  have mm := S3.mm
  replace hxa := mm _ _ hxa
  replace e10 := mm _ _ e10
  replace kx := kx.mono mm
  replace kz := kz.mono mm
  clear S
  have S := S'
  clear S' mm
  clear S3
  walk_at "vc"
  refine ifd (fun q => ?_) (fun q => ?_)
  · walk_at "vc"
    intro p11 hp
    generalize hH : upd _ p11 _ = H'
    obtain ⟨M', S', B', mm, kq⟩ := ka_dnew S B KA.nil hH hp
    have kp11 := kq
    replace hxa := mm _ _ hxa
    replace kx := kx.mono mm
    replace kz := kz.mono mm
    clear S B
    have S := S'
    have B := B'
    clear S' B' hp hH kq mm
    walk_at "vc"
    intro p12 hp
    generalize hH : upd _ p12 _ = H'
    obtain ⟨M', S', B', mm, e12, fr, kp12⟩ := ka_tup2 S B (KA.s (KA.s KA.nil)) hH (Nat.le_of_ble_eq_true rfl) hp
    replace hxa := mm _ _ hxa
    replace kx := kx.mono mm
    replace kp11 := kp11.mono mm
    clear S B
    have S := S'
    have B := B'
    clear S' B' hp hH fr mm
    walk_at "vc"
    intro p14 hp
    generalize hH : upd _ p14 _ = H'
    obtain ⟨S', B', h0', mp, hq, ne⟩ := ka_t0 S B hH hp
    clear S B hH
    refine w_one ?_
    walk_at "vc"
    intro p13 hp13
    generalize hH2 : upd _ p13 _ = H4
    obtain ⟨M', S2, B2, mm, e13, fr, k13⟩ := ka_tup2 S' B' (KA.s (x := r) (KA.s (x := r) KA.nil)) hH2 (Nat.le_of_ble_eq_true rfl) hp13
    have hne : p14 ≠ p13 := fun z => by rw [z, hp13] at h0'; cases h0'
    have h1' : H4 p14 = some (.dT []) := by rw [← hH2, upd_ne hne]; exact h0'
    have mp' : M' p14 = none := (fr _ hne).trans mp
    replace kp11 := kp11.mono mm
    replace kp12 := kp12.mono mm
    clear mm hH2
    walk_at "vc"
    refine ⟨h1', p13, [Sum.inr r, Sum.inr r], .int 1, rfl, S2.mh _ _ e13, ?_⟩
    generalize hH3 : upd _ p14 _ = H5
    obtain ⟨M4, S, B, mm, kp14⟩ := ka_t1 S2 B2 KA.nil hH3 mp' hq ne
    replace kp11 := kp11.mono mm
    replace kp12 := kp12.mono mm
    clear mm hH3
    walk_at "vc"
    refine ⟨r, r, rfl, rfl, Nat.le_trans (show r.length + r.length ≤ 400 by omega) (line200 (Nat.le_refl _)), ?_⟩
    walk_at "vc"
    have ky := KA.n (KA.bo (i := true) (KA.i (i := 7) (KA.s (x := "") (KA.s (x := r) (KA.con kp11 (KA.con kp12 (KA.con kp14 (KA.s (x := r ++ r) KA.nil))))))))
    intro p18 hp
    generalize hH : upd _ p18 _ = H'
    obtain ⟨M', S', B', mm, e18, fr, kp18⟩ := ka_lst2 S B (ky) hH (Nat.le_of_ble_eq_true rfl) hp
    replace ky := ky.mono mm
    clear S B
    have S := S'
    have B := B'
    clear S' B' hp hH fr mm
    walk_at "vc"
    obtain ⟨ds, ia, hd⟩ := ky.kids
    have hl := ia.len
    refine ⟨b, _, ds, rfl, by rw [← hl]; exact Nat.le_of_ble_eq_true rfl, by rw [← hl]; exact Nat.lt_of_le_of_lt (Nat.le_of_ble_eq_true (m := 100) rfl) (by decide), _, S.mh, B, ⟨p18, _, rfl, .inl e18, ia⟩, ?_⟩
    exact fun d v M2 H2 hm S2 B2 i2 => k d v M2 H2 (hd d hm) (S.trans S2) B2 i2
  · walk_at "vc"
    refine ⟨xa, xs, rfl, S.mh _ _ hxa, ?_⟩
    intro p11 hp
    generalize hH : upd _ p11 _ = H'
    obtain ⟨M', S', B', mm, e11, fr, kp11⟩ := ka_lst2 S B ((by rw [cutV_to]; exact kx.take i)) hH (by rw [cutV_to, List.length_take]; omega) hp
    replace hxa := mm _ _ hxa
    replace e10 := mm _ _ e10
    replace kx := kx.mono mm
    replace kz := kz.mono mm
    clear S B
    have S := S'
    have B := B'
    clear S' B' hp hH fr mm
    walk_at "vc"
    refine ⟨b, rfl, _, S.mh, B, ?_⟩
    clear B
    rintro d v4 M4 H4 hd S4 B i4
    have S' := S.trans S4
    have mm := S4.mm
    replace hxa := mm _ _ hxa
    replace e11 := mm _ _ e11
    replace e10 := mm _ _ e10
    replace kx := kx.mono mm
    replace kz := kz.mono mm
    clear S
    have S := S'
    clear S' mm
    have ko : KA M4 [v4] := KA.one i4 hd
    walk_at "vc"
    intro p12 hp
    generalize hH : upd _ p12 _ = H'
    obtain ⟨M', S', B', mm, e12, fr, kp12⟩ := ka_tup2 S B (KA.s ko) hH (Nat.le_of_ble_eq_true rfl) hp
    replace hxa := mm _ _ hxa
    replace e11 := mm _ _ e11
    replace e10 := mm _ _ e10
    replace kx := kx.mono mm
    replace kz := kz.mono mm
    clear S B
    have S := S'
    have B := B'
    clear S' B' hp hH fr mm
    walk_at "vc"
    intro p13 hp
    generalize hH : upd _ p13 _ = H'
    obtain ⟨M', S', B', mm, e13, fr, kp13⟩ := ka_lst2 S B (kp12) hH (Nat.le_of_ble_eq_true rfl) hp
    replace hxa := mm _ _ hxa
    replace e11 := mm _ _ e11
    replace e10 := mm _ _ e10
    replace kx := kx.mono mm
    replace kz := kz.mono mm
    replace kp12 := kp12.mono mm
    clear S B
    have S := S'
    have B := B'
    clear S' B' hp hH fr mm
    walk_at "vc"
    refine ⟨p10, p13, _, _, rfl, rfl, S.mh _ _ e10, S.mh _ _ e13, line200 (by show 12 ≤ 400; omega), ?_⟩
    have kw := KA.app kz kp12
    intro p14 hp
    generalize hH : upd _ p14 _ = H'
    obtain ⟨M', S', B', mm, e14, fr, kp14⟩ := ka_lst2 S B (kw) hH (Nat.le_of_ble_eq_true rfl) hp
    replace hxa := mm _ _ hxa
    replace e11 := mm _ _ e11
    replace kx := kx.mono mm
    replace kw := kw.mono mm
    clear S B
    have S := S'
    have B := B'
    clear S' B' hp hH fr mm
    walk_at "vc"
    obtain ⟨ds, ia, hd⟩ := kw.kids
    have hl := ia.len
    refine ⟨b, _, ds, rfl, by rw [← hl]; exact Nat.le_of_ble_eq_true rfl, by rw [← hl]; exact Nat.lt_of_le_of_lt (Nat.le_of_ble_eq_true (m := 100) rfl) (by decide), _, S.mh, B, ⟨p14, _, rfl, .inl e14, ia⟩, ?_⟩
    clear B
    rintro d v5 M5 H5 hm S5 B i5
    have k5 : KA M5 [v5] := KA.one i5 (hd d hm)
    have S' := S.trans S5
    have mm := S5.mm
    replace hxa := mm _ _ hxa
    replace e11 := mm _ _ e11
    replace kx := kx.mono mm
    clear S
    have S := S'
    clear S' mm
    walk_at "vc"
    intro p15 hp
    generalize hH : upd _ p15 _ = H'
    obtain ⟨M', S', B', mm, e15, fr, kp15⟩ := ka_lst2 S B (k5) hH (Nat.le_of_ble_eq_true rfl) hp
    replace hxa := mm _ _ hxa
    replace e11 := mm _ _ e11
    replace kx := kx.mono mm
    replace k5 := k5.mono mm
    clear S B
    have S := S'
    have B := B'
    clear S' B' hp hH fr mm
    walk_at "vc"
    refine ⟨p11, p15, _, _, rfl, rfl, S.mh _ _ e11, S.mh _ _ e15, line200 (by rw [cutV_to, List.length_take]; show _ + 1 ≤ 400; omega), ?_⟩
    intro p16 hp
    generalize hH : upd _ p16 _ = H'
    obtain ⟨M', S', B', mm, e16, fr, kp16⟩ := ka_lst2 S B ((by rw [cutV_to]; exact KA.app (kx.take i) k5)) hH (by rw [cutV_to, List.length_append, List.length_take]; show _ + 1 ≤ 200; omega) hp
    replace hxa := mm _ _ hxa
    replace kx := kx.mono mm
    replace k5 := k5.mono mm
    clear S B
    have S := S'
    have B := B'
    clear S' B' hp hH fr mm
    walk_at "vc"
    refine ⟨xa, xs, rfl, S.mh _ _ hxa, ?_⟩
    intro p17 hp
    generalize hH : upd _ p17 _ = H'
    obtain ⟨M', S', B', mm, e17, fr, kp17⟩ := ka_lst2 S B ((by rw [cutV_from]; exact kx.drop i)) hH (by rw [cutV_from, List.length_drop]; omega) hp
    replace hxa := mm _ _ hxa
    replace e16 := mm _ _ e16
    replace kx := kx.mono mm
    replace k5 := k5.mono mm
    clear S B
    have S := S'
    have B := B'
    clear S' B' hp hH fr mm
    walk_at "vc"
    refine ⟨p16, p17, _, _, rfl, rfl, S.mh _ _ e16, S.mh _ _ e17, line200 (by rw [cutV_to, cutV_from, List.length_append, List.length_take, List.length_drop]; show _ + 1 + _ ≤ 400; omega), ?_⟩
    intro p18 hp
    generalize hH : upd _ p18 _ = H'
    obtain ⟨M', S', B', mm, e18, fr, kp18⟩ := ka_lst2 S B ((by rw [cutV_to, cutV_from]; exact KA.app (KA.app (kx.take i) k5) (kx.drop i))) hH (by rw [cutV_to, cutV_from, List.length_append, List.length_append, List.length_take, List.length_drop]; show _ + 1 + _ ≤ 200; omega) hp
    replace hxa := mm _ _ hxa
    replace kx := kx.mono mm
    clear S B
    have S := S'
    have B := B'
    clear S' B' hp hH fr mm
    walk_at "vc"
    obtain ⟨d, id, sd⟩ := kp18 _ List.mem_cons_self
    exact k d _ _ _ sd S B id
end
end Nt
namespace Nt
section
variable {P : Program} {w : World} {K : PySem.W.Frag} {mg : Str → Option Value} {base : Heap}
theorem w_make {C : Addr} {sp : Sp} {dvs : List V} {E : XK} {t : TA} {σ : L2.St} {H : Hp} {Q : VK} (k : t σ H fun vs H1 => ∀ x dx, H1 x = none → H1 dx = none → dx ≠ x →
  sp (.ref x :: (vs ++ dvs)) (upd (upd H1 dx (.own x)) x (.ins C dx [])) (fun v H2 => v = .non ∧ Q (.ref x) H2) E) : tMake C sp dvs E t σ H Q := k
theorem fnok_of {x qual : Str} {params : Arguments} {body : List Stmt} {scope : Scope} {f : Addr} {fd : FuncData} {N ps : List Str} {k : Nat} {sp : Sp} (F : FunD K x qual params body scope [] [] f fd) (S : FnScope N ps scope)
    (len : ∀ vs H Q E, sp vs H Q E → vs.length = ps.length)
    (hbody : ∀ (cdv : Value) (A : Around) (outer : List Env) (s : Shared) (H : Hp) (vs : List V) (Q : VK) (E : XK), Room k (A.deeper (envOfC qual scope s.heap.objs.size f cdv)) → sp vs H Q E →
      ∃ t, PSs (cxOf CX0 P w K mg base N qual scope f cdv A outer s H E).nox body t ∧ t { nx := fun _ H' => Q .non H', rt := Q } (start N vs) H) : FnOk P w K mg base CX0 (k + 1) f fd ps sp :=
  F.ok S len fun cdv A outer s H vs Q E hr h => let ⟨t, a, b⟩ := hbody cdv A outer s H vs Q E hr h; ⟨t, a.nox, b⟩
theorem pl_strs {xs : List Str} {k : Nat} (h : xs.length ≤ 1000000) : PL (k + 2) (dS xs) := ⟨by rw [List.length_map]; exact h, fun d hd => by
  obtain ⟨x, _, rfl⟩ := List.mem_map.mp hd
  trivial⟩
def sp_law (K : PySem.W.Frag) : Sp := fun vs H Q _ => ∃ (a : Addr) (ns : List Int), vs = [.ref a] ∧ SqL K H a (ns.map V.int) ∧ ns.length ≤ 1000 ∧ ∀ H', Q (.bl true) H'
theorem eps_iff {seeds : List Str} {ps : List (Str × Str)} (x y : Str) : Classical.epsilon (fun z => Cg seeds ps x z) = Classical.epsilon (fun z => Cg seeds ps y z) ↔ Cg seeds ps x y := by
  constructor
  · intro h
    have h1 : Cg seeds ps x (Classical.epsilon fun z => Cg seeds ps x z) := Classical.epsilon_spec (p := fun z => Cg seeds ps x z) ⟨x, .refl x⟩
    have h2 : Cg seeds ps y (Classical.epsilon fun z => Cg seeds ps y z) := Classical.epsilon_spec (p := fun z => Cg seeds ps y z) ⟨y, .refl y⟩
    rw [← h] at h2
    exact h1.trans h2.symm
  · intro h
    have e : (fun z => Cg seeds ps x z) = fun z => Cg seeds ps y z := funext fun z => propext ⟨fun q => h.symm.trans q, fun q => h.trans q⟩
    rw [e]
theorem le_e (seeds full : List Str) (ps : List (Str × Str)) : ∃ f : Str → Str, ∀ x y, f x = f y ↔ Cg seeds ps x y := ⟨fun x => Classical.epsilon fun z => Cg seeds ps x z, fun x y => eps_iff x y⟩
theorem eF_iff {f : Str → Str} {x y : Str} : eF f x y = true ↔ f x = f y := by simp [eF]
theorem cg_nil {seeds : List Str} {x y : Str} : Cg seeds [] x y ↔ x = y := by
  constructor
  · intro h
    exact h.least (E := fun x y => x = y) ⟨fun _ => rfl, fun h => h.symm, fun h g => h.trans g⟩ (fun p hp => by cases hp) fun s hs x y e => by rw [e]
  · rintro rfl
    exact .refl x
theorem cg_more {seeds : List Str} {ps : List (Str × Str)} {p : Str × Str} (h : Cg seeds ps p.1 p.2) {x y : Str} : Cg seeds (ps ++ [p]) x y ↔ Cg seeds ps x y := by
  constructor
  · refine Cg.more fun q hq => ?_
    rcases List.mem_append.mp hq with z | z
    · exact .pair z
    · rw [List.mem_singleton.mp z]; exact h
  · exact Cg.more fun q hq => .pair (List.mem_append_left _ hq)
/-- the least lumps -/
structure Lst (seeds full : List Str) (ps : List (Str × Str)) (gs : List (List Str)) : Prop where
  ex : ∃ f : Str → Str, (∀ x y, f x = f y ↔ Cg seeds ps x y) ∧ gs = lst (eF f) full
theorem Lst.pm {seeds full : List Str} {ps : List (Str × Str)} {gs : List (List Str)} (h : Lst seeds full ps gs) : gs.flatten.Perm full := by
  obtain ⟨f, _, rfl⟩ := h.ex
  exact lst_flat _ _
theorem Lst.ne {seeds full : List Str} {ps : List (Str × Str)} {gs : List (List Str)} (h : Lst seeds full ps gs) : ∀ g ∈ gs, g ≠ [] := by
  obtain ⟨f, _, rfl⟩ := h.ex
  exact lst_ne _ _
theorem Lst.cg {seeds full : List Str} {ps : List (Str × Str)} {gs : List (List Str)} (h : Lst seeds full ps gs) : ∀ g ∈ gs, ∀ x ∈ g, ∀ y ∈ g, Cg seeds ps x y := by
  obtain ⟨f, hf, rfl⟩ := h.ex
  exact fun g hg x hx y hy => (hf x y).mp ((lst_grp f full).1 g hg x hx y hy)
theorem Lst.has {seeds full : List Str} {ps : List (Str × Str)} {gs : List (List Str)} (h : Lst seeds full ps gs) : ∀ g ∈ gs, ∀ x ∈ g, ∀ y ∈ full, Cg seeds ps x y → y ∈ g := by
  obtain ⟨f, hf, rfl⟩ := h.ex
  exact fun g hg x hx y hy c => (lst_grp f full).2 g hg x hx y hy ((hf x y).mpr c)
/-- the lumps of two rows are one -/
theorem Lst.plc {seeds full : List Str} {ps : List (Str × Str)} {gs : List (List Str)} (h : Lst seeds full ps gs) (nd : full.Nodup) {x y : Str} (hx : x ∈ full) (hy : y ∈ full) (c : Cg seeds ps x y) : plc gs x = plc gs y := by
  have pm := h.pm
  have nd' : gs.flatten.Nodup := pm.nodup_iff.mpr nd
  obtain ⟨h1, h2, _, h4⟩ := plc_has (pm.mem_iff.mpr hx)
  refine (plc_at nd' (h.has _ (mem_getD h4).2.1 x h4 y hy c)).symm
theorem Lst.hold {seeds full : List Str} {ps : List (Str × Str)} {gs : List (List Str)} (h : Lst seeds full ps gs) (nd : full.Nodup) (cl : ∀ s ∈ seeds, ∀ r ∈ full, ovr s r ∈ full) : BrkIs gs seeds full none := by
  intro s hs r hr o ⟨h1, h2⟩
  obtain ⟨_, _, _, h4⟩ := plc_has (h.pm.mem_iff.mpr hr)
  have hg := (mem_getD h4).2.1
  have ho : o ∈ full := h.pm.mem_iff.mp (List.mem_flatten.mpr ⟨_, hg, h1⟩)
  exact h2 (h.plc nd (cl s hs o ho) (cl s hs r hr) (.seed hs (h.cg _ hg o h1 r h4)))
theorem Lst.le {seeds full : List Str} {ps qs : List (Str × Str)} {gs : List (List Str)} (h : Lst seeds full ps gs) (hq : ∀ x y, Cg seeds qs x y ↔ Cg seeds ps x y) : ∃ e, LeE seeds full qs e ∧ gs = lst e full := by
  obtain ⟨f, hf, rfl⟩ := h.ex
  exact ⟨eF f, fun x _ y _ => (eF_iff.trans (hf x y)).trans (hq x y).symm, rfl⟩
theorem lst_nil {seeds full : List Str} (nd : full.Nodup) : ∃ e, LeE seeds full [] e ∧ lst e full = full.map fun r => [r] :=
  ⟨eF id, fun x _ y _ => (eF_iff.trans (Iff.rfl : id x = id y ↔ x = y)).trans cg_nil.symm, lst_ones nd fun x _ y _ e => e⟩
theorem isL_of {full : List Str} {gs : List (List Str)} (pm : gs.flatten.Perm full) (ne : ∀ g ∈ gs, g ≠ []) : IsL full (lumpsD gs) := ⟨gs.map dS, gs, rfl, lumpsOf_map gs, ne, pm⟩
theorem OL.wb {H0 H0' M H : Hp} (h : ∀ a, H0 a = none → H0' a = none) : ∀ {rs : List Addr} {ss : List (List Str)}, OL H0 M H rs ss → OL H0' M H rs ss
  | [], [], _ => trivial
  | a :: r, s :: ss, q => ⟨h a q.1, q.2.1, q.2.2.1, q.2.2.2.1, OL.wb h q.2.2.2.2⟩
theorem pl_lumps {gs : List (List Str)} {k : Nat} (h : gs.length ≤ 1000) (h2 : ∀ g ∈ gs, g.length ≤ 1000) : PL (k + 3) (lumpsD gs) := ⟨by rw [List.length_map]; omega, fun d hd => by
  obtain ⟨g, hg, rfl⟩ := List.mem_map.mp hd
  exact pl_strs (Nat.le_trans (h2 g hg) (by decide))⟩
structure Own (H0 M H : Hp) (D : Addr) (o : HO) (rs : List Addr) (gs : List (List Str)) : Prop where
  h0 : H0 D = none
  mD : M D = none
  hD : H D = some o
  ol : OL H0 M H rs gs
  nr : D ∉ rs
theorem own_back {M H M2 H2 M' H' : Hp} {D : Addr} {o : HO} {rs : List Addr} {gs : List (List Str)} (s : Same M H) (S2 : Stp no M H M2 H2) (S : Stp no M H M' H') (q : Same H2 H') (W : Own H M2 H2 D o rs gs) :
    Stp no M H M H' ∧ Own H M H' D o rs gs :=
  ⟨⟨Same.refl M, S.mm.trans S.mh, S.hh, fun _ e _ => e, S.th⟩, W.h0, none_of_same s W.h0, q _ _ W.hD, W.ol.step fun _ _ _ m e => ⟨none_of_same S2.mm m, q _ _ e⟩, W.nr⟩
theorem Own.stp {H0 M H M' H' : Hp} {D b : Addr} {o : HO} {rs : List Addr} {gs : List (List Str)} (w : Own H0 M H D o rs gs) (hb : H0 b ≠ none) (T : Stp (exB b) M H M' H') : Own H0 M' H' D o rs gs :=
  ⟨w.h0, T.fr D w.mD (by rw [w.hD]; exact Option.some_ne_none o), T.hh D _ (fun z => hb (by rw [← show D = b from z]; exact w.h0)) w.hD,
    w.ol.step fun a ha o m e => ⟨T.fr a m (by rw [e]; exact Option.some_ne_none o), T.hh a _ (fun z => hb (by rw [← show a = b from z]; exact (w.ol.mem ha).1)) e⟩, w.nr⟩
theorem lay_both {b p : Addr} {M0 H0 M H H1 : Hp} {o : HO} (S : Stp (exB b) M0 H0 M H) (B : Bag M H b) (hp : H p = none) (hH : upd H p o = H1) :
    ∃ M', Stp (exB b) M0 H0 M' H1 ∧ Bag M' H1 b ∧ Same M M' ∧ M' p = some o := by
  subst hH
  exact ⟨_, S.lay o hp, B.lay S.mh hp, same_upd (S.mfree hp), upd_same⟩
structure Hld (b : Addr) (M0 H0 M H : Hp) (D : Addr) (o : HO) (rs : List Addr) (gs : List (List Str)) : Prop where
  S : Stp (exB b) M0 H0 M H
  B : Bag M H b
  W : Own H0 M H D o rs gs
  hb : H0 b ≠ none
theorem Hld.stp {b : Addr} {M0 H0 M H M' H' : Hp} {D : Addr} {o : HO} {rs : List Addr} {gs : List (List Str)} (w : Hld b M0 H0 M H D o rs gs) (T : Stp (exB b) M H M' H') (B' : Bag M' H' b) : Hld b M0 H0 M' H' D o rs gs :=
  ⟨w.S.trans T, B', w.W.stp w.hb T, w.hb⟩
theorem Hld.no {b : Addr} {M0 H0 M H M' H' : Hp} {D : Addr} {o : HO} {rs : List Addr} {gs : List (List Str)} (w : Hld b M0 H0 M H D o rs gs) (T : Stp no M H M' H') : Hld b M0 H0 M' H' D o rs gs := w.stp T.of (w.B.keep T)
theorem Hld.lay {b p : Addr} {M0 H0 M H H1 : Hp} {D : Addr} {o o' : HO} {rs : List Addr} {gs : List (List Str)} (w : Hld b M0 H0 M H D o rs gs) (hp : H p = none) (hH : upd H p o' = H1) :
    ∃ M', Hld b M0 H0 M' H1 D o rs gs ∧ Same M M' ∧ M' p = some o' := by
  subst hH
  have T : Stp Nt.no M H (upd M p o') (upd H p o') := (Stp.refl w.S.mh).lay o' hp
  exact ⟨_, w.no T, T.mm, upd_same⟩
theorem retL_fix {M H M' H' : Hp} {D : Addr} {rs : List Addr} {gs : List (List Str)} (S : Stp no M H M' H') (h0 : H D = none) (mD : M' D = none) (hD : H' D = some (.lst (rs.map V.ref))) (ol : OL H M' H' rs gs) (nr : D ∉ rs) :
    ∃ M4, Stp no M H M4 H' ∧ Is M4 (lumpsD gs) (.ref D) := by
  obtain ⟨M3, S3, _, ia3, f3⟩ := OL.fix S ol
  have m3 : M3 D = none := (f3 D nr).trans mD
  exact ⟨_, S3.fix hD h0, D, _, rfl, upd_same, ia3.mono (same_upd m3)⟩
/-- back to where it was -/
theorem Stp.back {ex : Addr → Prop} {M H M' H' : Hp} (s : Same M H) (S : Stp ex M H M' H') : Stp ex M H M H' := ⟨Same.refl M, S.mm.trans S.mh, S.hh, fun _ e _ => e, S.th⟩
theorem ok_law (T : Tx K mg) {fd : FuncData} (F : FunD K (He.DefD.name d_law) (He.DefD.qual d_law) (He.DefD.params d_law) (He.DefD.body d_law) (He.DefD.scope d_law) (He.DefD.dvs K d_law) (He.DefD.kws K d_law) (He.fAd K (He.DefD.at_ d_law)) fd) : FnOk P w K mg base CX0 8 (He.fAd K (He.DefD.at_ d_law)) fd p_law (sp_law K) := by
  have g_l_are_pairs : Good P w K mg base CX0 1 (He.fAd K (He.DefD.at_ d_l_are_pairs)) p_l_are_pairs sp_l_are_pairs := ok_l_are_pairs T
  have g_l_bent_pairs : Good P w K mg base CX0 4 (He.fAd K (He.DefD.at_ d_l_bent_pairs)) p_l_bent_pairs sp_l_bent_pairs := ok_l_bent_pairs T
  have g_l_drawn_pairs : Good P w K mg base CX0 3 (He.fAd K (He.DefD.at_ d_l_drawn_pairs)) p_l_drawn_pairs sp_l_drawn_pairs := ok_l_drawn_pairs T
  have g_l_full : Good P w K mg base CX0 1 (He.fAd K (He.DefD.at_ d_l_full)) p_l_full sp_l_full := ok_l_full T
  have g_l_is_lumps : Good P w K mg base CX0 1 (He.fAd K (He.DefD.at_ d_l_is_lumps)) p_l_is_lumps sp_l_is_lumps := ok_l_is_lumps T
  have g_l_least_lumps : Good P w K mg base CX0 2 (He.fAd K (He.DefD.at_ d_l_least_lumps)) p_l_least_lumps sp_l_least_lumps := ok_l_least_lumps T
  have g_l_no_finer : Good P w K mg base CX0 3 (He.fAd K (He.DefD.at_ d_l_no_finer)) p_l_no_finer sp_l_no_finer := ok_l_no_finer T
  have g_l_pick : Good P w K mg base CX0 2 (He.fAd K (He.DefD.at_ d_l_pick)) p_l_pick sp_l_pick := ok_l_pick T
  have g_l_pull : Good P w K mg base CX0 1 (He.fAd K (He.DefD.at_ d_l_pull)) p_l_pull sp_l_pull := ok_l_pull T
  have g_l_rich_band : Good P w K mg base CX0 5 (He.fAd K (He.DefD.at_ d_l_rich_band)) p_l_rich_band sp_l_rich_band := ok_l_rich_band T
  have g_l_same : Good P w K mg base CX0 5 (He.fAd K (He.DefD.at_ d_l_same)) p_l_same (sp_l_same 4) := ok_l_same T
  have g_l_start : Good P w K mg base CX0 1 (He.fAd K (He.DefD.at_ d_l_start)) p_l_start (sp_l_start K) := ok_l_start T
  have g_l_told : Good P w K mg base CX0 7 (He.fAd K (He.DefD.at_ d_l_told)) p_l_told (sp_l_told (He.ga K "Band")) := ok_l_told T
  have g_lump_of : Good P w K mg base CX0 2 (He.fAd K (He.DefD.at_ d_lump_of)) p_lump_of sp_lump_of := ok_lump_of T
  have g_lumps_break : Good P w K mg base CX0 3 (He.fAd K (He.DefD.at_ d_lumps_break)) p_lumps_break (sp_lumps_break (He.ga K "Band")) := ok_lumps_break T
  have g_check_lumps : Good P w K mg base (L2.CX P w) 5 (He.fAd K (He.DefD.at_ d_check_lumps)) p_check_lumps (sp_check_lumps (He.ga K "Band") (He.ga K "BadLumps")) := ok_check_lumps T
  have g_least_lumps : Good P w K mg base (L2.CX P w) 6 (He.fAd K (He.DefD.at_ d_least_lumps)) p_least_lumps (sp_least_lumps (He.ga K "Band") (He.ga K "BadLumps")) := ok_least_lumps T
  obtain ⟨fd_Band, F_Band, ds_Band, V_Band, B_Band⟩ := ok_Band___init__ (P := P) (w := w) (base := base) T
  have x_BadLumps := T.exc "BadLumps" (by decide)
  refine fnok_of F sc_law (by intro vs H Q E h; (repeat obtain ⟨_, h⟩ := h); subst_vars; rfl) fun cdv A outer s H vs Q E hr h => ?_
  have hu := hu_of hr
  refine ⟨_, (pss_cons (ps_set (i := 1) sc_law.nd rfl (Or.inl rfl) (pe_good g_l_start (hr.mono (by decide)) rfl T.m_l_start (pa_cons (pv 0) pa_nil)))  (pss_cons (ps_asg (pe_good g_l_rich_band (hr.mono (by decide)) rfl T.m_l_rich_band (pa_cons (pv 1) (pa_cons pe_int (pa_cons pe_int (pa_cons pe_int pa_nil))))) (gq_tup K (n := 3) rfl (pgs_cons (pg_name (i := 2) sc_law.nd rfl (Or.inl rfl) (Or.inl rfl)) (pgs_cons (pg_name (i := 3) sc_law.nd rfl (Or.inl rfl) (Or.inl rfl)) (pgs_cons (pg_name (i := 4) sc_law.nd rfl (Or.inl rfl) (Or.inl rfl)) pgs_nil)))))  (pss_cons (ps_set (i := 5) sc_law.nd rfl (Or.inl rfl) (pe_good g_l_full (hr.mono (by decide)) rfl T.m_l_full (pa_cons (pv 4) pa_nil)))  (pss_cons (ps_set (i := 6) sc_law.nd rfl (Or.inl rfl) (pe_make T.mk_Band F_Band (hr.mono (by decide)) rfl T.m_Band B_Band V_Band pass0 (pa_cons (pe_callTy cq_list (by rfl) T.b_list (by decide +kernel) (pa_cons (pv 2) pa_nil)) (pa_cons (pe_callTy cq_list (by rfl) T.b_list (by decide +kernel) (pa_cons (pv 3) pa_nil)) pa_nil))))  (pss_cons (ps_for PassesOwn.never rfl (pi_range1 (by rfl) T.b_range (pa_cons pe_int pa_nil)) (pg_name (i := 7) sc_law.nd rfl (Or.inl rfl) (Or.inl rfl))  (pss_cons (ps_set (i := 8) sc_law.nd rfl (Or.inl rfl) (pe_good g_l_drawn_pairs (hr.mono (by decide)) rfl T.m_l_drawn_pairs (pa_cons (pv 1) (pa_cons (pv 5) (pa_cons (pe_good g_l_pull (hr.mono (by decide)) rfl T.m_l_pull (pa_cons (pv 1) (pa_cons pe_int pa_nil))) pa_nil)))))  (pss_cons (ps_set (i := 9) sc_law.nd rfl (Or.inl rfl) (pe_callTy cq_list (by rfl) T.b_list (by decide +kernel) (pa_cons (pv 8) pa_nil)))  (pss_cons (ps_set (i := 10) sc_law.nd rfl (Or.inl rfl) (pe_good g_l_least_lumps (hr.mono (by decide)) rfl T.m_l_least_lumps (pa_cons (pv 3) (pa_cons (pv 5) (pa_cons (pv 8) pa_nil)))))  (pss_cons (ps_set (i := 11) sc_law.nd rfl (Or.inr rfl) (pe_goodL g_least_lumps (hr.mono (by decide)) rfl T.m_least_lumps (pa_cons (pv 6) (pa_cons (pe_ifExp (pt_cmpR op_eq (pv 7) pe_int (nomark _)) (pe_callTy cq_tuple (by rfl) T.b_tuple (by decide +kernel) (pa_cons (pv 8) pa_nil)) (pv 9)) pa_nil))))  (pss_cons (ps_if (PW.pt (pw_or (pt_not (pt_val (pe_good g_l_same (hr.mono (by decide)) rfl T.m_l_same (pa_cons (pv 11) (pa_cons (pv 10) pa_nil))))) (pw_or (pt_cmpR (op_neD hr.units) (pv 9) (pv 8) (nomark _)) (pw_or1 (pt_not (pt_val (pe_good g_l_is_lumps (hr.mono (by decide)) rfl T.m_l_is_lumps (pa_cons (pv 5) (pa_cons (pv 11) pa_nil)))))))))  (pss_one (ps_ret pe_bl))  pss_nil)  (pss_cons (ps_if (PW.pt (pw_or (pt_cmpR op_notN (pe_goodL g_check_lumps (hr.mono (by decide)) rfl T.m_check_lumps (pa_cons (pv 6) (pa_cons (pv 11) pa_nil))) pe_non (nomark _)) (pw_or1 (pt_cmpR op_notN (pe_good g_lumps_break (hr.mono (by decide)) rfl T.m_lumps_break (pa_cons (pv 6) (pa_cons (pv 11) pa_nil))) pe_non (nomark _)))))  (pss_one (ps_ret pe_bl))  pss_nil)  (pss_cons (ps_if (pt_not (pt_val (pe_callB (cq_all rfl) (by rfl) T.b_all (by decide +kernel) (pa_cons (pe_lc (own := [("_law_one", 16), ("_law_other", 17)]) (by rfl) sc_law.nd (iq_list K (pv 8)) (blkOk_by (own := [("_law_one", 16), ("_law_other", 17)]) (N := n_law) (sc := He.DefD.scope d_law) (by decide +kernel)) (fun _ _ _ _ _ => (gq_tup K (n := 2) rfl (pgs_cons (pg_name (i := 16) sc_law.nd rfl (Or.inl rfl) (Or.inr rfl)) (pgs_cons (pg_name (i := 17) sc_law.nd rfl (Or.inl rfl) (Or.inr rfl)) pgs_nil)))) (fun _ _ _ _ _ => pts_nil) (fun _ _ _ _ _ => (pe_cmpR op_eq (pe_good g_lump_of (hr.mono (by decide)) rfl T.m_lump_of (pa_cons (pv 11) (pa_cons (pv 16) pa_nil))) (pe_good g_lump_of (hr.mono (by decide)) rfl T.m_lump_of (pa_cons (pv 11) (pa_cons (pv 17) pa_nil))) (nomark _)))) pa_nil))))  (pss_one (ps_ret pe_bl))  pss_nil)  (pss_cons (ps_if (PW.pt (pw_and (pt_cmpR op_eq (pv 7) pe_int (nomark _)) (pw_and (pt_cmpR op_le (pe_callB cq_len (by rfl) T.b_len (by decide +kernel) (pa_cons (pv 5) pa_nil)) pe_int (nomark _)) (pw_and1 (pt_not (pt_val (pe_good g_l_no_finer (hr.mono (by decide)) rfl T.m_l_no_finer (pa_cons (pv 3) (pa_cons (pv 5) (pa_cons (pv 8) (pa_cons (pv 11) pa_nil)))))))))))  (pss_one (ps_ret pe_bl))  pss_nil)  (pss_cons (ps_set (i := 12) sc_law.nd rfl (Or.inl rfl) (pe_good g_l_pick (hr.mono (by decide)) rfl T.m_l_pick (pa_cons (pv 1) (pa_cons (pv 10) pa_nil))))  (pss_cons (ps_set (i := 13) sc_law.nd rfl (Or.inl rfl) (pe_op op_cat (pv 8) (pe_lst (pa_cons (pe_tup (pa_cons (pe_good g_l_pick (hr.mono (by decide)) rfl T.m_l_pick (pa_cons (pv 1) (pa_cons (pv 12) pa_nil))) (pa_cons (pe_good g_l_pick (hr.mono (by decide)) rfl T.m_l_pick (pa_cons (pv 1) (pa_cons (pv 12) pa_nil))) pa_nil))) pa_nil))))  (pss_cons (ps_set (i := 14) sc_law.nd rfl (Or.inl rfl) (pe_goodL g_least_lumps (hr.mono (by decide)) rfl T.m_least_lumps (pa_cons (pv 6) (pa_cons (pv 13) pa_nil))))  (pss_cons (ps_if (pt_not (pt_val (pe_good g_l_same (hr.mono (by decide)) rfl T.m_l_same (pa_cons (pv 14) (pa_cons (pv 10) pa_nil)))))  (pss_one (ps_ret pe_bl))  pss_nil)  (pss_cons (ps_expr (eq_bm PySem.F.slot_list_append PySem.F.type_list_append mt_append (pe_ix xq_list (pv 11) pe_int (fun _ _ => rfl)) (pa_cons pe_str pa_nil)))  (pss_cons (ps_expr (eq_bm0 PySem.F.slot_list_reverse PySem.F.type_list_reverse mt_reverse (pv 11)))  (pss_cons (ps_if (pt_not (pt_val (pe_good g_l_same (hr.mono (by decide)) rfl T.m_l_same (pa_cons (pe_lst (pa_cons (pv 14) (pa_cons (pe_goodL g_least_lumps (hr.mono (by decide)) rfl T.m_least_lumps (pa_cons (pv 6) (pa_cons (pv 8) pa_nil))) pa_nil))) (pa_cons (pe_lst (pa_cons (pv 10) (pa_cons (pv 10) pa_nil))) pa_nil)))))  (pss_one (ps_ret pe_bl))  pss_nil)  (pss_cons (ps_set (i := 15) sc_law.nd rfl (Or.inl rfl) (pe_good g_l_bent_pairs (hr.mono (by decide)) rfl T.m_l_bent_pairs (pa_cons (pv 1) (pa_cons (pv 5) (pa_cons (pv 8) pa_nil)))))  (pss_one (ps_if (PW.pt (pw_and (pt_not (pt_val (pe_good g_l_are_pairs (hr.mono (by decide)) rfl T.m_l_are_pairs (pa_cons (pv 5) (pa_cons (pv 15) pa_nil))))) (pw_and1 (pt_not (pt_val (pe_good g_l_same (hr.mono (by decide)) rfl T.m_l_same (pa_cons (pe_good g_l_told (hr.mono (by decide)) rfl T.m_l_told (pa_cons (pv 6) (pa_cons (pv 15) pa_nil))) (pa_cons (pe_tup (pa_cons pe_str (pa_cons pe_str pa_nil))) pa_nil))))))))  (pss_one (ps_ret pe_bl))  pss_nil)))))))))))))))))))  (pss_one (ps_ret (pe_good g_l_same (hr.mono (by decide)) rfl T.m_l_same (pa_cons (pe_goodL g_least_lumps (hr.mono (by decide)) rfl T.m_least_lumps (pa_cons (pv 6) (pa_cons (pe_lst pa_nil) pa_nil))) (pa_cons (pe_lc (own := [("_law_row", 18)]) (by rfl) sc_law.nd (iq_list K (pv 5)) (blkOk_by (own := [("_law_row", 18)]) (N := n_law) (sc := He.DefD.scope d_law) (by decide +kernel)) (fun _ _ _ _ _ => (pg_name (i := 18) sc_law.nd rfl (Or.inl rfl) (Or.inr rfl))) (fun _ _ _ _ _ => pts_nil) (fun _ _ _ _ _ => (pe_lst (pa_cons (pv 18) pa_nil)))) pa_nil)))))))))), ?_⟩
  obtain ⟨a, ns, rfl, ha, hl, k⟩ := h
  walk_at "vc"
  refine ⟨a, ns, rfl, ha, hl, ?_⟩
  rintro b M1 H1 S1 B1
  walk_at "vc"
  refine ⟨b, rfl, M1, S1.mh, B1, ?_⟩
  rintro d v2 M2 H2 ⟨cs, seeds, rows, rfl, hb⟩ S2 B2 i2
  obtain ⟨T0, u, x, w3, rfl, hT, iu, ix, iw⟩ := i2.un3
  have F := hb.fl
  have hrl := hb.len
  have hc5 := hb.c5
  have hsn := hb.so.ln
  have hpos := hb.some
  have hfr : ∀ r ∈ fullS rows, r.length = cs.length := fun r hr => row_len (hb.row (mem_full.mp hr).1)
  have hsr : ∀ s ∈ seeds, s.length = cs.length := fun s hs => row_len (hb.so.rw s hs)
  walk_at "vc"
  refine ⟨T0, _, rfl, SqT.of (S2.mh _ _ hT), rfl, ?_⟩
  walk_at "vc"
  refine ⟨w3, rows, rfl, by omega, M2, S2.mh, iw, ?_⟩
  rintro v3 M3 H3 S3 i3
  walk_at "vc"
  refine w_make ?_
  walk_at "vc"
  have iu' := iu
  have ix' := ix
  obtain ⟨ca, cvs, rfl, hca, icv⟩ := iu
  obtain ⟨sa, rfl, hsa⟩ := ix.strs
  have hcl := icv.len
  rw [List.length_map] at hcl
  refine ⟨ca, cvs, rfl, .inl (S3.mh _ _ (S3.mm _ _ hca)), fun l1 hl1 => ?_⟩
  have S4 := S3.lay (.lst cvs) hl1
  have i4 : Is (upd M3 l1 (.lst cvs)) (cellsD cs) (.ref l1) := ⟨l1, cvs, rfl, upd_same, (icv.mono S3.mm).mono (same_upd (S3.mfree hl1))⟩
  replace i3 := i3.mono (same_upd (o := .lst cvs) (S3.mfree hl1))
  generalize upd M3 l1 (.lst cvs) = M4 at S4 i4 i3
  generalize upd H3 l1 (.lst cvs) = H4 at S4 ⊢
  walk_at "vc"
  refine ⟨sa, _, rfl, .inl (S4.mh _ _ (S4.mm _ _ hsa)), fun l2 hl2 => ?_⟩
  have S5 := S4.lay (.lst (seeds.map V.str)) hl2
  have i5 : Is (upd M4 l2 (.lst (seeds.map V.str))) (dS seeds) (.ref l2) := Is.of_strs upd_same
  replace i4 := i4.mono (same_upd (o := .lst (seeds.map V.str)) (S4.mfree hl2))
  replace i3 := i3.mono (same_upd (o := .lst (seeds.map V.str)) (S4.mfree hl2))
  generalize upd M4 l2 (.lst (seeds.map V.str)) = M5 at S5 i5 i4 i3
  generalize upd H4 l2 (.lst (seeds.map V.str)) = H5 at S5 ⊢
  walk_at "vc"
  intro bd dx hx hdx hne
  refine ⟨bd, dx, .ref l1, .ref l2, cs, seeds, H5, M5, rfl, rfl, hx, hdx, hne, hb.co, hb.so, hb.le, S5.mh, i4, i5, ?_⟩
  intro rows' M6 H6 hpm6 hsd6 S6 ib
  obtain rfl : rows' = rows := sorted_one (hpm6.trans hb.pm.symm) (sorted_pw hsd6) (sorted_pw hb.sd)
  refine ⟨rfl, ?_⟩
  have S26 := S5.trans S6
  have B6 : Bag M6 H6 b := B2.keep S26
  have mm6 := S26.mm
  replace iw := iw.mono mm6
  replace i3 := i3.mono S6.mm
  replace ix' := ix'.mono mm6
  replace hca := mm6 _ _ hca
  have mh6 := S6.mh
  clear S1 S2 S3 S4 S5 S6 S26 mm6 hT i2 B2 B1 i4 i5 hl1 hl2 hx hdx hne iu' ix icv hsa
  rename_i rows
  generalize hF : fullS rows' = full at *
  obtain ⟨fa, rfl, hfa⟩ := i3.strs
  have hgl : ∀ gs : List (List Str), gs.flatten.Perm full → (∀ g ∈ gs, g ≠ []) → gs.length ≤ 40 ∧ ∀ g ∈ gs, g.length ≤ 40 := fun gs hp hn => by
    have h1 := grp_few gs hn
    have h2 := F.ln
    rw [hp.length_eq] at h1
    refine ⟨by omega, fun g hg => ?_⟩
    have h3 := (List.sublist_flatten_of_mem hg).length_le
    rw [hp.length_eq] at h3
    omega
  walk_at "vc"
  refine w_r1 (n := 3) (by decide) ?_
  refine fo_go walkR (fun i σ' H' => ∃ (o7 o8 o9 o10 o11 o12 o13 o14 o15 o16 o17 o18 : Option V) (M' : Hp), σ' = [some (.ref a), some (.ref b), some (.ref ca), some (.ref sa), some w3, some (.ref fa), some (.ref bd), o7, o8, o9, o10, o11, o12, o13, o14, o15, o16, o17, o18] ∧ Stp (exB b) M6 H6 M' H' ∧ Bag M' H' b)
    ⟨_, _, _, _, _, _, _, _, _, _, _, _, M6, rfl, Stp.refl mh6, B6⟩ (fun _ _ _ _ _ => trivial) ?_ ?_
  · rintro i y σ7 H7 H7' hi ⟨o7, o8, o9, o10, o11, o12, o13, o14, o15, o16, o17, o18, M7, rfl, S7, B7⟩ ⟨rfl, rfl⟩
    walk_at "vc"
    refine ⟨b, 4, rfl, by omega, by omega, M7, S7.mh, B7, ?_⟩
    rintro d v8 M8 H8 ⟨n, rfl, hn⟩ S8 B8 rfl
    have S8' := S7.trans S8
    walk_at "vc"
    refine ⟨b, .ref fa, full, n, rfl, hpos, by have := F.ln; omega, by omega, M8, S8.mh, B8, i3.mono S8'.mm, ?_⟩
    rintro d v9 M9 H9 ⟨ps, rfl, hpn, hpf⟩ S9 B9 i9
    have S9' := S8'.trans S9
    obtain ⟨pa, pvs, rfl, hpa, ipa⟩ := id i9
    clear S8 S9 S8' B8 B7 S7
    walk_at "vc"
    refine ⟨pa, pvs, rfl, .inl (S9'.mh _ _ hpa), fun l hl => ?_⟩
    have S10 := S9'.lay (.lst pvs) hl
    have B10 := B9.lay (o := .lst pvs) S9'.mh hl
    have s10 : Same M9 (upd M9 l (.lst pvs)) := same_upd (S9'.mfree hl)
    have h10 : upd M9 l (.lst pvs) l = some (.lst pvs) := upd_same
    replace hpa := s10 _ _ hpa
    replace ipa := ipa.mono s10
    replace i9 := i9.mono s10
    generalize upd M9 l (.lst pvs) = M10 at S10 B10 hpa ipa i9 h10
    generalize upd H9 l (.lst pvs) = H10 at S10 B10 ⊢
    clear s10 S9' B9 hl
    obtain ⟨f, hff⟩ := le_e seeds full ps
    obtain ⟨gs, hgs⟩ : ∃ gs, gs = lst (eF f) full := ⟨_, rfl⟩
    have G : Lst seeds full ps gs := ⟨f, hff, hgs⟩
    have hpl : ps.length ≤ 10 := by omega
    obtain ⟨e0, he0, hg0⟩ := G.le fun _ _ => Iff.rfl
    walk_at "vc"
    refine ⟨.ref sa, .ref fa, .ref pa, seeds, full, ps, rfl, F, by omega, hpf, M10, S10.mh, ix'.mono S10.mm, i3.mono S10.mm, i9, fun e he => ?_⟩
    have hge : lst e full = gs := by
      rw [hg0]
      refine lst_cong fun x hx y hy => ?_
      rw [Bool.eq_iff_iff, he x hx y hy, he0 x hx y hy]
    rw [hge]
    rintro vl M11 H11 S11 i11
    have S11' := S10.trans S11.of
    have B11 := B10.keep S11
    replace hpa := S11.mm _ _ hpa
    replace ipa := ipa.mono S11.mm
    replace i9 := i9.mono S11.mm
    replace h10 := S11.mm _ _ h10
    clear S10 B10 S11 he hge
    obtain ⟨la, lvs, rfl, hla, ila⟩ := id i11
    have hsmp : ∀ {d : Dat}, d.seq = some (ps.map prD) → Sm d := fun {d} q => Sm.seq q (by rw [List.length_map]; omega) fun x hx => by
      obtain ⟨p, _, rfl⟩ := List.mem_map.mp hx
      exact Sm.prD p
    with_reducible refine w_name ?_
    with_reducible refine w_cut (fun σ' H' => ∃ (D : Addr) (rs : List Addr) (M' : Hp), σ' = [some (.ref a), some (.ref b), some (.ref ca), some (.ref sa), some w3, some (.ref fa), some (.ref bd), some (.int (i : Nat)), some (.ref pa), some (.ref l), some (.ref la), some (.ref D), o12, o13, o14, o15, o16, o17, o18] ∧ Stp no M11 H11 M' H' ∧ H11 D = none ∧ M' D = none ∧ H' D = some (.lst (rs.map V.ref)) ∧ OL H11 M' H' rs gs ∧ D ∉ rs) ?_ ?_
    · rintro σ2 H2 ⟨D, rs, M2, rfl, S2, hD0, mD, hD, ol, hDr⟩
      clear o8 o9 o10 o11
      obtain ⟨M3, S3, _, ia3, f3⟩ := OL.fix S2 ol
      have m3 : M3 D = none := (f3 D hDr).trans mD
      have S4 := S3.fix hD hD0
      have i4 : Is (upd M3 D (.lst (rs.map V.ref))) (lumpsD gs) (.ref D) := ⟨D, _, rfl, upd_same, ia3.mono (same_upd m3)⟩
      generalize upd M3 D (.lst (rs.map V.ref)) = M4 at S4 i4
      clear S3 ia3 f3 m3
      obtain ⟨hgl1, hgl2⟩ := hgl gs G.pm G.ne
      have L := F.lp G.pm
      have nd : gs.flatten.Nodup := G.pm.nodup_iff.mpr F.nd
      have hfl : gs.flatten.length ≤ 40 := by rw [G.pm.length_eq]; exact F.ln
      have hsg : Sm (lumpsD gs) := Sm.seq rfl (by rw [List.length_map]; omega) fun x hx => by
        obtain ⟨g, hg, rfl⟩ := List.mem_map.mp hx
        exact Sm.strs (by have := hgl2 g hg; omega)
      have hokp : ∀ p ∈ ps, PyData.strOk p.1 = true ∧ PyData.strOk p.2 = true := fun p hp => ⟨F.ok _ (hpf p hp).1, F.ok _ (hpf p hp).2⟩
      walk_at "vc"
      refine ⟨.ref D, .ref la, lumpsD gs, rfl, pl_lumps (by omega) (fun g hg => by have := hgl2 g hg; omega), M4, S4.mh, i4, i11.mono S4.mm, ?_⟩
      rintro v5 M5 H5 S5 rfl
      have S5' := S4.trans S5
      walk_at "vc"
      refine w_nePrs S5.mh (S5.mh _ _ (S5'.mm _ _ h10)) (ipa.mono S5'.mm) (S5.mh _ _ (S5'.mm _ _ hpa)) (ipa.mono S5'.mm) hokp ?_
      walk_at "vc"
      refine ⟨.ref fa, .ref D, full, lumpsD gs, rfl, F.ln, F.ok, F.so, hsg, M5, S5.mh, i3.mono (S11'.trans S5'.of).mm, i4.mono S5.mm, ?_⟩
      rintro bl hbl v6 M6' H6' S6 rfl
      obtain rfl : bl = true := hbl.mpr (isL_of G.pm G.ne)
      have S6' := S5'.trans S6
      replace i4 := i4.mono (S5.mm.trans S6.mm)
      have hs6 : Same H2 H6' := S5.same.trans S6.same
      clear S4 S5 S5'
      walk_at "vc"
      have SS6 := S11'.trans S6'.of
      refine ⟨bd, .ref D, cs, seeds, rows', lumpsD gs, rfl, by omega, by rw [hF]; exact F.nd, hsg, M6', S6.mh, ib.mono SS6.mm, i4, fun _ => ?_, fun n => (n (by rw [hF]; exact isL_of G.pm G.ne)).elim⟩
      rintro v7 M7' H7' S7 rfl
      walk_at "vc"
      refine ⟨rfl, ?_⟩
      walk_at "vc"
      refine ⟨bd, .ref D, cs, seeds, rows', gs, rfl, by rw [hF]; exact L, G.ne, M7', S7.mh, ib.mono (SS6.trans S7.of).mm, ⟨lumpsD gs, gs.map dS, i4.mono S7.mm, rfl, lumpsOf_map gs⟩, fun res hres => ?_⟩
      rw [hF] at hres
      obtain rfl := hres.one (G.hold F.nd F.cl)
      rintro v8 M8 H8 S8 rfl
      have S8' := (S6'.trans S7).trans S8
      replace i4 := i4.mono (S7.mm.trans S8.mm)
      have hs8 := (hs6.trans S7.same).trans S8.same
      clear S7 S6 S6' SS6
      walk_at "vc"
      refine ⟨rfl, ?_⟩
      walk_at "vc"
      have hpa8 := S8'.mm _ _ hpa
      have ipa8 := ipa.mono S8'.mm
      have hpl8 := ipa8.len
      rw [List.length_map] at hpl8
      have lm8 : ∀ {M' : Hp}, Same M8 M' → Lmp M' gs (.ref D) := fun s => ⟨lumpsD gs, gs.map dS, i4.mono s, rfl, lumpsOf_map gs⟩
      refine ⟨pa, rfl, ⟨_, SqL.of (S8.mh _ _ hpa8)⟩, ?_⟩
      refine lc_go (ex := no) walkL S8.mh (fun i acc _ => acc = (List.replicate i true).map V.bl) rfl (fun _ _ S => S.mh _ _ (S.mm _ _ hpa8)) ?_ ?_
      · rintro i y acc M1 H1 H1' D2 hi S1 hD2 m1 h1 rfl ⟨rfl, hy⟩
        obtain ⟨d, hd, id1⟩ := ipa8.get hy
        rw [List.getElem?_map] at hd
        obtain ⟨p, hp, rfl⟩ := Option.map_eq_some_iff.mp hd
        obtain ⟨T1, rfl, hT⟩ := Is.prS id1
        obtain ⟨hp1, hp2⟩ := hpf p (mem_of_get hp)
        walk_at "vc"
        refine ⟨T1, _, rfl, SqT.of (S1.mh _ _ (S1.mm _ _ hT)), rfl, ?_⟩
        walk_at "vc"
        refine ⟨rfl, ?_⟩
        refine w_yesI ?_
        walk_at "vc"
        refine ⟨_, gs, p.1, rfl, nd, by omega, G.pm.mem_iff.mpr hp1, M1, S1.mh, lm8 S1.mm, ?_⟩
        rintro v2 M2 H2 S2 rfl
        obtain ⟨m2, h2⟩ := S2.keep m1 h1
        walk_at "vc"
        refine ⟨_, gs, p.2, rfl, nd, by omega, G.pm.mem_iff.mpr hp2, M2, S2.mh, lm8 (S1.mm.trans S2.mm), ?_⟩
        rintro v3 M3 H3 S3 rfl
        obtain ⟨m3, h3⟩ := S3.keep m2 h2
        walk_at "vc"
        rw [G.plc F.nd hp1 hp2 (.pair (mem_of_get hp))]
        refine LcA.of hD2 ((S1.trans S2).trans S3) m3 h3 (by rw [List.length_map, List.length_replicate]; omega) ?_
        rw [decide_eq_true rfl, List.replicate_succ', List.map_append]
        rfl
      rintro D2 acc M9 H9 hD2 S9 m9 h9 rfl
      have S9' := S8'.trans S9
      replace i4 := i4.mono S9.mm
      have hs9 := hs8.trans S9.same
      refine w_nil ?_
      refine ⟨D2, _, rfl, h9, ?_⟩
      rw [all_yes]
      refine ⟨true, rfl, ?_⟩
      rw [if_neg (by decide)]
      refine w_next ?_
      with_reducible refine w_cut (fun σ' H' => ∃ (o12 o13 o14 o15 o16 o17 o18 : Option V), σ' = [some (.ref a), some (.ref b), some (.ref ca), some (.ref sa), some w3, some (.ref fa), some (.ref bd), some (.int (i : Nat)), some (.ref pa), some (.ref l), some (.ref la), some (.ref D), o12, o13, o14, o15, o16, o17, o18] ∧ Stp no M11 H11 M11 H' ∧ Own H11 M11 H' D (.lst (rs.map V.ref)) rs gs) ?_ ?_
      · clear S9' i4 hs9 h9 m9 S9 hD2 lm8 hs8 hs6 S8' S8
        rintro σ3 H3 ⟨o12, o13, o14, o15, o16, o17, o18, rfl, S, W⟩
        have HW : Hld b M11 H11 M11 H3 D (.lst (rs.map V.ref)) rs gs := ⟨S.of, B11.keep S, W, B11.has⟩
        clear S W
        walk_at "vc"
        have hg1 : 0 < gs.length := by
          cases hz : gs with
          | nil => have := G.pm.length_eq; rw [hz] at this; simp at this; omega
          | cons g gs => simp
        refine ⟨b, .ref la, gs.map dS, rfl, by rw [List.length_map]; exact hg1, by rw [List.length_map]; omega, M11, HW.S.mh, HW.B, i11.q, ?_⟩
        rintro d v12 M12 H12 hd S12 B12 i12
        obtain ⟨g, hg, rfl⟩ := List.mem_map.mp hd
        replace HW := HW.stp S12 B12
        have hgn : 0 < g.length := List.length_pos_iff.mpr (G.ne g hg)
        have hgl := hgl2 g hg
        walk_at "vc"
        refine ⟨b, v12, g.map Dat.str, rfl, by rw [List.length_map]; exact hgn, by rw [List.length_map]; omega, M12, HW.S.mh, HW.B, i12.q, ?_⟩
        rintro d v13 M13 H13 hd S13 B13 i13
        obtain ⟨x, hx, rfl⟩ := List.mem_map.mp hd
        obtain rfl : v13 = .str x := i13
        replace HW := HW.stp S13 B13
        replace i12 := i12.mono S13.mm
        walk_at "vc"
        refine ⟨b, v12, g.map Dat.str, rfl, by rw [List.length_map]; exact hgn, by rw [List.length_map]; omega, M13, HW.S.mh, HW.B, i12.q, ?_⟩
        rintro d v14 M14 H14 hd S14 B14 i14
        obtain ⟨y, hy, rfl⟩ := List.mem_map.mp hd
        obtain rfl : v14 = .str y := i14
        replace HW := HW.stp S14 B14
        clear S12 S13 S14 B12 B13 B14 i12
        walk_at "vc"
        intro p1 hp1
        generalize hH1 : upd _ p1 _ = H15
        obtain ⟨M15, HW15, mm15, e15⟩ := HW.lay hp1 hH1
        have iT : Is M15 (prD (x, y)) (.ref p1) := ⟨p1, _, rfl, e15, .str x, [.str y], rfl, rfl, .str y, [], rfl, rfl, rfl⟩
        clear hH1 hp1 mm15 e15 HW
        walk_at "vc"
        intro p2 hp2
        generalize hH1 : upd _ p2 _ = H16
        obtain ⟨M16, HW16, mm16, e16⟩ := HW15.lay hp2 hH1
        replace iT := iT.mono mm16
        clear hH1 hp2 mm16 HW15
        have hpl9 := ipa.len
        rw [List.length_map] at hpl9
        refine ⟨pa, p2, pvs, [.ref p1], rfl, rfl, HW16.S.mh _ _ (HW16.S.mm _ _ hpa), HW16.S.mh _ _ e16, Nat.le_trans (show _ ≤ 400 by rw [List.length_singleton]; omega) (line200 (Nat.le_refl _)), ?_⟩
        intro p3 hp3
        generalize hH1 : upd _ p3 _ = H17
        obtain ⟨M17, HW17, mm17, e17⟩ := HW16.lay hp3 hH1
        replace iT := iT.mono mm17
        have im : Is M17 (.lst ((ps ++ [(x, y)]).map prD)) (.ref p3) := ⟨p3, _, rfl, e17, by rw [List.map_append]; exact IsA.snoc (d := prD (x, y)) iT (ipa.mono HW17.S.mm)⟩
        clear hH1 hp3 mm17 HW16 e16 e17 iT
        have hxf : x ∈ full := G.pm.mem_iff.mp (List.mem_flatten.mpr ⟨g, hg, hx⟩)
        have hyf : y ∈ full := G.pm.mem_iff.mp (List.mem_flatten.mpr ⟨g, hg, hy⟩)
        have hcx : Cg seeds ps x y := G.cg g hg x hx y hy
        obtain ⟨e1, he1, hg1'⟩ := G.le (qs := ps ++ [(x, y)]) fun _ _ => cg_more (p := (x, y)) hcx
        walk_at "vc"
        have hpf1 : ∀ p ∈ ps ++ [(x, y)], p.1 ∈ full ∧ p.2 ∈ full := fun p hp => by
          rcases List.mem_append.mp hp with z | z
          · exact hpf p z
          · rw [List.mem_singleton.mp z]; exact ⟨hxf, hyf⟩
        have hsm1 : Sm (.lst ((ps ++ [(x, y)]).map prD)) := Sm.seq rfl (by rw [List.length_map, List.length_append]; show _ + 1 ≤ 200; omega) fun x hx => by
          obtain ⟨p, _, rfl⟩ := List.mem_map.mp hx
          exact Sm.prD p
        refine ⟨bd, .ref p3, cs, seeds, rows', _, rfl, by omega, by rw [hF]; exact F, hsm1, M17, HW17.S.mh, ib.mono (S11'.trans HW17.S).mm, im, ?_, fun n => (n ⟨_, rfl, by rw [hF]; exact hpf1⟩).elim⟩
        rw [hF]
        intro ps' hps' hpf' e he
        obtain rfl : ps' = ps ++ [(x, y)] := by
          have := Option.some.inj hps'
          exact (List.map_inj_right fun a b h => prD_inj h).mp this.symm
        rw [lst_cong (e' := e1) fun x hx y hy => by rw [Bool.eq_iff_iff, he x hx y hy, he1 x hx y hy], ← hg1']
        intro D2 rs2 M18 H18 S18 h0' mD' hD' ol' nr'
        obtain ⟨M19, S19, i19⟩ := retL_fix S18 h0' mD' hD' ol' nr'
        have HW19 := HW17.no S19
        clear S18 h0' mD' hD' ol' nr' S19 HW17 im hps' hpf' he
        walk_at "vc"
        refine ⟨.ref D2, .ref la, lumpsD gs, rfl, pl_lumps (by omega) (fun g hg => by have := hgl2 g hg; omega), M19, HW19.S.mh, i19, i11.mono HW19.S.mm, ?_⟩
        rintro v20 M20 H20 S20 rfl
        have HW20 := HW19.no S20
        replace i19 := i19.mono S20.mm
        clear HW19 S20
        walk_at "vc"
        obtain ⟨r0, hr0, h0r, mr, hr⟩ := HW20.W.ol.at (i := 0) (List.getElem?_eq_getElem hg1)
        have hr0m : r0 ∈ rs := List.mem_of_getElem? hr0
        have hg0l : gs[0].length ≤ 40 := hgl2 _ (List.getElem_mem hg1)
        refine w_ixl (j := ((0 : Nat) : Int)) HW20.W.hD (atI_nat (x := V.ref r0) (by rw [List.getElem?_map, hr0]; rfl)) ?_
        refine ⟨⟨r0, _, rfl, hr⟩, ?_⟩
        walk_at "vc"
        refine ⟨r0, _, _, rfl, rfl, hr, Nat.lt_of_le_of_lt (show _ ≤ 1000 by rw [List.length_map]; omega) (line_lt (by decide)), ?_⟩
        generalize hH1 : upd _ r0 _ = H21
        have hD21 : H21 D = some (.lst (rs.map V.ref)) := by
          rw [← hH1, upd_ne (fun z => hDr (by rw [z]; exact hr0m))]
          exact HW20.W.hD
        have S21 : Stp (exB b) M11 H11 M20 H21 := by rw [← hH1]; exact HW20.S.put _ mr (.inl h0r)
        have B21 : Bag M20 H21 b := by rw [← hH1]; exact HW20.B.put mr fun z => HW20.hb (by rw [← z]; exact h0r)
        have mD20 := HW20.W.mD
        have hbb := HW20.hb
        clear HW20 hr h0r hr0 hr0m mr hH1
        walk_at "vc"
        refine w_bm0 ?_
        walk_at "vc"
        refine ⟨⟨D, _, rfl, hD21⟩, D, _, rfl, rfl, hD21, ?_⟩
        generalize hH1 : upd _ D _ = H22
        have S22 : Stp (exB b) M11 H11 M20 H22 := by rw [← hH1]; exact S21.put _ mD20 (.inl hD0)
        have B22 : Bag M20 H22 b := by rw [← hH1]; exact B21.put mD20 fun z => hbb (by rw [← z]; exact hD0)
        clear S21 B21 hH1 hD21 mD20
        walk_at "vc"
        refine ⟨bd, .ref pa, cs, seeds, rows', .lst (ps.map prD), rfl, by omega, by rw [hF]; exact F, hsmp rfl, M20, S22.mh, ib.mono (S11'.trans S22).mm, i9.mono S22.mm, ?_, fun n => (n ⟨ps, rfl, by rw [hF]; exact hpf⟩).elim⟩
        rw [hF]
        intro ps' hps' hpf' e he
        have hpe : ps' = ps := by
          have := Option.some.inj hps'
          exact (List.map_inj_right fun a b h => prD_inj h).mp this.symm
        rw [hpe] at he
        rw [lst_cong (e' := e0) fun x hx y hy => by rw [Bool.eq_iff_iff, he x hx y hy, he0 x hx y hy], ← hg0]
        intro D3 rs3 M23 H23 S23 h0' mD' hD' ol' nr'
        obtain ⟨M24, S24, i24⟩ := retL_fix S23 h0' mD' hD' ol' nr'
        have S24' := S22.trans S24.of
        have B24 := B22.keep S24
        replace i19 := i19.mono S24.mm
        clear S23 h0' mD' hD' ol' nr' S24 S22 B22 hps' hpf' he
        walk_at "vc"
        intro p4 hp
        generalize hH1 : upd _ p4 _ = H25
        obtain ⟨M25, S25, B25, mm25, e25⟩ := lay_both S24' B24 hp hH1
        clear hH1 hp
        have i25 : Is M25 (.lst [lumpsD gs, lumpsD gs]) (.ref p4) := ⟨p4, _, rfl, e25, .ref D2, [.ref D3], rfl, i19.mono mm25, .ref D3, [], rfl, i24.mono mm25, rfl⟩
        walk_at "vc"
        intro p5 hp
        generalize hH1 : upd _ p5 _ = H26
        obtain ⟨M26, S26, B26, mm26, e26⟩ := lay_both S25 B25 hp hH1
        clear hH1 hp
        replace i25 := i25.mono mm26
        have i26 : Is M26 (.lst [lumpsD gs, lumpsD gs]) (.ref p5) := ⟨p5, _, rfl, e26, .ref la, [.ref la], rfl, i11.mono S26.mm, .ref la, [], rfl, i11.mono S26.mm, rfl⟩
        have pl26 : PL 4 (.lst [lumpsD gs, lumpsD gs]) := ⟨Nat.le_of_ble_eq_true rfl, fun d hd => by
          simp only [List.mem_cons, List.not_mem_nil, or_false, or_self] at hd
          rw [hd]
          exact pl_lumps (by omega) fun g hg => by have := hgl2 g hg; omega⟩
        refine ⟨.ref p4, .ref p5, _, rfl, pl26, M26, S26.mh, i25, i26, ?_⟩
        rintro v27 M27 H27 S27 rfl
        have S27' := S26.trans S27.of
        have B27 := B26.keep S27
        clear i25 i26 S26 B26 S27
        have SS27 := S11'.trans S27'
        walk_at "vc"
        refine ⟨b, .ref fa, .ref pa, full, ps, rfl, hpos, F.ln, fun r hr => by rw [hfr r hr]; omega, by omega, M27, S27'.mh, B27, i3.mono SS27.mm, i9.mono S27'.mm, ?_⟩
        rintro d28 v28 M28 H28 hsm28 S28 B28 i28
        have SS28 := SS27.trans S28
        walk_at "vc"
        refine ⟨.ref fa, v28, full, d28, rfl, by have := F.ln; omega, hsm28, M28, S28.mh, i3.mono SS28.mm, i28, fun bb hbb => ?_⟩
        rintro v29 M29 H29 S29 rfl
        have SS29 := SS28.trans S29.of
        have B29 := B28.keep S29
        walk_at "vc"
        cases bb with
        | true =>
          walk_at "vc"
          exact ⟨_, _, _, _, _, _, _, _, _, _, _, _, M29, rfl, SS29, B29⟩
        | false =>
          walk_at "vc"
          refine ⟨bd, v28, cs, seeds, rows', d28, rfl, by omega, by rw [hF]; exact F, hsm28, by rw [hF]; exact fun z => (nomatch hbb.mpr z), M29, S29.mh, ib.mono SS29.mm, i28.mono S29.mm, ?_⟩
          rintro v30 M30 H30 S30 i30
          have S30' := SS29.trans S30.of
          have B30 := B29.keep S30
          walk_at "vc"
          intro p6 hp6
          have S31 := S30'.lay (.tup [.str "BadLumps", .str "BadLumps"]) hp6
          have B31 := B30.lay (o := .tup [.str "BadLumps", .str "BadLumps"]) S30'.mh hp6
          have s31 : Same M30 (upd M30 p6 (.tup [.str "BadLumps", .str "BadLumps"])) := same_upd (S30'.mfree hp6)
          have i31 : Is (upd M30 p6 (.tup [.str "BadLumps", .str "BadLumps"])) (.tup [.str "BadLumps", .str "BadLumps"]) (.ref p6) := Is.tup2 upd_same rfl rfl
          refine ⟨v30, .ref p6, .tup [.str "BadLumps", .str "BadLumps"], rfl, ?_, _, S31.mh, i30.mono s31, i31, ?_⟩
          · refine ⟨Nat.le_of_ble_eq_true rfl, fun d hd => ?_⟩
            simp only [List.mem_cons, List.not_mem_nil, or_false, or_self] at hd
            rw [hd]
            trivial
          rintro v32 M32 H32 S32 rfl
          walk_at "vc"
          exact ⟨_, _, _, _, _, _, _, _, _, _, _, _, M32, rfl, S31.trans S32.of, B31.keep S32⟩
      · intro U hU
        have fin : ∀ M' H', Stp no M9 H9 M' H' → U [some (.ref a), some (.ref b), some (.ref ca), some (.ref sa), some w3, some (.ref fa), some (.ref bd), some (.int (i : Nat)), some (.ref pa), some (.ref l), some (.ref la), some (.ref D), o12, o13, o14, o15, o16, o17, o18] H' := fun M' H' S => hU _ _ ⟨o12, o13, o14, o15, o16, o17, o18, rfl, own_back S11'.mh S2 (S9'.trans S) (hs9.trans S.same) ⟨hD0, mD, hD, ol, hDr⟩⟩
        walk_at "vc"
        refine ifd (fun q => ?_) (fun q => ?_)
        · walk_at "vc"
          refine ⟨fa, _, rfl, .inl (S9.mh _ _ (S9'.mm _ _ (S11'.mm _ _ hfa))), ?_⟩
          walk_at "vc"
          refine ifd (fun q2 => ?_) (fun q2 => ?_)
          · walk_at "vc"
            have h6 : full.length ≤ 6 := by
              have q2' : ((full.map V.str).length : Int) ≤ 6 := q2
              rw [List.length_map] at q2'
              omega
            refine ⟨.ref sa, .ref fa, .ref pa, .ref D, seeds, full, ps, gs, rfl, F, h6, by omega, hpf, ⟨G.pm, G.ne⟩, by omega, G.cg, M9, S9.mh, ix'.mono (S11'.trans S9'.of).mm, i3.mono (S11'.trans S9'.of).mm, i9.mono S9'.mm, i4, ?_⟩
            rintro v10 M10 H10 S10 rfl
            walk_at "vc"
            exact fin _ _ S10
          · walk_at "vc"
            exact fin _ _ (Stp.refl S9.mh)
        · walk_at "vc"
          exact fin _ _ (Stp.refl S9.mh)
    · intro U hU
      walk_at "vc"
      refine ifd (fun q => ?_) (fun q => ?_)
      · walk_at "vc"
        refine ⟨pa, pvs, rfl, .inl ⟨S11'.mh _ _ hpa, fun t ht => ?_⟩⟩
        have S12 := (Stp.refl (ex := no) S11'.mh).lay (.tup pvs) ht
        have s12 : Same M11 (upd M11 t (.tup pvs)) := S12.mm
        have i12 : Is (upd M11 t (.tup pvs)) (.tup (ps.map prD)) (.ref t) := ⟨t, _, rfl, upd_same, ipa.mono s12⟩
        generalize upd M11 t (.tup pvs) = M12 at S12 s12 i12
        generalize hH12 : upd H11 t (.tup pvs) = H12 at S12 ⊢
        walk_at "vc"
        refine ⟨bd, .ref t, cs, seeds, rows', .tup (ps.map prD), rfl, by omega, by rw [hF]; exact F, hsmp rfl, M12, S12.mh, ib.mono (S11'.trans S12.of).mm, i12, ?_, fun n => (n ⟨ps, rfl, by rw [hF]; exact hpf⟩).elim⟩
        rw [hF]
        intro ps' hps' hpf' e he
        obtain rfl : ps' = ps := by
          have := Option.some.inj hps'
          exact (List.map_inj_right fun a b h => prD_inj h).mp this.symm
        rw [lst_cong (e' := e0) fun x hx y hy => by rw [Bool.eq_iff_iff, he x hx y hy, he0 x hx y hy], ← hg0]
        intro D rs M' H' S hD0 mD hD ol hDr
        exact hU _ _ ⟨D, rs, M', rfl, S12.trans S, S12.hfree hD0, mD, hD, ol.wb fun a h => S12.hfree h, hDr⟩
      · walk_at "vc"
        refine ⟨bd, .ref l, cs, seeds, rows', .lst (ps.map prD), rfl, by omega, by rw [hF]; exact F, hsmp rfl, M11, S11'.mh, ib.mono S11'.mm, ⟨l, _, rfl, h10, ipa⟩, ?_, fun n => (n ⟨ps, rfl, by rw [hF]; exact hpf⟩).elim⟩
        rw [hF]
        intro ps' hps' hpf' e he
        obtain rfl : ps' = ps := by
          have := Option.some.inj hps'
          exact (List.map_inj_right fun a b h => prD_inj h).mp this.symm
        rw [lst_cong (e' := e0) fun x hx y hy => by rw [Bool.eq_iff_iff, he x hx y hy, he0 x hx y hy], ← hg0]
        intro D rs M' H' S hD0 mD hD ol hDr
        exact hU _ _ ⟨D, rs, M', rfl, S, hD0, mD, hD, ol, hDr⟩
  · rintro σ7 H7 ⟨o7, o8, o9, o10, o11, o12, o13, o14, o15, o16, o17, o18, M7, rfl, S7, B7⟩
    walk_at "vc"
    intro p0 hp0
    generalize hH1 : upd _ p0 _ = H8
    obtain ⟨M8, S8, B8, mm8, e8⟩ := lay_both S7 B7 hp0 hH1
    clear hH1 hp0
    walk_at "vc"
    refine ⟨bd, .ref p0, cs, seeds, rows', .lst (([] : List (Str × Str)).map prD), rfl, by omega, by rw [hF]; exact F, Sm.seq rfl (Nat.zero_le _) (fun x hx => by cases hx), M8, S8.mh, ib.mono S8.mm, ⟨p0, [], rfl, e8, rfl⟩, ?_, fun n => (n ⟨[], rfl, fun p hp => by cases hp⟩).elim⟩
    rw [hF]
    intro ps' hps' hpf' e he
    obtain rfl : ps' = [] := by
      cases ps' with
      | nil => rfl
      | cons p ps => cases hps'
    obtain ⟨e1, he1, hl1⟩ := lst_nil (seeds := seeds) F.nd
    rw [lst_cong (e' := e1) fun x hx y hy => by rw [Bool.eq_iff_iff, he x hx y hy, he1 x hx y hy], hl1]
    intro D3 rs3 M9 H9 S9 h0' mD' hD' ol' nr'
    obtain ⟨M10, S10, i10⟩ := retL_fix S9 h0' mD' hD' ol' nr'
    have S10' := S8.trans S10.of
    clear S9 h0' mD' hD' ol' nr' hps' hpf' he S7 B7 S8 B8 e8 mm8
    have hfl := F.ln
    walk_at "vc"
    refine ⟨fa, rfl, ⟨_, SqL.of (S10'.mh _ _ (S10'.mm _ _ hfa))⟩, ?_⟩
    refine lc_go (ex := no) walkL S10'.mh (fun i acc M' => IsA M' (((full.take i).map fun r => [r]).map dS) acc) rfl (fun _ _ S => S.mh _ _ (S.mm _ _ (S10'.mm _ _ hfa))) ?_ ?_
    · rintro i y acc M9 H9 H9' D hi S9 hD m9 h9 a9 ⟨rfl, hy⟩
      obtain ⟨r, hr', rfl⟩ := map_at hy
      have hal := a9.len
      rw [List.length_map, List.length_map, List.length_take] at hal
      walk_at "vc"
      refine ⟨rfl, ?_⟩
      refine w_yesI ?_
      walk_at "vc"
      intro l hl
      have S10 := S9.lay (.lst [.str r]) hl
      refine LcA.of hD S10 (by rw [upd_ne (fun q => by rw [← q, h9] at hl; cases hl)]; exact m9) (upd_old h9 hl) (by omega) ?_
      rw [tk_snoc hr', List.map_append, List.map_append]
      exact IsA.snoc (d := dS [r]) (Is.of_strs upd_same) (a9.mono (same_upd (S9.mfree hl)))
    · rintro D acc M9 H9 hD S9 m9 h9 a9
      rw [List.length_map, tk_all] at a9
      have S11 := S9.fix h9 hD
      have i11 : Is (upd M9 D (.lst acc)) (lumpsD (full.map fun r => [r])) (.ref D) := ⟨D, _, rfl, upd_same, a9.mono (same_upd m9)⟩
      generalize upd M9 D (.lst acc) = M11 at S11 i11
      walk_at "vc"
      refine ⟨.ref D3, .ref D, _, rfl, pl_lumps (by rw [List.length_map]; omega) (fun g hg => by
        obtain ⟨x, _, rfl⟩ := List.mem_map.mp hg
        exact Nat.le_of_ble_eq_true rfl), M11, S11.mh, i10.mono S11.mm, i11, ?_⟩
      rintro v19 M19 H19 S19 rfl
      exact k _
end
end Nt
namespace Nt
open PySem PySem.Spec PyProof.Rows L2
theorem facts {P : Program} {w : World} {K : PySem.W.Frag} {h : Heap} {mg : Str → Option Value} {f : Addr} (X : K.In h) (G : h.Ns mainGlobals mg) (hfa : mg ("law" : Str) = some (.ref f)) (c : SaysX K) :
    ∃ fd : FuncData, (∀ (s : Shared) (v : Value), BindsTo s fd ⟨[v], []⟩ [("_law_script", v)]) ∧ ∀ base : Heap, K.In base → base.Ns mainGlobals mg → FnOk P w K mg base CX0 8 f fd ["_law_script"] (sp_law K) := by
  have T := Tx.of X G c
  obtain ⟨fd, F⟩ := T.def_ 49 (d := d_law) rfl
  have e := hfa.symm.trans T.m_law
  cases e
  have b := FunD.bindsA (ps := ["_law_script"]) F fun _ _ _ _ _ _ us hl => match us, hl with | [_], _ => rfl
  refine ⟨fd, fun s v => b s [v] rfl, fun base _ _ => ?_⟩
  exact ok_law T F
end Nt
open PySem PySem.W PySem.Calls PyProof.Rows
theorem PySem.Challenge.cw_newesttells_k91_whole_least_lumps_holds : PySem.Challenge.rw_newesttells_k91_whole_least_lumps.Holds := by
  w_on; o_law
  refine HandSHeadRun.head_any (r := OpenLaw.row PySem.Challenge.rw_newesttells_k91_whole_least_lumps) (q := view (OpenLaw.row PySem.Challenge.rw_newesttells_k91_whole_least_lumps).prog [87]) (H := Nt.hookY) (ob := Nt.ob) (M := 9000) (loose := Nt.loose) (d := HandSHeadRun.topDef (OpenLaw.row PySem.Challenge.rw_newesttells_k91_whole_least_lumps).prog 87) (kwd := []) Nt.ob_eq
    (by kernel_rfl) (fun s => by kernel_rfl) Nt.run (by kernel_rfl) (by kernel_rfl) (by kernel_rfl) (by rfl) (by first | assumption | decide +kernel) (by decide +kernel) ⟨rfl, rfl, rfl, rfl, rfl, by decide +kernel⟩ ?hw ?hc
  case hw => w_witness2
  case hc =>
    refine L2.walk_ofE (l := PySem.Challenge.rw_newesttells_k91_whole_least_lumps) (n := 63) (k := 8) (x := "_law_script") (CX := L2.CX0) rfl (by decide) (by kernel_rfl) ⟨rfl, by decide, by decide⟩ ?F (fun _ _ _ _ z => z)
    intro w mg fa h Y G hmg0
    obtain ⟨K, KX, c⟩ := Y
    have hmg : mg ("law" : PySem.Str) = some (.ref fa) := by
      have e : (HandSHeadRun.topDef (OpenLaw.row PySem.Challenge.rw_newesttells_k91_whole_least_lumps).prog 87).name = ("law" : PySem.Str) := by kernel_rfl
      rw [← e]
      exact hmg0
    obtain ⟨fd, hb, hF⟩ := Nt.facts (P := (PySem.Challenge.rw_newesttells_k91_whole_least_lumps).prog) (w := w) KX G hmg c
    exact ⟨K, fd, Nt.sp_law K, KX, hb, fun H a ns hl _ hS => ⟨a, ns, rfl, hS, Nat.le_trans hl (by decide), fun _ => rfl⟩, hF⟩
