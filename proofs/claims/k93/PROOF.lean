import PyProof.Rows.All
import Wide.All
import OpenK.AllK
import Wide.FinOn
import HandS.Base
import HandS.Call
import HandS.List
import HandS.Comp
import HandS.Ends
import HandS.Dict
import HandS.Iter
import HandS.Text
import HandS.Words
import HandS.WordsList
import HandS.WordsDict
import HandS.Walk
import HandS.DictComp
import HandS.Defaults
import KE.GoesNew
import KE.GoesMore
import PyProof.StrOps2
import PyProof.WalkInts
import HandS.WordsExc
import HandS.HeadHook2
import HandS.IsInst
import HandS.Sort
import HandS.SetKeys
import HandS.Zip
import HandS.More
import HandS.ExcInit
import HandS.ExcField
import HandS.Head0
import HandS.Head1
import HandS.Head2
import HandS.HeadEnd
import HandS.HeadHook1
import HandS.Set
import HandS.SetFor
import HandS.SetTxt0
import HandS.Strs
import KE.SortUse
import HandS.SortKw
import HandS.Exc
import KE.DataMinMax
import HandS.CallSlots
import PyProof.FString5
import PyProof.Rows.TupDisplay
import HandS.Style
import HandS.Conv
import HandS.Finally
import OpenK.KMeth
import HandS.OwnEq
import KE.KDictCopyH
import HandS.Star
import PyProof.StrWalks
import HandS.ListItems
import KE.KStateDown
import PySem.Challenge.RW_newesttells_k93_whole_maps
set_option Elab.async false
set_option linter.all false
set_option maxRecDepth 100000
set_option maxHeartbeats 4000000
namespace Nt
open PySem PySem.Spec PyProof.Rows L2
def top (i : Nat) : Stmt := PySem.Challenge.pw_newesttells_k93_whole_maps.main.body.getD i (.Pass ⟨0, 0, 0, 0⟩)
abbrev s_is_name : Stmt := (top 16)
abbrev n_is_name : List Str := ["value", "sign"]
abbrev p_is_name : List Str := ["value"]
abbrev d_is_name : He.DefD := ⟨("is_name", none), "is_name", "is_name", defArgs s_is_name, defBody s_is_name, defScope s_is_name, [], []⟩
theorem sc_is_name : FnScope n_is_name p_is_name (He.DefD.scope d_is_name) := ⟨rfl, rfl, rfl, by decide +kernel, rfl, by decide +kernel, by decide +kernel⟩
abbrev s_is_number : Stmt := (top 17)
abbrev n_is_number : List Str := ["value", "least", "most"]
abbrev p_is_number : List Str := ["value", "least", "most"]
abbrev d_is_number : He.DefD := ⟨("is_number", none), "is_number", "is_number", defArgs s_is_number, defBody s_is_number, defScope s_is_number, [], []⟩
theorem sc_is_number : FnScope n_is_number p_is_number (He.DefD.scope d_is_number) := ⟨rfl, rfl, rfl, by decide +kernel, rfl, by decide +kernel, by decide +kernel⟩
abbrev s_check_cells : Stmt := (top 23)
abbrev n_check_cells : List Str := ["cells", "names", "at", "cell", "name", "many"]
abbrev p_check_cells : List Str := ["cells"]
abbrev d_check_cells : He.DefD := ⟨("check_cells", none), "check_cells", "check_cells", defArgs s_check_cells, defBody s_check_cells, defScope s_check_cells, [], []⟩
theorem sc_check_cells : FnScope n_check_cells p_check_cells (He.DefD.scope d_check_cells) := ⟨rfl, rfl, rfl, by decide +kernel, rfl, by decide +kernel, by decide +kernel⟩
abbrev s_is_row : Stmt := (top 24)
abbrev n_is_row : List Str := ["cells", "value", "sign", "cell"]
abbrev p_is_row : List Str := ["cells", "value"]
abbrev d_is_row : He.DefD := ⟨("is_row", none), "is_row", "is_row", defArgs s_is_row, defBody s_is_row, defScope s_is_row, [], []⟩
theorem sc_is_row : FnScope n_is_row p_is_row (He.DefD.scope d_is_row) := ⟨rfl, rfl, rfl, by decide +kernel, rfl, by decide +kernel, by decide +kernel⟩
abbrev s_over : Stmt := (top 25)
abbrev n_over : List Str := ["newer", "older", "sign", "below"]
abbrev p_over : List Str := ["newer", "older"]
abbrev d_over : He.DefD := ⟨("over", none), "over", "over", defArgs s_over, defBody s_over, defScope s_over, [], []⟩
theorem sc_over : FnScope n_over p_over (He.DefD.scope d_over) := ⟨rfl, rfl, rfl, by decide +kernel, rfl, by decide +kernel, by decide +kernel⟩
abbrev s_lot_of : Stmt := (top 26)
abbrev n_lot_of : List Str := ["row", "sign"]
abbrev p_lot_of : List Str := ["row"]
abbrev d_lot_of : He.DefD := ⟨("lot_of", none), "lot_of", "lot_of", defArgs s_lot_of, defBody s_lot_of, defScope s_lot_of, [], []⟩
theorem sc_lot_of : FnScope n_lot_of p_lot_of (He.DefD.scope d_lot_of) := ⟨rfl, rfl, rfl, by decide +kernel, rfl, by decide +kernel, by decide +kernel⟩
abbrev s_blank : Stmt := (top 27)
abbrev n_blank : List Str := ["many"]
abbrev p_blank : List Str := ["many"]
abbrev d_blank : He.DefD := ⟨("blank", none), "blank", "blank", defArgs s_blank, defBody s_blank, defScope s_blank, [], []⟩
theorem sc_blank : FnScope n_blank p_blank (He.DefD.scope d_blank) := ⟨rfl, rfl, rfl, by decide +kernel, rfl, by decide +kernel, by decide +kernel⟩
abbrev s_lot_size : Stmt := (top 29)
abbrev n_lot_size : List Str := ["lot"]
abbrev p_lot_size : List Str := ["lot"]
abbrev d_lot_size : He.DefD := ⟨("lot_size", none), "lot_size", "lot_size", defArgs s_lot_size, defBody s_lot_size, defScope s_lot_size, [], []⟩
theorem sc_lot_size : FnScope n_lot_size p_lot_size (He.DefD.scope d_lot_size) := ⟨rfl, rfl, rfl, by decide +kernel, rfl, by decide +kernel, by decide +kernel⟩
abbrev s_ordered_lots : Stmt := (top 30)
abbrev n_ordered_lots : List Str := ["lots"]
abbrev p_ordered_lots : List Str := ["lots"]
abbrev d_ordered_lots : He.DefD := ⟨("ordered_lots", none), "ordered_lots", "ordered_lots", defArgs s_ordered_lots, defBody s_ordered_lots, defScope s_ordered_lots, [], []⟩
theorem sc_ordered_lots : FnScope n_ordered_lots p_ordered_lots (He.DefD.scope d_ordered_lots) := ⟨rfl, rfl, rfl, by decide +kernel, rfl, by decide +kernel, by decide +kernel⟩
abbrev s_check_seeds : Stmt := (top 52)
abbrev n_check_seeds : List Str := ["cells", "seeds", "at", "seed", "cell"]
abbrev p_check_seeds : List Str := ["cells", "seeds"]
abbrev d_check_seeds : He.DefD := ⟨("check_seeds", none), "check_seeds", "check_seeds", defArgs s_check_seeds, defBody s_check_seeds, defScope s_check_seeds, [], []⟩
theorem sc_check_seeds : FnScope n_check_seeds p_check_seeds (He.DefD.scope d_check_seeds) := ⟨rfl, rfl, rfl, by decide +kernel, rfl, by decide +kernel, by decide +kernel⟩
abbrev s_grown_rows : Stmt := (top 53)
abbrev n_grown_rows : List Str := ["seeds", "first", "most", "rows", "known", "at", "seed", "row"]
abbrev p_grown_rows : List Str := ["seeds", "first", "most"]
abbrev d_grown_rows : He.DefD := ⟨("grown_rows", none), "grown_rows", "grown_rows", defArgs s_grown_rows, defBody s_grown_rows, defScope s_grown_rows, [], []⟩
theorem sc_grown_rows : FnScope n_grown_rows p_grown_rows (He.DefD.scope d_grown_rows) := ⟨rfl, rfl, rfl, by decide +kernel, rfl, by decide +kernel, by decide +kernel⟩
abbrev s_Band___init__ : Stmt := (inClass (top 54) 0)
abbrev n_Band___init__ : List Str := ["self", "cells", "seeds", "most", "rows", "row"]
abbrev p_Band___init__ : List Str := ["self", "cells", "seeds", "most"]
abbrev d_Band___init__ : He.DefD := ⟨("Band", some "__init__"), "__init__", "Band.__init__", defArgs s_Band___init__, defBody s_Band___init__, defScope s_Band___init__, [], [("most", .int 800)]⟩
theorem sc_Band___init__ : FnScope n_Band___init__ p_Band___init__ (He.DefD.scope d_Band___init__) := ⟨rfl, rfl, rfl, by decide +kernel, rfl, by decide +kernel, by decide +kernel⟩
abbrev s_Band_seeds : Stmt := (inClass (top 54) 2)
abbrev n_Band_seeds : List Str := ["self"]
abbrev p_Band_seeds : List Str := ["self"]
abbrev d_Band_seeds : He.DefD := ⟨("Band", some "seeds"), "seeds", "Band.seeds", defArgs s_Band_seeds, defBody s_Band_seeds, defScope s_Band_seeds, [], []⟩
theorem sc_Band_seeds : FnScope n_Band_seeds p_Band_seeds (He.DefD.scope d_Band_seeds) := ⟨rfl, rfl, rfl, by decide +kernel, rfl, by decide +kernel, by decide +kernel⟩
abbrev s_Band_rows : Stmt := (inClass (top 54) 4)
abbrev n_Band_rows : List Str := ["self"]
abbrev p_Band_rows : List Str := ["self"]
abbrev d_Band_rows : He.DefD := ⟨("Band", some "rows"), "rows", "Band.rows", defArgs s_Band_rows, defBody s_Band_rows, defScope s_Band_rows, [], []⟩
theorem sc_Band_rows : FnScope n_Band_rows p_Band_rows (He.DefD.scope d_Band_rows) := ⟨rfl, rfl, rfl, by decide +kernel, rfl, by decide +kernel, by decide +kernel⟩
abbrev s_l_start : Stmt := (top 56)
abbrev n_l_start : List Str := ["_law_script", "_law_mixed", "_law_cell"]
abbrev p_l_start : List Str := ["_law_script"]
abbrev d_l_start : He.DefD := ⟨("_law_start", none), "_law_start", "_law_start", defArgs s_l_start, defBody s_l_start, defScope s_l_start, [], []⟩
theorem sc_l_start : FnScope n_l_start p_l_start (He.DefD.scope d_l_start) := ⟨rfl, rfl, rfl, by decide +kernel, rfl, by decide +kernel, by decide +kernel⟩
abbrev s_l_pull : Stmt := (top 57)
abbrev n_l_pull : List Str := ["_law_bag", "_law_many", "_law_cell", "_law_digit", "_law_seed"]
abbrev p_l_pull : List Str := ["_law_bag", "_law_many"]
abbrev d_l_pull : He.DefD := ⟨("_law_pull", none), "_law_pull", "_law_pull", defArgs s_l_pull, defBody s_l_pull, defScope s_l_pull, [], []⟩
theorem sc_l_pull : FnScope n_l_pull p_l_pull (He.DefD.scope d_l_pull) := ⟨rfl, rfl, rfl, by decide +kernel, rfl, by decide +kernel, by decide +kernel⟩
abbrev s_l_pick : Stmt := (top 58)
abbrev n_l_pick : List Str := ["_law_bag", "_law_some"]
abbrev p_l_pick : List Str := ["_law_bag", "_law_some"]
abbrev d_l_pick : He.DefD := ⟨("_law_pick", none), "_law_pick", "_law_pick", defArgs s_l_pick, defBody s_l_pick, defScope s_l_pick, [], []⟩
theorem sc_l_pick : FnScope n_l_pick p_l_pick (He.DefD.scope d_l_pick) := ⟨rfl, rfl, rfl, by decide +kernel, rfl, by decide +kernel, by decide +kernel⟩
abbrev s_l_same : Stmt := (top 59)
abbrev n_l_same : List Str := ["_law_found", "_law_due", "_law_left", "_law_right"]
abbrev p_l_same : List Str := ["_law_found", "_law_due"]
abbrev d_l_same : He.DefD := ⟨("_law_same", none), "_law_same", "_law_same", defArgs s_l_same, defBody s_l_same, defScope s_l_same, [], []⟩
theorem sc_l_same : FnScope n_l_same p_l_same (He.DefD.scope d_l_same) := ⟨rfl, rfl, rfl, by decide +kernel, rfl, by decide +kernel, by decide +kernel⟩
abbrev s_l_some_of : Stmt := (top 60)
abbrev n_l_some_of : List Str := ["_law_bag", "_law_some", "_law_many", "_law_left", "_law_found", "_law_turn"]
abbrev p_l_some_of : List Str := ["_law_bag", "_law_some", "_law_many"]
abbrev d_l_some_of : He.DefD := ⟨("_law_some_of", none), "_law_some_of", "_law_some_of", defArgs s_l_some_of, defBody s_l_some_of, defScope s_l_some_of, [], []⟩
theorem sc_l_some_of : FnScope n_l_some_of p_l_some_of (He.DefD.scope d_l_some_of) := ⟨rfl, rfl, rfl, by decide +kernel, rfl, by decide +kernel, by decide +kernel⟩
abbrev s_l_turned : Stmt := (top 61)
abbrev n_l_turned : List Str := ["_law_bag", "_law_some"]
abbrev p_l_turned : List Str := ["_law_bag", "_law_some"]
abbrev d_l_turned : He.DefD := ⟨("_law_turned", none), "_law_turned", "_law_turned", defArgs s_l_turned, defBody s_l_turned, defScope s_l_turned, [], []⟩
theorem sc_l_turned : FnScope n_l_turned p_l_turned (He.DefD.scope d_l_turned) := ⟨rfl, rfl, rfl, by decide +kernel, rfl, by decide +kernel, by decide +kernel⟩
abbrev s_l_odd : Stmt := (top 62)
abbrev n_l_odd : List Str := ["_law_bag", "_law_plain", "_law_deep"]
abbrev p_l_odd : List Str := ["_law_bag"]
abbrev d_l_odd : He.DefD := ⟨("_law_odd", none), "_law_odd", "_law_odd", defArgs s_l_odd, defBody s_l_odd, defScope s_l_odd, [], []⟩
theorem sc_l_odd : FnScope n_l_odd p_l_odd (He.DefD.scope d_l_odd) := ⟨rfl, rfl, rfl, by decide +kernel, rfl, by decide +kernel, by decide +kernel⟩
abbrev s_l_over : Stmt := (top 63)
abbrev n_l_over : List Str := ["_law_newer", "_law_older", "_law_sign", "_law_under"]
abbrev p_l_over : List Str := ["_law_newer", "_law_older"]
abbrev d_l_over : He.DefD := ⟨("_law_over", none), "_law_over", "_law_over", defArgs s_l_over, defBody s_l_over, defScope s_l_over, [], []⟩
theorem sc_l_over : FnScope n_l_over p_l_over (He.DefD.scope d_l_over) := ⟨rfl, rfl, rfl, by decide +kernel, rfl, by decide +kernel, by decide +kernel⟩
abbrev s_l_closure : Stmt := (top 65)
abbrev n_l_closure : List Str := ["_law_seeds_here", "_law_size", "_law_cap", "_law_found", "_law_known", "_law_turn", "_law_seed", "_law_row"]
abbrev p_l_closure : List Str := ["_law_seeds_here", "_law_size", "_law_cap"]
abbrev d_l_closure : He.DefD := ⟨("_law_closure", none), "_law_closure", "_law_closure", defArgs s_l_closure, defBody s_l_closure, defScope s_l_closure, [], []⟩
theorem sc_l_closure : FnScope n_l_closure p_l_closure (He.DefD.scope d_l_closure) := ⟨rfl, rfl, rfl, by decide +kernel, rfl, by decide +kernel, by decide +kernel⟩
abbrev s_l_names : Stmt := (top 66)
abbrev n_l_names : List Str := ["_law_bag", "_law_many", "_law_letters", "_law_found", "_law_wide", "_law_turn", "_law_size", "_law_name", "_law_k", "_law_one"]
abbrev p_l_names : List Str := ["_law_bag", "_law_many"]
abbrev d_l_names : He.DefD := ⟨("_law_names", none), "_law_names", "_law_names", defArgs s_l_names, defBody s_l_names, defScope s_l_names, [], []⟩
theorem sc_l_names : FnScope n_l_names p_l_names (He.DefD.scope d_l_names) := ⟨rfl, rfl, rfl, by decide +kernel, rfl, by decide +kernel, by decide +kernel⟩
abbrev s_l_clean : Stmt := (top 67)
abbrev n_l_clean : List Str := ["_law_rows", "_law_some", "_law_row", "_law_k"]
abbrev p_l_clean : List Str := ["_law_rows"]
abbrev d_l_clean : He.DefD := ⟨("_law_clean", none), "_law_clean", "_law_clean", defArgs s_l_clean, defBody s_l_clean, defScope s_l_clean, [], []⟩
theorem sc_l_clean : FnScope n_l_clean p_l_clean (He.DefD.scope d_l_clean) := ⟨rfl, rfl, rfl, by decide +kernel, rfl, by decide +kernel, by decide +kernel⟩
abbrev s_l_seeds : Stmt := (top 68)
abbrev n_l_seeds : List Str := ["_law_bag", "_law_cells", "_law_found", "_law_turn", "_law_signs", "_law_at", "_law_name", "_law_many", "_law_last"]
abbrev p_l_seeds : List Str := ["_law_bag", "_law_cells"]
abbrev d_l_seeds : He.DefD := ⟨("_law_seeds", none), "_law_seeds", "_law_seeds", defArgs s_l_seeds, defBody s_l_seeds, defScope s_l_seeds, [], []⟩
theorem sc_l_seeds : FnScope n_l_seeds p_l_seeds (He.DefD.scope d_l_seeds) := ⟨rfl, rfl, rfl, by decide +kernel, rfl, by decide +kernel, by decide +kernel⟩
abbrev s_l_band : Stmt := (top 69)
abbrev n_l_band : List Str := ["_law_bag", "_law_least", "_law_high", "_law_cap", "_law_names_here", "_law_cells", "_law_name", "_law_seeds_here", "_law_size", "_law_rows", "_law_seed"]
abbrev p_l_band : List Str := ["_law_bag", "_law_least", "_law_high", "_law_cap"]
abbrev d_l_band : He.DefD := ⟨("_law_band", none), "_law_band", "_law_band", defArgs s_l_band, defBody s_l_band, defScope s_l_band, [], []⟩
theorem sc_l_band : FnScope n_l_band p_l_band (He.DefD.scope d_l_band) := ⟨rfl, rfl, rfl, by decide +kernel, rfl, by decide +kernel, by decide +kernel⟩
abbrev s_BadPictures___init__ : Stmt := (inClass (top 9) 0)
abbrev n_BadPictures___init__ : List Str := ["self"]
abbrev p_BadPictures___init__ : List Str := ["self"]
abbrev d_BadPictures___init__ : He.DefD := ⟨("BadPictures", some "__init__"), "__init__", "BadPictures.__init__", defArgs s_BadPictures___init__, defBody s_BadPictures___init__, defScope s_BadPictures___init__, [], []⟩
theorem sc_BadPictures___init__ : FnScope n_BadPictures___init__ p_BadPictures___init__ (He.DefD.scope d_BadPictures___init__) := ⟨rfl, rfl, rfl, by decide +kernel, rfl, by decide +kernel, by decide +kernel⟩
abbrev s_NotMap___init__ : Stmt := (inClass (top 10) 0)
abbrev n_NotMap___init__ : List Str := ["self", "one", "other"]
abbrev p_NotMap___init__ : List Str := ["self", "one", "other"]
abbrev d_NotMap___init__ : He.DefD := ⟨("NotMap", some "__init__"), "__init__", "NotMap.__init__", defArgs s_NotMap___init__, defBody s_NotMap___init__, defScope s_NotMap___init__, [], []⟩
theorem sc_NotMap___init__ : FnScope n_NotMap___init__ p_NotMap___init__ (He.DefD.scope d_NotMap___init__) := ⟨rfl, rfl, rfl, by decide +kernel, rfl, by decide +kernel, by decide +kernel⟩
abbrev s_Band_blank_row : Stmt := (inClass (top 54) 8)
abbrev n_Band_blank_row : List Str := ["self"]
abbrev p_Band_blank_row : List Str := ["self"]
abbrev d_Band_blank_row : He.DefD := ⟨("Band", some "blank_row"), "blank_row", "Band.blank_row", defArgs s_Band_blank_row, defBody s_Band_blank_row, defScope s_Band_blank_row, [], []⟩
theorem sc_Band_blank_row : FnScope n_Band_blank_row p_Band_blank_row (He.DefD.scope d_Band_blank_row) := ⟨rfl, rfl, rfl, by decide +kernel, rfl, by decide +kernel, by decide +kernel⟩
abbrev s_Band_check_row : Stmt := (inClass (top 54) 11)
abbrev n_Band_check_row : List Str := ["self", "row"]
abbrev p_Band_check_row : List Str := ["self", "row"]
abbrev d_Band_check_row : He.DefD := ⟨("Band", some "check_row"), "check_row", "Band.check_row", defArgs s_Band_check_row, defBody s_Band_check_row, defScope s_Band_check_row, [], []⟩
theorem sc_Band_check_row : FnScope n_Band_check_row p_Band_check_row (He.DefD.scope d_Band_check_row) := ⟨rfl, rfl, rfl, by decide +kernel, rfl, by decide +kernel, by decide +kernel⟩
abbrev s_Band___contains__ : Stmt := (inClass (top 54) 21)
abbrev n_Band___contains__ : List Str := ["self", "row"]
abbrev p_Band___contains__ : List Str := ["self", "row"]
abbrev d_Band___contains__ : He.DefD := ⟨("Band", some "__contains__"), "__contains__", "Band.__contains__", defArgs s_Band___contains__, defBody s_Band___contains__, defScope s_Band___contains__, [], []⟩
theorem sc_Band___contains__ : FnScope n_Band___contains__ p_Band___contains__ (He.DefD.scope d_Band___contains__) := ⟨rfl, rfl, rfl, by decide +kernel, rfl, by decide +kernel, by decide +kernel⟩
abbrev s_check_pictures : Stmt := (top 32)
abbrev n_check_pictures : List Str := ["band", "other", "pictures", "seeds", "seed"]
abbrev p_check_pictures : List Str := ["band", "other", "pictures"]
abbrev d_check_pictures : He.DefD := ⟨("check_pictures", none), "check_pictures", "check_pictures", defArgs s_check_pictures, defBody s_check_pictures, defScope s_check_pictures, [], []⟩
theorem sc_check_pictures : FnScope n_check_pictures p_check_pictures (He.DefD.scope d_check_pictures) := ⟨rfl, rfl, rfl, by decide +kernel, rfl, by decide +kernel, by decide +kernel⟩
abbrev s_map_break : Stmt := (top 33)
abbrev n_map_break : List Str := ["band", "other", "pictures"]
abbrev p_map_break : List Str := ["band", "other", "pictures"]
abbrev d_map_break : He.DefD := ⟨("map_break", none), "map_break", "map_break", defArgs s_map_break, defBody s_map_break, defScope s_map_break, [], []⟩
theorem sc_map_break : FnScope n_map_break p_map_break (He.DefD.scope d_map_break) := ⟨rfl, rfl, rfl, by decide +kernel, rfl, by decide +kernel, by decide +kernel⟩
abbrev s_walked : Stmt := (top 34)
abbrev n_walked : List Str := ["band", "other", "pictures", "rows", "shown", "ways", "seeds", "at", "row", "seed", "further", "picture"]
abbrev p_walked : List Str := ["band", "other", "pictures"]
abbrev d_walked : He.DefD := ⟨("walked", none), "walked", "walked", defArgs s_walked, defBody s_walked, defScope s_walked, [], []⟩
theorem sc_walked : FnScope n_walked p_walked (He.DefD.scope d_walked) := ⟨rfl, rfl, rfl, by decide +kernel, rfl, by decide +kernel, by decide +kernel⟩
abbrev s_way_to : Stmt := (top 35)
abbrev n_way_to : List Str := ["ways", "row", "seeds", "step"]
abbrev p_way_to : List Str := ["ways", "row"]
abbrev d_way_to : He.DefD := ⟨("way_to", none), "way_to", "way_to", defArgs s_way_to, defBody s_way_to, defScope s_way_to, [], []⟩
theorem sc_way_to : FnScope n_way_to p_way_to (He.DefD.scope d_way_to) := ⟨rfl, rfl, rfl, by decide +kernel, rfl, by decide +kernel, by decide +kernel⟩
abbrev s_BandMap___init__ : Stmt := (inClass (top 36) 0)
abbrev n_BandMap___init__ : List Str := ["self", "band", "other", "pictures", "shown", "found", "seed"]
abbrev p_BandMap___init__ : List Str := ["self", "band", "other", "pictures"]
abbrev d_BandMap___init__ : He.DefD := ⟨("BandMap", some "__init__"), "__init__", "BandMap.__init__", defArgs s_BandMap___init__, defBody s_BandMap___init__, defScope s_BandMap___init__, [], []⟩
theorem sc_BandMap___init__ : FnScope n_BandMap___init__ p_BandMap___init__ (He.DefD.scope d_BandMap___init__) := ⟨rfl, rfl, rfl, by decide +kernel, rfl, by decide +kernel, by decide +kernel⟩
abbrev s_BandMap_pictures : Stmt := (inClass (top 36) 1)
abbrev n_BandMap_pictures : List Str := ["self"]
abbrev p_BandMap_pictures : List Str := ["self"]
abbrev d_BandMap_pictures : He.DefD := ⟨("BandMap", some "pictures"), "pictures", "BandMap.pictures", defArgs s_BandMap_pictures, defBody s_BandMap_pictures, defScope s_BandMap_pictures, [], []⟩
theorem sc_BandMap_pictures : FnScope n_BandMap_pictures p_BandMap_pictures (He.DefD.scope d_BandMap_pictures) := ⟨rfl, rfl, rfl, by decide +kernel, rfl, by decide +kernel, by decide +kernel⟩
abbrev s_BandMap_picture : Stmt := (inClass (top 36) 2)
abbrev n_BandMap_picture : List Str := ["self", "row"]
abbrev p_BandMap_picture : List Str := ["self", "row"]
abbrev d_BandMap_picture : He.DefD := ⟨("BandMap", some "picture"), "picture", "BandMap.picture", defArgs s_BandMap_picture, defBody s_BandMap_picture, defScope s_BandMap_picture, [], []⟩
theorem sc_BandMap_picture : FnScope n_BandMap_picture p_BandMap_picture (He.DefD.scope d_BandMap_picture) := ⟨rfl, rfl, rfl, by decide +kernel, rfl, by decide +kernel, by decide +kernel⟩
abbrev s_BandMap___call__ : Stmt := (inClass (top 36) 3)
abbrev n_BandMap___call__ : List Str := ["self", "row"]
abbrev p_BandMap___call__ : List Str := ["self", "row"]
abbrev d_BandMap___call__ : He.DefD := ⟨("BandMap", some "__call__"), "__call__", "BandMap.__call__", defArgs s_BandMap___call__, defBody s_BandMap___call__, defScope s_BandMap___call__, [], []⟩
theorem sc_BandMap___call__ : FnScope n_BandMap___call__ p_BandMap___call__ (He.DefD.scope d_BandMap___call__) := ⟨rfl, rfl, rfl, by decide +kernel, rfl, by decide +kernel, by decide +kernel⟩
abbrev s_l_laid : Stmt := (top 64)
abbrev n_l_laid : List Str := ["_law_rows", "_law_size", "_law_found", "_law_one"]
abbrev p_l_laid : List Str := ["_law_rows", "_law_size"]
abbrev d_l_laid : He.DefD := ⟨("_law_laid", none), "_law_laid", "_law_laid", defArgs s_l_laid, defBody s_l_laid, defScope s_l_laid, [], []⟩
theorem sc_l_laid : FnScope n_l_laid p_l_laid (He.DefD.scope d_l_laid) := ⟨rfl, rfl, rfl, by decide +kernel, rfl, by decide +kernel, by decide +kernel⟩
abbrev s_l_bad_row : Stmt := (top 70)
abbrev n_l_bad_row : List Str := ["_law_bag", "_law_cells", "_law_row", "_law_size", "_law_at", "_law_way"]
abbrev p_l_bad_row : List Str := ["_law_bag", "_law_cells", "_law_row"]
abbrev d_l_bad_row : He.DefD := ⟨("_law_bad_row", none), "_law_bad_row", "_law_bad_row", defArgs s_l_bad_row, defBody s_l_bad_row, defScope s_l_bad_row, [], []⟩
theorem sc_l_bad_row : FnScope n_l_bad_row p_l_bad_row (He.DefD.scope d_l_bad_row) := ⟨rfl, rfl, rfl, by decide +kernel, rfl, by decide +kernel, by decide +kernel⟩
abbrev s_l_copied : Stmt := (top 71)
abbrev n_l_copied : List Str := ["_law_bag", "_law_table", "_law_found", "_law_name"]
abbrev p_l_copied : List Str := ["_law_bag", "_law_table"]
abbrev d_l_copied : He.DefD := ⟨("_law_copied", none), "_law_copied", "_law_copied", defArgs s_l_copied, defBody s_l_copied, defScope s_l_copied, [], []⟩
theorem sc_l_copied : FnScope n_l_copied p_l_copied (He.DefD.scope d_l_copied) := ⟨rfl, rfl, rfl, by decide +kernel, rfl, by decide +kernel, by decide +kernel⟩
abbrev s_l_map_rows : Stmt := (top 72)
abbrev n_l_map_rows : List Str := ["_law_seeds_here", "_law_pictures", "_law_size", "_law_size_on", "_law_found", "_law_some", "_law_turn", "_law_row", "_law_seed", "_law_led", "_law_seen"]
abbrev p_l_map_rows : List Str := ["_law_seeds_here", "_law_pictures", "_law_size", "_law_size_on"]
abbrev d_l_map_rows : He.DefD := ⟨("_law_map_rows", none), "_law_map_rows", "_law_map_rows", defArgs s_l_map_rows, defBody s_l_map_rows, defScope s_l_map_rows, [], []⟩
theorem sc_l_map_rows : FnScope n_l_map_rows p_l_map_rows (He.DefD.scope d_l_map_rows) := ⟨rfl, rfl, rfl, by decide +kernel, rfl, by decide +kernel, by decide +kernel⟩
abbrev s_l_map : Stmt := (top 73)
abbrev n_l_map : List Str := ["_law_bag", "_law_cells", "_law_seeds_here", "_law_shown", "_law_signs", "_law_names_here", "_law_cells_on", "_law_name", "_law_many", "_law_table", "_law_k", "_law_at", "_law_plain", "_law_pictures", "_law_seed", "_law_some", "_law_sign", "_law_seeds_on", "_law_more"]
abbrev p_l_map : List Str := ["_law_bag", "_law_cells", "_law_seeds_here"]
abbrev d_l_map : He.DefD := ⟨("_law_map", none), "_law_map", "_law_map", defArgs s_l_map, defBody s_l_map, defScope s_l_map, [], []⟩
theorem sc_l_map : FnScope n_l_map p_l_map (He.DefD.scope d_l_map) := ⟨rfl, rfl, rfl, by decide +kernel, rfl, by decide +kernel, by decide +kernel⟩
abbrev s_l_told : Stmt := (top 74)
abbrev n_l_told : List Str := ["_law_way", "_law_band_here", "_law_band_on", "_law_pictures", "e", "_law_made"]
abbrev p_l_told : List Str := ["_law_way", "_law_band_here", "_law_band_on", "_law_pictures"]
abbrev d_l_told : He.DefD := ⟨("_law_told", none), "_law_told", "_law_told", defArgs s_l_told, defBody s_l_told, defScope s_l_told, [], []⟩
theorem sc_l_told : FnScope n_l_told p_l_told (He.DefD.scope d_l_told) := ⟨rfl, rfl, rfl, by decide +kernel, rfl, by decide +kernel, by decide +kernel⟩
abbrev s_l_are_pictures : Stmt := (top 75)
abbrev n_l_are_pictures : List Str := ["_law_seeds_here", "_law_rows_on", "_law_value", "_law_seed"]
abbrev p_l_are_pictures : List Str := ["_law_seeds_here", "_law_rows_on", "_law_value"]
abbrev d_l_are_pictures : He.DefD := ⟨("_law_are_pictures", none), "_law_are_pictures", "_law_are_pictures", defArgs s_l_are_pictures, defBody s_l_are_pictures, defScope s_l_are_pictures, [], []⟩
theorem sc_l_are_pictures : FnScope n_l_are_pictures p_l_are_pictures (He.DefD.scope d_l_are_pictures) := ⟨rfl, rfl, rfl, by decide +kernel, rfl, by decide +kernel, by decide +kernel⟩
abbrev s_l_bent : Stmt := (top 76)
abbrev n_l_bent : List Str := ["_law_bag", "_law_seeds_here", "_law_cells_on", "_law_pictures", "_law_found", "_law_way", "_law_seed"]
abbrev p_l_bent : List Str := ["_law_bag", "_law_seeds_here", "_law_cells_on", "_law_pictures"]
abbrev d_l_bent : He.DefD := ⟨("_law_bent", none), "_law_bent", "_law_bent", defArgs s_l_bent, defBody s_l_bent, defScope s_l_bent, [], []⟩
theorem sc_l_bent : FnScope n_l_bent p_l_bent (He.DefD.scope d_l_bent) := ⟨rfl, rfl, rfl, by decide +kernel, rfl, by decide +kernel, by decide +kernel⟩
abbrev s_l_pair_good : Stmt := (top 77)
abbrev n_l_pair_good : List Str := ["_law_seeds_here", "_law_pictures", "_law_size", "_law_size_on", "_law_told_here", "_law_one", "_law_seed", "_law_shown"]
abbrev p_l_pair_good : List Str := ["_law_seeds_here", "_law_pictures", "_law_size", "_law_size_on", "_law_told_here"]
abbrev d_l_pair_good : He.DefD := ⟨("_law_pair_good", none), "_law_pair_good", "_law_pair_good", defArgs s_l_pair_good, defBody s_l_pair_good, defScope s_l_pair_good, [], []⟩
theorem sc_l_pair_good : FnScope n_l_pair_good p_l_pair_good (He.DefD.scope d_l_pair_good) := ⟨rfl, rfl, rfl, by decide +kernel, rfl, by decide +kernel, by decide +kernel⟩
abbrev s_l_asked : Stmt := (top 78)
abbrev n_l_asked : List Str := ["_law_bag", "_law_seeds_here", "_law_rows", "_law_band_here", "_law_band_on", "_law_size_on", "_law_pictures", "_law_handed", "_law_size", "_law_found", "_law_told_here", "_law_made", "_law_seed", "_law_due", "_law_kept", "_law_row"]
abbrev p_l_asked : List Str := ["_law_bag", "_law_seeds_here", "_law_rows", "_law_band_here", "_law_band_on", "_law_size_on", "_law_pictures"]
abbrev d_l_asked : He.DefD := ⟨("_law_asked", none), "_law_asked", "_law_asked", defArgs s_l_asked, defBody s_l_asked, defScope s_l_asked, [], []⟩
theorem sc_l_asked : FnScope n_l_asked p_l_asked (He.DefD.scope d_l_asked) := ⟨rfl, rfl, rfl, by decide +kernel, rfl, by decide +kernel, by decide +kernel⟩
abbrev s_law : Stmt := (top 79)
abbrev n_law : List Str := ["_law_script", "_law_bag", "_law_cells", "_law_seeds_here", "_law_rows", "_law_cells_on", "_law_seeds_on", "_law_pictures", "_law_rows_on", "_law_band_here", "_law_band_on", "_law_turn", "_law_bent_here", "_law_changed", "_law_again", "_law_refused"]
abbrev p_law : List Str := ["_law_script"]
abbrev d_law : He.DefD := ⟨("law", none), "law", "law", defArgs s_law, defBody s_law, defScope s_law, [], []⟩
theorem sc_law : FnScope n_law p_law (He.DefD.scope d_law) := ⟨rfl, rfl, rfl, by decide +kernel, rfl, by decide +kernel, by decide +kernel⟩
def fn_0 : List He.DefD := [d_is_name, d_is_number, d_check_cells, d_is_row, d_over, d_lot_of, d_blank, d_lot_size, d_ordered_lots, d_check_seeds, d_grown_rows, d_Band___init__, d_Band_seeds, d_Band_rows, d_l_start, d_l_pull, d_l_pick, d_l_same, d_l_some_of, d_l_turned, d_l_odd, d_l_over, d_l_closure, d_l_names, d_l_clean, d_l_seeds, d_l_band, d_BadPictures___init__, d_NotMap___init__, d_Band_blank_row]
def fn_1 : List He.DefD := [d_Band_check_row, d_Band___contains__, d_check_pictures, d_map_break, d_walked, d_way_to, d_BandMap___init__, d_BandMap_pictures, d_BandMap_picture, d_BandMap___call__, d_l_laid, d_l_bad_row, d_l_copied, d_l_map_rows, d_l_map, d_l_told, d_l_are_pictures, d_l_bent, d_l_pair_good, d_l_asked, d_law]
def fn : List He.DefD := fn_0 ++ fn_1
def fa_0 : List He.Fa := [.glo "is_name", .glo "is_number", .glo "check_cells", .glo "is_row", .glo "over", .glo "lot_of", .glo "blank", .glo "lot_size", .glo "ordered_lots", .glo "check_seeds", .glo "grown_rows", .glo "_law_start", .glo "_law_pull", .glo "_law_pick", .glo "_law_same", .glo "_law_some_of", .glo "_law_turned", .glo "_law_odd", .glo "_law_over", .glo "_law_closure", .glo "_law_names", .glo "_law_clean", .glo "_law_seeds", .glo "_law_band", .glo "check_pictures", .glo "map_break", .glo "walked", .glo "way_to", .glo "_law_laid", .glo "_law_bad_row"]
def fa_1 : List He.Fa := [.glo "_law_copied", .glo "_law_map_rows", .glo "_law_map", .glo "_law_told", .glo "_law_are_pictures", .glo "_law_bent", .glo "_law_pair_good", .glo "_law_asked", .glo "law", .free "all", .free "bool", .free "dict", .free "enumerate", .free "int", .free "isinstance", .free "len", .free "list", .free "min", .free "range", .free "set", .free "sorted", .free "str", .free "tuple", .free "zip", .str "LETTERS" "abcdefghijklmnopqrstuvwxyz", .int "MOST_CELLS" 12, .int "MOST_ROWS" 800, .int "MOST_SEEDS" 30, .int "MOST_VALUES" 4, .glo "Band"]
def fa_2 : List He.Fa := [.cls "Band", .mkr "Band", .noat "Band" "cell_list", .noat "Band" "seed_list", .noat "Band" "row_list", .noat "Band" "known_rows", .noat "Band" "lot_list", .meth "Band" "seeds", .meth "Band" "rows", .meth "Band" "blank_row", .meth "Band" "check_row", .meth "Band" "__contains__", .glo "BandMap", .cls "BandMap", .mkr "BandMap", .noat "BandMap" "band", .noat "BandMap" "other", .noat "BandMap" "seed_pictures", .noat "BandMap" "row_pictures", .meth "BandMap" "pictures", .meth "BandMap" "picture", .meth "BandMap" "__call__", .glo "BadPictures", .noat "BadPictures" "code", .exm "BadPictures" "BadPictures" true, .glo "NotMap", .noat "NotMap" "code", .noat "NotMap" "one", .noat "NotMap" "other", .exm "NotMap" "NotMap" true]
def fa_3 : List He.Fa := [.exm "BadPictures" "NotMap" false, .exm "NotMap" "BadPictures" false]
def fa : List He.Fa := fa_0 ++ fa_1 ++ fa_2 ++ fa_3
def exs : List Str := ["BadPictures", "NotMap"]
/-! ### what the head tells -/
/-- an own error over ValueError, with its own __init__ -/
def oexB (K : PySem.W.Frag) (x : Str) : Bool := (match K.lookup (He.ga K x) with
  | some ⟨.type "type", _, .cls cd, sl⟩ => (match cd.mro, sl.toList with
    | .ref C' :: bm, [_, _, _, _, some (.builtin n), _] => C' == He.ga K x && (n == "ValueError.__new__" && (!cd.hasDel && (cd.hasDict && PySem.HandSPX.refsVE bm)))
    | _, _ => false)
  | _ => false) && (decide (PySem.W.findIn K (.ref (He.ga K x)) "__setattr__" = some (some (.builtin "object.__setattr__"))) &&
    (decide (PySem.W.subIn K (.ref (He.ga K x)) (.type "BaseException") = some true) && (decide (PySem.W.typeIn K (.ref (He.ga K x)) = some (.type "type")) && (PySem.W.keepIn K (.ref (He.ga K x)) &&
    (decide (PySem.W.findIn K (.ref (He.ga K x)) "__init__" = some (some (.ref (He.fAd K (x, some "__init__"))))) && (decide (PySem.W.typeIn K (.ref (He.fAd K (x, some "__init__"))) = some (.type "function")) && xfB K (He.ga K x)))))))
structure Oex (K : PySem.W.Frag) (x : Str) : Prop where
  oc : OexC K (He.ga K x)
  ic : PySem.W.findIn K (.ref (He.ga K x)) "__init__" = some (some (.ref (He.fAd K (x, some "__init__"))))
  ti : PySem.W.typeIn K (.ref (He.fAd K (x, some "__init__"))) = some (.type "function")
  xf : XfC K (He.ga K x)
theorem oexB_ok {K : PySem.W.Frag} {x : Str} (h : oexB K x = true) : Oex K x := by
  unfold oexB at h
  obtain ⟨h0, h⟩ := He.ba h
  obtain ⟨h1, h⟩ := He.ba h
  obtain ⟨h2, h⟩ := He.ba h
  obtain ⟨h3, h⟩ := He.ba h
  obtain ⟨h4, h⟩ := He.ba h
  obtain ⟨h5, h⟩ := He.ba h
  obtain ⟨h6, h7⟩ := He.ba h
  refine ⟨⟨?_, of_decide_eq_true h1, of_decide_eq_true h2, of_decide_eq_true h3, h4⟩, of_decide_eq_true h5, of_decide_eq_true h6, xfB_ok h7⟩
  split at h0
  · rename_i dd cd sl ho
    split at h0
    · rename_i C' bm k0 k1 k2 k3 n k5 hm hs
      obtain ⟨a1, a⟩ := He.ba h0
      obtain ⟨a2, a⟩ := He.ba a
      obtain ⟨a3, a⟩ := He.ba a
      obtain ⟨a4, a5⟩ := He.ba a
      obtain ⟨nm, bs, mro, ns, qn, hd, sn, sub, ab, col, del⟩ := cd
      dsimp only at hm a3 a4
      obtain rfl := beq_iff_eq.mp a1
      obtain rfl := beq_iff_eq.mp a2
      subst hm a4
      have ed : del = false := by cases del with
        | false => rfl
        | true => cases a3
      subst ed
      have hsl : sl = #[k0, k1, k2, k3, some (.builtin "ValueError.__new__"), k5] := by
        obtain ⟨l⟩ := sl
        simp only at hs
        rw [hs]
      subst hsl
      exact ⟨nm, qn, ns, bs, bm, sn, sub, ab, col, dd, k0, k1, k2, k3, k5, ho, a5⟩
    · cases h0
  · cases h0
/-- the Hook: the facts, the defs, the errors -/
abbrev AlX : Type := Bool × He.AlD
def obsX (K : PySem.W.Frag) : AlX := (exs.all fun x => oexB K x, He.obsD fa fn K)
def valX : AlX := (true, He.valD fn)
def SaysX (K : PySem.W.Frag) : Prop := obsX K = valX
def obsXG (n : Nat) (g : Addr → Option Obj) : AlX := obsX (He.frG g (He.asD g n))
def hookX (n : Nat) : PySem.W.Hook where
  α := AlX
  obs := fun s => obsXG n s.heap.get?
  val := fun _ => valX
  says := fun _ h => ∃ K : PySem.W.Frag, K.In h ∧ SaysX K
  of := fun _ _ e => ⟨_, He.frG_in, e⟩
  keeps := fun _ _ _ ⟨K, hK, c⟩ k => ⟨K, PySem.W.Frag.In.keeps hK k, c⟩
theorem obsXG_eq {n : Nat} {g : Addr → Option Obj} {s : Shared} (h : ∀ a, g a = s.heap.get? a) : obsXG n g = (hookX n).obs s := by
  have e : g = s.heap.get? := funext h
  rw [e]
  rfl
/-- the names of the text, by what the head tells -/
structure Tx (K : PySem.W.Frag) (mg : Str → Option Value) : Prop where
  says : He.SaysD fa fn K
  exc : ∀ x ∈ exs, Oex K x
  glo : ∀ {x : Str}, (He.Fa.glo x).ok K = true → mg x = some (.ref (He.ga K x))
  free : ∀ {x : Str}, (He.Fa.free x).ok K = true → mg x = none
  int : ∀ {x : Str} {i : Int}, (He.Fa.int x i).ok K = true → ∃ t, mg x = some (.int i t)
  str : ∀ {x z : Str}, (He.Fa.str x z).ok K = true → ∃ t, mg x = some (.str z t)
theorem Tx.of {K : PySem.W.Frag} {h : Heap} {mg : Str → Option Value} (X : K.In h) (G : h.Ns mainGlobals mg) (c : SaysX K) : Tx K mg :=
  ⟨congrArg (fun z : AlX => z.2) c, fun x hx => oexB_ok (List.all_eq_true.mp (show (exs.all fun x => oexB K x) = true from congrArg (fun z : AlX => z.1) c) x hx),
    fun c => He.glo_ok X G c, fun c => He.free_ok X G c, fun c => He.int_ok X G c, fun c => He.str_ok X G c⟩
theorem Tx.fact {K : PySem.W.Frag} {mg : Str → Option Value} (T : Tx K mg) (i : Nat) {f : He.Fa} (h : fa[i]? = some f) : f.ok K = true := He.SaysD.fact T.says i h
theorem Tx.def_ {K : PySem.W.Frag} {mg : Str → Option Value} (T : Tx K mg) (i : Nat) {d : He.DefD} (h : fn[i]? = some d) :
    ∃ fd, FunD K d.name d.qual d.params d.body d.scope (d.dvs K) (d.kws K) (He.fAd K d.at_) fd := He.SaysD.def_ T.says i h
section
variable {K : PySem.W.Frag} {mg : Str → Option Value}
theorem Tx.m_is_name (T : Tx K mg) : mg "is_name" = some (.ref (He.fAd K (He.DefD.at_ d_is_name))) := T.glo (T.fact 0 rfl)
theorem Tx.m_is_number (T : Tx K mg) : mg "is_number" = some (.ref (He.fAd K (He.DefD.at_ d_is_number))) := T.glo (T.fact 1 rfl)
theorem Tx.m_check_cells (T : Tx K mg) : mg "check_cells" = some (.ref (He.fAd K (He.DefD.at_ d_check_cells))) := T.glo (T.fact 2 rfl)
theorem Tx.m_is_row (T : Tx K mg) : mg "is_row" = some (.ref (He.fAd K (He.DefD.at_ d_is_row))) := T.glo (T.fact 3 rfl)
theorem Tx.m_over (T : Tx K mg) : mg "over" = some (.ref (He.fAd K (He.DefD.at_ d_over))) := T.glo (T.fact 4 rfl)
theorem Tx.m_lot_of (T : Tx K mg) : mg "lot_of" = some (.ref (He.fAd K (He.DefD.at_ d_lot_of))) := T.glo (T.fact 5 rfl)
theorem Tx.m_blank (T : Tx K mg) : mg "blank" = some (.ref (He.fAd K (He.DefD.at_ d_blank))) := T.glo (T.fact 6 rfl)
theorem Tx.m_lot_size (T : Tx K mg) : mg "lot_size" = some (.ref (He.fAd K (He.DefD.at_ d_lot_size))) := T.glo (T.fact 7 rfl)
theorem Tx.m_ordered_lots (T : Tx K mg) : mg "ordered_lots" = some (.ref (He.fAd K (He.DefD.at_ d_ordered_lots))) := T.glo (T.fact 8 rfl)
theorem Tx.m_check_seeds (T : Tx K mg) : mg "check_seeds" = some (.ref (He.fAd K (He.DefD.at_ d_check_seeds))) := T.glo (T.fact 9 rfl)
theorem Tx.m_grown_rows (T : Tx K mg) : mg "grown_rows" = some (.ref (He.fAd K (He.DefD.at_ d_grown_rows))) := T.glo (T.fact 10 rfl)
theorem Tx.m_l_start (T : Tx K mg) : mg "_law_start" = some (.ref (He.fAd K (He.DefD.at_ d_l_start))) := T.glo (T.fact 11 rfl)
theorem Tx.m_l_pull (T : Tx K mg) : mg "_law_pull" = some (.ref (He.fAd K (He.DefD.at_ d_l_pull))) := T.glo (T.fact 12 rfl)
theorem Tx.m_l_pick (T : Tx K mg) : mg "_law_pick" = some (.ref (He.fAd K (He.DefD.at_ d_l_pick))) := T.glo (T.fact 13 rfl)
theorem Tx.m_l_same (T : Tx K mg) : mg "_law_same" = some (.ref (He.fAd K (He.DefD.at_ d_l_same))) := T.glo (T.fact 14 rfl)
theorem Tx.m_l_some_of (T : Tx K mg) : mg "_law_some_of" = some (.ref (He.fAd K (He.DefD.at_ d_l_some_of))) := T.glo (T.fact 15 rfl)
theorem Tx.m_l_turned (T : Tx K mg) : mg "_law_turned" = some (.ref (He.fAd K (He.DefD.at_ d_l_turned))) := T.glo (T.fact 16 rfl)
theorem Tx.m_l_odd (T : Tx K mg) : mg "_law_odd" = some (.ref (He.fAd K (He.DefD.at_ d_l_odd))) := T.glo (T.fact 17 rfl)
theorem Tx.m_l_over (T : Tx K mg) : mg "_law_over" = some (.ref (He.fAd K (He.DefD.at_ d_l_over))) := T.glo (T.fact 18 rfl)
theorem Tx.m_l_closure (T : Tx K mg) : mg "_law_closure" = some (.ref (He.fAd K (He.DefD.at_ d_l_closure))) := T.glo (T.fact 19 rfl)
theorem Tx.m_l_names (T : Tx K mg) : mg "_law_names" = some (.ref (He.fAd K (He.DefD.at_ d_l_names))) := T.glo (T.fact 20 rfl)
theorem Tx.m_l_clean (T : Tx K mg) : mg "_law_clean" = some (.ref (He.fAd K (He.DefD.at_ d_l_clean))) := T.glo (T.fact 21 rfl)
theorem Tx.m_l_seeds (T : Tx K mg) : mg "_law_seeds" = some (.ref (He.fAd K (He.DefD.at_ d_l_seeds))) := T.glo (T.fact 22 rfl)
theorem Tx.m_l_band (T : Tx K mg) : mg "_law_band" = some (.ref (He.fAd K (He.DefD.at_ d_l_band))) := T.glo (T.fact 23 rfl)
theorem Tx.m_check_pictures (T : Tx K mg) : mg "check_pictures" = some (.ref (He.fAd K (He.DefD.at_ d_check_pictures))) := T.glo (T.fact 24 rfl)
theorem Tx.m_map_break (T : Tx K mg) : mg "map_break" = some (.ref (He.fAd K (He.DefD.at_ d_map_break))) := T.glo (T.fact 25 rfl)
theorem Tx.m_walked (T : Tx K mg) : mg "walked" = some (.ref (He.fAd K (He.DefD.at_ d_walked))) := T.glo (T.fact 26 rfl)
theorem Tx.m_way_to (T : Tx K mg) : mg "way_to" = some (.ref (He.fAd K (He.DefD.at_ d_way_to))) := T.glo (T.fact 27 rfl)
theorem Tx.m_l_laid (T : Tx K mg) : mg "_law_laid" = some (.ref (He.fAd K (He.DefD.at_ d_l_laid))) := T.glo (T.fact 28 rfl)
theorem Tx.m_l_bad_row (T : Tx K mg) : mg "_law_bad_row" = some (.ref (He.fAd K (He.DefD.at_ d_l_bad_row))) := T.glo (T.fact 29 rfl)
theorem Tx.m_l_copied (T : Tx K mg) : mg "_law_copied" = some (.ref (He.fAd K (He.DefD.at_ d_l_copied))) := T.glo (T.fact 30 rfl)
theorem Tx.m_l_map_rows (T : Tx K mg) : mg "_law_map_rows" = some (.ref (He.fAd K (He.DefD.at_ d_l_map_rows))) := T.glo (T.fact 31 rfl)
theorem Tx.m_l_map (T : Tx K mg) : mg "_law_map" = some (.ref (He.fAd K (He.DefD.at_ d_l_map))) := T.glo (T.fact 32 rfl)
theorem Tx.m_l_told (T : Tx K mg) : mg "_law_told" = some (.ref (He.fAd K (He.DefD.at_ d_l_told))) := T.glo (T.fact 33 rfl)
theorem Tx.m_l_are_pictures (T : Tx K mg) : mg "_law_are_pictures" = some (.ref (He.fAd K (He.DefD.at_ d_l_are_pictures))) := T.glo (T.fact 34 rfl)
theorem Tx.m_l_bent (T : Tx K mg) : mg "_law_bent" = some (.ref (He.fAd K (He.DefD.at_ d_l_bent))) := T.glo (T.fact 35 rfl)
theorem Tx.m_l_pair_good (T : Tx K mg) : mg "_law_pair_good" = some (.ref (He.fAd K (He.DefD.at_ d_l_pair_good))) := T.glo (T.fact 36 rfl)
theorem Tx.m_l_asked (T : Tx K mg) : mg "_law_asked" = some (.ref (He.fAd K (He.DefD.at_ d_l_asked))) := T.glo (T.fact 37 rfl)
theorem Tx.m_law (T : Tx K mg) : mg "law" = some (.ref (He.fAd K (He.DefD.at_ d_law))) := T.glo (T.fact 38 rfl)
theorem Tx.b_all (T : Tx K mg) : mg "all" = none := T.free (T.fact 39 rfl)
theorem Tx.b_bool (T : Tx K mg) : mg "bool" = none := T.free (T.fact 40 rfl)
theorem Tx.b_dict (T : Tx K mg) : mg "dict" = none := T.free (T.fact 41 rfl)
theorem Tx.b_enumerate (T : Tx K mg) : mg "enumerate" = none := T.free (T.fact 42 rfl)
theorem Tx.b_int (T : Tx K mg) : mg "int" = none := T.free (T.fact 43 rfl)
theorem Tx.b_isinstance (T : Tx K mg) : mg "isinstance" = none := T.free (T.fact 44 rfl)
theorem Tx.b_len (T : Tx K mg) : mg "len" = none := T.free (T.fact 45 rfl)
theorem Tx.b_list (T : Tx K mg) : mg "list" = none := T.free (T.fact 46 rfl)
theorem Tx.b_min (T : Tx K mg) : mg "min" = none := T.free (T.fact 47 rfl)
theorem Tx.b_range (T : Tx K mg) : mg "range" = none := T.free (T.fact 48 rfl)
theorem Tx.b_set (T : Tx K mg) : mg "set" = none := T.free (T.fact 49 rfl)
theorem Tx.b_sorted (T : Tx K mg) : mg "sorted" = none := T.free (T.fact 50 rfl)
theorem Tx.b_str (T : Tx K mg) : mg "str" = none := T.free (T.fact 51 rfl)
theorem Tx.b_tuple (T : Tx K mg) : mg "tuple" = none := T.free (T.fact 52 rfl)
theorem Tx.b_zip (T : Tx K mg) : mg "zip" = none := T.free (T.fact 53 rfl)
theorem Tx.m_LETTERS (T : Tx K mg) : ∃ t, mg "LETTERS" = some (.str "abcdefghijklmnopqrstuvwxyz" t) := T.str (T.fact 54 rfl)
theorem Tx.m_MOST_CELLS (T : Tx K mg) : ∃ t, mg "MOST_CELLS" = some (.int 12 t) := T.int (T.fact 55 rfl)
theorem Tx.m_MOST_ROWS (T : Tx K mg) : ∃ t, mg "MOST_ROWS" = some (.int 800 t) := T.int (T.fact 56 rfl)
theorem Tx.m_MOST_SEEDS (T : Tx K mg) : ∃ t, mg "MOST_SEEDS" = some (.int 30 t) := T.int (T.fact 57 rfl)
theorem Tx.m_MOST_VALUES (T : Tx K mg) : ∃ t, mg "MOST_VALUES" = some (.int 4 t) := T.int (T.fact 58 rfl)
theorem Tx.m_Band (T : Tx K mg) : mg "Band" = some (.ref (He.ga K "Band")) := T.glo (T.fact 59 rfl)
theorem Tx.c_Band (T : Tx K mg) : Cls K (He.ga K "Band") := He.cls_ok (T.fact 60 rfl)
theorem Tx.mk_Band (T : Tx K mg) : Mk K (He.ga K "Band") (He.fAd K ("Band", some "__init__")) := He.mkr_ok (T.fact 61 rfl)
theorem Tx.n_Band_cell_list (T : Tx K mg) : NoAttr K (He.ga K "Band") "cell_list" := He.noat_ok (T.fact 62 rfl)
theorem Tx.n_Band_seed_list (T : Tx K mg) : NoAttr K (He.ga K "Band") "seed_list" := He.noat_ok (T.fact 63 rfl)
theorem Tx.n_Band_row_list (T : Tx K mg) : NoAttr K (He.ga K "Band") "row_list" := He.noat_ok (T.fact 64 rfl)
theorem Tx.n_Band_known_rows (T : Tx K mg) : NoAttr K (He.ga K "Band") "known_rows" := He.noat_ok (T.fact 65 rfl)
theorem Tx.n_Band_lot_list (T : Tx K mg) : NoAttr K (He.ga K "Band") "lot_list" := He.noat_ok (T.fact 66 rfl)
theorem Tx.Band_seeds (T : Tx K mg) : Meth K (He.ga K "Band") "seeds" (He.fAd K ("Band", some "seeds")) := He.meth_ok (T.fact 67 rfl)
theorem Tx.Band_rows (T : Tx K mg) : Meth K (He.ga K "Band") "rows" (He.fAd K ("Band", some "rows")) := He.meth_ok (T.fact 68 rfl)
theorem Tx.Band_blank_row (T : Tx K mg) : Meth K (He.ga K "Band") "blank_row" (He.fAd K ("Band", some "blank_row")) := He.meth_ok (T.fact 69 rfl)
theorem Tx.Band_check_row (T : Tx K mg) : Meth K (He.ga K "Band") "check_row" (He.fAd K ("Band", some "check_row")) := He.meth_ok (T.fact 70 rfl)
theorem Tx.Band___contains__ (T : Tx K mg) : Meth K (He.ga K "Band") "__contains__" (He.fAd K ("Band", some "__contains__")) := He.meth_ok (T.fact 71 rfl)
theorem Tx.m_BandMap (T : Tx K mg) : mg "BandMap" = some (.ref (He.ga K "BandMap")) := T.glo (T.fact 72 rfl)
theorem Tx.c_BandMap (T : Tx K mg) : Cls K (He.ga K "BandMap") := He.cls_ok (T.fact 73 rfl)
theorem Tx.mk_BandMap (T : Tx K mg) : Mk K (He.ga K "BandMap") (He.fAd K ("BandMap", some "__init__")) := He.mkr_ok (T.fact 74 rfl)
theorem Tx.n_BandMap_band (T : Tx K mg) : NoAttr K (He.ga K "BandMap") "band" := He.noat_ok (T.fact 75 rfl)
theorem Tx.n_BandMap_other (T : Tx K mg) : NoAttr K (He.ga K "BandMap") "other" := He.noat_ok (T.fact 76 rfl)
theorem Tx.n_BandMap_seed_pictures (T : Tx K mg) : NoAttr K (He.ga K "BandMap") "seed_pictures" := He.noat_ok (T.fact 77 rfl)
theorem Tx.n_BandMap_row_pictures (T : Tx K mg) : NoAttr K (He.ga K "BandMap") "row_pictures" := He.noat_ok (T.fact 78 rfl)
theorem Tx.BandMap_pictures (T : Tx K mg) : Meth K (He.ga K "BandMap") "pictures" (He.fAd K ("BandMap", some "pictures")) := He.meth_ok (T.fact 79 rfl)
theorem Tx.BandMap_picture (T : Tx K mg) : Meth K (He.ga K "BandMap") "picture" (He.fAd K ("BandMap", some "picture")) := He.meth_ok (T.fact 80 rfl)
theorem Tx.BandMap___call__ (T : Tx K mg) : Meth K (He.ga K "BandMap") "__call__" (He.fAd K ("BandMap", some "__call__")) := He.meth_ok (T.fact 81 rfl)
theorem Tx.m_BadPictures (T : Tx K mg) : mg "BadPictures" = some (.ref (He.ga K "BadPictures")) := T.glo (T.fact 82 rfl)
theorem Tx.n_BadPictures_code (T : Tx K mg) : NoAttr K (He.ga K "BadPictures") "code" := He.noat_ok (T.fact 83 rfl)
theorem Tx.x_BadPictures (T : Tx K mg) : PySem.W.exmOne K (.ref (He.ga K "BadPictures")) (.ref (He.ga K "BadPictures")) = some true := He.exm_ok (T.fact 84 rfl)
theorem Tx.m_NotMap (T : Tx K mg) : mg "NotMap" = some (.ref (He.ga K "NotMap")) := T.glo (T.fact 85 rfl)
theorem Tx.n_NotMap_code (T : Tx K mg) : NoAttr K (He.ga K "NotMap") "code" := He.noat_ok (T.fact 86 rfl)
theorem Tx.n_NotMap_one (T : Tx K mg) : NoAttr K (He.ga K "NotMap") "one" := He.noat_ok (T.fact 87 rfl)
theorem Tx.n_NotMap_other (T : Tx K mg) : NoAttr K (He.ga K "NotMap") "other" := He.noat_ok (T.fact 88 rfl)
theorem Tx.x_NotMap (T : Tx K mg) : PySem.W.exmOne K (.ref (He.ga K "NotMap")) (.ref (He.ga K "NotMap")) = some true := He.exm_ok (T.fact 89 rfl)
theorem Tx.y_BadPictures_NotMap (T : Tx K mg) : PySem.W.exmOne K (.ref (He.ga K "BadPictures")) (.ref (He.ga K "NotMap")) = some false := He.exm_ok (T.fact 90 rfl)
theorem Tx.y_NotMap_BadPictures (T : Tx K mg) : PySem.W.exmOne K (.ref (He.ga K "NotMap")) (.ref (He.ga K "BadPictures")) = some false := He.exm_ok (T.fact 91 rfl)
end
end Nt
namespace Nt
open PySem PySem.Spec PyProof.Rows L2
/-! The head: the top's run, and what is looked at behind it. -/
def frL {α : Type} : List Addr → (List Addr → α) → α
  | [], k => k []
  | a :: r, k => HandSHeadRun.frNat a fun a => frL r fun r => k (a :: r)
theorem frL_eq {α : Type} : ∀ (l : List Addr) (k : List Addr → α), frL l k = k l
  | [], _ => rfl
  | a :: r, k => by
    show (HandSHeadRun.frNat a fun a => frL r fun r => k (a :: r)) = _
    rw [HandSHeadRun.frNat_eq, frL_eq r]
def gnN_0 : List Str := ["is_name", "is_number", "check_cells", "is_row", "over", "lot_of", "blank", "lot_size", "ordered_lots", "check_seeds", "grown_rows", "_law_start", "_law_pull", "_law_pick", "_law_same", "_law_some_of", "_law_turned", "_law_odd", "_law_over", "_law_closure", "_law_names", "_law_clean", "_law_seeds", "_law_band", "check_pictures", "map_break", "walked", "way_to", "_law_laid", "_law_bad_row"]
def gnN_1 : List Str := ["_law_copied", "_law_map_rows", "_law_map", "_law_told", "_law_are_pictures", "_law_bent", "_law_pair_good", "_law_asked", "law", "Band", "BandMap", "BadPictures", "NotMap", "TellsError"]
def gnN : List Str := gnN_0 ++ gnN_1
def refsAt (g : Addr → Option Obj) (a : Addr) : List Addr := match g a with
  | some o => He.refsD o
  | none => []
def msN : List (Str × Str) := [("Band", "__init__"), ("Band", "seeds"), ("Band", "rows"), ("BadPictures", "__init__"), ("NotMap", "__init__"), ("Band", "blank_row"), ("Band", "check_row"), ("Band", "__contains__"), ("BandMap", "__init__"), ("BandMap", "pictures"), ("BandMap", "picture"), ("BandMap", "__call__")]
/-- the addresses that the facts look at -/
def asY {α : Type} (g : Addr → Option Obj) (k : List Addr → α) : α :=
  frL (gnN.map (He.ga (He.frG g [mainGlobals]))) fun A1 => frL (A1.flatMap (refsAt g)) fun A2 =>
    frL (msN.map fun p => He.ma (He.frG g (mainGlobals :: (A1 ++ A2))) (He.ga (He.frG g [mainGlobals]) p.1) p.2) fun A3 => frL (A3.flatMap (refsAt g)) fun A4 =>
      k (mainGlobals :: (A1 ++ (A2 ++ (A3 ++ A4))))
theorem asY_eq (g : Addr → Option Obj) : ∃ l, ∀ {α : Type} (k : List Addr → α), asY g k = k l := ⟨_, fun k => by
  unfold asY
  rw [frL_eq, frL_eq, frL_eq, frL_eq]⟩
def obsYG (g : Addr → Option Obj) : AlX := asY g fun as => obsX (He.frG g as)
def hookY : PySem.W.Hook where
  α := AlX
  obs := fun s => obsYG s.heap.get?
  val := fun _ => valX
  says := fun _ h => ∃ K : PySem.W.Frag, K.In h ∧ SaysX K
  of := fun _ s e => by
    obtain ⟨l, hl⟩ := asY_eq s.heap.get?
    refine ⟨_, He.frG_in (as := l), ?_⟩
    have e' : asY s.heap.get? (fun as => obsX (He.frG s.heap.get? as)) = valX := e
    rw [hl] at e'
    exact e'
  keeps := fun _ _ _ ⟨K, hK, c⟩ k => ⟨K, PySem.W.Frag.In.keeps hK k, c⟩
theorem obsYG_eq {g : Addr → Option Obj} {s : Shared} (h : ∀ a, g a = s.heap.get? a) : obsYG g = hookY.obs s := by
  have e : g = s.heap.get? := funext h
  rw [e]
  rfl
abbrev R : PySem.W.OpenRow := PySem.W.OpenLaw.row PySem.Challenge.rw_newesttells_k93_whole_maps
def ob (s : PySem.W.SharedT) : AlX := obsYG (HandSHeadRun.getT s)
theorem ob_eq (s : PySem.W.SharedT) : ob s = hookY.obs s.abs := obsYG_eq (HandSHeadRun.getT_eq s)
def loose_0 : List PySem.Str := ["_wall", "__name__", "TellsError", "BadCells", "BadSeed", "BadRow", "BadNumber", "TooMany", "Untold", "BadPictures", "NotMap", "InvalidText", "Missing", "NotInBand", "LETTERS", "is_name", "is_number", "MOST_ROWS", "MOST_SEEDS", "MOST_CELLS", "MOST_VALUES", "check_cells", "is_row", "over", "lot_of", "blank", "union", "lot_size", "ordered_lots", "check_pictures"]
def loose_1 : List PySem.Str := ["map_break", "walked", "way_to", "BandMap", "COUNTS", "cell_of", "seed_of", "leading_cells", "leading_seeds", "new_places", "can_take", "first_to_take", "taking", "bar_lines", "come", "come_coming", "check_seeds", "grown_rows", "Band", "_law_start", "_law_pull", "_law_pick", "_law_same", "_law_some_of", "_law_turned", "_law_odd", "_law_over", "_law_laid", "_law_closure", "_law_names"]
def loose_2 : List PySem.Str := ["_law_clean", "_law_seeds", "_law_band", "_law_bad_row", "_law_copied", "_law_map_rows", "_law_map", "_law_told", "_law_are_pictures", "_law_bent", "_law_pair_good", "_law_asked"]
def loose : List PySem.Str := loose_0 ++ loose_1 ++ loose_2
theorem run (w : World) : HandSHeadRun.RunEq R (PySem.W.view R.prog [79]) hookY ob 12000 loose w := by
  intro os
  kernel_rfl
end Nt
/-! The part of the heap that is laid down for good (M) beside the whole heap (H); data that stand in M; the steps that a body takes. -/
namespace Nt
open PySem PySem.Spec PyProof.Rows L2
/-! ### steps -/
/-- from (M, H) to (M', H'): M grows by new objects alone, H keeps all but what ex names -/
structure Stp (ex : Addr → Prop) (M H M' H' : Hp) : Prop where
  mm : Same M M'
  mh : Same M' H'
  hh : ∀ a o, ¬ ex a → H a = some o → H' a = some o
  fr : ∀ a, M a = none → H a ≠ none → M' a = none
  th : ∀ a, H a ≠ none → H' a ≠ none
abbrev no : Addr → Prop := fun _ => False
theorem Stp.refl {ex : Addr → Prop} {M H : Hp} (s : Same M H) : Stp ex M H M H := ⟨Same.refl M, s, fun _ _ _ e => e, fun _ e _ => e, fun _ e => e⟩
theorem Stp.trans {ex : Addr → Prop} {M H M1 H1 M2 H2 : Hp} (a : Stp ex M H M1 H1) (b : Stp ex M1 H1 M2 H2) : Stp ex M H M2 H2 :=
  ⟨a.mm.trans b.mm, b.mh, fun x o n e => b.hh x o n (a.hh x o n e), fun x e n => b.fr x (a.fr x e n) (a.th x n), fun x n => b.th x (a.th x n)⟩
theorem Stp.wide {ex ex' : Addr → Prop} {M H M' H' : Hp} (a : Stp ex M H M' H') (h : ∀ x, ex x → ex' x) : Stp ex' M H M' H' := ⟨a.mm, a.mh, fun x o n e => a.hh x o (fun z => n (h x z)) e, a.fr, a.th⟩
theorem Stp.of {ex : Addr → Prop} {M H M' H' : Hp} (a : Stp no M H M' H') : Stp ex M H M' H' := a.wide fun _ z => z.elim
theorem none_of_same {M H : Hp} {p : Addr} (s : Same M H) (h : H p = none) : M p = none := by
  cases e : M p with
  | none => rfl
  | some o => rw [s p o e] at h; cases h
theorem Stp.hfree {ex : Addr → Prop} {M H M' H' : Hp} (a : Stp ex M H M' H') {p : Addr} (h : H' p = none) : H p = none := by
  cases e : H p with
  | none => rfl
  | some o => exact absurd h (a.th p (by rw [e]; exact Option.some_ne_none o))
theorem Stp.mfree {ex : Addr → Prop} {M H M' H' : Hp} (a : Stp ex M H M' H') {p : Addr} (h : H' p = none) : M' p = none := none_of_same a.mh h
theorem Stp.same {M H M' H' : Hp} (a : Stp no M H M' H') : Same H H' := fun x o e => a.hh x o (fun z => z) e
/-- a new object, laid down for good -/
theorem Stp.lay {ex : Addr → Prop} {M0 H0 M H : Hp} (S : Stp ex M0 H0 M H) {p : Addr} (o : HO) (hp : H p = none) : Stp ex M0 H0 (upd M p o) (upd H p o) := by
  have mp := S.mfree hp
  refine ⟨fun a u e => ?_, fun a u e => ?_, fun a u n e => ?_, fun a e n => ?_, fun a n => ?_⟩
  · rw [upd_ne (ne_of_none (S.mm a u e) mp)]; exact S.mm a u e
  · by_cases q : a = p
    · subst q; rw [upd_same] at e ⊢; exact e
    · rw [upd_ne q] at e ⊢; exact S.mh a u e
  · rw [upd_ne (ne_of_none (S.hh a u n e) hp)]; exact S.hh a u n e
  · have q : a ≠ p := fun z => absurd (S.hfree hp) (by rw [← z]; exact n)
    rw [upd_ne q]; exact S.fr a e n
  · by_cases q : a = p
    · subst q; rw [upd_same]; exact Option.some_ne_none o
    · rw [upd_ne q]; exact S.th a n
/-- a new object that will still change -/
theorem Stp.new {ex : Addr → Prop} {M0 H0 M H : Hp} (S : Stp ex M0 H0 M H) {p : Addr} (o : HO) (hp : H p = none) : Stp ex M0 H0 M (upd H p o) := by
  have mp := S.mfree hp
  refine ⟨S.mm, fun a u e => ?_, fun a u n e => ?_, S.fr, fun a n => ?_⟩
  · rw [upd_ne (ne_of_none e mp)]; exact S.mh a u e
  · rw [upd_ne (ne_of_none (S.hh a u n e) hp)]; exact S.hh a u n e
  · by_cases q : a = p
    · subst q; rw [upd_same]; exact Option.some_ne_none o
    · rw [upd_ne q]; exact S.th a n
/-- an object of one's own (or one that may change) changes -/
theorem Stp.put {ex : Addr → Prop} {M0 H0 M H : Hp} (S : Stp ex M0 H0 M H) {p : Addr} (o : HO) (mp : M p = none) (hp : H0 p = none ∨ ex p) : Stp ex M0 H0 M (upd H p o) := by
  refine ⟨S.mm, fun a u e => ?_, fun a u n e => ?_, S.fr, fun a n => ?_⟩
  · rw [upd_ne (ne_of_none e mp)]; exact S.mh a u e
  · have q : a ≠ p := fun z => by
      subst z
      rcases hp with w | w
      · rw [w] at e; cases e
      · exact n w
    rw [upd_ne q]; exact S.hh a u n e
  · by_cases q : a = p
    · subst q; rw [upd_same]; exact Option.some_ne_none o
    · rw [upd_ne q]; exact S.th a n
/-- an object of one's own is laid down for good -/
theorem Stp.fix {ex : Addr → Prop} {M0 H0 M H : Hp} (S : Stp ex M0 H0 M H) {p : Addr} {o : HO} (e : H p = some o) (h0 : H0 p = none) : Stp ex M0 H0 (upd M p o) H := by
  refine ⟨fun a u q => ?_, fun a u q => ?_, S.hh, fun a q n => ?_, S.th⟩
  · by_cases z : a = p
    · subst z
      have w := S.mh a u (S.mm a u q)
      rw [e] at w
      rw [upd_same, Option.some.inj w]
    · rw [upd_ne z]; exact S.mm a u q
  · by_cases z : a = p
    · subst z; rw [upd_same] at q; rw [e]; exact q
    · rw [upd_ne z] at q; exact S.mh a u q
  · have z : a ≠ p := fun z => n (by rw [z]; exact h0)
    rw [upd_ne z]; exact S.fr a q n
/-- what one's own object is apart from, and what still may change is not in M -/
theorem Stp.own {ex : Addr → Prop} {M0 H0 M H M1 H1 : Hp} (_ : Stp ex M0 H0 M H) (b : Stp ex M H M1 H1) {p : Addr} (mp : M p = none) {o : HO} (hp : H p = some o) : M1 p = none :=
  b.fr p mp (by rw [hp]; exact Option.some_ne_none o)
/-! ### data -/
/-- data by value; dct: a dict, whatever it holds -/
inductive Dat where
  | non | bl (b : Bool) | int (i : Int) | str (x : Str) | lst (ds : List Dat) | tup (ds : List Dat) | dct
mutual
def Is (M : Hp) : Dat → V → Prop
  | .non, v => v = .non
  | .bl b, v => v = .bl b
  | .int i, v => v = .int i
  | .str x, v => v = .str x
  | .lst ds, v => ∃ a vs, v = .ref a ∧ M a = some (.lst vs) ∧ IsA M ds vs
  | .tup ds, v => ∃ a vs, v = .ref a ∧ M a = some (.tup vs) ∧ IsA M ds vs
  | .dct, v => ∃ a, v = .ref a ∧ ((∃ kvs, M a = some (.dK kvs)) ∨ ∃ kvs, M a = some (.dT kvs))
def IsA (M : Hp) : List Dat → List V → Prop
  | [], vs => vs = []
  | d :: ds, vs => ∃ v r, vs = v :: r ∧ Is M d v ∧ IsA M ds r
end
mutual
theorem Is.mono {M M' : Hp} (s : Same M M') : ∀ (d : Dat) {v : V}, Is M d v → Is M' d v
  | .non, _, h => h
  | .bl _, _, h => h
  | .int _, _, h => h
  | .str _, _, h => h
  | .lst ds, _, h => by
    obtain ⟨a, vs, e, q, r⟩ := h
    exact ⟨a, vs, e, s _ _ q, IsA.mono s ds r⟩
  | .tup ds, _, h => by
    obtain ⟨a, vs, e, q, r⟩ := h
    exact ⟨a, vs, e, s _ _ q, IsA.mono s ds r⟩
  | .dct, _, h => by
    obtain ⟨a, e, q⟩ := h
    exact ⟨a, e, q.elim (fun ⟨kvs, q⟩ => .inl ⟨kvs, s _ _ q⟩) fun ⟨kvs, q⟩ => .inr ⟨kvs, s _ _ q⟩⟩
theorem IsA.mono {M M' : Hp} (s : Same M M') : ∀ (ds : List Dat) {vs : List V}, IsA M ds vs → IsA M' ds vs
  | [], _, h => h
  | d :: ds, _, h => by
    obtain ⟨v, r, e, q, t⟩ := h
    exact ⟨v, r, e, Is.mono s d q, IsA.mono s ds t⟩
end
theorem IsA.len {M : Hp} : ∀ {ds : List Dat} {vs : List V}, IsA M ds vs → vs.length = ds.length
  | [], _, h => by rw [show _ = [] from h]; rfl
  | d :: ds, _, h => by
    obtain ⟨v, r, e, _, t⟩ := h
    rw [e, List.length_cons, List.length_cons, IsA.len t]
theorem IsA.get {M : Hp} : ∀ {ds : List Dat} {vs : List V} {i : Nat} {v : V}, IsA M ds vs → vs[i]? = some v → ∃ d, ds[i]? = some d ∧ Is M d v
  | [], vs, i, v, h, e => by rw [show vs = [] from h] at e; simp at e
  | d :: ds, vs, 0, v, h, e => by
    obtain ⟨w, r, q, z, _⟩ := h
    rw [q] at e
    have e' : w = v := by simpa using e
    exact ⟨d, rfl, by rw [← e']; exact z⟩
  | d :: ds, vs, i + 1, v, h, e => by
    obtain ⟨w, r, q, _, t⟩ := h
    rw [q] at e
    obtain ⟨d', a, b⟩ := IsA.get (i := i) (v := v) t (by simpa using e)
    exact ⟨d', by simpa using a, b⟩
theorem IsA.at {M : Hp} {ds : List Dat} {vs : List V} {i : Nat} {d : Dat} (h : IsA M ds vs) (e : ds[i]? = some d) : ∃ v, vs[i]? = some v ∧ Is M d v := by
  have hl := (List.getElem?_eq_some_iff.mp e).1
  rw [← h.len] at hl
  obtain ⟨d', a, b⟩ := h.get (List.getElem?_eq_getElem hl)
  rw [e] at a
  cases a
  exact ⟨_, List.getElem?_eq_getElem hl, b⟩
theorem IsA.snoc {M : Hp} {d : Dat} {v : V} (q : Is M d v) : ∀ {ds : List Dat} {vs : List V}, IsA M ds vs → IsA M (ds ++ [d]) (vs ++ [v])
  | [], vs, h => by rw [show vs = [] from h]; exact ⟨v, [], rfl, q, rfl⟩
  | e :: ds, vs, h => by
    obtain ⟨w, r, z, a, t⟩ := h
    rw [z]
    exact ⟨w, r ++ [v], rfl, a, IsA.snoc q t⟩
theorem IsA.app {M : Hp} {es : List Dat} {ws : List V} (q : IsA M es ws) : ∀ {ds : List Dat} {vs : List V}, IsA M ds vs → IsA M (ds ++ es) (vs ++ ws)
  | [], vs, h => by rw [show vs = [] from h]; exact q
  | e :: ds, vs, h => by
    obtain ⟨w, r, z, a, t⟩ := h
    rw [z]
    exact ⟨w, r ++ ws, rfl, a, IsA.app q t⟩
theorem IsA.take {M : Hp} : ∀ (n : Nat) {ds : List Dat} {vs : List V}, IsA M ds vs → IsA M (ds.take n) (vs.take n)
  | 0, _, _, _ => rfl
  | n + 1, [], vs, h => by rw [show vs = [] from h]; rfl
  | n + 1, e :: ds, vs, h => by
    obtain ⟨w, r, z, a, t⟩ := h
    rw [z]
    exact ⟨w, r.take n, rfl, a, IsA.take n t⟩
theorem IsA.drop {M : Hp} : ∀ (n : Nat) {ds : List Dat} {vs : List V}, IsA M ds vs → IsA M (ds.drop n) (vs.drop n)
  | 0, _, _, h => h
  | n + 1, [], vs, h => by rw [show vs = [] from h]; rfl
  | n + 1, e :: ds, vs, h => by
    obtain ⟨w, r, z, a, t⟩ := h
    rw [z]
    exact IsA.drop n t
theorem IsA.erase {M : Hp} : ∀ (n : Nat) {ds : List Dat} {vs : List V}, IsA M ds vs → IsA M (ds.eraseIdx n) (vs.eraseIdx n)
  | _, [], vs, h => by rw [show vs = [] from h]; rfl
  | 0, e :: ds, vs, h => by
    obtain ⟨w, r, z, a, t⟩ := h
    rw [z]
    exact t
  | n + 1, e :: ds, vs, h => by
    obtain ⟨w, r, z, a, t⟩ := h
    rw [z]
    exact ⟨w, r.eraseIdx n, rfl, a, IsA.erase n t⟩
/-- lists of texts, of ints, of bools -/
theorem IsA.strs {M : Hp} : ∀ {xs : List Str} {vs : List V}, IsA M (xs.map Dat.str) vs ↔ vs = xs.map V.str
  | [], vs => Iff.rfl
  | x :: xs, vs => by
    constructor
    · rintro ⟨v, r, e, q, t⟩
      rw [e, show v = .str x from q, IsA.strs.mp t]
      rfl
    · intro e
      exact ⟨.str x, xs.map V.str, e, rfl, IsA.strs.mpr rfl⟩
theorem IsA.ints {M : Hp} : ∀ {xs : List Int} {vs : List V}, IsA M (xs.map Dat.int) vs ↔ vs = xs.map V.int
  | [], vs => Iff.rfl
  | x :: xs, vs => by
    constructor
    · rintro ⟨v, r, e, q, t⟩
      rw [e, show v = .int x from q, IsA.ints.mp t]
      rfl
    · intro e
      exact ⟨.int x, xs.map V.int, e, rfl, IsA.ints.mpr rfl⟩
theorem IsA.bls {M : Hp} : ∀ {xs : List Bool} {vs : List V}, IsA M (xs.map Dat.bl) vs ↔ vs = xs.map V.bl
  | [], vs => Iff.rfl
  | x :: xs, vs => by
    constructor
    · rintro ⟨v, r, e, q, t⟩
      rw [e, show v = .bl x from q, IsA.bls.mp t]
      rfl
    · intro e
      exact ⟨.bl x, xs.map V.bl, e, rfl, IsA.bls.mpr rfl⟩
/-- a list of texts -/
abbrev dS (xs : List Str) : Dat := .lst (xs.map Dat.str)
theorem Is.strs {M : Hp} {xs : List Str} {v : V} (h : Is M (dS xs) v) : ∃ a, v = .ref a ∧ M a = some (.lst (xs.map V.str)) := by
  obtain ⟨a, vs, e, q, t⟩ := h
  exact ⟨a, e, by rw [q, IsA.strs.mp t]⟩
theorem Is.of_strs {M : Hp} {xs : List Str} {a : Addr} (h : M a = some (.lst (xs.map V.str))) : Is M (dS xs) (.ref a) := ⟨a, _, rfl, h, IsA.strs.mpr rfl⟩
/-! ### what a def hands back -/
/-- a value d, nothing else changed -/
abbrev Ret (M H : Hp) (Q : VK) (d : Dat) : Prop := ∀ v M' H', Stp no M H M' H' → Is M' d v → Q v H'
theorem Ret.mono {ex : Addr → Prop} {M0 H0 M H : Hp} {Q : VK} {d : Dat} (k : ∀ v M' H', Stp ex M0 H0 M' H' → Is M' d v → Q v H') (S : Stp ex M0 H0 M H) : Ret M H Q d :=
  fun v M' H' S' h => k v M' H' (S.trans S'.of) h
/-! ### texts as lists of signs -/
abbrev ch (c : Nat) : Str := ⟨#[c]⟩
theorem str_ext {x y : Str} (h : x.cps.toList = y.cps.toList) : x = y := by
  cases x; cases y
  simp only [Str.mk.injEq]
  exact Array.toList_inj.mp h
end Nt
namespace Nt
open PySem PySem.Spec PyProof.Rows L2
/-- zip of two texts: fresh pairs of signs -/
def ItZss (x y : Str) : It :=
  ⟨fun i _ => i < min x.cps.size y.cps.size,
   fun i H v H' => ∃ T c d, v = .ref T ∧ H T = none ∧ H' = upd H T (.tup [.str ⟨#[c]⟩, .str ⟨#[d]⟩]) ∧ x.cps[i]? = some c ∧ y.cps[i]? = some d,
   fun i _ => i = min x.cps.size y.cps.size⟩
/-- zip of a text and a list -/
def ItZsl (K : PySem.W.Frag) (x : Str) (b : Addr) : It :=
  ⟨fun i H => ∃ ys : List V, SqL K H b ys ∧ i < min x.cps.size ys.length,
   fun i H v H' => ∃ T c w, v = .ref T ∧ H T = none ∧ H' = upd H T (.tup [.str ⟨#[c]⟩, w]) ∧ x.cps[i]? = some c ∧ ∀ ys, SqL K H b ys → ys[i]? = some w,
   fun i H => ∃ ys : List V, SqL K H b ys ∧ i = min x.cps.size ys.length⟩
theorem five_new {h : Heap} {z TI TO i1 i2 T : Addr} (a1 : z < h.objs.size) (a2 : TI < h.objs.size) (a3 : TO < h.objs.size) (a4 : i1 < h.objs.size) (a5 : i2 < h.objs.size) (hT : h.objs.size ≤ T) : ∀ c ∈ [z, TI, TO, i1, i2], c ≠ T := fun c hc e => by
  have q : c = z ∨ c = TI ∨ c = TO ∨ c = i1 ∨ c = i2 := by simpa using hc
  have lt : c < h.objs.size := by rcases q with q | q | q | q | q <;> rw [q] <;> assumption
  exact absurd (Nat.lt_of_lt_of_le lt hT) (by rw [e]; exact Nat.lt_irrefl _)
theorem turn_zss {P : Program} {w : World} {K : PySem.W.Frag} {elts : List Expr} {kk : Nat} {tpos : Pos} {x y : Str} {t u : Tok} {z TI TO i1 i2 : Addr} (S : ZipSep2 z TI TO i1 i2 [i1] [i2]) :
    Turn P w K (.Tuple elts kk tpos) (ItZss x y) [z, TI, TO, i1, i2] z
      (fun i h => IsZip h z TI TO .none ∧ IsTupOf2 h TI (.ref i1) (.ref i2) ∧ (∃ a1 a2, IsTupOf2 h TO a1 a2) ∧ h.IsStrIter i1 (strIterType x) x t i ∧ h.IsStrIter i2 (strIterType y) y u i) where
  mem := by simp
  obj := fun i h st c hc => by
    obtain ⟨hz, hTI, ⟨_, _, hTO⟩, ⟨o1, e1, _, d1⟩, ⟨o2, e2, _, d2⟩⟩ := st
    have q : c = z ∨ c = TI ∨ c = TO ∨ c = i1 ∨ c = i2 := by simpa using hc
    rcases q with q | q | q | q | q
    · rw [q]; exact ⟨_, hz, fun v q => nomatch q⟩
    · rw [q]; exact ⟨_, hTI, fun v q => nomatch q⟩
    · rw [q]; exact ⟨_, hTO, fun v q => nomatch q⟩
    · rw [q]; exact ⟨o1, e1, fun v q => by rw [d1] at q; cases q⟩
    · rw [q]; exact ⟨o2, e2, fun v q => by rw [d2] at q; cases q⟩
  keep := fun i h h' st k => by
    obtain ⟨hz, hTI, ⟨a1, a2, hTO⟩, ⟨o1, e1, r1⟩, ⟨o2, e2, r2⟩⟩ := st
    exact ⟨k z (by simp) _ hz, k TI (by simp) _ hTI, ⟨a1, a2, k TO (by simp) _ hTO⟩, ⟨o1, k i1 (by simp) _ e1, r1⟩, ⟨o2, k i2 (by simp) _ e2, r2⟩⟩
  item := by
    intro X hP hw hK hc i pins s σ H E I hf st hg
    subst hP hw hK
    have hh : X.A.in1.handled = none := I.ok.hd hc
    have G := GoesN.zip2 (elts := elts) (x1 := kk) (pos := tpos) S (Draws.text (prog := X.prog) (w := X.w) (A := X.A.in1) hh i1 x t) (Draws.text (prog := X.prog) (w := X.w) (A := X.A.in1) hh i2 y u)
    obtain ⟨hz0, hTI0, ⟨_, _, hTO0⟩, ⟨_, e10, _⟩, ⟨_, e20, _⟩⟩ := id st
    have away := fun T => five_new (T := T) (Heap.lt_size hz0) (Heap.lt_size hTI0) (Heap.lt_size hTO0) (Heap.lt_size e10) (Heap.lt_size e20)
    refine thn (G.goes i s (fun v s2 => ∃ xx H', Inv X pins σ H' s2 ∧ RelV xx v ∧ (ItZss x y).yld i H xx H' ∧ (IsZip s2.heap z TI TO .none ∧ IsTupOf2 s2.heap TI (.ref i1) (.ref i2) ∧ (∃ a1 a2, IsTupOf2 s2.heap TO a1 a2) ∧ s2.heap.IsStrIter i1 (strIterType x) x t (i + 1) ∧ s2.heap.IsStrIter i2 (strIterType y) y u (i + 1)) ∧ ∀ b ∈ [z, TI, TO, i1, i2], H' b = none) E hg st
      fun v h' tk ⟨T, a, b, ev, hnew, ⟨c, ta, hc1, ea⟩, ⟨d, tb, hd1, eb⟩, hT⟩ st' kk' _ => ?_) fun r s1 ⟨v, e1, e2⟩ => ⟨v, e1, e2⟩
    subst ev ea eb
    have new : ObjOk X.prog X.w (upd H T (.tup [.str ⟨#[c]⟩, .str ⟨#[d]⟩])) h' T (.tup [.str ⟨#[c]⟩, .str ⟨#[d]⟩]) :=
      ⟨by show 2 ≤ sizeLine; decide, [.str ⟨#[c]⟩ ta, .str ⟨#[d]⟩ tb], .cons ⟨_, rfl⟩ (.cons ⟨_, rfl⟩ .nil), hT⟩
    have I1 : Inv X pins σ (upd H T (.tup [.str ⟨#[c]⟩, .str ⟨#[d]⟩])) { s with heap := h', toks := tk } :=
      I.turnedNew (ch := [z, TI, TO, i1, i2]) (fun b o hb q => kk' b o (fun q' => hb (by revert q'; simp only [List.mem_cons, List.not_mem_nil, or_false]; rintro (r | r | r | r) <;> simp [r])) q) hf hnew new
    exact ⟨.ref T, _, I1, rfl, ⟨T, c, d, rfl, I.hok.fresh hnew, rfl, hc1, hd1⟩, st', fun b hb => by rw [upd_ne (away T hnew b hb)]; exact (hf b hb).1⟩
  done := by
    intro X hP hw hK hc i pins s σ H E I hf st hg
    subst hP hw hK
    have hh : X.A.in1.handled = none := I.ok.hd hc
    have hg' : i = min x.cps.size y.cps.size := hg
    subst hg'
    have G := GoesN.zip2 (elts := elts) (x1 := kk) (pos := tpos) S (Draws.text (prog := X.prog) (w := X.w) (A := X.A.in1) hh i1 x t) (Draws.text (prog := X.prog) (w := X.w) (A := X.A.in1) hh i2 y u)
    exact G.stops s (fun s1 => Inv X pins σ H s1) E st fun h' tk kk' _ =>
      I.turnedL (ch := [z, TI, TO, i1, i2]) (fun b o hb q => kk' b o (fun q' => hb (by revert q'; simp only [List.mem_cons, List.not_mem_nil, or_false]; rintro (r | r | r | r) <;> simp [r])) q) hf
  self := fun A i s Q E st h => wpAny_pyIter_zip st.1 h
/-- an object's being a list says that it is not one of the iterator's own -/
theorem turn_zsl {P : Program} {w : World} {K : PySem.W.Frag} {elts : List Expr} {kk : Nat} {tpos : Pos} {x : Str} {t : Tok} {b : Addr} {z TI TO i1 i2 : Addr} (S : ZipSep2 z TI TO i1 i2 [i1] [i2, b]) :
    Turn P w K (.Tuple elts kk tpos) (ItZsl K x b) [z, TI, TO, i1, i2] z
      (fun i h => IsZip h z TI TO .none ∧ IsTupOf2 h TI (.ref i1) (.ref i2) ∧ (∃ a1 a2, IsTupOf2 h TO a1 a2) ∧ h.IsStrIter i1 (strIterType x) x t i ∧ h.IsListIter i2 b i) where
  mem := by simp
  obj := fun i h st c hc => by
    obtain ⟨hz, hTI, ⟨_, _, hTO⟩, ⟨o1, e1, _, d1⟩, ⟨o2, e2, _, d2⟩⟩ := st
    have q : c = z ∨ c = TI ∨ c = TO ∨ c = i1 ∨ c = i2 := by simpa using hc
    rcases q with q | q | q | q | q
    · rw [q]; exact ⟨_, hz, fun v q => nomatch q⟩
    · rw [q]; exact ⟨_, hTI, fun v q => nomatch q⟩
    · rw [q]; exact ⟨_, hTO, fun v q => nomatch q⟩
    · rw [q]; exact ⟨o1, e1, fun v q => by rw [d1] at q; cases q⟩
    · rw [q]; exact ⟨o2, e2, fun v q => by rw [d2] at q; cases q⟩
  keep := fun i h h' st k => by
    obtain ⟨hz, hTI, ⟨a1, a2, hTO⟩, ⟨o1, e1, r1⟩, h2⟩ := st
    exact ⟨k z (by simp) _ hz, k TI (by simp) _ hTI, ⟨a1, a2, k TO (by simp) _ hTO⟩, ⟨o1, k i1 (by simp) _ e1, r1⟩, h2.at fun o q => k i2 (by simp) o q⟩
  item := by
    intro X hP hw hK hc i pins s σ H E I hf st hg
    subst hP hw hK
    have hh : X.A.in1.handled = none := I.ok.hd hc
    obtain ⟨ys, hys, hlt⟩ := hg
    obtain ⟨its, rv, p, _⟩ := I.list hys
    have elen : ys.length = its.length := rv.length
    have hb2 : b ≠ i2 := fun e => by
      obtain ⟨_, _, _, _, ⟨o2, e2, c2, _⟩⟩ := st
      obtain ⟨ol, el, cl, _⟩ := p.isList
      rw [← e, el] at e2
      cases e2
      rw [cl] at c2
      injection c2 with c3
      exact absurd c3 (by decide)
    have G := GoesN.zip2 (elts := elts) (x1 := kk) (pos := tpos) S (Draws.text (prog := X.prog) (w := X.w) (A := X.A.in1) hh i1 x t) (Draws.list (prog := X.prog) (w := X.w) (A := X.A.in1) hh i2 b hb2 its.toArray)
    obtain ⟨hz0, hTI0, ⟨_, _, hTO0⟩, ⟨_, e10, _⟩, ⟨_, e20, _⟩⟩ := id st
    have away := fun T => five_new (T := T) (Heap.lt_size hz0) (Heap.lt_size hTI0) (Heap.lt_size hTO0) (Heap.lt_size e10) (Heap.lt_size e20)
    have hlt' : i < min x.cps.size its.toArray.size := by
      have q : its.toArray.size = ys.length := by simp [elen]
      rw [q]
      exact hlt
    refine thn (G.goes i s (fun v s2 => ∃ xx H', Inv X pins σ H' s2 ∧ RelV xx v ∧ (ItZsl X.K x b).yld i H xx H' ∧ (IsZip s2.heap z TI TO .none ∧ IsTupOf2 s2.heap TI (.ref i1) (.ref i2) ∧ (∃ a1 a2, IsTupOf2 s2.heap TO a1 a2) ∧ s2.heap.IsStrIter i1 (strIterType x) x t (i + 1) ∧ s2.heap.IsListIter i2 b (i + 1)) ∧ ∀ b ∈ [z, TI, TO, i1, i2], H' b = none) E hlt'
      ⟨st.1, st.2.1, st.2.2.1, st.2.2.2.1, st.2.2.2.2, p.isList⟩
      fun v h' tk ⟨T, a, d, ev, hnew, ⟨c, ta, hc1, ea⟩, hd1, hT⟩ st' kk' _ => ?_) fun r s1 ⟨v, e1, e2⟩ => ⟨v, e1, e2⟩
    subst ev ea
    have hil : i < ys.length := Nat.lt_of_lt_of_le hlt (Nat.min_le_right _ _)
    obtain ⟨dv, hdv, rd⟩ := rv.get (List.getElem?_eq_getElem hil)
    have ed : dv = d := by
      have q : its[i]? = some d := by simpa using hd1
      rw [hdv] at q
      exact Option.some.inj q
    subst ed
    have new : ObjOk X.prog X.w (upd H T (.tup [.str ⟨#[c]⟩, ys[i]])) h' T (.tup [.str ⟨#[c]⟩, ys[i]]) :=
      ⟨by show 2 ≤ sizeLine; decide, [.str ⟨#[c]⟩ ta, dv], .cons ⟨_, rfl⟩ (.cons rd .nil), hT⟩
    have I1 : Inv X pins σ (upd H T (.tup [.str ⟨#[c]⟩, ys[i]])) { s with heap := h', toks := tk } :=
      I.turnedNew (ch := [z, TI, TO, i1, i2]) (fun b o hb q => kk' b o (fun q' => hb (by revert q'; simp only [List.mem_cons, List.not_mem_nil, or_false]; rintro (r | r | r | r) <;> simp [r])) q) hf hnew new
    exact ⟨.ref T, _, I1, rfl, ⟨T, c, _, rfl, I.hok.fresh hnew, rfl, hc1, fun l hl => by rw [I.list_inj hl hys]; exact List.getElem?_eq_getElem hil⟩, ⟨st'.1, st'.2.1, st'.2.2.1, st'.2.2.2.1, st'.2.2.2.2.1⟩, fun b hb => by rw [upd_ne (away T hnew b hb)]; exact (hf b hb).1⟩
  done := by
    intro X hP hw hK hc i pins s σ H E I hf st hg
    subst hP hw hK
    have hh : X.A.in1.handled = none := I.ok.hd hc
    obtain ⟨ys, hys, he⟩ := hg
    obtain ⟨its, rv, p, _⟩ := I.list hys
    have elen : ys.length = its.length := rv.length
    have hb2 : b ≠ i2 := fun e => by
      obtain ⟨_, _, _, _, ⟨o2, e2, c2, _⟩⟩ := st
      obtain ⟨ol, el, cl, _⟩ := p.isList
      rw [← e, el] at e2
      cases e2
      rw [cl] at c2
      injection c2 with c3
      exact absurd c3 (by decide)
    have G := GoesN.zip2 (elts := elts) (x1 := kk) (pos := tpos) S (Draws.text (prog := X.prog) (w := X.w) (A := X.A.in1) hh i1 x t) (Draws.list (prog := X.prog) (w := X.w) (A := X.A.in1) hh i2 b hb2 its.toArray)
    have hi : i = min x.cps.size its.toArray.size := by
      have q : its.toArray.size = ys.length := by simp [elen]
      rw [q]
      exact he
    subst hi
    exact G.stops s (fun s1 => Inv X pins σ H s1) E ⟨st.1, st.2.1, st.2.2.1, st.2.2.2.1, st.2.2.2.2, p.isList⟩ fun h' tk kk' _ =>
      I.turnedL (ch := [z, TI, TO, i1, i2]) (fun b o hb q => kk' b o (fun q' => hb (by revert q'; simp only [List.mem_cons, List.not_mem_nil, or_false]; rintro (r | r | r | r) <;> simp [r])) q) hf
  self := fun A i s Q E st h => wpAny_pyIter_zip st.1 h
/-- zip(a, b): two texts, a text and a list -/
def iZs (K : PySem.W.Frag) (ta : TA) : TI := fun σ H R => ta σ H fun vs H1 =>
  (∃ x y, vs = [.str x, .str y] ∧ R (ItZss x y) H1) ∨ (∃ x b, vs = [.str x, .ref b] ∧ (∃ ys, SqL K H1 b ys) ∧ R (ItZsl K x b) H1)
theorem five_ge {N : Nat} {c : Addr} (hc : c ∈ [N + 4, N + 2, N + 3, N, N + 1]) : N ≤ c := by
  have q : c = N + 4 ∨ c = N + 2 ∨ c = N + 3 ∨ c = N ∨ c = N + 1 := by simpa using hc
  rcases q with q | q | q | q | q <;> (rw [q]; first | exact Nat.le_add_right _ _ | exact Nat.le_refl _)
theorem pi_zs {X : Cx} {e e2 : Expr} {ta : TA} {p pos tpos : Pos} {elts : List Expr} {kk : Nat} (hg : Gl X "zip") (hm : X.mg "zip" = none) (ha : PA X [e, e2] ta)
    (hs : starEach [e, e2] X.env = (false, eval e X.env) :: starEach [e2] X.env := by rfl) (hpl : (backTo pos (starEach [e2] X.env)).any (·.1) = false := by rfl) :
    PI X (.Tuple elts kk tpos) (.Call (.Name "zip" p) [e, e2] [] pos) (iZs X.K ta) := by
  refine ⟨fun pins s σ H R I h => ?_⟩
  refine Call_ (ld_blt I hg hm PyProof.Rows.boot_zip (PyProof.Rows.callWith_type1 (thn (ha.run pos pins s σ H _ I h) fun us s1 ⟨vs, H1, I1, r1, q1⟩ => ?_) hs hpl))
  rcases q1 with ⟨x, y, ev, q⟩ | ⟨x, b, ev, ⟨ys, hys⟩, q⟩
  · subst ev
    cases r1 with
    | cons ra rr =>
      cases rr with
      | cons rb rr =>
        cases rr
        obtain ⟨t, rfl⟩ := ra
        obtain ⟨u, rfl⟩ := rb
        refine zip_begins2 (begins_text x t) (begins_text y u) trivial trivial fun h' hz hTI hTO h1 h2 hsz hk => wpAny_pyIter_zip hz ?_
        have I2 : Inv X pins σ H1 { s1 with heap := h' } := I1.kept (t' := s1.toks) hk
        exact ⟨s1.heap.objs.size + 4, [s1.heap.objs.size + 4, s1.heap.objs.size + 2, s1.heap.objs.size + 3, s1.heap.objs.size, s1.heap.objs.size + 1], _, _, H1, rfl, I2,
          turn_zss (t := t) (u := u) (zip_sep2 (N := s1.heap.objs.size) (fp1 := []) (fp2 := []) (fun b hb => nomatch hb) (fun b hb => nomatch hb)), ⟨hz, hTI, ⟨_, _, hTO⟩, ⟨_, h1, rfl, rfl⟩, ⟨_, h2, rfl, rfl⟩⟩,
          fun c hc => I1.fpOk (five_ge hc) (I1.hok.fresh (five_ge hc)), q⟩
  · subst ev
    cases r1 with
    | cons ra rr =>
      cases rr with
      | cons rb rr =>
        cases rr
        obtain ⟨t, rfl⟩ := ra
        cases rb
        obtain ⟨its, rv, pl, _⟩ := I1.list hys
        have lb : b < s1.heap.objs.size := pl.lt
        refine zip_begins2 (begins_text x t) (begins_list b its.toArray) trivial pl.isList fun h' hz hTI hTO h1 h2 hsz hk => wpAny_pyIter_zip hz ?_
        have I2 : Inv X pins σ H1 { s1 with heap := h' } := I1.kept (t' := s1.toks) hk
        exact ⟨s1.heap.objs.size + 4, [s1.heap.objs.size + 4, s1.heap.objs.size + 2, s1.heap.objs.size + 3, s1.heap.objs.size, s1.heap.objs.size + 1], _, _, H1, rfl, I2,
          turn_zsl (t := t) (zip_sep2 (N := s1.heap.objs.size) (fp1 := []) (fp2 := [b]) (fun c hc => nomatch hc) (fun c hc => by rw [List.mem_singleton.mp hc]; exact lb)), ⟨hz, hTI, ⟨_, _, hTO⟩, ⟨_, h1, rfl, rfl⟩, ⟨_, h2, rfl, rfl⟩⟩,
          fun c hc => I1.fpOk (five_ge hc) (I1.hok.fresh (five_ge hc)), q⟩
/-- the pair's form for Walk -/
theorem walk_zss {x y : Str} : Walk (ItZss x y) (min x.cps.size y.cps.size) (fun _ => True) (YPair (fun i => x.cps[i]?.map fun c => .str ⟨#[c]⟩) (fun i => y.cps[i]?.map fun c => .str ⟨#[c]⟩)) :=
  ⟨fun i H hi _ => hi, fun H _ => rfl, fun i H v H' hi _ ⟨T, c, d, h1, h2, h3, h4, h5⟩ => ⟨T, _, _, h1, h2, h3, by simp [h4], by simp [h5]⟩⟩
theorem walk_zsl {K : PySem.W.Frag} {x : Str} {b : Addr} {ys : List V} : Walk (ItZsl K x b) (min x.cps.size ys.length) (fun H => SqL K H b ys) (YPair (fun i => x.cps[i]?.map fun c => .str ⟨#[c]⟩) (fun i => ys[i]?)) :=
  ⟨fun i H hi q => ⟨ys, q, hi⟩, fun H q => ⟨ys, q, rfl⟩, fun i H v H' hi q ⟨T, c, w, h1, h2, h3, h4, h5⟩ => ⟨T, _, _, h1, h2, h3, by simp [h4], h5 ys q⟩⟩
/-! ### a list or a tuple, walked -/
def iSeq (K : PySem.W.Frag) (tl : TE) : TI := fun σ H R => tl σ H fun x H1 => ∃ a, x = .ref a ∧ ((∃ xs, SqL K H1 a xs ∧ R (Itl K a) H1) ∨ ∃ xs, SqT K H1 a xs ∧ R (Itt K a) H1)
theorem pi_seq {X : Cx} {tg l : Expr} {tl : TE} (hl : PE X l tl) : PI X tg l (iSeq X.K tl) := by
  refine ⟨fun pins s σ H R I h => ?_⟩
  refine thn (hl.run pins s σ H _ I h) fun v s1 ⟨x, H1, I1, r1, a, e, q⟩ => ?_
  subst e
  have e : v = .ref a := r1
  subst e
  have fr : ∀ b ∈ [s1.heap.objs.size], FpOk X pins H1 b := fun b hb => by
    rw [List.mem_singleton.mp hb]
    exact I1.fpOk (Nat.le_refl _) (I1.hok.fresh (Nat.le_refl _))
  rcases q with ⟨xs, hq, q⟩ | ⟨xs, hq, q⟩
  · obtain ⟨its, rv, p, hz⟩ := I1.list hq
    exact wpAny_pyIter_list p.isList ⟨_, [s1.heap.objs.size], _, _, H1, rfl, I1.kept (t' := s1.toks) fun b o e => Heap.get?_push_of_some _ e, turn_list a _, ⟨_, Heap.get?_push_size _ rfl, rfl, rfl⟩, fr, q⟩
  · obtain ⟨its, rv, p, hz⟩ := I1.tuple hq
    exact wpAny_pyIter_tuple (show s1.heap.IsTuple a its.toArray from p) ⟨_, [s1.heap.objs.size], _, _, H1, rfl, I1.kept (t' := s1.toks) fun b o e => Heap.get?_push_of_some _ e, turn_tuple a _, ⟨_, Heap.get?_push_size _ rfl, rfl, rfl⟩, fr, q⟩
/-! ### a text times a number -/
def rMulS : R2 := fun x y H Q => ∃ (z : Str) (k : Int), x = .str z ∧ y = .int k ∧ 0 ≤ k ∧ k ≤ 1000 ∧ z.length ≤ 1000 ∧ Q (.str ⟨(List.replicate k.toNat z.cps).foldl (· ++ ·) #[]⟩) H
theorem op_mul_str {X : Cx} : OpR X (binaryOp .Mult) rMulS := by
  intro pins s σ H x y v u Q I rx ry h
  obtain ⟨z, k, rfl, rfl, h0, h1, hz, q⟩ := h
  obtain ⟨t, rfl⟩ := rx
  obtain ⟨t', rfl⟩ := ry
  have big : ¬ ((z.length : Int) > (2 ^ 63 - 1) / k) ∨ k < 1 := by
    by_cases hk : k < 1
    · exact .inr hk
    · refine .inl fun hc => ?_
      have h2 : (1000 : Int) ≤ (2 ^ 63 - 1) / k := by
        rw [Int.le_ediv_iff_mul_le (by omega)]
        omega
      omega
  have hs : z.length * k.toNat ≤ 1000000 := Nat.mul_le_mul hz (by omega : k.toNat ≤ 1000)
  refine PySem.P.mul_str ?_ (fun hk _ => big.resolve_right hk) (fun _ _ => ?_) ?_
  · rw [decide_eq_false (show ¬ k < -(2 ^ 63) by omega), decide_eq_false (show ¬ k ≥ 2 ^ 63 by omega)]; rfl
  · exact decide_eq_false (show ¬ (z.length * k.toNat) > sizeLine by rw [sizeLine_eq]; omega)
  · by_cases hk : k < 1
    · rw [if_pos hk]
      have e0 : k = 0 := by omega
      subst e0
      exact ⟨by decide, .str _, H, I.tok _, ⟨_, rfl⟩, q⟩
    · rw [if_neg hk]
      by_cases h2 : (k == 1 || z.length == 0) = true
      · rw [if_pos h2]
        refine ⟨.str _, H, I, ⟨t, rfl⟩, ?_⟩
        have ez : (⟨(List.replicate k.toNat z.cps).foldl (· ++ ·) #[]⟩ : Str) = z := by
          rcases (Bool.or_eq_true _ _).mp h2 with h3 | h3
          · have e1 : k = 1 := beq_iff_eq.mp h3
            subst e1
            cases z
            simp
          · have e1 : z.cps.size = 0 := beq_iff_eq.mp h3
            have e2 : z.cps = #[] := Array.size_eq_zero_iff.mp e1
            cases z with
            | mk c =>
              dsimp only at e2
              subst e2
              have r : ∀ (n : Nat) (acc : Array Nat), (List.replicate n (#[] : Array Nat)).foldl (· ++ ·) acc = acc := by
                intro n
                induction n with
                | zero => intro acc; rfl
                | succ n ih => intro acc; rw [List.replicate_succ, List.foldl_cons, Array.append_empty, ih]
              rw [r]
        rw [ez] at q
        exact q
      · rw [if_neg h2]
        refine ⟨?_, .str _, H, I.tok _, ⟨_, rfl⟩, q⟩
        have sz : ∀ (n : Nat) (acc : Array Nat), ((List.replicate n z.cps).foldl (· ++ ·) acc).size = acc.size + n * z.cps.size := by
          intro n
          induction n with
          | zero => intro acc; simp
          | succ n ih => intro acc; rw [List.replicate_succ, List.foldl_cons, ih, Array.size_append, Nat.add_mul, Nat.one_mul]; omega
        show (List.foldl (· ++ ·) #[] (List.replicate k.toNat z.cps)).size ≤ sizeLine
        rw [sz, sizeLine_eq]
        have : k.toNat * z.cps.size = z.length * k.toNat := Nat.mul_comm _ _
        simp only [Array.size_empty]
        omega
/-! ### a dict comprehension given to a local name -/
theorem sw_trueD {k v : Expr} {gs : List Comprehension} {scope : Scope} {pos py : Pos} {y : Str} {l : Nat} {env : Env} (hk : env.scope.kind = .function) (hy : env.scope.names.lookup y = some .local) (hl : (py.line == pos.line) = true)
    (ha : (scope.names.any fun (n, k) => n == y && (k == .local || k == .cell)) = false) : swapsWith (.DictComp k v gs scope pos) (some (.Name y py)) l env = pure true := by
  have e1 : (env.blockKind == .function) = true := by
    unfold Env.blockKind
    rw [hk]
    rfl
  have e2 : (env.kindOf y == some .local) = true := by rw [show env.kindOf y = some .local from hy]; rfl
  show (do
    return env.blockKind == .function && env.kindOf y == some .local && py.line == pos.line && !(scope.names.any fun (n, k) => n == y && (k == .local || k == .cell)) : Sem Bool) = pure true
  rw [e1, e2, hl, ha]
  rfl
end Nt
namespace Nt
open PySem PySem.Spec PyProof.Rows L2
section
variable {X : Cx}
/-- told in each block that stands in X -/
abbrev InB (X : Cx) (scope : Scope) (r : Cx → Prop) : Prop := ∀ (s : Shared) (H : Hp) (C : Addr) (cl : List (Str × Addr)) (fp : List Addr), r (X.blk s H scope (compEnvC scope cl C X.env) fp)
/-- the dict at L goes into the name's slot; the block's own names at C go -/
theorem into_name {pins : List (Addr × Obj)} {s : Shared} {σ : L2.St} {H : Hp} {D : Ends} {i : Nat} {y : Str} {py : Pos} {L C : Addr} {m : Str → Option Value} (hN : X.N.Nodup) (hy : X.N[i]? = some y) (loc : X.env.scope.names.lookup y = some .local) (I : L2.Inv X pins σ H s) (q : gName i (.ref L) σ H D.nx)
    (ns : s.heap.Ns C m) (far : FpOk X pins H C) : wpAny (model X.prog X.w) X.A (assign (.Name y py) X.env (.ref L)) (fun _ s2 => ∃ m, s2.heap.Ns C m ∧ ∀ h', Heap.SameBut C s2.heap h' → SP X pins D .next { s2 with heap := h' }) X.xe s := by
  have ⟨free, nl, _, young, nc, np⟩ := far
  refine wpAny_assign_Name (store_ok2 (v := V.ref L) I hN hy (.inl loc) rfl (fun s2 I2 ⟨a, same, at_⟩ => ⟨m, ns.sameBut same ?_, fun h3 back => ⟨_, H, I2.turned (t' := s2.toks) (fun b o hb e => (back.2 b hb).trans e) free nl young nc np, q⟩⟩) (.inr loc))
  rcases at_ with e | e
  · rw [e]; exact nl
  · exact (nc y a e).symm
/-- name = {..} on one line, the name a local -/
theorem ps_setDc {i : Nat} {y : Str} {py : Pos} {kx vx tg iter : Expr} {ifs : List Expr} {scope : Scope} {own : List (Str × Nat)} {pos spos : Pos} {wi : TI} {g : TG} {tt : TT} {tk tv : TE} (hc : X.calm = true) (hN : X.N.Nodup) (hy : X.N[i]? = some y)
    (hyl : X.env.scope.names.lookup y = some .local) (hsw : swapsWith (.DictComp kx vx [⟨tg, iter, ifs, 0⟩] scope pos) (some (.Name y py)) spos.line X.env = pure true) (hi : PI X tg iter wi) (ok : BlkOk X.N X.env.scope scope own)
    (hg : InB X scope fun Y => PG Y tg g) (ht : InB X scope fun Y => PTs Y ifs tt) (hk : InB X scope fun Y => PE Y kx tk) (he : InB X scope fun Y => PE Y vx tv) (hs : ∀ x, foldedSetIterable iter X.env x = pure x := by intro _; rfl) :
    PS X (.Assign [.Name y py] (.DictComp kx vx [⟨tg, iter, ifs, 0⟩] scope pos) spos) (tAsg (tDc wi g tt tk tv (own.map (·.2))) (gName i)) := by
  refine ⟨fun pins s σ H D I h => ?_⟩
  rw [exec_Assign_Name_used _ _ _ _ hsw]
  have made := dc_core (pos := pos) (use := some (assign (.Name y py) X.env)) (pos' := firstIterPos [⟨tg, iter, ifs, 0⟩] pos) (Qf := fun _ s' => SP X pins D .next s') hc hN I hi ok hg ht hk he hs (show tDc wi g tt tk tv (own.map (·.2)) σ H (fun x H1 => gName i x σ H1 D.nx) from h) fun L C s' m H' I' q ns far => into_name hN hy hyl I' q ns far
  exact wpAny_bind (wpAny_standAt (wpAny_bind (wpAny_bind (m := comprehension _ _ _ _ _ _ _ _) (thn made fun _ s' hq => wpAny_pure (wpAny_pure hq)))))
/-- a module's text, a module's number -/
theorem pe_gstr {x z : Str} {pos : Pos} (hg : Gl X x) (hm : ∃ t, X.mg x = some (.str z t)) (hd : (x == ("__debug__" : Str)) = false := by decide) : PE X (.Name x pos) (tC (.str z)) := by
  obtain ⟨t, e⟩ := hm
  exact pe_glob hg e ⟨t, rfl⟩ hd
theorem pe_gint {x : Str} {i : Int} {pos : Pos} (hg : Gl X x) (hm : ∃ t, X.mg x = some (.int i t)) (hd : (x == ("__debug__" : Str)) = false := by decide) : PE X (.Name x pos) (tC (.int i)) := by
  obtain ⟨t, e⟩ := hm
  exact pe_glob hg e ⟨t, rfl⟩ hd
end
/-! ### a def of the text with its promise -/
structure Good (P : Program) (w : World) (K : PySem.W.Frag) (mg : Str → Option Value) (base : Heap) (CX : CXT) (k : Nat) (f : Addr) (ps : List Str) (sp : Sp) : Prop where
  ex : ∃ fd, FnOk P w K mg base CX k f fd ps sp ∧ Binds K fd ps []
  kp : PySem.W.keepIn K (.ref f) = true
section
variable {P : Program} {w : World} {K : PySem.W.Frag} {mg : Str → Option Value} {base : Heap} {x qual : Str} {params : Arguments} {body : List Stmt} {scope : Scope} {f : Addr} {fd : FuncData} {N ps : List Str} {k : Nat} {sp : Sp}
/-- THE RULE for a def that raises nothing -/
theorem good_of (F : FunD K x qual params body scope [] [] f fd) (S : FnScope N ps scope)
    (hbd : ∀ (kV doc pm : Value) (an : Option Addr) (cdv ct : Value) (us : List Value), us.length = ps.length → bindArgs (PySem.W.fnOf x qual params body scope .none kV doc pm an cdv ct) ⟨us, []⟩ = pure (ps.zip us))
    (len : ∀ vs H Q E, sp vs H Q E → vs.length = ps.length)
    (hbody : ∀ (cdv : Value) (A : Around) (outer : List Env) (s : Shared) (H : Hp) (vs : List V) (Q : VK) (E : XK), Room k (A.deeper (envOfC qual scope s.heap.objs.size f cdv)) → sp vs H Q E →
      ∃ t, PSs (cxOf CX0 P w K mg base N qual scope f cdv A outer s H E).nox body t ∧ t { nx := fun _ H' => Q .non H', rt := Q } (start N vs) H) : Good P w K mg base CX0 (k + 1) f ps sp :=
  ⟨⟨fd, F.ok S len fun cdv A outer s H vs Q E hr h => let ⟨t, a, b⟩ := hbody cdv A outer s H vs Q E hr h; ⟨t, a.nox, b⟩, F.bindsN hbd⟩, F.kp⟩
/-- .. for one that may raise -/
theorem good_ofX (F : FunD K x qual params body scope [] [] f fd) (S : FnScope N ps scope)
    (hbd : ∀ (kV doc pm : Value) (an : Option Addr) (cdv ct : Value) (us : List Value), us.length = ps.length → bindArgs (PySem.W.fnOf x qual params body scope .none kV doc pm an cdv ct) ⟨us, []⟩ = pure (ps.zip us))
    (len : ∀ vs H Q E, sp vs H Q E → vs.length = ps.length)
    (hbody : ∀ (cdv : Value) (A : Around) (outer : List Env) (s : Shared) (H : Hp) (vs : List V) (Q : VK) (E : XK), Room k (A.deeper (envOfC qual scope s.heap.objs.size f cdv)) → sp vs H Q E →
      ∃ t, PSs (cxOf (L2.CX P w) P w K mg base N qual scope f cdv A outer s H E) body t ∧ t { nx := fun _ H' => Q .non H', rt := Q } (start N vs) H) : Good P w K mg base (L2.CX P w) (k + 1) f ps sp :=
  ⟨⟨fd, F.ok S len hbody, F.bindsN hbd⟩, F.kp⟩
theorem Good.mono {CX : CXT} {j k : Nat} (g : Good P w K mg base CX j f ps sp) (h : j ≤ k) : Good P w K mg base CX k f ps sp := by
  obtain ⟨⟨fd, F, b⟩, kp⟩ := g
  exact ⟨⟨fd, F.mono h, b⟩, kp⟩
theorem Good.imp {CX : CXT} {k : Nat} {sp' : Sp} (g : Good P w K mg base CX k f ps sp) (h : ∀ vs H Q E, sp' vs H Q E → sp vs H Q E) : Good P w K mg base CX k f ps sp' := by
  obtain ⟨⟨fd, F, b⟩, kp⟩ := g
  exact ⟨⟨fd, F.imp h, b⟩, kp⟩
end
section
variable {X : Cx} {k : Nat} {f C : Addr} {ps : List Str} {sp : Sp} {x m : Str} {p pos apos : Pos} {e o : Expr} {es : List Expr} {t : TA} {ta : TE}
theorem pe_good (g : Good X.prog X.w X.K X.mg X.base CX0 k f ps sp) (hr : Room k X.A) (hg : Gl X x) (hm : X.mg x = some (.ref f)) (ha : PA X (e :: es) t)
    (hdb : (x == ("__debug__" : Str)) = false := by decide) (he : starEach (e :: es) X.env = (false, eval e X.env) :: starEach es X.env := by rfl) (hpl : (backTo pos (starEach es X.env)).any (·.1) = false := by rfl) :
    PE X (.Call (.Name x p) (e :: es) [] pos) (tCall sp [] E0 t) := by
  obtain ⟨⟨fd, F, b⟩, kp⟩ := g
  exact pe_call F hr hg hm kp b .nil pass0 ha hdb he hpl
theorem pe_goodm0 {pl : Sem Bool} (g : Good X.prog X.w X.K X.mg X.base CX0 k f ps sp) (hr : Room k X.A) (ho : PE X o ta) (c : Cls X.K C) (hm : Meth X.K C m f)
    (ht : eval (.Call (.Attribute o m apos) [] [] pos) X.env = (do
      let ov ← eval o X.env
      standAt apos.atName
      let (f, first) ← holding [ov] (getMethod ov m pl)
      callWith pos f first (backTo pos (starEach [] X.env)) (backToKw pos (keywordEach [] X.env))) := by rfl) :
    PE X (.Call (.Attribute o m apos) [] [] pos) (tMeth C m sp [] E0 ta tNil) := by
  obtain ⟨⟨fd, F, b⟩, kp⟩ := g
  exact pe_meth0 ho c hm F hr b .nil pass0 ht
end
/-! ### rules over what is tracked, K not told -/
section
variable {X : Cx}
theorem OpR.weak {f : Value → Value → Sem Value} {r r' : R2} (h : OpR X f r) (w : ∀ x y H Q, r' x y H Q → r x y H Q) : OpR X f r' := fun pins s σ H x y v u Q I rx ry q => h pins s σ H x y v u Q I rx ry (w _ _ _ _ q)
theorem CallR.weak {f : Value} {r r' : List V → Hp → VK → Prop} (h : CallR X f r) (w : ∀ x H Q, r' x H Q → r x H Q) : CallR X f r' := fun pins s σ H xs us Q I r q => h pins s σ H xs us Q I r (w _ _ _ q)
theorem IxR.weak {r r' : R2} (h : IxR X r) (w : ∀ x y H Q, r' x y H Q → r x y H Q) : IxR X r' := by
  intro value slice pins s σ H x y v u Q I rx ry q
  exact h value slice pins s σ H x y v u Q I rx ry (w _ _ _ _ q)
theorem SlR.weak {r r' : V → Option Int → Option Int → Hp → VK → Prop} (h : SlR X r) (w : ∀ x l u H Q, r' x l u H Q → r x l u H Q) : SlR X r' := by
  intro pins s σ H x v vl vu lo hi sl Q I rx hs pl pu q
  exact h pins s σ H x v vl vu lo hi sl Q I rx hs pl pu (w _ _ _ _ _ q)
theorem MtR.weak {id : String} {r r' : V → List V → Hp → VK → Prop} (h : MtR X id r) (w : ∀ x xs H Q, r' x xs H Q → r x xs H Q) : MtR X id r' := by
  intro pins s σ H x xs v us Q I rx rs q
  exact h pins s σ H x xs v us Q I rx rs (w _ _ _ _ q)
theorem PE.weak {e : Expr} {t t' : TE} (h : PE X e t) (w : ∀ σ H Q, t' σ H Q → t σ H Q) : PE X e t' := ⟨fun pins s σ H Q I q => h.run pins s σ H Q I (w _ _ _ q)⟩
theorem PI.weak {tg it : Expr} {t t' : TI} (h : PI X tg it t) (w : ∀ σ H R, t' σ H R → t σ H R) : PI X tg it t' := ⟨fun pins s σ H R I q => h.run pins s σ H R I (w _ _ _ q)⟩
def qIxL : R2 := fun x y H Q => ∃ p xs i v, x = .ref p ∧ y = .int i ∧ H p = some (.lst xs) ∧ atI xs i = some v ∧ Q v H
def qIxT : R2 := fun x y H Q => ∃ p xs i v, x = .ref p ∧ y = .int i ∧ H p = some (.tup xs) ∧ atI xs i = some v ∧ Q v H
def qIxQ : R2 := fun x y H Q => qIxL x y H Q ∨ qIxT x y H Q ∨ rIxS x y H Q
theorem xq_list : IxR X qIxL := IxR.weak ix_list fun x y H Q ⟨p, xs, i, v, a, b, c, d, e⟩ => ⟨p, xs, i, v, a, b, SqL.of c, d, e⟩
theorem xq_tup : IxR X qIxT := IxR.weak ix_tup fun x y H Q ⟨p, xs, i, v, a, b, c, d, e⟩ => ⟨p, xs, i, v, a, b, SqT.of c, d, e⟩
theorem xq_seq : IxR X qIxQ := xq_list.or (xq_tup.or ix_str)
def qIn (neg : Bool) : R2 := fun x y H Q => ∃ p xs, y = .ref p ∧ (H p = some (.lst xs) ∨ H p = some (.tup xs)) ∧ flatV x = true ∧ xs.all flatV = true ∧ Q (.bl (if neg then !inV x xs else inV x xs)) H
theorem oq_in : OpR X (compareOp .In) (qIn false) := OpR.weak op_in_seq fun x y H Q ⟨p, xs, a, b, c⟩ => ⟨p, xs, a, b.imp SqL.of SqT.of, c⟩
theorem oq_notIn : OpR X (compareOp .NotIn) (qIn true) := OpR.weak op_notIn_seq fun x y H Q ⟨p, xs, a, b, c⟩ => ⟨p, xs, a, b.imp SqL.of SqT.of, c⟩
def qLen : List V → Hp → VK → Prop := fun xs H Q => ∃ p ys, xs = [.ref p] ∧ (H p = some (.lst ys) ∨ H p = some (.tup ys)) ∧ Q (.int ys.length) H
theorem cq_len : CallR X (.builtin "len") qLen := CallR.weak call_len_seq fun x H Q ⟨p, ys, a, b, c⟩ => ⟨p, ys, a, b.imp SqL.of SqT.of, c⟩
def qList : List V → Hp → VK → Prop := fun xs H Q => ∃ p ys, xs = [.ref p] ∧ (H p = some (.lst ys) ∨ H p = some (.tup ys)) ∧ ∀ l, H l = none → Q (.ref l) (upd H l (.lst ys))
theorem cq_list : CallR X (.type "list") qList := CallR.weak call_list_of fun x H Q ⟨p, ys, a, b, c⟩ => ⟨p, ys, a, b.imp SqL.of SqT.of, c⟩
def qTuple : List V → Hp → VK → Prop := fun xs H Q => ∃ p ys, xs = [.ref p] ∧ ((H p = some (.lst ys) ∧ ∀ l, H l = none → Q (.ref l) (upd H l (.tup ys))) ∨ (H p = some (.tup ys) ∧ Q (.ref p) H))
theorem cq_tuple : CallR X (.type "tuple") qTuple := CallR.weak call_tuple_of fun x H Q ⟨p, ys, a, b⟩ => ⟨p, ys, a, b.imp (fun z => ⟨SqL.of z.1, z.2⟩) fun z => ⟨SqT.of z.1, z.2⟩⟩
def qSlL : V → Option Int → Option Int → Hp → VK → Prop := fun x lo hi H Q => ∃ a xs, x = .ref a ∧ H a = some (.lst xs) ∧ ∀ p, H p = none → Q (.ref p) (upd H p (.lst (cutV xs lo hi)))
theorem sq_list : SlR X qSlL := SlR.weak sl_list fun x l u H Q ⟨a, xs, b, c, d⟩ => ⟨a, xs, b, SqL.of c, d⟩
def qAll : List V → Hp → VK → Prop := fun vs H Q => ∃ (a : Addr) (bs : List Bool), vs = [V.ref a] ∧ H a = some (.lst (bs.map V.bl)) ∧ Q (.bl (bs.all id)) H
def qAny : List V → Hp → VK → Prop := fun vs H Q => ∃ (a : Addr) (bs : List Bool), vs = [V.ref a] ∧ H a = some (.lst (bs.map V.bl)) ∧ Q (.bl (bs.any id)) H
theorem cq_all (hc : X.calm = true) : CallR X (.builtin "all") qAll := CallR.weak (cr_all hc) fun x H Q ⟨p, ys, a, b, c⟩ => ⟨p, ys, a, SqL.of b, c⟩
theorem cq_any (hc : X.calm = true) : CallR X (.builtin "any") qAny := CallR.weak (cr_any hc) fun x H Q ⟨p, ys, a, b, c⟩ => ⟨p, ys, a, SqL.of b, c⟩
/-- sep.join(a list of texts) -/
def qJoin : V → List V → Hp → VK → Prop := fun x xs H Q => ∃ a p, ∃ ys : List Str, x = .str a ∧ xs = [.ref p] ∧ (H p = some (.lst (ys.map V.str)) ∨ H p = some (.tup (ys.map V.str))) ∧
  (ys.map (·.length)).sum + ys.length * a.length ≤ 16777216 ∧ Q (.str (Txt.join a ys)) H
theorem mq_join : MtR X "str.join" qJoin := MtR.weak mt_join fun x xs H Q ⟨a, p, ys, h1, h2, h3, h4⟩ => ⟨a, p, ys, h1, h2, h3.imp SqL.of SqT.of, h4⟩
/-- methods of a tracked list -/
def qBM (r : V → List V → Hp → VK → Prop) (to : TE) (t : TA) : TE := fun σ H Q => to σ H fun x H1 => (∃ p xs, x = .ref p ∧ H1 p = some (.lst xs)) ∧ t σ H1 fun xs H2 => r x xs H2 Q
variable {o e : Expr} {es : List Expr} {to : TE} {t : TA} {name : Str} {apos cpos : Pos} {id : String} {r : V → List V → Hp → VK → Prop}
theorem eq_bm (slot : Slot "list" name id) (hty : typeOf (.builtin id) = pure (.type "method_descriptor")) (hm : MtR X id r) (ho : PE X o to) (ha : PA X (e :: es) t)
    (hbase : attributeBase o name X.env (eval o X.env) = eval o X.env := by rfl)
    (hfew : ((backTo cpos (starEach (e :: es) X.env)).all (fun x => !x.1) && (backToKw cpos (keywordEach [] X.env)).all (fun x => x.1.isSome)
      && decide ((e :: es).length + ([] : List Keyword).length + (if ([] : List Keyword).isEmpty then 0 else 1) < 30)) = true := by rfl)
    (hline : (apos.endLine == cpos.line) = true := by rfl) (hs : starEach (e :: es) X.env = (false, eval e X.env) :: starEach es X.env := by rfl) (hplain : (backTo cpos (starEach es X.env)).any (·.1) = false := by rfl) :
    PE X (.Call (.Attribute o name apos) (e :: es) [] cpos) (qBM r to t) := by
  refine ⟨fun pins s σ H Q I h => ?_⟩
  refine wpAny_Call_method_late hbase hfew hline rfl (thn (ho.run pins s σ H _ I h) fun v s1 ⟨x, H1, I1, r1, ty, q1⟩ => ?_)
  obtain ⟨p, xs, ep, hp⟩ := ty
  have ty' : tyV X.K "list" x H1 := by rw [ep]; exact .inl ⟨rfl, xs, SqL.of hp⟩
  obtain ⟨h1, h2⟩ := tyV_is I1 r1 ty'
  refine ⟨"list", id, PySem.F.plainAttrs_list, slot, hty, h1, h2, ?_⟩
  have run := ha.run cpos pins s1 σ H1 _ I1 q1
  rw [hs] at run ⊢
  have pl : (backTo cpos ((false, eval e X.env) :: starEach es X.env)).any (·.1) = false := by
    show (false || (backTo cpos (starEach es X.env)).any (·.1)) = false
    rw [hplain]
    rfl
  exact Calls.callWith_builtin pl (Calls.evalArgs_plain (thn run fun us s2 ⟨ys, H2, I2, r2, q2⟩ => hm pins s2 σ H2 x ys v us Q I2 r1 r2 q2))
/-! isinstance -/
/-- a value's built-in type -/
def TyN (x : V) (H : Hp) (T : String) : Prop := match x with
  | .non => T = "NoneType"
  | .bl _ => T = "bool"
  | .int _ => T = "int"
  | .str _ => T = "str"
  | .ref a => (T = "list" ∧ ∃ xs, H a = some (.lst xs)) ∨ (T = "tuple" ∧ ∃ xs, H a = some (.tup xs)) ∨ (T = "dict" ∧ ((∃ kvs, H a = some (.dK kvs)) ∨ ∃ kvs, H a = some (.dT kvs)))
  | _ => False
theorem TyN.x {K : PySem.W.Frag} {x : V} {H : Hp} {T : String} (h : TyN x H T) : TyX K H x (.type T) := by
  cases x with
  | non => rw [show T = "NoneType" from h]; exact .base .non
  | bl b => rw [show T = "bool" from h]; exact .base (.bl b)
  | int i => rw [show T = "int" from h]; exact .base (.int i)
  | str z => rw [show T = "str" from h]; exact .base (.str z)
  | ref a =>
    rcases h with ⟨e, xs, q⟩ | ⟨e, xs, q⟩ | ⟨e, ⟨xs, q⟩ | ⟨xs, q⟩⟩
    · rw [e]; exact .base (.lst q)
    · rw [e]; exact .base (.tup q)
    · rw [e]; exact .base (.dK q)
    · rw [e]; exact .base (.dT q)
  | byt _ => cases h
  | flt _ => cases h
  | ty _ => cases h
def qIsi : List V → Hp → VK → Prop := fun xs H Q => ∃ (x : V) (c T : String) (b : Bool), xs = [x, .ty c] ∧ TyN x H T ∧ kitB T c = some b ∧ Q (.bl b) H
theorem cq_isi : CallR X (.builtin "isinstance") qIsi := CallR.weak call_isi fun xs H Q ⟨x, c, T, b, h1, h2, h3, h4⟩ => ⟨x, .ty c, .type T, .type c, b, h1, .ty c, h2.x, kit_ty h3, h4⟩
def qIsi2 : List V → Hp → VK → Prop := fun xs H Q => ∃ (x : V) (tp : Addr) (c d T : String) (b b' : Bool), xs = [x, .ref tp] ∧ H tp = some (.tup [.ty c, .ty d]) ∧ TyN x H T ∧ kitB T c = some b ∧ kitB T d = some b' ∧ Q (.bl (b || b')) H
theorem cq_isi2 : CallR X (.builtin "isinstance") qIsi2 := CallR.weak call_isiT fun xs H Q ⟨x, tp, c, d, T, b, b', h1, h2, h3, h4, h5, h6⟩ =>
  ⟨x, tp, [.ty c, .ty d], .type T, [.type c, .type d], b || b', h1, h2, .cons (.ty c) (.cons (.ty d) .nil), h3.x, by
    cases b with
    | true => exact kitAny_cons (kit_ty h4) (fun z => by cases z) (fun _ => rfl)
    | false => exact kitAny_cons (kit_ty h4) (fun _ => by
        cases b' with
        | true => exact kitAny_cons (kit_ty h5) (fun z => by cases z) (fun _ => rfl)
        | false => exact kitAny_cons (kit_ty h5) (fun _ => kitAny_nil) (fun z => by cases z)) (fun z => by cases z), h6⟩
/-! what is walked, K told -/
variable {tg l : Expr} {tl : TE}
theorem iq_list (K : PySem.W.Frag) (hl : PE X l tl) (hK : X.K = K := by rfl) : PI X tg l (iList K tl) := by subst hK; exact pi_list hl
theorem iq_tup (K : PySem.W.Frag) (hl : PE X l tl) (hK : X.K = K := by rfl) : PI X tg l (iTup K tl) := by subst hK; exact pi_tup hl
theorem iq_seq (K : PySem.W.Frag) (hl : PE X l tl) (hK : X.K = K := by rfl) : PI X tg l (iSeq K tl) := by subst hK; exact pi_seq hl
variable {ta : TA} {p pos tpos : Pos} {elts : List Expr} {kk n : Nat} {e2 : Expr} {tgs : TGs}
theorem gq_tup (K : PySem.W.Frag) (hc : X.calm = true) (h : PGs X es tgs) (hK : X.K = K := by rfl) (hn : (assignEach es X.env).length = n := by rfl) (hst : (assignEach es X.env).findIdx? (·.1) = none := by rfl) : PG X (.Tuple es kk pos) (gTup K n tgs) := by subst hK; exact pg_tup hc h hn hst
theorem iq_zs (K : PySem.W.Frag) (hg : Gl X "zip") (hm : X.mg "zip" = none) (ha : PA X [e, e2] ta) (hK : X.K = K := by rfl)
    (hs : starEach [e, e2] X.env = (false, eval e X.env) :: starEach [e2] X.env := by rfl) (hpl : (backTo pos (starEach [e2] X.env)).any (·.1) = false := by rfl) :
    PI X (.Tuple elts kk tpos) (.Call (.Name "zip" p) [e, e2] [] pos) (iZs K ta) := by subst hK; exact pi_zs hg hm ha hs hpl
theorem iq_zipA (K : PySem.W.Frag) (hg : Gl X "zip") (hm : X.mg "zip" = none) (ha : PA X [e, e2] ta) (hK : X.K = K := by rfl)
    (hs : starEach [e, e2] X.env = (false, eval e X.env) :: starEach [e2] X.env := by rfl) (hpl : (backTo pos (starEach [e2] X.env)).any (·.1) = false := by rfl) :
    PI X (.Tuple elts kk tpos) (.Call (.Name "zip" p) [e, e2] [] pos) (RZ.iZipA K ta) := by subst hK; exact RZ.pi_zipA hg hm ha hs hpl
theorem iq_enum (K : PySem.W.Frag) (hg : Gl X "enumerate") (hm : X.mg "enumerate" = none) (ha : PA X [e] ta) (hK : X.K = K := by rfl) (hs : starEach [e] X.env = [(false, eval e X.env)] := by rfl) (hpl : (backTo pos (starEach [] X.env)).any (·.1) = false := by rfl) :
    PI X (.Tuple elts kk tpos) (.Call (.Name "enumerate" p) [e] [] pos) (iEnum K ta) := by subst hK; exact pi_enum hg hm ha hs
end
end Nt
/-! Readings taken step by step: each lemma's last premise is what is left. -/
namespace Nt
open PySem PySem.Spec PyProof.Rows L2
section
variable {K : PySem.W.Frag} {σ : L2.St} {H : Hp} {Q : VK} {i : Nat} {v x y : V} {ta tb tc te : TE} {tt tu : TT} {D : Ends} {t u : TS} {r r' : R2} {g : TG}
/-! expressions -/
theorem w_var (h : σ[i]? = some (some v)) (k : Q v H) : tVar i σ H Q := ⟨v, h, k⟩
theorem w_c (k : Q v H) : tC v σ H Q := k
theorem w_op (k : ta σ H fun x H1 => tb σ H1 fun y H2 => r x y H2 Q) : tOp r ta tb σ H Q := k
theorem w_un {r : V → Hp → VK → Prop} (k : ta σ H fun x H1 => r x H1 Q) : tUn r ta σ H Q := k
theorem w_if (k : tt σ H fun c H1 => if c = true then ta σ H1 Q else tb σ H1 Q) : tIf tt ta tb σ H Q := k
theorem w_andV (k : ta σ H fun x H1 => ∃ c, x = .bl c ∧ if c = true then tb σ H1 Q else Q (.bl false) H1) : tAndV ta tb σ H Q := k
theorem w_orV (k : ta σ H fun x H1 => ∃ c, x = .bl c ∧ if c = true then Q (.bl true) H1 else tb σ H1 Q) : tOrV ta tb σ H Q := k
theorem w_notV (k : ta σ H fun x H1 => ∃ c, x = .bl c ∧ Q (.bl (!c)) H1) : tNotV ta σ H Q := k
theorem w_chain (k : ta σ H fun x H1 => tb σ H1 fun y H2 => r x y H2 fun z H3 => ∃ k, z = .bl k ∧ (if k = true then tc σ H3 fun w' H4 => r' y w' H4 Q else Q (.bl false) H3)) : tChain r r' ta tb tc σ H Q := k
theorem w_bl {P : Bool → Prop} {b : Bool} (k : P b) : ∃ c, V.bl b = .bl c ∧ P c := ⟨b, rfl, k⟩
theorem w_I0 {g : Int → Int → V} {a b : Int} (k : Q (g a b) H) : rI0 g (.int a) (.int b) H Q := ⟨a, b, rfl, rfl, k⟩
theorem w_I {C : Int → Int → Prop} {g : Int → Int → V} {a b : Int} (c : C a b) (k : Q (g a b) H) : rI C g (.int a) (.int b) H Q := ⟨a, b, rfl, rfl, c, k⟩
theorem w_eqS {a b : Str} (k : Q (.bl (decide (a = b))) H) : rEq (.str a) (.str b) H Q := ⟨rfl, by
  have e : decide (V.str a = V.str b) = decide (a = b) := by simp
  rw [e]
  exact k⟩
theorem w_neS {a b : Str} (k : Q (.bl (!decide (a = b))) H) : rNe (.str a) (.str b) H Q := ⟨rfl, by
  have e : decide (V.str a = V.str b) = decide (a = b) := by simp
  rw [e]
  exact k⟩
theorem w_eqI {a b : Int} (k : Q (.bl (decide (a = b))) H) : rEq (.int a) (.int b) H Q := ⟨rfl, by
  have e : decide (V.int a = V.int b) = decide (a = b) := by simp
  rw [e]
  exact k⟩
theorem w_neI {a b : Int} (k : Q (.bl (!decide (a = b))) H) : rNe (.int a) (.int b) H Q := ⟨rfl, by
  have e : decide (V.int a = V.int b) = decide (a = b) := by simp
  rw [e]
  exact k⟩
theorem w_neB {a b : Bool} (k : Q (.bl (!decide (a = b))) H) : rNe (.bl a) (.bl b) H Q := ⟨rfl, by
  have e : decide (V.bl a = V.bl b) = decide (a = b) := by simp
  rw [e]
  exact k⟩
theorem w_eqB {a b : Bool} (k : Q (.bl (decide (a = b))) H) : rEq (.bl a) (.bl b) H Q := ⟨rfl, by
  have e : decide (V.bl a = V.bl b) = decide (a = b) := by simp
  rw [e]
  exact k⟩
theorem w_ixL {p : Addr} {xs : List V} {j : Int} (h : H p = some (.lst xs)) (e : atI xs j = some v) (k : Q v H) : rIxL K (.ref p) (.int j) H Q := ⟨p, xs, j, v, rfl, rfl, SqL.of h, e, k⟩
theorem w_ixT {p : Addr} {xs : List V} {j : Int} (h : H p = some (.tup xs)) (e : atI xs j = some v) (k : Q v H) : rIxT K (.ref p) (.int j) H Q := ⟨p, xs, j, v, rfl, rfl, SqT.of h, e, k⟩
theorem w_ixS {z : Str} {j : Int} {c : Nat} (h : z.length ≤ sizeLine) (e : atI z.cps.toList j = some c) (k : Q (.str ⟨#[c]⟩) H) : rIxS (.str z) (.int j) H Q := ⟨z, j, c, rfl, rfl, h, e, k⟩
theorem w_dget (td : TE) (ty : TE) (k : td σ H fun x H1 => ty σ H1 fun y H2 => ∃ a v, x = .ref a ∧ DGet H2 a y (some v) ∧ Q v H2) : tDGet td ty σ H Q := k
/-! tests -/
variable {P : Bool → Hp → Prop}
theorem w_test (k : te σ H fun x H' => ∃ b, x = .bl b ∧ P b H') : tTest te σ H P := k
theorem w_B (k : te σ H fun x H' => ∃ b, x = .bl b ∧ P b H') : tB te σ H P := k
theorem w_and (k : tt σ H fun c H1 => if c = true then tu σ H1 P else P false H1) : tAnd tt tu σ H P := k
theorem w_or (k : tt σ H fun c H1 => if c = true then P true H1 else tu σ H1 P) : tOr tt tu σ H P := k
theorem w_not (k : tt σ H fun c H1 => P (!c) H1) : tNot tt σ H P := k
theorem w_yes (k : P true H) : tYes σ H P := k
/-! arguments -/
variable {tr : TA} {PA : List V → Hp → Prop}
theorem w_nil (k : PA [] H) : tNil σ H PA := k
theorem w_cons (k : te σ H fun x H1 => tr σ H1 fun xs H2 => PA (x :: xs) H2) : tCons te tr σ H PA := k
theorem w_tup (k : tr σ H fun xs H1 => xs.length ≤ sizeLine ∧ ∀ p, H1 p = none → Q (.ref p) (upd H1 p (.tup xs))) : tTup tr σ H Q := k
theorem w_lst (k : tr σ H fun xs H1 => xs.length ≤ sizeLine ∧ ∀ p, H1 p = none → Q (.ref p) (upd H1 p (.lst xs))) : tLst tr σ H Q := k
theorem w_call {sp : Sp} {dvs : List V} {E : XK} (k : tr σ H fun vs H1 => sp (vs ++ dvs) H1 Q E) : tCall sp dvs E tr σ H Q := k
theorem w_cb {rr : List V → Hp → VK → Prop} (k : tr σ H fun vs H1 => rr vs H1 Q) : tCB rr tr σ H Q := k
theorem w_bm {T : String} {rr : V → List V → Hp → VK → Prop} (k : te σ H fun x H1 => tyV K T x H1 ∧ tr σ H1 fun xs H2 => rr x xs H2 Q) : tBM K T rr te tr σ H Q := k
theorem w_m1 {rr : V → List V → Hp → VK → Prop} (k : te σ H fun x H1 => (∃ z, x = .str z) ∧ ta σ H1 fun y H2 => rr x [y] H2 Q) : tM1 rr te ta σ H Q := k
/-! statements -/
theorem w_seq (k : t { D with nx := u D } σ H) : tSeq t u D σ H := k
theorem w_asg (k : te σ H fun x H1 => g x σ H1 D.nx) : tAsg te g D σ H := k
theorem w_name {Z : L2.St → Hp → Prop} (k : Z (σ.set i (some v)) H) : gName i v σ H Z := k
theorem w_ret (k : te σ H D.rt) : tRet te D σ H := k
theorem w_retN (k : D.rt .non H) : tRetN D σ H := k
theorem w_drop (k : te σ H fun _ H1 => D.nx σ H1) : tDrop te D σ H := k
theorem w_ifS (k : tt σ H fun b H1 => if b = true then t D σ H1 else u D σ H1) : tIfS tt t u D σ H := k
theorem w_next (k : D.nx σ H) : tNext D σ H := k
/-- what is left of a list comprehension, a dict comprehension, a for, when its iterator has come -/
def LcG (J : It) (g : TG) (tt : TT) (te : TE) (vs : List Nat) (σ : L2.St) (Q : VK) (H1 : Hp) : Prop := ∀ D, H1 D = none → ∃ W : Nat → Nat → Hp → Prop, (∃ m, W 0 m (upd H1 D (.lst []))) ∧ ∀ i m H, W i m H →
  (J.stop i H ∧ Q (.ref D) H) ∨ (J.go i H ∧ ∃ Nx : Hp → Prop, (∀ H', Nx H' → ∃ m', m' < m ∧ W (i + 1) m' H') ∧ ∀ x H', J.yld i H x H' → g x (wipe σ vs) H' fun σ2 H2 => wipe σ2 vs = wipe σ vs ∧ tt σ2 H2 fun b H3 =>
    if b = true then te σ2 H3 fun y H4 => ∃ acc, H4 D = some (.lst acc) ∧ acc.length < sizeLine ∧ Nx (upd H4 D (.lst (acc ++ [y]))) else Nx H3)
def DcG (J : It) (g : TG) (tt : TT) (tk tv : TE) (vs : List Nat) (σ : L2.St) (Q : VK) (H1 : Hp) : Prop := ∀ D, H1 D = none → ∃ W : Nat → Nat → Hp → Prop, (∃ m, W 0 m (upd H1 D (.dK []))) ∧ ∀ i m H, W i m H →
  (J.stop i H ∧ Q (.ref D) H) ∨ (J.go i H ∧ ∃ Nx : Hp → Prop, (∀ H', Nx H' → ∃ m', m' < m ∧ W (i + 1) m' H') ∧ ∀ x H', J.yld i H x H' → g x (wipe σ vs) H' fun σ2 H2 => wipe σ2 vs = wipe σ vs ∧ tt σ2 H2 fun b H3 =>
    if b = true then tk σ2 H3 fun y H4 => tv σ2 H4 fun z H5 => ∃ kvs k, y = kV k ∧ H5 D = some (.dK kvs) ∧ kvs.length < sizeLine ∧ Nx (upd H5 D (.dK (putK kvs k z))) else Nx H3)
def FoG (J : It) (g : TG) (t : TS) (D : Ends) (σ : L2.St) (H1 : Hp) : Prop := ∃ W : Nat → Nat → L2.St → Hp → Prop, (∃ m, W 0 m σ H1) ∧ ∀ i m σ H, W i m σ H →
  (J.stop i H ∧ D.nx σ H) ∨ (J.go i H ∧ ∃ N : L2.St → Hp → Prop, (∀ σ' H', N σ' H' → ∃ m', m' < m ∧ W (i + 1) m' σ' H') ∧ ∀ x H', J.yld i H x H' → g x σ H' fun σ2 H2 => t { D with nx := N, ct := N, bk := D.nx } σ2 H2)
theorem w_lc {wi : TI} {gg : TG} {vs : List Nat} (k : wi σ H fun J H1 => LcG J gg tt te vs σ Q H1) : tLc wi gg tt te vs σ H Q := k
theorem w_dc {wi : TI} {gg : TG} {vs : List Nat} (k : wi σ H fun J H1 => DcG J gg tt ta tb vs σ Q H1) : tDc wi gg tt ta tb vs σ H Q := k
theorem w_for {wi : TI} {gg : TG} (k : wi σ H fun J H1 => FoG J gg t D σ H1) : tFor wi gg t D σ H := k
variable {R : It → Hp → Prop}
theorem w_iL (k : te σ H fun x H1 => ∃ a, x = .ref a ∧ (∃ xs, SqL K H1 a xs) ∧ R (Itl K a) H1) : iList K te σ H R := k
theorem w_iS (k : te σ H fun v H1 => ∃ x, v = .str x ∧ R (Its x) H1) : iStr te σ H R := k
theorem w_iZ (k : tr σ H fun vs H1 => (∃ x y, vs = [.str x, .str y] ∧ R (ItZss x y) H1) ∨ (∃ x b, vs = [.str x, .ref b] ∧ (∃ ys, SqL K H1 b ys) ∧ R (ItZsl K x b) H1)) : iZs K tr σ H R := k
theorem w_iE (k : tr σ H fun vs H1 => ∃ a xs, vs = [.ref a] ∧ SqL K H1 a xs ∧ R (Ite K a) H1) : iEnum K tr σ H R := k
theorem w_iQ (k : te σ H fun x H1 => ∃ a, x = .ref a ∧ ((∃ xs, SqL K H1 a xs ∧ R (Itl K a) H1) ∨ ∃ xs, SqT K H1 a xs ∧ R (Itt K a) H1)) : iSeq K te σ H R := k
theorem w_sl {rr : V → Option Int → Option Int → Hp → VK → Prop} {tl th : TO} (k : te σ H fun x H1 => tl σ H1 fun l H2 => th σ H2 fun u H3 => rr x l u H3 Q) : tSl rr te tl th σ H Q := k
variable {PO : Option Int → Hp → Prop}
theorem w_po (k : te σ H fun x H1 => ∃ i, x = .int i ∧ PO (some i) H1) : tPart te σ H PO := k
theorem w_no (k : PO none H) : tNoPart σ H PO := k
theorem w_qbm {rr : V → List V → Hp → VK → Prop} (k : te σ H fun x H1 => (∃ p xs, x = .ref p ∧ H1 p = some (.lst xs)) ∧ tr σ H1 fun xs H2 => rr x xs H2 Q) : qBM rr te tr σ H Q := k
/-- what is drawn as a new pair -/
theorem g_pair {T : Addr} {i j : Nat} {a b : V} {Z : L2.St → Hp → Prop} (h : H T = some (.tup [a, b])) (k : Z ((σ.set i (some a)).set j (some b)) H) : gTup K 2 (gCons (gName i) (gCons (gName j) gNil)) (.ref T) σ H Z :=
  ⟨T, [a, b], rfl, SqT.of h, rfl, a, [b], rfl, b, [], rfl, rfl, k⟩
theorem upd_old {a p : Addr} {o u : HO} (h : H a = some o) (hp : H p = none) : upd H p u a = some o := (upd_ne (ne_of_none h hp)).trans h
/-! both ways of a test -/
theorem ifd {A B p : Prop} [Decidable p] (h1 : p → A) (h2 : ¬ p → B) : if decide p = true then A else B := by
  by_cases h : p
  · rw [if_pos (decide_eq_true h)]; exact h1 h
  · rw [if_neg (by rw [decide_eq_false h]; exact Bool.false_ne_true)]; exact h2 h
theorem ifnd {A B p : Prop} [Decidable p] (h1 : ¬ p → A) (h2 : p → B) : if (!decide p) = true then A else B := by
  by_cases h : p
  · rw [if_neg (by rw [decide_eq_true h]; exact Bool.false_ne_true)]; exact h2 h
  · rw [if_pos (by rw [decide_eq_false h]; rfl)]; exact h1 h
theorem ift {A B : Prop} {b : Bool} (e : b = true) (h : A) : if b = true then A else B := by rw [if_pos e]; exact h
theorem iff_ {A B : Prop} {b : Bool} (e : b = false) (h : B) : if b = true then A else B := by rw [if_neg (by rw [e]; exact Bool.false_ne_true)]; exact h
theorem ifb {A B : Prop} {b : Bool} (h1 : b = true → A) (h2 : b = false → B) : if b = true then A else B := by
  cases b with
  | true => exact h1 rfl
  | false => exact h2 rfl
end
/-! comprehensions -/
section
variable {K : PySem.W.Frag} {σ : L2.St} {H : Hp} {Q : VK} {J : It} {n : Nat} {G : Hp → Prop} {Y : Nat → Hp → V → Hp → Prop} {g : TG} {tt : TT} {te tk tv : TE} {vs : List Nat} {ex : Addr → Prop} {M0 H0 M : Hp}
/-- what a list comprehension has made so far: acc at D, told by A -/
structure LcS (ex : Addr → Prop) (M0 H0 : Hp) (D : Addr) (A : List V → Hp → Prop) (H : Hp) : Prop where
  ex : ∃ M acc, Stp ex M0 H0 M H ∧ M D = none ∧ H D = some (.lst acc) ∧ A acc M
/-- one more item comes to the list at D -/
abbrev LcA (ex : Addr → Prop) (M0 H0 : Hp) (D : Addr) (A : List V → Hp → Prop) (y : V) (H : Hp) : Prop := ∃ acc, H D = some (.lst acc) ∧ acc.length < sizeLine ∧ LcS ex M0 H0 D A (upd H D (.lst (acc ++ [y])))
theorem LcA.of {ex : Addr → Prop} {M0 H0 M H : Hp} {D : Addr} {A : List V → Hp → Prop} {y : V} {acc : List V} (hD : H0 D = none) (S : Stp ex M0 H0 M H) (m : M D = none) (h : H D = some (.lst acc)) (hl : acc.length ≤ 1000000) (a : A (acc ++ [y]) M) : LcA ex M0 H0 D A y H :=
  ⟨acc, h, Nat.lt_of_le_of_lt hl (by decide), M, _, S.put _ m (.inl hD), m, upd_same, a⟩
theorem LcS.of {ex : Addr → Prop} {M0 H0 M H : Hp} {D : Addr} {A : List V → Hp → Prop} {acc : List V} (S : Stp ex M0 H0 M H) (m : M D = none) (h : H D = some (.lst acc)) (a : A acc M) : LcS ex M0 H0 D A H := ⟨M, acc, S, m, h, a⟩
/-- a list comprehension: A i acc M what holds of the items made in the first i turns -/
theorem lc_go (w : Walk J n G Y) (s0 : Same M H) (A : Nat → List V → Hp → Prop) (a0 : A 0 [] M) (hG : ∀ M' H', Stp ex M H M' H' → G H')
    (turn : ∀ i x acc M1 H1 H1' D, i < n → Stp ex M H M1 H1 → H D = none → M1 D = none → H1 D = some (.lst acc) → A i acc M1 → Y i H1 x H1' →
      g x (wipe σ vs) H1' fun σ2 H2 => wipe σ2 vs = wipe σ vs ∧ tt σ2 H2 fun b H3 => if b = true then te σ2 H3 fun y H4 => LcA ex M H D (A (i + 1)) y H4 else LcS ex M H D (A (i + 1)) H3)
    (done : ∀ D acc M1 H1, H D = none → Stp ex M H M1 H1 → M1 D = none → H1 D = some (.lst acc) → A n acc M1 → Q (.ref D) H1) :
    LcG J g tt te vs σ Q H := by
  intro D hD
  have R := Stp.refl (ex := ex) s0
  exact lc_it w (fun i H' => LcS ex M H D (A i) H') ⟨M, [], R.new _ hD, R.mfree hD, upd_same, a0⟩ (fun i H' _ ⟨M', acc, S', _, _, _⟩ => hG M' H' S')
    (fun i x H1 H1' hi ⟨M1, acc, S1, m1, h1, a1⟩ hy => turn i x acc M1 H1 H1' D hi S1 hD m1 h1 a1 hy) (fun H1 ⟨M1, acc, S1, m1, h1, a1⟩ => done D acc M1 H1 hD S1 m1 h1 a1)
/-- a for: A i σ M H what holds ahead of turn i -/
theorem fo_go {t : TS} {D : Ends} (w : Walk J n G Y) (A : Nat → L2.St → Hp → Prop) (a0 : A 0 σ H) (hG : ∀ i σ' H', i ≤ n → A i σ' H' → G H')
    (turn : ∀ i x σ1 H1 H1', i < n → A i σ1 H1 → Y i H1 x H1' → g x σ1 H1' fun σ2 H2 => t { D with nx := A (i + 1), ct := A (i + 1), bk := D.nx } σ2 H2) (done : ∀ σ' H', A n σ' H' → D.nx σ' H') : FoG J g t D σ H :=
  for_it w A a0 hG turn done
end
end Nt
/-! Texts as lists of signs; rows over one another; lists taken from the front. -/
namespace Nt
open PySem PySem.Spec PyProof.Rows L2
abbrev sl (x : Str) : List Nat := x.cps.toList
abbrev mkS (l : List Nat) : Str := ⟨l.toArray⟩
theorem sl_mk (l : List Nat) : sl (mkS l) = l := by simp
theorem mk_sl (x : Str) : mkS (sl x) = x := by cases x; simp
theorem sl_inj {x y : Str} (h : sl x = sl y) : x = y := str_ext h
theorem len_sl (x : Str) : x.length = (sl x).length := by show x.cps.size = _; simp
theorem len_mk (l : List Nat) : (mkS l).length = l.length := by rw [len_sl, sl_mk]
theorem ch_inj {a b : Nat} : ch a = ch b ↔ a = b := by simp
theorem ch_dot {c : Nat} : ch c = "." ↔ c = 46 := by
  have e : (("." : Str)) = ch 46 := by decide +kernel
  rw [e, ch_inj]
theorem joinL_nil : ∀ ls : List (List Nat), TL.joinL [] ls = ls.flatten
  | [] => rfl
  | [p] => by simp [TL.joinL]
  | p :: q :: r => by
    show p ++ ([] ++ TL.joinL [] (q :: r)) = _
    rw [joinL_nil (q :: r)]
    simp
theorem sl_join (ys : List Str) : sl (Txt.join ("" : Str) ys) = (ys.map sl).flatten := by
  rw [TL.join_eq]
  show TL.tl _ = _
  rw [TL.tl_join]
  exact joinL_nil _
theorem join_ch (l : List Nat) : Txt.join ("" : Str) (l.map ch) = mkS l := by
  apply sl_inj
  rw [sl_join, sl_mk, List.map_map]
  induction l with
  | nil => rfl
  | cons a r ih =>
    rw [List.map_cons, List.flatten_cons, ih]
    rfl
theorem join_size (l : List Nat) (h : l.length ≤ 10000) : ((l.map ch).map (·.length)).sum + (l.map ch).length * ("" : Str).length ≤ 16777216 := by
  have e : ((l.map ch).map (·.length)).sum = l.length := by
    clear h
    induction l with
    | nil => rfl
    | cons a r ih =>
      rw [List.map_cons, List.map_cons, List.sum_cons, ih, List.length_cons]
      show 1 + r.length = _
      omega
  rw [e]
  show l.length + _ * 0 ≤ _
  omega
/-! ### lists from the front -/
section
variable {α β : Type} {l : List α} {i : Nat} {a : α} {p : α → Bool} {f : α → β}
theorem tk_snoc (h : l[i]? = some a) : l.take (i + 1) = l.take i ++ [a] := by rw [List.take_add_one, h]; rfl
theorem tkm (h : l[i]? = some a) : (l.take (i + 1)).map f = (l.take i).map f ++ [f a] := by rw [tk_snoc h, List.map_append]; rfl
theorem tkf_yes (h : l[i]? = some a) (hp : p a = true) : ((l.take (i + 1)).filter p).map f = ((l.take i).filter p).map f ++ [f a] := by
  rw [tk_snoc h, List.filter_append, List.map_append, List.filter_cons, if_pos hp]; rfl
theorem tkf_no (h : l[i]? = some a) (hp : p a = false) : ((l.take (i + 1)).filter p).map f = ((l.take i).filter p).map f := by
  rw [tk_snoc h, List.filter_append, List.map_append, List.filter_cons, if_neg (by rw [hp]; exact Bool.false_ne_true)]; simp
theorem tk_all : l.take l.length = l := List.take_length
theorem lt_of_get (h : l[i]? = some a) : i < l.length := (List.getElem?_eq_some_iff.mp h).1
theorem mem_of_get (h : l[i]? = some a) : a ∈ l := List.mem_of_getElem? h
end
/-! ### what is walked, by lists -/
theorem walkS {z : Str} : Walk (Its z) (sl z).length (fun _ => True) (fun i H v H' => H' = H ∧ ∃ c, (sl z)[i]? = some c ∧ v = .str (ch c)) := by
  have e : (sl z).length = z.cps.size := by simp
  rw [e]
  exact walk_str.mono (fun _ h => h) fun i H v H' _ _ ⟨h1, c, h2, h3⟩ => ⟨h1, c, by simpa using h2, h3⟩
theorem walkZ {x y : Str} : Walk (ItZss x y) ((sl x).zip (sl y)).length (fun _ => True)
    (fun i H v H' => ∃ T c d, v = .ref T ∧ H T = none ∧ H' = upd H T (.tup [.str (ch c), .str (ch d)]) ∧ ((sl x).zip (sl y))[i]? = some (c, d)) := by
  have e : ((sl x).zip (sl y)).length = min x.cps.size y.cps.size := by simp
  rw [e]
  refine walk_zss.mono (fun _ h => h) fun i H v H' hi _ ⟨T, a, b, h1, h2, h3, h4, h5⟩ => ?_
  dsimp only at h4 h5
  cases ea : x.cps[i]? with
  | none => rw [ea] at h4; cases h4
  | some c =>
    cases eb : y.cps[i]? with
    | none => rw [eb] at h5; cases h5
    | some d =>
      rw [ea] at h4
      rw [eb] at h5
      have h4' : V.str (ch c) = a := Option.some.inj h4
      have h5' : V.str (ch d) = b := Option.some.inj h5
      refine ⟨T, c, d, h1, h2, by rw [h3, ← h4', ← h5'], ?_⟩
      rw [List.getElem?_zip_eq_some]
      exact ⟨by simpa using ea, by simpa using eb⟩
theorem walkZl {K : PySem.W.Frag} {x : Str} {b : Addr} {ys : List V} : Walk (ItZsl K x b) ((sl x).zip ys).length (fun H => H b = some (.lst ys))
    (fun i H v H' => ∃ T c w, v = .ref T ∧ H T = none ∧ H' = upd H T (.tup [.str (ch c), w]) ∧ ((sl x).zip ys)[i]? = some (c, w)) := by
  have e : ((sl x).zip ys).length = min x.cps.size ys.length := by simp
  rw [e]
  refine walk_zsl.mono (fun _ h => SqL.of h) fun i H v H' hi _ ⟨T, a, w, h1, h2, h3, h4, h5⟩ => ?_
  dsimp only at h4 h5
  cases ea : x.cps[i]? with
  | none => rw [ea] at h4; cases h4
  | some c =>
    rw [ea] at h4
    have h4' : V.str (ch c) = a := Option.some.inj h4
    refine ⟨T, c, w, h1, h2, by rw [h3, ← h4'], ?_⟩
    rw [List.getElem?_zip_eq_some]
    exact ⟨by simpa using ea, h5⟩
theorem walkL {K : PySem.W.Frag} {a : Addr} {xs : List V} : Walk (Itl K a) xs.length (fun H => H a = some (.lst xs)) (YAt xs) := walk_list.mono (fun _ h => SqL.of h) fun _ _ _ _ _ _ y => y
theorem walkT {K : PySem.W.Frag} {a : Addr} {xs : List V} : Walk (Itt K a) xs.length (fun H => H a = some (.tup xs)) (YAt xs) := walk_tup.mono (fun _ h => SqT.of h) fun _ _ _ _ _ _ y => y
theorem walkE {K : PySem.W.Frag} {a : Addr} {xs : List V} : Walk (Ite K a) xs.length (fun H => H a = some (.lst xs))
    (fun i H v H' => ∃ T x, v = .ref T ∧ H T = none ∧ H' = upd H T (.tup [.int (i : Nat), x]) ∧ xs[i]? = some x) :=
  walk_enum.mono (fun _ h => SqL.of h) fun i H v H' _ _ ⟨T, x, y, h1, h2, h3, h4, h5⟩ => ⟨T, y, h1, h2, by rw [h3, ← Option.some.inj h4], h5⟩
/-! ### rows -/
def ovN (p : Nat × Nat) : Nat := if p.1 = 46 then p.2 else p.1
def ovr (x y : Str) : Str := mkS (((sl x).zip (sl y)).map ovN)
def ltN (a : Nat) : Nat := if a = 46 then 46 else 43
def lotS (x : Str) : Str := mkS ((sl x).map ltN)
def blk (n : Nat) : Str := mkS (List.replicate n 46)
theorem ovr_sl (x y : Str) : sl (ovr x y) = ((sl x).zip (sl y)).map ovN := sl_mk _
theorem ovr_len {x y : Str} (h : x.length = y.length) : (ovr x y).length = x.length := by
  rw [len_sl, len_sl] at h
  rw [len_sl, ovr_sl, len_sl, List.length_map, List.length_zip, h, Nat.min_self]
theorem blk_len (n : Nat) : (blk n).length = n := by rw [blk, len_mk, List.length_replicate]
end Nt
/-! Data by their types; data compared. -/
namespace Nt
open PySem PySem.Spec PyProof.Rows L2
def Dat.ty : Dat → String
  | .non => "NoneType"
  | .bl _ => "bool"
  | .int _ => "int"
  | .str _ => "str"
  | .lst _ => "list"
  | .tup _ => "tuple"
  | .dct => "dict"
def tyNames : List String := ["NoneType", "bool", "int", "str", "list", "tuple", "dict"]
theorem Dat.ty_mem (d : Dat) : d.ty ∈ tyNames := by cases d <;> simp [Dat.ty, tyNames]
def isTy (t c : String) : Bool := decide (t = c) || (decide (t = "bool") && decide (c = "int"))
theorem kit_all : ∀ t ∈ tyNames, ∀ c ∈ ["bool", "int", "str", "list", "tuple", "dict"], kitB t c = some (isTy t c) := by decide +kernel
abbrev Dat.isT (d : Dat) (c : String) : Bool := isTy d.ty c
theorem Is.tyN {M H : Hp} {d : Dat} {v : V} (s : Same M H) (h : Is M d v) : TyN v H d.ty := by
  cases d with
  | non => rw [show v = .non from h]; rfl
  | bl b => rw [show v = .bl b from h]; rfl
  | int i => rw [show v = .int i from h]; rfl
  | str x => rw [show v = .str x from h]; rfl
  | lst ds => obtain ⟨a, vs, e, q, _⟩ := h; rw [e]; exact .inl ⟨rfl, vs, s _ _ q⟩
  | tup ds => obtain ⟨a, vs, e, q, _⟩ := h; rw [e]; exact .inr (.inl ⟨rfl, vs, s _ _ q⟩)
  | dct => obtain ⟨a, e, q⟩ := h; rw [e]; exact .inr (.inr ⟨rfl, q.elim (fun ⟨kvs, q⟩ => .inl ⟨kvs, s _ _ q⟩) fun ⟨kvs, q⟩ => .inr ⟨kvs, s _ _ q⟩⟩)
section
variable {M H : Hp} {Q : VK} {d : Dat} {v : V} {c e : String}
theorem w_isi (s : Same M H) (h : Is M d v) (hc : c ∈ ["bool", "int", "str", "list", "tuple", "dict"]) (k : Q (.bl (d.isT c)) H) : qIsi [v, .ty c] H Q :=
  ⟨v, c, d.ty, d.isT c, rfl, h.tyN s, kit_all _ d.ty_mem _ hc, k⟩
theorem w_isi2 {tp : Addr} (s : Same M H) (h : Is M d v) (ht : H tp = some (.tup [.ty c, .ty e])) (hc : c ∈ ["bool", "int", "str", "list", "tuple", "dict"]) (he : e ∈ ["bool", "int", "str", "list", "tuple", "dict"]) (k : Q (.bl (d.isT c || d.isT e)) H) : qIsi2 [v, .ref tp] H Q :=
  ⟨v, tp, c, e, d.ty, _, _, rfl, ht, h.tyN s, kit_all _ d.ty_mem _ hc, kit_all _ d.ty_mem _ he, k⟩
/-- isinstance(v, (c, e)) with the tuple made on the way -/
theorem w_isi2n {M0 H0 : Hp} {ex : Addr → Prop} (S : Stp ex M0 H0 M H) (h : Is M d v) (hc : c ∈ ["bool", "int", "str", "list", "tuple", "dict"]) (he : e ∈ ["bool", "int", "str", "list", "tuple", "dict"])
    (k : ∀ p H', H p = none → Stp ex M0 H0 M H' → H' = upd H p (.tup [.ty c, .ty e]) → Q (.bl (d.isT c || d.isT e)) H') :
    ([V.ty c, .ty e] : List V).length ≤ sizeLine ∧ ∀ p, H p = none → qIsi2 [v, .ref p] (upd H p (.tup [.ty c, .ty e])) Q :=
  ⟨by show 2 ≤ sizeLine; decide, fun p hp => w_isi2 (S.new _ hp).mh h upd_same hc he (k p _ hp (S.new _ hp) rfl)⟩
end
/-- cells -/
abbrev cellD (c : Str × Nat) : Dat := .tup [.str c.1, .int (c.2 : Int)]
abbrev cellsD (cs : List (Str × Nat)) : Dat := .lst (cs.map cellD)
theorem Is.cell {M : Hp} {c : Str × Nat} {v : V} (h : Is M (cellD c) v) : ∃ a, v = .ref a ∧ M a = some (.tup [.str c.1, .int (c.2 : Int)]) := by
  obtain ⟨a, vs, e, q, v1, r1, e1, q1, v2, r2, e2, q2, q3⟩ := h
  rw [show r2 = [] from q3] at e2
  rw [e2, show v2 = .int (c.2 : Int) from q2] at e1
  rw [e1, show v1 = .str c.1 from q1] at q
  exact ⟨a, e, q⟩
theorem Is.tup1 {M : Hp} {ds : List Dat} {v : V} (h : Is M (.tup ds) v) : ∃ a vs, v = .ref a ∧ M a = some (.tup vs) ∧ IsA M ds vs := h
theorem Is.lst1 {M : Hp} {ds : List Dat} {v : V} (h : Is M (.lst ds) v) : ∃ a vs, v = .ref a ∧ M a = some (.lst vs) ∧ IsA M ds vs := h
end Nt
/-! The bag that is drawn from; cuts; lists of lists that still grow. -/
namespace Nt
open PySem PySem.Spec PyProof.Rows L2
/-- what follows a statement is told by I alone -/
theorem w_cut {t u : TS} {D : Ends} {σ : L2.St} {H : Hp} (I : L2.St → Hp → Prop) (h : ∀ σ' H', I σ' H' → u D σ' H') (k : ∀ U : L2.St → Hp → Prop, (∀ σ' H', I σ' H' → U σ' H') → t { D with nx := U } σ H) : tSeq t u D σ H := k _ h
structure Bag (M H : Hp) (b : Addr) : Prop where
  mb : M b = none
  ex : ∃ (a : Addr) (xs : List Int) (i r m c : Int), H b = some (.lst [.ref a, .int i, .int r, .int m, .int c]) ∧ M a = some (.lst (xs.map V.int)) ∧ 0 ≤ i ∧ 0 ≤ r ∧ 0 ≤ m ∧ m < 2147483629
abbrev exB (b : Addr) : Addr → Prop := fun a => a = b
section
variable {M H M' H' M1 H1 : Hp} {b p : Addr} {o : HO}
theorem Bag.has (B : Bag M H b) : H b ≠ none := by
  obtain ⟨a, xs, i, r, m, c, h, _⟩ := B.ex
  rw [h]
  exact Option.some_ne_none _
theorem Bag.keep (B : Bag M H b) (S : Stp no M H M' H') : Bag M' H' b := by
  obtain ⟨a, xs, i, r, m, c, h, h2, h3⟩ := B.ex
  exact ⟨S.fr b B.mb B.has, a, xs, i, r, m, c, S.same _ _ h, S.mm _ _ h2, h3⟩
theorem Bag.put (B : Bag M H b) (hp : M p = none) (ne : p ≠ b) : Bag M (L2.upd H p o) b := by
  obtain ⟨a, xs, i, r, m, c, h, h2, h3⟩ := B.ex
  exact ⟨B.mb, a, xs, i, r, m, c, by rw [upd_ne (Ne.symm ne)]; exact h, h2, h3⟩
theorem Bag.ne (B : Bag M H b) (hp : H p = none) : p ≠ b := fun z => B.has (by rw [← z]; exact hp)
theorem Bag.new (B : Bag M H b) (s : Same M H) (hp : H p = none) : Bag M (L2.upd H p o) b := B.put (none_of_same s hp) (B.ne hp)
end
end Nt
namespace Nt
open PySem PySem.Spec PyProof.Rows L2
section
variable {M H M' H' M1 H1 : Hp} {b p : Addr} {o : HO}
theorem Bag.lay (B : Bag M H b) (s : Same M H) (hp : H p = none) : Bag (upd M p o) (upd H p o) b := B.keep ((Stp.refl s).lay o hp)
theorem Bag.fix (B : Bag M H b) (ne : p ≠ b) (hp : M p = none ∨ M p = some o) : Bag (upd M p o) H b := by
  obtain ⟨a, xs, i, r, m, c, h, h2, h3⟩ := B.ex
  refine ⟨by rw [upd_ne (Ne.symm ne)]; exact B.mb, a, xs, i, r, m, c, h, ?_, h3⟩
  by_cases q : a = p
  · subst q
    rcases hp with z | z
    · rw [z] at h2; cases h2
    · rw [upd_same, ← z, h2]
  · rw [upd_ne q]; exact h2
abbrev RetB (b : Addr) (M H : Hp) (Q : VK) (P : Dat → Prop) : Prop := ∀ d v M' H', P d → Stp (exB b) M H M' H' → Bag M' H' b → Is M' d v → Q v H'
theorem RetB.of {M0 H0 : Hp} {Q : VK} {P P' : Dat → Prop} (k : ∀ d v M' H', P d → Stp (exB b) M0 H0 M' H' → Bag M' H' b → Is M' d v → Q v H') (S : Stp (exB b) M0 H0 M H) (h : ∀ d, P' d → P d) : RetB b M H Q P' :=
  fun d v M' H' p S' B i => k d v M' H' (h d p) (S.trans S') B i
end
def isI (n : Int) (d : Dat) : Prop := ∃ k : Nat, d = .int k ∧ (k : Int) < n
theorem isI_fmod {x n : Int} (hn : 0 < n) : isI n (.int (x.fmod n)) := by
  have h1 := Int.fmod_nonneg_of_pos x hn
  have h2 := Int.fmod_lt_of_pos x hn
  exact ⟨(x.fmod n).toNat, by rw [Int.toNat_of_nonneg h1], by rw [Int.toNat_of_nonneg h1]; exact h2⟩
end Nt
namespace Nt
open PySem PySem.Spec PyProof.Rows L2
section
variable {K : PySem.W.Frag} {σ : L2.St} {H : Hp} {Q : VK} {p : Addr} {xs : List V} {v : V} {i j : Int} {k : Nat}
theorem w_ixl (h : H p = some (.lst xs)) (e : atI xs j = some v) (k : Q v H) : qIxL (.ref p) (.int j) H Q := ⟨p, xs, j, v, rfl, rfl, h, e, k⟩
theorem w_ixt (h : H p = some (.tup xs)) (e : atI xs j = some v) (k : Q v H) : qIxT (.ref p) (.int j) H Q := ⟨p, xs, j, v, rfl, rfl, h, e, k⟩
theorem w_int1 {P : Int → Prop} {R : Prop} (k : P i) : (∃ a, [V.int i] = [V.int a] ∧ P a) ∨ R := .inl ⟨i, rfl, k⟩
theorem w_mod (h : j ≠ 0) (k : Q (.int (i.fmod j)) H) : rI (fun _ j => j ≠ 0) (fun i j => .int (i.fmod j)) (.int i) (.int j) H Q := ⟨i, j, rfl, rfl, h, k⟩
theorem w_div (h : j ≠ 0) (h2 : j.natAbs < 1073741824) (k : Q (.int (i.fdiv j)) H) : rI CDivN (fun i j => .int (i.fdiv j)) (.int i) (.int j) H Q := ⟨i, j, rfl, rfl, ⟨h, h2⟩, k⟩
theorem w_mulR (h : -(2 ^ 64) < j ∧ j < 2 ^ 64) (k : Q (.int (i * j)) H) : rI CMul (fun i j => .int (i * j)) (.int i) (.int j) H Q := ⟨i, j, rfl, rfl, .inr h, k⟩
theorem w_pow (h : 0 ≤ j ∧ j ≤ 1000000) (h2 : i.natAbs < 2 ^ 64) (k : Q (.int (i ^ j.toNat)) H) : rI CPow (fun i j => .int (i ^ j.toNat)) (.int i) (.int j) H Q := ⟨i, j, rfl, rfl, ⟨h.1, h.2, h2⟩, k⟩
theorem w_gsub {to ti : TE} {t : TSet} {Z : L2.St → Hp → Prop} (k : to σ H fun o H1 => ti σ H1 fun i H2 => t o i v H2 fun H3 => Z σ H3) : gSub to ti t v σ H Z := k
theorem w_setl {Z : Hp → Prop} (h : H p = some (.lst xs)) (e : ixN xs.length j = some k) (q : Z (upd H p (.lst (xs.set k v)))) : rSetL (.ref p) (.int j) v H Z := ⟨p, xs, j, k, rfl, rfl, h, e, q⟩
theorem w_gtup2 {T : Addr} {a b : V} {t : TGs} {Z : L2.St → Hp → Prop} (k : t [a, b] σ (upd H T (.tup [a, b])) Z) : gTup K 2 t (.ref T) σ (upd H T (.tup [a, b])) Z := ⟨T, [a, b], rfl, SqT.of upd_same, rfl, k⟩
theorem w_gcons {t : TG} {u : TGs} {r : List V} {Z : L2.St → Hp → Prop} (k : t v σ H fun σ' H' => u r σ' H' Z) : gCons t u (v :: r) σ H Z := ⟨v, r, rfl, k⟩
theorem w_gnil {Z : L2.St → Hp → Prop} (k : Z σ H) : gNil [] σ H Z := ⟨rfl, k⟩
theorem w_litT {n : Nat} {Z : Addr → Prop} (h : n.ble 30 = true) (k : ∀ p, H p = none → Z p) : n ≤ sizeLine ∧ ∀ p, H p = none → Z p := ⟨Nat.le_trans (Nat.le_of_ble_eq_true h) (by decide), k⟩
end
end Nt
namespace Nt
open PySem PySem.Spec PyProof.Rows L2
theorem atI_nat {α : Type} {xs : List α} {i : Nat} {x : α} (h : xs[i]? = some x) : atI xs (i : Int) = some x := by
  have hl := (List.getElem?_eq_some_iff.mp h).1
  show (ixN xs.length (i : Int)).bind _ = _
  have e : ixN xs.length (i : Int) = some i := by
    unfold ixN
    simp
    omega
  rw [e]
  exact h
theorem atI_map {xs : List Int} {i : Int} {x : Int} (h0 : 0 ≤ i) (h : xs[i.toNat]? = some x) : atI (xs.map V.int) i = some (.int x) := by
  obtain ⟨n, rfl⟩ : ∃ n : Nat, i = n := ⟨i.toNat, by omega⟩
  exact atI_nat (by simpa using h)
end Nt
namespace Nt
open PySem PySem.Spec PyProof.Rows L2
theorem dot_ch : ("." : Str) = ch 46 := by decide +kernel
/-- a list or a tuple -/
def IsQ (M : Hp) (ds : List Dat) (v : V) : Prop := ∃ a vs, v = .ref a ∧ (M a = some (.lst vs) ∨ M a = some (.tup vs)) ∧ IsA M ds vs
theorem Is.q {M : Hp} {ds : List Dat} {v : V} (h : Is M (.lst ds) v) : IsQ M ds v := by
  obtain ⟨a, vs, e, q, r⟩ := h
  exact ⟨a, vs, e, .inl q, r⟩
theorem Is.qt {M : Hp} {ds : List Dat} {v : V} (h : Is M (.tup ds) v) : IsQ M ds v := by
  obtain ⟨a, vs, e, q, r⟩ := h
  exact ⟨a, vs, e, .inr q, r⟩
theorem IsQ.mono {M M' : Hp} (s : Same M M') {ds : List Dat} {v : V} (h : IsQ M ds v) : IsQ M' ds v := by
  obtain ⟨a, vs, e, q, r⟩ := h
  exact ⟨a, vs, e, q.imp (s _ _) (s _ _), r.mono s⟩
theorem w_ixq {H : Hp} {a : Addr} {vs : List V} {v : V} {k : Nat} {Q : VK} (h : H a = some (.lst vs) ∨ H a = some (.tup vs)) (e : vs[k]? = some v) (q : Q v H) : qIxQ (.ref a) (.int k) H Q :=
  h.elim (fun h => .inl ⟨a, vs, k, v, rfl, rfl, h, atI_nat e, q⟩) fun h => .inr (.inl ⟨a, vs, k, v, rfl, rfl, h, atI_nat e, q⟩)
theorem IsA.at' {M : Hp} {ds : List Dat} {vs : List V} {i : Nat} (h : IsA M ds vs) (hi : i < ds.length) : ∃ v d, vs[i]? = some v ∧ ds[i]? = some d ∧ d ∈ ds ∧ Is M d v := by
  have e := List.getElem?_eq_getElem hi
  obtain ⟨v, a, b⟩ := h.at e
  exact ⟨v, _, a, e, List.getElem_mem hi, b⟩
/-- what is taken out, and what is left -/
def Sub (n : Nat) (ds es : List Dat) : Prop := ∃ r, (es ++ r).Perm ds ∧ es.length = n
/-- a rule's bound -/
theorem line_of {n : Nat} (h : n ≤ 1000000) : n ≤ sizeLine := Nat.le_trans h (by decide)
theorem line_lt {n : Nat} (h : n ≤ 1000000) : n < sizeLine := Nat.lt_of_le_of_lt h (by decide)
/-- what a list of texts keeps -/
def nodot (x : Str) : Bool := !decide (46 ∈ sl x)
def fullS (xs : List Str) : List Str := xs.filter nodot
section
variable {M H M' H' M0 H0 : Hp} {ex : Addr → Prop} {Q : VK} {D : Addr}
theorem ret_strs {xs : List Str} {acc : List V} (k : Ret M0 H0 Q (dS xs)) (S : Stp no M0 H0 M H) (hD : H0 D = none) (h : H D = some (.lst acc)) (e : acc = xs.map V.str) : Q (.ref D) H :=
  k _ _ _ (S.fix h hD) (Is.of_strs (by rw [upd_same, e]))
theorem len_tf {α : Type} {l : List α} {p : α → Bool} {i n : Nat} {f : α → V} (h : l.length ≤ n) : (((l.take i).filter p).map f).length ≤ n := by
  rw [List.length_map]
  exact Nat.le_trans (List.length_filter_le _ _) (Nat.le_trans (by rw [List.length_take]; exact Nat.min_le_right _ _) h)
theorem len_tm {α : Type} {l : List α} {i n : Nat} {f : α → V} (h : l.length ≤ n) : ((l.take i).map f).length ≤ n := by
  rw [List.length_map]
  exact Nat.le_trans (by rw [List.length_take]; exact Nat.min_le_right _ _) h
theorem map_at {α : Type} {l : List α} {f : α → V} {i : Nat} {v : V} (h : (l.map f)[i]? = some v) : ∃ x, l[i]? = some x ∧ v = f x := by
  rw [List.getElem?_map] at h
  cases e : l[i]? with
  | none => rw [e] at h; cases h
  | some x => rw [e] at h; exact ⟨x, rfl, (Option.some.inj h).symm⟩
end
end Nt
namespace Nt
open PySem PySem.Spec PyProof.Rows L2
section
variable {σ : L2.St} {H : Hp} {D : Ends} {ta : TA}
theorem w_par {i j : Nat} (k : ta σ H fun vs H1 => ∃ v w, vs = [v, w] ∧ D.nx ((σ.set i (some v)).set j (some w)) H1) : tPar i j ta D σ H := k
theorem w_pair {v w : V} {P : V → V → Prop} (k : P v w) : ∃ a b, [v, w] = [a, b] ∧ P a b := ⟨v, w, rfl, k⟩
theorem w_min2 {i j : Int} {P : Int → Int → Prop} (k : P i j) : ∃ a b, [V.int i, V.int j] = [V.int a, V.int b] ∧ P a b := ⟨i, j, rfl, k⟩
theorem w_r1 {n : Nat} {P : Int → Prop} (h : n ≤ 1000000) (k : P n) : ∃ a, [V.int n] = [V.int a] ∧ -(2 ^ 62) ≤ a ∧ a < 2 ^ 62 ∧ P a := ⟨n, rfl, by omega, by omega, k⟩
theorem w_rng {R : It → Hp → Prop} (k : ta σ H fun vs H1 => ∃ j : Int, vs = [.int j] ∧ -(2 ^ 62) ≤ j ∧ j < 2 ^ 62 ∧ R (Itr 0 j.toNat) H1) : iRng1 ta σ H R := k
end
section
variable {M0 H0 M H M' H' : Hp} {b p : Addr} {o : HO}
theorem Stp.keepB (S : Stp (exB b) M H M' H') (m : M p = none) (h : H p = some o) (ne : p ≠ b) : M' p = none ∧ H' p = some o :=
  ⟨S.fr p m (by rw [h]; exact Option.some_ne_none o), S.hh p o ne h⟩
theorem Stp.keep (S : Stp no M H M' H') (m : M p = none) (h : H p = some o) : M' p = none ∧ H' p = some o :=
  ⟨S.fr p m (by rw [h]; exact Option.some_ne_none o), S.hh p o (fun z => z) h⟩
end
theorem perm_erase {α : Type} {d : α} : ∀ {l : List α} {k : Nat}, l[k]? = some d → (d :: l.eraseIdx k).Perm l
  | [], k, h => by simp at h
  | a :: l, 0, h => by
    have e : a = d := by simpa using h
    rw [e]
    exact List.Perm.refl _
  | a :: l, k + 1, h => by
    have r := perm_erase (l := l) (k := k) (by simpa using h)
    exact (List.Perm.swap a d _).trans (r.cons a)
theorem sub_step {ds es l : List Dat} {k : Nat} {d : Dat} (hp : (es ++ l).Perm ds) (e : l[k]? = some d) : ((es ++ [d]) ++ l.eraseIdx k).Perm ds := by
  refine List.Perm.trans ?_ hp
  rw [List.append_assoc]
  exact List.Perm.append_left es (perm_erase e)
theorem seqIx {n k : Nat} (h : k < n) : seqIndex? (k : Int) n = some k := by
  unfold seqIndex?
  simp
  omega
theorem two_ne {H : Hp} {l f : Addr} {o : HO} (h : upd H l o f = none) : f ≠ l ∧ H f = none := by
  have q : f ≠ l := fun z => by rw [z, upd_same] at h; cases h
  exact ⟨q, by rw [upd_ne q] at h; exact h⟩
end Nt
namespace Nt
open PySem PySem.Spec PyProof.Rows L2
theorem same_upd {M : Hp} {p : Addr} {o : HO} (h : M p = none) : Same M (upd M p o) := fun a u e => (upd_ne (ne_of_none e h)).trans e
end Nt
namespace Nt
open PySem PySem.Spec PyProof.Rows L2
section
variable {K : PySem.W.Frag} {σ : L2.St} {H : Hp} {Q : VK} {J : It} {n : Nat} {G : Hp → Prop} {Y : Nat → Hp → V → Hp → Prop} {g : TG} {tt : TT} {te tk tv : TE} {vs : List Nat} {M0 H0 M : Hp} {b : Addr}
/-- what a list comprehension that draws has made so far -/
structure LcT (b : Addr) (M0 H0 : Hp) (D : Addr) (A : List V → Hp → Prop) (H : Hp) : Prop where
  ex : ∃ M acc, Stp (exB b) M0 H0 M H ∧ Bag M H b ∧ M D = none ∧ H D = some (.lst acc) ∧ A acc M
abbrev LcB (b : Addr) (M0 H0 : Hp) (D : Addr) (A : List V → Hp → Prop) (y : V) (H : Hp) : Prop := ∃ acc, H D = some (.lst acc) ∧ acc.length < sizeLine ∧ LcT b M0 H0 D A (upd H D (.lst (acc ++ [y])))
theorem LcB.of {D : Addr} {A : List V → Hp → Prop} {y : V} {acc : List V} (hD : H0 D = none) (ne : D ≠ b) (S : Stp (exB b) M0 H0 M H) (B : Bag M H b) (m : M D = none) (h : H D = some (.lst acc)) (hl : acc.length ≤ 1000000) (a : A (acc ++ [y]) M) : LcB b M0 H0 D A y H :=
  ⟨acc, h, line_lt hl, M, _, S.put _ m (.inl hD), B.put m ne, m, upd_same, a⟩
theorem LcT.of {D : Addr} {A : List V → Hp → Prop} {acc : List V} (S : Stp (exB b) M0 H0 M H) (B : Bag M H b) (m : M D = none) (h : H D = some (.lst acc)) (a : A acc M) : LcT b M0 H0 D A H := ⟨M, acc, S, B, m, h, a⟩
theorem lc_goB (w : Walk J n G Y) (s0 : Same M H) (B : Bag M H b) (A : Nat → List V → Hp → Prop) (a0 : A 0 [] M) (hG : ∀ M' H', Stp (exB b) M H M' H' → G H')
    (turn : ∀ i x acc M1 H1 H1' D, i < n → Stp (exB b) M H M1 H1 → Bag M1 H1 b → H D = none → D ≠ b → M1 D = none → H1 D = some (.lst acc) → A i acc M1 → Y i H1 x H1' →
      g x (wipe σ vs) H1' fun σ2 H2 => wipe σ2 vs = wipe σ vs ∧ tt σ2 H2 fun c H3 => if c = true then te σ2 H3 fun y H4 => LcB b M H D (A (i + 1)) y H4 else LcT b M H D (A (i + 1)) H3)
    (done : ∀ D acc M1 H1, H D = none → D ≠ b → Stp (exB b) M H M1 H1 → Bag M1 H1 b → M1 D = none → H1 D = some (.lst acc) → A n acc M1 → Q (.ref D) H1) :
    LcG J g tt te vs σ Q H := by
  intro D hD
  have R := Stp.refl (ex := exB b) s0
  have ne := B.ne hD
  exact lc_it w (fun i H' => LcT b M H D (A i) H') ⟨M, [], R.new _ hD, B.new s0 hD, R.mfree hD, upd_same, a0⟩ (fun i H' _ ⟨M', acc, S', _, _, _, _⟩ => hG M' H' S')
    (fun i x H1 H1' hi ⟨M1, acc, S1, B1, m1, h1, a1⟩ hy => turn i x acc M1 H1 H1' D hi S1 B1 hD ne m1 h1 a1 hy) (fun H1 ⟨M1, acc, S1, B1, m1, h1, a1⟩ => done D acc M1 H1 hD ne S1 B1 m1 h1 a1)
/-- in, not in: a text among texts -/
theorem inV_strs (x : Str) : ∀ xs : List Str, inV (.str x) (xs.map V.str) = decide (x ∈ xs)
  | [] => by simp [inV]
  | y :: xs => by
    have ih := inV_strs x xs
    unfold inV at ih ⊢
    rw [List.map_cons, List.any_cons, ih]
    by_cases q : x = y
    · subst q
      simp [eqV]
    · have q' : ¬ y = x := fun z => q z.symm
      simp [eqV, q, q']
theorem flat_strs (xs : List Str) : (xs.map V.str).all flatV = true := by
  rw [List.all_map]
  exact List.all_eq_true.mpr fun _ _ => rfl
theorem w_inS {p : Addr} {x : Str} {xs : List Str} (h : H p = some (.lst (xs.map V.str)) ∨ H p = some (.tup (xs.map V.str))) (k : Q (.bl (decide (x ∈ xs))) H) : qIn false (.str x) (.ref p) H Q :=
  ⟨p, _, rfl, h, rfl, flat_strs xs, by
    show Q (.bl (inV _ _)) H
    rw [inV_strs]
    exact k⟩
theorem w_notInS {p : Addr} {x : Str} {xs : List Str} (h : H p = some (.lst (xs.map V.str)) ∨ H p = some (.tup (xs.map V.str))) (k : Q (.bl (!decide (x ∈ xs))) H) : qIn true (.str x) (.ref p) H Q :=
  ⟨p, _, rfl, h, rfl, flat_strs xs, by
    show Q (.bl (!inV _ _)) H
    rw [inV_strs]
    exact k⟩
end
/-! names -/
def low (c : Nat) : Bool := decide (97 ≤ c) && decide (c ≤ 122)
def NameOk (x : Str) : Prop := 1 ≤ (sl x).length ∧ (sl x).length ≤ 6 ∧ ∀ c ∈ sl x, low c = true
def LET : Str := "qhxbtmzkrwcnfdyjvgpsaouile"
theorem LET_low : ∀ c ∈ sl LET, low c = true := by decide +kernel
theorem LET_len : (sl LET).length = 26 := by decide +kernel
theorem LET_nd : (sl LET).Nodup := by decide +kernel
theorem LET_free {xs : List Str} (h : xs.length < 26) : ∃ c, c ∈ sl LET ∧ ch c ∉ xs := by
  apply Classical.byContradiction
  intro q
  have all : ∀ c ∈ sl LET, ch c ∈ xs := fun c hc => Classical.byContradiction fun z => q ⟨c, hc, z⟩
  have nd : ((sl LET).map ch).Nodup := by decide +kernel
  have := List.Nodup.length_le_of_subset nd (fun x hx => by
    obtain ⟨c, hc, rfl⟩ := List.mem_map.mp hx
    exact all c hc)
  rw [List.length_map, LET_len] at this
  omega
end Nt
namespace Nt
open PySem PySem.Spec PyProof.Rows L2
theorem w_gtup3 {K : PySem.W.Frag} {σ : L2.St} {H : Hp} {T : Addr} {a b c : V} {t : TGs} {Z : L2.St → Hp → Prop} (k : t [a, b, c] σ (upd H T (.tup [a, b, c])) Z) : gTup K 3 t (.ref T) σ (upd H T (.tup [a, b, c])) Z := ⟨T, [a, b, c], rfl, SqT.of upd_same, rfl, k⟩
theorem join_strs {cs : List Nat} {acc : List V} (h : acc = cs.map fun c => V.str (ch c)) : acc = (cs.map ch).map V.str := by rw [h]; simp
end Nt
namespace Nt
theorem nodup_snoc {α : Type} {l : List α} {a : α} (h : l.Nodup) (n : a ∉ l) : (l ++ [a]).Nodup := by
  rw [List.nodup_append]
  refine ⟨h, List.nodup_cons.mpr ⟨by simp, List.nodup_nil⟩, ?_⟩
  intro x hx y hy e
  rw [List.mem_singleton.mp hy] at e
  exact n (e ▸ hx)
end Nt
namespace Nt
open PySem PySem.Spec PyProof.Rows L2
theorem w_inti {i : Int} {P : Int → Prop} (k : P i) : ∃ a, V.int i = .int a ∧ P a := ⟨i, rfl, k⟩
section
variable {σ : L2.St} {H : Hp} {Q : VK} {ta tb tc te ty td : TE} {D : Ends}
theorem w_dIn (k : ty σ H fun y H1 => td σ H1 fun x H2 => ∃ a o, x = .ref a ∧ DGet H2 a y o ∧ Q (.bl o.isSome) H2) : tDIn ty td σ H Q := k
theorem w_dNotIn (k : ty σ H fun y H1 => td σ H1 fun x H2 => ∃ a o, x = .ref a ∧ DGet H2 a y o ∧ Q (.bl (!o.isSome)) H2) : tDNotIn ty td σ H Q := k
theorem w_dPut (k : tc σ H fun v H1 => td σ H1 fun x H2 => ty σ H2 fun y H3 => ∃ a H4, x = .ref a ∧ DPut H3 a y v H4 ∧ D.nx σ H4) : sDPut td ty tc D σ H := k
theorem w_dGet (k : td σ H fun x H1 => ty σ H1 fun y H2 => ∃ a v, x = .ref a ∧ DGet H2 a y (some v) ∧ Q v H2) : tDGet td ty σ H Q := k
theorem w_one {tk tv : TE} {Z : List (V × V) → Hp → Prop} (k : tk σ H fun x H1 => tv σ H1 fun y H2 => Z [(x, y)] H2) : tPairs [(tk, tv)] σ H Z := k
end
end Nt
/-! Dicts whose keys are texts; the rows that seeds make; sorting. -/
namespace Nt
open PySem PySem.Spec PyProof.Rows L2
def kd (f : Str → V) (xs : List Str) : List (Key × V) := xs.map fun x => (Sum.inr x, f x)
theorem kd_len (f : Str → V) (xs : List Str) : (kd f xs).length = xs.length := List.length_map _
theorem kd_val (f : Str → V) (x : Str) : ∀ xs : List Str, valV (kd f xs) (Sum.inr x) = if x ∈ xs then some (f x) else none
  | [] => rfl
  | y :: xs => by
    by_cases q : y = x
    · subst q
      rw [if_pos List.mem_cons_self]
      exact valV_pos rfl
    · have : (Sum.inr y : Key) ≠ Sum.inr x := fun z => q (Sum.inr.inj z)
      show valV ((Sum.inr y, f y) :: kd f xs) _ = _
      rw [valV_neg this, kd_val f x xs]
      have q' : ¬ x = y := fun z => q z.symm
      simp [q']
theorem kd_put (f : Str → V) (x : Str) (xs : List Str) (h : x ∉ xs) : putK (kd f xs) (Sum.inr x) (f x) = kd f (xs ++ [x]) := by
  rw [putK_new _ (by rw [kd_val, if_neg h])]
  simp [kd]
abbrev yes : Str → V := fun _ => .bl true
section
variable {σ : L2.St} {H : Hp} {Q : VK} {ta tb tc te ty td : TE} {D : Ends} {a : Addr} {f : Str → V} {xs : List Str} {x : Str}
theorem kd_has {P : Option V → Prop} (h : H a = some (.dK (kd f xs))) (k1 : x ∈ xs → P (some (f x))) (k2 : x ∉ xs → P none) : ∃ b o, V.ref a = .ref b ∧ DGet H b (.str x) o ∧ P o :=
  ⟨a, _, rfl, DGet.k (k := Sum.inr x) h, by
    rw [kd_val]
    by_cases q : x ∈ xs
    · rw [if_pos q]; exact k1 q
    · rw [if_neg q]; exact k2 q⟩
theorem kd_get {P : V → Prop} (h : H a = some (.dK (kd f xs))) (hx : x ∈ xs) (k : P (f x)) : ∃ b v, V.ref a = .ref b ∧ DGet H b (.str x) (some v) ∧ P v :=
  ⟨a, f x, rfl, by
    have d := DGet.k (k := Sum.inr x) h
    rw [kd_val, if_pos hx] at d
    exact d, k⟩
theorem kd_set {v : V} {Z : Hp → Prop} (h : H a = some (.dK (kd f xs))) (hx : x ∉ xs) (hl : xs.length ≤ 1000000) (e : v = f x) (k : Z (upd H a (.dK (kd f (xs ++ [x]))))) : ∃ b H', V.ref a = .ref b ∧ DPut H b (.str x) v H' ∧ Z H' :=
  ⟨a, _, rfl, DPut.k (k := Sum.inr x) h (line_lt (by rw [kd_len]; exact hl)), by rw [e, kd_put f x xs hx]; exact k⟩
end
end Nt
namespace Nt
open PySem PySem.Spec PyProof.Rows L2
/-! ### the rows that seeds make, one found row after another -/
def addB (r : Str) (f : List Str) (s : Str) : List Str := if ovr s r ∈ f then f else f ++ [ovr s r]
def stepB (seeds : List Str) (r : Str) (f : List Str) : List Str := seeds.foldl (addB r) f
def itB (seeds : List Str) (z : Str) : Nat → List Str
  | 0 => [z]
  | n + 1 => match (itB seeds z n)[n]? with
    | none => itB seeds z n
    | some r => stepB seeds r (itB seeds z n)
section
variable {seeds : List Str} {r z : Str} {f : List Str} {n : Nat}
theorem fold_tk {α β : Type} {g : β → α → β} {l : List α} {j : Nat} {a : α} {b : β} (h : l[j]? = some a) : (l.take (j + 1)).foldl g b = g ((l.take j).foldl g b) a := by rw [tk_snoc h, List.foldl_append]; rfl
theorem addB_pre : ∃ t, addB r f z = f ++ t ∧ t.length ≤ 1 := by
  unfold addB
  split
  · exact ⟨[], by simp, by simp⟩
  · exact ⟨_, rfl, by simp⟩
theorem stepB_pre : ∀ (seeds f : List Str), ∃ t, stepB seeds r f = f ++ t ∧ t.length ≤ seeds.length
  | [], f => ⟨[], by simp [stepB], by simp⟩
  | s :: seeds, f => by
    obtain ⟨t, e, hl⟩ := stepB_pre seeds (addB r f s)
    obtain ⟨u, e2, hu⟩ := addB_pre (r := r) (f := f) (z := s)
    refine ⟨u ++ t, ?_, by rw [List.length_append, List.length_cons]; omega⟩
    show stepB seeds r (addB r f s) = _
    rw [e, e2, List.append_assoc]
theorem addB_nd (h : f.Nodup) (s : Str) : (addB r f s).Nodup := by
  unfold addB
  split
  · exact h
  · rename_i q
    exact nodup_snoc h q
theorem stepB_nd : ∀ (seeds : List Str) {f : List Str}, f.Nodup → (stepB seeds r f).Nodup
  | [], _, h => h
  | s :: seeds, f, h => stepB_nd seeds (addB_nd h s)
theorem addB_all {P : Str → Prop} (hf : ∀ x ∈ f, P x) {s : Str} (hs : P (ovr s r)) : ∀ x ∈ addB r f s, P x := by
  unfold addB
  split
  · exact hf
  · intro x hx
    rcases List.mem_append.mp hx with q | q
    · exact hf x q
    · rw [List.mem_singleton.mp q]; exact hs
theorem stepB_all {P : Str → Prop} : ∀ (seeds : List Str) {f : List Str}, (∀ x ∈ f, P x) → (∀ s ∈ seeds, P (ovr s r)) → ∀ x ∈ stepB seeds r f, P x
  | [], _, h, _ => h
  | s :: seeds, f, h, hs => stepB_all seeds (addB_all h (hs s List.mem_cons_self)) fun s' h' => hs s' (List.mem_cons_of_mem _ h')
theorem addB_has (s : Str) : ovr s r ∈ addB r f s := by
  unfold addB
  split
  · assumption
  · exact List.mem_append.mpr (.inr (List.mem_singleton.mpr rfl))
theorem stepB_sub {x : Str} (seeds : List Str) (h : x ∈ f) : x ∈ stepB seeds r f := by
  obtain ⟨t, e, _⟩ := stepB_pre (r := r) seeds f
  rw [e]
  exact List.mem_append.mpr (.inl h)
theorem stepB_has : ∀ (seeds : List Str) {f : List Str} {s : Str}, s ∈ seeds → ovr s r ∈ stepB seeds r f
  | s' :: seeds, f, s, h => by
    rcases List.mem_cons.mp h with q | q
    · rw [q]; exact stepB_sub seeds (addB_has s')
    · exact stepB_has seeds q
theorem itB_pre (n : Nat) : ∃ t, itB seeds z (n + 1) = itB seeds z n ++ t := by
  rw [itB]
  split
  · exact ⟨[], by simp⟩
  · obtain ⟨t, e, _⟩ := stepB_pre seeds (itB seeds z n)
    exact ⟨t, e⟩
theorem itB_pres (n : Nat) : ∀ k, ∃ t, itB seeds z (n + k) = itB seeds z n ++ t
  | 0 => ⟨[], by simp⟩
  | k + 1 => by
    obtain ⟨t, e⟩ := itB_pres n k
    obtain ⟨u, e2⟩ := itB_pre (seeds := seeds) (z := z) (n + k)
    exact ⟨t ++ u, by rw [← Nat.add_assoc, e2, e, List.append_assoc]⟩
theorem itB_le {n m : Nat} (h : n ≤ m) : (itB seeds z n).length ≤ (itB seeds z m).length := by
  obtain ⟨t, e⟩ := itB_pres (seeds := seeds) (z := z) n (m - n)
  have q : n + (m - n) = m := by omega
  rw [q] at e
  rw [e, List.length_append]
  omega
theorem itB_nd : ∀ n, (itB seeds z n).Nodup
  | 0 => List.nodup_cons.mpr ⟨by simp, List.nodup_nil⟩
  | n + 1 => by
    rw [itB]
    split
    · exact itB_nd n
    · exact stepB_nd seeds (itB_nd n)
theorem itB_all {P : Str → Prop} (hz : P z) (hs : ∀ x, P x → ∀ s ∈ seeds, P (ovr s x)) : ∀ n, ∀ x ∈ itB seeds z n, P x
  | 0 => by
    intro x hx
    rw [List.mem_singleton.mp hx]
    exact hz
  | n + 1 => by
    rw [itB]
    split
    · exact itB_all hz hs n
    · rename_i r h
      exact stepB_all seeds (itB_all hz hs n) fun s q => hs r (itB_all hz hs n r (mem_of_get h)) s q
/-- nothing comes when all is done -/
theorem itB_stay (h : (itB seeds z n).length ≤ n) : ∀ k, itB seeds z (n + k) = itB seeds z n
  | 0 => rfl
  | k + 1 => by
    have ih := itB_stay h k
    rw [← Nat.add_assoc, itB, ih]
    have e : (itB seeds z n)[n + k]? = none := List.getElem?_eq_none (by omega)
    rw [e]
theorem itB_first (n : Nat) : z ∈ itB seeds z n := by
  obtain ⟨t, e⟩ := itB_pres (seeds := seeds) (z := z) 0 n
  rw [Nat.zero_add] at e
  rw [e]
  exact List.mem_append.mpr (.inl (List.mem_singleton.mpr rfl))
/-- each row found before turn n has been gone through -/
theorem itB_has : ∀ {n i : Nat} {x s : Str}, i < n → (itB seeds z n)[i]? = some x → s ∈ seeds → ovr s x ∈ itB seeds z n
  | n + 1, i, x, s, hi, hx, hs => by
    obtain ⟨t, e⟩ := itB_pre (seeds := seeds) (z := z) n
    by_cases q : i < n
    · by_cases ql : i < (itB seeds z n).length
      · have := itB_has q (by rw [e, List.getElem?_append_left ql] at hx; exact hx) hs
        rw [e]
        exact List.mem_append.mpr (.inl this)
      · have hn : (itB seeds z n).length ≤ n := by omega
        have st := itB_stay hn 1
        rw [st] at hx
        exact absurd (lt_of_get hx) ql
    · have hin : i = n := by omega
      subst hin
      by_cases ql : i < (itB seeds z i).length
      · have e2 : (itB seeds z i)[i]? = some x := by rw [e, List.getElem?_append_left ql] at hx; exact hx
        rw [itB, e2]
        exact stepB_has seeds hs
      · have st := itB_stay (n := i) (seeds := seeds) (z := z) (by omega) 1
        rw [st] at hx
        exact absurd (lt_of_get hx) ql
theorem itB_closed (h : (itB seeds z n).length ≤ n) {x s : Str} (hx : x ∈ itB seeds z n) (hs : s ∈ seeds) : ovr s x ∈ itB seeds z n := by
  obtain ⟨i, hi⟩ := List.getElem?_of_mem hx
  have := lt_of_get hi
  exact itB_has (by omega) hi hs
end
end Nt
namespace Nt
open PySem PySem.Spec PyProof.Rows L2
/-! ### each row once, where it first stands; none blank -/
def dedT (l : List Str) : Nat → List Str
  | 0 => []
  | i + 1 => match l[i]? with
    | none => dedT l i
    | some x => if x ∈ l.take i then dedT l i else dedT l i ++ [x]
def nbS (xs : List Str) : List Str := xs.filter fun x => !decide (x = blk x.length)
def cleanS (xs : List Str) : List Str := dedT (nbS xs) (nbS xs).length
theorem dedT_len (l : List Str) : ∀ i, (dedT l i).length ≤ i
  | 0 => Nat.le_refl _
  | i + 1 => by
    rw [dedT]
    have := dedT_len l i
    split
    · omega
    · split
      · omega
      · rw [List.length_append]; show _ + 1 ≤ _; omega
theorem dedT_mem (l : List Str) (x : Str) : ∀ i, x ∈ dedT l i ↔ x ∈ l.take i
  | 0 => by simp [dedT]
  | i + 1 => by
    rw [dedT]
    have ih := dedT_mem l x i
    split
    · rename_i h
      rw [ih, List.take_of_length_le (List.getElem?_eq_none_iff.mp h), List.take_of_length_le (Nat.le_succ_of_le (List.getElem?_eq_none_iff.mp h))]
    · rename_i y h
      rw [tk_snoc h]
      split
      · rename_i q
        rw [ih, List.mem_append, List.mem_singleton]
        exact ⟨.inl, fun z => z.elim (fun z => z) (fun z => by rw [z]; exact q)⟩
      · rw [List.mem_append, List.mem_append, ih]
theorem dedT_nd (l : List Str) : ∀ i, (dedT l i).Nodup
  | 0 => List.nodup_nil
  | i + 1 => by
    rw [dedT]
    have ih := dedT_nd l i
    split
    · exact ih
    · split
      · exact ih
      · rename_i q
        exact nodup_snoc ih fun z => q ((dedT_mem l _ i).mp z)
theorem clean_mem {xs : List Str} {x : Str} : x ∈ cleanS xs ↔ x ∈ xs ∧ x ≠ blk x.length := by
  unfold cleanS
  rw [dedT_mem, List.take_length]
  unfold nbS
  rw [List.mem_filter]
  simp
theorem clean_nd (xs : List Str) : (cleanS xs).Nodup := dedT_nd _ _
theorem clean_len (xs : List Str) : (cleanS xs).length ≤ xs.length := Nat.le_trans (dedT_len _ _) (List.length_filter_le _ _)
theorem cutV_to (xs : List V) (k : Nat) : cutV xs none (some (k : Int)) = xs.take k := by
  unfold cutV
  rw [HT.sIx_none, HT.sIx_nat, Nat.sub_zero, List.drop_zero]
  by_cases h : k ≤ xs.length
  · rw [Nat.min_eq_left h]
  · rw [Nat.min_eq_right (by omega), List.take_length, List.take_of_length_le (by omega)]
theorem cutV_from (xs : List V) (k : Nat) : cutV xs (some (k : Int)) none = xs.drop k := by
  unfold cutV
  rw [HT.sIx_none, HT.sIx_nat]
  by_cases h : k ≤ xs.length
  · rw [Nat.min_eq_left h, List.take_of_length_le (by simp)]
  · rw [Nat.min_eq_right (by omega), List.drop_eq_nil_of_le (by omega), List.drop_eq_nil_of_le (by omega), List.take_nil]
end Nt
namespace Nt
open PySem PySem.Spec PyProof.Rows L2
theorem walkR {n : Nat} : Walk (Itr 0 n) n (fun _ => True) (fun i H v H' => H' = H ∧ v = .int (i : Nat)) :=
  walk_range.mono (fun _ h => h) fun i H v H' _ _ ⟨h1, h2⟩ => ⟨h1, by rw [h2]; show V.int (0 + (i : Int)) = _; rw [Int.zero_add]⟩
end Nt
/-! == of data. -/
namespace Nt
open PySem PySem.Spec PyProof.Rows L2
theorem dp_strs {K : PySem.W.Frag} {H : Hp} : ∀ xs : List Str, DpAll K H (xs.map V.str) (xs.map PyData.str)
  | [] => .nil
  | x :: xs => .cons (.str x) (dp_strs xs)
theorem eqv_strsA : ∀ xs ys : List Str, PyData.eqvAll (xs.map PyData.str) (ys.map PyData.str) = decide (xs = ys)
  | [], [] => rfl
  | [], y :: ys => by simp [PyData.eqvAll]
  | x :: xs, [] => by simp [PyData.eqvAll]
  | x :: xs, y :: ys => by
    simp only [List.map_cons, PyData.eqvAll, PyData.eqv, eqv_strsA xs ys]
    by_cases h : x = y
    · subst h
      simp
    · simp [h]
theorem can_strs : ∀ xs : List Str, (∀ x ∈ xs, PyData.strOk x = true) → PyData.canLayAll0 (xs.map PyData.str) = true
  | [], _ => rfl
  | x :: xs, h => by
    simp only [List.map_cons, PyData.canLayAll0, PyData.canLay0]
    rw [h x List.mem_cons_self, can_strs xs fun y hy => h y (List.mem_cons_of_mem _ hy)]
    rfl
theorem depth_strs : ∀ xs : List Str, PyData.depthAll (xs.map PyData.str) = 0
  | [] => rfl
  | x :: xs => by
    simp only [List.map_cons, PyData.depthAll, PyData.depth, depth_strs xs]
    rfl
end Nt
namespace Nt
open PySem PySem.Spec PyProof.Rows L2
abbrev okS (xs : List Str) : Prop := ∀ x ∈ xs, PyData.strOk x = true
theorem strOk_of {x : Str} (h : ∀ c ∈ sl x, c < 1000) : PyData.strOk x = true := by
  unfold PyData.strOk
  rw [Array.all_eq_true]
  intro i hi
  have := h x.cps[i] (by simp [sl])
  simp
  omega
theorem shaped_strs {xs : List Str} (h : okS xs) : SeqAt.shaped (.list (xs.map PyData.str)) = true := by
  unfold SeqAt.shaped
  simp only [PyData.canLay0, PyData.depth, can_strs xs h, depth_strs]
  decide
section
variable {K : PySem.W.Frag} {H : Hp} {Q : VK} {a b : Addr} {xs ys : List Str}
theorem w_eqStrs (h1 : H a = some (.lst (xs.map V.str))) (h2 : H b = some (.lst (ys.map V.str))) (o1 : okS xs) (o2 : okS ys) (k : Q (.bl (decide (xs = ys))) H) : rEqD K (.ref a) (.ref b) H Q :=
  ⟨_, _, .lst (SqL.of h1) (dp_strs xs), .lst (SqL.of h2) (dp_strs ys), shaped_strs o1, shaped_strs o2, by
    show Q (.bl (PyData.eqvAll _ _)) H
    rw [eqv_strsA]
    exact k⟩
theorem w_neStrs (h1 : H a = some (.lst (xs.map V.str))) (h2 : H b = some (.lst (ys.map V.str))) (o1 : okS xs) (o2 : okS ys) (k : Q (.bl (!decide (xs = ys))) H) : rNeD K (.ref a) (.ref b) H Q :=
  ⟨_, _, .lst (SqL.of h1) (dp_strs xs), .lst (SqL.of h2) (dp_strs ys), shaped_strs o1, shaped_strs o2, by
    show Q (.bl (!PyData.eqvAll _ _)) H
    rw [eqv_strsA]
    exact k⟩
end
end Nt
/-! Cells, rows and seeds of a band. -/
namespace Nt
open PySem PySem.Spec PyProof.Rows L2
abbrev Cells := List (Str × Nat)
structure CellsOk (cs : Cells) : Prop where
  l1 : 1 ≤ cs.length
  l2 : cs.length ≤ 12
  nd : (cs.map (·.1)).Nodup
  nm : ∀ c ∈ cs, NameOk c.1
  mn : ∀ c ∈ cs, 1 ≤ c.2 ∧ c.2 ≤ 4
/-- a sign that a cell with so many values may show -/
def SgOk (m c : Nat) : Prop := c = 46 ∨ (48 ≤ c ∧ c < 48 + m)
/-- signs by cells -/
def RwL (cs : Cells) (l : List Nat) : Prop := l.length = cs.length ∧ ∀ (i c : Nat) (k : Str × Nat), l[i]? = some c → cs[i]? = some k → SgOk k.2 c
abbrev RowOk (cs : Cells) (s : Str) : Prop := RwL cs (sl s)
structure SeedsOk (cs : Cells) (seeds : List Str) : Prop where
  ln : seeds.length ≤ 20
  rw : ∀ s ∈ seeds, RowOk cs s
  nb : ∀ s ∈ seeds, s ≠ blk cs.length
  nd : seeds.Nodup
  td : ∀ i, i < cs.length → ∃ s ∈ seeds, ∃ c, (sl s)[i]? = some c ∧ c ≠ 46
theorem blk_sl (n : Nat) : sl (blk n) = List.replicate n 46 := sl_mk _
theorem blk_row (cs : Cells) : RowOk cs (blk cs.length) := by
  refine ⟨by rw [blk_sl, List.length_replicate], fun i c k h _ => .inl ?_⟩
  rw [blk_sl, List.getElem?_replicate] at h
  split at h
  · exact (Option.some.inj h).symm
  · cases h
theorem ovr_row {cs : Cells} {x y : Str} (hx : RowOk cs x) (hy : RowOk cs y) : RowOk cs (ovr x y) := by
  refine ⟨by rw [ovr_sl, List.length_map, List.length_zip, hx.1, hy.1, Nat.min_self], fun i c k h hk => ?_⟩
  rw [ovr_sl, List.getElem?_map] at h
  obtain ⟨p, hp, rfl⟩ := Option.map_eq_some_iff.mp h
  rw [List.getElem?_zip_eq_some] at hp
  unfold ovN
  split
  · exact hy.2 i _ k hp.2 hk
  · exact hx.2 i _ k hp.1 hk
theorem row_len {cs : Cells} {x : Str} (h : RowOk cs x) : x.length = cs.length := by rw [len_sl]; exact h.1
theorem sg_low {m c : Nat} (h : SgOk m c) (hm : m ≤ 4) : c < 52 := by
  rcases h with rfl | h
  · decide
  · omega
theorem row_ok {cs : Cells} (hc : CellsOk cs) {x : Str} (h : RowOk cs x) : PyData.strOk x = true := by
  refine strOk_of fun c m => ?_
  obtain ⟨i, hi⟩ := List.getElem?_of_mem m
  have hl := lt_of_get hi
  rw [h.1] at hl
  have hk := List.getElem?_eq_getElem hl
  have := sg_low (h.2 i c _ hi hk) (hc.mn _ (List.getElem_mem hl)).2
  omega
theorem blk_of {cs : Cells} {l : List Nat} (hl : l.length = cs.length) : (∀ i, i < cs.length → l[i]? = some 46) ↔ l = List.replicate cs.length 46 := by
  constructor
  · intro h
    apply List.ext_getElem?
    intro i
    rw [List.getElem?_replicate]
    split
    · exact h i ‹_›
    · exact List.getElem?_eq_none (by omega)
  · intro h i hi
    rw [h, List.getElem?_replicate, if_pos hi]
/-- a sign told by a digit -/
theorem dig : ∀ k : Nat, k < 4 → (Str.ofString (toString ((k : Nat) : Int))) = ch (48 + k) := by decide +kernel
end Nt
namespace Nt
open PySem PySem.Spec PyProof.Rows L2
/-! ### lists of one's own that still grow -/
theorem ne_mem {a x : Addr} {r : List Addr} (h : a ∉ r) (hx : x ∈ r) : x ≠ a := fun z => h (by rw [← z]; exact hx)
def OL (H0 M H : Hp) : List Addr → List (List Str) → Prop
  | [], [] => True
  | a :: r, s :: ss => H0 a = none ∧ M a = none ∧ H a = some (.lst (s.map V.str)) ∧ a ∉ r ∧ OL H0 M H r ss
  | _, _ => False
section
variable {H0 M0 M H M' H' : Hp} {ex : Addr → Prop}
theorem OL.len : ∀ {rs : List Addr} {ss : List (List Str)}, OL H0 M H rs ss → rs.length = ss.length
  | [], [], _ => rfl
  | a :: r, s :: ss, h => by rw [List.length_cons, List.length_cons, OL.len h.2.2.2.2]
  | [], _ :: _, h => h.elim
  | _ :: _, [], h => h.elim
theorem OL.mem : ∀ {rs : List Addr} {ss : List (List Str)} {a : Addr}, OL H0 M H rs ss → a ∈ rs → H0 a = none ∧ M a = none ∧ ∃ o, H a = some o
  | b :: r, s :: ss, a, h, m => by
    rcases List.mem_cons.mp m with q | q
    · subst q; exact ⟨h.1, h.2.1, _, h.2.2.1⟩
    · exact OL.mem h.2.2.2.2 q
theorem OL.at : ∀ {rs : List Addr} {ss : List (List Str)} {i : Nat} {s : List Str}, OL H0 M H rs ss → ss[i]? = some s → ∃ a, rs[i]? = some a ∧ H0 a = none ∧ M a = none ∧ H a = some (.lst (s.map V.str))
  | [], [], i, s, _, h => by simp at h
  | b :: r, t :: ss, 0, s, h, e => by
    have e' : t = s := by simpa using e
    subst e'
    exact ⟨b, rfl, h.1, h.2.1, h.2.2.1⟩
  | b :: r, t :: ss, i + 1, s, h, e => by
    obtain ⟨a, h1, h2⟩ := OL.at (i := i) h.2.2.2.2 (by simpa using e)
    exact ⟨a, by simpa using h1, h2⟩
theorem OL.step : ∀ {rs : List Addr} {ss : List (List Str)}, OL H0 M H rs ss → (∀ a ∈ rs, ∀ o, M a = none → H a = some o → M' a = none ∧ H' a = some o) → OL H0 M' H' rs ss
  | [], [], _, _ => trivial
  | a :: r, s :: ss, h, f =>
    have q := f a List.mem_cons_self _ h.2.1 h.2.2.1
    ⟨h.1, q.1, q.2, h.2.2.2.1, OL.step h.2.2.2.2 fun b hb => f b (List.mem_cons_of_mem _ hb)⟩
theorem OL.put : ∀ {rs : List Addr} {ss : List (List Str)} {i : Nat} {a : Addr} {s : List Str}, OL H0 M H rs ss → rs[i]? = some a → OL H0 M (upd H a (.lst (s.map V.str))) rs (ss.set i s)
  | [], [], i, a, s, _, h => by simp at h
  | b :: r, t :: ss, 0, a, s, h, e => by
    have e' : b = a := by simpa using e
    subst e'
    exact ⟨h.1, h.2.1, upd_same, h.2.2.2.1, h.2.2.2.2.step fun x hx o m q => ⟨m, by rw [upd_ne (ne_mem h.2.2.2.1 hx)]; exact q⟩⟩
  | b :: r, t :: ss, i + 1, a, s, h, e => by
    have e' : r[i]? = some a := by simpa using e
    have ne : b ≠ a := fun z => h.2.2.2.1 (z ▸ mem_of_get e')
    exact ⟨h.1, h.2.1, by rw [upd_ne ne]; exact h.2.2.1, h.2.2.2.1, OL.put h.2.2.2.2 e'⟩
theorem OL.snoc {a : Addr} {s : List Str} (h0 : H0 a = none) (m : M a = none) (h : H a = some (.lst (s.map V.str))) : ∀ {rs : List Addr} {ss : List (List Str)}, OL H0 M H rs ss → a ∉ rs → OL H0 M H (rs ++ [a]) (ss ++ [s])
  | [], [], _, _ => ⟨h0, m, h, by simp, trivial⟩
  | b :: r, t :: ss, o, n => ⟨o.1, o.2.1, o.2.2.1, by
      intro z
      rcases List.mem_append.mp z with z | z
      · exact o.2.2.2.1 z
      · exact n (by rw [List.mem_singleton.mp z]; exact List.mem_cons_self), OL.snoc h0 m h o.2.2.2.2 fun z => n (List.mem_cons_of_mem _ z)⟩
/-- all are laid down for good -/
theorem OL.fix : ∀ {rs : List Addr} {ss : List (List Str)} {M : Hp}, Stp ex M0 H0 M H → OL H0 M H rs ss → ∃ M', Stp ex M0 H0 M' H ∧ Same M M' ∧ IsA M' (ss.map dS) (rs.map V.ref) ∧ ∀ x, x ∉ rs → M' x = M x
  | [], [], M, S, _ => ⟨M, S, Same.refl M, rfl, fun _ _ => rfl⟩
  | a :: r, s :: ss, M, S, h => by
    obtain ⟨M1, S1, s1, i1, f1⟩ := OL.fix (M := upd M a (.lst (s.map V.str))) (S.fix h.2.2.1 h.1) (h.2.2.2.2.step fun x hx o m q => ⟨by rw [upd_ne (ne_mem h.2.2.2.1 hx)]; exact m, q⟩)
    refine ⟨M1, S1, (same_upd h.2.1).trans s1, ⟨_, _, rfl, Is.of_strs (s1 _ _ upd_same), i1⟩, fun x hx => ?_⟩
    rw [f1 x (fun z => hx (List.mem_cons_of_mem _ z)), upd_ne (fun z => hx (by rw [z]; exact List.mem_cons_self))]
end
theorem rep_flat (n : Nat) (v : V) : (List.replicate n [v]).flatten = List.replicate n v := by
  induction n with
  | zero => rfl
  | succ n ih => rw [List.replicate_succ, List.flatten_cons, ih]; rfl
/-- a sign is changed -/
theorem RwL.set {cs : Cells} {l : List Nat} (h : RwL cs l) {j c : Nat} {k : Str × Nat} (hk : cs[j]? = some k) (hc : SgOk k.2 c) : RwL cs (l.set j c) := by
  refine ⟨by rw [List.length_set]; exact h.1, fun i d k' hd hk' => ?_⟩
  by_cases q : j = i
  · subst q
    rw [List.getElem?_set] at hd
    rw [if_pos rfl] at hd
    split at hd
    · rw [hk] at hk'
      cases hk'
      cases hd
      exact hc
    · cases hd
  · rw [List.getElem?_set_ne q] at hd
    exact h.2 i d k' hd hk'
def Told (cds : List (List Nat)) (j : Nat) : Prop := ∃ l ∈ cds, ∃ c, l[j]? = some c ∧ c ≠ 46
theorem Told.set {cds : List (List Nat)} {j i at_ c : Nat} {l : List Nat} (h : Told cds j) (hl : cds[i]? = some l) (hj : j ≠ at_) : Told (cds.set i (l.set at_ c)) j := by
  obtain ⟨l', hm, d, hd, hd'⟩ := h
  obtain ⟨i', hi'⟩ := List.getElem?_of_mem hm
  by_cases q : i = i'
  · subst q
    rw [hl] at hi'
    cases hi'
    refine ⟨l.set at_ c, List.mem_of_getElem? (i := i) ?_, d, ?_, hd'⟩
    · rw [List.getElem?_set, if_pos rfl, if_pos (lt_of_get hl)]
    · rw [List.getElem?_set_ne (Ne.symm hj)]; exact hd
  · exact ⟨l', List.mem_of_getElem? (i := i') (by rw [List.getElem?_set_ne q]; exact hi'), d, hd, hd'⟩
theorem Told.now {cds : List (List Nat)} {i at_ c : Nat} {l : List Nat} (hl : cds[i]? = some l) (ha : at_ < l.length) (hc : c ≠ 46) : Told (cds.set i (l.set at_ c)) at_ :=
  ⟨l.set at_ c, List.mem_of_getElem? (i := i) (by rw [List.getElem?_set, if_pos rfl, if_pos (lt_of_get hl)]), c, by rw [List.getElem?_set, if_pos rfl, if_pos ha], hc⟩
theorem mem_set {α : Type} {l : List α} {i : Nat} {a x : α} (h : x ∈ l.set i a) : x ∈ l ∨ x = a := by
  rcases List.mem_or_eq_of_mem_set h with q | q
  · exact .inl q
  · exact .inr q
theorem seeds_ok {cs : Cells} (hc : CellsOk cs) {cds : List (List Nat)} (hl : cds.length ≤ 20) (hr : ∀ l ∈ cds, RwL cs l) (ht : ∀ j, j < cs.length → Told cds j) : SeedsOk cs (cleanS (cds.map mkS)) := by
  have rw1 : ∀ s ∈ cleanS (cds.map mkS), RowOk cs s := by
    intro s hs
    obtain ⟨l, hl, rfl⟩ := List.mem_map.mp (clean_mem.mp hs).1
    show RwL cs (sl (mkS l))
    rw [sl_mk]
    exact hr l hl
  refine ⟨Nat.le_trans (clean_len _) (by rw [List.length_map]; exact hl), rw1, fun s hs e => ?_, clean_nd _, fun j hj => ?_⟩
  · have q := (clean_mem.mp hs).2
    rw [row_len (rw1 s hs)] at q
    exact q e
  · obtain ⟨l, hm, c, hc, hc'⟩ := ht j hj
    refine ⟨mkS l, clean_mem.mpr ⟨List.mem_map.mpr ⟨l, hm, rfl⟩, fun e => ?_⟩, c, by rw [sl_mk]; exact hc, hc'⟩
    have e2 := congrArg sl e
    rw [sl_mk, blk_sl] at e2
    rw [e2, List.getElem?_replicate] at hc
    split at hc
    · exact hc' (Option.some.inj hc).symm
    · cases hc
end Nt
namespace Nt
open PySem PySem.Spec PyProof.Rows L2
theorem cells_at {M : Hp} {cs : Cells} {cvs : List V} (h : IsA M (cs.map cellD) cvs) {i : Nat} {v : V} (e : cvs[i]? = some v) : ∃ k a, cs[i]? = some k ∧ v = .ref a ∧ M a = some (.tup [.str k.1, .int (k.2 : Int)]) := by
  obtain ⟨d, hd, hi⟩ := h.get e
  rw [List.getElem?_map] at hd
  obtain ⟨k, hk, rfl⟩ := Option.map_eq_some_iff.mp hd
  obtain ⟨a, h1, h2⟩ := hi.cell
  exact ⟨k, a, hk, h1, h2⟩
theorem cells_get {M : Hp} {cs : Cells} {cvs : List V} (h : IsA M (cs.map cellD) cvs) {i : Nat} {k : Str × Nat} (e : cs[i]? = some k) : ∃ a, cvs[i]? = some (.ref a) ∧ M a = some (.tup [.str k.1, .int (k.2 : Int)]) := by
  have hl := lt_of_get e
  obtain ⟨v, hv, _⟩ := h.at (i := i) (d := cellD k) (by rw [List.getElem?_map, e]; rfl)
  obtain ⟨k', a, h1, rfl, h3⟩ := cells_at h hv
  rw [e] at h1
  cases h1
  exact ⟨a, hv, h3⟩
theorem rwl_ok {cs : Cells} (hc : CellsOk cs) {l : List Nat} (h : RwL cs l) : okS (l.map ch) := by
  intro x hx
  obtain ⟨c, hm, rfl⟩ := List.mem_map.mp hx
  obtain ⟨i, hi⟩ := List.getElem?_of_mem hm
  have hl := lt_of_get hi
  rw [h.1] at hl
  have hk := List.getElem?_eq_getElem hl
  have := sg_low (h.2 i c _ hi hk) (hc.mn _ (List.getElem_mem hl)).2
  exact strOk_of fun d hd => by
    rw [show d = c by simpa using hd]
    omega
theorem dots_ok (n : Nat) : okS (List.replicate n ".") := by
  intro x hx
  rw [(List.mem_replicate.mp hx).2]
  decide +kernel
theorem dots_V (n : Nat) : List.replicate n (V.str ".") = (List.replicate n ("." : Str)).map V.str := by rw [List.map_replicate]
end Nt
namespace Nt
open PySem PySem.Spec PyProof.Rows L2
theorem dot_ofS : Str.ofString "." = ch 46 := dot_ch
theorem lo2 : ∀ k : Nat, k < 4 → (((k : Nat) : Int).natAbs).log2 < 1920 := by decide +kernel
end Nt
namespace Nt
open PySem PySem.Spec PyProof.Rows L2
theorem ixN_nat {n i : Nat} (h : i < n) : ixN n (i : Int) = some i := by
  unfold ixN
  simp
  omega
theorem w_rU {g : Int → V} {i : Int} {H : Hp} {Q : VK} (k : Q (g i) H) : rU g (.int i) H Q := ⟨i, rfl, k⟩
theorem atI_last {α : Type} {xs : List α} {m : Nat} {x : α} (hl : xs.length = m + 1) (h : xs[m]? = some x) : atI xs (-1) = some x := by
  show (ixN xs.length (-1)).bind _ = _
  have e : ixN xs.length (-1) = some m := by
    unfold ixN
    rw [hl]
    simp
    omega
  rw [e]
  exact h
theorem told_of {cds : List (List Nat)} {n i : Nat} (hl : ∀ l ∈ cds, l.length = n) (hi : i < n) (h : (cds.map fun l => decide (l[i]? = some 46)).all id = false) : Told cds i := by
  rw [List.all_eq_false] at h
  obtain ⟨b, hm, hb⟩ := h
  obtain ⟨l, hlm, rfl⟩ := List.mem_map.mp hm
  have := hl l hlm
  refine ⟨l, hlm, l[i]'(by omega), List.getElem?_eq_getElem _, fun z => ?_⟩
  rw [List.getElem?_eq_getElem (by omega), z] at hb
  simp at hb
end Nt
namespace Nt
open PySem PySem.Spec PyProof.Rows L2
structure BandOk (cs : Cells) (seeds rows : List Str) : Prop where
  co : CellsOk cs
  c5 : cs.length ≤ 5
  so : SeedsOk cs seeds
  pm : rows.Perm (itB seeds (blk cs.length) 41)
  sd : sortedS rows = true
  le : (itB seeds (blk cs.length) 41).length ≤ 40
abbrev bandD (cs : Cells) (seeds rows : List Str) : Dat := .tup [cellsD cs, dS seeds, dS rows]
theorem CellsOk.take {cs : Cells} (h : CellsOk cs) {k : Nat} (hk : 1 ≤ k) : CellsOk (cs.take k) := by
  have hl := h.l1
  refine ⟨by rw [List.length_take]; omega, Nat.le_trans (by rw [List.length_take]; exact Nat.min_le_right _ _) h.l2, ?_, fun c hc => h.nm c (List.mem_of_mem_take hc), fun c hc => h.mn c (List.mem_of_mem_take hc)⟩
  rw [List.map_take]
  exact List.Sublist.nodup (List.take_sublist _ _) h.nd
theorem RwL.take {cs : Cells} {l : List Nat} (h : RwL cs l) (k : Nat) : RwL (cs.take k) (l.take k) := by
  refine ⟨by rw [List.length_take, List.length_take, h.1], fun i c q h1 h2 => ?_⟩
  rw [List.getElem?_take] at h1 h2
  split at h1
  · rw [if_pos ‹_›] at h2
    exact h.2 i c q h1 h2
  · cases h1
theorem SeedsOk.take {cs : Cells} {seeds : List Str} (hc : CellsOk cs) (h : SeedsOk cs seeds) {k : Nat} (hk : 1 ≤ k) : SeedsOk (cs.take k) (cleanS (seeds.map fun s => mkS ((sl s).take k))) := by
  have e : (seeds.map fun s => mkS ((sl s).take k)) = (seeds.map fun s => (sl s).take k).map mkS := by simp
  rw [e]
  refine seeds_ok (hc.take hk) (by rw [List.length_map]; exact h.ln) ?_ ?_
  · intro l hl
    obtain ⟨s, hs, rfl⟩ := List.mem_map.mp hl
    exact (h.rw s hs).take k
  · intro j hj
    rw [List.length_take] at hj
    obtain ⟨s, hs, c, h1, h2⟩ := h.td j (by omega)
    exact ⟨_, List.mem_map.mpr ⟨s, hs, rfl⟩, c, by rw [List.getElem?_take, if_pos (by omega)]; exact h1, h2⟩
theorem rows_all {cs : Cells} {seeds : List Str} (hs : ∀ s ∈ seeds, RowOk cs s) (n : Nat) : ∀ x ∈ itB seeds (blk cs.length) n, RowOk cs x :=
  itB_all (P := RowOk cs) (blk_row cs) (fun x hx s hm => ovr_row (hs s hm) hx) n
/-- one cell: five rows at most -/
theorem few_rows {cs : Cells} (hc : CellsOk cs) (h1 : cs.length = 1) {seeds : List Str} (hs : ∀ s ∈ seeds, RowOk cs s) (n : Nat) : (itB seeds (blk cs.length) n).length ≤ 5 := by
  refine List.Nodup.length_le_of_subset (l₂ := [46, 48, 49, 50, 51].map ch) (itB_nd n) fun x hx => ?_
  have r := rows_all hs n x hx
  have hl := r.1
  rw [h1] at hl
  obtain ⟨c, e⟩ := List.length_eq_one_iff.mp hl
  have ex : x = ch c := sl_inj (by rw [e])
  have hk := List.getElem?_eq_getElem (show 0 < cs.length by omega)
  have q := r.2 0 c _ (by rw [e]; rfl) hk
  have m := (hc.mn _ (List.getElem_mem (show 0 < cs.length by omega))).2
  rw [ex]
  refine List.mem_map.mpr ⟨c, ?_, rfl⟩
  rcases q with rfl | q
  · simp
  · simp
    omega
theorem cutS_to (z : Str) (k : Nat) : cutS z none (some (k : Int)) = mkS ((sl z).take k) := by
  apply sl_inj
  rw [sl_mk]
  show ((z.cps.toList.drop (HT.sIx z.length 0 none)).take (HT.sIx z.length z.length (some (k : Int)) - HT.sIx z.length 0 none)).toArray.toList = _
  rw [HT.sIx_none, HT.sIx_nat, Nat.sub_zero, List.drop_zero]
  show (sl z).take (min k z.length) = _
  rw [len_sl]
  by_cases h : k ≤ (sl z).length
  · rw [Nat.min_eq_left h]
  · rw [Nat.min_eq_right (by omega), List.take_length, List.take_of_length_le (by omega)]
end Nt
namespace Nt
open PySem PySem.Spec PyProof.Rows L2
theorem Is.cellOf {M : Hp} {T : Addr} {x : Str} {m : Nat} (h : M T = some (.tup [.str x, .int (m : Int)])) : Is M (cellD (x, m)) (.ref T) :=
  ⟨T, _, rfl, h, .str x, [.int (m : Int)], rfl, rfl, .int (m : Int), [], rfl, rfl, rfl⟩
theorem Is.tup3 {M : Hp} {T : Addr} {d e f : Dat} {u v w : V} (h : M T = some (.tup [u, v, w])) (a : Is M d u) (b : Is M e v) (c : Is M f w) : Is M (.tup [d, e, f]) (.ref T) :=
  ⟨T, _, rfl, h, u, [v, w], rfl, a, v, [w], rfl, b, w, [], rfl, c, rfl⟩
theorem Is.tup2 {M : Hp} {T : Addr} {d e : Dat} {u v : V} (h : M T = some (.tup [u, v])) (a : Is M d u) (b : Is M e v) : Is M (.tup [d, e]) (.ref T) :=
  ⟨T, _, rfl, h, u, [v], rfl, a, v, [], rfl, b, rfl⟩
theorem Is.un3 {M : Hp} {d e f : Dat} {v : V} (h : Is M (.tup [d, e, f]) v) : ∃ T u x w, v = .ref T ∧ M T = some (.tup [u, x, w]) ∧ Is M d u ∧ Is M e x ∧ Is M f w := by
  obtain ⟨T, vs, rfl, hT, u, r, rfl, a, x, r2, rfl, b, w, r3, rfl, c, e⟩ := h
  rw [show r3 = [] from e] at hT
  exact ⟨T, u, x, w, rfl, hT, a, b, c⟩
theorem Is.un2 {M : Hp} {d e : Dat} {v : V} (h : Is M (.tup [d, e]) v) : ∃ T u x, v = .ref T ∧ M T = some (.tup [u, x]) ∧ Is M d u ∧ Is M e x := by
  obtain ⟨T, vs, rfl, hT, u, r, rfl, a, x, r2, rfl, b, e⟩ := h
  rw [show r2 = [] from e] at hT
  exact ⟨T, u, x, rfl, hT, a, b⟩
end Nt
namespace Nt
open PySem PySem.Spec PyProof.Rows L2
abbrev ABC : Str := "abcdefghijklmnopqrstuvwxyz"
theorem low_abc {c : Nat} (h : low c = true) : c ∈ sl ABC := by
  have all : ∀ c, c < 123 → low c = true → c ∈ sl ABC := by decide +kernel
  refine all c ?_ h
  unfold low at h
  simp at h
  omega
abbrev SIGNS : Str := ".0123"
theorem sg_in {m c : Nat} (h1 : 1 ≤ m) (h4 : m ≤ 4) (h : SgOk m c) : c ∈ sl (mkS ((sl SIGNS).take (m + 1))) := by
  have all : ∀ m, m < 5 → ∀ c, c < 52 → (c = 46 ∨ (48 ≤ c ∧ c < 48 + m)) → c ∈ sl (mkS ((sl SIGNS).take (m + 1))) := by decide +kernel
  exact all m (by omega) c (sg_low h h4) h
theorem all_true {α : Type} (l : List α) : (l.map fun _ => true).all id = true := by
  rw [List.all_map]
  exact List.all_eq_true.mpr fun _ _ => rfl
end Nt
namespace Nt
open PySem PySem.Spec PyProof.Rows L2
theorem pe_ty {X : Cx} {x : Str} {pos : Pos} (n : String) (hg : Gl X x) (hm : X.mg x = none) (hv : bootBuiltins x = some (.type n)) (hn : x ≠ "__name__" := by decide) (hd : (x == ("__debug__" : Str)) = false := by decide) : PE X (.Name x pos) (tC (.ty n)) := pe_bltn hg hm hv rfl hn hd
end Nt
namespace Nt
open PySem PySem.Spec PyProof.Rows L2
theorem ifdT {A B p : Prop} [Decidable p] (h : p) (k : A) : if decide p = true then A else B := by rw [if_pos (decide_eq_true h)]; exact k
theorem ifdF {A B p : Prop} [Decidable p] (h : ¬ p) (k : B) : if decide p = true then A else B := by rw [if_neg (by rw [decide_eq_false h]; exact Bool.false_ne_true)]; exact k
theorem ifnT {A B p : Prop} [Decidable p] (h : p) (k : B) : if (!decide p) = true then A else B := by rw [if_neg (by rw [decide_eq_true h]; exact Bool.false_ne_true)]; exact k
theorem ifnF {A B p : Prop} [Decidable p] (h : ¬ p) (k : A) : if (!decide p) = true then A else B := by rw [if_pos (by rw [decide_eq_false h]; rfl)]; exact k
theorem all_yes (n : Nat) : (List.replicate n true).all id = true := by
  induction n with
  | zero => rfl
  | succ n ih => rw [List.replicate_succ, List.all_cons, ih]; rfl
theorem rep_snoc (n : Nat) : (List.replicate n true).map V.bl ++ [V.bl true] = (List.replicate (n + 1) true).map V.bl := by
  rw [← List.map_singleton, ← List.map_append, ← List.replicate_succ']
end Nt
/-! set(a list of texts); sorted of it. -/
namespace Nt
open PySem PySem.Spec PyProof.Rows L2 PySem.Froz
section
variable {P : Program} {w : World} {A : Around} {E : Value → Shared → Prop} {s : Shared} {a : Addr} {l : List Str} {x : Str} {u : Tok}
/-- the set of the texts l at a, walkable -/
structure SetS (P : Program) (w : World) (h : Heap) (a : Addr) (l : List Str) : Prop where
  ex : ∃ D : SD, h.get? a = some (sObj "set" D) ∧ TxOk P w D l ∧ Ris D.2.2.place.toList ∧ (w.params.followText "set-order" = true ∨ D.2.2.led = true)
  nd : l.Nodup
theorem SetS.keep {h h' : Heap} (R : SetS P w h a l) (k : ∀ o, h.get? a = some o → h'.get? a = some o) : SetS P w h' a l := by
  obtain ⟨⟨D, h1, h2⟩, nd⟩ := R
  exact ⟨⟨D, k _ h1, h2⟩, nd⟩
theorem tail_ris {ep : Nat} {es : Array (Int × Value)} {t : SetTable} {d : Bool} (r : Ris t.place.toList) : Ris (tailTx ep es t d).2.2.place.toList := by
  unfold tailTx
  split
  · exact relayAll_ris _ _ _
  · exact r
theorem tail_led {ep : Nat} {es : Array (Int × Value)} {t : SetTable} {d : Bool} (r : t.led = true) : (tailTx ep es t d).2.2.led = true := by
  unfold tailTx
  split
  · show (relayAll _ _ _).2.1.led = true
    rw [relayAll_led]; exact r
  · exact r
theorem add_ris {D : SD} {hv : Int} {v : Value} (r : Ris D.2.2.place.toList) : Ris (addTx hv v D).2.2.place.toList := by
  unfold addTx
  refine tail_ris ?_
  have q := layNew_ris D.2.2 D.1 hv v r
  split <;> exact q
theorem add_led {D : SD} {hv : Int} {v : Value} (r : D.2.2.led = true) : (addTx hv v D).2.2.led = true := by
  unfold addTx
  refine tail_led ?_
  have q : (layNew D.2.2 D.1 hv v).2.1.led = true := by rw [layNew_led]; exact r
  split <;> exact q
/-- a text that is there already -/
theorem add_there {D : SD} {Q : Bool → Shared → Prop} (ho : s.heap.get? a = some (sObj "set" D)) (F : TxOk P w D l) (hx : x ∈ l) (hb : l.length < scanBound) (h : Q false s) :
    wpAny (model P w) A (setAddHashed a (.str x u) (hashStr w x)) Q E s := by
  obtain ⟨es, ep, t⟩ := D
  have hs : es.size < scanBound := Nat.lt_of_le_of_lt (Nat.le_of_eq F.sz) hb
  unfold setAddHashed setAddHashedIn
  refine wpAny_holding (wpAny_bind (wpAny_setState_of ho rfl F.fit ?_))
  dsimp only
  rw [byScan_of (knd := strKind P w) rfl hs F.el, if_pos rfl]
  unfold setAddByScan
  refine wpAny_bind (wpAny_bind (wpAny_rule (wpAny_bind (wpAny_setScan_of (knd := strKind P w) (k := x) (is_str x u) ho rfl F.fit F.el ?_))))
  cases e : List.findIdx? (fun y => (strKind P w).is x y.2) es.toList with
  | some j => exact wpAny_pure (wpAny_pure h)
  | none =>
    obtain ⟨y, hy, hz⟩ := (F.mem x).mp hx
    have c := List.findIdx?_eq_none_iff.mp e y hy
    rw [hz] at c
    cases c
/-- one more text -/
def addS (l : List Str) (x : Str) : List Str := if x ∈ l then l else x :: l
theorem setS_add {Q : Bool → Shared → Prop} (R : SetS P w s.heap a l) (hb : l.length + 1 < scanBound)
    (h : ∀ b h', Heap.SameBut a s.heap h' → SetS P w h' a (addS l x) → Q b { s with heap := h' }) : wpAny (model P w) A (setAddHashed a (.str x u) (hashStr w x)) Q E s := by
  obtain ⟨⟨D, ho, F, r, hl⟩, nd⟩ := R
  by_cases hx : x ∈ l
  · have q := h false s.heap (Heap.SameBut.refl a s.heap)
    unfold addS at q
    rw [if_pos hx] at q
    exact add_there ho F hx (by omega) (q ⟨⟨D, ho, F, r, hl⟩, nd⟩)
  · refine add_x ho F hx hb ?_
    have q := h true (s.heap.update a fun _ => sObj "set" (addTx (hashStr w x) (.str x u) D)) (Heap.SameBut.update s.heap a _)
    unfold addS at q
    rw [if_neg hx] at q
    exact q ⟨⟨_, get_upd _ ho rfl, add_ok u F, add_ris r, hl.imp id add_led⟩, List.nodup_cons.mpr ⟨hx, nd⟩⟩
end
end Nt
namespace Nt
open PySem PySem.Spec PyProof.Rows L2 PySem.Froz
theorem addS_mem {l : List Str} {x y : Str} : y ∈ addS l x ↔ y ∈ l ∨ y = x := by
  unfold addS
  split
  · rename_i h
    exact ⟨.inl, fun z => z.elim (fun z => z) (fun z => by rw [z]; exact h)⟩
  · rw [List.mem_cons]
    exact Or.comm
theorem addS_len {l : List Str} {x : Str} : (addS l x).length ≤ l.length + 1 := by
  unfold addS
  split
  · exact Nat.le_succ _
  · exact Nat.le_refl _
def setL (xs : List Str) : List Str := xs.foldl addS []
theorem setL_go : ∀ (xs l : List Str) (y : Str), y ∈ xs.foldl addS l ↔ y ∈ l ∨ y ∈ xs
  | [], l, y => by simp
  | x :: xs, l, y => by
    rw [List.foldl_cons, setL_go xs, addS_mem, List.mem_cons]
    exact or_assoc
theorem setL_len : ∀ (xs l : List Str), (xs.foldl addS l).length ≤ l.length + xs.length
  | [], l => Nat.le_refl _
  | x :: xs, l => by
    have h := setL_len xs (addS l x)
    have q := addS_len (l := l) (x := x)
    rw [List.foldl_cons, List.length_cons]
    omega
abbrev bareSet (w : World) : Obj := { cls := .type "set", dict := none, data := .set #[] 0 (.fresh 0 0 (!w.params.followText "set-order")) }
section
variable {P : Program} {w : World} {A : Around} {E : Value → Shared → Prop} {s : Shared}
theorem setS_bare {h : Heap} {a : Addr} (ho : h.get? a = some (bareSet w)) : SetS P w h a [] :=
  ⟨⟨(#[], 0, .fresh 0 0 (!w.params.followText "set-order")), ho, TxOk.nil rfl, List.Pairwise.nil, by
    show _ ∨ (!w.params.followText "set-order") = true
    cases w.params.followText "set-order" <;> simp⟩, List.nodup_nil⟩
/-- the items go in, one by one -/
theorem upd_loop {I S : Addr} {fp wr : List Addr} {G : Array GenState → Array GenState → Prop} {n : Nat} {Pv : Nat → Value → Prop} {St : Nat → Shared → Prop} {R : Result → Shared → Prop} (xs : List Str)
    (W : WalksS P w A.in1 I fp wr G n Pv St) (apart : S ∉ fp) (hn : n = xs.length) (hb : xs.length + 1 < scanBound) (items : ∀ i v, Pv i v → ∃ x t, xs[i]? = some x ∧ v = .str x t) :
    ∀ (m i : Nat) (s : Shared), n = i + m → St i s → SetS P w s.heap S ((xs.take i).foldl addS []) →
      (∀ s', Moved (S :: wr) G s s' → SetS P w s'.heap S (setL xs) → R (.ok (.ret .none)) s') → codeAny (model P w) A (.builtin "set.update.loop" ⟨[.ref S, .ref I], []⟩) R s := by
  have hSw : S ∉ wr := fun z => apart (W.sub _ z)
  have wide : ∀ b ∈ wr, b ∈ S :: wr := fun b z => List.mem_cons_of_mem _ z
  have off : ∀ {b : Addr}, b ∈ fp → b ≠ S := fun z e => apart (e ▸ z)
  intro m
  induction m with
  | zero =>
    intro i s hm st hS hR
    have hi : n = i := hm
    subst hi
    refine codeAny_builtin F.entry_set_update_loop ?_
    rw [Around.under_plainId F.plain_set_update_loop _]
    refine wpAny_bind (W.done s _ _ st fun s' mv => wpAny_pure (hR s' (mv.mono wide) ?_))
    rw [List.take_of_length_le (by omega)] at hS
    exact hS.keep fun o e => mv.heap S o hSw e
  | succ m ih =>
    intro i s hm st hS hR
    refine codeAny_builtin F.entry_set_update_loop ?_
    rw [Around.under_plainId F.plain_set_update_loop _]
    refine wpAny_bind (W.item i s _ _ (by omega) st fun v s1 pv st1 mv => ?_)
    obtain ⟨x, t, hx, rfl⟩ := items i v pv
    have hS1 := hS.keep fun o e => mv.heap S o hSw e
    have few := setL_len (xs.take i) []
    rw [List.length_take] at few
    refine wpAny_bind (wpAny_holding ?_)
    unfold setAdd
    refine wpAny_holding (wpAny_bind ((strKind P w).pyHash (k := x) (is_str x t) ?_))
    refine setS_add (s := { s1 with toks := s1.toks + 1 }) hS1 (by simp only [List.length_nil] at few; omega) fun b h1 sb hS2 => ?_
    have e2 : (xs.take (i + 1)).foldl addS [] = addS ((xs.take i).foldl addS []) x := by rw [tk_snoc hx, List.foldl_append]; rfl
    rw [← e2] at hS2
    refine wpAny_pure ⟨plainId_quiet F.plain_set_update_loop _, ih (i + 1) _ (by omega) (W.frame _ s1 _ _ st1 (Nat.le_succ _) fun c hc o e => (sb.2 c (off hc)).trans e) hS2 fun s2 mv2 hS3 => hR s2 ?_ hS3⟩
    exact Moved.trans W.gtrans ((mv.mono wide).then_heap (Nat.le_succ _) fun c o hc e => (sb.2 c fun z => hc (by rw [z]; exact List.mem_cons_self)).trans e) mv2
end
end Nt
namespace Nt
open PySem PySem.Spec PyProof.Rows L2 PySem.Froz
section
variable {P : Program} {w : World} {A : Around} {E : Value → Shared → Prop} {s : Shared}
abbrev withSet (w : World) (s : Shared) : Shared := { s with heap := s.heap.push (bareSet w) }
set_option maxHeartbeats 8000000 in
theorem set_of_list {p : Addr} {its : Array Value} {xs : List Str} {Q : Value → Shared → Prop} (hc : A.handled = none) (hp : s.heap.IsList p its) (hi : StrsAre its.toList xs) (hb : xs.length + 1 < scanBound)
    (fin : ∀ (g : Heap) (tk : Nat), SetS P w g s.heap.objs.size (setL xs) → (∀ b o, s.heap.get? b = some o → g.get? b = some o) → Q (.ref s.heap.objs.size) { s with heap := g, toks := tk }) :
    wpAny (model P w) A (call (.type "set") [.ref p]) Q E s := by
  obtain ⟨_, _, hmro⟩ := F.called_set.mro
  have made := F.called_set.made
  have sub := F.called_set.sub
  refine wpAny_call (codeAny_of_tree ?_)
  show wpAny _ _ (callAny (.type "set") _) _ _ _
  refine wpAny_pure ⟨Code.quiet_builtin _ (by decide +kernel), codeAny_builtin F.entry_type_call ?_⟩
  rw [Around.under_plain (weight_type_call_type "set" [.ref p] []) rfl]
  have n1 := F.called_set.notType
  have n2 := F.called_set.canCreate
  have n3 := F.typeCall_set_1 (.ref p)
  repeat (any_goals (first | assumption | wp_step))
  refine codeAny_mono (code_set_led1 (.ref p) (E := E) (Q₁ := fun ob t => ob = .ref s.heap.objs.size ∧ t = withSet w s) ⟨rfl, rfl⟩) fun r t ht => ?_
  cases r with
  | error e => exact ht
  | ok fl =>
    cases fl with
    | ret ob =>
      obtain ⟨rfl, rfl⟩ := ht
      have at0 : (s.heap.push (bareSet w)).get? s.heap.objs.size = some (bareSet w) := Heap.get?_push_size _ rfl
      have ty0 : Shared.TypeIs (withSet w s) (.ref s.heap.objs.size) "set" := ⟨_, at0, rfl⟩
      have li := F.called_set.init.lookup
      have bi := F.called_set.init.bind (.ref s.heap.objs.size)
      repeat (any_goals (first | assumption | wp_step))
      refine codeAny_mono (codeAny_call_builtin (R := wants (fun r t => r = .none ∧ ∃ g tk, t = { s with heap := g, toks := tk } ∧ SetS P w g s.heap.objs.size (setL xs) ∧ (∀ b o, s.heap.get? b = some o → g.get? b = some o)) E)
        F.called_set.init.plain F.entry_set_init (check_set_init_1 ty0 ?_)) fun r t ht => ?_
      · obtain ⟨ob, atp, cls, ne, dat⟩ := hp
        obtain ⟨oc, od, odat, osl⟩ := ob
        simp only at cls dat
        subst cls; subst dat
        have atp' : (s.heap.push (bareSet w)).get? p = some { cls := .type "list", dict := od, data := .seq its ne, slots := osl } := Heap.get?_push_of_some _ atp
        have s1 := F.sub_list_set
        have s2 := F.sub_list_frozenset
        have nd : (Value.type "list" == Value.type "dict") = false := by decide
        have isl : (s.heap.push (bareSet w)).IsList p its := ⟨_, atp', rfl, ne, rfl⟩
        unfold Builtin.«set.__init__» noKeywords Builtin.Frozenset.updateFrom
        generalize hI : pyIter = PI
        wp_walk
        subst hI
        refine wpAny_pyIter_list isl ?_
        refine wpAny_bind (wpAny_runValue ?_)
        have plt : p < s.heap.objs.size := Heap.lt_size atp
        have hc3 : A.in1.in1.in1.handled = none := by simp [hc]
        have sz1 : (s.heap.push (bareSet w)).objs.size = s.heap.objs.size + 1 := Heap.size_push ..
        have pne : p ≠ (s.heap.push (bareSet w)).objs.size := by rw [sz1]; exact Nat.ne_of_lt (Nat.lt_succ_of_lt plt)
        have apart : s.heap.objs.size ∉ [(s.heap.push (bareSet w)).objs.size, p] := by
          rw [sz1]
          simp only [List.mem_cons, List.not_mem_nil, or_false, not_or]
          exact ⟨Nat.ne_of_lt (Nat.lt_succ_self _), Nat.ne_of_gt plt⟩
        have hsz : its.size = xs.length := by rw [← StrsAre.len_eq hi, Array.length_toList]
        refine upd_loop (P := P) xs ((Walks.list hc3 _ p pne its).toS) apart hsz hb (fun i v hv => ?_) its.size 0 _ (by omega) ⟨⟨_, Heap.get?_push_size _ rfl, rfl, rfl⟩, (isl.push _)⟩ (setS_bare (Heap.get?_push_of_some _ at0)) ?_
        · have hl := (Array.getElem?_eq_some_iff.mp hv).1
          obtain ⟨t, e⟩ := SS.strs_at hi i v (by rw [Array.getElem?_toList]; exact hv)
          have hx : xs[i]? = some xs[i] := List.getElem?_eq_getElem (by omega)
          refine ⟨xs[i], t, hx, ?_⟩
          rw [e, List.getD_eq_getElem?_getD, hx]
          rfl
        · intro t mv hS
          obtain ⟨g, gs, dr, tk, os⟩ := t
          obtain rfl : gs = s.gens := mv.gens
          obtain rfl : dr = s.drawn := mv.drawn
          obtain rfl : os = s.os := mv.os
          refine wpAny_pure (wpAny_pure ⟨rfl, g, tk, rfl, hS, fun b o e => ?_⟩)
          have lt := Heap.lt_size e
          refine mv.heap b o ?_ (Heap.get?_push_of_some _ (Heap.get?_push_of_some _ e))
          simp only [List.mem_cons, List.not_mem_nil, or_false, not_or]
          rw [sz1]
          exact ⟨Nat.ne_of_lt lt, Nat.ne_of_lt (Nat.lt_succ_of_lt lt)⟩
      · cases r with
        | error e => exact ht
        | ok fl2 =>
          cases fl2 with
          | ret r =>
            obtain ⟨rfl, g, tk, rfl, hS, kp⟩ := ht
            repeat (any_goals (first | assumption | wp_step))
            exact fin _ _ hS kp
          | _ => exact ht.elim
    | _ => exact ht.elim
end
end Nt
/-! sorted of a set of texts; sorted by a def that counts a sign. -/
namespace Nt
open PySem PySem.Spec PyProof.Rows L2 PySem.Froz
section
variable {P : Program} {w : World} {A : Around} {E : Value → Shared → Prop} {s : Shared}
theorem strs_of : ∀ {vs : List Value}, (∀ v ∈ vs, ∃ x t, v = Value.str x t) → ∃ xs, StrsAre vs xs
  | [], _ => ⟨[], .nil⟩
  | v :: vs, h => by
    obtain ⟨x, t, rfl⟩ := h v List.mem_cons_self
    obtain ⟨xs, q⟩ := strs_of fun u hu => h u (List.mem_cons_of_mem _ hu)
    exact ⟨x :: xs, .cons x t q⟩
theorem strs_mem : ∀ {vs : List Value} {xs : List Str}, StrsAre vs xs → ∀ x, x ∈ xs ↔ ∃ t, Value.str x t ∈ vs
  | _, _, .nil, x => by simp
  | _, _, .cons y t q, x => by
    rw [List.mem_cons, strs_mem q x]
    constructor
    · rintro (rfl | ⟨u, hu⟩)
      · exact ⟨t, List.mem_cons_self⟩
      · exact ⟨u, List.mem_cons_of_mem _ hu⟩
    · rintro ⟨u, hu⟩
      rcases List.mem_cons.mp hu with z | z
      · cases z; exact .inl rfl
      · exact .inr ⟨u, z⟩
theorem sorted_setS {a : Addr} {l : List Str} {Q : Value → Shared → Prop} (R : SetS P w s.heap a l) (hc : A.handled = none) (hl : l.length ≤ 1000)
    (fin : ∀ t p out n ys, (∀ b o, s.heap.get? b = some o → t.heap.get? b = some o) → t.gens = s.gens → t.os = s.os → s.heap.objs.size ≤ p → t.heap.get? p = some (seqObj "list" out n) →
      StrsAre out.toList ys → (∀ y, y ∈ ys ↔ y ∈ l) → ys.length = l.length → sortedS ys = true → Q (.ref p) t) : wpAny (model P w) A (call (.builtin "sorted") [.ref a]) Q E s := by
  obtain ⟨⟨⟨es, ep, tb⟩, ho, F, r, led⟩, nd⟩ := R
  have hs : es.size = l.length := F.sz
  have hb : es.size < scanBound := by unfold scanBound; omega
  refine Calls.call_function_entry kind_sorted plain_sorted entry_sorted (args_sorted1 _) ?_
  unfold Builtin.«sorted»
  refine wpAny_bind (m := checkCount "sorted" 1 1 _) (wpAny_pure (wpAny_bind (collect_set (A := A.in1) hc ⟨_, ho, rfl, rfl⟩ F.fit hb r led fun t vs kp hz hg hos pm => ?_)))
  have vl : vs.length = l.length := by rw [pm.length_eq, List.length_map, Array.length_toList]; exact hs
  obtain ⟨xs, hx⟩ := strs_of (vs := vs) fun v hv => by
    obtain ⟨e, he, q⟩ := List.mem_map.mp (pm.mem_iff.mp hv)
    obtain ⟨⟨k, hk, _⟩, _⟩ := F.el e he
    obtain ⟨t, z⟩ := Value.isStrOf_shape hk
    exact ⟨k, t, by rw [← q]; exact z⟩
  have mem : ∀ y, y ∈ xs ↔ y ∈ l := fun y => by
    rw [strs_mem hx y, F.mem y]
    constructor
    · rintro ⟨t, ht⟩
      obtain ⟨e, he, q⟩ := List.mem_map.mp (pm.mem_iff.mp ht)
      exact ⟨e, he, by rw [q]; exact is_str y t⟩
    · rintro ⟨e, he, q⟩
      obtain ⟨t, z⟩ := Value.isStrOf_shape q
      exact ⟨t, pm.mem_iff.mpr (List.mem_map.mpr ⟨e, he, z⟩)⟩
  have vz : vs.length ≤ sizeLine := line_of (by omega)
  refine wpAny_bind (wpAny_newList ?_ vz)
  have at0 : (t.heap.push (seqObj "list" vs.toArray 0)).get? t.heap.objs.size = some (seqObj "list" vs.toArray 0) := Heap.get?_push_size _ rfl
  refine wpAny_bind (wpAny_holding (wpAny_call_entry slot_list_sort ⟨_, at0, rfl⟩ entry_list_sort
    (list_sort_treeKAny strKind_oneLt at0 hx.keysOf (fun v₁ v₂ rest e => keyKind_strs (by rw [← e]; exact hx)) vz fun st hp hso => ⟨_, rfl, ?_⟩) (args_list_sort _)))
  obtain ⟨ys, h1, h2, h3⟩ := sorted_out_str hx hp hso
  obtain ⟨n, hn⟩ := sortedHeap_at (vs := vs) (out := (arrOf st).map (·.2)) at0
  refine wpAny_pure ⟨_, rfl, fin _ t.heap.objs.size _ n ys (fun b u e => ?_) hg hos hz hn h1 (fun y => by rw [h2.mem_iff]; exact mem y) (by rw [h2.length_eq, ← StrsAre.len_eq hx]; exact vl) h3⟩
  have q := kp b u e
  have lt := Heap.lt_size q
  refine (sortedHeap_old (Nat.ne_of_lt lt) (by rw [size_push']; exact Nat.lt_succ_of_lt lt)).trans (Heap.get?_push_of_some _ q)
end
end Nt
namespace Nt
open PySem PySem.Spec PyProof.Rows L2 PySem.Froz
/-! ### as rules of the walk -/
def SetX (P : Program) (w : World) (a : Addr) (l : List Str) : HO := .ext fun h => SetS P w h a l
section
variable {X : Cx} {pins : List (Addr × Obj)} {σ : L2.St} {H : Hp} {s : Shared} {a : Addr} {l : List Str}
theorem setX_new {P : Program} {w : World} {h : Heap} (R : SetS P w h a l) : ObjOk P w H h a (SetX P w a l) := by
  obtain ⟨D, ho, _⟩ := R.ex
  exact ⟨R, ⟨_, ho⟩, fun h1 h2 p k => SetS.keep p k⟩
theorem setX_get (I : Inv X pins σ H s) (ha : H a = some (SetX X.prog X.w a l)) : SetS X.prog X.w s.heap a l := (I.hok a _ ha).1
/-- set(xs), xs a list of texts -/
def qSet (P : Program) (w : World) : List V → Hp → VK → Prop := fun vs H Q => ∃ (a : Addr) (xs : List Str), vs = [.ref a] ∧ H a = some (.lst (xs.map V.str)) ∧ xs.length ≤ 1000 ∧ ∀ p, H p = none → Q (.ref p) (upd H p (SetX P w p (setL xs)))
theorem cq_set (hc : X.calm = true) : CallR X (.type "set") (qSet X.prog X.w) := by
  intro pins s σ H vs us Q I r h
  obtain ⟨a, xs, rfl, ha, hl, q⟩ := h
  obtain ⟨its, rv, il, _⟩ := I.list (SqL.of ha)
  rw [Vals.ref1 r]
  refine set_of_list (I.ok.hd hc) il.isList (by simpa using rv.strs) (by unfold scanBound; omega) fun g tk R kp => ?_
  exact ⟨.ref _, _, I.laid (t' := tk) kp (Nat.le_refl _) (setX_new R), rfl, q _ (I.hok.fresh (Nat.le_refl _))⟩
/-- sorted(a set of texts) -/
def qSortedSet (P : Program) (w : World) : List V → Hp → VK → Prop := fun vs H Q => ∃ (a : Addr) (l : List Str), vs = [.ref a] ∧ H a = some (SetX P w a l) ∧ l.length ≤ 1000 ∧
  ∀ ys p, (∀ y, y ∈ ys ↔ y ∈ l) → ys.length = l.length → sortedS ys = true → H p = none → Q (.ref p) (upd H p (.lst (ys.map V.str)))
theorem cq_sortedSet (hc : X.calm = true) : CallR X (.builtin "sorted") (qSortedSet X.prog X.w) := by
  intro pins s σ H vs us Q I r h
  obtain ⟨a, l, rfl, ha, hl, q⟩ := h
  rw [Vals.ref1 r]
  refine sorted_setS (setX_get I ha) (I.ok.hd hc) hl fun t p out n ys kp hg hos hz hp hs hm hy hso => ?_
  have fresh : H p = none := I.hok.fresh hz
  have big : (ys.map V.str).length ≤ sizeLine := by rw [List.length_map]; exact line_of (by omega)
  have J : Inv X pins σ (upd H p (.lst (ys.map V.str))) { s with heap := t.heap, gens := t.gens, drawn := t.drawn, toks := t.toks } :=
    I.call (ch := []) (Un.laid kp hz fresh) (I.hok.laid kp hz ⟨big, out.toList, n, vals_of_strs hs, hp⟩) (by rw [hg]; exact I.bare) (fun _ z => nomatch z)
  have e : t = { s with heap := t.heap, gens := t.gens, drawn := t.drawn, toks := t.toks } := by
    cases t
    cases s
    cases hos
    rfl
  rw [e]
  exact ⟨.ref p, _, J, rfl, q ys p hm hy hso fresh⟩
end
end Nt
namespace Nt
open PySem PySem.Spec PyProof.Rows L2 PySem.Froz
/-! ### sorted by a def of one line that counts a sign -/
section
variable {P : Program} {w : World} {K : PySem.W.Frag} {x qual v : Str} {params : Arguments} {scope : Scope} {f : Addr} {fd : FuncData} {z : Str} {p1 ap p2 p3 p4 : Pos} {j : Nat}
theorem count_key (F : FunD K x qual params [.Return (some (.Call (.Attribute (.Name v p1) "count" ap) [.Constant (.str z) j p2] [] p3)) p4] scope [] [] f fd) (S : FnScope [v] [v] scope) (hv : scope.names.lookup v = some .local)
    (hbd : ∀ (kV doc pm : Value) (an : Option Addr) (cdv ct : Value) (us : List Value), us.length = [v].length → bindArgs (PySem.W.fnOf x qual params [.Return (some (.Call (.Attribute (.Name v p1) "count" ap) [.Constant (.str z) j p2] [] p3)) p4] scope .none kV doc pm an cdv ct) ⟨us, []⟩ = pure ([v].zip us))
    (hline : (ap.endLine == p3.line) = true) (hdb : (v == ("__debug__" : Str)) = false) {A : Around} {s : Shared} (hA : A.depth < recursionLimit) (KX : K.In s.heap) (lim : s.heap.NoLimit) (y : Str) (t : Tok) (E : Value → Shared → Prop) :
    wpAny (model P w) A (call (.ref f) [.str y t]) (PySem.W.KeyPure (.int (Txt.count y z)) s) E s := by
  have B := F.bindsN hbd
  obtain ⟨oc, od, dV, kV, doc, pm, an, cdv, ct, osl, rfl, lk, hcd, hD, hK⟩ := F.ex
  refine wpAny_call (codeAny_call_function hA (KX _ _ lk) rfl S.co S.gen rfl (PySem.W.codeRec_of KX hcd) ?_)
  refine B s [.str y t] KX rfl _ _ _ _ ?_
  have hk : ∀ q ∈ [v].zip ([Value.str y t] ++ []), scope.names.lookup q.1 = some .local ∨ (scope.names.lookup q.1 = some .cell ∧ ((cellsFrom (s.heap.objs.size + 1) scope.names []).lookup q.1).isSome = true) := fun q hq => by
    have e : q = (v, Value.str y t) := by simpa using hq
    rw [e]
    exact .inl hv
  refine wpAny_newFunctionEnv_cells S.kind hk fun env he s1 ic => ?_
  have k1 : env.kindOf v = some .local := by rw [he]; exact hv
  have k2 : env.scope.kind = .function := by rw [he]; exact S.kind
  have ns := ic.toInCall.ns
  obtain ⟨g, tk, es, kp⟩ := ic.done
  have lm := lim.keeps ic.toInCall.keep
  clear he ic
  refine ⟨lm, codeAny_func ?_⟩
  refine wpAny_execs_cons (wpAny_Return_some (Call_method1 (by rfl) (by rfl) hline ?_))
  refine wpAny_Name (wpAny_loadName_local k2 k1 ns (v := .str y t) ?_ ?_) hdb
  · show bindL _ [(v, Value.str y t)] _ v = _
    unfold bindL
    rw [k1]
    simp [bindL]
  · refine ⟨"str", _, PySem.F.plainAttrs_str, PySem.F.slot_str_count, PySem.F.type_str_count, typeIs_str _ _ _, (fun _ e => nomatch e), Calls.callWith_builtin rfl (Calls.evalArgs_plain (Calls.spliced_cons ?_))⟩
    refine Calls.Constant_str (Calls.spliced_nil (PySem.SC.count ?_))
    subst es
    exact ⟨g, _, rfl, kp, .int _ _⟩
end
end Nt
namespace Nt
open PySem PySem.Spec PyProof.Rows L2 PySem.Froz
section
variable {X : Cx}
theorem each_strs : ∀ {vs : List Value} {xs : List Str}, StrsAre vs xs → PySem.W.EachIs (fun v y => ∃ t, v = Value.str y t) vs xs
  | _, _, .nil => .nil
  | _, _, .cons y t q => .cons ⟨t, rfl⟩ (each_strs q)
theorem strs_each : ∀ {vs : List Value} {xs : List Str}, PySem.W.EachIs (fun v y => ∃ t, v = Value.str y t) vs xs → StrsAre vs xs
  | _, _, .nil => .nil
  | _, _, .cons ⟨t, e⟩ q => by rw [e]; exact .cons _ t (strs_each q)
/-- sorted(xs, key=f), xs a list of texts, f by count_key -/
def qSortKey (f : Addr) : List V → List V → Hp → VK → Prop := fun vs zs H Q => ∃ (a : Addr) (xs : List Str), vs = [.ref a] ∧ zs = [.ref f] ∧ H a = some (.lst (xs.map V.str)) ∧ xs.length ≤ 1000 ∧
  ∀ (ys : List Str) (p : Addr), ys.Perm xs → H p = none → Q (.ref p) (upd H p (.lst (ys.map V.str)))
theorem cq_sortKey {f : Addr} {z : Str} (hu : X.A.units + 200 < cLine)
    (turn : ∀ (s : Shared), X.K.In s.heap → s.heap.NoLimit → ∀ (y : Str) (t : Tok) (E : Value → Shared → Prop), wpAny (model X.prog X.w) X.A.in1.in1 (call (.ref f) [.str y t]) (PySem.W.KeyPure (.int (Txt.count y z)) s) E s) :
    CallRK X (.builtin "sorted") [Str.ofString "key"] (qSortKey f) := by
  intro pins s σ H vs zs us ws Q I r1 r2 h
  obtain ⟨a, xs, rfl, rfl, ha, hl, q⟩ := h
  obtain ⟨its, rv, il, _⟩ := I.list (SqL.of ha)
  rw [Vals.ref1 r1, Vals.ref1 r2]
  have hS : StrsAre its xs := rv.strs
  refine PySem.W.sorted_key_data (b := false) (kw := [(Str.ofString "key", .ref f)]) (fun y => .int (Txt.count y z)) il.isList (each_strs hS) (PySem.W.AllAlike.of fun _ _ => by simp [PySem.W.alike]) (PySem.W.Sortable.others fun _ => ⟨nofun, nofun⟩) (line_of (by omega)) (fun y _ => ?_)
    (ksk_s1 _ _) (fun _ => ksk_l1 _ _) (fun _ => ksk_t1 _ _) (fun v y hv _ g tk kp => ?_) fun out c g tk kp fr hD ol eo => ?_
  · show X.A.units + 2 + 0 < cLine
    omega
  · obtain ⟨t, rfl⟩ := hv
    exact turn { s with heap := g, toks := tk } (I.kIn.keeps kp) (I.nolimit.keeps kp) y t _
  · have h2 := strs_each eo
    have pm : (xs.mergeSort (PySem.W.dataLe false fun y => .int (Txt.count y z))).Perm xs := List.mergeSort_perm _ _
    generalize xs.mergeSort (PySem.W.dataLe false fun y => .int (Txt.count y z)) = ys at h2 pm
    have big : (ys.map V.str).length ≤ sizeLine := by rw [List.length_map, pm.length_eq]; exact line_of (by omega)
    exact ⟨.ref _, _, I.laid (t' := tk) (o := .lst (ys.map V.str)) kp (Nat.le_succ _) ⟨big, out, c, vals_of_strs h2, hD⟩, rfl, q ys _ pm (I.hok.fresh (Nat.le_succ _))⟩
end
end Nt
namespace Nt
open PySem PySem.Spec PyProof.Rows L2
theorem w_ckw {r : List V → List V → Hp → VK → Prop} {t tk : TA} {σ : L2.St} {H : Hp} {Q : VK} (k : t σ H fun vs H1 => tk σ H1 fun zs H2 => r vs zs H2 Q) : tCKw r t tk σ H Q := k
theorem setL_mem {xs : List Str} {y : Str} : y ∈ setL xs ↔ y ∈ xs := by
  unfold setL
  rw [setL_go]
  simp
theorem setL_le (xs : List Str) : (setL xs).length ≤ xs.length := by
  have h := setL_len xs []
  simp only [List.length_nil] at h
  unfold setL
  omega
end Nt
namespace Nt
open PySem PySem.Spec PyProof.Rows L2
section
variable {K : PySem.W.Frag} {σ : L2.St} {H : Hp} {Q : VK} {J : It} {n : Nat} {G : Hp → Prop} {Y : Nat → Hp → V → Hp → Prop} {g : TG} {tt : TT} {te tk tv : TE} {vs : List Nat} {ex : Addr → Prop} {M0 H0 M : Hp}
structure DcS (ex : Addr → Prop) (M0 H0 : Hp) (D : Addr) (A : List (L2.Key × V) → Hp → Prop) (H : Hp) : Prop where
  ex : ∃ M acc, Stp ex M0 H0 M H ∧ M D = none ∧ H D = some (.dK acc) ∧ A acc M
/-- a dict comprehension over a walk -/
theorem dc_go (w : Walk J n G Y) (s0 : Same M H) (A : Nat → List (L2.Key × V) → Hp → Prop) (a0 : A 0 [] M) (hG : ∀ M' H', Stp ex M H M' H' → G H')
    (turn : ∀ i x acc M1 H1 H1' D, i < n → Stp ex M H M1 H1 → H D = none → M1 D = none → H1 D = some (.dK acc) → A i acc M1 → Y i H1 x H1' →
      g x (wipe σ vs) H1' fun σ2 H2 => wipe σ2 vs = wipe σ vs ∧ tt σ2 H2 fun b H3 => if b = true then tk σ2 H3 fun y H4 => tv σ2 H4 fun z H5 => ∃ kvs k, y = kV k ∧ H5 D = some (.dK kvs) ∧ kvs.length < sizeLine ∧ DcS ex M H D (A (i + 1)) (upd H5 D (.dK (putK kvs k z))) else DcS ex M H D (A (i + 1)) H3)
    (done : ∀ D acc M1 H1, H D = none → Stp ex M H M1 H1 → M1 D = none → H1 D = some (.dK acc) → A n acc M1 → Q (.ref D) H1) :
    DcG J g tt tk tv vs σ Q H := by
  intro D hD
  have R := Stp.refl (ex := ex) s0
  refine ⟨fun i m H' => m = n - i ∧ i ≤ n ∧ DcS ex M H D (A i) H', ⟨n, by omega, Nat.zero_le _, M, [], R.new _ hD, R.mfree hD, upd_same, a0⟩, ?_⟩
  rintro i m H1 ⟨rfl, hi, M1, acc, S1, m1, h1, a1⟩
  by_cases q : i = n
  · subst q
    exact .inl ⟨w.stops H1 (hG _ _ S1), done D acc M1 H1 hD S1 m1 h1 a1⟩
  · have hi : i < n := by omega
    refine .inr ⟨w.goes i H1 hi (hG _ _ S1), fun H' => DcS ex M H D (A (i + 1)) H', fun H' h => ⟨n - (i + 1), by omega, rfl, by omega, h⟩, fun x H' hy => turn i x acc M1 H1 H' D hi S1 hD m1 h1 a1 (w.yields i H1 x H' hi (hG _ _ S1) hy)⟩
end
end Nt
namespace Nt
open PySem PySem.Spec PyProof.Rows L2
abbrev bandF (vc vs vr vk vl : V) : List (Str × V) := [("cell_list", vc), ("seed_list", vs), ("row_list", vr), ("known_rows", vk), ("lot_list", vl)]
theorem fl_seed {vc vs vr vk vl : V} : (bandF vc vs vr vk vl).lookup ("seed_list" : Str) = some vs := rfl
theorem fl_row {vc vs vr vk vl : V} : (bandF vc vs vr vk vl).lookup ("row_list" : Str) = some vr := rfl
theorem nodup_at {l : List Str} (nd : l.Nodup) {i : Nat} {x : Str} (h : l[i]? = some x) : x ∉ l.take i := fun m => by
  obtain ⟨j, hj⟩ := List.getElem?_of_mem m
  rw [List.getElem?_take] at hj
  split at hj
  · rename_i q
    have hl : j < l.length := (List.getElem?_eq_some_iff.mp hj).1
    have := (List.getElem?_inj hl nd).mp (hj.trans h.symm)
    omega
  · cases hj
/-- a Band that stands -/
def BandO (C : Addr) (M : Hp) (cs : Cells) (seeds rows : List Str) (a : Addr) : Prop := ∃ dx vc vs vr vk vl, M a = some (.ins C dx (bandF vc vs vr vk vl)) ∧ Is M (cellsD cs) vc ∧ Is M (dS seeds) vs ∧ Is M (dS rows) vr ∧ ∃ ka ks, vk = .ref ka ∧ M ka = some (.dK (kd yes ks)) ∧ ∀ x, x ∈ ks ↔ x ∈ rows
theorem BandO.mono {C : Addr} {M M' : Hp} {cs : Cells} {seeds rows : List Str} {a : Addr} (h : BandO C M cs seeds rows a) (s : Same M M') : BandO C M' cs seeds rows a := by
  obtain ⟨dx, vc, vs, vr, vk, vl, h1, h3, h5, h7, ka, ks, e, h9, h10⟩ := h
  exact ⟨dx, vc, vs, vr, vk, vl, s _ _ h1, h3.mono s, h5.mono s, h7.mono s, ka, ks, e, s _ _ h9, h10⟩
section
variable {K : PySem.W.Frag} {σ : L2.St} {H : Hp} {Q : VK} {D : Ends} {ta tv : TE} {f : Str}
theorem w_fld (k : ta σ H fun x H1 => ∃ a C dx fs v, x = .ref a ∧ H1 a = some (.ins C dx fs) ∧ Cls K C ∧ NoAttr K C f ∧ fs.lookup f = some v ∧ Q v H1) : tFld K ta f σ H Q := k
theorem w_sfld (k : tv σ H fun y H1 => ta σ H1 fun x H2 => ∃ a C dx fs, x = .ref a ∧ H2 a = some (.ins C dx fs) ∧ Cls K C ∧ NoAttr K C f ∧ fs.length < 1000 ∧ D.nx σ (upd H2 a (.ins C dx (putF f y fs)))) : sFld K ta tv f D σ H := k
end
theorem pf1 {v1 : V} : putF "cell_list" v1 ([] : List (Str × V)) = ([("cell_list", v1)] : List (Str × V)) := rfl
theorem pf2 {v1 v2 : V} : putF "seed_list" v2 ([("cell_list", v1)] : List (Str × V)) = ([("cell_list", v1), ("seed_list", v2)] : List (Str × V)) := rfl
theorem pf3 {v1 v2 v3 : V} : putF "row_list" v3 ([("cell_list", v1), ("seed_list", v2)] : List (Str × V)) = ([("cell_list", v1), ("seed_list", v2), ("row_list", v3)] : List (Str × V)) := rfl
theorem pf4 {v1 v2 v3 v4 : V} : putF "known_rows" v4 ([("cell_list", v1), ("seed_list", v2), ("row_list", v3)] : List (Str × V)) = ([("cell_list", v1), ("seed_list", v2), ("row_list", v3), ("known_rows", v4)] : List (Str × V)) := rfl
theorem pf5 {v1 v2 v3 v4 v5 : V} : putF "lot_list" v5 ([("cell_list", v1), ("seed_list", v2), ("row_list", v3), ("known_rows", v4)] : List (Str × V)) = bandF v1 v2 v3 v4 v5 := rfl
end Nt
namespace Nt
open PySem PySem.Spec PyProof.Rows L2
theorem from_nox {X : Cx} {body : List Stmt} {D : Ends} {σ : L2.St} {H : Hp} (h : ∃ t, PSs X.nox body t ∧ t D σ H) : ∃ t, PSs X body t ∧ t D σ H := let ⟨t, a, b⟩ := h; ⟨t, a.nox, b⟩
end Nt
/-! Lists or tuples walked; lumps. -/
namespace Nt
open PySem PySem.Spec PyProof.Rows L2
abbrev SQ (H : Hp) (a : Addr) (vs : List V) : Prop := H a = some (.lst vs) ∨ H a = some (.tup vs)
theorem SQ.mono {M H : Hp} (s : Same M H) {a : Addr} {vs : List V} (h : SQ M a vs) : SQ H a vs := h.imp (s _ _) (s _ _)
theorem SQ.one {H : Hp} {a : Addr} {vs ws : List V} (h : SQ H a vs) (g : SQ H a ws) : vs = ws := by
  rcases h with h | h <;> rcases g with g | g <;> rw [h] at g <;> cases g <;> rfl
section
variable {K : PySem.W.Frag} {σ : L2.St} {H : Hp} {Q : VK} {a : Addr} {vs : List V} {R : It → Hp → Prop} {te : TE}
theorem w_walkQ (h : SQ H a vs) (k : ∀ (J : It) (G : Hp → Prop), (∀ H', (∀ o, H a = some o → H' a = some o) → G H') → Walk J vs.length G (YAt vs) → R J H) : ∃ b, V.ref a = .ref b ∧ ((∃ xs, SqL K H b xs ∧ R (Itl K b) H) ∨ ∃ xs, SqT K H b xs ∧ R (Itt K b) H) := by
  refine ⟨a, rfl, ?_⟩
  rcases h with h | h
  · exact .inl ⟨vs, SqL.of h, k _ (fun H' => H' a = some (.lst vs)) (fun H' q => q _ h) walkL⟩
  · exact .inr ⟨vs, SqT.of h, k _ (fun H' => H' a = some (.tup vs)) (fun H' q => q _ h) walkT⟩
end
/-- what a list or a tuple holds -/
def Dat.seq : Dat → Option (List Dat)
  | .lst ds => some ds
  | .tup ds => some ds
  | _ => none
theorem Dat.seq_ty {d : Dat} : (d.isT "list" || d.isT "tuple") = d.seq.isSome := by cases d <;> rfl
theorem Is.seq {M : Hp} {d : Dat} {v : V} {ds : List Dat} (h : Is M d v) (e : d.seq = some ds) : ∃ a vs, v = .ref a ∧ SQ M a vs ∧ IsA M ds vs := by
  cases d with
  | lst xs =>
    cases e
    obtain ⟨a, vs, e, q, r⟩ := h
    exact ⟨a, vs, e, .inl q, r⟩
  | tup xs =>
    cases e
    obtain ⟨a, vs, e, q, r⟩ := h
    exact ⟨a, vs, e, .inr q, r⟩
  | _ => cases e
/-- the text that it is -/
def Dat.txt : Dat → Option Str
  | .str x => some x
  | _ => none
theorem Dat.txt_ty {d : Dat} : d.isT "str" = d.txt.isSome := by cases d <;> rfl
theorem Is.txt {M : Hp} {d : Dat} {v : V} {x : Str} (h : Is M d v) (e : d.txt = some x) : v = .str x := by
  cases d with
  | str y => cases e; exact h
  | _ => cases e
/-- lumps as texts, whatever lists or tuples hold them -/
def txts : List Dat → Option (List Str)
  | [] => some []
  | d :: ds => match d.txt, txts ds with
    | some x, some xs => some (x :: xs)
    | _, _ => none
def lumpsOf : List Dat → Option (List (List Str))
  | [] => some []
  | d :: ds => match d.seq.bind txts, lumpsOf ds with
    | some g, some gs => some (g :: gs)
    | _, _ => none
theorem txts_at : ∀ {ds : List Dat} {xs : List Str}, txts ds = some xs → ds = xs.map Dat.str
  | [], xs, h => by cases h; rfl
  | d :: ds, xs, h => by
    rw [txts] at h
    cases e : d.txt with
    | none => rw [e] at h; cases h
    | some x =>
      rw [e] at h
      cases e2 : txts ds with
      | none => rw [e2] at h; cases h
      | some ys =>
        rw [e2] at h
        cases h
        have hd : d = .str x := by cases d <;> first | cases e; rfl | cases e
        rw [hd, txts_at e2]
        rfl
theorem txts_map : ∀ xs : List Str, txts (xs.map Dat.str) = some xs
  | [] => rfl
  | x :: xs => by
    rw [List.map_cons, txts, txts_map xs]
    rfl
/-- small enough to be gone through -/
def Sm (d : Dat) : Prop := ∀ ds, d.seq = some ds → ds.length ≤ 200 ∧ ∀ e ∈ ds, ∀ es, e.seq = some es → es.length ≤ 200
/-- the lumps that d holds are a parting of full -/
def IsL (full : List Str) (d : Dat) : Prop := ∃ ds gs, d.seq = some ds ∧ lumpsOf ds = some gs ∧ (∀ g ∈ gs, g ≠ []) ∧ gs.flatten.Perm full
theorem IsQ.seq {M : Hp} {ds : List Dat} {v : V} (h : IsQ M ds v) : ∃ a vs, v = .ref a ∧ SQ M a vs ∧ IsA M ds vs := h
end Nt
/-! Places of rows in lumps; the first break. -/
namespace Nt
open PySem PySem.Spec PyProof.Rows L2
abbrev Lt (x y : Str) : Prop := sl x < sl y
theorem Lt.irrefl (x : Str) : ¬ Lt x x := List.lt_irrefl _
theorem Lt.trans {x y z : Str} (h : Lt x y) (g : Lt y z) : Lt x z := List.lt_trans h g
theorem Lt.tri (x y : Str) : Lt x y ∨ x = y ∨ Lt y x := by
  by_cases h : sl x < sl y
  · exact .inl h
  · by_cases g : sl y < sl x
    · exact .inr (.inr g)
    · exact .inr (.inl (sl_inj (List.le_antisymm (List.not_lt.mp g) (List.not_lt.mp h))))
theorem rising_pw : ∀ {ys : List Str} {x : Str}, risingS x ys = true → (∀ y ∈ ys, ¬ Lt y x) ∧ ys.Pairwise fun a b => ¬ Lt b a
  | [], x, _ => ⟨by simp, List.Pairwise.nil⟩
  | y :: ys, x, h => by
    rw [risingS, Bool.and_eq_true, Bool.not_eq_true', ltCps_eq, decide_eq_false_iff_not] at h
    obtain ⟨h1, h2⟩ := h
    obtain ⟨h3, h4⟩ := rising_pw h2
    refine ⟨fun z hz => ?_, List.pairwise_cons.mpr ⟨h3, h4⟩⟩
    rcases List.mem_cons.mp hz with e | e
    · rw [e]; exact h1
    · intro q
      rcases Lt.tri x y with t | t | t
      · exact h3 z e (q.trans t)
      · rw [t] at q; exact h3 z e q
      · exact h1 t
theorem sorted_pw {ys : List Str} (h : sortedS ys = true) : ys.Pairwise fun a b => ¬ Lt b a := by
  cases ys with
  | nil => exact List.Pairwise.nil
  | cons x r =>
    obtain ⟨h1, h2⟩ := rising_pw (show risingS x r = true from h)
    exact List.pairwise_cons.mpr ⟨h1, h2⟩
/-- there is one sorted list -/
theorem sorted_one : ∀ {xs ys : List Str}, xs.Perm ys → (xs.Pairwise fun a b => ¬ Lt b a) → (ys.Pairwise fun a b => ¬ Lt b a) → xs = ys
  | [], ys, h, _, _ => (List.nil_perm.mp h).symm
  | x :: xs, [], h, _, _ => (List.perm_nil.mp h)
  | x :: xs, y :: ys, h, p, q => by
    obtain ⟨p1, p2⟩ := List.pairwise_cons.mp p
    obtain ⟨q1, q2⟩ := List.pairwise_cons.mp q
    have e : x = y := by
      have hx : x ∈ y :: ys := h.mem_iff.mp List.mem_cons_self
      have hy : y ∈ x :: xs := h.mem_iff.mpr List.mem_cons_self
      rcases List.mem_cons.mp hx with e | e
      · exact e
      · rcases List.mem_cons.mp hy with f | f
        · exact f.symm
        · rcases Lt.tri x y with t | t | t
          · exact absurd t (q1 x e)
          · exact t
          · exact absurd t (p1 y f)
    subst e
    rw [sorted_one (List.Perm.cons_inv h) p2 q2]
/-! ### places -/
def plc (gs : List (List Str)) (r : Str) : Nat := (((List.range gs.length).filter fun k => decide (r ∈ gs.getD k [])).head?).getD 0
theorem plc_has {gs : List (List Str)} {r : Str} (h : r ∈ gs.flatten) : ∃ t, ((List.range gs.length).filter fun k => decide (r ∈ gs.getD k [])) = plc gs r :: t ∧ plc gs r < gs.length ∧ r ∈ gs.getD (plc gs r) [] := by
  obtain ⟨g, hg, hr⟩ := List.mem_flatten.mp h
  obtain ⟨i, hi⟩ := List.getElem?_of_mem hg
  have hm : i ∈ (List.range gs.length).filter fun k => decide (r ∈ gs.getD k []) := List.mem_filter.mpr ⟨List.mem_range.mpr (lt_of_get hi), by
    rw [List.getD_eq_getElem?_getD, hi]
    simpa using hr⟩
  cases e : (List.range gs.length).filter fun k => decide (r ∈ gs.getD k []) with
  | nil => rw [e] at hm; cases hm
  | cons k t =>
    have hp : plc gs r = k := by rw [plc, e]; rfl
    have hk : k ∈ (List.range gs.length).filter fun k => decide (r ∈ gs.getD k []) := by rw [e]; exact List.mem_cons_self
    obtain ⟨h1, h2⟩ := List.mem_filter.mp hk
    rw [hp]
    exact ⟨t, rfl, List.mem_range.mp h1, by simpa using h2⟩
theorem mem_getD {gs : List (List Str)} {k : Nat} {r : Str} (h : r ∈ gs.getD k []) : k < gs.length ∧ gs.getD k [] ∈ gs ∧ r ∈ gs.flatten := by
  rw [List.getD_eq_getElem?_getD] at h ⊢
  cases e : gs[k]? with
  | none => rw [e] at h; simp at h
  | some g =>
    rw [e] at h
    exact ⟨lt_of_get e, mem_of_get e, List.mem_flatten.mpr ⟨g, mem_of_get e, h⟩⟩
/-- in a parting each row has one place -/
theorem plc_one {gs : List (List Str)} (nd : gs.flatten.Nodup) : ∀ {k j : Nat} {r : Str}, r ∈ gs.getD k [] → r ∈ gs.getD j [] → k = j := by
  induction gs with
  | nil => intro k j r h; simp at h
  | cons g gs ih =>
    rw [List.flatten_cons, List.nodup_append] at nd
    intro k j r hk hj
    cases k with
    | zero =>
      cases j with
      | zero => rfl
      | succ j => exact absurd rfl (nd.2.2 r hk r (mem_getD (gs := gs) (k := j) hj).2.2)
    | succ k =>
      cases j with
      | zero => exact absurd rfl (nd.2.2 r hj r (mem_getD (gs := gs) (k := k) hk).2.2)
      | succ j => rw [ih nd.2.1 (k := k) (j := j) hk hj]
theorem plc_at {gs : List (List Str)} (nd : gs.flatten.Nodup) {k : Nat} {r : Str} (h : r ∈ gs.getD k []) : plc gs r = k := by
  obtain ⟨_, _, _, h2⟩ := plc_has (mem_getD h).2.2
  exact plc_one nd h2 h
/-! ### breaks -/
def Apart (gs : List (List Str)) (s r o : Str) : Prop := o ∈ gs.getD (plc gs r) [] ∧ plc gs (ovr s o) ≠ plc gs (ovr s r)
def Whole (gs : List (List Str)) (full : List Str) (s : Str) : Prop := ∀ r ∈ full, ∀ o, ¬ Apart gs s r o
def BrkIs (gs : List (List Str)) (seeds full : List Str) : Option (Str × Str × Str) → Prop
  | none => ∀ s ∈ seeds, Whole gs full s
  | some (s, r, o) => ∃ i : Nat, seeds[i]? = some s ∧ (∀ j s', j < i → seeds[j]? = some s' → Whole gs full s') ∧ r ∈ full ∧ Apart gs s r o ∧ (∀ r' ∈ full, Lt r' r → ∀ o', ¬ Apart gs s r' o') ∧ ∀ o', Apart gs s r o' → ¬ Lt o' o
theorem BrkIs.one {gs : List (List Str)} {seeds full : List Str} : ∀ {a b : Option (Str × Str × Str)}, BrkIs gs seeds full a → BrkIs gs seeds full b → a = b
  | none, none, _, _ => rfl
  | none, some (s, r, o), h, ⟨i, h1, _, h3, h4, _⟩ => absurd h4 (h s (mem_of_get h1) r h3 o)
  | some (s, r, o), none, ⟨i, h1, _, h3, h4, _⟩, h => absurd h4 (h s (mem_of_get h1) r h3 o)
  | some (s, r, o), some (s', r', o'), ⟨i, h1, h2, h3, h4, h5, h6⟩, ⟨i', g1, g2, g3, g4, g5, g6⟩ => by
    have ei : i = i' := by
      rcases Nat.lt_trichotomy i i' with t | t | t
      · exact absurd h4 (g2 i s t h1 r h3 o)
      · exact t
      · exact absurd g4 (h2 i' s' t g1 r' g3 o')
    subst ei
    rw [h1] at g1
    cases g1
    have er : r = r' := by
      rcases Lt.tri r r' with t | t | t
      · exact absurd h4 (g5 r h3 t o)
      · exact t
      · exact absurd g4 (h5 r' g3 t o')
    subst er
    have eo : o = o' := by
      rcases Lt.tri o o' with t | t | t
      · exact absurd t (g6 o h4)
      · exact t
      · exact absurd t (h6 o' g4)
    rw [eo]
def brkD : Option (Str × Str × Str) → Dat
  | none => .non
  | some (s, r, o) => .tup [.str s, .str r, .str o]
end Nt
namespace Nt
open PySem PySem.Spec PyProof.Rows L2
def okE (full : List Str) (e : Dat) : Bool := match e.txt with
  | some x => decide (x ∈ full)
  | none => false
theorem okE_all {full : List Str} : ∀ {es : List Dat}, (es.map (okE full)).all id = true → ∃ g, txts es = some g ∧ ∀ x ∈ g, x ∈ full
  | [], _ => ⟨[], rfl, by simp⟩
  | e :: es, h => by
    rw [List.map_cons, List.all_cons, Bool.and_eq_true] at h
    obtain ⟨g, hg, hx⟩ := okE_all (es := es) h.2
    have h1 : okE full e = true := h.1
    unfold okE at h1
    cases q : e.txt with
    | none => rw [q] at h1; cases h1
    | some x =>
      rw [q] at h1
      refine ⟨x :: g, by rw [txts, q, hg], fun y hy => ?_⟩
      rcases List.mem_cons.mp hy with z | z
      · rw [z]; exact of_decide_eq_true h1
      · exact hx y z
theorem okE_not {full : List Str} {es : List Dat} {g : List Str} (h : txts es = some g) (hx : ∀ x ∈ g, x ∈ full) : (es.map (okE full)).all id = true := by
  rw [txts_at h, List.map_map, List.all_map]
  refine List.all_eq_true.mpr fun x m => ?_
  show decide (x ∈ full) = true
  exact decide_eq_true (hx x m)
theorem lumpsOf_at : ∀ {ds : List Dat} {gs : List (List Str)}, lumpsOf ds = some gs → ∀ {i : Nat} {d : Dat}, ds[i]? = some d → ∃ g, gs[i]? = some g ∧ d.seq.bind txts = some g
  | [], gs, h, i, d, e => by simp at e
  | c :: ds, gs, h, i, d, e => by
    rw [lumpsOf] at h
    cases q : c.seq.bind txts with
    | none => rw [q] at h; cases h
    | some g =>
      rw [q] at h
      cases q2 : lumpsOf ds with
      | none => rw [q2] at h; cases h
      | some hs =>
        rw [q2] at h
        cases h
        cases i with
        | zero =>
          have e' : c = d := by simpa using e
          subst e'
          exact ⟨g, rfl, q⟩
        | succ i =>
          obtain ⟨g', h1, h2⟩ := lumpsOf_at q2 (i := i) (by simpa using e)
          exact ⟨g', by simpa using h1, h2⟩
theorem lumpsOf_snoc : ∀ {ds : List Dat} {gs : List (List Str)} {d : Dat} {g : List Str}, lumpsOf ds = some gs → d.seq.bind txts = some g → lumpsOf (ds ++ [d]) = some (gs ++ [g])
  | [], gs, d, g, h, e => by
    cases h
    show lumpsOf [d] = some [g]
    rw [lumpsOf, e]
    rfl
  | c :: ds, gs, d, g, h, e => by
    rw [lumpsOf] at h
    cases q : c.seq.bind txts with
    | none => rw [q] at h; cases h
    | some g' =>
      rw [q] at h
      cases q2 : lumpsOf ds with
      | none => rw [q2] at h; cases h
      | some hs =>
        rw [q2] at h
        cases h
        show lumpsOf (c :: (ds ++ [d])) = _
        rw [lumpsOf, q, lumpsOf_snoc q2 e]
        rfl
theorem flat_len {gs : List (List Str)} {n : Nat} (h : ∀ g ∈ gs, g.length ≤ n) : gs.flatten.length ≤ gs.length * n := by
  induction gs with
  | nil => simp
  | cons g gs ih =>
    have h1 := ih fun x hx => h x (List.mem_cons_of_mem _ hx)
    have h2 := h g List.mem_cons_self
    rw [List.flatten_cons, List.length_append, List.length_cons, Nat.succ_mul]
    omega
/-- sorted(xs), xs a list of texts of any length -/
def qSortS : List V → Hp → VK → Prop := fun vs H Q => ∃ (a : Addr) (xs : List Str), vs = [.ref a] ∧ H a = some (.lst (xs.map V.str)) ∧ xs.length ≤ 1000000 ∧ ∀ (ys : List Str) (p : Addr), ys.Perm xs → sortedS ys = true → H p = none → Q (.ref p) (upd H p (.lst (ys.map V.str)))
theorem cq_sortS {X : Cx} : CallR X (.builtin "sorted") qSortS := by
  intro pins s σ H vs us Q I r h
  obtain ⟨a, xs, rfl, ha, hl, q⟩ := h
  obtain ⟨its, rv, il, _⟩ := I.list (SqL.of ha)
  rw [Vals.ref1 r]
  have hS := rv.strs
  refine PyProof.Rows.sorted_strsAny il.isList hS (by rw [StrsAre.len_eq hS]; exact line_of hl) fun out ys h1 h2 h3 => ?_
  obtain ⟨ep, he⟩ := PyProof.Rows.sortedAll_at s.heap its out
  have big : (ys.map V.str).length ≤ sizeLine := by rw [List.length_map, h2.length_eq]; exact line_of hl
  exact ⟨.ref _, _, I.laid (t' := s.toks) (o := .lst (ys.map V.str)) (fun _ _ => PyProof.Rows.sortedAll_old) (Nat.le_succ _) ⟨big, out.toList, ep, vals_of_strs h1, he⟩, rfl, q ys _ h2 h3 (I.hok.fresh (Nat.le_succ _))⟩
end Nt
namespace Nt
open PySem PySem.Spec PyProof.Rows L2
theorem SQ.keep {M H H' : Hp} {a : Addr} {vs : List V} (h : SQ M a vs) (s : Same M H) (s' : Same M H') (o : HO) (e : H a = some o) : H' a = some o := by
  rcases h with z | z
  · rw [s _ _ z] at e; cases e; exact s' _ _ z
  · rw [s _ _ z] at e; cases e; exact s' _ _ z
end Nt
namespace Nt
open PySem PySem.Spec PyProof.Rows L2
theorem w_seqV {K : PySem.W.Frag} {σ : L2.St} {H : Hp} {a : Addr} {vs : List V} {i : Nat} {R : It → Hp → Prop} (h : SQ H a vs) (hv : σ[i]? = some (some (.ref a)))
    (k : ∀ (J : It) (G : Hp → Prop), (∀ H', (∀ o, H a = some o → H' a = some o) → G H') → Walk J vs.length G (YAt vs) → R J H) : iSeq K (tVar i) σ H R :=
  ⟨.ref a, hv, w_walkQ h k⟩
end Nt
/-! An own exception made without arguments. -/
namespace Nt
open PySem PySem.Spec PyProof.Rows L2
section
variable {X : Cx} {pins : List (Addr × Obj)} {σ : L2.St} {H : Hp}
/-- where a new exception of the class C comes to stand: its arguments' empty tuple first, then itself -/
abbrev withExc (C : Addr) (h : Heap) : Heap := (h.push (PySem.W.kdv_tup [])).push (PySem.HandSPX.excO C h.objs.size)
theorem withExc_old {C : Addr} {h : Heap} : ∀ b o, h.get? b = some o → (withExc C h).get? b = some o := fun _ _ e => Heap.get?_push_of_some _ (Heap.get?_push_of_some _ e)
theorem withExc_inv {C : Addr} {h : Heap} {g : Array GenState} {dr : Drawn} {tk : Nat} {os : OsState} (I : L2.Inv X pins σ H ⟨h, g, dr, tk, os⟩) : L2.Inv X pins σ (upd H (h.objs.size + 1) (exo (h.objs.size + 1) C none)) ⟨withExc C h, g, dr, tk, os⟩ :=
  I.laid (t' := tk) withExc_old (Nat.le_succ h.objs.size) (exo_ok (by heap_get))
/-- C(), C an own exception with an __init__ of its own whose parameters all have defaults, or that has none but self -/
theorem pmk_oex0 {CX : CXT} {x : Str} {p pos : Pos} {C fI : Addr} {k : Nat} {fd : FuncData} {ps : List Str} {sp : Sp} (T : OexC X.K C) (iC : PySem.W.findIn X.K (.ref C) "__init__" = some (some (.ref fI))) (tI : PySem.W.typeIn X.K (.ref fI) = some (.type "function"))
    (F1 : FnOk X.prog X.w X.K X.mg X.base CX k fI fd ps sp) (hr : Room (k + 1) X.A) (hb : Binds X.K fd ps []) (hx : Passes CX X (fun _ _ _ => False)) (hg : Gl X x) (hm : X.mg x = some (.ref C)) (hdb : (x == ("__debug__" : Str)) = false := by decide) :
    PMk X (.Call (.Name x p) [] [] pos) (tMkO C sp [] tNil) := by
  intro pins ⟨h, g, dr, tk, os⟩ σ H Q I ⟨_, want⟩
  have J := withExc_inv (C := C) I
  have due := want (h.objs.size + 1) (I.hok.fresh (Nat.le_succ _))
  have one : 1 = ps.length := F1.len _ _ _ _ due
  obtain ⟨nm, q, N, bs, bm, sn, sub, ab, col, dd, k0, k1, k2, k3, k5, there, clear⟩ := T.cls
  refine wpAny_Call_Name_kw (ld_glob I hg hm (PySem.W.callWith_K0 I.kIn T.kC (wpAny_call ?_)) hdb)
  refine PySem.HandSPX.call_own F.excBase_ValueError (fun Y => PySem.HandSPX.refsVE_contains Y bm clear) (I.kIn _ _ there) (PySem.W.looks_findIn I.kIn iC) (fun self => PySem.W.bind_fn I.kIn self tI) (Nat.zero_le _) ?_
  have ran := F1.run _ X.stack _ _ ⟨[Value.ref (h.objs.size + 1)], []⟩ [Value.ref (h.objs.size + 1)] [V.ref (h.objs.size + 1)] _ (fun _ _ _ => False) (hr.make C [] []) (J.env0.make C [] [])
    (hb _ [Value.ref (h.objs.size + 1)] J.kIn one) (.cons rfl .nil) due
  refine codeAny_mono ran fun r t ht => ?_
  rcases r with er | fl
  · exact hx pins σ _ _ er t J ht
  · cases fl <;> try exact False.elim ht
    obtain ⟨v, H2, os2, bare2, un2, hok2, rv, ev, d, fs, ea, ed, hd1, more⟩ := ht
    rw [ev] at rv
    exact ⟨rv, mk_end (raises_own T.exC T.tyC) I (Nat.le_succ _) withExc_old un2 hok2 os2 bare2 ea ed hd1 more⟩
end
end Nt
namespace Nt
open PySem PySem.Spec PyProof.Rows L2
theorem perm_of_sub {α : Type} [DecidableEq α] : ∀ {l m : List α}, l.Nodup → (∀ x ∈ l, x ∈ m) → m.length ≤ l.length → l.Perm m
  | [], m, _, _, h => by
    have e : m = [] := List.length_eq_zero_iff.mp (by simpa using h)
    rw [e]
  | x :: l, m, nd, sub, h => by
    obtain ⟨hx, nl⟩ := List.nodup_cons.mp nd
    have hm := sub x List.mem_cons_self
    have p := List.perm_cons_erase hm
    have e := p.length_eq
    rw [List.length_cons] at e h
    refine List.Perm.trans ?_ p.symm
    refine List.Perm.cons x (perm_of_sub nl (fun y hy => ?_) (by omega))
    have := p.mem_iff.mp (sub y (List.mem_cons_of_mem _ hy))
    rcases List.mem_cons.mp this with z | z
    · rw [z] at hy; exact absurd hy hx
    · exact z
theorem lumpsOf_take : ∀ {ds : List Dat} {gs : List (List Str)}, lumpsOf ds = some gs → ∀ i, lumpsOf (ds.take i) = some (gs.take i)
  | [], gs, h, i => by cases h; simp [lumpsOf]
  | c :: ds, gs, h, 0 => by simp [lumpsOf]
  | c :: ds, gs, h, i + 1 => by
    rw [lumpsOf] at h
    cases q : c.seq.bind txts with
    | none => rw [q] at h; cases h
    | some g =>
      rw [q] at h
      cases q2 : lumpsOf ds with
      | none => rw [q2] at h; cases h
      | some hs =>
        rw [q2] at h
        cases h
        rw [List.take_succ_cons, lumpsOf, q, lumpsOf_take q2 i, List.take_succ_cons]
theorem txts_take {es : List Dat} {g : List Str} (h : txts es = some g) (n : Nat) : txts (es.take n) = some (g.take n) := by
  rw [txts_at h, ← List.map_take, txts_map]
theorem flat_pre {gs : List (List Str)} {i : Nat} {g : List Str} (h : gs[i]? = some g) (n : Nat) : ∃ t, gs.flatten = (gs.take i).flatten ++ (g.take n ++ t) ∧ g.take n ++ g.drop n = g ∧ ∀ x, g[n]? = some x → x ∈ t := by
  obtain ⟨hi, rfl⟩ := List.getElem?_eq_some_iff.mp h
  refine ⟨gs[i].drop n ++ (gs.drop (i + 1)).flatten, ?_, List.take_append_drop _ _, fun x hx => List.mem_append.mpr (.inl ?_)⟩
  · have e : gs = gs.take i ++ (gs[i] :: gs.drop (i + 1)) := by rw [List.getElem_cons_drop, List.take_append_drop]
    conv => lhs; rw [e]
    rw [List.flatten_append, List.flatten_cons, ← List.append_assoc (gs[i].take n), List.take_append_drop]
  · rw [← List.take_append_drop n gs[i]] at hx
    have hl : (gs[i].take n).length ≤ n := by rw [List.length_take]; exact Nat.min_le_left _ _
    have hlt : n < gs[i].length := by
      have := lt_of_get hx
      rw [List.take_append_drop] at this
      exact this
    rw [List.getElem?_append_right hl, List.length_take, Nat.min_eq_left (by omega), Nat.sub_self] at hx
    exact mem_of_get hx
theorem seen_twice {gs : List (List Str)} {full : List Str} (nd : full.Nodup) (pm : gs.flatten.Perm full) {i n : Nat} {g : List Str} {x : Str} (h : gs[i]? = some g) (hx : g[n]? = some x) : x ∉ (gs.take i).flatten ++ g.take n := by
  obtain ⟨t, e, _, ht⟩ := flat_pre h n
  have nf : gs.flatten.Nodup := pm.nodup_iff.mpr nd
  rw [e, ← List.append_assoc, List.nodup_append] at nf
  intro z
  exact nf.2.2 x z x (ht x hx) rfl
end Nt
namespace Nt
open PySem PySem.Spec PyProof.Rows L2
theorem w_meth {C : Addr} {m : Str} {sp : Sp} {dvs : List V} {E : XK} {ta : TE} {t : TA} {σ : L2.St} {H : Hp} {Q : VK} (k : ta σ H fun x H1 => ∃ a dx fs, x = .ref a ∧ H1 a = some (.ins C dx fs) ∧ fs.lookup m = none ∧
  t σ H1 fun vs H2 => sp (x :: (vs ++ dvs)) H2 Q E) : tMeth C m sp dvs E ta t σ H Q := k
end Nt
/-! enumerate(a tuple); enumerate of a list or a tuple. -/
namespace Nt
open PySem PySem.Spec PyProof.Rows
open AutoSeq1 (wpAny_loadPart')
abbrev tupIt (l : Addr) : Obj := { cls := .type "tuple_iterator", data := .fields #[.ref l, .int 0 0] }
abbrev enumOf (it : Addr) : Obj := { cls := .type "enumerate", data := .fields #[.none, .bool false, .ref it, rawInt 0, .none, .none] }
theorem meets_enumT (l : Addr) (items : Array Value) (k : Nat) (dc : Option Addr) (sl : Array (Option Value)) :
    Meets (Builtin.«enumerate.__new__» ⟨[.type "enumerate", .ref l], []⟩) (fun _ R s => s.heap.get? l = some { cls := .type "tuple", dict := dc, data := .seq items k, slots := sl } ∧
      R (.ok (.ret (.ref (s.heap.push (tupIt l)).objs.size))) { s with heap := (s.heap.push (tupIt l)).push (enumOf s.heap.objs.size) }) :=
  .of_wp fun prog w A R s h => by
    obtain ⟨hp, g, d, tk, os⟩ := s
    obtain ⟨at0, q⟩ := h
    have sub1 := sub_enumerate
    have tup1 : Heap.IsTuple (Shared.heap ⟨hp, g, d, tk, os⟩) l items := ⟨_, at0, rfl, k, rfl⟩
    wp_walk using wpAny_loadPart' at0
    refine wpAny_stack_any fun st => wpAny_pure ?_
    split
    · rename_i c _ _ _ _ _
      cases (c == Value.type "enumerate") <;> (wp_walk using wpAny_loadPart' at0, wpAny_pyIter_tuple tup1; exact ⟨_, rfl, q⟩)
    · wp_walk using wpAny_loadPart' at0, wpAny_pyIter_tuple tup1
      exact ⟨_, rfl, q⟩
theorem call_enumT {prog : Program} {w : World} {A : Around} {E : Value → Shared → Prop} {s : Shared} {l : Addr} {items : Array Value} {Q : Value → Shared → Prop} (tup1 : s.heap.IsTuple l items)
    (q : ∀ g, IsEnum g (s.heap.objs.size + 1) s.heap.objs.size 0 .none → g.IsTupleIter s.heap.objs.size l 0 → (∀ b o, s.heap.get? b = some o → g.get? b = some o) → Q (.ref (s.heap.objs.size + 1)) { s with heap := g }) :
    wpAny (model prog w) A (call (.type "enumerate") [.ref l]) Q E s := by
  obtain ⟨⟨c, dc, dt, sl⟩, at0, hc, k, hd⟩ := tup1
  obtain rfl : c = .type "tuple" := hc
  obtain rfl : dt = .seq items k := hd
  refine callType_new F.called_enumerate (by decide) (F.typeCall_enumerate_1 _) (F.newCall_enumerate_1 _) (fun obj => F.args_object_init_2 obj _) F.entry_enumerate_new (meets_enumT l items k dc sl) ⟨at0, ?_⟩
  have sz : (s.heap.push (tupIt l)).objs.size = s.heap.objs.size + 1 := Heap.size_push ..
  show _ ∧ _
  rw [sz]
  have en : IsEnum ((s.heap.push (tupIt l)).push (enumOf s.heap.objs.size)) (s.heap.objs.size + 1) s.heap.objs.size 0 .none := by
    have z := Heap.get?_push_size (s.heap.push (tupIt l)) (o := enumOf s.heap.objs.size) rfl
    rw [sz] at z
    exact z
  exact ⟨⟨_, en, rfl⟩, q _ en ⟨_, Heap.get?_push_of_some _ (Heap.get?_push_size _ rfl), rfl, rfl⟩ fun b o e => Heap.get?_push_of_some _ (Heap.get?_push_of_some _ e)⟩
end Nt
namespace Nt
open PySem PySem.Spec PyProof.Rows L2
/-- enumerate of the tuple at a: new pairs -/
def Itet (K : PySem.W.Frag) (a : Addr) : It :=
  ⟨fun i H => ∃ xs : List V, SqT K H a xs ∧ i < xs.length,
   fun i H v H' => ∃ T x, v = .ref T ∧ H T = none ∧ H' = upd H T (.tup [.int (i : Nat), x]) ∧ ∀ xs, SqT K H a xs → xs[i]? = some x,
   fun i H => ∃ xs : List V, SqT K H a xs ∧ i = xs.length⟩
theorem turn_et {P : Program} {w : World} {K : PySem.W.Frag} {elts : List Expr} {kk : Nat} {tpos : Pos} {a e it : Addr} (ne : e ≠ it) :
    Turn P w K (.Tuple elts kk tpos) (Itet K a) [e, it] e (fun i h => (∃ old, IsEnum h e it ((i : Nat) : Int) old) ∧ h.IsTupleIter it a i) where
  mem := by simp
  obj := fun i h st b hb => by
    obtain ⟨⟨old, he⟩, ⟨o, ho, _, hd⟩⟩ := st
    have q : b = e ∨ b = it := by simpa using hb
    rcases q with q | q
    · rw [q]; exact ⟨_, he, fun v q => nomatch q⟩
    · rw [q]; exact ⟨o, ho, fun v q => by rw [hd] at q; cases q⟩
  keep := fun i h h' st k => by
    obtain ⟨⟨old, he⟩, ⟨o, ho, r⟩⟩ := st
    exact ⟨⟨old, k e (by simp) _ he⟩, ⟨o, k it (by simp) _ ho, r⟩⟩
  item := by
    intro X hP hw hK hc i pins s σ H E I hf st hg
    subst hP hw hK
    have hh : X.A.in1.handled = none := I.ok.hd hc
    obtain ⟨xs, hxs, hlt⟩ := hg
    obtain ⟨its, rv, p, _⟩ := I.tuple hxs
    have elen : xs.length = its.length := rv.length
    obtain ⟨⟨old, he⟩, hit⟩ := id st
    have ea : e ≠ a := fun z => by
      obtain ⟨o, ho, ho2, _⟩ := p
      rw [← z, he] at ho
      cases ho
      exact absurd (show Value.type "enumerate" = Value.type "tuple" from ho2) (by decide)
    have ia : a ≠ it := fun z => by
      obtain ⟨o, ho, ho2, _⟩ := p
      obtain ⟨o2, h2, h3, _⟩ := hit
      rw [z, h2] at ho
      cases ho
      rw [h3] at ho2
      injection ho2 with z2
      exact absurd z2 (by decide)
    have G := GoesN.enumFrom (elts := elts) (x1 := kk) (pos := tpos) (prog := X.prog) (w := X.w) (A := X.A) 0 (Draws.tuple (prog := X.prog) (w := X.w) (A := X.A.in1) hh it a ia its.toArray) e ne (by simp [ne, ea]) (by simp)
    have le := Heap.lt_size he
    have li : it < s.heap.objs.size := by obtain ⟨_, q, _⟩ := hit; exact Heap.lt_size q
    have z0 : (0 : Int) + (i : Int) = ((i : Nat) : Int) := Int.zero_add _
    refine thn (G.goes i s (fun v s2 => ∃ xx H', L2.Inv X pins σ H' s2 ∧ RelV xx v ∧ (Itet X.K a).yld i H xx H' ∧ ((∃ old, IsEnum s2.heap e it ((i + 1 : Nat) : Int) old) ∧ s2.heap.IsTupleIter it a (i + 1)) ∧ ∀ b ∈ [e, it], H' b = none) E (by simpa [← elen] using hlt)
      ⟨⟨old, by rw [z0]; exact he⟩, hit, p⟩ fun v h' tk ⟨T, t, x, ev, hnew, hx1, hT⟩ st' kk' _ => ?_) fun r s1 ⟨v, e1, e2⟩ => ⟨v, e1, e2⟩
    subst ev
    obtain ⟨u, hu, ru⟩ := rv.get (List.getElem?_eq_getElem hlt)
    have ed : u = x := by
      have q : its[i]? = some x := by simpa using hx1
      rw [hu] at q
      exact Option.some.inj q
    subst ed
    rw [z0] at hT
    have new : ObjOk X.prog X.w (upd H T (.tup [.int (i : Nat), xs[i]])) h' T (.tup [.int (i : Nat), xs[i]]) :=
      ⟨by show 2 ≤ sizeLine; decide, [.int i t, u], .cons ⟨_, rfl⟩ (.cons ru .nil), hT⟩
    have I1 : L2.Inv X pins σ (upd H T (.tup [.int (i : Nat), xs[i]])) { s with heap := h', toks := tk } :=
      I.turnedNew (ch := [e, it]) (fun b o hb q => kk' b o hb q) hf hnew new
    have away : ∀ b ∈ [e, it], b ≠ T := fun b hb z => by
      have q : b = e ∨ b = it := by simpa using hb
      have lt : b < s.heap.objs.size := by rcases q with q | q <;> rw [q] <;> assumption
      exact absurd (Nat.lt_of_lt_of_le lt hnew) (by rw [z]; exact Nat.lt_irrefl _)
    refine ⟨.ref T, _, I1, rfl, ⟨T, _, rfl, I.hok.fresh hnew, rfl, fun l hl => by rw [I.tuple_inj hl hxs]; exact List.getElem?_eq_getElem hlt⟩, ⟨?_, st'.2.1⟩, fun b hb => by rw [upd_ne (away b hb)]; exact (hf b hb).1⟩
    obtain ⟨old', h2⟩ := st'.1
    have z1 : (0 : Int) + ((i + 1 : Nat) : Int) = ((i + 1 : Nat) : Int) := Int.zero_add _
    rw [z1] at h2
    exact ⟨old', h2⟩
  done := by
    intro X hP hw hK hc i pins s σ H E I hf st hg
    subst hP hw hK
    have hh : X.A.in1.handled = none := I.ok.hd hc
    obtain ⟨xs, hxs, hi⟩ := hg
    obtain ⟨its, rv, p, _⟩ := I.tuple hxs
    have elen : xs.length = its.length := rv.length
    obtain ⟨⟨old, he⟩, hit⟩ := id st
    have ea : e ≠ a := fun z => by
      obtain ⟨o, ho, ho2, _⟩ := p
      rw [← z, he] at ho
      cases ho
      exact absurd (show Value.type "enumerate" = Value.type "tuple" from ho2) (by decide)
    have ia : a ≠ it := fun z => by
      obtain ⟨o, ho, ho2, _⟩ := p
      obtain ⟨o2, h2, h3, _⟩ := hit
      rw [z, h2] at ho
      cases ho
      rw [h3] at ho2
      injection ho2 with z2
      exact absurd z2 (by decide)
    have G := GoesN.enumFrom (elts := elts) (x1 := kk) (pos := tpos) (prog := X.prog) (w := X.w) (A := X.A) 0 (Draws.tuple (prog := X.prog) (w := X.w) (A := X.A.in1) hh it a ia its.toArray) e ne (by simp [ne, ea]) (by simp)
    have hi2 : i = its.toArray.size := by rw [hi, elen]; simp
    subst hi2
    have z0 : (0 : Int) + ((its.toArray.size : Nat) : Int) = ((its.toArray.size : Nat) : Int) := Int.zero_add _
    exact G.stops s (fun s1 => L2.Inv X pins σ H s1) E ⟨⟨old, by rw [z0]; exact he⟩, hit, p⟩ fun h' tk kk' _ => I.turnedL (ch := [e, it]) (fun b o hb q => kk' b o hb q) hf
  self := fun A i s Q E st h => let ⟨⟨_, he⟩, _⟩ := st; wpAny_pyIter_enum he h
end Nt
namespace Nt
open PySem PySem.Spec PyProof.Rows L2
def iEnumS (K : PySem.W.Frag) (ta : TA) : TI := fun σ H R => ta σ H fun vs H1 => ∃ a, vs = [.ref a] ∧ ((∃ xs, SqL K H1 a xs ∧ R (Ite K a) H1) ∨ ∃ xs, SqT K H1 a xs ∧ R (Itet K a) H1)
theorem pi_enumS {X : Cx} {e : Expr} {ta : TA} {p pos tpos : Pos} {elts : List Expr} {kk : Nat} (hg : Gl X "enumerate") (hm : X.mg "enumerate" = none) (ha : PA X [e] ta) (hs : starEach [e] X.env = [(false, eval e X.env)] := by rfl) :
    PI X (.Tuple elts kk tpos) (.Call (.Name "enumerate" p) [e] [] pos) (iEnumS X.K ta) := by
  refine ⟨fun pins s σ H R I h => ?_⟩
  refine Call_ (ld_blt I hg hm boot_enumerate (PyProof.Rows.callWith_type1 (thn (ha.run pos pins s σ H _ I h) fun us s1 ⟨vs, H1, I1, r1, q1⟩ => ?_) hs rfl))
  obtain ⟨a, ex, q⟩ := q1
  subst ex
  cases r1 with
  | cons r rr =>
    cases rr
    cases r
    have two : ∀ {b : Addr}, b ∈ [s1.heap.objs.size + 1, s1.heap.objs.size] → s1.heap.objs.size ≤ b := fun {b} hb => by
      have q : b = s1.heap.objs.size + 1 ∨ b = s1.heap.objs.size := by simpa using hb
      rcases q with q | q <;> rw [q]
      · exact Nat.le_succ _
      · exact Nat.le_refl _
    rcases q with ⟨xs, hq, q⟩ | ⟨xs, hq, q⟩
    · obtain ⟨its, rv, pl, _⟩ := I1.list hq
      refine call_enumerate_list pl.isList fun g he hit _ hk => wpAny_pyIter_enum he ?_
      have I2 : L2.Inv X pins σ H1 { s1 with heap := g } := I1.kept (t' := s1.toks) hk
      exact ⟨s1.heap.objs.size + 1, [s1.heap.objs.size + 1, s1.heap.objs.size], _, _, H1, rfl, I2, turn_enum a (s1.heap.objs.size + 1) s1.heap.objs.size, ⟨⟨.none, he⟩, hit, Nat.succ_ne_self _⟩, fun b hb => I1.fpOk (two hb) (I1.hok.fresh (two hb)), q⟩
    · obtain ⟨its, rv, pl, _⟩ := I1.tuple hq
      refine call_enumT pl fun g he hit hk => wpAny_pyIter_enum he ?_
      have I2 : L2.Inv X pins σ H1 { s1 with heap := g } := I1.kept (t' := s1.toks) hk
      exact ⟨s1.heap.objs.size + 1, [s1.heap.objs.size + 1, s1.heap.objs.size], _, _, H1, rfl, I2, turn_et (Nat.succ_ne_self _), ⟨⟨.none, he⟩, hit⟩, fun b hb => I1.fpOk (two hb) (I1.hok.fresh (two hb)), q⟩
theorem iq_enumS {X : Cx} {e : Expr} {ta : TA} {p pos tpos : Pos} {elts : List Expr} {kk : Nat} (K : PySem.W.Frag) (hg : Gl X "enumerate") (hm : X.mg "enumerate" = none) (ha : PA X [e] ta) (hK : X.K = K := by rfl) (hs : starEach [e] X.env = [(false, eval e X.env)] := by rfl) :
    PI X (.Tuple elts kk tpos) (.Call (.Name "enumerate" p) [e] [] pos) (iEnumS K ta) := by subst hK; exact pi_enumS hg hm ha hs
abbrev YE (vs : List V) : Nat → Hp → V → Hp → Prop := fun i H v H' => ∃ T x, v = .ref T ∧ H T = none ∧ H' = upd H T (.tup [.int (i : Nat), x]) ∧ vs[i]? = some x
theorem walkEt {K : PySem.W.Frag} {a : Addr} {vs : List V} : Walk (Itet K a) vs.length (fun H => H a = some (.tup vs)) (YE vs) :=
  ⟨fun i H hi h => ⟨vs, SqT.of h, hi⟩, fun H h => ⟨vs, SqT.of h, rfl⟩, fun i H v H' _ h ⟨T, x, h1, h2, h3, h4⟩ => ⟨T, x, h1, h2, h3, h4 vs (SqT.of h)⟩⟩
theorem w_enumV {K : PySem.W.Frag} {σ : L2.St} {H : Hp} {a : Addr} {vs : List V} {i : Nat} {R : It → Hp → Prop} (h : SQ H a vs) (hv : σ[i]? = some (some (.ref a)))
    (k : ∀ (J : It) (G : Hp → Prop), (∀ H', (∀ o, H a = some o → H' a = some o) → G H') → Walk J vs.length G (YE vs) → R J H) : iEnumS K (tCons (tVar i) tNil) σ H R := by
  refine ⟨.ref a, hv, a, rfl, ?_⟩
  rcases h with h | h
  · exact .inl ⟨vs, SqL.of h, k _ (fun H' => H' a = some (.lst vs)) (fun H' q => q _ h) walkE⟩
  · exact .inr ⟨vs, SqT.of h, k _ (fun H' => H' a = some (.tup vs)) (fun H' q => q _ h) walkEt⟩
end Nt
/-! {k: v for a in x for b in y}: two clauses without tests. The walk over an iterator inside a block is told once (goOn) and used for both clauses. -/
namespace Nt
open PySem PySem.Spec PyProof.Rows L2
/-- ahead of each turn: the walk is through and out holds, or there is a value and turn leads to a lesser measure -/
abbrev Trn (J : It) (W : Nat → Nat → Hp → Prop) (out : Hp → Prop) (turn : V → Hp → (Hp → Prop) → Prop) : Prop :=
  ∀ i m H, W i m H → (J.stop i H ∧ out H) ∨ (J.go i H ∧ ∃ on : Hp → Prop, (∀ H', on H' → ∃ m', m' < m ∧ W (i + 1) m' H') ∧ ∀ x H', J.yld i H x H' → turn x H' on)
/-- where a walk stands: slots τ, the iterator's objects fp apart -/
structure At (Y : Cx) (P : List (Addr × Obj)) (τ : L2.St) (fp : List Addr) (tn : Nat → Heap → Prop) (W : Nat → Nat → Hp → Prop) (m : Nat) (s : Shared) : Prop where
  ex : ∃ i H, L2.Inv Y P τ H s ∧ tn i s.heap ∧ (∀ b ∈ fp, H b = none) ∧ W i m H
/-- slots that know what τ knows -/
def Knows (τ ρ : L2.St) : Prop := τ.length = ρ.length ∧ ∀ (j : Nat) v, τ[j]? = some (some v) → ρ[j]? = some (some v)
theorem Knows.wipe (τ : L2.St) (vs : List Nat) : Knows (wipe τ vs) τ := ⟨wipe_length τ vs, fun j v e => (wipe_some e).1⟩
theorem Knows.trans {a b c : L2.St} (h : Knows a b) (g : Knows b c) : Knows a c := ⟨h.1.trans g.1, fun j v e => g.2 j v (h.2 j v e)⟩
abbrev nix {α : Type} : α → Shared → Prop := fun _ _ => False
section
variable {Y : Cx} {P : List (Addr × Obj)} {τ : L2.St} {tg : Expr} {J : It} {fp : List Addr} {it : Addr} {tn : Nat → Heap → Prop} {W : Nat → Nat → Hp → Prop} {out : Hp → Prop} {turn : V → Hp → (Hp → Prop) → Prop} {n : Nat} {s : Shared}
theorem goOn (hc : Y.calm = true) (T : Turn Y.prog Y.w Y.K tg J fp it tn) (tr : Trn J W out turn) (apart : ∀ {H s}, L2.Inv Y P τ H s → (∀ b ∈ fp, H b = none) → ∀ b ∈ fp, FpOk Y P H b) (L : At Y P τ fp tn W n s)
    {S : Shared → Prop} {G : Value → Shared → Prop} (hS : ∀ H' s', L2.Inv Y P τ H' s' → out H' → S s')
    (hG : ∀ x u H' s' pl on, L2.Inv Y (P ++ pl) τ H' s' → RelV x u → turn x H' on → (∀ ρ H9 s9, L2.Inv Y (P ++ pl) ρ H9 s9 → Knows τ ρ → on H9 → ∃ m, m < n ∧ At Y P τ fp tn W m s9) → G u s') :
    wpAny (model Y.prog Y.w) Y.A (pyNext (.ref it)) (fun r s1 => match r with
      | none => S s1
      | some u => wpAny (model Y.prog Y.w) Y.A (letOwnedTupleGo tg (.ref it) u) (fun _ s2 => G u s2) nix s1) nix s := by
  obtain ⟨i, H, I, st, free, w⟩ := L.ex
  rcases tr i n H w with ⟨z, o⟩ | ⟨z, on, less, step⟩
  · refine thn (T.done Y rfl rfl rfl hc i P s τ H nix I (apart I free) st z) fun r s1 ⟨e, I1⟩ => ?_
    rw [e]
    exact hS H s1 I1 o
  · refine thn (T.item Y rfl rfl rfl hc i P s τ H nix I (apart I free) st z) fun r s1 ⟨u, e, k⟩ => ?_
    rw [e]
    refine thn k fun _ s2 ⟨x, H2, I2, ru, y, st2, free2⟩ => ?_
    refine hG x u H2 s2 (pinsAt fp s2.heap) on (I2.pinned (apart I2 free2) (T.obj _ _ st2)) ru (step x H2 y) fun ρ H9 s9 I9 kn h9 => ?_
    obtain ⟨m, lt, w9⟩ := less H9 h9
    have held : ∀ b ∈ fp, ∀ o, s2.heap.get? b = some o → s9.heap.get? b = some o ∧ H9 b = none := fun b hb o e => by
      have q := I9.pin (b, o) (List.mem_append_right _ (List.mem_append_right _ (mem_pinsAt hb e)))
      exact ⟨q.1, q.2.1⟩
    refine ⟨m, lt, i + 1, H9, I9.unpinned.weak kn.1 kn.2, T.keep _ _ _ st2 fun b hb o e => (held b hb o e).1, fun b hb => ?_, w9⟩
    have ⟨o, e, _⟩ := T.obj _ _ st2 b hb
    exact (held b hb o e).2
end
/-! the two loops of the block, when nothing is raised -/
section
variable {prog : Program} {w : World} {A : Around} {R : Result → Shared → Prop} {s : Shared} {kx vx t0 i0 t1 i1 : Expr} {scope : Scope} {pos : Pos} {it : Value} {D : Addr} {env : Env}
abbrev two (kx vx t0 i0 t1 i1 : Expr) (scope : Scope) (pos : Pos) : Expr := .DictComp kx vx [⟨t0, i0, [], 0⟩, ⟨t1, i1, [], 0⟩] scope pos
theorem quietly {α : Type} {m : Sem α} {Q : α → Shared → Prop} {E : Value → Shared → Prop} (h : wpAny (model prog w) A m Q nix s) : wpAny (model prog w) A m Q E s := wpAny_mono h (fun _ _ q => q) fun _ _ z => z.elim
theorem loopA (hs : ∀ x, foldedSetIterable i1 env x = pure x) (I : Nat → Shared → Prop) (one : ∀ n s, I n s → wpAny (model prog w) A (pyNext it) (fun r s1 => match r with
      | none => R (.ok .next) s1
      | some v => wpAny (model prog w) A (letOwnedTupleGo t0 it v) (fun _ s2 => wpAny (model prog w) A (assign t0 env v) (fun _ s3 => wpAny (model prog w) A (eval i1 env) (fun x s4 => wpAny (model prog w) A (pyIter x) (fun j s5 =>
          codeAny (model prog w) A (.compStart (two kx vx t0 i0 t1 i1 scope pos) 1 j (.ref D) env) (fun r s6 => (∃ f, r = .ok f) ∧ ∃ m, m < n ∧ I m s6) s5) nix s4) nix s3) nix s2) nix s1) nix s)
    (n : Nat) (h : I n s) : codeAny (model prog w) A (.compLoop (two kx vx t0 i0 t1 i1 scope pos) 0 it (.ref D) env) R s := by
  refine codeAny_loop rfl I (fun n s q => wpAny_noted (quietly ?_)) n h
  unfold compTurn
  refine wpAny_bind (wpAny_standAt (wpAny_bind (thn (one n s q) fun r s1 q1 => ?_)))
  cases r with
  | none => exact wpAny_pure q1
  | some v =>
    refine wpAny_bind (thn q1 fun _ s2 q2 => wpAny_bind (thn q2 fun _ s3 q3 => wpAny_bind (wpAny_of_eq (a := true) rfl ?_)))
    dsimp only
    rw [if_pos rfl]
    refine wpAny_bind (thn q3 fun x s4 q4 => wpAny_bind (wpAny_standAt (wpAny_bind (wpAny_of_eq (hs x) (wpAny_bind (wpAny_holding (thn q4 fun j s5 q5 => ?_)))))))
    refine wpAny_bind (wpAny_runOwn ?_)
    rw [Around.mark_none]
    refine codeAny_mono q5 fun r s6 ⟨⟨f, e⟩, q6⟩ => ?_
    subst e
    exact wpAny_pure ⟨rfl, q6⟩
theorem loopB (I : Nat → Shared → Prop) (one : ∀ n s, I n s → wpAny (model prog w) A (pyNext it) (fun r s1 => match r with
      | none => R (.ok .next) s1
      | some v => wpAny (model prog w) A (letOwnedTupleGo t1 it v) (fun _ s2 => wpAny (model prog w) A (assign t1 env v) (fun _ s3 => wpAny (model prog w) A (eval kx env) (fun a s4 => wpAny (model prog w) A (eval vx env) (fun b s5 =>
          wpAny (model prog w) A (dictSet D a b) (fun _ s6 => ∃ m, m < n ∧ I m s6) nix s5) nix s4) nix s3) nix s2) nix s1) nix s)
    (n : Nat) (h : I n s) : codeAny (model prog w) A (.compLoop (two kx vx t0 i0 t1 i1 scope pos) 1 it (.ref D) env) R s := by
  refine codeAny_loop rfl I (fun n s q => wpAny_noted (quietly ?_)) n h
  unfold compTurn
  refine wpAny_bind (wpAny_standAt (wpAny_bind (thn (one n s q) fun r s1 q1 => ?_)))
  cases r with
  | none => exact wpAny_pure q1
  | some v =>
    refine wpAny_bind (thn q1 fun _ s2 q2 => wpAny_bind (thn q2 fun _ s3 q3 => wpAny_bind (wpAny_of_eq (a := true) rfl ?_)))
    dsimp only
    rw [if_pos rfl]
    refine wpAny_bind (wpAny_bind (thn q3 fun a s4 q4 => wpAny_bind (wpAny_holding (thn q4 fun b s5 q5 => ?_))))
    exact wpAny_bind (wpAny_standAt (wpAny_holding (thn q5 fun _ s6 q6 => wpAny_pure ⟨rfl, q6⟩)))
theorem startB (h0 : codeAny (model prog w) A (.compLoop (two kx vx t0 i0 t1 i1 scope pos) 1 it (.ref D) env) R s)
    (h : wpAny (model prog w) A (pyIter it) (fun j s' => codeAny (model prog w) A (.compLoop (two kx vx t0 i0 t1 i1 scope pos) 1 j (.ref D) env) R s') nix s) :
    codeAny (model prog w) A (.compStart (two kx vx t0 i0 t1 i1 scope pos) 1 it (.ref D) env) R s := by
  refine codeAny_of_tree (wpAny_notedAt (quietly ?_))
  unfold compStart
  refine wpAny_bind (wpAny_askSetting ?_)
  dsimp only
  split
  · exact wpAny_bind (wpAny_pure (wpAny_pure ⟨rfl, h0⟩))
  · exact wpAny_bind (wpAny_rule (wpAny_bind (wpAny_standAt (wpAny_bind (thn h fun j s' q => wpAny_pure ⟨rfl, q⟩)))))
end
/-! the rule -/
def tDcc (wi : TI) (g : TG) (wi1 : TI) (g1 : TG) (tk tv : TE) (vs vs1 : List Nat) : TE := fun σ H Q => wi σ H fun J H1 => ∀ D, H1 D = none → ∃ W : Nat → Nat → Hp → Prop, (∃ m, W 0 m (upd H1 D (.dK []))) ∧
  Trn J W (Q (.ref D)) fun x H' on => g x (wipe σ vs) H' fun σ2 H2 => wipe σ2 vs = wipe σ vs ∧ wi1 σ2 H2 fun J1 H4 => ∃ W1 : Nat → Nat → Hp → Prop, (∃ m, W1 0 m H4) ∧
    Trn J1 W1 on fun x H' on1 => g1 x (wipe σ2 vs1) H' fun σ3 H5 => wipe σ3 vs1 = wipe σ2 vs1 ∧ tk σ3 H5 fun y H7 => tv σ3 H7 fun z H8 => ∃ kvs k, y = kV k ∧ H8 D = some (.dK kvs) ∧ kvs.length < sizeLine ∧ on1 (upd H8 D (.dK (putK kvs k z)))
section
variable {X : Cx} {kx vx tg iter tg1 iter1 : Expr} {scope : Scope} {own : List (Str × Nat)} {vs1 : List Nat} {pos : Pos} {wi wi1 : TI} {g g1 : TG} {tk tv : TE}
/-- both loops, from a state in which the block stands -/
theorem twoRun {Y : Cx} {R : Result → Shared → Prop} {σ : L2.St} {it D : Addr} {fp : List Addr} {tn : Nat → Heap → Prop} {J : It} {W : Nat → Nat → Hp → Prop} {out : Hp → Prop} {vs : List Nat} (hc : Y.calm = true) (hx : Y.xe = nix) (hpn : Y.pn = []) (hex : Y.ex = fp) (hs1 : ∀ x, foldedSetIterable iter1 Y.env x = pure x)
    (hv : ∀ i ∈ vs1, i ∈ vs) (hg : PG Y tg g) (hi1 : PI Y tg1 iter1 wi1) (hg1 : PG Y tg1 g1) (hk : PE Y kx tk) (he : PE Y vx tv) (T : Turn Y.prog Y.w Y.K tg J fp it tn)
    (tr : Trn J W out fun x H' on => g x (wipe σ vs) H' fun σ2 H2 => wipe σ2 vs = wipe σ vs ∧ wi1 σ2 H2 fun J1 H4 => ∃ W1 : Nat → Nat → Hp → Prop, (∃ m, W1 0 m H4) ∧
      Trn J1 W1 on fun x H' on1 => g1 x (wipe σ2 vs1) H' fun σ3 H5 => wipe σ3 vs1 = wipe σ2 vs1 ∧ tk σ3 H5 fun y H7 => tv σ3 H7 fun z H8 => ∃ kvs k, y = kV k ∧ H8 D = some (.dK kvs) ∧ kvs.length < sizeLine ∧ on1 (upd H8 D (.dK (putK kvs k z))))
    (fin : ∀ H' s', L2.Inv Y [] (wipe σ vs) H' s' → out H' → R (.ok .next) s') {m0 : Nat} {s : Shared} (L : At Y [] (wipe σ vs) fp tn W m0 s) :
    codeAny (model Y.prog Y.w) Y.A (.compLoop (two kx vx tg iter tg1 iter1 scope pos) 0 (.ref it) (.ref D) Y.env) R s := by
  have low : ∀ {α : Type} {m : Sem α} {Q : α → Shared → Prop} {s : Shared}, wpAny (model Y.prog Y.w) Y.A m Q Y.xe s → wpAny (model Y.prog Y.w) Y.A m Q nix s := fun h => by rw [hx] at h; exact h
  refine loopA hs1 (At Y [] (wipe σ vs) fp tn W) (fun n s L => ?_) m0 L
  refine goOn hc T tr (fun {H s} I free b hb => ?_) L fin fun x u H1 s1 pl on I1 ru tx back => ?_
  · refine ⟨free b hb, ?_, ?_, .inl (by rw [hex]; exact hb), fun x c e => ?_, fun p hp => ?_⟩
    · exact (I.ok.exf b (by rw [hex]; exact hb)).1
    · exact I.ok.exfs b (by rw [hex]; exact hb)
    · exact (I.ok.exf b (by rw [hex]; exact hb)).2 x c e
    · rw [hpn] at hp; exact absurd hp (by simp)
  refine low (thn (hg.run _ s1 _ H1 x u _ I1 ru tx) fun _ s2 ⟨σ2, H2, I2, hw, q2⟩ => low (thn (hi1.run _ s2 σ2 H2 _ I2 q2) fun xv s3 h3 => low (thn h3 fun jv s4 h4 => ?_)))
  obtain ⟨it1, fp1, tn1, J1, H4, rfl, I4, T1, st4, f4, W1, ⟨m1, w1⟩, tr1⟩ := h4
  have kn : Knows (wipe σ vs) (wipe σ2 vs1) := by
    rw [← hw]
    refine ⟨by rw [wipe_length, wipe_length], fun j v e => ?_⟩
    have ⟨here, out_⟩ := wipe_some e
    exact (wipe_out fun z => out_ (hv j z)).trans here
  have run : codeAny (model Y.prog Y.w) Y.A (.compLoop (two kx vx tg iter tg1 iter1 scope pos) 1 (.ref it1) (.ref D) Y.env) (fun r s6 => (∃ f, r = .ok f) ∧ ∃ m, m < n ∧ At Y [] (wipe σ vs) fp tn W m s6) s4 := by
    refine loopB (At Y ([] ++ pl) (wipe σ2 vs1) fp1 tn1 W1) (fun k s L1 => ?_) m1 ⟨0, H4, I4.weak (wipe_length σ2 vs1) (fun j v e => (wipe_some e).1), st4, fun b hb => (f4 b hb).1, w1⟩
    refine goOn hc T1 tr1 (fun {H s} _ free b hb => ⟨free b hb, (f4 b hb).2⟩) L1 (fun H' s' I' o => ⟨⟨_, rfl⟩, back _ _ _ I' kn o⟩) fun x1 u1 H5 s5 pl1 on1 I5 ru1 tx1 back1 => ?_
    refine low (thn (hg1.run _ s5 _ H5 x1 u1 _ I5 ru1 tx1) fun _ s6 ⟨σ6, H6, I6, hw6, q6⟩ => low (thn (hk.run _ s6 σ6 H6 _ I6 q6) fun a s7 ⟨y, H7, I7, ry, q7⟩ => low (thn (he.run _ s7 σ6 H7 _ I7 q7) fun b s8 ⟨z, H8, I8, rz, kvs, k', ek, hD, hz, o⟩ => ?_)))
    subst ek
    exact d_dictSet I8 hD hz ry rz fun s9 I9 => back1 σ6 _ s9 I9 (by rw [← hw6]; exact Knows.wipe σ6 vs1) o
  exact startB run (T1.self Y.A 0 _ _ _ st4 run)
theorem pe_dcc (hc : X.calm = true) (hN : X.N.Nodup) (hi : PI X tg iter wi) (ok : BlkOk X.N X.env.scope scope own) (hv : ∀ i ∈ vs1, i ∈ own.map (·.2)) (hg : InB X scope fun Y => PG Y tg g) (hi1 : InB X scope fun Y => PI Y tg1 iter1 wi1) (hg1 : InB X scope fun Y => PG Y tg1 g1)
    (hk : InB X scope fun Y => PE Y kx tk) (he : InB X scope fun Y => PE Y vx tv) (hs : ∀ x, foldedSetIterable iter X.env x = pure x := by intro _; rfl) (hs1 : ∀ env x, foldedSetIterable iter1 env x = pure x := by intro _ _; rfl) :
    PE X (two kx vx tg iter tg1 iter1 scope pos) (tDcc wi g wi1 g1 tk tv (own.map (·.2)) vs1) := by
  refine ⟨fun pins s σ H Q I h => ?_⟩
  rw [arm_eval_DictComp]
  have cls : ∀ y ∈ scope.names, y.2 = .free → ∃ c, X.env.cells.lookup y.1 = some c := fun y hy e => I.ok.has _ (by rcases ok.free y hy e with q | q; exact .inl q; exact .inr q)
  refine wpAny_comprehension_free (use := none) rfl hs (closure_ok cls) ok.kind (fun y hy e => (ok.uniq y hy).trans (congrArg some e)) (thn (hi.run pins s σ H _ I h) fun xv s1 h1 => thn h1 fun jv s2 h2 => wpAny_newObj_type (newEnv_comp ?_))
  obtain ⟨it, fp, tn, J, H2, rfl, I2, T, st2, f2, q⟩ := h2
  obtain ⟨D, hD⟩ : ∃ D, D = s2.heap.objs.size := ⟨_, rfl⟩
  obtain ⟨s3, hs3⟩ : ∃ s3 : Shared, s3 = { s2 with heap := s2.heap.push { cls := .type "dict", data := .dict #[] } } := ⟨_, rfl⟩
  have hfree : H2 D = none := I2.hok.fresh (Nat.le_of_eq hD.symm)
  obtain ⟨W, ⟨m0, w0⟩, tr⟩ := q D hfree
  have old : ∀ b o, s2.heap.get? b = some o → s3.heap.get? b = some o := fun b o e => by rw [hs3]; exact Heap.get?_push_of_some _ e
  have I3 : L2.Inv X pins σ (upd H2 D (.dK [])) s3 := by
    have z := I2.laid (t' := s2.toks) (o := .dK []) (a := s2.heap.objs.size) (fun b o e => Heap.get?_push_of_some { cls := .type "dict", data := .dict #[] } e) (Nat.le_refl _) (dk_empty s2.heap I2.big)
    rw [hs3, hD]
    exact z
  have under : ∀ b ∈ fp, b < s2.heap.objs.size := fun b hb => by
    have ⟨_, e, _⟩ := T.obj _ _ st2 b hb
    exact Heap.lt_size e
  have far : ∀ b ∈ fp, FpOk X pins (upd H2 D (.dK [])) b ∧ b < s3.heap.objs.size := fun b hb => by
    refine ⟨⟨?_, (f2 b hb).2⟩, ?_⟩
    · rw [upd_ne (fun z => absurd (under b hb) (by rw [z, hD]; exact Nat.lt_irrefl _))]; exact (f2 b hb).1
    · rw [hs3, Heap.size_push]; exact Nat.lt_succ_of_lt (under b hb)
  have I4 := block_start I3 ok hN far
  rw [← hs3, ← hD]
  have st4 : ∀ b ∈ fp, ∀ o, s2.heap.get? b = some o → (pushCells (s3.heap.push { cls := .type "dict", data := .dict #[] }) scope.names).get? b = some o := fun b _ o e => pushCells_keeps _ _ _ _ (Heap.get?_push_of_some _ (old b o e))
  have loop := twoRun (iter := iter) (kx := kx) (vx := vx) (scope := scope) (pos := pos) (R := compPost (model X.prog X.w) X.A X.xe none (EP X pins σ Q) (.ref D) s3.heap.objs.size) (Y := X.blk s3 (upd H2 D (.dK [])) scope (compEnvC scope (cellsFrom (s3.heap.objs.size + 1) scope.names (cloFrom X.env.cells scope.names [])) s3.heap.objs.size X.env) fp)
    hc rfl rfl rfl (hs1 _) hv (hg _ _ _ _ _) (hi1 _ _ _ _ _) (hg1 _ _ _ _ _) (hk _ _ _ _ _) (he _ _ _ _ _) T tr ?_ ⟨0, _, I4, T.keep _ _ _ st2 st4, fun b hb => (far b hb).1.1, w0⟩
  · exact codeAny_compStart_dict loop (T.self X.A 0 _ _ _ (T.keep _ _ _ st2 st4) loop)
  · intro H' s' I' q'
    have I5 : L2.Inv X pins σ H' s' := I3.call' (ch := fp) I'.os I'.base I'.hok I'.bare fun b hb => ⟨(far b hb).1.2.2.2.1, (far b hb).1.2.1, (far b hb).1.2.2.2.2.1, (far b hb).1.2.2.2.2.2⟩
    obtain ⟨m, ns, _⟩ := I'.loc
    obtain ⟨a0, a1, a2, a3, a4, a5⟩ := I3.fpOk (H' := H') (b := s3.heap.objs.size) (Nat.le_refl _) I'.free
    exact ⟨m, ns, fun h'' sb => ⟨.ref D, H', I5.turned (t' := s'.toks) (fun b o hb e => (sb.2 b hb).trans e) a0 a1 a3 a4 a5, rfl, q'⟩⟩
end
end Nt
/-! min of a list of texts. -/
namespace Nt
open PySem PySem.W PySem.Spec PyProof.Rows L2
def minS (x : Str) (xs : List Str) : Str := xs.foldl (fun a y => if Lt y a then y else a) x
theorem minS_is : ∀ (xs : List Str) (x : Str), minS x xs ∈ x :: xs ∧ ∀ y ∈ x :: xs, ¬ Lt y (minS x xs)
  | [], x => ⟨List.mem_cons_self, fun y hy => by
      have e : y = x := by simpa using hy
      rw [e]
      exact Lt.irrefl x⟩
  | z :: xs, x => by
    have e : minS x (z :: xs) = minS (if Lt z x then z else x) xs := rfl
    obtain ⟨h1, h2⟩ := minS_is xs (if Lt z x then z else x)
    rw [e]
    refine ⟨?_, fun y hy => ?_⟩
    · rcases List.mem_cons.mp h1 with q | q
      · rw [q]
        by_cases t : Lt z x
        · rw [if_pos t]; exact List.mem_cons_of_mem _ List.mem_cons_self
        · rw [if_neg t]; exact List.mem_cons_self
      · exact List.mem_cons_of_mem _ (List.mem_cons_of_mem _ q)
    · have hb := h2 _ List.mem_cons_self
      intro q
      rcases List.mem_cons.mp hy with r | r
      · subst r
        by_cases t : Lt z y
        · rw [if_pos t] at hb q; exact hb (t.trans q)
        · rw [if_neg t] at hb q; exact hb q
      · rcases List.mem_cons.mp r with r | r
        · subst r
          by_cases t : Lt y x
          · rw [if_pos t] at hb q; exact hb q
          · rw [if_neg t] at hb q
            rcases Lt.tri y x with u | u | u
            · exact t u
            · rw [u] at q; exact hb q
            · exact hb (u.trans q)
        · exact h2 y (List.mem_cons_of_mem _ r) q
theorem strs_at {its : List Value} {xs : List Str} (h : StrsAre its xs) : ∀ {i : Nat} {v : Value}, its[i]? = some v → i < xs.length ∧ ∃ t, v = .str (xs.getD i default) t := by
  induction h with
  | nil => intro i v e; simp at e
  | cons y t _ ih =>
    intro i v e
    cases i with
    | zero => exact ⟨by simp, t, by simpa using e.symm⟩
    | succ i =>
      obtain ⟨h1, u, h2⟩ := ih (i := i) (by simpa using e)
      exact ⟨by simp; omega, u, by simpa using h2⟩
theorem min_raws {prog : Program} {w : World} {A : Around} {E : Value → Shared → Prop} {s : Shared} {l : Addr} {its : List Value} {x : Str} {xs : List Str} {Q : Value → Shared → Prop} (hh : A.handled = none) (hl : s.heap.IsList l its.toArray) (hs : StrsAre its (x :: xs))
    (h : ∀ h' tk t, (∀ b o, s.heap.get? b = some o → h'.get? b = some o) → Q (.str (minS x xs) t) { s with heap := h', toks := tk }) :
    wpAny (model prog w) A (call (.builtin "min") [.ref l]) Q E s := by
  have hn : its.toArray.size = xs.length + 1 := by have := hs.len_eq; simpa using this
  refine call_min_walkH (iter_listW (A := A.in1) hh hl fun s₂ e W st hfp hw hk => ?_)
  refine ⟨_, _, _, _, _, _, _, s.heap, (fun i j => decide (Lt ((x :: xs).getD i default) ((x :: xs).getD j default))), rfl, W, st, hfp, by omega, hw, hk, ?_, fun v s' hP m => ?_⟩
  · intro i j vi vj s' Q' E' _ hi hj hq
    obtain ⟨_, t, rfl⟩ := strs_at hs (i := i) (by simpa using hi)
    obtain ⟨_, u, rfl⟩ := strs_at hs (i := j) (by simpa using hj)
    exact PyProof.Rows.lt_str hq
  · obtain ⟨h', tk, rfl, hk'⟩ := moved_old e rfl m
    have e1 : its.toArray.size - 1 = xs.length := by omega
    have e2 := (argBest_fold (fun a b => decide (Lt a b)) default x xs xs.length (Nat.le_refl _)).2
    rw [List.take_length] at e2
    rw [e1] at hP
    obtain ⟨_, t, rfl⟩ := strs_at hs ((List.getElem?_toArray ..).symm.trans hP)
    have e3 : (x :: xs).getD (argBest (fun i j => decide (Lt ((x :: xs).getD i default) ((x :: xs).getD j default))) xs.length) default = minS x xs := by
      rw [e2]
      simp only [minS, decide_eq_true_eq]
    rw [e3]
    exact h h' tk t hk'
def qMinS : List V → Hp → VK → Prop := fun vs H Q => ∃ (a : Addr) (x : Str) (xs : List Str), vs = [.ref a] ∧ H a = some (.lst ((x :: xs).map V.str)) ∧ ∀ m, m ∈ x :: xs → (∀ y ∈ x :: xs, ¬ Lt y m) → Q (.str m) H
theorem cr_minS {X : Cx} (hc : X.calm = true) : CallR X (.builtin "min") qMinS := by
  intro pins s σ H vs us Q I r h
  obtain ⟨a, x, xs, rfl, ha, q⟩ := h
  obtain ⟨its, rv, il, _⟩ := I.list (SqL.of ha)
  rw [Vals.ref1 r]
  obtain ⟨h1, h2⟩ := minS_is xs x
  exact min_raws (I.ok.hd hc) il.isList rv.strs fun h' tk t hk => ⟨.str _, H, I.kept hk, ⟨_, rfl⟩, q _ h1 h2⟩
end Nt
/-! zip of two lists or two tuples; what is never reached. -/
namespace Nt
open PySem PySem.Spec PyProof.Rows L2 RZ
def tNever : TE := fun _ _ _ => False
theorem pe_never {X : Cx} {e : Expr} : PE X e tNever := ⟨fun _ _ _ _ _ _ h => h.elim⟩
abbrev YZ (xs ys : List V) : Nat → Hp → V → Hp → Prop := fun i H v H' => ∃ T x y, v = .ref T ∧ H T = none ∧ H' = upd H T (.tup [x, y]) ∧ xs[i]? = some x ∧ ys[i]? = some y
theorem walkZz {K : PySem.W.Frag} {a b : Addr} {xs ys : List V} (hl : ys.length = xs.length) : Walk (Itz K a b) xs.length (fun H => H a = some (.lst xs) ∧ H b = some (.lst ys)) (YZ xs ys) :=
  ⟨fun i H hi ⟨h, g⟩ => ⟨xs, ys, xs[i], ys[i]'(by omega), SqL.of h, SqL.of g, List.getElem?_eq_getElem hi, List.getElem?_eq_getElem (by omega)⟩, fun H ⟨h, g⟩ => ⟨xs, ys, SqL.of h, SqL.of g, .inl (Nat.le_refl _)⟩,
    fun i H v H' _ ⟨h, g⟩ ⟨T, x, y, h1, h2, h3, h4, h5⟩ => ⟨T, x, y, h1, h2, h3, h4 xs (SqL.of h), h5 ys (SqL.of g)⟩⟩
theorem walkZt {K : PySem.W.Frag} {a b : Addr} {xs ys : List V} (hl : ys.length = xs.length) : Walk (ItzT K a b) xs.length (fun H => H a = some (.tup xs) ∧ H b = some (.tup ys)) (YZ xs ys) :=
  ⟨fun i H hi ⟨h, g⟩ => ⟨xs, ys, xs[i], ys[i]'(by omega), SqT.of h, SqT.of g, List.getElem?_eq_getElem hi, List.getElem?_eq_getElem (by omega)⟩, fun H ⟨h, g⟩ => ⟨xs, ys, SqT.of h, SqT.of g, .inl (Nat.le_refl _)⟩,
    fun i H v H' _ ⟨h, g⟩ ⟨T, x, y, h1, h2, h3, h4, h5⟩ => ⟨T, x, y, h1, h2, h3, h4 xs (SqT.of h), h5 ys (SqT.of g)⟩⟩
theorem w_zipV {K : PySem.W.Frag} {σ : L2.St} {H : Hp} {a b : Addr} {xs ys : List V} {i j : Nat} {R : It → Hp → Prop} (h : (H a = some (.lst xs) ∧ H b = some (.lst ys)) ∨ (H a = some (.tup xs) ∧ H b = some (.tup ys))) (hl : ys.length = xs.length)
    (hv : σ[i]? = some (some (.ref a))) (hw : σ[j]? = some (some (.ref b)))
    (k : ∀ (J : It) (G : Hp → Prop), (∀ H', (∀ o, H a = some o → H' a = some o) → (∀ o, H b = some o → H' b = some o) → G H') → Walk J xs.length G (YZ xs ys) → R J H) : iZipA K (tCons (tVar i) (tCons (tVar j) tNil)) σ H R := by
  refine ⟨.ref a, hv, .ref b, hw, a, b, xs, ys, rfl, ?_⟩
  rcases h with ⟨h, g⟩ | ⟨h, g⟩
  · exact .inl ⟨SqL.of h, SqL.of g, k _ (fun H' => H' a = some (.lst xs) ∧ H' b = some (.lst ys)) (fun H' q r => ⟨q _ h, r _ g⟩) (walkZz hl)⟩
  · exact .inr ⟨SqT.of h, SqT.of g, k _ (fun H' => H' a = some (.tup xs) ∧ H' b = some (.tup ys)) (fun H' q r => ⟨q _ h, r _ g⟩) (walkZt hl)⟩
/-- plain data, at most so deep -/
def PL : Nat → Dat → Prop
  | 0, _ => False
  | _ + 1, .non => True
  | _ + 1, .bl _ => True
  | _ + 1, .int _ => True
  | _ + 1, .str _ => True
  | k + 1, .lst ds => ds.length ≤ 1000000 ∧ ∀ d ∈ ds, PL k d
  | k + 1, .tup ds => ds.length ≤ 1000000 ∧ ∀ d ∈ ds, PL k d
  | _ + 1, .dct => False
end Nt
/-! groups in a dict of lists that grow. -/
namespace Nt
open PySem PySem.Spec PyProof.Rows L2
def zk : List Str → List Addr → List (L2.Key × V)
  | k :: ks, a :: rs => (Sum.inr k, V.ref a) :: zk ks rs
  | _, _ => []
theorem zk_len : ∀ {ks : List Str} {rs : List Addr}, rs.length = ks.length → (zk ks rs).length = ks.length
  | [], _, _ => by simp [zk]
  | k :: ks, [], h => by simp at h
  | k :: ks, a :: rs, h => by
    have := zk_len (ks := ks) (rs := rs) (by simpa using h)
    simp [zk, this]
theorem zk_val : ∀ {ks : List Str} {rs : List Addr} (k : Str), rs.length = ks.length →
    (∃ (i : Nat) (a : Addr), ks[i]? = some k ∧ rs[i]? = some a ∧ valV (zk ks rs) (Sum.inr k) = some (.ref a)) ∨ (k ∉ ks ∧ valV (zk ks rs) (Sum.inr k) = none)
  | [], [], k, _ => .inr ⟨by simp, rfl⟩
  | [], _ :: _, k, h => by simp at h
  | _ :: _, [], k, h => by simp at h
  | x :: ks, a :: rs, k, h => by
    by_cases q : x = k
    · subst q
      exact .inl ⟨0, a, rfl, rfl, valV_pos rfl⟩
    · have ne : (Sum.inr x : L2.Key) ≠ Sum.inr k := fun z => q (Sum.inr.inj z)
      rcases zk_val (ks := ks) (rs := rs) k (by simpa using h) with ⟨i, b, h1, h2, h3⟩ | ⟨h1, h2⟩
      · exact .inl ⟨i + 1, b, by simpa using h1, by simpa using h2, by
          show valV ((Sum.inr x, V.ref a) :: zk ks rs) _ = _
          rw [valV_neg ne]; exact h3⟩
      · refine .inr ⟨fun z => ?_, ?_⟩
        · rcases List.mem_cons.mp z with z | z
          · exact q z.symm
          · exact h1 z
        · show valV ((Sum.inr x, V.ref a) :: zk ks rs) _ = _
          rw [valV_neg ne]; exact h2
theorem zk_snoc : ∀ {ks : List Str} {rs : List Addr} {k : Str} {a : Addr}, rs.length = ks.length → zk (ks ++ [k]) (rs ++ [a]) = zk ks rs ++ [(Sum.inr k, V.ref a)]
  | [], [], _, _, _ => rfl
  | [], _ :: _, _, _, h => by simp at h
  | _ :: _, [], _, _, h => by simp at h
  | x :: ks, b :: rs, k, a, h => by
    show (Sum.inr x, V.ref b) :: zk (ks ++ [k]) (rs ++ [a]) = (Sum.inr x, V.ref b) :: (zk ks rs ++ [_])
    rw [zk_snoc (by simpa using h)]
theorem zk_at : ∀ {ks : List Str} {rs : List Addr} {i : Nat} {k : L2.Key} {v : V}, rs.length = ks.length → (zk ks rs)[i]? = some (k, v) → ∃ (x : Str) (a : Addr), ks[i]? = some x ∧ rs[i]? = some a ∧ k = Sum.inr x ∧ v = .ref a
  | [], [], i, k, v, _, e => by simp [zk] at e
  | [], _ :: _, _, _, _, h, _ => by simp at h
  | _ :: _, [], _, _, _, h, _ => by simp at h
  | x :: ks, a :: rs, 0, k, v, _, e => by
    simp [zk] at e
    exact ⟨x, a, rfl, rfl, e.1.symm, e.2.symm⟩
  | x :: ks, a :: rs, i + 1, k, v, h, e => by
    obtain ⟨y, b, h1, h2, h3⟩ := zk_at (ks := ks) (rs := rs) (i := i) (by simpa using h) (by simpa [zk] using e)
    exact ⟨y, b, by simpa using h1, by simpa using h2, h3⟩
theorem set_perm {r : Str} : ∀ {gs : List (List Str)} {i : Nat} {g : List Str}, gs[i]? = some g → (gs.set i (g ++ [r])).flatten.Perm (gs.flatten ++ [r])
  | [], _, _, h => by simp at h
  | x :: gs, 0, g, h => by
    have e : x = g := by simpa using h
    subst e
    show (x ++ [r] ++ gs.flatten).Perm (x ++ gs.flatten ++ [r])
    rw [List.append_assoc, List.append_assoc]
    exact List.Perm.append_left _ (List.perm_append_comm)
  | x :: gs, i + 1, g, h => by
    have ih := set_perm (r := r) (gs := gs) (i := i) (g := g) (by simpa using h)
    show (x ++ (gs.set i (g ++ [r])).flatten).Perm (x ++ gs.flatten ++ [r])
    rw [List.append_assoc]
    exact List.Perm.append_left _ ih
/-- the groups so far -/
structure Grp (H0 M H : Hp) (d : Addr) (ks : List Str) (rs : List Addr) (gs : List (List Str)) (done : List Str) : Prop where
  dk : H d = some (.dK (zk ks rs))
  hl : rs.length = ks.length
  nd : ks.Nodup
  ol : OL H0 M H rs gs
  dr : d ∉ rs
  md : M d = none
  pm : gs.flatten.Perm done
  ne : ∀ g ∈ gs, g ≠ []
theorem Grp.step {H0 M H M' H' : Hp} {d : Addr} {ks : List Str} {rs : List Addr} {gs : List (List Str)} {done : List Str} (g : Grp H0 M H d ks rs gs done) (S : Stp no M H M' H') : Grp H0 M' H' d ks rs gs done :=
  ⟨(S.keep g.md g.dk).2, g.hl, g.nd, g.ol.step fun a _ o m h => S.keep m h, g.dr, (S.keep g.md g.dk).1, g.pm, g.ne⟩
/-- found.setdefault(key, []), and what is appended to it -/
theorem Grp.setd {H0 M0 M H : Hp} {d p : Addr} {ks : List Str} {rs : List Addr} {gs : List (List Str)} {done : List Str} {key : Str} {Q : VK} (G : Grp H0 M H d ks rs gs done) (S : Stp no M0 H0 M H) (hd : H0 d = none) (hp : H p = none) (hk : ks.length ≤ 100000) (hdl : done.length ≤ 100000)
    (k : ∀ (a : Addr) (H4 : Hp) (g : List Str), Stp no M0 H0 M H4 → H4 a = some (.lst (g.map V.str)) → g.length ≤ 100000 →
      (∀ r : Str, ∃ (ks' : List Str) (rs' : List Addr) (gs' : List (List Str)), Stp no M0 H0 M (upd H4 a (.lst ((g ++ [r]).map V.str))) ∧ Grp H0 M (upd H4 a (.lst ((g ++ [r]).map V.str))) d ks' rs' gs' (done ++ [r]) ∧ ks'.length ≤ ks.length + 1) → Q (.ref a) H4) :
    ∃ (kvs : List (L2.Key × V)) (k' : L2.Key), upd H p (.lst []) d = some (.dK kvs) ∧ V.str key = kV k' ∧ kvs.length < sizeLine ∧ (∀ v, valV kvs k' = some v → Q v (upd H p (.lst []))) ∧ (valV kvs k' = none → Q (.ref p) (upd (upd H p (.lst [])) d (.dK (putK kvs k' (.ref p))))) := by
  have S1 := S.new (.lst []) hp
  have S1' : Stp no M H M (upd H p (.lst [])) := (Stp.refl S.mh).new (.lst []) hp
  have G1 := G.step S1'
  have hdp : d ≠ p := fun z => by rw [← z, G.dk] at hp; cases hp
  have hprs : p ∉ rs := fun z => by obtain ⟨_, _, o, e⟩ := G.ol.mem z; rw [hp] at e; cases e
  refine ⟨_, Sum.inr key, G1.dk, rfl, by rw [zk_len G.hl]; exact Nat.lt_of_le_of_lt (Nat.le_trans hk (by decide)) (line_lt (Nat.le_refl 1000000)), ?_, ?_⟩
  · intro v hv
    rcases zk_val key G.hl with ⟨i, a, h1, h2, h3⟩ | ⟨_, h2⟩
    · rw [h3] at hv
      cases hv
      have hig : i < gs.length := by rw [← G.ol.len]; exact (List.getElem?_eq_some_iff.mp h2).1
      have hg := List.getElem?_eq_getElem hig
      obtain ⟨a', e1, ha0, haM, hag⟩ := G1.ol.at hg
      rw [h2] at e1
      cases e1
      have har := List.mem_of_getElem? h2
      have hda : d ≠ a := fun z => G.dr (z ▸ har)
      have hgl : gs[i].length ≤ 100000 := Nat.le_trans (List.sublist_flatten_of_mem (List.getElem_mem hig)).length_le (by rw [G.pm.length_eq]; exact hdl)
      refine k a _ gs[i] S1 hag hgl fun r => ⟨ks, rs, gs.set i (gs[i] ++ [r]), S1.put _ haM (.inl ha0), ⟨by rw [upd_ne hda]; exact G1.dk, G.hl, G.nd, G1.ol.put h2, G.dr, G.md, (set_perm hg).trans (List.Perm.append_right _ G.pm), ?_⟩, Nat.le_succ _⟩
      intro g hgm
      rcases List.mem_or_eq_of_mem_set hgm with z | z
      · exact G.ne g z
      · rw [z]; simp
    · rw [h2] at hv; cases hv
  · intro hv
    have hkn : key ∉ ks := by
      rcases zk_val key G.hl with ⟨i, a, h1, h2, h3⟩ | ⟨h1, _⟩
      · rw [h3] at hv; cases hv
      · exact h1
    rw [putK_new _ hv, ← zk_snoc G.hl]
    have hpd : p ≠ d := fun z => hdp z.symm
    refine k p _ [] (S1.put _ G.md (.inl hd)) (by rw [upd_ne hpd]; exact upd_same) (by simp) fun r => ⟨ks ++ [key], rs ++ [p], gs ++ [[r]], (S1.put _ G.md (.inl hd)).put _ (S.mfree hp) (.inl (S.hfree hp)), ⟨by rw [upd_ne hdp]; exact upd_same, by rw [List.length_append, List.length_append, G.hl]; rfl, ?_, ?_, ?_, G.md, ?_, ?_⟩, by rw [List.length_append]; exact Nat.le_refl _⟩
    · rw [List.nodup_append]
      exact ⟨G.nd, by simp, fun x hx y hy z => by rw [List.mem_singleton.mp hy] at z; exact hkn (z ▸ hx)⟩
    · refine OL.snoc (S.hfree hp) (S.mfree hp) upd_same (G1.ol.step fun a ha o m e => ⟨m, ?_⟩) hprs
      rw [upd_ne (ne_mem hprs ha), upd_ne (ne_mem G.dr ha)]
      exact e
    · intro z
      rcases List.mem_append.mp z with z | z
      · exact G.dr z
      · exact hdp (List.mem_singleton.mp z)
    · rw [List.flatten_append, List.flatten_singleton]
      exact List.Perm.append_right _ G.pm
    · intro g hg
      rcases List.mem_append.mp hg with z | z
      · exact G.ne g z
      · rw [List.mem_singleton.mp z]; simp
end Nt
/-! A def that may raise, called in a try. -/
namespace Nt
open PySem PySem.Spec PyProof.Rows L2
section
variable {X : Cx} {CX : CXT} {k : Nat} {f : Addr} {ps : List Str} {sp : Sp} {E : L2.St → XK} {x : Str} {p pos : Pos} {e : Expr} {es : List Expr} {t : TA}
theorem pe_goodS (g : Good X.prog X.w X.K X.mg X.base CX k f ps sp) (hr : Room k X.A) (hg : Gl X x) (hm : X.mg x = some (.ref f)) (hx : ∀ σ, PassesAt CX X σ (E σ)) (ha : PA X (e :: es) t)
    (hdb : (x == ("__debug__" : Str)) = false := by decide) (he : starEach (e :: es) X.env = (false, eval e X.env) :: starEach es X.env := by rfl) (hpl : (backTo pos (starEach es X.env)).any (·.1) = false := by rfl) :
    PE X (.Call (.Name x p) (e :: es) [] pos) (tCallS sp E t) := by
  obtain ⟨⟨fd, F, b⟩, kp⟩ := g
  exact pe_callS F hr hg hm kp b hx ha hdb he hpl
end
section
variable {σ : L2.St} {H : Hp} {Q : VK} {t : TA} {te : TE}
theorem w_callS {sp : Sp} {E : L2.St → XK} (k : t σ H fun vs H1 => sp vs H1 Q (E σ)) : tCallS sp E t σ H Q := k
theorem w_xf {a C : Addr} {cls : Value} {d : Option Addr} {f : Str} (k : te σ H fun x H1 => x = .ref a ∧ cls = .ref C ∧ ∃ (dd : Addr) (fs : List (Str × V)) (v : V), d = some dd ∧ H1 dd = some (.xd fs) ∧ fs.lookup f = some v ∧ Q v H1) : tXf a cls d C f te σ H Q := k
end
end Nt
/-! What is known of values: small data, whatever it is. -/
namespace Nt
open PySem PySem.Spec PyProof.Rows L2
/-- a dict is one of ints and texts, few, and what it holds is data -/
def DkOk (M : Hp) (d : Dat) (v : V) : Prop := d = .dct → ∃ p kvs, v = .ref p ∧ M p = some (.dK kvs) ∧ kvs.length ≤ 1000 ∧ ∀ k x, valV kvs k = some x → ∃ d, Is M d x
theorem DkOk.mono {M M' : Hp} {d : Dat} {v : V} (h : DkOk M d v) (s : Same M M') : DkOk M' d v := fun e => by
  obtain ⟨p, kvs, a, b, c, g⟩ := h e
  exact ⟨p, kvs, a, s _ _ b, c, fun k x q => let ⟨d, i⟩ := g k x q; ⟨d, i.mono s⟩⟩
theorem DkOk.of {M : Hp} {d : Dat} {v : V} (h : d ≠ .dct) : DkOk M d v := fun e => absurd e h
def KA (M : Hp) (vs : List V) : Prop := ∀ v ∈ vs, ∃ d, Is M d v ∧ Sm d ∧ DkOk M d v
def Atom : V → Prop
  | .non => True
  | .bl _ => True
  | .int _ => True
  | .str _ => True
  | _ => False
theorem Atom.is {M : Hp} {v : V} (h : Atom v) : ∃ d, Is M d v ∧ Sm d ∧ DkOk M d v := by
  cases v with
  | non => exact ⟨.non, rfl, fun _ e => (by cases e), .of (by simp)⟩
  | bl b => exact ⟨.bl b, rfl, fun _ e => (by cases e), .of (by simp)⟩
  | int i => exact ⟨.int i, rfl, fun _ e => (by cases e), .of (by simp)⟩
  | str x => exact ⟨.str x, rfl, fun _ e => (by cases e), .of (by simp)⟩
  | _ => exact h.elim
theorem KA.mono {M M' : Hp} {vs : List V} (k : KA M vs) (s : Same M M') : KA M' vs := fun v h => by
  obtain ⟨d, a, b, c⟩ := k v h
  exact ⟨d, a.mono s, b, c.mono s⟩
theorem KA.kids {M : Hp} : ∀ {vs : List V}, KA M vs → ∃ ds, IsA M ds vs ∧ ∀ d ∈ ds, Sm d
  | [], _ => ⟨[], rfl, by simp⟩
  | v :: vs, k => by
    obtain ⟨d, a, b, _⟩ := k v List.mem_cons_self
    obtain ⟨ds, c, e⟩ := KA.kids (vs := vs) fun w h => k w (List.mem_cons_of_mem _ h)
    refine ⟨d :: ds, ⟨v, vs, rfl, a, c⟩, fun x h => ?_⟩
    rcases List.mem_cons.mp h with z | z
    · rw [z]; exact b
    · exact e x z
theorem KA.nil {M : Hp} : KA M [] := fun _ h => by cases h
theorem KA.cons {M : Hp} {d : Dat} {v : V} {vs : List V} (h : Is M d v) (s : Sm d) (o : DkOk M d v) (k : KA M vs) : KA M (v :: vs) := fun w m => by
  rcases List.mem_cons.mp m with z | z
  · rw [z]; exact ⟨d, h, s, o⟩
  · exact k w z
theorem KA.sub {M : Hp} {vs ws : List V} (k : KA M ws) (h : ∀ v ∈ vs, Atom v ∨ v ∈ ws) : KA M vs := fun v m => (h v m).elim Atom.is (k v)
theorem Sm.strs {xs : List Str} (h : xs.length ≤ 200) : Sm (dS xs) := fun ds e => by
  cases e
  refine ⟨by rw [List.length_map]; exact h, fun e he es q => ?_⟩
  obtain ⟨x, _, rfl⟩ := List.mem_map.mp he
  cases q
theorem Sm.seq {d : Dat} {ds : List Dat} (e : d.seq = some ds) (hl : ds.length ≤ 200) (h : ∀ x ∈ ds, Sm x) : Sm d := fun es q => by
  rw [e] at q
  cases q
  exact ⟨hl, fun x hx es q => (h x hx es q).1⟩
section
variable {M0 H0 M H : Hp} {b p : Addr} {rs vs : List V} {H1 : Hp}
theorem ka_lst (S : Stp (exB b) M0 H0 M H) (B : Bag M H b) (k : KA M rs) (hH : upd H p (.lst vs) = H1) (hl : vs.length ≤ 200) (h : ∀ v ∈ vs, Atom v ∨ v ∈ rs) (hp : H p = none) :
    ∃ M', Stp (exB b) M0 H0 M' H1 ∧ Bag M' H1 b ∧ Same M M' ∧ M' p = some (.lst vs) ∧ KA M' (.ref p :: rs) ∧ (∀ q, q ≠ p → M' q = M q) ∧ KA M' vs := by
  subst hH
  have s : Same M (upd M p (.lst vs)) := same_upd (S.mfree hp)
  obtain ⟨ds, ia, hd⟩ := (k.sub h).kids
  exact ⟨upd M p (.lst vs), S.lay _ hp, B.lay S.mh hp, s, upd_same, KA.cons (d := .lst ds) ⟨p, vs, rfl, upd_same, ia.mono s⟩ (Sm.seq rfl (by rw [← ia.len]; exact hl) hd) (.of (by simp)) (k.mono s), fun q n => upd_ne n, (k.sub h).mono s⟩
theorem ka_tup (S : Stp (exB b) M0 H0 M H) (B : Bag M H b) (k : KA M rs) (hH : upd H p (.tup vs) = H1) (hl : vs.length ≤ 200) (h : ∀ v ∈ vs, Atom v ∨ v ∈ rs) (hp : H p = none) :
    ∃ M', Stp (exB b) M0 H0 M' H1 ∧ Bag M' H1 b ∧ Same M M' ∧ M' p = some (.tup vs) ∧ KA M' (.ref p :: rs) ∧ (∀ q, q ≠ p → M' q = M q) ∧ KA M' vs := by
  subst hH
  have s : Same M (upd M p (.tup vs)) := same_upd (S.mfree hp)
  obtain ⟨ds, ia, hd⟩ := (k.sub h).kids
  exact ⟨upd M p (.tup vs), S.lay _ hp, B.lay S.mh hp, s, upd_same, KA.cons (d := .tup ds) ⟨p, vs, rfl, upd_same, ia.mono s⟩ (Sm.seq rfl (by rw [← ia.len]; exact hl) hd) (.of (by simp)) (k.mono s), fun q n => upd_ne n, (k.sub h).mono s⟩
theorem ka_lst2 (S : Stp (exB b) M0 H0 M H) (B : Bag M H b) (k : KA M vs) (hH : upd H p (.lst vs) = H1) (hl : vs.length ≤ 200) (hp : H p = none) :
    ∃ M', Stp (exB b) M0 H0 M' H1 ∧ Bag M' H1 b ∧ Same M M' ∧ M' p = some (.lst vs) ∧ (∀ q, q ≠ p → M' q = M q) ∧ KA M' [.ref p] := by
  obtain ⟨M', a, c, d, e, f, g, h⟩ := ka_lst S B k hH hl (fun v m => .inr m) hp
  exact ⟨M', a, c, d, e, g, fun v m => f v (by rw [List.mem_singleton.mp m]; exact List.mem_cons_self)⟩
theorem ka_tup2 (S : Stp (exB b) M0 H0 M H) (B : Bag M H b) (k : KA M vs) (hH : upd H p (.tup vs) = H1) (hl : vs.length ≤ 200) (hp : H p = none) :
    ∃ M', Stp (exB b) M0 H0 M' H1 ∧ Bag M' H1 b ∧ Same M M' ∧ M' p = some (.tup vs) ∧ (∀ q, q ≠ p → M' q = M q) ∧ KA M' [.ref p] := by
  obtain ⟨M', a, c, d, e, f, g, h⟩ := ka_tup S B k hH hl (fun v m => .inr m) hp
  exact ⟨M', a, c, d, e, g, fun v m => f v (by rw [List.mem_singleton.mp m]; exact List.mem_cons_self)⟩
theorem KA.app {M : Hp} {vs ws : List V} (k : KA M vs) (j : KA M ws) : KA M (vs ++ ws) := fun v m => (List.mem_append.mp m).elim (k v) (j v)
theorem KA.at {M : Hp} {v : V} {vs : List V} (h : Atom v) (k : KA M vs) : KA M (v :: vs) := fun w m => by
  rcases List.mem_cons.mp m with z | z
  · rw [z]; exact Atom.is h
  · exact k w z
theorem KA.s {M : Hp} {x : Str} {vs : List V} (k : KA M vs) : KA M (.str x :: vs) := KA.at (v := .str x) trivial k
theorem KA.n {M : Hp} {vs : List V} (k : KA M vs) : KA M (.non :: vs) := KA.at (v := .non) trivial k
theorem KA.i {M : Hp} {i : Int} {vs : List V} (k : KA M vs) : KA M (.int i :: vs) := KA.at (v := .int i) trivial k
theorem KA.bo {M : Hp} {i : Bool} {vs : List V} (k : KA M vs) : KA M (.bl i :: vs) := KA.at (v := .bl i) trivial k
theorem KA.con {M : Hp} {v : V} {vs : List V} (h : KA M [v]) (k : KA M vs) : KA M (v :: vs) := fun w m => by
  rcases List.mem_cons.mp m with z | z
  · rw [z]; exact h v List.mem_cons_self
  · exact k w z
theorem KA.strs {M : Hp} (xs : List Str) : KA M (xs.map V.str) := fun v m => by
  obtain ⟨x, _, rfl⟩ := List.mem_map.mp m
  exact Atom.is trivial
theorem KA.drop {M : Hp} {vs : List V} (k : KA M vs) (n : Nat) : KA M (vs.drop n) := fun v h => k v (List.mem_of_mem_drop h)
theorem KA.take {M : Hp} {vs : List V} (k : KA M vs) (n : Nat) : KA M (vs.take n) := fun v h => k v (List.mem_of_mem_take h)
theorem ka_dnew (S : Stp (exB b) M0 H0 M H) (B : Bag M H b) (k : KA M rs) (hH : upd H p (.dK []) = H1) (hp : H p = none) :
    ∃ M', Stp (exB b) M0 H0 M' H1 ∧ Bag M' H1 b ∧ Same M M' ∧ KA M' (.ref p :: rs) := by
  subst hH
  have s : Same M (upd M p (.dK [])) := same_upd (S.mfree hp)
  exact ⟨upd M p (.dK []), S.lay _ hp, B.lay S.mh hp, s, KA.cons (d := .dct) ⟨p, rfl, .inl ⟨[], upd_same⟩⟩ (fun _ e => by cases e) (fun _ => ⟨p, [], rfl, upd_same, Nat.zero_le _, fun k x q => by cases q⟩) (k.mono s)⟩
/-- a dict that is being written -/
theorem ka_d0 (S : Stp (exB b) M0 H0 M H) (B : Bag M H b) (hH : upd H p (.dK []) = H1) (hp : H p = none) : Stp (exB b) M0 H0 M H1 ∧ Bag M H1 b ∧ H1 p = some (.dK []) ∧ M p = none ∧ H0 p = none ∧ p ≠ b := by
  subst hH
  exact ⟨S.new _ hp, B.new S.mh hp, upd_same, S.mfree hp, S.hfree hp, B.ne hp⟩
theorem valV_mem {kvs : List (L2.Key × V)} {k : L2.Key} {x : V} (h : valV kvs k = some x) : ∃ q ∈ kvs, q.2 = x := by
  induction kvs with
  | nil => cases h
  | cons q kvs ih =>
    by_cases e : q.1 = k
    · rw [valV_pos e] at h
      exact ⟨q, List.mem_cons_self, by cases h; rfl⟩
    · rw [valV_neg e] at h
      obtain ⟨q', m, e'⟩ := ih h
      exact ⟨q', List.mem_cons_of_mem _ m, e'⟩
theorem ka_d1 {kvs : List (L2.Key × V)} (S : Stp (exB b) M0 H0 M H) (B : Bag M H b) (k : KA M rs) (hH : upd H p (.dK kvs) = H1) (mp : M p = none) (h0 : H0 p = none) (ne : p ≠ b) (hl : kvs.length ≤ 1000 := by exact Nat.le_of_ble_eq_true rfl) (hv : ∀ q ∈ kvs, Atom q.2 ∨ q.2 ∈ rs := by (intro q hq; rcases List.mem_cons.mp hq with z | z; (subst z; first | exact Or.inl trivial | exact Or.inr List.mem_cons_self | simp); cases z)) :
    ∃ M', Stp (exB b) M0 H0 M' H1 ∧ Bag M' H1 b ∧ Same M M' ∧ KA M' (.ref p :: rs) := by
  subst hH
  have S1 := S.put (.dK kvs) mp (.inl h0)
  have B1 : Bag M (upd H p (.dK kvs)) b := B.put mp ne
  have s : Same M (upd M p (.dK kvs)) := same_upd mp
  exact ⟨upd M p (.dK kvs), S1.fix upd_same h0, B1.fix ne (.inl mp), s, KA.cons (d := .dct) ⟨p, rfl, .inl ⟨kvs, upd_same⟩⟩ (fun _ e => by cases e) (fun _ => ⟨p, kvs, rfl, upd_same, hl, fun k' x q => by
    obtain ⟨q', m, rfl⟩ := valV_mem q
    rcases hv q' m with a | a
    · obtain ⟨d, i, _⟩ := a.is (M := upd M p (.dK kvs))
      exact ⟨d, i⟩
    · obtain ⟨d, i, _⟩ := k _ a
      exact ⟨d, i.mono s⟩⟩) (k.mono s)⟩
end
end Nt
/-! Lists of lists: arrangements; a comprehension whose items still change. -/
namespace Nt
open PySem PySem.Spec PyProof.Rows L2
theorem perm_pre {α β : Type} {f : α → β} : ∀ {m : List β} {l : List α}, m.Perm (l.map f) → ∃ l' : List α, l'.Perm l ∧ m = l'.map f
  | [], l, h => by
    have e : l = [] := List.map_eq_nil_iff.mp (List.nil_perm.mp h)
    exact ⟨[], by rw [e], rfl⟩
  | y :: m, l, h => by
    obtain ⟨x, hx, hy⟩ := List.mem_map.mp (h.mem_iff.mp List.mem_cons_self)
    obtain ⟨s, t, rfl⟩ := List.append_of_mem hx
    have h2 : (y :: m).Perm (y :: (s ++ t).map f) := h.trans (by
      rw [← hy, ← List.map_cons (f := f)]
      exact List.Perm.map f List.perm_middle)
    obtain ⟨l', h3, h4⟩ := perm_pre (l := s ++ t) (List.Perm.cons_inv h2)
    exact ⟨x :: l', (h3.cons x).trans List.perm_middle.symm, by rw [List.map_cons, hy, h4]⟩
theorem flat_filt : ∀ gs : List (List Str), (gs.filter fun g => !decide (g = [])).flatten = gs.flatten
  | [] => rfl
  | g :: gs => by
    rw [List.filter_cons]
    by_cases h : g = []
    · subst h
      rw [if_neg (by simp), flat_filt gs]
      rfl
    · rw [if_pos (by simp [h]), List.flatten_cons, List.flatten_cons, flat_filt gs]
theorem perm_flat {gs hs : List (List Str)} (h : gs.Perm hs) : gs.flatten.Perm hs.flatten := h.flatten
theorem Bag.all {M M' H : Hp} {b : Addr} (B : Bag M H b) (s : Same M M') (h : M' b = none) : Bag M' H b := by
  obtain ⟨a, xs, i, r, m, c, e, h2, h3⟩ := B.ex
  exact ⟨h, a, xs, i, r, m, c, e, s _ _ h2, h3⟩
section
variable {σ : L2.St} {H : Hp} {Q : VK} {J : It} {n : Nat} {G : Hp → Prop} {Y : Nat → Hp → V → Hp → Prop} {g : TG} {tt : TT} {te : TE} {vs : List Nat} {M0 H0 M : Hp} {b : Addr}
theorem lay_lst {p : Addr} {H1 : Hp} {vs : List V} (S : Stp (exB b) M0 H0 M H) (B : Bag M H b) (hH : upd H p (.lst vs) = H1) (hp : H p = none) :
    ∃ M', Stp (exB b) M0 H0 M' H1 ∧ Bag M' H1 b ∧ Same M M' ∧ M' p = some (.lst vs) ∧ ∀ q, q ≠ p → M' q = M q := by
  subst hH
  exact ⟨upd M p (.lst vs), S.lay _ hp, B.lay S.mh hp, same_upd (S.mfree hp), upd_same, fun q n => upd_ne n⟩
theorem lay_tup {p : Addr} {H1 : Hp} {vs : List V} (S : Stp (exB b) M0 H0 M H) (B : Bag M H b) (hH : upd H p (.tup vs) = H1) (hp : H p = none) :
    ∃ M', Stp (exB b) M0 H0 M' H1 ∧ Bag M' H1 b ∧ Same M M' ∧ M' p = some (.tup vs) ∧ ∀ q, q ≠ p → M' q = M q := by
  subst hH
  exact ⟨upd M p (.tup vs), S.lay _ hp, B.lay S.mh hp, same_upd (S.mfree hp), upd_same, fun q n => upd_ne n⟩
theorem oq_neD {X : Cx} (K : PySem.W.Frag) (hu : X.A.units + 64 < cLine) (hK : X.K = K := by rfl) : OpR X (compareOp .NotEq) (rNeD K) := by subst hK; exact op_neD hu
theorem oq_eqD {X : Cx} (K : PySem.W.Frag) (hu : X.A.units + 64 < cLine) (hK : X.K = K := by rfl) : OpR X (compareOp .Eq) (rEqD K) := by subst hK; exact op_eqD hu
structure LcTH (b : Addr) (M0 H0 : Hp) (D : Addr) (A : List V → Hp → Hp → Prop) (H : Hp) : Prop where
  ex : ∃ M acc, Stp (exB b) M0 H0 M H ∧ Bag M H b ∧ M D = none ∧ H D = some (.lst acc) ∧ A acc M H
abbrev LcBH (b : Addr) (M0 H0 : Hp) (D : Addr) (A : List V → Hp → Hp → Prop) (y : V) (H : Hp) : Prop := ∃ acc, H D = some (.lst acc) ∧ acc.length < sizeLine ∧ LcTH b M0 H0 D A (upd H D (.lst (acc ++ [y])))
theorem LcBH.of {D : Addr} {A : List V → Hp → Hp → Prop} {y : V} {acc : List V} (hD : H0 D = none) (ne : D ≠ b) (S : Stp (exB b) M0 H0 M H) (B : Bag M H b) (m : M D = none) (h : H D = some (.lst acc)) (hl : acc.length ≤ 1000000) (a : A (acc ++ [y]) M (upd H D (.lst (acc ++ [y])))) : LcBH b M0 H0 D A y H :=
  ⟨acc, h, line_lt hl, M, _, S.put _ m (.inl hD), B.put m ne, m, upd_same, a⟩
theorem lc_goBH (w : Walk J n G Y) (s0 : Same M H) (B : Bag M H b) (A : Addr → Nat → List V → Hp → Hp → Prop) (a0 : ∀ D, H D = none → A D 0 [] M (upd H D (.lst []))) (hG : ∀ M' H', Stp (exB b) M H M' H' → G H')
    (turn : ∀ i x acc M1 H1 H1' D, i < n → Stp (exB b) M H M1 H1 → Bag M1 H1 b → H D = none → D ≠ b → M1 D = none → H1 D = some (.lst acc) → A D i acc M1 H1 → Y i H1 x H1' →
      g x (wipe σ vs) H1' fun σ2 H2 => wipe σ2 vs = wipe σ vs ∧ tt σ2 H2 fun c H3 => if c = true then te σ2 H3 fun y H4 => LcBH b M H D (A D (i + 1)) y H4 else LcTH b M H D (A D (i + 1)) H3)
    (done : ∀ D acc M1 H1, H D = none → D ≠ b → Stp (exB b) M H M1 H1 → Bag M1 H1 b → M1 D = none → H1 D = some (.lst acc) → A D n acc M1 H1 → Q (.ref D) H1) :
    LcG J g tt te vs σ Q H := by
  intro D hD
  have R := Stp.refl (ex := exB b) s0
  have ne := B.ne hD
  exact lc_it w (fun i H' => LcTH b M H D (A D i) H') ⟨M, [], R.new _ hD, B.new s0 hD, R.mfree hD, upd_same, a0 D hD⟩ (fun i H' _ ⟨M', acc, S', _, _, _, _⟩ => hG M' H' S')
    (fun i x H1 H1' hi ⟨M1, acc, S1, B1, m1, h1, a1⟩ hy => turn i x acc M1 H1 H1' D hi S1 B1 hD ne m1 h1 a1 hy) (fun H1 ⟨M1, acc, S1, B1, m1, h1, a1⟩ => done D acc M1 H1 hD ne S1 B1 m1 h1 a1)
end
theorem w_inI2 {p : Addr} {H : Hp} {Q : VK} {i a c : Int} (h : H p = some (.tup [.int a, .int c])) (k : Q (.bl (decide (i = a ∨ i = c))) H) : qIn false (.int i) (.ref p) H Q :=
  ⟨p, _, rfl, .inr h, rfl, rfl, by
    show Q (.bl (inV _ _)) H
    have e : inV (.int i) [.int a, .int c] = decide (i = a ∨ i = c) := by
      unfold inV
      by_cases h1 : i = a
      · subst h1; simp [eqV]
      · by_cases h2 : i = c
        · subst h2; simp [eqV]
        · have h1' : ¬ a = i := fun z => h1 z.symm
          have h2' : ¬ c = i := fun z => h2 z.symm
          simp [eqV, h1, h2, h1', h2']
    rw [e]
    exact k⟩
theorem move_perm {g0 g1 : List Str} {gr : List (List Str)} {m : Str} (nd : g0.Nodup) (hm : m ∈ g0) : ((g0.filter fun r => !decide (r = m)) :: (g1 ++ [m]) :: gr).flatten.Perm (g0 :: g1 :: gr).flatten := by
  have h1 : g0.Perm (m :: g0.filter fun r => !decide (r = m)) := by
    have h2 := List.perm_cons_erase hm
    rw [nd.erase_eq_filter] at h2
    refine h2.trans (List.Perm.of_eq (congrArg (m :: ·) (List.filter_congr fun x _ => ?_)))
    by_cases q : x = m <;> simp [q]
  show (List.filter _ g0 ++ (g1 ++ [m] ++ gr.flatten)).Perm (g0 ++ (g1 ++ gr.flatten))
  refine List.Perm.trans ?_ (List.Perm.append_right _ h1.symm)
  refine List.Perm.trans ?_ (List.perm_middle (l₁ := []) ).symm
  show (List.filter _ g0 ++ (g1 ++ [m] ++ gr.flatten)).Perm (m :: (List.filter _ g0 ++ (g1 ++ gr.flatten)))
  rw [show List.filter (fun r => !decide (r = m)) g0 ++ (g1 ++ [m] ++ gr.flatten) = (List.filter (fun r => !decide (r = m)) g0 ++ g1) ++ m :: gr.flatten by simp]
  refine List.perm_middle.trans ?_
  rw [List.append_assoc]
theorem move_ne {g0 : List Str} {m : Str} (nd : g0.Nodup) (hl : 1 < g0.length) : (g0.filter fun r => !decide (r = m)) ≠ [] := by
  intro h
  have all : ∀ x ∈ g0, x = m := fun x hx => Classical.byContradiction fun q => by
    have : x ∈ g0.filter fun r => !decide (r = m) := List.mem_filter.mpr ⟨hx, by simp [q]⟩
    rw [h] at this
    cases this
  match g0, nd, hl, all with
  | x :: y :: t, nd, _, all =>
    have h1 := all x List.mem_cons_self
    have h2 := all y (List.mem_cons_of_mem _ List.mem_cons_self)
    exact (List.nodup_cons.mp nd).1 (by rw [h1, ← h2]; exact List.mem_cons_self)
theorem nat_ints {M : Hp} {ps : List Nat} : IsA M (ps.map fun p => Dat.int (p : Nat)) (ps.map fun p => V.int (p : Nat)) := by
  have e1 : (ps.map fun p => Dat.int (p : Nat)) = (ps.map fun p => ((p : Nat) : Int)).map Dat.int := by simp
  have e2 : (ps.map fun p => V.int (p : Nat)) = (ps.map fun p => ((p : Nat) : Int)).map V.int := by simp
  rw [e1, e2]
  exact IsA.ints.mpr rfl
end Nt
/-! The least parting that joins pairs and that seeds keep; groups in order; worklists; forests. -/
namespace Nt
open PySem PySem.Spec PyProof.Rows L2
/-! ### what pairs join -/
inductive Cg (seeds : List Str) (ps : List (Str × Str)) : Str → Str → Prop
  | refl (x : Str) : Cg seeds ps x x
  | symm {x y : Str} : Cg seeds ps x y → Cg seeds ps y x
  | trans {x y z : Str} : Cg seeds ps x y → Cg seeds ps y z → Cg seeds ps x z
  | pair {p : Str × Str} : p ∈ ps → Cg seeds ps p.1 p.2
  | seed {s x y : Str} : s ∈ seeds → Cg seeds ps x y → Cg seeds ps (ovr s x) (ovr s y)
structure Eqv (E : Str → Str → Prop) : Prop where
  refl : ∀ x, E x x
  symm : ∀ {x y}, E x y → E y x
  trans : ∀ {x y z}, E x y → E y z → E x z
theorem Cg.least {seeds : List Str} {ps : List (Str × Str)} {E : Str → Str → Prop} (e : Eqv E) (hp : ∀ p ∈ ps, E p.1 p.2) (hs : ∀ s ∈ seeds, ∀ x y, E x y → E (ovr s x) (ovr s y)) {x y : Str} (h : Cg seeds ps x y) : E x y := by
  induction h with
  | refl x => exact e.refl x
  | symm _ ih => exact e.symm ih
  | trans _ _ a b => exact e.trans a b
  | pair h => exact hp _ h
  | seed h _ ih => exact hs _ h _ _ ih
theorem Cg.more {seeds : List Str} {ps qs : List (Str × Str)} (h : ∀ p ∈ ps, Cg seeds qs p.1 p.2) {x y : Str} (c : Cg seeds ps x y) : Cg seeds qs x y :=
  c.least ⟨.refl, .symm, .trans⟩ h fun s hs x y q => .seed hs q
/-- a relation on full, widened by equality -/
def WE' (full : List Str) (R : Str → Str → Prop) (x y : Str) : Prop := x = y ∨ (x ∈ full ∧ y ∈ full ∧ R x y)
structure EqvOn (full : List Str) (R : Str → Str → Prop) : Prop where
  refl : ∀ x ∈ full, R x x
  symm : ∀ {x y}, x ∈ full → y ∈ full → R x y → R y x
  trans : ∀ {x y z}, x ∈ full → y ∈ full → z ∈ full → R x y → R y z → R x z
theorem EqvOn.wide {full : List Str} {R : Str → Str → Prop} (h : EqvOn full R) : Eqv (WE' full R) := by
  refine ⟨fun x => .inl rfl, ?_, ?_⟩
  · rintro x y (rfl | ⟨a, b, c⟩)
    · exact .inl rfl
    · exact .inr ⟨b, a, h.symm a b c⟩
  · rintro x y z (rfl | ⟨a, b, c⟩) (rfl | ⟨d, e, f⟩)
    · exact .inl rfl
    · exact .inr ⟨d, e, f⟩
    · exact .inr ⟨a, b, c⟩
    · exact .inr ⟨a, e, h.trans a b e c f⟩
theorem Cg.on {seeds full : List Str} {ps : List (Str × Str)} {R : Str → Str → Prop} (e : EqvOn full R) (cl : ∀ s ∈ seeds, ∀ r ∈ full, ovr s r ∈ full) (hf : ∀ p ∈ ps, p.1 ∈ full ∧ p.2 ∈ full) (hp : ∀ p ∈ ps, R p.1 p.2)
    (hs : ∀ s ∈ seeds, ∀ x ∈ full, ∀ y ∈ full, R x y → R (ovr s x) (ovr s y)) {x y : Str} (hx : x ∈ full) (h : Cg seeds ps x y) : R x y := by
  have := h.least e.wide (fun p m => .inr ⟨(hf p m).1, (hf p m).2, hp p m⟩) fun s m x y q => by
    rcases q with rfl | ⟨a, b, c⟩
    · exact .inl rfl
    · exact .inr ⟨cl s m x a, cl s m y b, hs s m x a y b c⟩
  rcases this with rfl | ⟨_, _, c⟩
  · exact e.refl x hx
  · exact c
/-! ### worklists -/
inductive Gn (full : List Str) (R : Str → Str → Prop) (W : List (Str × Str)) : Str → Str → Prop
  | refl (x : Str) : Gn full R W x x
  | symm {x y : Str} : Gn full R W x y → Gn full R W y x
  | trans {x y z : Str} : Gn full R W x y → Gn full R W y z → Gn full R W x z
  | base {x y : Str} : x ∈ full → y ∈ full → R x y → Gn full R W x y
  | wait {p : Str × Str} : p ∈ W → Gn full R W p.1 p.2
theorem Gn.least {full : List Str} {R : Str → Str → Prop} {W : List (Str × Str)} {E : Str → Str → Prop} (e : Eqv E) (hr : ∀ x y, x ∈ full → y ∈ full → R x y → E x y) (hw : ∀ p ∈ W, E p.1 p.2) {x y : Str} (h : Gn full R W x y) : E x y := by
  induction h with
  | refl x => exact e.refl x
  | symm _ ih => exact e.symm ih
  | trans _ _ a b => exact e.trans a b
  | base a b c => exact hr _ _ a b c
  | wait h => exact hw _ h
theorem Gn.eqv {full : List Str} {R : Str → Str → Prop} {W : List (Str × Str)} : Eqv (Gn full R W) := ⟨.refl, .symm, .trans⟩
structure Wk (seeds full : List Str) (ps : List (Str × Str)) (R : Str → Str → Prop) (W : List (Str × Str)) : Prop where
  eq : EqvOn full R
  le : ∀ x ∈ full, ∀ y ∈ full, R x y → Cg seeds ps x y
  wt : ∀ p ∈ W, Cg seeds ps p.1 p.2
  wf : ∀ p ∈ W, p.1 ∈ full ∧ p.2 ∈ full
  pr : ∀ p ∈ ps, Gn full R W p.1 p.2
  sd : ∀ s ∈ seeds, ∀ x ∈ full, ∀ y ∈ full, R x y → Gn full R W (ovr s x) (ovr s y)
section
variable {seeds full : List Str} {ps : List (Str × Str)} {R R' : Str → Str → Prop} {W W' : List (Str × Str)}
theorem Wk.start (e : EqvOn full R) (h : ∀ x ∈ full, ∀ y ∈ full, R x y → x = y) (hf : ∀ p ∈ ps, p.1 ∈ full ∧ p.2 ∈ full) : Wk seeds full ps R ps :=
  ⟨e, fun x hx y hy q => by rw [h x hx y hy q]; exact .refl y, fun p m => .pair m, hf, fun p m => .wait m, fun s _ x hx y hy q => by rw [h x hx y hy q]; exact .refl _⟩
/-- the relation is told otherwise -/
theorem Wk.same (k : Wk seeds full ps R W) (h : ∀ x ∈ full, ∀ y ∈ full, (R x y ↔ R' x y)) : Wk seeds full ps R' W := by
  have g : ∀ {x y}, Gn full R W x y → Gn full R' W x y := fun q => q.least Gn.eqv (fun x y a b c => .base a b ((h x a y b).mp c)) fun p m => .wait m
  exact ⟨⟨fun x m => (h x m x m).mp (k.eq.refl x m), fun a b c => (h _ b _ a).mp (k.eq.symm a b ((h _ a _ b).mpr c)), fun a b c d e => (h _ a _ c).mp (k.eq.trans a b c ((h _ a _ b).mpr d) ((h _ b _ c).mpr e))⟩,
    fun x a y b c => k.le x a y b ((h x a y b).mpr c), k.wt, k.wf, fun p m => g (k.pr p m), fun s m x a y b c => g (k.sd s m x a y b ((h x a y b).mpr c))⟩
/-- a pair that is joined as yet -/
theorem Wk.drop (k : Wk seeds full ps R W) {p : Str × Str} (h : ∀ q ∈ W, q = p ∨ q ∈ W') (h' : ∀ q ∈ W', q ∈ W) (hp : p ∈ W) (j : R p.1 p.2) : Wk seeds full ps R W' := by
  have g : ∀ {x y}, Gn full R W x y → Gn full R W' x y := fun q => q.least Gn.eqv (fun x y a b c => .base a b c) fun q m => by
    rcases h q m with rfl | z
    · exact .base (k.wf q hp).1 (k.wf q hp).2 j
    · exact .wait z
  exact ⟨k.eq, k.le, fun p m => k.wt p (h' p m), fun p m => k.wf p (h' p m), fun p m => g (k.pr p m), fun s m x a y b c => g (k.sd s m x a y b c)⟩
/-- a pair is joined, and what seeds make of it waits -/
theorem Wk.join (k : Wk seeds full ps R W) (cl : ∀ s ∈ seeds, ∀ r ∈ full, ovr s r ∈ full) {p : Str × Str} (hp : p ∈ W) (e : EqvOn full R') (r1 : ∀ x ∈ full, ∀ y ∈ full, R x y → R' x y) (r2 : R' p.1 p.2) (r3 : ∀ x ∈ full, ∀ y ∈ full, R' x y → Gn full R [p] x y)
    (h : ∀ q ∈ W, q = p ∨ q ∈ W') (h' : ∀ q ∈ W', q ∈ W ∨ ∃ s ∈ seeds, q = (ovr s p.1, ovr s p.2)) (hs : ∀ s ∈ seeds, (ovr s p.1, ovr s p.2) ∈ W') : Wk seeds full ps R' W' := by
  have g : ∀ {x y}, Gn full R W x y → Gn full R' W' x y := fun q => q.least Gn.eqv (fun x y a b c => .base a b (r1 x a y b c)) fun q m => by
    rcases h q m with rfl | z
    · exact .base (k.wf q hp).1 (k.wf q hp).2 r2
    · exact .wait z
  have c : ∀ {x y}, Gn full R [p] x y → Cg seeds ps x y := fun q => q.least ⟨.refl, .symm, .trans⟩ (fun x y a b c => k.le x a y b c) fun q m => by
    rw [List.mem_singleton.mp m]
    exact k.wt p hp
  refine ⟨e, fun x a y b q => c (r3 x a y b q), fun q m => ?_, fun q m => ?_, fun q m => g (k.pr q m), fun s m x a y b q => ?_⟩
  · rcases h' q m with z | ⟨s, hs, rfl⟩
    · exact k.wt q z
    · exact .seed hs (k.wt p hp)
  · rcases h' q m with z | ⟨s, hs, rfl⟩
    · exact k.wf q z
    · exact ⟨cl s hs _ (k.wf p hp).1, cl s hs _ (k.wf p hp).2⟩
  · have : ∀ {x y}, Gn full R [p] x y → Gn full R' W' (ovr s x) (ovr s y) := fun q => q.least (E := fun x y => Gn full R' W' (ovr s x) (ovr s y)) ⟨fun _ => .refl _, .symm, .trans⟩ (fun x y a b c => g (k.sd s m x a y b c)) fun q m' => by
      rw [List.mem_singleton.mp m']
      exact .wait (p := (ovr s p.1, ovr s p.2)) (hs s m)
    exact this (r3 x a y b q)
/-- nothing waits: it is the least one -/
theorem Wk.done (k : Wk seeds full ps R []) (cl : ∀ s ∈ seeds, ∀ r ∈ full, ovr s r ∈ full) (hf : ∀ p ∈ ps, p.1 ∈ full ∧ p.2 ∈ full) : ∀ x ∈ full, ∀ y ∈ full, (R x y ↔ Cg seeds ps x y) := by
  have u : ∀ {x y}, x ∈ full → Gn full R [] x y → R x y := fun {x y} hx q => by
    have := q.least k.eq.wide (fun x y a b c => .inr ⟨a, b, c⟩) fun p m => by cases m
    rcases this with rfl | ⟨_, _, c⟩
    · exact k.eq.refl x hx
    · exact c
  intro x hx y hy
  refine ⟨k.le x hx y hy, fun c => ?_⟩
  exact c.on k.eq cl hf (fun p m => u (hf p m).1 (k.pr p m)) (fun s m x a y b q => u (cl s m x a) (k.sd s m x a y b q)) hx
end
/-! ### groups in the order in which they come -/
def ins (e : Str → Str → Bool) : List (List Str) → Str → List (List Str)
  | [], x => [[x]]
  | g :: gs, x => if g.any (fun y => e y x) then (g ++ [x]) :: gs else g :: ins e gs x
def lst (e : Str → Str → Bool) (l : List Str) : List (List Str) := l.foldl (ins e) []
theorem lst_snoc (e : Str → Str → Bool) (l : List Str) (x : Str) : lst e (l ++ [x]) = ins e (lst e l) x := by unfold lst; rw [List.foldl_append]; rfl
theorem ins_flat (e : Str → Str → Bool) : ∀ (gs : List (List Str)) (x : Str), (ins e gs x).flatten.Perm (gs.flatten ++ [x])
  | [], x => by simp [ins]
  | g :: gs, x => by
    unfold ins
    split
    · rw [List.flatten_cons, List.flatten_cons, List.append_assoc, List.append_assoc]
      exact List.Perm.append_left _ List.perm_append_comm
    · rw [List.flatten_cons, List.flatten_cons, List.append_assoc]
      exact List.Perm.append_left _ (ins_flat e gs x)
theorem ins_ne (e : Str → Str → Bool) : ∀ (gs : List (List Str)) (x : Str), (∀ g ∈ gs, g ≠ []) → ∀ g ∈ ins e gs x, g ≠ []
  | [], x, _, g, hg => by
    rw [List.mem_singleton.mp (show g ∈ [[x]] from hg)]
    simp
  | h :: gs, x, hn, g, hg => by
    unfold ins at hg
    split at hg
    · rcases List.mem_cons.mp hg with z | z
      · rw [z]; simp
      · exact hn g (List.mem_cons_of_mem _ z)
    · rcases List.mem_cons.mp hg with z | z
      · rw [z]; exact hn h List.mem_cons_self
      · exact ins_ne e gs x (fun g hg => hn g (List.mem_cons_of_mem _ hg)) g z
theorem ins_cong {e e' : Str → Str → Bool} : ∀ {gs : List (List Str)} {x : Str}, (∀ y ∈ gs.flatten, e y x = e' y x) → ins e gs x = ins e' gs x
  | [], x, _ => rfl
  | g :: gs, x, h => by
    have h1 : (g.any fun y => e y x) = g.any fun y => e' y x := by
      rw [Bool.eq_iff_iff, List.any_eq_true, List.any_eq_true]
      constructor
      · rintro ⟨y, a, b⟩
        exact ⟨y, a, by rw [← h y (List.mem_append_left _ a)]; exact b⟩
      · rintro ⟨y, a, b⟩
        exact ⟨y, a, by rw [h y (List.mem_append_left _ a)]; exact b⟩
    unfold ins
    rw [h1, ins_cong (gs := gs) fun y m => h y (List.mem_append_right _ m)]
theorem lst_flat (e : Str → Str → Bool) (l : List Str) : (lst e l).flatten.Perm l := by
  have : ∀ n, n ≤ l.length → (lst e (l.take n)).flatten.Perm (l.take n) := by
    intro n
    induction n with
    | zero => intro _; simp [lst]
    | succ n ih =>
      intro h
      have e1 := List.getElem?_eq_getElem (show n < l.length by omega)
      rw [tk_snoc e1, lst_snoc]
      exact (ins_flat e _ _).trans (List.Perm.append_right _ (ih (by omega)))
  have h := this l.length (Nat.le_refl _)
  rw [List.take_length] at h
  exact h
theorem lst_ne (e : Str → Str → Bool) (l : List Str) : ∀ g ∈ lst e l, g ≠ [] := by
  have : ∀ n, n ≤ l.length → ∀ g ∈ lst e (l.take n), g ≠ [] := by
    intro n
    induction n with
    | zero => intro _; simp [lst]
    | succ n ih =>
      intro h
      have e1 := List.getElem?_eq_getElem (show n < l.length by omega)
      rw [tk_snoc e1, lst_snoc]
      exact ins_ne e _ _ (ih (by omega))
  have h := this l.length (Nat.le_refl _)
  rw [List.take_length] at h
  exact h
theorem lst_cong {e e' : Str → Str → Bool} {l : List Str} (h : ∀ x ∈ l, ∀ y ∈ l, e x y = e' x y) : lst e l = lst e' l := by
  have : ∀ n, n ≤ l.length → lst e (l.take n) = lst e' (l.take n) := by
    intro n
    induction n with
    | zero => intro _; rfl
    | succ n ih =>
      intro hn
      have e1 := List.getElem?_eq_getElem (show n < l.length by omega)
      rw [tk_snoc e1, lst_snoc, lst_snoc, ih (by omega)]
      exact ins_cong fun y m => h y (List.mem_of_mem_take ((lst_flat e' _).mem_iff.mp m)) _ (List.getElem_mem _)
  have h := this l.length (Nat.le_refl _)
  rw [List.take_length] at h
  exact h
abbrev eF (f : Str → Str) (y x : Str) : Bool := decide (f y = f x)
/-- groups by their names -/
def KF (f : Str → Str) : List Str → List (List Str) → Prop
  | [], [] => True
  | k :: ks, g :: gs => g ≠ [] ∧ (∀ y ∈ g, f y = k) ∧ k ∉ ks ∧ KF f ks gs
  | _, _ => False
theorem KF.len {f : Str → Str} : ∀ {ks : List Str} {gs : List (List Str)}, KF f ks gs → gs.length = ks.length
  | [], [], _ => rfl
  | k :: ks, g :: gs, h => by rw [List.length_cons, List.length_cons, KF.len h.2.2.2]
  | [], _ :: _, h => h.elim
  | _ :: _, [], h => h.elim
theorem KF.nd {f : Str → Str} : ∀ {ks : List Str} {gs : List (List Str)}, KF f ks gs → ks.Nodup
  | [], [], _ => List.nodup_nil
  | k :: ks, g :: gs, h => List.nodup_cons.mpr ⟨h.2.2.1, KF.nd h.2.2.2⟩
  | [], _ :: _, h => h.elim
  | _ :: _, [], h => h.elim
theorem KF.at {f : Str → Str} : ∀ {ks : List Str} {gs : List (List Str)} {i : Nat} {g : List Str}, KF f ks gs → gs[i]? = some g → ∃ k, ks[i]? = some k ∧ g ≠ [] ∧ ∀ y ∈ g, f y = k
  | [], [], i, g, _, e => by simp at e
  | k :: ks, h :: gs, 0, g, q, e => by
    have e' : h = g := by simpa using e
    subst e'
    exact ⟨k, rfl, q.1, q.2.1⟩
  | k :: ks, h :: gs, i + 1, g, q, e => by
    obtain ⟨k', a, b⟩ := KF.at (i := i) q.2.2.2 (by simpa using e)
    exact ⟨k', by simpa using a, b⟩
  | [], _ :: _, _, _, h, _ => h.elim
  | _ :: _, [], _, _, h, _ => h.elim
theorem KF.ins {f : Str → Str} {x : Str} : ∀ {ks : List Str} {gs : List (List Str)}, KF f ks gs →
    (∃ (i : Nat) (g : List Str), ks[i]? = some (f x) ∧ gs[i]? = some g ∧ Nt.ins (eF f) gs x = gs.set i (g ++ [x]) ∧ KF f ks (Nt.ins (eF f) gs x)) ∨
      (f x ∉ ks ∧ Nt.ins (eF f) gs x = gs ++ [[x]] ∧ KF f (ks ++ [f x]) (Nt.ins (eF f) gs x))
  | [], [], _ => .inr ⟨by simp, rfl, by
      show KF f [f x] [[x]]
      exact ⟨by simp, by simp, by simp, trivial⟩⟩
  | k :: ks, g :: gs, h => by
    obtain ⟨h1, h2, h3, h4⟩ := h
    by_cases q : k = f x
    · have c : (g.any fun y => eF f y x) = true := by
        obtain ⟨y, hy⟩ := List.exists_mem_of_ne_nil g h1
        exact List.any_eq_true.mpr ⟨y, hy, by simp [eF, h2 y hy, q]⟩
      have e : Nt.ins (eF f) (g :: gs) x = (g ++ [x]) :: gs := by
        rw [Nt.ins, if_pos c]
      refine .inl ⟨0, g, by simp [q], rfl, by rw [e]; rfl, ?_⟩
      rw [e]
      refine ⟨by simp, fun y hy => ?_, h3, h4⟩
      rcases List.mem_append.mp hy with z | z
      · exact h2 y z
      · rw [List.mem_singleton.mp z, q]
    · have c : ¬ (g.any fun y => eF f y x) = true := by
        intro c
        obtain ⟨y, hy, e⟩ := List.any_eq_true.mp c
        have e' : f y = f x := by simpa [eF] using e
        exact q (by rw [← e', h2 y hy])
      have e : Nt.ins (eF f) (g :: gs) x = g :: Nt.ins (eF f) gs x := by
        rw [Nt.ins, if_neg c]
      rcases KF.ins (x := x) h4 with ⟨i, g', a1, a2, a3, a4⟩ | ⟨a1, a2, a3⟩
      · refine .inl ⟨i + 1, g', by simpa using a1, by simpa using a2, by rw [e, a3]; rfl, ?_⟩
        rw [e]
        exact ⟨h1, h2, h3, a4⟩
      · refine .inr ⟨fun z => ?_, by rw [e, a2]; rfl, ?_⟩
        · rcases List.mem_cons.mp z with z | z
          · exact q z.symm
          · exact a1 z
        · rw [e]
          refine ⟨h1, h2, fun z => ?_, a3⟩
          rcases List.mem_append.mp z with z | z
          · exact h3 z
          · exact q (List.mem_singleton.mp z)
  | [], _ :: _, h => h.elim
  | _ :: _, [], h => h.elim
theorem lst_kf (f : Str → Str) (l : List Str) : ∃ ks, KF f ks (lst (eF f) l) := by
  have : ∀ n, n ≤ l.length → ∃ ks, KF f ks (lst (eF f) (l.take n)) := by
    intro n
    induction n with
    | zero => intro _; exact ⟨[], trivial⟩
    | succ n ih =>
      intro h
      have e1 := List.getElem?_eq_getElem (show n < l.length by omega)
      obtain ⟨ks, hk⟩ := ih (by omega)
      rw [tk_snoc e1, lst_snoc]
      rcases hk.ins (x := l[n]) with ⟨_, _, _, _, _, a⟩ | ⟨_, _, a⟩
      · exact ⟨_, a⟩
      · exact ⟨_, a⟩
  have h := this l.length (Nat.le_refl _)
  rw [List.take_length] at h
  exact h
/-- two rows stand in one group just if they have one name -/
theorem lst_grp (f : Str → Str) (l : List Str) : (∀ g ∈ lst (eF f) l, ∀ x ∈ g, ∀ y ∈ g, f x = f y) ∧ ∀ g ∈ lst (eF f) l, ∀ x ∈ g, ∀ y ∈ l, f x = f y → y ∈ g := by
  obtain ⟨ks, hk⟩ := lst_kf f l
  constructor
  · intro g hg x hx y hy
    obtain ⟨i, hi⟩ := List.getElem?_of_mem hg
    obtain ⟨k, _, _, h⟩ := hk.at hi
    rw [h x hx, h y hy]
  · intro g hg x hx y hy e
    obtain ⟨i, hi⟩ := List.getElem?_of_mem hg
    obtain ⟨k, hki, _, h⟩ := hk.at hi
    obtain ⟨g', hg', hy'⟩ := List.mem_flatten.mp ((lst_flat (eF f) l).mem_iff.mpr hy)
    obtain ⟨j, hj⟩ := List.getElem?_of_mem hg'
    obtain ⟨k', hkj, _, h'⟩ := hk.at hj
    have ek : k = k' := by rw [← h x hx, e, h' y hy']
    subst ek
    obtain ⟨l1, e1⟩ := List.getElem?_eq_some_iff.mp hki
    obtain ⟨l2, e2⟩ := List.getElem?_eq_some_iff.mp hkj
    have ij : i = j := by
      have pw := List.pairwise_iff_getElem.mp hk.nd
      rcases Nat.lt_trichotomy i j with t | t | t
      · exact absurd (e1.trans e2.symm) (pw i j l1 l2 t)
      · exact t
      · exact absurd (e2.trans e1.symm) (pw j i l2 l1 t)
    subst ij
    rw [hi] at hj
    cases hj
    exact hy'
theorem lst_ones {f : Str → Str} {l : List Str} (nd : l.Nodup) (h : ∀ x ∈ l, ∀ y ∈ l, f x = f y → x = y) : lst (eF f) l = l.map fun x => [x] := by
  have : ∀ n, n ≤ l.length → lst (eF f) (l.take n) = (l.take n).map fun x => [x] := by
    intro n
    induction n with
    | zero => intro _; rfl
    | succ n ih =>
      intro hn
      have e1 := List.getElem?_eq_getElem (show n < l.length by omega)
      rw [tk_snoc e1, lst_snoc, ih (by omega), List.map_append]
      have hm : ∀ y ∈ l.take n, f y ≠ f l[n] := fun y hy e => by
        have := h y (List.mem_of_mem_take hy) _ (List.getElem_mem _) e
        subst this
        have nd' := List.Sublist.nodup (List.take_sublist (n + 1) l) nd
        rw [tk_snoc e1, List.nodup_append] at nd'
        exact nd'.2.2 _ hy _ List.mem_cons_self rfl
      have key : ∀ m : List Str, (∀ y ∈ m, f y ≠ f l[n]) → ins (eF f) (m.map fun x => [x]) l[n] = (m.map fun x => [x]) ++ [[l[n]]] := by
        intro m
        induction m with
        | nil => intro _; rfl
        | cons a m ih2 =>
          intro hm
          rw [List.map_cons, ins, if_neg (by simp [eF, hm a List.mem_cons_self]), ih2 fun y hy => hm y (List.mem_cons_of_mem _ hy)]
          rfl
      exact key _ hm
  have h := this l.length (Nat.le_refl _)
  rw [List.take_length] at h
  exact h
/-! ### names that stand for their rows -/
structure Nm (full : List Str) (f : Str → Str) : Prop where
  inn : ∀ x ∈ full, f x ∈ full
  idm : ∀ x ∈ full, f (f x) = f x
def fixN (full : List Str) (f : Str → Str) : Nat := (full.filter fun x => decide (f x = x)).length
theorem fixN_le (full : List Str) (f : Str → Str) : fixN full f ≤ full.length := List.length_filter_le _ _
theorem eq_on (full : List Str) (f : Str → Str) : EqvOn full fun x y => f x = f y := ⟨fun _ _ => rfl, fun _ _ h => h.symm, fun _ _ _ a b => a.trans b⟩
section
variable {full : List Str} {f : Str → Str} {fresh gone : Str}
/-- gone is called fresh from now on -/
abbrev ren (f : Str → Str) (fresh gone : Str) : Str → Str := fun x => if f x = gone then fresh else f x
theorem Nm.ren (h : Nm full f) {p q : Str} (hp : p ∈ full) (ne : f p ≠ f q) : Nm full (ren f (f p) (f q)) := by
  refine ⟨fun x hx => ?_, fun x hx => ?_⟩
  · show (if f x = f q then f p else f x) ∈ full
    split
    · exact h.inn p hp
    · exact h.inn x hx
  · show (if f (if f x = f q then f p else f x) = f q then f p else f (if f x = f q then f p else f x)) = if f x = f q then f p else f x
    by_cases c : f x = f q
    · rw [if_pos c, h.idm p hp, if_neg ne]
    · rw [if_neg c, h.idm x hx, if_neg c]
theorem filt_less {α : Type} {p q : α → Bool} (hpq : ∀ x, p x = true → q x = true) : ∀ {l : List α} {a : α}, a ∈ l → q a = true → p a = false → (l.filter p).length < (l.filter q).length
  | [], a, h, _, _ => by cases h
  | b :: l, a, h, hq, hp => by
    have mono : ∀ l : List α, (l.filter p).length ≤ (l.filter q).length := by
      intro l
      induction l with
      | nil => exact Nat.le_refl _
      | cons c l ih =>
        rw [List.filter_cons, List.filter_cons]
        cases e : p c with
        | true => rw [hpq c e, if_pos rfl, if_pos rfl, List.length_cons, List.length_cons]; omega
        | false =>
          rw [if_neg Bool.false_ne_true]
          cases q c
          · rw [if_neg Bool.false_ne_true]; exact ih
          · rw [if_pos rfl, List.length_cons]; omega
    rw [List.filter_cons, List.filter_cons]
    rcases List.mem_cons.mp h with z | z
    · subst z
      rw [hp, hq, if_neg Bool.false_ne_true, if_pos rfl, List.length_cons]
      have := mono l
      omega
    · have ih := filt_less hpq z hq hp
      cases e : p b with
      | true => rw [hpq b e, if_pos rfl, if_pos rfl, List.length_cons, List.length_cons]; omega
      | false =>
        rw [if_neg Bool.false_ne_true]
        cases q b
        · rw [if_neg Bool.false_ne_true]; exact ih
        · rw [if_pos rfl, List.length_cons]; omega
theorem filt_lessOn {l : List Str} {p q : Str → Bool} (hpq : ∀ x ∈ l, p x = true → q x = true) {a : Str} (h : a ∈ l) (hq : q a = true) (hp : p a = false) : (l.filter p).length < (l.filter q).length := by
  have e : l.filter p = l.filter fun x => p x && q x := List.filter_congr fun x hx => by
    cases z : p x with
    | true => rw [hpq x hx z]; rfl
    | false => rfl
  rw [e]
  exact filt_less (fun x hx => (Bool.and_eq_true_iff.mp hx).2) h hq (by rw [hp]; rfl)
theorem Nm.fix (h : Nm full f) {p q : Str} (hp : p ∈ full) (hq : q ∈ full) (ne : f p ≠ f q) : fixN full (Nt.ren f (f p) (f q)) < fixN full f := by
  refine filt_lessOn (a := f q) (fun x hx e => ?_) (h.inn q hq) (by simp [h.idm q hq]) ?_
  · have e' : (if f x = f q then f p else f x) = x := of_decide_eq_true e
    by_cases c : f x = f q
    · rw [if_pos c] at e'
      rw [← e', h.idm p hp] at c
      exact absurd c ne
    · rw [if_neg c] at e'
      exact decide_eq_true e'
  · have : (if f (f q) = f q then f p else f (f q)) = f p := if_pos (h.idm q hq)
    exact decide_eq_false fun z => ne (this.symm.trans z)
end
end Nt
/-! Forests: rows that point to lesser rows. -/
namespace Nt
open PySem PySem.Spec PyProof.Rows L2
inductive Up (f : Str → Str) : Str → Str → Prop
  | here {x : Str} : f x = x → Up f x x
  | step {x r : Str} : f x ≠ x → Up f (f x) r → Up f x r
structure Frs (full : List Str) (f : Str → Str) : Prop where
  inn : ∀ x ∈ full, f x ∈ full
  dn : ∀ x ∈ full, f x = x ∨ Lt (f x) x
def cnt (full : List Str) (x : Str) : Nat := (full.filter fun y => decide (Lt y x)).length
theorem cnt_lt {full : List Str} {x y : Str} (hy : y ∈ full) (h : Lt y x) : cnt full y < cnt full x :=
  filt_lessOn (a := y) (fun z _ e => decide_eq_true (Lt.trans (of_decide_eq_true e) h)) hy (decide_eq_true h) (decide_eq_false (Lt.irrefl y))
theorem cnt_le (full : List Str) (x : Str) : cnt full x ≤ full.length := List.length_filter_le _ _
section
variable {full : List Str} {f : Str → Str} {x y r s : Str}
theorem Up.root (h : Up f x r) : f r = r := by
  induction h with
  | here e => exact e
  | step _ _ ih => exact ih
theorem Up.det (h : Up f x r) : ∀ {s}, Up f x s → r = s := by
  induction h with
  | here e =>
    intro s g
    cases g with
    | here _ => rfl
    | step n _ => exact absurd e n
  | step n _ ih =>
    intro s g
    cases g with
    | here e => exact absurd e n
    | step _ g => exact ih g
theorem Up.mem (F : Frs full f) (h : Up f x r) (hx : x ∈ full) : r ∈ full := by
  induction h with
  | here _ => exact hx
  | step _ _ ih => exact ih (F.inn _ hx)
theorem Up.le (F : Frs full f) (h : Up f x r) (hx : x ∈ full) : r = x ∨ Lt r x := by
  induction h with
  | here _ => exact .inl rfl
  | step n _ ih =>
    rename_i a b c
    have d : Lt (f a) a := (F.dn _ hx).resolve_left n
    rcases ih (F.inn _ hx) with e | e
    · exact .inr (e ▸ d)
    · exact .inr (e.trans d)
theorem Up.ex (F : Frs full f) : ∀ (n : Nat) (x : Str), cnt full x ≤ n → x ∈ full → ∃ r, Up f x r
  | n, x, hn, hx => by
    rcases F.dn x hx with e | e
    · exact ⟨x, .here e⟩
    · have ne : f x ≠ x := fun z => Lt.irrefl x (by rw [z] at e; exact e)
      have := cnt_lt (F.inn x hx) e
      match n, hn with
      | 0, hn => omega
      | n + 1, hn =>
        obtain ⟨r, h⟩ := Up.ex F n (f x) (by omega) (F.inn x hx)
        exact ⟨r, .step ne h⟩
theorem Up.ex' (F : Frs full f) (hx : x ∈ full) : ∃ r, Up f x r := Up.ex F _ x (Nat.le_refl _) hx
/-- two rows with one root -/
def Jn (f : Str → Str) (x y : Str) : Prop := ∃ r, Up f x r ∧ Up f y r
theorem Jn.on (F : Frs full f) : EqvOn full (Jn f) := by
  refine ⟨fun x hx => ?_, fun _ _ ⟨r, a, b⟩ => ⟨r, b, a⟩, fun _ _ _ ⟨r, a, b⟩ ⟨s, c, d⟩ => ⟨r, a, by rw [b.det c]; exact d⟩⟩
  obtain ⟨r, h⟩ := Up.ex' F hx
  exact ⟨r, h, h⟩
/-- names that stand for roots -/
theorem Frs.names (F : Frs full f) : ∃ N : Str → Str, ∀ x ∈ full, Up f x (N x) := by
  have : ∀ x, ∃ r, x ∈ full → Up f x r := fun x => by
    by_cases h : x ∈ full
    · obtain ⟨r, q⟩ := Up.ex' F h
      exact ⟨r, fun _ => q⟩
    · exact ⟨x, fun z => absurd z h⟩
  exact ⟨fun x => Classical.choose (this x), fun x hx => Classical.choose_spec (this x) hx⟩
abbrev put1 (f : Str → Str) (a b : Str) : Str → Str := fun x => if x = a then b else f x
theorem put1_at {a b : Str} : put1 f a b a = b := if_pos rfl
theorem put1_ne {a b c : Str} (h : c ≠ a) : put1 f a b c = f c := if_neg h
/-- a way is shortened -/
theorem Up.short (hx : f x ≠ x) (h : Up f x r) (g : Up f y s) : Up (put1 f x r) y s := by
  have hr := h.root
  have hrx : r ≠ x := fun z => hx (by rw [z] at hr; exact hr)
  induction g with
  | here e =>
    rename_i a
    have ne : a ≠ x := fun z => hx (by rw [z] at e; exact e)
    exact .here (by rw [put1_ne ne]; exact e)
  | step n g ih =>
    rename_i a b
    by_cases q : a = x
    · subst q
      have e : b = r := (Up.step n g).det h
      subst e
      exact .step (by rw [put1_at]; exact hrx) (by rw [put1_at]; exact .here (by rw [put1_ne hrx]; exact hr))
    · exact .step (by rw [put1_ne q]; exact n) (by rw [put1_ne q]; exact ih)
theorem Frs.short (F : Frs full f) (hx : x ∈ full) (h : Up f x r) : Frs full (put1 f x r) := by
  refine ⟨fun y hy => ?_, fun y hy => ?_⟩
  · by_cases q : y = x
    · rw [q, put1_at]; exact h.mem F hx
    · rw [put1_ne q]; exact F.inn y hy
  · by_cases q : y = x
    · subst q
      rw [put1_at]
      exact h.le F hy
    · rw [put1_ne q]; exact F.dn y hy
theorem Up.short' (F : Frs full f) (hx : x ∈ full) (nx : f x ≠ x) (h : Up f x r) (hy : y ∈ full) : Up f y s ↔ Up (put1 f x r) y s := by
  refine ⟨fun g => h.short nx g, fun g => ?_⟩
  obtain ⟨t, ht⟩ := Up.ex' F hy
  have := (h.short nx ht).det g
  rw [← this]
  exact ht
theorem fix_short (nx : f x ≠ x) (h : Up f x r) : fixN full (put1 f x r) = fixN full f := by
  have hrx : r ≠ x := fun z => nx (by have := h.root; rw [z] at this; exact this)
  unfold fixN
  refine congrArg List.length (List.filter_congr fun y _ => ?_)
  by_cases q : y = x
  · subst q
    rw [put1_at, decide_eq_false hrx, decide_eq_false nx]
  · rw [put1_ne q]
section
variable {mx mn : Str} (hmx : f mx = mx) (hmn : f mn = mn) (lt : Lt mn mx)
include hmx hmn lt
/-- a root is put below another one -/
theorem Up.union (g : Up f y s) : Up (put1 f mx mn) y (if s = mx then mn else s) := by
  have ne : mn ≠ mx := fun z => Lt.irrefl mx (z ▸ lt)
  have hm : Up (put1 f mx mn) mn mn := .here (by rw [put1_ne ne]; exact hmn)
  induction g with
  | here e =>
    rename_i a
    by_cases q : a = mx
    · subst q
      rw [if_pos rfl]
      exact .step (by rw [put1_at]; exact ne) (by rw [put1_at]; exact hm)
    · rw [if_neg q]
      exact .here (by rw [put1_ne q]; exact e)
  | step n g' ih =>
    rename_i a b
    have q : a ≠ mx := fun z => n (by rw [z]; exact hmx)
    exact .step (by rw [put1_ne q]; exact n) (by rw [put1_ne q]; exact ih)
theorem Frs.union (F : Frs full f) (h : mn ∈ full) : Frs full (put1 f mx mn) := by
  refine ⟨fun y hy => ?_, fun y hy => ?_⟩
  · by_cases q : y = mx
    · rw [q, put1_at]; exact h
    · rw [put1_ne q]; exact F.inn y hy
  · by_cases q : y = mx
    · subst q
      rw [put1_at]
      exact .inr lt
    · rw [put1_ne q]; exact F.dn y hy
theorem fix_union (h : mx ∈ full) : fixN full (put1 f mx mn) < fixN full f := by
  have ne : mn ≠ mx := fun z => Lt.irrefl mx (z ▸ lt)
  refine filt_lessOn (a := mx) (fun x _ e => ?_) h (decide_eq_true hmx) (decide_eq_false (by rw [put1_at]; exact ne))
  have e' : put1 f mx mn x = x := of_decide_eq_true e
  by_cases q : x = mx
  · subst q
    rw [put1_at] at e'
    exact absurd e' ne
  · rw [put1_ne q] at e'
    exact decide_eq_true e'
/-- what it joins -/
theorem Jn.union (F : Frs full f) (h : mn ∈ full) {p : Str × Str} (hp : (Up f p.1 mx ∧ Up f p.2 mn) ∨ (Up f p.1 mn ∧ Up f p.2 mx)) :
    (∀ x ∈ full, ∀ y ∈ full, Jn f x y → Jn (put1 f mx mn) x y) ∧ Jn (put1 f mx mn) p.1 p.2 ∧ ∀ x ∈ full, ∀ y ∈ full, Jn (put1 f mx mn) x y → (p.1 ∈ full) → (p.2 ∈ full) → Gn full (Jn f) [p] x y := by
  have ne : mn ≠ mx := fun z => Lt.irrefl mx (z ▸ lt)
  refine ⟨fun x _ y _ ⟨r, a, b⟩ => ⟨_, a.union hmx hmn lt, b.union hmx hmn lt⟩, ?_, ?_⟩
  · rcases hp with ⟨a, b⟩ | ⟨a, b⟩
    · have h1 := a.union hmx hmn lt
      have h2 := b.union hmx hmn lt
      rw [if_pos rfl] at h1
      rw [if_neg ne] at h2
      exact ⟨mn, h1, h2⟩
    · have h1 := a.union hmx hmn lt
      have h2 := b.union hmx hmn lt
      rw [if_neg ne] at h1
      rw [if_pos rfl] at h2
      exact ⟨mn, h1, h2⟩
  · rintro x hx y hy ⟨r, a, b⟩ hp1 hp2
    obtain ⟨s, hs⟩ := Up.ex' F hx
    obtain ⟨t, ht⟩ := Up.ex' F hy
    have e1 := (hs.union hmx hmn lt).det a
    have e2 := (ht.union hmx hmn lt).det b
    by_cases q : s = t
    · subst q
      exact .base hx hy ⟨s, hs, ht⟩
    · -- one root is mx, the other one mn
      have pq : Gn full (Jn f) [p] p.1 p.2 := .wait List.mem_cons_self
      have link : ∀ {x y : Str}, x ∈ full → y ∈ full → Up f x mx → Up f y mn → Gn full (Jn f) [p] x y := fun {x y} hx hy u v => by
        rcases hp with ⟨c, d⟩ | ⟨c, d⟩
        · exact (Gn.base hx hp1 ⟨mx, u, c⟩).trans (pq.trans (.base hp2 hy ⟨mn, d, v⟩))
        · exact (Gn.base hx hp2 ⟨mx, u, d⟩).trans (pq.symm.trans (.base hp1 hy ⟨mn, c, v⟩))
      by_cases c1 : s = mx
      · subst c1
        rw [if_pos rfl] at e1
        have c2 : t ≠ s := fun z => q z.symm
        rw [if_neg c2, ← e1] at e2
        subst e2
        exact link hx hy hs ht
      · rw [if_neg c1] at e1
        by_cases c2 : t = mx
        · subst c2
          rw [if_pos rfl, ← e1] at e2
          subst e2
          exact (link hy hx ht hs).symm
        · rw [if_neg c2, ← e1] at e2
          exact absurd e2.symm q
end
end
end Nt
/-! max, min of two texts; list.pop, list.reverse of a tracked list; calls that may raise. -/
namespace Nt
open PySem PySem.Spec PyProof.Rows L2
section
variable {prog : Program} {w : World} {A : Around} {E : Value → Shared → Prop} {s : Shared}
def txA (x y : Str) (t u : Tok) : Array Value := #[.str x t, .str y u]
def txV (x y : Str) (i : Nat) : Str := if i = 0 then x else y
theorem txA_at {x y : Str} {t u : Tok} {i : Nat} {v : Value} (h : (txA x y t u)[i]? = some v) : ∃ k, v = .str (txV x y i) k := by
  match i, h with
  | 0, h => exact ⟨t, (by simpa [txA, txV] using h.symm)⟩
  | 1, h => exact ⟨u, (by simpa [txA, txV] using h.symm)⟩
  | i + 2, h => simp [txA] at h
theorem cmp_gtS {P : Nat → Value → Prop} {val : Nat → Str} (hv : ∀ i v, P i v → ∃ t, v = .str (val i) t) : CmpOf prog w A .Gt P (fun i j => decide (Lt (val j) (val i))) := by
  intro i j vi vj s' Q' E' hi hj hq
  obtain ⟨t1, rfl⟩ := hv i vi hi
  obtain ⟨t2, rfl⟩ := hv j vj hj
  exact richCompare_gives (op := .Gt) (typeIs_str s' _ t1) (typeIs_str s' _ t2) F.slot_str_gt F.entry_str_gt (F.args_str_gt_2 _ _) (gives_str_gt _ _ t1 t2) (fun z => nomatch z) hq
theorem cmp_ltS {P : Nat → Value → Prop} {val : Nat → Str} (hv : ∀ i v, P i v → ∃ t, v = .str (val i) t) : CmpOf prog w A .Lt P (fun i j => decide (Lt (val i) (val j))) := by
  intro i j vi vj s' Q' E' hi hj hq
  obtain ⟨t1, rfl⟩ := hv i vi hi
  obtain ⟨t2, rfl⟩ := hv j vj hj
  exact richCompare_gives (op := .Lt) (typeIs_str s' _ t1) (typeIs_str s' _ t2) F.slot_str_lt F.entry_str_lt (F.args_str_lt_2 _ _) (gives_str_lt _ _ t1 t2) (fun z => nomatch z) hq
/-- the pair's tuple with its iterator: what stood before stands -/
theorem pairKept {x y : Str} {t u : Tok} {h' : Heap} {n1 : Obj}
    (hk : ∀ b o, b ∉ [s.heap.objs.size + 1] → ((s.heap.push { cls := .type "tuple", data := .seq (txA x y t u) }).push n1).get? b = some o → h'.get? b = some o) :
    ∀ b o, s.heap.get? b = some o → h'.get? b = some o := fun b o e => by
  refine hk b o (fun hm => ?_) (Heap.get?_push_of_some _ (Heap.get?_push_of_some _ e))
  have e1 := List.mem_singleton.mp hm
  have lt := Heap.lt_size e
  rw [e1] at lt
  exact absurd lt (Nat.not_lt_of_le (Nat.le_succ _))
theorem max2S {x y : Str} {t u : Tok} {Q : Value → Shared → Prop} (hh : A.handled = none)
    (h : ∀ h' tk k, (∀ b o, s.heap.get? b = some o → h'.get? b = some o) → Q (.str (if Lt x y then y else x) k) { s with heap := h', toks := tk }) :
    wpAny (model prog w) A (call (.builtin "max") [.str x t, .str y u]) Q E s := by
  have hT : (s.heap.push { cls := .type "tuple", data := .seq (txA x y t u) }).IsTuple s.heap.objs.size (txA x y t u) := ⟨_, Heap.get?_push_size _ rfl, rfl, 0, rfl⟩
  have sz : (s.heap.push { cls := .type "tuple", data := .seq #[.str x t, .str y u] }).objs.size = s.heap.objs.size + 1 := Heap.size_push ..
  refine call_max_two (wpAny_pyIter_tuple hT ?_)
  refine ⟨_, [_, s.heap.objs.size], [_], _, _, _, _, rfl, Walks.tuple (A := A.in1) hh _ s.heap.objs.size (by show s.heap.objs.size ≠ _; rw [sz]; exact Nat.ne_of_lt (Nat.lt_succ_self _)) (txA x y t u), ⟨⟨_, Heap.get?_push_size _ rfl, rfl, rfl⟩, hT.push _⟩, fun c hc => ?_, by simp [txA],
    cmp_gtS (val := txV x y) (fun _ _ => txA_at), fun v h' tk hP hk => ?_⟩
  · show c < ((s.heap.push _).push _).objs.size
    rw [Heap.size_push, sz]
    rcases List.mem_cons.mp hc with e | e
    · rw [e]
      show (s.heap.push _).objs.size < _
      rw [sz]; exact Nat.lt_succ_self _
    · rw [List.mem_singleton.mp e]; exact Nat.lt_succ_of_lt (Nat.lt_succ_self _)
  · change ∀ b o, b ∉ [(s.heap.push _).objs.size] → _ at hk
    rw [sz] at hk
    have P2 : (txA x y t u)[argBest (fun i j => decide (Lt (txV x y j) (txV x y i))) 1]? = some v := hP
    have hold := pairKept hk
    by_cases c : Lt x y
    · have e : argBest (fun i j => decide (Lt (txV x y j) (txV x y i))) 1 = 1 := by simp only [argBest, txV]; simp [c]
      rw [e] at P2
      have ev : v = .str y u := by simpa [txA] using P2.symm
      have := h h' tk u hold
      rw [if_pos c] at this
      rw [ev]; exact this
    · have e : argBest (fun i j => decide (Lt (txV x y j) (txV x y i))) 1 = 0 := by simp only [argBest, txV]; simp [c]
      rw [e] at P2
      have ev : v = .str x t := by simpa [txA] using P2.symm
      have := h h' tk t hold
      rw [if_neg c] at this
      rw [ev]; exact this
theorem min2S {x y : Str} {t u : Tok} {Q : Value → Shared → Prop} (hh : A.handled = none)
    (h : ∀ h' tk k, (∀ b o, s.heap.get? b = some o → h'.get? b = some o) → Q (.str (if Lt y x then y else x) k) { s with heap := h', toks := tk }) :
    wpAny (model prog w) A (call (.builtin "min") [.str x t, .str y u]) Q E s := by
  have hT : (s.heap.push { cls := .type "tuple", data := .seq (txA x y t u) }).IsTuple s.heap.objs.size (txA x y t u) := ⟨_, Heap.get?_push_size _ rfl, rfl, 0, rfl⟩
  have sz : (s.heap.push { cls := .type "tuple", data := .seq #[.str x t, .str y u] }).objs.size = s.heap.objs.size + 1 := Heap.size_push ..
  refine call_min_two (wpAny_pyIter_tuple hT ?_)
  refine ⟨_, [_, s.heap.objs.size], [_], _, _, _, _, rfl, Walks.tuple (A := A.in1) hh _ s.heap.objs.size (by show s.heap.objs.size ≠ _; rw [sz]; exact Nat.ne_of_lt (Nat.lt_succ_self _)) (txA x y t u), ⟨⟨_, Heap.get?_push_size _ rfl, rfl, rfl⟩, hT.push _⟩, fun c hc => ?_, by simp [txA],
    cmp_ltS (val := txV x y) (fun _ _ => txA_at), fun v h' tk hP hk => ?_⟩
  · show c < ((s.heap.push _).push _).objs.size
    rw [Heap.size_push, sz]
    rcases List.mem_cons.mp hc with e | e
    · rw [e]
      show (s.heap.push _).objs.size < _
      rw [sz]; exact Nat.lt_succ_self _
    · rw [List.mem_singleton.mp e]; exact Nat.lt_succ_of_lt (Nat.lt_succ_self _)
  · change ∀ b o, b ∉ [(s.heap.push _).objs.size] → _ at hk
    rw [sz] at hk
    have P2 : (txA x y t u)[argBest (fun i j => decide (Lt (txV x y i) (txV x y j))) 1]? = some v := hP
    have hold := pairKept hk
    by_cases c : Lt y x
    · have e : argBest (fun i j => decide (Lt (txV x y i) (txV x y j))) 1 = 1 := by simp only [argBest, txV]; simp [c]
      rw [e] at P2
      have ev : v = .str y u := by simpa [txA] using P2.symm
      have := h h' tk u hold
      rw [if_pos c] at this
      rw [ev]; exact this
    · have e : argBest (fun i j => decide (Lt (txV x y i) (txV x y j))) 1 = 0 := by simp only [argBest, txV]; simp [c]
      rw [e] at P2
      have ev : v = .str x t := by simpa [txA] using P2.symm
      have := h h' tk t hold
      rw [if_neg c] at this
      rw [ev]; exact this
end
section
variable {X : Cx}
def qMax2 : List V → Hp → VK → Prop := fun vs H Q => ∃ x y : Str, vs = [.str x, .str y] ∧ Q (.str (if Lt x y then y else x)) H
def qMin2 : List V → Hp → VK → Prop := fun vs H Q => ∃ x y : Str, vs = [.str x, .str y] ∧ Q (.str (if Lt y x then y else x)) H
theorem cq_max2S (hc : X.calm = true) : CallR X (.builtin "max") qMax2 := by
  intro pins s σ H vs us Q I r h
  obtain ⟨x, y, rfl, q⟩ := h
  obtain ⟨u, v, rfl, ⟨t, rfl⟩, ⟨t', rfl⟩⟩ := vals2 r
  exact max2S (I.ok.hd hc) fun h' tk k hk => ⟨.str _, H, I.kept hk, ⟨k, rfl⟩, q⟩
theorem cq_min2S (hc : X.calm = true) : CallR X (.builtin "min") qMin2 := by
  intro pins s σ H vs us Q I r h
  obtain ⟨x, y, rfl, q⟩ := h
  obtain ⟨u, v, rfl, ⟨t, rfl⟩, ⟨t', rfl⟩⟩ := vals2 r
  exact min2S (I.ok.hd hc) fun h' tk k hk => ⟨.str _, H, I.kept hk, ⟨k, rfl⟩, q⟩
/-! methods without arguments, of a tracked list -/
def qBM0 (r : V → List V → Hp → VK → Prop) (to : TE) : TE := fun σ H Q => to σ H fun x H1 => (∃ p xs, x = .ref p ∧ H1 p = some (.lst xs)) ∧ r x [] H1 Q
theorem eq_bm0 {o : Expr} {to : TE} {name : Str} {apos cpos : Pos} {id : String} {r : V → List V → Hp → VK → Prop} (slot : Slot "list" name id) (hty : typeOf (.builtin id) = pure (.type "method_descriptor")) (hm : MtR X id r) (ho : PE X o to)
    (hbase : attributeBase o name X.env (eval o X.env) = eval o X.env := by rfl) (hline : (apos.endLine == cpos.line) = true := by rfl) : PE X (.Call (.Attribute o name apos) [] [] cpos) (qBM0 r to) := by
  refine ⟨fun pins s σ H Q I h => ?_⟩
  refine wpAny_Call_method0_late hbase hline (thn (ho.run pins s σ H _ I h) fun v s1 hh => ?_)
  obtain ⟨x, H1, I1, r1, ⟨p, xs, ep, hp⟩, q1⟩ := hh
  have ty' : tyV X.K "list" x H1 := by rw [ep]; exact .inl ⟨rfl, xs, SqL.of hp⟩
  obtain ⟨h1, h2⟩ := tyV_is I1 r1 ty'
  exact ⟨"list", id, PySem.F.plainAttrs_list, slot, hty, h1, h2, Calls.callWith_builtin rfl (PySem.evalArgs_none (hm pins s1 σ H1 x [] v [] Q I1 r1 .nil q1))⟩
/-! calls of defs that may raise -/
variable {k : Nat} {f C : Addr} {ps : List Str} {sp : Sp} {x m : Str} {p pos apos : Pos} {e o : Expr} {es : List Expr} {t : TA} {ta : TE}
/-- where it does not raise -/
theorem pe_goodL (g : Good X.prog X.w X.K X.mg X.base (L2.CX X.prog X.w) k f ps sp) (hr : Room k X.A) (hg : Gl X x) (hm : X.mg x = some (.ref f)) (ha : PA X (e :: es) t)
    (hdb : (x == ("__debug__" : Str)) = false := by decide) (he : starEach (e :: es) X.env = (false, eval e X.env) :: starEach es X.env := by rfl) (hpl : (backTo pos (starEach es X.env)).any (·.1) = false := by rfl) :
    PE X (.Call (.Name x p) (e :: es) [] pos) (tCall sp [] E0 t) := by
  obtain ⟨⟨fd, F, b⟩, kp⟩ := g
  exact pe_call F hr hg hm kp b .nil passL ha hdb he hpl
/-- what it raises leaves the caller too -/
theorem pe_goodP {E : XK} (g : Good X.prog X.w X.K X.mg X.base (L2.CX X.prog X.w) k f ps sp) (hr : Room k X.A) (hg : Gl X x) (hm : X.mg x = some (.ref f)) (hx : Passes (L2.CX X.prog X.w) X E) (ha : PA X (e :: es) t)
    (hdb : (x == ("__debug__" : Str)) = false := by decide) (he : starEach (e :: es) X.env = (false, eval e X.env) :: starEach es X.env := by rfl) (hpl : (backTo pos (starEach es X.env)).any (·.1) = false := by rfl) :
    PE X (.Call (.Name x p) (e :: es) [] pos) (tCall sp [] E t) := by
  obtain ⟨⟨fd, F, b⟩, kp⟩ := g
  exact pe_call F hr hg hm kp b .nil hx ha hdb he hpl
end
section
variable {σ : L2.St} {H : Hp} {Q : VK} {to : TE}
theorem w_bm0 {r : V → List V → Hp → VK → Prop} (k : to σ H fun x H1 => (∃ p xs, x = .ref p ∧ H1 p = some (.lst xs)) ∧ r x [] H1 Q) : qBM0 r to σ H Q := k
end
/-- {(..): v}, one pair, a tuple for a key -/
def tDispT (trs : List (TE × TE)) : TE := fun σ H Q => ∀ p, H p = none → tPairs trs σ (upd H p (.dT [])) fun ps H2 => H2 p = some (.dT []) ∧ ∃ (c : Addr) (k : List L2.Key) (x : V), ps = [(.ref c, x)] ∧ H2 c = some (.tup (k.map kV)) ∧ Q (.ref p) (upd H2 p (.dT [(k, x)]))
theorem pe_dispT {X : Cx} {pos : Pos} {keys : List (Option Expr)} {values : List Expr} {trs : List (TE × TE)} (hu : X.A.units + 1 < cLine) (h : PPs X pos keys values trs) (hall : keys.all (·.isSome) = true) (hl : keys.length = values.length) (h0 : keys ≠ [])
    (h15 : keys.length ≤ 15) : PE X (.Dict keys values pos) (tDispT trs) := by
  refine ⟨fun pins s σ H Q I q => ?_⟩
  have hn := I.hok.fresh (Nat.le_refl s.heap.objs.size)
  have I1 := I.laid (a := s.heap.objs.size) (o := .dT []) (h' := s.heap.push { cls := .type "dict", data := .dict #[] }) (t' := s.toks) (fun _ _ q => Heap.get?_push_of_some _ q) (Nat.le_refl _) (dt_empty s.heap I.big)
  refine wpAny_Dict_any hall hl h0 h15 (thn (h.run pins _ σ _ _ I1 (q _ hn)) fun ws s2 ⟨ps, H2, I2, rel, e, c, k, x, ep, eb, q2⟩ => ?_)
  subst ep
  cases rel with
  | @cons _ b _ bs r1 t =>
  cases t
  obtain ⟨b1, b2⟩ := b
  cases (show b1 = Value.ref c from r1.1)
  obtain ⟨z, hd, xs, rel, dd⟩ := dt_of I2.hok e
  have hz : xs.length ≤ sizeLine := by rw [← Paired.length rel]; exact z
  unfold storeAll
  rw [List.forIn_cons]
  refine wpAny_bind (wpAny_bind (wpAny_dictSet_heap (knd := tupleKind (mixKind X.prog X.w)) (hsz := hz) (show X.A.units < cLine from Nat.lt_of_succ_lt hu) (key_of I2.hok eb) dd fun h' dd' hs => wpAny_pure ?_))
  simp only [List.forIn_nil]
  refine wpAny_pure ?_
  obtain ⟨q, es, ep, hq, h2, h3, h4, _, h5⟩ := dd'
  refine ⟨.ref s.heap.objs.size, _, d_write (ob := .dT [(k, x)]) I2 (by rw [e]; exact True.intro) hs ⟨q, hq⟩ ⟨by rw [sizeLine_eq]; show 1 ≤ _; omega, hd, _, ((rel.put k eb r1.2)).keeps fun c ys ec => ?_, q, es, ep, hq, h2, h3, h4, h5⟩, rfl, q2⟩
  rw [upd_ne (ne_of ec e (fun z => nomatch z))]
  exact ec
end Nt
/-! Pictures of rows: what is found with a row, when it is found first. -/
namespace Nt
open PySem PySem.Spec PyProof.Rows L2
/-- the rows that are known when the seeds before j are through at the row i -/
def itJ (seeds : List Str) (z : Str) (r : Str) (i j : Nat) : List Str := (seeds.take j).foldl (addB r) (itB seeds z i)
/-- F, W: the picture of a row, the step that led to it -/
structure Fst (seeds : List Str) (pic : Str → Str) (z : Str) (F : Str → Str) (W : Str → Option (Str × Str)) (i j : Nat) : Prop where
  c : ∀ r s, (itB seeds z i)[i]? = some r → seeds[j]? = some s → ovr s r ∉ itJ seeds z r i j → F (ovr s r) = ovr (pic s) (F r) ∧ W (ovr s r) = some (r, s)
section
variable {seeds : List Str} {pic : Str → Str} {z z' : Str}
theorem itJ_sub {r x : Str} {i j : Nat} (h : x ∈ itB seeds z i) : x ∈ itJ seeds z r i j := stepB_sub (r := r) (seeds.take j) h
theorem itJ_succ {r s : Str} {i j : Nat} (hs : seeds[j]? = some s) : itJ seeds z r i (j + 1) = addB r (itJ seeds z r i j) s := fold_tk hs
theorem itJ_has {r s : Str} {i j k : Nat} (hs : seeds[j]? = some s) (h : j < k) : ovr s r ∈ itJ seeds z r i k := by
  refine stepB_has (r := r) (seeds.take k) ?_
  refine List.mem_of_getElem? (i := j) ?_
  rw [List.getElem?_take_of_lt h]
  exact hs
theorem itJ_all {r : Str} {i : Nat} (hr : (itB seeds z i)[i]? = some r) : itJ seeds z r i seeds.length = itB seeds z (i + 1) := by
  show (seeds.take seeds.length).foldl (addB r) (itB seeds z i) = _
  rw [List.take_length, itB, hr]
  rfl
theorem itB_in {n m : Nat} (h : n ≤ m) {x : Str} (hx : x ∈ itB seeds z n) : x ∈ itB seeds z m := by
  obtain ⟨t, e⟩ := itB_pres (seeds := seeds) (z := z) n (m - n)
  have q : n + (m - n) = m := by omega
  rw [q] at e
  rw [e]
  exact List.mem_append_left _ hx
/-- what is known before stays when a new row is told -/
theorem fst_ex (z' : Str) : ∀ n, ∃ F W, F z = z' ∧ W z = none ∧ ∀ i < n, ∀ j, Fst seeds pic z F W i j
  | 0 => ⟨fun _ => z', fun _ => none, rfl, rfl, fun _ h => by omega⟩
  | n + 1 => by
    obtain ⟨F, W, h1, h2, h3⟩ := fst_ex z' n
    cases hr : (itB seeds z n)[n]? with
    | none =>
      refine ⟨F, W, h1, h2, fun i hi j => ?_⟩
      rcases Nat.lt_or_ge i n with q | q
      · exact h3 i q j
      · obtain rfl : i = n := by omega
        exact ⟨fun r s e => by rw [hr] at e; cases e⟩
    | some r =>
      have key : ∀ k, ∃ F W, F z = z' ∧ W z = none ∧ (∀ i < n, ∀ j, Fst seeds pic z F W i j) ∧ ∀ j < k, Fst seeds pic z F W n j := by
        intro k
        induction k with
        | zero => exact ⟨F, W, h1, h2, h3, fun _ h => by omega⟩
        | succ k ih =>
          obtain ⟨F, W, h1, h2, h3, h4⟩ := ih
          cases hs : seeds[k]? with
          | none =>
            refine ⟨F, W, h1, h2, h3, fun j hj => ?_⟩
            rcases Nat.lt_or_ge j k with q | q
            · exact h4 j q
            · obtain rfl : j = k := by omega
              exact ⟨fun r s _ e => by rw [hs] at e; cases e⟩
          | some s =>
            by_cases hx : ovr s r ∈ itJ seeds z r n k
            · refine ⟨F, W, h1, h2, h3, fun j hj => ?_⟩
              rcases Nat.lt_or_ge j k with q | q
              · exact h4 j q
              · obtain rfl : j = k := by omega
                refine ⟨fun r' s' e e' n' => ?_⟩
                rw [hr] at e
                rw [hs] at e'
                cases e
                cases e'
                exact absurd hx n'
            · have hne : ∀ y, y ∈ itJ seeds z r n k → y ≠ ovr s r := fun y hy q => hx (by rw [← q]; exact hy)
              have hz : z ∈ itB seeds z 0 := by simp [itB]
              have hz' := hne z (itJ_sub (itB_in (Nat.zero_le n) hz))
              have hrm : r ∈ itB seeds z n := List.mem_of_getElem? hr
              refine ⟨fun y => if y = ovr s r then ovr (pic s) (F r) else F y, fun y => if y = ovr s r then some (r, s) else W y, by simp only; rw [if_neg hz']; exact h1, by simp only; rw [if_neg hz']; exact h2, fun i hi j => ⟨fun r' s' e e' n' => ?_⟩, fun j hj => ⟨fun r' s' e e' n' => ?_⟩⟩
              · have hr' : r' ∈ itB seeds z n := itB_in (by omega) (List.mem_of_getElem? e)
                have ho : ovr s' r' ∈ itB seeds z n := by
                  refine itB_in (n := i + 1) (by omega) ?_
                  rw [← itJ_all e]
                  exact itJ_has e' (List.getElem?_eq_some_iff.mp e').1
                rw [if_neg (hne _ (itJ_sub ho)), if_neg (hne _ (itJ_sub hr')), if_neg (hne _ (itJ_sub ho))]
                exact (h3 i hi j).c r' s' e e' n'
              · rw [hr] at e
                cases e
                rcases Nat.lt_or_ge j k with q | q
                · have ho := itJ_has (seeds := seeds) (z := z) (r := r) (i := n) e' q
                  rw [if_neg (hne _ ho), if_neg (hne _ (itJ_sub hrm)), if_neg (hne _ ho)]
                  exact (h4 j q).c r s' hr e' n'
                · obtain rfl : j = k := by omega
                  rw [hs] at e'
                  cases e'
                  rw [if_pos rfl, if_pos rfl, if_neg (hne _ (itJ_sub hrm))]
                  exact ⟨rfl, rfl⟩
      obtain ⟨F, W, h1, h2, h3, h4⟩ := key seeds.length
      refine ⟨F, W, h1, h2, fun i hi j => ?_⟩
      rcases Nat.lt_or_ge i n with q | q
      · exact h3 i q j
      · obtain rfl : i = n := by omega
        rcases Nat.lt_or_ge j seeds.length with q2 | q2
        · exact h4 j q2
        · exact ⟨fun r s _ e => by rw [List.getElem?_eq_none q2] at e; cases e⟩
theorem itB_early {n i : Nat} {r : Str} (h : (itB seeds z n)[i]? = some r) (hi : i ≤ n) : (itB seeds z i)[i]? = some r := by
  obtain ⟨t, e⟩ := itB_pres (seeds := seeds) (z := z) i (n - i)
  have q : i + (n - i) = n := by omega
  rcases Nat.lt_or_ge i (itB seeds z i).length with p | p
  · rw [q] at e
    rw [e, List.getElem?_append_left p] at h
    exact h
  · have st := itB_stay (seeds := seeds) (z := z) p (n - i)
    rw [q] at st
    rw [st] at h
    have := lt_of_get h
    omega
/-- the first, the last laid on top -/
def laid (z : Str) (ws : List Str) : Str := ws.foldl (fun f s => ovr s f) z
theorem laid_snoc (z : Str) (ws : List Str) (s : Str) : laid z (ws ++ [s]) = ovr s (laid z ws) := by unfold laid; rw [List.foldl_append]; rfl
/-- a way to a row -/
structure Way (seeds : List Str) (pic : Str → Str) (z z' : Str) (F : Str → Str) (r : Str) (ws : List Str) : Prop where
  mem : ∀ s ∈ ws, s ∈ seeds
  to : laid z ws = r
  pc : laid z' (ws.map pic) = F r
inductive Wy (W : Str → Option (Str × Str)) : Str → List Str → Prop
  | nil {r : Str} : W r = none → Wy W r []
  | snoc {r o s : Str} {ws : List Str} : W r = some (o, s) → Wy W o ws → Wy W r (ws ++ [s])
theorem way_all {F : Str → Str} {W : Str → Option (Str × Str)} {n : Nat} (h1 : F z = z') (h2 : W z = none) (h : ∀ i < n, ∀ j, Fst seeds pic z F W i j) : ∀ m ≤ n, ∀ r ∈ itB seeds z m, ∃ ws, Wy W r ws ∧ Way seeds pic z z' F r ws ∧ ws.length ≤ m := by
  intro m
  induction m with
  | zero =>
    intro _ r hr
    obtain rfl : r = z := by simpa [itB] using hr
    exact ⟨[], .nil h2, ⟨by simp, rfl, by rw [h1]; rfl⟩, Nat.le_refl _⟩
  | succ m ih =>
    intro hm r hr
    have ih := ih (by omega)
    cases e : (itB seeds z m)[m]? with
    | none =>
      rw [itB, e] at hr
      obtain ⟨ws, a, b, c⟩ := ih r hr
      exact ⟨ws, a, b, by omega⟩
    | some o =>
      rw [← itJ_all e] at hr
      have key : ∀ k ≤ seeds.length, ∀ r ∈ itJ seeds z o m k, ∃ ws, Wy W r ws ∧ Way seeds pic z z' F r ws ∧ ws.length ≤ m + 1 := by
        intro k
        induction k with
        | zero =>
          intro _ r hr
          obtain ⟨ws, a, b, c⟩ := ih r hr
          exact ⟨ws, a, b, by omega⟩
        | succ k ihk =>
          intro hk r hr
          have ihk := ihk (by omega)
          have hs : seeds[k]? = some seeds[k] := List.getElem?_eq_getElem (by omega)
          rw [itJ_succ hs] at hr
          unfold addB at hr
          split at hr
          · exact ihk r hr
          · rename_i q
            rcases List.mem_append.mp hr with t | t
            · exact ihk r t
            · obtain ⟨c1, c2⟩ := (h m (by omega) k).c o _ e hs q
              obtain ⟨ws, w1, w2, w3⟩ := ih o (List.mem_of_getElem? e)
              rw [List.mem_singleton.mp t]
              refine ⟨ws ++ [seeds[k]], .snoc c2 w1, ⟨fun s hs' => ?_, ?_, ?_⟩, by rw [List.length_append]; show _ + 1 ≤ _; omega⟩
              · rcases List.mem_append.mp hs' with u | u
                · exact w2.mem s u
                · rw [List.mem_singleton.mp u]; exact List.mem_of_getElem? hs
              · rw [laid_snoc, w2.to]
              · rw [List.map_append, List.map_singleton, laid_snoc, w2.pc, c1]
      exact key _ (Nat.le_refl _) r hr
end
/-- the table of the ways: rows of fs, each with nothing or with the row and the seed before -/
def WD (M : Hp) (wv : Str → V) (W : Str → Option (Str × Str)) (fs : List Str) : Prop := ∀ r ∈ fs, (W r = none → wv r = .non) ∧ ∀ o s, W r = some (o, s) → o ∈ fs ∧ ∃ T, wv r = .ref T ∧ M T = some (.tup [.str o, .str s])
theorem WD.mono {M M' : Hp} {wv : Str → V} {W : Str → Option (Str × Str)} {fs : List Str} (h : WD M wv W fs) (s : Same M M') : WD M' wv W fs := fun r hr => ⟨(h r hr).1, fun o x e => by
  obtain ⟨a, T, b, c⟩ := (h r hr).2 o x e
  exact ⟨a, T, b, s _ _ c⟩⟩
theorem kd_congr {f g : Str → V} : ∀ {xs : List Str}, (∀ x ∈ xs, f x = g x) → kd f xs = kd g xs
  | [], _ => rfl
  | x :: xs, h => by
    show (Sum.inr x, f x) :: kd f xs = (Sum.inr x, g x) :: kd g xs
    rw [h x List.mem_cons_self, kd_congr fun y hy => h y (List.mem_cons_of_mem _ hy)]
theorem w_rev {K : PySem.W.Frag} {σ : L2.St} {H : Hp} {Q : VK} {te : TE} (k : te σ H fun x H1 => ∃ a xs, x = .ref a ∧ SqL K H1 a xs ∧ ∀ p, H1 p = none → Q (.ref p) (upd H1 p (.lst xs.reverse))) : tRevL K te σ H Q := k
/-- what the walk and the law look for -/
structure MapF (seeds : List Str) (pic : Str → Str) (z z' : Str) (F : Str → Str) (W : Str → Option (Str × Str)) : Prop where
  fz : F z = z'
  wz : W z = none
  c : ∀ i < 41, ∀ j, Fst seeds pic z F W i j
theorem mapF_ex (seeds : List Str) (pic : Str → Str) (z z' : Str) : ∃ F W, MapF seeds pic z z' F W := by
  obtain ⟨F, W, a, b, c⟩ := fst_ex (seeds := seeds) (pic := pic) (z := z) z' 41
  exact ⟨F, W, a, b, c⟩
/-- all pictures fit -/
def Hom (seeds : List Str) (pic : Str → Str) (rows : List Str) (F : Str → Str) : Prop := ∀ r ∈ rows, ∀ s ∈ seeds, F (ovr s r) = ovr (pic s) (F r)
/-- what has been seen to fit -/
def HomI (seeds : List Str) (pic : Str → Str) (z : Str) (F : Str → Str) (i : Nat) : Prop := ∀ k < i, ∀ r, (itB seeds z k)[k]? = some r → ∀ s ∈ seeds, F (ovr s r) = ovr (pic s) (F r)
theorem HomI.all {seeds : List Str} {pic : Str → Str} {z : Str} {F : Str → Str} {i : Nat} (h : HomI seeds pic z F i) (hi : i ≤ 41) (hl : (itB seeds z i).length ≤ i) : Hom seeds pic (itB seeds z 41) F := by
  intro r hr s hs
  have st := itB_stay (seeds := seeds) (z := z) hl (41 - i)
  rw [show i + (41 - i) = 41 by omega] at st
  rw [st] at hr
  obtain ⟨k, hk⟩ := List.getElem?_of_mem hr
  have := lt_of_get hk
  exact h k (by omega) r (itB_early hk (by omega)) s hs
end Nt
/-! y in x, x an instance with a __contains__ of its own. -/
namespace Nt
open PySem PySem.Spec PyProof.Rows L2
def rInOwn (C : Addr) (sp : Sp) : R2 := fun y x H Q => ∃ a dx fs, x = .ref a ∧ H a = some (.ins C dx fs) ∧ sp [.ref a, y] H (fun v H' => ∃ b, v = .bl b ∧ Q (.bl b) H') E0
def rNotInOwn (C : Addr) (sp : Sp) : R2 := fun y x H Q => ∃ a dx fs, x = .ref a ∧ H a = some (.ins C dx fs) ∧ sp [.ref a, y] H (fun v H' => ∃ b, v = .bl b ∧ Q (.bl !b) H') E0
section
variable {X : Cx} {k : Nat} {f C : Addr} {ps : List Str} {sp : Sp}
theorem own_call (g : Good X.prog X.w X.K X.mg X.base CX0 k f ps sp) (hr : Room k X.A) {pins : List (Addr × Obj)} {σ : L2.St} {H : Hp} {s : Shared} {a : Addr} {y : V} {v : Value} {Q : Bool → Hp → Prop} (I : Inv X pins σ H s) (ry : RelV y v)
    (hsp : sp [.ref a, y] H (fun v H' => ∃ b, v = .bl b ∧ Q b H') E0) {Z : Bool → Shared → Prop} (hZ : ∀ b H' s', Inv X pins σ H' s' → Q b H' → Z b s') :
    wpAny (model X.prog X.w) X.A (call (.ref f) [.ref a, v]) (fun r s' => wpAny (model X.prog X.w) X.A (truthy r) Z X.xe s') X.xe s := by
  obtain ⟨⟨fd, F, hb⟩, kp⟩ := g
  have hl := F.len _ _ _ _ hsp
  have r2 : Vals [V.ref a, y] [Value.ref a, v] := .cons rfl (.cons ry .nil)
  refine wpAny_call (codeAny_mono (F.run X.A X.stack s H ⟨[.ref a, v], []⟩ [.ref a, v] [.ref a, y] _ E0 hr I.env0 (by
    have := hb s [.ref a, v] I.kIn (by simpa using hl)
    simpa using this) r2 hsp) fun r s' hq => ?_)
  cases r with
  | error e => exact pass0 pins σ H s e s' I hq
  | ok fl =>
    cases fl with
    | ret w =>
      obtain ⟨z, H', I', rz, b, ez, q⟩ := I.after hq
      subst ez
      cases rz
      exact wpAny_truthy_bool (hZ _ _ _ I' q)
    | next => exact False.elim hq
    | brk => exact False.elim hq
    | cont => exact False.elim hq
theorem op_inOwn (g : Good X.prog X.w X.K X.mg X.base CX0 k f ps sp) (hr : Room k X.A) (hs : PySem.W.findIn X.K (.ref C) "__contains__" = some (some (.ref f))) (hf : PySem.W.isFn X.K (.ref f) = true) : OpR X (compareOp .In) (rInOwn C sp) := by
  intro pins s σ H x y v u Q I rx ry hq
  obtain ⟨a, dx, fs, rfl, ha, hsp⟩ := hq
  cases ry
  obtain ⟨mA, J, _⟩ := ins_get I.hok ha
  obtain ⟨od, J, _⟩ := J.look
  obtain ⟨m, hF⟩ := I.fr
  exact PySem.W.in_K hF I.ok.mod.kin J hs hf (own_call g hr (Q := fun b H' => Q (.bl b) H') I rx hsp fun b H' s' I' q => ⟨.bl b, H', I', rfl, q⟩)
theorem op_notInOwn (g : Good X.prog X.w X.K X.mg X.base CX0 k f ps sp) (hr : Room k X.A) (hs : PySem.W.findIn X.K (.ref C) "__contains__" = some (some (.ref f))) (hf : PySem.W.isFn X.K (.ref f) = true) : OpR X (compareOp .NotIn) (rNotInOwn C sp) := by
  intro pins s σ H x y v u Q I rx ry hq
  obtain ⟨a, dx, fs, rfl, ha, hsp⟩ := hq
  cases ry
  obtain ⟨mA, J, _⟩ := ins_get I.hok ha
  obtain ⟨od, J, _⟩ := J.look
  obtain ⟨m, hF⟩ := I.fr
  exact PySem.W.notIn_K hF I.ok.mod.kin J hs hf (own_call g hr (Q := fun b H' => Q (.bl !b) H') I rx hsp fun b H' s' I' q => ⟨.bl !b, H', I', rfl, q⟩)
variable {m : Str} {pos apos : Pos} {e o : Expr} {es : List Expr} {t : TA} {ta : TE}
/-- a method of an own class with arguments -/
theorem pe_goodm {pl : Sem Bool} (g : Good X.prog X.w X.K X.mg X.base CX0 k f ps sp) (hr : Room k X.A) (ho : PE X o ta) (c : Cls X.K C) (hm : Meth X.K C m f) (ha : PA X (e :: es) t)
    (he : starEach (e :: es) X.env = (false, eval e X.env) :: starEach es X.env := by rfl) (hpl : (backTo pos (starEach es X.env)).any (·.1) = false := by rfl)
    (ht : eval (.Call (.Attribute o m apos) (e :: es) [] pos) X.env = (do
      let ov ← eval o X.env
      standAt apos.atName
      let (f, first) ← holding [ov] (getMethod ov m pl)
      callWith pos f first (backTo pos (starEach (e :: es) X.env)) (backToKw pos (keywordEach [] X.env))) := by rfl) :
    PE X (.Call (.Attribute o m apos) (e :: es) [] pos) (tMeth C m sp [] E0 ta t) := by
  obtain ⟨⟨fd, F, b⟩, kp⟩ := g
  exact pe_meth ho c hm F hr b .nil pass0 ha he hpl ht
end
end Nt
/-! A dict of texts gets a key of another kind: what is left to be known is its size. Calls of instances. -/
namespace Nt
open PySem PySem.Spec PyProof.Rows L2
def dMix (a : Addr) (n : Nat) : HO := .ext fun h => (a == sysModules) = false ∧ ∃ o es ep, h.get? a = some o ∧ o.ExactDict ∧ o.data = .dict es ep ∧ es.size = n ∧ n ≤ sizeLine + 1
theorem dMix_ok {P : Program} {w : World} {H : Hp} {h : Heap} {a : Addr} {n : Nat} (x : (a == sysModules) = false ∧ ∃ o es ep, h.get? a = some o ∧ o.ExactDict ∧ o.data = .dict es ep ∧ es.size = n ∧ n ≤ sizeLine + 1) : ObjOk P w H h a (dMix a n) := by
  obtain ⟨h0, o, es, ep, h1, h2⟩ := x
  refine ⟨⟨h0, o, es, ep, h1, h2⟩, ⟨o, h1⟩, ?_⟩
  rintro g1 g2 ⟨h0, o, es, ep, h1, h2⟩ k
  exact ⟨h0, o, es, ep, k _ h1, h2⟩
section
variable {prog : Program} {w : World} {A : Around} {E : Value → Shared → Prop} {s : Shared}
/-- all keys are texts -/
def TxtKeys (es : Array DictEntry) : Prop := ∀ e ∈ es, ∃ x t, e.key = .str x t
/-- a tuple of ints and texts at a that is not in the dict at d, whose keys are texts -/
structure TupKey (prog : Program) (w : World) (a d : Addr) (ks : List L2.Key) (es : Array DictEntry) (ep : Nat) (h : Heap) : Prop where
  key : (tupleKind (mixKind prog w)).is h ks a
  dict : ∃ o, h.get? d = some o ∧ o.data = .dict es ep
  txt : TxtKeys es
variable {a d : Addr} {ks : List L2.Key} {es : Array DictEntry} {ep : Nat}
theorem TupKey.other (k : TupKey prog w a d ks es ep s.heap) (hu : A.units < cLine) (x : Str) (t : Tok) {Q : Bool → Shared → Prop} (q : Q false s) : wpAny (model prog w) A (eqBool (.str x t) (.ref a)) Q E s := by
  obtain ⟨o, its, n, h1, h2, h3, _⟩ := id k.key
  exact SeqAt.EqAt.str_tuple x t ⟨o, h1, h2, n, h3⟩ hu _ _ _ _ q
abbrev Texts (l : List Value) : Prop := ∀ v ∈ l, ∃ x t, v = Value.str x t
/-- texts beside a tuple: no == is run that the table could tell of -/
theorem TupKey.mum (k : TupKey prog w a d ks es ep s.heap) {l : List Value} (hl : Texts l) {Q : Bool → Shared → Prop} (q : Q false s) : wpAny (model prog w) A (tableMayTell (.ref a) l) Q E s := by
  unfold tableMayTell
  by_cases e : l.isEmpty = true
  · rw [if_pos e]; exact wpAny_pure q
  rw [if_neg e]
  refine wpAny_bind ((tupleKind (mixKind prog w)).quiet k.key (wpAny_bind (wpAny_forIn_list _ (fun left r s' => s' = s ∧ r = (none, ()) ∧ Texts left) _ ?_ ?_ _ _ ⟨rfl, rfl, hl⟩)))
  · intro v left r s' ⟨e1, e2, h⟩
    obtain ⟨x, t, rfl⟩ := h v List.mem_cons_self
    subst e1 e2
    exact wpAny_bind (wpAny_of_eq (a := true) rfl (wpAny_pure ⟨rfl, rfl, fun v hv => h v (List.mem_cons_of_mem _ hv)⟩))
  · intro r s' ⟨e1, e2, _⟩
    subst e1 e2
    exact wpAny_pure q
theorem TupKey.find {hv : Int} {Q : Option Nat → Shared → Prop} (k : TupKey prog w a d ks es ep s.heap) (hu : A.units < cLine) (q : Q none s) : wpAny (model prog w) A (dictFind d (.ref a) hv) Q E s := by
  obtain ⟨o, ho, hd⟩ := k.dict
  have tx : ∀ {i : Nat} {e : DictEntry}, es[i]? = some e → ∃ x t, e.key = .str x t := fun h => k.txt _ (Array.mem_of_getElem? h)
  have stored : Texts ((placesWithHash es.size (fun i => es[i]?.map (·.hash)) hv).filterMap fun i => es[i]?.map (·.key)) := fun v m => by
    obtain ⟨i, _, h⟩ := List.mem_filterMap.mp m
    obtain ⟨e, he, rfl⟩ := Option.map_eq_some_iff.mp h
    exact tx he
  have fresh : (es.any fun e => e.key == Value.ref a && e.hash != hv) = false := by
    rw [Array.any_eq_false]
    intro i hi
    obtain ⟨x, t, e⟩ := k.txt es[i] (Array.getElem_mem hi)
    rw [e]
    simp
  unfold dictFind
  refine wpAny_holding (wpAny_bind (wpAny_dictEntries ho hd ?_))
  generalize placesWithHash es.size (fun i => es[i]?.map (·.hash)) hv = places at stored ⊢
  simp only [List.all_cons, carriedByValue, Bool.false_and, fresh, Bool.false_eq_true, if_false]
  split
  · rename_i e
    rw [eq_of_beq e] at stored
    obtain ⟨x, t, z⟩ := stored _ List.mem_cons_self
    cases z
  refine wpAny_bind (k.mum stored ?_)
  rw [if_neg (by simp)]
  refine wpAny_bind (wpAny_forIn_list _ (fun _ r s' => s' = s ∧ r = (none, none)) _ ?_ ?_ _ _ ⟨rfl, rfl⟩)
  · intro i left r s' ⟨e1, e2⟩
    subst e1 e2
    cases he : es[i]? with
    | none => exact wpAny_pure ⟨rfl, rfl⟩
    | some e =>
      obtain ⟨x, t, hx⟩ := tx he
      dsimp only
      by_cases hh : (e.hash == hv) = true
      · rw [if_pos hh, hx]
        refine wpAny_bind (wpAny_dictEpoch ho hd (wpAny_bind (k.other hu x t (wpAny_bind (wpAny_dictEpoch ho hd ?_)))))
        rw [if_neg (by simp)]
        refine wpAny_ite_split (fun no => absurd no (by decide)) fun _ => wpAny_bind (wpAny_rule ?_)
        rw [if_neg (by simp)]
        exact wpAny_pure ⟨rfl, rfl⟩
      · rw [if_neg hh]
        exact wpAny_pure ⟨rfl, rfl⟩
  · intro r s' ⟨e1, e2⟩
    subst e1 e2
    exact wpAny_pure q
end
end Nt
namespace Nt
open PySem PySem.Spec PyProof.Rows L2
theorem paired_at {α β : Type} {F : α → β → Prop} {xs : List α} {ys : List β} (p : Paired F xs ys) : ∀ {i : Nat} {x : α}, xs[i]? = some x → ∃ y, ys[i]? = some y ∧ F x y := by
  induction p with
  | nil => intro i x e; cases e
  | cons r _ ih =>
    intro i x e
    cases i with
    | zero => cases e; exact ⟨_, rfl, r⟩
    | succ i => exact ih e
/-- a key that is neither an int nor a text -/
def OddKey (H : Hp) (y : V) : Prop := y = .non ∨ (∃ b, y = .bl b) ∨ ∃ (b : Addr) (ks : List L2.Key), y = .ref b ∧ H b = some (.tup (ks.map kV))
section
variable {prog : Program} {w : World} {A : Around} {E : Value → Shared → Prop} {s : Shared}
theorem txt_of {h : Heap} {a : Addr} {vs : List (L2.Key × Value)} (dd : h.DictOf (mixKind prog w) a vs) (hx : ∀ p ∈ vs, ∃ x, p.1 = Sum.inr x) :
    ∃ o es ep, h.get? a = some o ∧ o.ExactDict ∧ o.data = .dict es ep ∧ TxtKeys es ∧ (∀ e ∈ es, ∃ x t, e.key = .str x t ∧ e.hash = hashStr w x) ∧ es.size = vs.length := by
  obtain ⟨o, es, ep, h1, h2, h3, h4, h5, h6⟩ := dd
  have hl : es.size = vs.length := by have := h5.length; simpa using this
  have key : ∀ e ∈ es, ∃ x t, e.key = .str x t ∧ e.hash = hashStr w x := by
    intro e he
    obtain ⟨i, hi, rfl⟩ := Array.mem_iff_getElem.mp he
    have hv : vs[i]? = some vs[i] := List.getElem?_eq_getElem (by omega)
    have hp := h5.get? (i := i) (e := es[i]) (k := vs[i].1) (v := vs[i].2) (by simp [hi]) hv
    obtain ⟨x, hx⟩ := hx _ (List.getElem_mem (l := vs) (n := i) (by omega))
    obtain ⟨k', hk', hh⟩ := h4 es[i] (Array.getElem_mem hi)
    have hk : (mixKind prog w).is (Sum.inr x) es[i].key = true := by rw [← hx]; exact hp.1
    have e1 : k' = Sum.inr x := (mixKind prog w).inj _ _ _ hk' hk
    subst e1
    rcases keyIs_shape (show keyIs (Sum.inr x) es[i].key = true from hk') with ⟨j, t, q, _⟩ | ⟨y, t, q, q2⟩
    · cases q
    · cases q
      exact ⟨x, t, q2, hh⟩
  exact ⟨o, es, ep, h1, h2, h3, fun e he => let ⟨x, t, q, _⟩ := key e he; ⟨x, t, q⟩, key, hl⟩
/-- what is not there is laid at the end -/
theorem set_new {d : Addr} {key v : Value} {o : Obj} {es : Array DictEntry} {ep : Nat} {hv : Int} {Q : Unit → Shared → Prop} (ho : s.heap.get? d = some o) (hc : o.ExactDict) (hd : o.data = .dict es ep) (hz : es.size ≤ sizeLine)
    (hh : ∀ (A' : Around) (E' : Value → Shared → Prop) (s' : Shared) (Q' : Int → Shared → Prop), s'.heap = s.heap → A'.units = A.units ∨ A' = A → (∀ t, Q' hv { s' with toks := t }) → wpAny (model prog w) A (PySem.pyHash key) Q' E' s')
    (hf : ∀ (E' : Value → Shared → Prop) (s' : Shared) (Q' : Option Nat → Shared → Prop), s'.heap = s.heap → Q' none s' → wpAny (model prog w) A (dictFind d key hv) Q' E' s')
    (hQ : ∀ h' t, (∃ o' es' ep', h'.get? d = some o' ∧ o'.ExactDict ∧ o'.data = .dict es' ep' ∧ es'.size = es.size + 1) → Heap.SameBut d s.heap h' → Q () { s with heap := h', toks := t }) :
    wpAny (model prog w) A (dictSet d key v) Q E s := by
  unfold dictSet
  refine wpAny_holding (wpAny_bind (hh A _ s _ rfl (.inr rfl) fun t => ?_))
  unfold dictSetHashed
  try with_reducible refine wpAny_holding ?_
  refine wpAny_bind (hf _ _ _ rfl ?_)
  refine wpAny_bind (wpAny_rule (wpAny_updateDictKeys (hz := hz) (s := { s with toks := t }) ho hd (hQ _ t ⟨_, _, ep + 1, Heap.get?_update_self _ ho (Obj.isFreed_of_dict (Obj.data_mapDictKeys hd _)),
      hc.mapDictKeys _, Obj.data_mapDictKeys hd _, by simp⟩ (Heap.SameBut.update ..))))
end
section
variable {X : Cx} {pins : List (Addr × Obj)} {σ : L2.St} {H : Hp} {s : Shared} {a : Addr} {y v : V} {u r : Value} {A : Around} {E : Value → Shared → Prop} {kvs : List (L2.Key × V)}
theorem set_odd {Q : Unit → Shared → Prop} (hu : A.units + 1 < cLine) (I : Inv X pins σ H s) (e : H a = some (.dK kvs)) (hx : ∀ p ∈ kvs, ∃ x, p.1 = Sum.inr x) (hk : OddKey H y) (ry : RelV y u) (rv : RelV v r) (hl : kvs.length < sizeLine)
    (h : ∀ s', Inv X pins σ (upd H a (dMix a (kvs.length + 1))) s' → Q () s') : wpAny (model X.prog X.w) A (setItem (.ref a) u r) Q E s := by
  obtain ⟨z, hd, vs, rel, dd⟩ := dk_of I.hok e
  have hvs : ∀ p ∈ vs, ∃ x, p.1 = Sum.inr x := by
    intro p hp
    obtain ⟨i, hi⟩ := List.getElem?_of_mem hp
    have hl' := rel.length
    have hi' := (List.getElem?_eq_some_iff.mp hi).1
    have hq : kvs[i]? = some kvs[i] := List.getElem?_eq_getElem (by omega)
    obtain ⟨b, hb, r1, _⟩ := paired_at rel hq
    rw [hi] at hb
    cases hb
    obtain ⟨x, hx⟩ := hx _ (List.getElem_mem (l := kvs) (n := i) (by omega))
    exact ⟨x, by rw [← r1]; exact hx⟩
  have hT := dd.typeIs
  obtain ⟨o, es, ep, ho, hc, hdt, ht, hke, hsz⟩ := txt_of dd hvs
  have hlen : es.size = kvs.length := by rw [hsz]; exact rel.length.symm
  have fin : ∀ h' t, (∃ o' es' ep', h'.get? a = some o' ∧ o'.ExactDict ∧ o'.data = .dict es' ep' ∧ es'.size = es.size + 1) → Heap.SameBut a s.heap h' → Q () { s with heap := h', toks := t } := by
    rintro h' t ⟨o', es', ep', h1, h2, h3, h4⟩ hs
    exact h _ (d_write I (by rw [e]; exact True.intro) hs ⟨_, h1⟩ (dMix_ok ⟨hd, o', es', ep', h1, h2, h3, by omega, by omega⟩))
  unfold setItem
  try with_reducible refine wpAny_holding ?_
  refine wpAny_bind (wpAny_sequenceKey hT (by decide) ?_)
  refine wpAny_bind (wpAny_callSpecial?_slot (name := Str.ofString "__setitem__") hT slot_dict_setitem
    (wpAny_call_entry slot_dict_setitem hT entry_dict_setitem ?_ (args_dict_setitem _ _ _)))
  show wpAny _ _ (Builtin.Dict.notOrdered "__setitem__" ⟨[.ref a, u, r], []⟩ >>= _) _ _ s
  refine wpAny_bind (wpAny_notOrdered_dict hT ?_)
  show wpAny _ _ (dictSet a u r >>= _) _ _ s
  have leaf : ∀ k : Leaf, (leafKind X.prog X.w).is k u = true → (∀ x, k ≠ .text x) → wpAny (model X.prog X.w) A.in1 (dictSet a u r) (fun _ s' => Q () s') E s := by
    intro k hk hn
    have hK : KeysOf (leafKind X.prog X.w) es := fun en hen => by
      obtain ⟨x, t, e1, e2⟩ := hke en hen
      exact ⟨.text x, by rw [e1]; show Value.isStrOf x (.str x t) = true; simp [Value.isStrOf], e2⟩
    refine set_new (hv := (leafKind X.prog X.w).hash k) ho hc hdt (by omega) ?_ ?_ (fun h' t q1 q2 => fin h' t q1 q2)
    · intro _ E' s' Q' _ _ hq
      exact (leafKind X.prog X.w).pyHash hk (hq _)
    · intro E' s' Q' hs hq
      refine wpAny_dictFind_of (knd := leafKind X.prog X.w) hk (by rw [hs]; exact ho) hdt hK ?_
      have : (es.findIdx? fun e => (leafKind X.prog X.w).is k e.key) = none := by
        rw [Array.findIdx?_eq_none_iff]
        intro en hen
        obtain ⟨x, t, e1, _⟩ := hke en hen
        rw [e1]
        cases k with
        | none => rfl
        | num i => rfl
        | text z => exact (hn z rfl).elim
      rw [this]
      exact hq
  refine wpAny_bind ?_
  have done : wpAny (model X.prog X.w) A.in1 (dictSet a u r) (fun _ s' => Q () s') E s := by
    rcases hk with rfl | ⟨b, rfl⟩ | ⟨b, ks, rfl, hb⟩
    · obtain rfl : u = Value.none := ry
      exact leaf .none rfl (fun x h => nomatch h)
    · obtain rfl : u = Value.bool b := ry
      exact leaf (.num (if b = true then 1 else 0)) (by cases b <;> rfl) (fun x h => nomatch h)
    · obtain rfl : u = Value.ref b := ry
      have hkey := key_of I.hok hb
      refine set_new (hv := (tupleKind (mixKind X.prog X.w)).hash ks) ho hc hdt (by omega) ?_ ?_ (fun h' t q1 q2 => fin h' t q1 q2)
      · intro _ E' s' Q' hs _ hq
        exact (tupleKind (mixKind X.prog X.w)).pyHash (tupleKind_room_in1 hu) (by rw [hs]; exact hkey) (hq _)
      · intro E' s' Q' hs hq
        exact TupKey.find (a := b) (d := a) (ks := ks) (es := es) (ep := ep) ⟨by rw [hs]; exact hkey, ⟨o, by rw [hs]; exact ho, hdt⟩, ht⟩ (tupleKind_room_in1 (knd := mixKind X.prog X.w) hu) hq
  refine wpAny_mono done (fun _ s' q => ?_) fun _ _ q => ?_
  · exact wpAny_pure ⟨.none, rfl, wpAny_pure q⟩
  · exact q
end
end Nt
namespace Nt
open PySem PySem.Spec PyProof.Rows L2
section
variable {X : Cx}
/-- d[k] = v, whatever key: the dict stays one of ints and texts, or its size alone is known -/
def DPutM (H : Hp) (a : Addr) (y v : V) (H' : Hp) : Prop := DPut H a y v H' ∨ ∃ kvs, H a = some (.dK kvs) ∧ (∀ p ∈ kvs, ∃ x, p.1 = Sum.inr x) ∧ OddKey H y ∧ kvs.length < sizeLine ∧ H' = upd H a (dMix a (kvs.length + 1))
def sDPutM (td ty tv : TE) : TS := fun D σ H => tv σ H fun v H1 => td σ H1 fun x H2 => ty σ H2 fun y H3 => ∃ a H4, x = .ref a ∧ DPutM H3 a y v H4 ∧ D.nx σ H4
theorem ps_dputM {o i : Expr} {pos' pos : Pos} {value : Expr} {td ty tv : TE} (hu : X.A.units + 1 < cLine) (ho : PE X o td) (hi : PE X i ty) (hv : PE X value tv) (hs : swapsWith value (some (.Subscript o i pos')) pos.line X.env = pure false) :
    PS X (.Assign [.Subscript o i pos'] value pos) (sDPutM td ty tv) := by
  refine ⟨fun pins s σ H D I h => wpAny_Assign_Subscript (thn (hv.run pins s σ H _ I h) fun r s1 ⟨v, H1, I1, rv, k1⟩ => ?_) hs⟩
  refine thn (ho.run pins s1 σ H1 _ I1 k1) fun u s2 ⟨x, H2, I2, rx, k2⟩ => thn (hi.run pins s2 σ H2 _ I2 k2) fun iv s3 ⟨y, H3, I3, ry, a, H4, ex, g, q3⟩ => ?_
  rw [ex] at rx
  cases rx
  rcases g with g | ⟨kvs, e, hx, hk, hl, rfl⟩
  · exact d_setItem hu I3 g ry rv fun s4 I4 => ⟨σ, H4, I4, q3⟩
  · exact set_odd hu I3 e hx hk ry rv hl fun s4 I4 => ⟨σ, _, I4, q3⟩
/-- isinstance(x, c), x a dict of which the size is known -/
def qIsiM : List V → Hp → VK → Prop := fun xs H Q => qIsi xs H Q ∨ ∃ (a : Addr) (n : Nat) (c : String) (b : Bool), xs = [.ref a, .ty c] ∧ H a = some (dMix a n) ∧ kitB "dict" c = some b ∧ Q (.bl b) H
theorem cq_isiM : CallR X (.builtin "isinstance") qIsiM := by
  intro pins s σ H xs us Q I r h
  rcases h with h | ⟨a, n, c, b, rfl, ha, hk, q⟩
  · exact cq_isi pins s σ H xs us Q I r h
  · obtain ⟨u1, u2, rfl, r1, r2⟩ := vals2 r
    obtain rfl : u1 = .ref a := r1
    obtain rfl : u2 = .type c := r2
    obtain ⟨⟨_, o, es, ep, h1, h2, _⟩, _⟩ := (show ObjOk X.prog X.w H s.heap a (dMix a n) from I.hok a _ ha)
    exact PySem.W.kia_one (PySem.W.kitx_dict (K := X.K)) I.kIn ⟨o, h1, h2.1⟩ (kit_ty hk) (fun z => nomatch z) fun tk => ⟨.bl b, H, I.tok tk, rfl, q⟩
def qLenM : List V → Hp → VK → Prop := fun xs H Q => (∃ a kvs, xs = [V.ref a] ∧ H a = some (.dK kvs) ∧ Q (.int kvs.length) H) ∨ ∃ a n, xs = [V.ref a] ∧ H a = some (dMix a n) ∧ Q (.int n) H
theorem cq_lenM : CallR X (.builtin "len") qLenM := by
  intro pins s σ H xs us Q I r h
  rcases h with h | ⟨a, n, rfl, ha, q⟩
  · exact call_lenD pins s σ H xs us Q I r h
  · obtain ⟨u, rfl, ru⟩ := vals1 r
    obtain rfl : u = .ref a := ru
    obtain ⟨⟨h0, o, es, ep, h1, h2, h3, h4, h5⟩, _⟩ := (show ObjOk X.prog X.w H s.heap a (dMix a n) from I.hok a _ ha)
    have small := sizeLine_eq
    exact call_len_slot (n := (n : Int)) ⟨o, h1, h2.1⟩ PySem.F.slot_dict_len (fun Q' q' => call_len_raw h0 ⟨o, h1, h2, h3⟩ (by rw [h4]; exact q')) (by omega) (by omega) ⟨.int n, H, I.tok _, ⟨_, rfl⟩, q⟩
/-! calls of instances -/
theorem Good.fnR {P : Program} {w : World} {K : PySem.W.Frag} {mg : Str → Option Value} {base : Heap} {CX : CXT} {k : Nat} {f : Addr} {ps : List Str} {sp : Sp} (g : Good P w K mg base CX k f ps sp) : FnR P w K mg base CX k f sp := by
  obtain ⟨⟨fd, F, hb⟩, _⟩ := g
  exact (F.raw hb .nil).imp fun vs H Q E h => by rw [List.append_nil]; exact h
theorem pe_callI {k : Nat} {f C : Addr} {ps : List Str} {sp : Sp} {fe e : Expr} {es : List Expr} {tf : TE} {t : TA} {pos : Pos} (g : Good X.prog X.w X.K X.mg X.base CX0 k f ps sp) (hr : Room k X.A) (hf : PE X fe tf) (M : Meth X.K C "__call__" f) (hfi : PySem.W.fnIn X.K f = true) (ha : PA X (e :: es) t)
    (ht : eval (.Call fe (e :: es) [] pos) X.env = (eval fe X.env >>= fun v => callWith pos v [] (backTo pos (starEach (e :: es) X.env)) (backToKw pos (keywordEach [] X.env))) := by rfl)
    (he : starEach (e :: es) X.env = (false, eval e X.env) :: starEach es X.env := by rfl) (hpl : (backTo pos (starEach es X.env)).any (·.1) = false := by rfl) : PE X (.Call fe (e :: es) [] pos) (StX.tCallO X C sp E0 tf t) :=
  StX.pe_callO hf ⟨M.at_, M.fn, hfi⟩ g.fnR hr pass0 ha ht he hpl
theorem w_callI {C : Addr} {sp : Sp} {tf : TE} {t : TA} {σ : L2.St} {H : Hp} {Q : VK} (k : tf σ H fun y H1 => ∃ a, y = V.ref a ∧ t σ H1 fun vs H2 => StX.InsC X H2 a C ∧ sp (V.ref a :: vs) H2 Q E0) : StX.tCallO X C sp E0 tf t σ H Q := k
theorem fnIn_of {K : PySem.W.Frag} {x qual : Str} {params : Arguments} {body : List Stmt} {scope : Scope} {dvs : List V} {kws : List (Str × V)} {f : Addr} {fd : FuncData} (F : FunD K x qual params body scope dvs kws f fd) : PySem.W.fnIn K f = true := by
  obtain ⟨oc, od, dV, kV, doc, pm, an, cdv, ct, osl, rfl, lk, _⟩ := F.ex
  unfold PySem.W.fnIn
  rw [lk]
end
end Nt
/-! list(a text). -/
namespace Nt
open PySem PySem.Spec PyProof.Rows L2
section
variable {prog : Program} {w : World} {x : Str} {t : Tok} {A : Around} {E : Value → Shared → Prop} {s : Shared}
/-- a text has no length that list() would ask for -/
theorem text_mute {Q : Bool → Shared → Prop} (h : Q false s) : wpAny (model prog w) A (Builtin.List.listLengthHint (.str x t)) Q E s := by
  have ty : s.TypeIs (.str x t) "str" := rfl
  unfold Builtin.List.listLengthHint
  refine wpAny_bind (wpAny_specialOf ty PySem.F.slot_str_len.lookup ?_)
  generalize named : ("str.__len__" : String) = id
  wp_delta
  rw [show splitId id = some ("str", "__len__") by rw [← named]; decide +kernel]
  refine wpAny_bind (wpAny_isInstance (T := "str") (b := true) ty (by rw [isSubtype_type]; kernel_rfl) ?_)
  refine wpAny_ite_split (fun no => absurd no (by decide)) fun _ => wpAny_ite_split (fun _ => wpAny_bind (wpAny_typeOf ty (wpAny_pure h))) fun no => absurd (by rw [← named]; decide +kernel) no
/-- the object at S is a list of the text's signs, the rest of the heap h stands -/
def Filled (S : Addr) (x : Str) (h h' : Heap) : Prop := (∀ b o, b ≠ S → h.get? b = some o → h'.get? b = some o) ∧ ∃ its c, h'.get? S = some { cls := .type "list", dict := none, data := .seq its c, slots := #[] } ∧ ItemsOf (SignAt x) its x.cps.size
theorem fill_text (hn : x.cps.size ≤ sizeLine) (calm : A.handled = none) {S : Addr} {c : Nat} {res : Value} {R : Result → Shared → Prop} (hS : s.heap.get? S = some { cls := .type "list", data := .seq #[] c }) (fin : ∀ h' k, Filled S x s.heap h' → R (.ok (.ret res)) { s with heap := h', toks := k }) :
    wpAny (model prog w) A.in1 (Builtin.List.listExtendWith (.ref S) (.str x t) res) (fun f s' => match f with | .done x => R (.ok x) s' | .again c' => c'.quiet = true ∧ codeAny (model prog w) A c' R s') (fun e s' => R (.error e) s') s := by
  have ty : s.TypeIs (.str x t) "str" := rfl
  have apart : S ∉ [s.heap.objs.size] := by simpa using Nat.ne_of_lt (Heap.lt_size hS)
  unfold Builtin.List.listExtendWith
  refine wpAny_bind (wpAny_typeOf ty ?_)
  rw [show Builtin.List.listSameRef (.ref S) (.str x t) = false from rfl, show (Value.type "str" == Value.type "list") = false by decide, show (Value.type "str" == Value.type "tuple") = false by decide]
  refine wpAny_bind (wpAny_pyIter_str fun o St go st => wpAny_bind (wpAny_holding (text_mute ?_)))
  rw [if_neg (by first | decide | decide +kernel)]
  refine wpAny_pure ⟨plainId_quiet PySem.F.plain_extend_loop _, ?_⟩
  refine codeAny_extend_loopS (go A.in1 calm).toS hn S apart res x.cps.size 0 _ _ c rfl (Nat.zero_le _) st (Heap.get?_push_of_some o hS) (ItemsOf.nil _) fun s' its c' moved there items => ?_
  rw [Moved.eq_with moved]
  have f : Filled S x s.heap s'.heap := ⟨fun b ob ne e => moved.heap b ob (by simpa [ne] using Nat.ne_of_lt (Heap.lt_size e)) (Heap.get?_push_of_some o e), its, c', there, items⟩
  exact fin s'.heap s'.toks f
theorem list_text (hn : x.cps.size ≤ sizeLine) (calm : A.handled = none) {Q : Value → Shared → Prop} (fin : ∀ h' k, (∀ b o, s.heap.get? b = some o → h'.get? b = some o) → Filled s.heap.objs.size x s.heap h' → Q (.ref s.heap.objs.size) { s with heap := h', toks := k }) :
    wpAny (model prog w) A (call (.type "list") [.str x t]) Q E s := by
  obtain ⟨nw, hnw⟩ : ∃ nw : Obj, nw = { cls := .type "list", data := .seq #[] } := ⟨_, rfl⟩
  have there : (s.heap.push nw).get? s.heap.objs.size = some nw := Heap.get?_push_size _ (by rw [hnw]; rfl)
  refine callType_codes (Q₁ := fun r s1 => r = .ref s.heap.objs.size ∧ s1 = { s with heap := s.heap.push nw }) PySem.F.called_list (PySem.F.typeCall_list_1 _) PySem.F.entry_list_init (code_list_new _ ⟨rfl, by rw [hnw]⟩) fun r s1 ⟨er, es⟩ => ?_
  rw [er, es]
  rw [hnw] at there
  have emptied := Heap.get?_update_self (Obj.mapSeq fun _ => (#[] : Array Value)) there rfl
  refine ⟨⟨_, by rw [hnw]; exact there, rfl⟩, PySem.F.args_list_init_2 _ _, ?_⟩
  rw [hnw]
  unfold Builtin.«list.__init__» Builtin.List.listItems
  refine wpAny_bind (wpAny_bind (wpAny_seqItems there rfl (wpAny_pure ?_)))
  refine wpAny_bind (wpAny_updateSeq there rfl (wpAny_bind (wpAny_letGo ?_)))
  show wpAny _ _ (Builtin.List.listExtendWith (.ref s.heap.objs.size) (.str x t) .none) _ _ _
  refine fill_text (A := A.in1) (S := s.heap.objs.size) (c := 0) hn calm ?_ fun h' t f => ?_
  · exact emptied
  have stand : ∀ b o, b ≠ s.heap.objs.size → s.heap.get? b = some o → h'.get? b = some o := fun b o ne e => f.1 b o ne ((Heap.get?_update_other _ _ (Ne.symm ne)).trans (Heap.get?_push_of_some _ e))
  exact ⟨rfl, fin h' t (fun b o e => stand b o (Nat.ne_of_lt (Heap.lt_size e)) e) ⟨stand, f.2⟩⟩
end
section
variable {X : Cx}
theorem cq_listS (hc : X.calm = true) : CallR X (.type "list") (fun xs H Q => ∃ b : Str, xs = [.str b] ∧ (sl b).length ≤ sizeLine ∧ ∀ q, H q = none → Q (.ref q) (upd H q (.lst ((sl b).map fun c => V.str (ch c))))) := by
  rintro pins s σ H xs us Q I r ⟨b, rfl, hz, q⟩
  obtain ⟨u, rfl, ru⟩ := vals1 r
  obtain ⟨t, rfl⟩ := ru
  have size : b.cps.size = (sl b).length := by simp
  refine list_text (by omega) (I.ok.hd hc) fun h' t' old ⟨_, its, c, there, len, items⟩ => ?_
  have vals : Vals ((sl b).map fun c => V.str (ch c)) its.toList := vals_of_idx _ _ (by simpa using len) fun j u hj => by
    obtain ⟨c, t2, hc, rfl⟩ := items j u (by simpa using hj)
    exact ⟨.str (ch c), by simp [hc], ⟨_, rfl⟩⟩
  exact ⟨.ref s.heap.objs.size, _, I.laid (o := .lst ((sl b).map fun c => V.str (ch c))) old (Nat.le_refl _) ⟨by simpa using hz, its.toList, c, vals, by simpa using there⟩, rfl, q _ (I.hok.fresh (Nat.le_refl _))⟩
end
end Nt
/-! C(..) that may raise, in a try; several clauses 'except X as e'. -/
namespace Nt
open PySem PySem.Spec PyProof.Rows L2
/-! ### an instance whose making may raise -/
section
variable {X : Cx} {CX : CXT} {k : Nat} {f C : Addr} {ps : List Str} {sp : Sp} {E : L2.St → XK} {x : Str} {p pos : Pos} {e : Expr} {es : List Expr} {t : TA}
def tMakeS (C : Addr) (sp : Sp) (E : L2.St → XK) (t : TA) : TE := fun σ H Q => t σ H fun vs H1 => ∀ o dx, H1 o = none → H1 dx = none → dx ≠ o → sp (.ref o :: vs) (upd (upd H1 dx (.own o)) o (.ins C dx [])) (fun v H2 => v = .non ∧ Q (.ref o) H2) (E σ)
theorem pe_makeS (M : Mk X.K C f) (g : Good X.prog X.w X.K X.mg X.base CX k f ps sp) (hr : Room (k + 1) X.A) (hg : Gl X x) (hm : X.mg x = some (.ref C)) (hx : ∀ σ, PassesAt CX X σ (E σ)) (ha : PA X (e :: es) t)
    (hdb : (x == ("__debug__" : Str)) = false := by decide) (he : starEach (e :: es) X.env = (false, eval e X.env) :: starEach es X.env := by rfl) (hpl : (backTo pos (starEach es X.env)).any (·.1) = false := by rfl) :
    PE X (.Call (.Name x p) (e :: es) [] pos) (tMakeS C sp E t) := by
  refine ⟨fun pins s σ H Q I h => wpAny_Call_Name_kw (ld_glob I hg hm (PySem.W.callWith_K (h₀ := X.base) I.ok.mod.kin M.kp (thn (ha.run pos pins s σ H _ I h) fun us s1 ⟨vs, H1, I1, r, want⟩ => ⟨I1.kIn, ?_⟩) he hpl) hdb)⟩
  have N := Inv.made (C := C) I1
  have due := want (s1.heap.objs.size + 1) s1.heap.objs.size (I1.hok.fresh (Nat.le_succ _)) (I1.hok.fresh (Nat.le_refl _)) (Nat.ne_of_lt (Nat.lt_succ_self _))
  have ran := g.fnR _ X.stack _ _ (.ref (s1.heap.objs.size + 1) :: us) (.ref (s1.heap.objs.size + 1) :: vs) _ (E σ) (hr.make C us []) (N.env0.make C us []) (.cons rfl r) due
  refine wpAny_call (make_map (f := f) I1.kIn M.makes M.init (beq_iff_eq.mp M.fn) (codeAny_mono ran fun r s2 h2 => ?_))
  rcases r with er | fl
  · exact hx σ pins _ _ er s2 N h2
  · cases fl <;> try exact h2.elim
    obtain ⟨v, H2, I2, rv, ev, q⟩ := N.after h2
    rw [ev] at rv
    exact ⟨rv, .ref (s1.heap.objs.size + 1), H2, I2, rfl, q⟩
theorem w_makeS {σ : L2.St} {H : Hp} {Q : VK} (k : t σ H fun vs H1 => ∀ o dx, H1 o = none → H1 dx = none → dx ≠ o → sp (.ref o :: vs) (upd (upd H1 dx (.own o)) o (.ins C dx [])) (fun v H2 => v = .non ∧ Q (.ref o) H2) (E σ)) : tMakeS C sp E t σ H Q := k
/-- where it does not raise -/
theorem pe_makeL (M : Mk X.K C f) (g : Good X.prog X.w X.K X.mg X.base (L2.CX X.prog X.w) k f ps sp) (hr : Room (k + 1) X.A) (hg : Gl X x) (hm : X.mg x = some (.ref C)) (ha : PA X (e :: es) t)
    (hdb : (x == ("__debug__" : Str)) = false := by decide) (he : starEach (e :: es) X.env = (false, eval e X.env) :: starEach es X.env := by rfl) (hpl : (backTo pos (starEach es X.env)).any (·.1) = false := by rfl) :
    PE X (.Call (.Name x p) (e :: es) [] pos) (StX.tMakeR C sp E0 t) := StX.pe_makeR M g.fnR hr hg hm passL ha hdb he hpl
theorem w_makeR {σ : L2.St} {H : Hp} {Q : VK} (k : t σ H fun vs H1 => ∀ o dx, H1 o = none → H1 dx = none → dx ≠ o → sp (.ref o :: vs) (upd (upd H1 dx (.own o)) o (.ins C dx [])) (fun v H2 => v = .non ∧ Q (.ref o) H2) E0) : StX.tMakeR C sp E0 t σ H Q := k
end
/-! ### clauses -/
/-- an exception that was caught at a, as the clauses find it -/
structure Caught (X : Cx) (pins : List (Addr × Obj)) (σ : L2.St) (H : Hp) (cls : Value) (d : Option Addr) (a : Addr) (s : Shared) : Prop where
  inv : L2.Inv X pins σ H s
  free : H a = none
  nl : a ≠ X.env.locals
  nf : a ∉ X.fs
  fly : ∃ B, HandSPX.FlyingZ B (X.env :: X.outer) a (Zc cls d) s.heap ∧ (∀ h', B.StaysIn h' → s.heap.UpToSlots h' → L2.Inv X pins σ H { s with heap := h' }) ∧
    ∀ h' W, HandSPX.HeldZ B (X.env :: X.outer) a (Zc cls d) X.env.locals h' → s.heap.UpToSlots h' → W cls d σ H → XE X W (.ref a) { s with heap := h' }
section
variable {X : Cx} {pins : List (Addr × Obj)} {σ : L2.St} {H : Hp} {cls : Value} {d : Option Addr} {a : Addr} {s : Shared} {D : Ends} {Wout : WX}
theorem Caught.obj (c : Caught X pins σ H cls d a s) : ∃ oe, s.heap.get? a = some oe ∧ Zc cls d oe ∧ ∃ vs, oe.data = .fields vs := by
  obtain ⟨B, fl, _⟩ := c.fly
  obtain ⟨oe, vs, h1, h2, h3⟩ := fl.there
  exact ⟨oe, h1, h2, vs, h3⟩
/-- what is in the air over X lands -/
theorem land {W : WX} {xe : Value → Shared → Prop} {u : Value} {E' : Value → Shared → Prop} {Q : Unit → Shared → Prop} (ok : X.Ok) (hs : X.stack = X.env :: X.outer) (hf : X.env.frame = some X.env.locals) (x : XE (X.tr (X.pn ++ pins) xe) W u s)
    (k : ∀ a cls d σ H s', u = .ref a → Caught X pins σ H cls d a s' → W cls d σ H → Q () s') : wpAny (model X.prog X.w) X.A (noteFrame u X.env) (fun _ s2 => wpAny (model X.prog X.w) X.A (setFlight u none) Q E' s2) E' s := by
  obtain ⟨a, B, sI, p', σ, H, cls, d, rfl, J', keep, up, sky, free, os, ag, w⟩ := x
  have J : L2.Inv X pins σ H sI := J'.ofTry ok
  have st : (X.tr (X.pn ++ pins) xe).stack = X.env :: X.outer := hs
  rw [st] at sky
  refine Sky.land Zc.steady (ok.frames.trans (congrArg some hs)) hf sky fun h fl up2 => ?_
  refine k a cls d σ H _ rfl ⟨J.landed keep fl.1 (up.trans up2) os ag, free, ?_, ?_, B, fl, fun h' stays up3 => J.landed keep stays ((up.trans up2).trans up3) os ag, fun h' W' held up3 w' => ?_⟩ w
  all_goals try (
    obtain ⟨oe, vs, h1, _, h3⟩ := fl.there
    have none_of : ∀ en ∈ X.env :: X.outer, en.frame ≠ some a := fun en hen z => by
      obtain ⟨_, o, e, nofields⟩ := fl.2.2.1.mem (List.mem_filterMap.mpr ⟨en, hen, z⟩)
      rw [h1] at e
      cases e
      exact nofields vs h3)
  · intro z
    exact none_of X.env List.mem_cons_self (by rw [hf, z])
  · intro z
    obtain ⟨en, hen, q⟩ := List.mem_filterMap.mp z
    exact none_of en (List.mem_cons_of_mem _ hen) q
  · exact ⟨a, B, sI, pins, σ, H, cls, d, rfl, J, keep, (up.trans up2).trans up3, .inr (.inr (by rw [hs]; exact held)), free, os, ag, w'⟩
/-- behind a suite its name is gone -/
def gone (i : Nat) (D : Ends) : Ends := ⟨fun τ G => D.nx (τ.set i none) G, D.rt, fun τ G => D.bk (τ.set i none) G, fun τ G => D.ct (τ.set i none) G⟩
abbrev Suite : Type := Addr → Value → Option Addr → TS
def wMAs (K : PySem.W.Frag) (Wout : WX) (D : Ends) : List (Value × Nat × Suite) → WX
  | [] => Wout
  | (c, i, ts) :: r => fun cls d σ H => ∃ b, PySem.W.exmOne K cls c = some b ∧ if b = true then ∀ a, H a = none → ts a cls d (gone i D) (σ.set i (some (.ref a))) H else wMAs K Wout D r cls d σ H
inductive HdsAs (X : Cx) : List ExceptHandler → List (Value × Nat × Suite) → Prop
  | nil : HdsAs X [] []
  | cons {x n : Str} {i : Nat} {c : Value} {ts : Suite} {b₀ : Stmt} {suite : List Stmt} {np sp : Pos} {hds : List ExceptHandler} {l : List (Value × Nat × Suite)} (hi : X.N[i]? = some n) (hl : X.env.kindOf n = some .local) (hc : Names X x c)
      (run : ∀ (a : Addr) (oe : Obj) (cls : Value) (d : Option Addr) (pn : List (Addr × Obj)), Zc cls d oe → (∃ vs, oe.data = .fields vs) → PSs (X.suite a ((a, oe) :: pn)) (b₀ :: suite) (ts a cls d)) (r : HdsAs X hds l) :
      HdsAs X (.ExceptHandler (some (.Name x np)) (some n) (b₀ :: suite) sp :: hds) ((c, i, ts) :: l)
/-- no clause is left: it goes on -/
theorem Caught.on (c : Caught X pins σ H cls d a s) (hf : X.env.frame = some X.env.locals) (tk : Takes X Wout) (w : Wout cls d σ H) : wpAny (model X.prog X.w) X.A (handleBy (.ref a) X.env []) (SP X pins D) X.xe s := by
  obtain ⟨B, fl, _, again⟩ := c.fly
  have ⟨_, _, _, oe, vs, T, _, _, h1, _, h3, h4, _⟩ := id fl
  refine wpAny_handleBy_nil ?_
  unfold PySem.passOn
  refine wpAny_bind (wpAny_field h1 h3 h4 ?_)
  rw [if_neg (by simp), hf]
  have up : wpAny (model X.prog X.w) X.A (setFlight (.ref a) (some X.env.locals)) (fun _ s4 => wpAny (model X.prog X.w) X.A (throw (.ref a) : Sem Flow) (SP X pins D) X.xe s4) X.xe s := HandSPX.setFlight_upZ fl fun h' held u => wpAny_throw (tk _ _ (again h' Wout held u w))
  first
    | exact wpAny_bind up
    | exact wpAny_bind (wpAny_pure (wpAny_bind up))
theorem clauses (ok : X.Ok) (hN : X.N.Nodup) (hf : X.env.frame = some X.env.locals) (tk : Takes X Wout) {hds : List ExceptHandler} {l : List (Value × Nat × Suite)} (hh : HdsAs X hds l) :
    ∀ {s : Shared}, Caught X pins σ H cls d a s → wMAs X.K Wout D l cls d σ H → wpAny (model X.prog X.w) X.A (handleBy (.ref a) X.env hds) (SP X pins D) X.xe s := by
  induction hh with
  | nil => exact fun c w => c.on hf tk w
  | @cons x n i C ts b₀ suite np sp hds l hi hl hc run _ ih =>
    intro s c ⟨b, hb, w⟩
    obtain ⟨oe, h1, hz, vs, h3⟩ := c.obj
    have S := c.inv.suite h1 h3 c.free c.nl c.nf
    have kind : PySem.W.Looks (model X.prog X.w) s.heap (typeOf (.ref a)) cls := fun A Q E t k q => wpAny_typeOf_ref (k _ _ h1) (by rw [hz.1]; exact q)
    have meet := PySem.W.exm_one (M := model X.prog X.w) c.inv.kIn kind hb
    refine wpAny_handleBy_cons (codeAny_handlers_test ?_) (fun q => nomatch q)
    have named : ∀ {Q : Value → Shared → Prop} {F : Value → Shared → Prop}, Q C s → wpAny (model X.prog X.w) (X.A.mark (some (.ref a))) (eval (.Name x np) X.env) Q F s := fun q => by
      rcases hc with ⟨g, nd, m | ⟨m, v, nn⟩⟩
      · exact ld_glob (X := X.suite a ((a, oe) :: (X.pn ++ pins))) S g m q nd
      · exact ld_blt (X := X.suite a ((a, oe) :: (X.pn ++ pins))) S g m v q nn nd
    refine named (meet.here ?_)
    cases b with
    | false => exact ih c w
    | true =>
      obtain ⟨B, fl, stay, _⟩ := c.fly
      refine codeAny_handlers_suite_as (HandSPX.lands_againZ fl fun h4 fl4 up4 => ?_)
      obtain ⟨o4, v4, e4, z4, d4⟩ := fl4.there
      refine store_ok (X := X.suite a ((a, o4) :: (X.pn ++ pins))) (v := .ref a) ((stay h4 fl4.1 up4).suite e4 d4 c.free c.nl c.nf) hN hi (.inl hl) rfl (fun s5 I5 => ?_) (.inr hl)
      refine wpAny_mono ((run a o4 cls d (X.pn ++ pins) z4 ⟨_, d4⟩).run [] s5 _ H _ I5 (w a c.free)) (fun f s6 out => ?_) fun _ _ z => z.elim
      have off : ∀ {τ : L2.St} {G : Hp} {Q : Shared → Prop}, L2.Inv (X.suite a ((a, o4) :: (X.pn ++ pins))) [] τ G s6 → (∀ s7, L2.Inv X pins (τ.set i none) G s7 → Q s7) →
          wpAny (model X.prog X.w) X.A (do bindName X.env n .none; unbindBehindTheSuite X.env n sp) (fun _ s7 => Q s7) X.xe s6 := fun I6 q => gone_ok (I6.unsuite ok) hN hi hl q
      cases f with
      | ret u => have ⟨v, τ, G, I6, rv, q⟩ := out; exact off I6 fun s7 I7 => ⟨v, _, G, I7, rv, q⟩
      | next => have ⟨τ, G, I6, q⟩ := out; exact off I6 fun s7 I7 => ⟨_, G, I7, q⟩
      | brk => have ⟨τ, G, I6, q⟩ := out; exact off I6 fun s7 I7 => ⟨_, G, I7, q⟩
      | cont => have ⟨τ, G, I6, q⟩ := out; exact off I6 fun s7 I7 => ⟨_, G, I7, q⟩
end
section
variable {X : Cx} {body : List Stmt} {h₀ : ExceptHandler} {hds : List ExceptHandler} {l : List (Value × Nat × Suite)} {pos : Pos} {tb : WX → TS} {Wout : WX}
theorem ps_try_mas (hs : X.stack = X.env :: X.outer) (hf : X.env.frame = some X.env.locals) (hN : X.N.Nodup) (tk : Takes X Wout)
    (hb : ∀ (W : WX) (pn : List (Addr × Obj)) (xe : Value → Shared → Prop), Takes (X.tr pn xe) W → PassesOwn (model X.prog X.w) X.A X.env xe → PSs (X.tr pn xe) body (tb W)) (hh : HdsAs X (h₀ :: hds) l) :
    PS X (.Try body (h₀ :: hds) [] [] pos) (fun D σ H => tb (wMAs X.K Wout D l) D σ H) := by
  refine ⟨fun pins s σ H D I h => wpAny_Try_except ?_⟩
  have ok := I.ok
  have heard : ∀ xe : Value → Shared → Prop, (xe = fun u t => wpAny (model X.prog X.w) X.A (noteFrame u X.env) (fun _ t2 => wpAny (model X.prog X.w) X.A (setFlight u none) (fun _ t3 => wpAny (model X.prog X.w) X.A (handleBy u X.env (h₀ :: hds)) (SP X pins D) X.xe t3) X.xe t2) X.xe t) →
      Takes (X.tr (X.pn ++ pins) xe) (wMAs X.K Wout D l) := fun xe hxe u s' x => by
    have y : wpAny (model X.prog X.w) X.A (noteFrame u X.env) (fun _ t2 => wpAny (model X.prog X.w) X.A (setFlight u none) (fun _ t3 => wpAny (model X.prog X.w) X.A (handleBy u X.env (h₀ :: hds)) (SP X pins D) X.xe t3) X.xe t2) X.xe s' := land (pins := pins) ok hs hf x fun a cls d σ H s3 e c w => by
      rw [e]
      exact clauses ok hN hf tk hh c w
    show xe u s'
    rw [hxe]
    exact y
  refine wpAny_mono ((hb (wMAs X.K Wout D l) (X.pn ++ pins) _ (heard _ rfl) PassesOwn.looking).run [] s σ H D (I.toTry _) h) (fun f s1 out => ?_) fun _ _ z => z
  cases f with
    | next => have ⟨τ, G, J, q⟩ := out; exact wpAny_execs_nil ⟨τ, G, J.ofTry ok, q⟩
    | ret u => have ⟨v, τ, G, J, rv, q⟩ := out; exact ⟨v, τ, G, J.ofTry ok, rv, q⟩
    | brk => have ⟨τ, G, J, q⟩ := out; exact ⟨τ, G, J.ofTry ok, q⟩
    | cont => have ⟨τ, G, J, q⟩ := out; exact ⟨τ, G, J.ofTry ok, q⟩
end
end Nt
/-! Cells that show cells of another band: pictures of rows, sign by sign. -/
namespace Nt
open PySem PySem.Spec PyProof.Rows L2
def pcC (tb : Str) (c : Nat) : Nat := if c = 46 then 46 else (sl tb).getD (c - 48) 46
def pcL (sh : List (Nat × Str)) (l : List Nat) : List Nat := sh.map fun p => pcC p.2 (l.getD p.1 46)
def pcS (sh : List (Nat × Str)) (r : Str) : Str := mkS (pcL sh (sl r))
/-- what is shown where, by which table -/
structure ShOk (cs cs' : Cells) (sh : List (Nat × Str)) : Prop where
  len : sh.length = cs'.length
  pl : ∀ p ∈ sh, p.1 < cs.length
  tb : ∀ (k : Nat) (p : Nat × Str) (c c' : Str × Nat), sh[k]? = some p → cs[p.1]? = some c → cs'[k]? = some c' → (sl p.2).length = c.2 ∧ ∀ x ∈ sl p.2, 48 ≤ x ∧ x < 48 + c'.2
section
variable {cs cs' : Cells} {sh : List (Nat × Str)}
theorem getD_at {l : List Nat} {i : Nat} (h : i < l.length) : l[i]? = some (l.getD i 46) := by
  rw [List.getD_eq_getElem?_getD, List.getElem?_eq_getElem h]; rfl
theorem pc_sg (S : ShOk cs cs' sh) {l : List Nat} (hl : RwL cs l) {k : Nat} {p : Nat × Str} {c' : Str × Nat} (hp : sh[k]? = some p) (hc : cs'[k]? = some c') : SgOk c'.2 (pcC p.2 (l.getD p.1 46)) ∧ (l.getD p.1 46 ≠ 46 → pcC p.2 (l.getD p.1 46) ≠ 46 ∧ l.getD p.1 46 - 48 < (sl p.2).length) := by
  have hpl := S.pl p (mem_of_get hp)
  have hk := List.getElem?_eq_getElem hpl
  obtain ⟨t1, t2⟩ := S.tb k p _ c' hp hk hc
  have hg := getD_at (l := l) (i := p.1) (by rw [hl.1]; exact hpl)
  have sg := hl.2 p.1 _ _ hg hk
  unfold pcC
  split
  · rename_i e
    exact ⟨.inl rfl, fun n => (n e).elim⟩
  · rename_i e
    have h1 := sg.resolve_left e
    have hlt : l.getD p.1 46 - 48 < (sl p.2).length := by rw [t1]; omega
    have hm : (sl p.2).getD (l.getD p.1 46 - 48) 46 ∈ sl p.2 := mem_of_get (getD_at hlt)
    have := t2 _ hm
    exact ⟨.inr this, fun _ => ⟨by omega, hlt⟩⟩
theorem pcL_row (S : ShOk cs cs' sh) {l : List Nat} (hl : RwL cs l) : RwL cs' (pcL sh l) := by
  refine ⟨by unfold pcL; rw [List.length_map, S.len], fun i c k h hk => ?_⟩
  unfold pcL at h
  rw [List.getElem?_map] at h
  obtain ⟨p, hp, rfl⟩ := Option.map_eq_some_iff.mp h
  exact (pc_sg S hl hp hk).1
theorem pcS_row (S : ShOk cs cs' sh) {r : Str} (h : RowOk cs r) : RowOk cs' (pcS sh r) := by
  show RwL cs' (sl (mkS _))
  rw [sl_mk]
  exact pcL_row S h
theorem pcS_blk (sh : List (Nat × Str)) (n : Nat) : pcS sh (blk n) = blk sh.length := by
  refine sl_inj ?_
  show sl (mkS (pcL sh (sl (blk n)))) = _
  rw [sl_mk, blk_sl, blk_sl]
  unfold pcL
  apply List.ext_getElem?
  intro i
  rw [List.getElem?_map, List.getElem?_replicate]
  by_cases q : i < sh.length
  · rw [List.getElem?_eq_getElem q, if_pos q]
    have e : (List.replicate n 46).getD sh[i].1 46 = 46 := by
      rw [List.getD_eq_getElem?_getD, List.getElem?_replicate]
      split <;> rfl
    show some (pcC _ _) = _
    rw [e]
    rfl
  · rw [List.getElem?_eq_none (by omega), if_neg q]; rfl
theorem pcS_ovr (S : ShOk cs cs' sh) {x y : Str} (hx : RowOk cs x) (hy : RowOk cs y) : pcS sh (ovr x y) = ovr (pcS sh x) (pcS sh y) := by
  refine sl_inj ?_
  have e1 : ∀ r, sl (pcS sh r) = pcL sh (sl r) := fun r => sl_mk _
  rw [e1, ovr_sl, ovr_sl, e1, e1]
  unfold pcL
  rw [List.zip_map', List.map_map]
  refine List.map_congr_left fun p hp => ?_
  have hpl := S.pl p hp
  obtain ⟨k, hk⟩ := List.getElem?_of_mem hp
  have hkl := lt_of_get hk
  rw [S.len] at hkl
  have hc := List.getElem?_eq_getElem hkl
  have gx := getD_at (l := sl x) (i := p.1) (by rw [hx.1]; exact hpl)
  have gy := getD_at (l := sl y) (i := p.1) (by rw [hy.1]; exact hpl)
  have e : (((sl x).zip (sl y)).map ovN).getD p.1 46 = ovN ((sl x).getD p.1 46, (sl y).getD p.1 46) := by
    have hz : ((sl x).zip (sl y))[p.1]? = some ((sl x).getD p.1 46, (sl y).getD p.1 46) := List.getElem?_zip_eq_some.mpr ⟨gx, gy⟩
    rw [List.getD_eq_getElem?_getD, List.getElem?_map, hz]
    rfl
  show pcC p.2 _ = ovN (pcC p.2 _, pcC p.2 _)
  rw [e]
  unfold ovN
  by_cases q : (sl x).getD p.1 46 = 46
  · have q2 : pcC p.2 ((sl x).getD p.1 46) = 46 := by unfold pcC; rw [if_pos q]
    simp only
    rw [if_pos q, if_pos q2]
  · have q2 := ((pc_sg S hx hk hc).2 q).1
    simp only
    rw [if_neg q, if_neg q2]
/-- the pictures of seeds tell each cell -/
theorem pics_told (S : ShOk cs cs' sh) {seeds : List Str} (hs : SeedsOk cs seeds) : ∀ j, j < cs'.length → Told (seeds.map fun s => pcL sh (sl s)) j := by
  intro j hj
  have hjs : j < sh.length := by rw [S.len]; exact hj
  have hp := List.getElem?_eq_getElem hjs
  have hpl := S.pl _ (List.getElem_mem hjs)
  obtain ⟨s, hm, c, hc, hn⟩ := hs.td _ hpl
  refine ⟨pcL sh (sl s), List.mem_map.mpr ⟨s, hm, rfl⟩, pcC sh[j].2 ((sl s).getD sh[j].1 46), by unfold pcL; rw [List.getElem?_map, hp]; rfl, ?_⟩
  have e : (sl s).getD sh[j].1 46 = c := by rw [List.getD_eq_getElem?_getD, hc]; rfl
  exact ((pc_sg S (hs.rw s hm) hp (List.getElem?_eq_getElem hj)).2 (by rw [e]; exact hn)).1
theorem pics_map (sh : List (Nat × Str)) (seeds : List Str) : seeds.map (pcS sh) = (seeds.map fun s => pcL sh (sl s)).map mkS := by rw [List.map_map]; rfl
theorem pics_ok (hc' : CellsOk cs') (S : ShOk cs cs' sh) {seeds : List Str} (hs : SeedsOk cs seeds) : SeedsOk cs' (cleanS (seeds.map (pcS sh))) := by
  rw [pics_map]
  refine seeds_ok hc' (by rw [List.length_map]; exact hs.ln) (fun l hl => ?_) (pics_told S hs)
  obtain ⟨s, hm, rfl⟩ := List.mem_map.mp hl
  exact pcL_row S (hs.rw s hm)
theorem more_ok (hc' : CellsOk cs') {xs ys : List Str} (hx : SeedsOk cs' xs) (hy : ∀ y ∈ ys, RowOk cs' y) (hl : (xs ++ ys).length ≤ 20) : SeedsOk cs' (cleanS (xs ++ ys)) := by
  have e : xs ++ ys = ((xs ++ ys).map sl).map mkS := by
    rw [List.map_map]
    conv => lhs; rw [← List.map_id (xs ++ ys)]
    exact List.map_congr_left fun x _ => (mk_sl x).symm
  rw [e]
  refine seeds_ok hc' (by rw [List.length_map]; exact hl) (fun l hl => ?_) (fun j hj => ?_)
  · obtain ⟨x, hm, rfl⟩ := List.mem_map.mp hl
    rcases List.mem_append.mp hm with z | z
    · exact hx.rw x z
    · exact hy x z
  · obtain ⟨s, hm, c, h1, h2⟩ := hx.td j hj
    exact ⟨sl s, List.mem_map.mpr ⟨s, List.mem_append_left _ hm, rfl⟩, c, h1, h2⟩
/-- rows of pictures: no more than rows -/
theorem img_le {seeds seeds' : List Str} {z z' : Str} {n : Nat} (f : Str → Str) (hz : f z = z') (hl : (itB seeds z n).length ≤ n) (hs : ∀ s' ∈ seeds', ∃ s ∈ seeds, s' = f s) (ho : ∀ s ∈ seeds, ∀ r ∈ itB seeds z n, f (ovr s r) = ovr (f s) (f r)) (m : Nat) : (itB seeds' z' m).length ≤ (itB seeds z n).length := by
  have h := itB_all (seeds := seeds') (z := z') (P := fun x => ∃ r ∈ itB seeds z n, x = f r) ⟨z, itB_first n, hz.symm⟩ (fun x hx s' hs' => by
    obtain ⟨r, hr, rfl⟩ := hx
    obtain ⟨s, hm, rfl⟩ := hs s' hs'
    exact ⟨ovr s r, itB_closed hl hr hm, (ho s hm r hr).symm⟩) m
  have := List.Nodup.length_le_of_subset (l₂ := (itB seeds z n).map f) (itB_nd m) fun x hx => by
    obtain ⟨r, hr, rfl⟩ := h x hx
    exact List.mem_map.mpr ⟨r, hr, rfl⟩
  rw [List.length_map] at this
  exact this
theorem SeedsOk.perm {cs : Cells} {seeds ss : List Str} (h : SeedsOk cs seeds) (p : ss.Perm seeds) : SeedsOk cs ss :=
  ⟨by rw [p.length_eq]; exact h.ln, fun s m => h.rw s (p.mem_iff.mp m), fun s m => h.nb s (p.mem_iff.mp m), p.nodup_iff.mpr h.nd, fun i hi => by
    obtain ⟨s, m, q⟩ := h.td i hi
    exact ⟨s, p.mem_iff.mpr m, q⟩⟩
theorem perm_le {seeds ss : List Str} {z : Str} (p : ss.Perm seeds) (h : (itB seeds z 41).length ≤ 40) : (itB ss z 41).length ≤ 40 :=
  Nat.le_trans (img_le (n := 41) id rfl (by omega) (fun s m => ⟨s, p.mem_iff.mp m, rfl⟩) (fun _ _ _ _ => rfl) 41) h
/-- a seed over nothing -/
theorem ovr_blk {x : Str} {n : Nat} (h : x.length = n) : ovr x (blk n) = x := by
  refine sl_inj ?_
  rw [ovr_sl, blk_sl]
  rw [len_sl] at h
  apply List.ext_getElem?
  intro i
  rw [List.getElem?_map]
  by_cases q : i < (sl x).length
  · have hx := List.getElem?_eq_getElem q
    have hz : ((sl x).zip (List.replicate n 46))[i]? = some ((sl x)[i], 46) := List.getElem?_zip_eq_some.mpr ⟨hx, by rw [List.getElem?_replicate, if_pos (by omega)]⟩
    rw [hz, hx]
    show some (ovN _) = _
    unfold ovN
    split
    · rename_i e; simp only at e ⊢; rw [e]
    · rfl
  · rw [List.getElem?_eq_none (by rw [List.length_zip]; omega), List.getElem?_eq_none (by omega)]; rfl
theorem seed_in {seeds : List Str} {n m : Nat} {s : Str} (hm : 0 < m) (hs : s ∈ seeds) (hl : s.length = n) : s ∈ itB seeds (blk n) m := by
  have h0 : (itB seeds (blk n) m)[0]? = some (blk n) := by
    obtain ⟨t, e⟩ := itB_pres (seeds := seeds) (z := blk n) 0 m
    rw [Nat.zero_add] at e
    rw [e]
    rfl
  have := itB_has (seeds := seeds) (z := blk n) hm h0 hs
  rw [ovr_blk hl] at this
  exact this
/-- a drawn map -/
structure MapR (cs cs' : Cells) (seeds seeds' : List Str) (pic : Str → Str) : Prop where
  co : CellsOk cs'
  so : SeedsOk cs' seeds'
  le : (itB seeds' (blk cs'.length) 41).length ≤ 40
  pr : ∀ s ∈ seeds, pic s ∈ itB seeds' (blk cs'.length) 41
/-- what is handed out holds -/
theorem map_ok (hc' : CellsOk cs') (S : ShOk cs cs' sh) {seeds so ss : List Str} (hs : SeedsOk cs seeds) (hle : (itB seeds (blk cs.length) 41).length ≤ 40) (hso : SeedsOk cs' so) (hol : (itB so (blk cs'.length) 41).length ≤ 40) (hp : ss.Perm so)
    (hin : ∀ x ∈ cleanS (seeds.map (pcS sh)), x ∈ so) : MapR cs cs' seeds ss (pcS sh) := by
  refine ⟨hc', hso.perm hp, perm_le hp hol, fun s hm => ?_⟩
  have hr := pcS_row S (hs.rw s hm)
  by_cases e : pcS sh s = blk cs'.length
  · rw [e]; exact itB_first 41
  · refine seed_in (by decide) (hp.mem_iff.mpr (hin _ (clean_mem.mpr ⟨List.mem_map.mpr ⟨s, hm, rfl⟩, ?_⟩))) (row_len hr)
    rw [row_len hr]
    exact e
/-- the pictures alone -/
theorem pics_le (S : ShOk cs cs' sh) {seeds : List Str} (hs : SeedsOk cs seeds) (hle : (itB seeds (blk cs.length) 41).length ≤ 40) : (itB (cleanS (seeds.map (pcS sh))) (blk cs'.length) 41).length ≤ 40 := by
  refine Nat.le_trans (img_le (n := 41) (pcS sh) (by rw [pcS_blk, S.len]) (by omega) (fun s' m => ?_) (fun s hm r hr => pcS_ovr S (hs.rw s hm) (rows_all hs.rw 41 r hr)) 41) hle
  obtain ⟨s, hm, rfl⟩ := List.mem_map.mp (clean_mem.mp m).1
  exact ⟨s, hm, rfl⟩
end
end Nt
open PySem PySem.Spec PyProof.Rows L2 Nt
local macro_rules | `(tactic| walk_at "vc") => `(tactic| repeat (first
  | with_reducible refine w_seq ?_ | with_reducible refine w_ret ?_ | with_reducible refine w_asg ?_ | with_reducible refine w_name ?_ | with_reducible refine w_drop ?_ | with_reducible refine w_ifS ?_ | with_reducible refine w_next ?_ | with_reducible refine w_retN ?_
  | (with_reducible show tVar _ _ _ _; refine w_var rfl ?_) | with_reducible refine w_c ?_ | with_reducible refine w_op ?_ | with_reducible refine w_un ?_ | with_reducible refine w_if ?_ | with_reducible refine w_andV ?_ | with_reducible refine w_orV ?_ | with_reducible refine w_notV ?_ | with_reducible refine w_chain ?_
  | with_reducible refine w_bl ?_ | with_reducible refine w_I0 ?_ | with_reducible refine w_eqS ?_ | with_reducible refine w_neS ?_ | with_reducible refine w_eqI ?_ | with_reducible refine w_neI ?_ | with_reducible refine w_eqB ?_ | with_reducible refine w_neB ?_
  | with_reducible refine w_test ?_ | with_reducible refine w_B ?_ | with_reducible refine w_and ?_ | with_reducible refine w_or ?_ | with_reducible refine w_not ?_ | with_reducible refine w_yes ?_
  | with_reducible refine w_nil ?_ | with_reducible refine w_cons ?_ | with_reducible refine w_tup ?_ | with_reducible refine w_lst ?_ | with_reducible refine w_call ?_ | with_reducible refine w_cb ?_ | with_reducible refine w_m1 ?_ | with_reducible refine w_lc ?_ | with_reducible refine w_dc ?_
  | with_reducible refine w_for ?_ | with_reducible refine w_iL ?_ | with_reducible refine w_iS ?_ | with_reducible refine w_iZ ?_ | with_reducible refine w_iE ?_ | with_reducible refine w_sl ?_ | with_reducible refine w_po ?_ | with_reducible refine w_no ?_ | with_reducible refine w_qbm ?_
  | with_reducible refine w_ixl (by first | assumption | exact upd_same) rfl ?_ | with_reducible refine w_int1 ?_ | with_reducible refine w_mod (by omega) ?_ | with_reducible refine w_div (by omega) (by omega) ?_ | with_reducible refine w_mulR (by decide) ?_ | with_reducible refine w_pow (by decide) (by omega) ?_
  | with_reducible refine w_gsub ?_ | with_reducible refine w_setl (by first | assumption | exact upd_same) rfl ?_ | with_reducible refine w_gtup2 ?_ | with_reducible refine w_gtup3 ?_ | with_reducible refine w_gcons ?_ | with_reducible refine w_gnil ?_
  | with_reducible refine w_inti ?_ | with_reducible refine w_dIn ?_ | with_reducible refine w_dNotIn ?_ | with_reducible refine w_dPut ?_ | with_reducible refine w_dGet ?_ | with_reducible refine w_rU ?_ | with_reducible refine w_fld ?_ | with_reducible refine w_sfld ?_ | with_reducible refine w_par ?_ | with_reducible refine w_pair ?_ | with_reducible refine w_min2 ?_ | with_reducible refine w_rng ?_ | with_reducible refine w_litT (by with_unfolding_all rfl) ?_ | with_reducible refine ift rfl ?_ | with_reducible refine iff_ rfl ?_))
namespace Nt
section
variable {P : Program} {w : World} {K : PySem.W.Frag} {mg : Str → Option Value} {base : Heap}
def sp_l_pull : Sp := fun vs H Q _ => ∃ (b : Addr) (n : Nat), vs = [.ref b, .int n] ∧ 0 < n ∧ n < 1073741824 ∧ ∃ M, Same M H ∧ Bag M H b ∧ RetB b M H Q (isI n)
theorem ok_l_pull (T : Tx K mg) : Good P w K mg base CX0 1 (He.fAd K (He.DefD.at_ d_l_pull)) p_l_pull sp_l_pull := by
  obtain ⟨fd, F⟩ := T.def_ 15 (d := d_l_pull) rfl
  refine good_of F sc_l_pull (fun _ _ _ _ _ _ us hl => match us, hl with | [_, _], _ => rfl) (by intro vs H Q E h; (repeat obtain ⟨_, h⟩ := h); subst_vars; rfl) fun cdv A outer s H vs Q E hr h => ?_
  have hu := hu_of hr
  refine ⟨_, (pss_cons (ps_asg (pe_op op_add (pe_ix xq_list (pv 0) pe_int (fun _ _ => rfl)) pe_int) (pg_sub (pv 0) pe_int set_list))  (pss_cons (ps_if (PW.pt (pw_and (pt_cmpR op_eq (pe_ix xq_list (pv 0) pe_int (fun _ _ => rfl)) pe_int (nomark _)) (pw_and1 (pt_cmpR op_lt (pe_ix xq_list (pv 0) pe_int (fun _ _ => rfl)) (pe_callB cq_len (by rfl) T.b_len (by decide +kernel) (pa_cons (pe_ix xq_list (pv 0) pe_int (fun _ _ => rfl)) pa_nil)) (nomark _)))))  (pss_cons (ps_asg (pe_tup (pa_cons (pe_ix xq_list (pe_ix xq_list (pv 0) pe_int (fun _ _ => rfl)) (pe_ix xq_list (pv 0) pe_int (fun _ _ => rfl)) (fun _ _ => rfl)) (pa_cons (pe_op op_add (pe_ix xq_list (pv 0) pe_int (fun _ _ => rfl)) pe_int) pa_nil))) (gq_tup K (n := 2) rfl (pgs_cons (pg_name (i := 2) sc_l_pull.nd rfl (Or.inl rfl) (Or.inl rfl)) (pgs_cons (pg_sub (pv 0) pe_int set_list) pgs_nil))))  (pss_one (ps_if (pt_cmpR op_ge (pv 2) (pe_op op_pow pe_int pe_int) (nomark _))  (pss_one (ps_asg (pv 2) (pg_sub (pv 0) pe_int set_list)))  (pss_one (ps_asg (pe_op op_modN (pe_callTy call_int1 (by rfl) T.b_int (by decide +kernel) (pa_cons (pe_op op_add (pe_op op_add (pe_op op_mul (pe_ix xq_list (pv 0) pe_int (fun _ _ => rfl)) pe_int) (pe_op op_mul (pe_op op_modN (pe_callTy call_int1 (by rfl) T.b_int (by decide +kernel) (pa_cons (pv 2) pa_nil)) pe_int) pe_int)) pe_int) pa_nil)) pe_int) (pg_sub (pv 0) pe_int set_list))))))  pss_nil)  (pss_cons (ps_if (pt_cmpR op_gt (pe_ix xq_list (pv 0) pe_int (fun _ _ => rfl)) pe_int (nomark _))  (pss_cons (ps_asg (pe_tup (pa_cons (pe_op op_modN (pe_callTy call_int1 (by rfl) T.b_int (by decide +kernel) (pa_cons (pe_ix xq_list (pv 0) pe_int (fun _ _ => rfl)) pa_nil)) (pv 1)) (pa_cons (pe_op op_fdivN (pe_ix xq_list (pv 0) pe_int (fun _ _ => rfl)) (pv 1)) pa_nil))) (gq_tup K (n := 2) rfl (pgs_cons (pg_name (i := 3) sc_l_pull.nd rfl (Or.inl rfl) (Or.inl rfl)) (pgs_cons (pg_sub (pv 0) pe_int set_list) pgs_nil))))  (pss_one (ps_ret (pv 3))))  pss_nil)  (pss_cons (ps_set (i := 4) sc_l_pull.nd rfl (Or.inl rfl) (pe_callTy call_int1 (by rfl) T.b_int (by decide +kernel) (pa_cons (pe_ix xq_list (pv 0) pe_int (fun _ _ => rfl)) pa_nil)))  (pss_cons (ps_asg (pe_op op_modN (pe_callTy call_int1 (by rfl) T.b_int (by decide +kernel) (pa_cons (pe_op op_add (pe_op op_add (pe_op op_add (pe_op op_pow (pv 4) pe_int) (pe_op op_mul (pv 4) pe_int)) (pe_op op_mul (pe_ix xq_list (pv 0) pe_int (fun _ _ => rfl)) pe_int)) pe_int) pa_nil)) pe_int) (pg_sub (pv 0) pe_int set_list))  (pss_one (ps_ret (pe_op op_modN (pe_callTy call_int1 (by rfl) T.b_int (by decide +kernel) (pa_cons (pe_op op_add (pe_op op_fdivN (pe_ix xq_list (pv 0) pe_int (fun _ _ => rfl)) pe_int) (pe_op op_mul (pe_op op_modN (pe_callTy call_int1 (by rfl) T.b_int (by decide +kernel) (pa_cons (pe_ix xq_list (pv 0) pe_int (fun _ _ => rfl)) pa_nil)) pe_int) pe_int)) pa_nil)) (pv 1))))))))), ?_⟩
  obtain ⟨b, n, rfl, hn, hn2, M, s0, B, k⟩ := h
  have hn' : (0 : Int) < (n : Int) := by omega
  refine w_cut (fun σ' H' => σ' = start n_l_pull [.ref b, .int n] ∧ Stp (exB b) M H M H' ∧ Bag M H' b) ?_ ?_
  · rintro σ1 H1 ⟨rfl, S1, B1⟩
    refine w_cut (fun σ' H' => (∃ o2, σ' = [some (.ref b), some (.int n), o2, none, none]) ∧ Stp (exB b) M H M H' ∧ Bag M H' b) ?_ ?_
    · rintro σ2 H2 ⟨⟨o2, rfl⟩, S2, B2⟩
      obtain ⟨a, xs, i, r, m, c, h, ha, h0, h1, h2, h3⟩ := B2.ex
      walk_at "vc"
      refine ifd (fun q => ?_) (fun q => ?_)
      · walk_at "vc"
        intro p hp
        have hb := upd_old (u := .tup [V.int (r.fmod ↑n), V.int (r.fdiv ↑n)]) h hp
        walk_at "vc"
        refine k _ _ _ _ (isI_fmod hn') ((S2.new _ hp).put _ B.mb (.inr rfl)) ⟨B.mb, a, xs, i, r.fdiv n, m, c, upd_same, ha, h0, Int.fdiv_nonneg h1 (by omega), h2, h3⟩ rfl
      · walk_at "vc"
        have f1 := Int.fmod_nonneg_of_pos (m ^ Int.toNat 3 + m * 30851 + c * 1299709 + 51971) (show (0 : Int) < 2147483587 by decide)
        have f2 := Int.fmod_lt_of_pos (m ^ Int.toNat 3 + m * 30851 + c * 1299709 + 51971) (show (0 : Int) < 2147483587 by decide)
        refine k _ _ _ _ (isI_fmod hn') (S2.put _ B.mb (.inr rfl)) ⟨B.mb, a, xs, i, r, _, c, upd_same, ha, h0, h1, f1, by omega⟩ rfl
    · intro U hU
      obtain ⟨a, xs, i, r, m, c, h, ha, h0, h1, h2, h3⟩ := B1.ex
      have stay : U (start n_l_pull [.ref b, .int n]) H1 := hU _ _ ⟨⟨_, rfl⟩, S1, B1⟩
      walk_at "vc"
      refine ifd (fun q1 => ?_) (fun q1 => ?_)
      · walk_at "vc"
        refine ⟨a, xs.map V.int, rfl, .inl (S1.mh _ _ ha), ?_⟩
        walk_at "vc"
        refine ifd (fun q2 => ?_) (fun q2 => stay)
        walk_at "vc"
        obtain ⟨x, hx⟩ : ∃ x, xs[i.toNat]? = some x := ⟨xs[i.toNat]'(by rw [List.length_map] at q2; omega), List.getElem?_eq_getElem _⟩
        refine w_ixl (xs := xs.map V.int) (v := .int x) (S1.mh _ _ ha) (atI_map h0 hx) ?_
        walk_at "vc"
        intro p hp
        have hb := upd_old (u := .tup [V.int x, V.int (i + 1)]) h hp
        have S3 := S1.new (.tup [V.int x, V.int (i + 1)]) hp
        walk_at "vc"
        refine ifd (fun q3 => ?_) (fun q3 => ?_)
        · walk_at "vc"
          exact hU _ _ ⟨⟨_, rfl⟩, (S3.put _ B.mb (.inr rfl)).put _ B.mb (.inr rfl), B.mb, a, xs, i + 1, x, m, c, upd_same, ha, by omega, Int.le_trans (by decide) q3, h2, h3⟩
        · walk_at "vc"
          have f1 := Int.fmod_nonneg_of_pos (m * 40591 + x.fmod 2147483563 * 733 + 59) (show (0 : Int) < 2147483587 by decide)
          have f2 := Int.fmod_lt_of_pos (m * 40591 + x.fmod 2147483563 * 733 + 59) (show (0 : Int) < 2147483587 by decide)
          exact hU _ _ ⟨⟨_, rfl⟩, (S3.put _ B.mb (.inr rfl)).put _ B.mb (.inr rfl), B.mb, a, xs, i + 1, r, _, c, upd_same, ha, by omega, h1, f1, by omega⟩
      · exact stay
  · intro U hU
    obtain ⟨a, xs, i, r, m, c, h, ha, h0, h1, h2, h3⟩ := B.ex
    walk_at "vc"
    exact hU _ _ ⟨rfl, (Stp.refl s0).put _ B.mb (.inr rfl), B.mb, a, xs, i, r, m, c + 1, upd_same, ha, h0, h1, h2, h3⟩
end
end Nt
namespace Nt
section
variable {P : Program} {w : World} {K : PySem.W.Frag} {mg : Str → Option Value} {base : Heap}
def sp_over : Sp := fun vs H Q _ => ∃ (x y : Str), vs = [.str x, .str y] ∧ ∃ M, Same M H ∧ x.length ≤ 1000 ∧ Ret M H Q (.str (ovr x y))
theorem ok_over (T : Tx K mg) : Good P w K mg base CX0 1 (He.fAd K (He.DefD.at_ d_over)) p_over sp_over := by
  obtain ⟨fd, F⟩ := T.def_ 4 (d := d_over) rfl
  refine good_of F sc_over (fun _ _ _ _ _ _ us hl => match us, hl with | [_, _], _ => rfl) (by intro vs H Q E h; (repeat obtain ⟨_, h⟩ := h); subst_vars; rfl) fun cdv A outer s H vs Q E hr h => ?_
  have hu := hu_of hr
  refine ⟨_, (pss_one (ps_ret (pe_m1 PySem.F.slot_str_join PySem.F.type_str_join mq_join pe_str (pe_lc (own := [("sign", 2), ("below", 3)]) (by rfl) sc_over.nd (iq_zs K (by rfl) T.b_zip (pa_cons (pv 0) (pa_cons (pv 1) pa_nil))) (blkOk_by (own := [("sign", 2), ("below", 3)]) (N := n_over) (sc := He.DefD.scope d_over) (by decide +kernel)) (fun _ _ _ _ _ => (gq_tup K (n := 2) rfl (pgs_cons (pg_name (i := 2) sc_over.nd rfl (Or.inl rfl) (Or.inr rfl)) (pgs_cons (pg_name (i := 3) sc_over.nd rfl (Or.inl rfl) (Or.inr rfl)) pgs_nil)))) (fun _ _ _ _ _ => pts_nil) (fun _ _ _ _ _ => (pe_ifExp (pt_cmpR op_eq (pv 2) pe_str (nomark _)) (pv 3) (pv 2))))))), ?_⟩
  obtain ⟨x, y, rfl, M, s0, hx, k⟩ := h
  walk_at "vc"
  refine ⟨⟨_, rfl⟩, ?_⟩
  walk_at "vc"
  refine .inl ⟨x, y, rfl, ?_⟩
  have hz : ((sl x).zip (sl y)).length ≤ 1000 := by
    rw [List.length_zip, ← len_sl]
    omega
  refine lc_go (ex := no) walkZ s0 (fun i acc _ => acc = (((sl x).zip (sl y)).take i).map fun p => .str (ch (ovN p))) rfl (fun _ _ _ => trivial) ?_ ?_
  · rintro i v acc M1 H1 H1' D hi S1 hD m1 h1 rfl ⟨T, a, b, rfl, hT, rfl, hab⟩
    refine g_pair upd_same ⟨rfl, ?_⟩
    walk_at "vc"
    have go : ∀ z, z = ovN (a, b) → LcA no M H D (fun acc _ => acc = (((sl x).zip (sl y)).take (i + 1)).map fun p => .str (ch (ovN p))) (.str (ch z)) (upd H1 T (.tup [.str (ch a), .str (ch b)])) := fun z hz' =>
      LcA.of hD (S1.new _ hT) m1 (upd_old h1 hT) (by rw [List.length_map, List.length_take]; omega) (by rw [tkm hab, hz'])
    refine ifd (fun q => ?_) (fun q => ?_)
    · walk_at "vc"
      exact go b (by rw [ovN, if_pos (ch_dot.mp q)])
    · walk_at "vc"
      exact go a (by rw [ovN, if_neg fun z => q (ch_dot.mpr z)])
  · rintro D acc M1 H1 hD S1 m1 h1 rfl
    rw [tk_all] at h1
    have e : (((sl x).zip (sl y)).map fun p => V.str (ch (ovN p))) = ((((sl x).zip (sl y)).map ovN).map ch).map V.str := by simp
    rw [e] at h1
    refine ⟨_, D, _, rfl, rfl, .inl h1, join_size _ (by rw [List.length_map]; omega), ?_⟩
    rw [join_ch]
    exact k _ _ _ S1 rfl
def sp_l_over : Sp := sp_over
theorem ok_l_over (T : Tx K mg) : Good P w K mg base CX0 1 (He.fAd K (He.DefD.at_ d_l_over)) p_l_over sp_over := by
  obtain ⟨fd, F⟩ := T.def_ 21 (d := d_l_over) rfl
  refine good_of F sc_l_over (fun _ _ _ _ _ _ us hl => match us, hl with | [_, _], _ => rfl) (by intro vs H Q E h; (repeat obtain ⟨_, h⟩ := h); subst_vars; rfl) fun cdv A outer s H vs Q E hr h => ?_
  have hu := hu_of hr
  refine ⟨_, (pss_one (ps_ret (pe_m1 PySem.F.slot_str_join PySem.F.type_str_join mq_join pe_str (pe_lc (own := [("_law_sign", 2), ("_law_under", 3)]) (by rfl) sc_l_over.nd (iq_zs K (by rfl) T.b_zip (pa_cons (pv 0) (pa_cons (pv 1) pa_nil))) (blkOk_by (own := [("_law_sign", 2), ("_law_under", 3)]) (N := n_l_over) (sc := He.DefD.scope d_l_over) (by decide +kernel)) (fun _ _ _ _ _ => (gq_tup K (n := 2) rfl (pgs_cons (pg_name (i := 2) sc_l_over.nd rfl (Or.inl rfl) (Or.inr rfl)) (pgs_cons (pg_name (i := 3) sc_l_over.nd rfl (Or.inl rfl) (Or.inr rfl)) pgs_nil)))) (fun _ _ _ _ _ => pts_nil) (fun _ _ _ _ _ => (pe_ifExp (pt_cmpR op_eq (pv 2) pe_str (nomark _)) (pv 3) (pv 2))))))), ?_⟩
  obtain ⟨x, y, rfl, M, s0, hx, k⟩ := h
  walk_at "vc"
  refine ⟨⟨_, rfl⟩, ?_⟩
  walk_at "vc"
  refine .inl ⟨x, y, rfl, ?_⟩
  have hz : ((sl x).zip (sl y)).length ≤ 1000 := by
    rw [List.length_zip, ← len_sl]
    omega
  refine lc_go (ex := no) walkZ s0 (fun i acc _ => acc = (((sl x).zip (sl y)).take i).map fun p => .str (ch (ovN p))) rfl (fun _ _ _ => trivial) ?_ ?_
  · rintro i v acc M1 H1 H1' D hi S1 hD m1 h1 rfl ⟨T, a, b, rfl, hT, rfl, hab⟩
    refine g_pair upd_same ⟨rfl, ?_⟩
    walk_at "vc"
    have go : ∀ z, z = ovN (a, b) → LcA no M H D (fun acc _ => acc = (((sl x).zip (sl y)).take (i + 1)).map fun p => .str (ch (ovN p))) (.str (ch z)) (upd H1 T (.tup [.str (ch a), .str (ch b)])) := fun z hz' =>
      LcA.of hD (S1.new _ hT) m1 (upd_old h1 hT) (by rw [List.length_map, List.length_take]; omega) (by rw [tkm hab, hz'])
    refine ifd (fun q => ?_) (fun q => ?_)
    · walk_at "vc"
      exact go b (by rw [ovN, if_pos (ch_dot.mp q)])
    · walk_at "vc"
      exact go a (by rw [ovN, if_neg fun z => q (ch_dot.mpr z)])
  · rintro D acc M1 H1 hD S1 m1 h1 rfl
    rw [tk_all] at h1
    have e : (((sl x).zip (sl y)).map fun p => V.str (ch (ovN p))) = ((((sl x).zip (sl y)).map ovN).map ch).map V.str := by simp
    rw [e] at h1
    refine ⟨_, D, _, rfl, rfl, .inl h1, join_size _ (by rw [List.length_map]; omega), ?_⟩
    rw [join_ch]
    exact k _ _ _ S1 rfl
def sp_lot_of : Sp := fun vs H Q _ => ∃ (x : Str), vs = [.str x] ∧ ∃ M, Same M H ∧ x.length ≤ 1000 ∧ Ret M H Q (.str (lotS x))
theorem ok_lot_of (T : Tx K mg) : Good P w K mg base CX0 1 (He.fAd K (He.DefD.at_ d_lot_of)) p_lot_of sp_lot_of := by
  obtain ⟨fd, F⟩ := T.def_ 5 (d := d_lot_of) rfl
  refine good_of F sc_lot_of (fun _ _ _ _ _ _ us hl => match us, hl with | [_], _ => rfl) (by intro vs H Q E h; (repeat obtain ⟨_, h⟩ := h); subst_vars; rfl) fun cdv A outer s H vs Q E hr h => ?_
  have hu := hu_of hr
  refine ⟨_, (pss_one (ps_ret (pe_m1 PySem.F.slot_str_join PySem.F.type_str_join mq_join pe_str (pe_lc (own := [("sign", 1)]) (by rfl) sc_lot_of.nd (pi_str (pv 0)) (blkOk_by (own := [("sign", 1)]) (N := n_lot_of) (sc := He.DefD.scope d_lot_of) (by decide +kernel)) (fun _ _ _ _ _ => (pg_name (i := 1) sc_lot_of.nd rfl (Or.inl rfl) (Or.inr rfl))) (fun _ _ _ _ _ => pts_nil) (fun _ _ _ _ _ => (pe_ifExp (pt_cmpR op_eq (pv 1) pe_str (nomark _)) pe_str pe_str)))))), ?_⟩
  obtain ⟨x, rfl, M, s0, hx, k⟩ := h
  walk_at "vc"
  refine ⟨⟨_, rfl⟩, ?_⟩
  walk_at "vc"
  refine ⟨x, rfl, ?_⟩
  rw [len_sl] at hx
  refine lc_go (ex := no) walkS s0 (fun i acc _ => acc = ((sl x).take i).map fun c => .str (ch (ltN c))) rfl (fun _ _ _ => trivial) ?_ ?_
  · rintro i v acc M1 H1 H1' D hi S1 hD m1 h1 rfl ⟨rfl, c, hc, rfl⟩
    refine ⟨rfl, ?_⟩
    walk_at "vc"
    have go : ∀ z : Str, z = ch (ltN c) → LcA no M H D (fun acc _ => acc = ((sl x).take (i + 1)).map fun c => .str (ch (ltN c))) (.str z) H1' := fun z hz' =>
      LcA.of hD S1 m1 h1 (by rw [List.length_map, List.length_take]; omega) (by rw [tkm hc, hz'])
    refine ifd (fun q => ?_) (fun q => ?_)
    · walk_at "vc"
      exact go _ (by rw [ltN, if_pos (ch_dot.mp q)]; decide +kernel)
    · walk_at "vc"
      exact go _ (by rw [ltN, if_neg fun z => q (ch_dot.mpr z)]; decide +kernel)
  · rintro D acc M1 H1 hD S1 m1 h1 rfl
    rw [tk_all] at h1
    have e : ((sl x).map fun c => V.str (ch (ltN c))) = (((sl x).map ltN).map ch).map V.str := by simp
    rw [e] at h1
    refine ⟨_, D, _, rfl, rfl, .inl h1, join_size _ (by rw [List.length_map]; omega), ?_⟩
    rw [join_ch]
    exact k _ _ _ S1 rfl
def sp_blank : Sp := fun vs H Q _ => ∃ (n : Nat), vs = [.int n] ∧ ∃ M, Same M H ∧ n ≤ 1000 ∧ Ret M H Q (.str (blk n))
theorem rep_dot (n : Nat) : (⟨(List.replicate (n : Int).toNat ("." : Str).cps).foldl (· ++ ·) #[]⟩ : Str) = blk n := by
  have e : ("." : Str).cps = #[46] := by decide +kernel
  rw [e, Int.toNat_natCast]
  apply str_ext
  show _ = (List.replicate n 46).toArray.toList
  have r : ∀ (n : Nat) (acc : Array Nat), ((List.replicate n (#[46] : Array Nat)).foldl (· ++ ·) acc).toList = acc.toList ++ List.replicate n 46 := by
    intro n
    induction n with
    | zero => intro acc; simp
    | succ n ih => intro acc; rw [List.replicate_succ, List.foldl_cons, ih, List.replicate_succ]; simp
  rw [r]
  simp
theorem ok_blank (T : Tx K mg) : Good P w K mg base CX0 1 (He.fAd K (He.DefD.at_ d_blank)) p_blank sp_blank := by
  obtain ⟨fd, F⟩ := T.def_ 6 (d := d_blank) rfl
  refine good_of F sc_blank (fun _ _ _ _ _ _ us hl => match us, hl with | [_], _ => rfl) (by intro vs H Q E h; (repeat obtain ⟨_, h⟩ := h); subst_vars; rfl) fun cdv A outer s H vs Q E hr h => ?_
  have hu := hu_of hr
  refine ⟨_, (pss_one (ps_ret (pe_op op_mul_str pe_str (pv 0)))), ?_⟩
  obtain ⟨n, rfl, M, s0, hn, k⟩ := h
  walk_at "vc"
  refine ⟨_, _, rfl, rfl, by omega, by omega, by decide +kernel, ?_⟩
  rw [rep_dot]
  exact k _ _ _ (Stp.refl s0) rfl
def sp_lot_size : Sp := fun vs H Q _ => ∃ (x : Str), vs = [.str x] ∧ ∃ M, Same M H ∧ Ret M H Q (.int (Txt.count x "+"))
theorem ok_lot_size (T : Tx K mg) : Good P w K mg base CX0 1 (He.fAd K (He.DefD.at_ d_lot_size)) p_lot_size sp_lot_size := by
  obtain ⟨fd, F⟩ := T.def_ 7 (d := d_lot_size) rfl
  refine good_of F sc_lot_size (fun _ _ _ _ _ _ us hl => match us, hl with | [_], _ => rfl) (by intro vs H Q E h; (repeat obtain ⟨_, h⟩ := h); subst_vars; rfl) fun cdv A outer s H vs Q E hr h => ?_
  have hu := hu_of hr
  refine ⟨_, (pss_one (ps_ret (pe_m1 PySem.F.slot_str_count PySem.F.type_str_count mt_count (pv 0) pe_str))), ?_⟩
  obtain ⟨x, rfl, M, s0, k⟩ := h
  walk_at "vc"
  refine ⟨⟨_, rfl⟩, ?_⟩
  walk_at "vc"
  exact ⟨x, _, rfl, rfl, k _ _ _ (Stp.refl s0) rfl⟩
end
end Nt
namespace Nt
section
variable {P : Program} {w : World} {K : PySem.W.Frag} {mg : Str → Option Value} {base : Heap}
def sp_l_pick : Sp := fun vs H Q _ => ∃ (b : Addr) (v : V) (ds : List Dat), vs = [.ref b, v] ∧ 0 < ds.length ∧ ds.length < 1000000 ∧ ∃ M, Same M H ∧ Bag M H b ∧ IsQ M ds v ∧ RetB b M H Q (· ∈ ds)
theorem ok_l_pick (T : Tx K mg) : Good P w K mg base CX0 2 (He.fAd K (He.DefD.at_ d_l_pick)) p_l_pick sp_l_pick := by
  obtain ⟨fd, F⟩ := T.def_ 16 (d := d_l_pick) rfl
  have g_l_pull : Good P w K mg base CX0 1 (He.fAd K (He.DefD.at_ d_l_pull)) p_l_pull sp_l_pull := ok_l_pull T
  refine good_of F sc_l_pick (fun _ _ _ _ _ _ us hl => match us, hl with | [_, _], _ => rfl) (by intro vs H Q E h; (repeat obtain ⟨_, h⟩ := h); subst_vars; rfl) fun cdv A outer s H vs Q E hr h => ?_
  have hu := hu_of hr
  refine ⟨_, (pss_one (ps_ret (pe_ix xq_seq (pv 1) (pe_good g_l_pull (hr.mono (by decide)) rfl T.m_l_pull (pa_cons (pv 0) (pa_cons (pe_callB cq_len (by rfl) T.b_len (by decide +kernel) (pa_cons (pv 1) pa_nil)) pa_nil))) (fun _ _ => rfl)))), ?_⟩
  obtain ⟨b, v, ds, rfl, h0, h1, M, s0, B, ⟨a, vs, rfl, ha, hvs⟩, k⟩ := h
  have ha' := ha.imp (s0 _ _) (s0 _ _)
  walk_at "vc"
  refine ⟨a, vs, rfl, ha', ?_⟩
  walk_at "vc"
  rw [hvs.len]
  refine ⟨b, ds.length, rfl, h0, by omega, M, s0, B, ?_⟩
  rintro d v M1 H1 ⟨j, rfl, hj⟩ S1 B1 rfl
  obtain ⟨v, d, e, _, hm, hd⟩ := hvs.at' (i := j) (by omega)
  refine w_ixq (ha.imp (fun z => S1.mh _ _ (S1.mm _ _ z)) (fun z => S1.mh _ _ (S1.mm _ _ z))) e ?_
  exact k _ _ _ _ hm S1 B1 (hd.mono S1.mm)
def sp_l_some_of : Sp := fun vs H Q _ => ∃ (b : Addr) (v : V) (n : Nat) (ds : List Dat), vs = [.ref b, v, .int n] ∧ ds.length < 1000000 ∧ n < 1000000 ∧ ∃ M, Same M H ∧ Bag M H b ∧ IsQ M ds v ∧
  RetB b M H Q (fun d => ∃ es, d = .lst es ∧ Sub (min n ds.length) ds es)
theorem ok_l_some_of (T : Tx K mg) : Good P w K mg base CX0 2 (He.fAd K (He.DefD.at_ d_l_some_of)) p_l_some_of sp_l_some_of := by
  obtain ⟨fd, F⟩ := T.def_ 18 (d := d_l_some_of) rfl
  have g_l_pull : Good P w K mg base CX0 1 (He.fAd K (He.DefD.at_ d_l_pull)) p_l_pull sp_l_pull := ok_l_pull T
  refine good_of F sc_l_some_of (fun _ _ _ _ _ _ us hl => match us, hl with | [_, _, _], _ => rfl) (by intro vs H Q E h; (repeat obtain ⟨_, h⟩ := h); subst_vars; rfl) fun cdv A outer s H vs Q E hr h => ?_
  have hu := hu_of hr
  refine ⟨_, (pss_cons (ps_par (i := 3) (j := 4) rfl sc_l_some_of.nd rfl rfl (by decide) rfl rfl (pa_cons (pe_callTy cq_list (by rfl) T.b_list (by decide +kernel) (pa_cons (pv 1) pa_nil)) (pa_cons (pe_lst pa_nil) pa_nil)) (by rfl))  (pss_cons (ps_for PassesOwn.never rfl (pi_range1 (by rfl) T.b_range (pa_cons (pe_callB (call_min2 rfl) (by rfl) T.b_min (by decide +kernel) (pa_cons (pv 2) (pa_cons (pe_callB cq_len (by rfl) T.b_len (by decide +kernel) (pa_cons (pv 3) pa_nil)) pa_nil))) pa_nil)) (pg_name (i := 5) sc_l_some_of.nd rfl (Or.inl rfl) (Or.inl rfl))  (pss_one (ps_expr (eq_bm PySem.F.slot_list_append PySem.F.type_list_append mt_append (pv 4) (pa_cons (eq_bm PySem.F.slot_list_pop PySem.F.type_list_pop mt_popAt (pv 3) (pa_cons (pe_good g_l_pull (hr.mono (by decide)) rfl T.m_l_pull (pa_cons (pv 0) (pa_cons (pe_callB cq_len (by rfl) T.b_len (by decide +kernel) (pa_cons (pv 3) pa_nil)) pa_nil))) pa_nil)) pa_nil)))))  (pss_one (ps_ret (pv 4))))), ?_⟩
  obtain ⟨b, v, n, ds, rfl, h0, h1, M, s0, B, ⟨a, vs, rfl, ha, hvs⟩, k⟩ := h
  have ha' := ha.imp (s0 _ _) (s0 _ _)
  walk_at "vc"
  refine ⟨a, vs, rfl, ha', fun l hl => ?_⟩
  walk_at "vc"
  intro f hf
  obtain ⟨hlf, hf0⟩ := two_ne hf
  have S1 := ((Stp.refl (ex := exB b) s0).new (.lst vs) hl).new (.lst []) hf
  have hH1 : upd (upd H l (.lst vs)) f (.lst []) l = some (.lst vs) := upd_old upd_same hf
  have B1 := (B.new (o := .lst vs) s0 hl).new (o := .lst []) ((Stp.refl (ex := exB b) s0).new (.lst vs) hl).mh hf
  walk_at "vc"
  refine ⟨l, vs, rfl, .inl hH1, ?_⟩
  walk_at "vc"
  have hj : (if (vs.length : Int) < (n : Int) then (vs.length : Int) else (n : Int)) = ((min n vs.length : Nat) : Int) := by
    split <;> omega
  rw [hj]
  refine w_r1 (n := min n vs.length) (by omega) ?_
  rw [Int.toNat_natCast]
  have hlb := B.ne hl
  have hfb := B.ne hf0
  refine fo_go walk_range (fun i σ' H' => ∃ o M' lv ev left es, σ' = [some (.ref b), some (.ref a), some (.int n), some (.ref l), some (.ref f), o] ∧ Stp (exB b) M H M' H' ∧ Bag M' H' b ∧ M' l = none ∧ M' f = none ∧
    H' l = some (.lst lv) ∧ H' f = some (.lst ev) ∧ IsA M' left lv ∧ IsA M' es ev ∧ (es ++ left).Perm ds ∧ es.length = i)
    ⟨_, M, vs, [], ds, [], rfl, S1, B1, none_of_same s0 hl, none_of_same s0 hf0, hH1, upd_same, hvs, rfl, List.Perm.refl _, rfl⟩ (fun _ _ _ _ _ => trivial) ?_ ?_
  · rintro i x σ1 H2 H2' hi ⟨o, M2, lv, ev, left, es, rfl, S2, B2, ml, mf, hl2, hf2, il, ie, hp, he⟩ ⟨rfl, rfl⟩
    walk_at "vc"
    refine ⟨⟨f, ev, rfl, hf2⟩, ?_⟩
    walk_at "vc"
    refine ⟨⟨l, lv, rfl, hl2⟩, ?_⟩
    walk_at "vc"
    refine ⟨l, lv, rfl, .inl hl2, ?_⟩
    walk_at "vc"
    have hlen := hp.length_eq
    rw [List.length_append] at hlen
    have hv := hvs.len
    have hll := il.len
    have hee := ie.len
    refine ⟨b, lv.length, rfl, by omega, by omega, M2, S2.mh, B2, ?_⟩
    rintro d v M3 H3 ⟨k', rfl, hk⟩ S3 B3 rfl
    obtain ⟨ml3, hl3⟩ := S3.keepB ml hl2 hlb
    obtain ⟨mf3, hf3⟩ := S3.keepB mf hf2 hfb
    obtain ⟨v, d, e1, e2, hm, hd⟩ := (il.mono S3.mm).at' (i := k') (by omega)
    walk_at "vc"
    refine ⟨l, lv, _, k', v, rfl, rfl, hl3, by omega, by omega, seqIx (by omega), e1, ?_⟩
    walk_at "vc"
    refine ⟨f, ev, _, rfl, rfl, by rw [upd_ne hlf]; exact hf3, line_lt (by omega), ?_⟩
    walk_at "vc"
    refine ⟨_, M3, _, _, left.eraseIdx k', es ++ [d], rfl, ((S2.trans S3).put _ ml3 (.inl hl)).put _ mf3 (.inl hf0), (B3.put ml3 hlb).put mf3 hfb, ml3, mf3, ?_, upd_same, (il.mono S3.mm).erase k', (ie.mono S3.mm).snoc hd, sub_step hp e2, by rw [List.length_append, he]; rfl⟩
    rw [upd_ne (Ne.symm hlf), upd_same]
  · rintro σ1 H2 ⟨o, M2, lv, ev, left, es, rfl, S2, B2, ml, mf, hl2, hf2, il, ie, hp, he⟩
    walk_at "vc"
    refine k _ _ _ _ ⟨es, rfl, left, hp, by rw [he, hvs.len]⟩ (S2.fix hf2 hf0) (B2.fix hfb (.inl mf)) ⟨f, ev, rfl, upd_same, ie.mono (S2.fix hf2 hf0 |> fun _ => same_upd mf)⟩
def sp_l_full : Sp := fun vs H Q _ => ∃ (v : V) (xs : List Str), vs = [v] ∧ xs.length ≤ 1000 ∧ ∃ M, Same M H ∧ Is M (dS xs) v ∧ Ret M H Q (dS (fullS xs))
def sp_l_cut : Sp := fun vs H Q _ => ∃ (x : Str) (v : V) (ps : List Nat), vs = [.str x, v] ∧ x.length ≤ 1000 ∧ ps.length ≤ 1000 ∧ (∀ p ∈ ps, p < x.length) ∧ ∃ M, Same M H ∧ Is M (.lst (ps.map fun p => Dat.int (p : Nat))) v ∧ ∀ y, Ret M H Q (.str y)
end
end Nt
namespace Nt
section
variable {P : Program} {w : World} {K : PySem.W.Frag} {mg : Str → Option Value} {base : Heap}
def sp_l_turned : Sp := fun vs H Q _ => ∃ (b : Addr) (v : V) (ds : List Dat), vs = [.ref b, v] ∧ ds.length < 1000000 ∧ ∃ M, Same M H ∧ Bag M H b ∧ IsQ M ds v ∧ RetB b M H Q (fun d => ∃ es, d = .lst es ∧ es.Perm ds)
theorem ok_l_turned (T : Tx K mg) : Good P w K mg base CX0 3 (He.fAd K (He.DefD.at_ d_l_turned)) p_l_turned sp_l_turned := by
  obtain ⟨fd, F⟩ := T.def_ 19 (d := d_l_turned) rfl
  have g_l_some_of : Good P w K mg base CX0 2 (He.fAd K (He.DefD.at_ d_l_some_of)) p_l_some_of sp_l_some_of := ok_l_some_of T
  refine good_of F sc_l_turned (fun _ _ _ _ _ _ us hl => match us, hl with | [_, _], _ => rfl) (by intro vs H Q E h; (repeat obtain ⟨_, h⟩ := h); subst_vars; rfl) fun cdv A outer s H vs Q E hr h => ?_
  have hu := hu_of hr
  refine ⟨_, (pss_one (ps_ret (pe_good g_l_some_of (hr.mono (by decide)) rfl T.m_l_some_of (pa_cons (pv 0) (pa_cons (pv 1) (pa_cons (pe_callB cq_len (by rfl) T.b_len (by decide +kernel) (pa_cons (pv 1) pa_nil)) pa_nil)))))), ?_⟩
  obtain ⟨b, v, ds, rfl, h0, M, s0, B, iq, k⟩ := h
  have iq' := iq
  obtain ⟨a, vs, rfl, ha, hvs⟩ := iq
  walk_at "vc"
  refine ⟨a, vs, rfl, ha.imp (s0 _ _) (s0 _ _), ?_⟩
  walk_at "vc"
  rw [hvs.len]
  refine ⟨b, _, ds.length, ds, rfl, h0, h0, M, s0, B, iq', ?_⟩
  rintro d v M1 H1 ⟨es, rfl, r, hp, hl⟩ S1 B1 i1
  refine k _ _ _ _ ⟨es, rfl, ?_⟩ S1 B1 i1
  have e := hp.length_eq
  rw [List.length_append, hl, Nat.min_self] at e
  have : r = [] := List.length_eq_zero_iff.mp (by omega)
  rw [this, List.append_nil] at hp
  exact hp
def sp_l_names : Sp := fun vs H Q _ => ∃ (b : Addr) (n : Nat), vs = [.ref b, .int n] ∧ n ≤ 20 ∧ ∃ M, Same M H ∧ Bag M H b ∧
  RetB b M H Q (fun d => ∃ xs : List Str, d = dS xs ∧ xs.length = n ∧ xs.Nodup ∧ ∀ x ∈ xs, NameOk x)
theorem ok_l_names (T : Tx K mg) : Good P w K mg base CX0 3 (He.fAd K (He.DefD.at_ d_l_names)) p_l_names sp_l_names := by
  obtain ⟨fd, F⟩ := T.def_ 23 (d := d_l_names) rfl
  have g_l_pick : Good P w K mg base CX0 2 (He.fAd K (He.DefD.at_ d_l_pick)) p_l_pick sp_l_pick := ok_l_pick T
  have g_l_pull : Good P w K mg base CX0 1 (He.fAd K (He.DefD.at_ d_l_pull)) p_l_pull sp_l_pull := ok_l_pull T
  refine good_of F sc_l_names (fun _ _ _ _ _ _ us hl => match us, hl with | [_, _], _ => rfl) (by intro vs H Q E h; (repeat obtain ⟨_, h⟩ := h); subst_vars; rfl) fun cdv A outer s H vs Q E hr h => ?_
  have hu := hu_of hr
  refine ⟨_, (pss_cons (ps_asg (pe_tup (pa_cons pe_str (pa_cons (pe_lst pa_nil) (pa_cons (pe_good g_l_pick (hr.mono (by decide)) rfl T.m_l_pick (pa_cons (pv 0) (pa_cons (pe_lst (pa_cons pe_int (pa_cons pe_int (pa_cons pe_int pa_nil)))) pa_nil))) pa_nil)))) (gq_tup K (n := 3) rfl (pgs_cons (pg_name (i := 2) sc_l_names.nd rfl (Or.inr rfl) (Or.inl rfl)) (pgs_cons (pg_name (i := 3) sc_l_names.nd rfl (Or.inr rfl) (Or.inl rfl)) (pgs_cons (pg_name (i := 4) sc_l_names.nd rfl (Or.inr rfl) (Or.inl rfl)) pgs_nil)))))  (pss_cons (ps_for PassesOwn.never rfl (pi_range1 (by rfl) T.b_range (pa_cons (pv 1) pa_nil)) (pg_name (i := 5) sc_l_names.nd rfl (Or.inl rfl) (Or.inl rfl))  (pss_cons (ps_set (i := 6) sc_l_names.nd rfl (Or.inl rfl) (pe_ifExp (pt_cmpR op_eq (pe_good g_l_pull (hr.mono (by decide)) rfl T.m_l_pull (pa_cons (pv 0) (pa_cons pe_int pa_nil))) pe_int (nomark _)) pe_int (pe_op op_add pe_int (pe_good g_l_pull (hr.mono (by decide)) rfl T.m_l_pull (pa_cons (pv 0) (pa_cons pe_int pa_nil))))))  (pss_cons (ps_set (i := 7) sc_l_names.nd rfl (Or.inl rfl) (pe_m1 PySem.F.slot_str_join PySem.F.type_str_join mq_join pe_str (pe_lc (own := [("_law_k", 8)]) (by rfl) sc_l_names.nd (pi_range1 (by rfl) T.b_range (pa_cons (pv 6) pa_nil)) (blkOk_by (own := [("_law_k", 8)]) (N := n_l_names) (sc := He.DefD.scope d_l_names) (by decide +kernel)) (fun _ _ _ _ _ => (pg_name (i := 8) sc_l_names.nd rfl (Or.inl rfl) (Or.inr rfl))) (fun _ _ _ _ _ => pts_nil) (fun _ _ _ _ _ => (pe_ix ix_str (pv 2) (pe_good g_l_pull (hr.mono (by decide)) rfl T.m_l_pull (pa_cons (pv 0) (pa_cons (pv 4) pa_nil))) (fun _ _ => rfl))))))  (pss_cons (ps_if (pt_cmpR oq_in (pv 7) (pv 3) (by rfl))  (pss_one (ps_set (i := 7) sc_l_names.nd rfl (Or.inl rfl) (pe_ix xq_list (pe_lc (own := [("_law_one", 9)]) (by rfl) sc_l_names.nd (pi_str (pv 2)) (blkOk_by (own := [("_law_one", 9)]) (N := n_l_names) (sc := He.DefD.scope d_l_names) (by decide +kernel)) (fun _ _ _ _ _ => (pg_name (i := 9) sc_l_names.nd rfl (Or.inl rfl) (Or.inr rfl))) (fun _ _ _ _ _ => pts_one (pt_cmpR oq_notIn (pv 9) (pv 3) (by rfl))) (fun _ _ _ _ _ => (pv 9))) pe_int (fun _ _ => rfl))))  pss_nil)  (pss_one (ps_expr (eq_bm PySem.F.slot_list_append PySem.F.type_list_append mt_append (pv 3) (pa_cons (pv 7) pa_nil))))))))  (pss_one (ps_ret (pv 3))))), ?_⟩
  obtain ⟨b, n, rfl, hn, M, s0, B, k⟩ := h
  walk_at "vc"
  intro f hf
  walk_at "vc"
  intro t ht
  obtain ⟨hft, ht0⟩ := two_ne ht
  walk_at "vc"
  have S1 := ((Stp.refl (ex := exB b) s0).new (.lst []) hf).lay (.lst [.int 2, .int 26, .int 26]) ht
  have B1 := (B.new (o := .lst []) s0 hf).lay (o := .lst [.int 2, .int 26, .int 26]) ((Stp.refl (ex := exB b) s0).new (.lst []) hf).mh ht
  refine ⟨b, .ref t, [.int (2 : Nat), .int (26 : Nat), .int (26 : Nat)], rfl, by decide, by decide, _, S1.mh, B1, ⟨t, _, rfl, .inl upd_same, IsA.ints (xs := [2, 26, 26]).mpr rfl⟩, ?_⟩
  rintro d v M2 H2 hd S2 B2 i2
  obtain ⟨wd, rfl, hw0, hw⟩ : ∃ wd : Nat, v = .int wd ∧ 0 < wd ∧ wd ≤ 26 := by
    simp only [List.mem_cons, List.not_mem_nil, or_false] at hd
    rcases hd with rfl | rfl | rfl
    · exact ⟨2, i2, by decide, by decide⟩
    · exact ⟨26, i2, by decide, by decide⟩
    · exact ⟨26, i2, by decide, by decide⟩
  have S2 := S1.trans S2
  have hfb := B.ne hf
  have ⟨mf2, hf2⟩ : M2 f = none ∧ H2 f = some (.lst []) := by
    have m1 : upd M t (.lst [.int 2, .int 26, .int 26]) f = none := by rw [upd_ne (Ne.symm hft)]; exact none_of_same s0 hf
    have q : upd (upd H f (.lst [])) t (.lst [.int 2, .int 26, .int 26]) f = some (.lst []) := by rw [upd_ne (Ne.symm hft), upd_same]
    exact Stp.keepB ‹_› m1 q hfb
  walk_at "vc"
  intro p hp
  walk_at "vc"
  have hfp : p ≠ f := fun z => by rw [z, hf2] at hp; cases hp
  refine w_r1 (by omega) ?_
  rw [Int.toNat_natCast]
  refine fo_go walk_range (fun i σ' H' => ∃ o5 o6 o7 M' xs, σ' = [some (.ref b), some (.int n), some (.str LET), some (.ref f), some (.int wd), o5, o6, o7, none, none] ∧ Stp (exB b) M H M' H' ∧ Bag M' H' b ∧ M' f = none ∧
    H' f = some (.lst (xs.map V.str)) ∧ xs.length = i ∧ xs.Nodup ∧ ∀ x ∈ xs, NameOk x)
    ⟨_, _, _, M2, [], rfl, S2.new _ hp, B2.new S2.mh hp, mf2, by rw [upd_ne (Ne.symm hfp)]; exact hf2, rfl, List.nodup_nil, by simp⟩ (fun _ _ _ _ _ => trivial) ?_ ?_
  · rintro i x σ1 H3 H3' hi ⟨o5, o6, o7, M3, xs, rfl, S3, B3, mf, hf3, hl, hnd, hok⟩ ⟨rfl, rfl⟩
    refine w_name ?_
    refine w_cut (fun σ' H' => ∃ (sz : Nat) (o5 o7 : Option V) (M' : Hp), 1 ≤ sz ∧ sz ≤ 6 ∧ σ' = [some (.ref b), some (.int n), some (.str LET), some (.ref f), some (.int wd), o5, some (.int sz), o7, none, none] ∧ Stp (exB b) M H M' H' ∧ Bag M' H' b ∧ M' f = none ∧
      H' f = some (.lst (xs.map V.str))) ?_ ?_
    · rintro σ2 H4 ⟨sz, o5, o7, M4, hz1, hz6, rfl, S4, B4, mf4, hf4⟩
      refine w_cut (fun σ' H' => ∃ (nm : Str) (o5 : Option V) (M' : Hp), NameOk nm ∧ σ' = [some (.ref b), some (.int n), some (.str LET), some (.ref f), some (.int wd), o5, some (.int sz), some (.str nm), none, none] ∧ Stp (exB b) M H M' H' ∧ Bag M' H' b ∧ M' f = none ∧
        H' f = some (.lst (xs.map V.str))) ?_ ?_
      · rintro σ3 H5 ⟨nm, o5, M5, hnm, rfl, S5, B5, mf5, hf5⟩
        refine w_cut (fun σ' H' => ∃ (nm : Str) (o5 : Option V) (M' : Hp), NameOk nm ∧ nm ∉ xs ∧ σ' = [some (.ref b), some (.int n), some (.str LET), some (.ref f), some (.int wd), o5, some (.int sz), some (.str nm), none, none] ∧ Stp (exB b) M H M' H' ∧ Bag M' H' b ∧ M' f = none ∧
          H' f = some (.lst (xs.map V.str))) ?_ ?_
        · rintro σ4 H6 ⟨nm, o5, M6, hnm, hnx, rfl, S6, B6, mf6, hf6⟩
          walk_at "vc"
          refine ⟨⟨f, _, rfl, hf6⟩, ?_⟩
          walk_at "vc"
          refine ⟨f, _, _, rfl, rfl, hf6, line_lt (by rw [List.length_map]; omega), ?_⟩
          walk_at "vc"
          refine ⟨_, _, _, M6, xs ++ [nm], rfl, S6.put _ mf6 (.inl hf), B6.put mf6 hfb, mf6, by rw [upd_same]; simp, by simp [hl], ?_, ?_⟩
          · exact nodup_snoc hnd hnx
          · intro y hy
            rcases List.mem_append.mp hy with z | z
            · exact hok y z
            · rw [List.mem_singleton.mp z]; exact hnm
        · intro U hU
          walk_at "vc"
          refine w_inS (.inl hf5) ?_
          walk_at "vc"
          refine ifd (fun q => ?_) (fun q => hU _ _ ⟨nm, _, M5, hnm, q, rfl, S5, B5, mf5, hf5⟩)
          walk_at "vc"
          refine ⟨_, rfl, ?_⟩
          refine lc_go (ex := no) (walkS (z := LET)) S5.mh (fun i acc _ => acc = (((sl LET).take i).filter fun c => !decide (ch c ∈ xs)).map fun c => V.str (ch c)) rfl (fun _ _ _ => trivial) ?_ ?_
          · rintro i v acc M6 H6 H6' D hi S6 hD m6 h6 rfl ⟨rfl, c, hc, rfl⟩
            have hf6 := (S6.keep mf5 hf5).2
            walk_at "vc"
            refine ⟨rfl, ?_⟩
            walk_at "vc"
            refine w_notInS (.inl hf6) ?_
            walk_at "vc"
            refine ifnd (fun q => ?_) (fun q => ?_)
            · walk_at "vc"
              exact LcA.of hD S6 m6 h6 (len_tf (by rw [LET_len]; omega)) (by rw [tkf_yes hc (by simpa using q)])
            · exact LcS.of S6 m6 h6 (by rw [tkf_no hc (by simpa using q)])
          · rintro D acc M6 H6 hD S6 m6 h6 rfl
            rw [tk_all] at h6
            obtain ⟨c, hc, hcx⟩ := LET_free (xs := xs) (by omega)
            have hm : c ∈ (sl LET).filter fun c => !decide (ch c ∈ xs) := List.mem_filter.mpr ⟨hc, by simpa using hcx⟩
            obtain ⟨c', r, e⟩ : ∃ c' r, ((sl LET).filter fun c => !decide (ch c ∈ xs)) = c' :: r := by
              cases e : (sl LET).filter fun c => !decide (ch c ∈ xs) with
              | nil => rw [e] at hm; cases hm
              | cons c' r => exact ⟨c', r, rfl⟩
            have hc' : c' ∈ (sl LET).filter fun c => !decide (ch c ∈ xs) := by rw [e]; exact List.mem_cons_self
            obtain ⟨h1, h2⟩ := List.mem_filter.mp hc'
            rw [e] at h6
            walk_at "vc"
            refine w_ixl (j := ((0 : Nat) : Int)) h6 (atI_nat rfl) ?_
            walk_at "vc"
            obtain ⟨mf6, hf6⟩ := S6.keep mf5 hf5
            exact hU _ _ ⟨ch c', _, M6, ⟨by simp, by simp, by simp [LET_low c' h1]⟩, by simpa using h2, rfl, S5.trans S6.of, B5.keep S6, mf6, hf6⟩
      · intro U hU
        walk_at "vc"
        refine ⟨⟨_, rfl⟩, ?_⟩
        walk_at "vc"
        refine w_r1 (by omega) ?_
        rw [Int.toNat_natCast]
        refine lc_goB walk_range S4.mh B4 (fun i acc _ => ∃ cs : List Nat, cs.length = i ∧ (∀ c ∈ cs, low c = true) ∧ acc = cs.map fun c => V.str (ch c)) ⟨[], rfl, by simp, rfl⟩ (fun _ _ _ => trivial) ?_ ?_
        · rintro i v acc M5 H5 H5' D hi S5 B5 hD neD m5 h5 ⟨cs, hcl, hlow, rfl⟩ ⟨rfl, rfl⟩
          walk_at "vc"
          refine ⟨rfl, ?_⟩
          walk_at "vc"
          refine ⟨b, wd, rfl, hw0, by omega, M5, S5.mh, B5, ?_⟩
          rintro d v M6 H6 ⟨j, rfl, hj⟩ S6 B6 rfl
          have hj' : j < (sl LET).length := by rw [LET_len]; omega
          refine w_ixS (line_of (by rw [len_sl, LET_len]; decide)) (atI_nat (List.getElem?_eq_getElem hj')) ?_
          obtain ⟨m6, h6⟩ := S6.keepB m5 h5 neD
          refine LcB.of hD neD (S5.trans S6) B6 m6 h6 (by rw [List.length_map]; omega) ⟨cs ++ [(sl LET)[j]], by simp [hcl], ?_, by simp⟩
          intro c hc
          rcases List.mem_append.mp hc with z | z
          · exact hlow c z
          · rw [List.mem_singleton.mp z]; exact LET_low _ (List.getElem_mem hj')
        · rintro D acc M5 H5 hD neD S5 B5 m5 h5 ⟨cs, hcl, hlow, e⟩
          rw [join_strs e] at h5
          refine ⟨_, D, _, rfl, rfl, .inl h5, join_size _ (by omega), ?_⟩
          rw [join_ch]
          walk_at "vc"
          obtain ⟨mf5, hf5⟩ := S5.keepB mf4 hf4 hfb
          exact hU _ _ ⟨mkS cs, _, M5, ⟨by rw [sl_mk]; omega, by rw [sl_mk]; omega, by rw [sl_mk]; exact hlow⟩, rfl, S4.trans S5, B5, mf5, hf5⟩
    · intro U hU
      walk_at "vc"
      refine ⟨b, 7, rfl, by decide, by decide, M3, S3.mh, B3, ?_⟩
      rintro d v M4 H4 ⟨j, rfl, hj⟩ S4 B4 rfl
      obtain ⟨mf4, hf4⟩ := S4.keepB mf hf3 hfb
      walk_at "vc"
      refine ifd (fun q => ?_) (fun q => ?_)
      · walk_at "vc"
        exact hU _ _ ⟨6, _, _, M4, by decide, by decide, rfl, S3.trans S4, B4, mf4, hf4⟩
      · walk_at "vc"
        refine ⟨b, 3, rfl, by decide, by decide, M4, S4.mh, B4, ?_⟩
        rintro d v M5 H5 ⟨j, rfl, hj⟩ S5 B5 rfl
        obtain ⟨mf5, hf5⟩ := S5.keepB mf4 hf4 hfb
        walk_at "vc"
        exact hU _ _ ⟨1 + j, _, _, M5, by omega, by omega, rfl, (S3.trans S4).trans S5, B5, mf5, hf5⟩
  · rintro σ1 H3 ⟨o5, o6, o7, M3, xs, rfl, S3, B3, mf, hf3, hl, hnd, hok⟩
    walk_at "vc"
    exact k _ _ _ _ ⟨xs, rfl, hl, hnd, hok⟩ (S3.fix hf3 hf) (B3.fix hfb (.inl mf)) (Is.of_strs upd_same)
end
end Nt
namespace Nt
section
variable {P : Program} {w : World} {K : PySem.W.Frag} {mg : Str → Option Value} {base : Heap}
def sp_l_clean : Sp := fun vs H Q _ => ∃ (v : V) (xs : List Str), vs = [v] ∧ xs.length ≤ 1000 ∧ (∀ x ∈ xs, x.length ≤ 1000) ∧ ∃ M, Same M H ∧ Is M (dS xs) v ∧ Ret M H Q (dS (cleanS xs))
theorem ok_l_clean (T : Tx K mg) : Good P w K mg base CX0 1 (He.fAd K (He.DefD.at_ d_l_clean)) p_l_clean sp_l_clean := by
  obtain ⟨fd, F⟩ := T.def_ 24 (d := d_l_clean) rfl
  refine good_of F sc_l_clean (fun _ _ _ _ _ _ us hl => match us, hl with | [_], _ => rfl) (by intro vs H Q E h; (repeat obtain ⟨_, h⟩ := h); subst_vars; rfl) fun cdv A outer s H vs Q E hr h => ?_
  have hu := hu_of hr
  refine ⟨_, (pss_cons (ps_set (i := 1) sc_l_clean.nd rfl (Or.inr rfl) (pe_lc (own := [("_law_row", 2)]) (by rfl) sc_l_clean.nd (iq_list K (pv 0)) (blkOk_by (own := [("_law_row", 2)]) (N := n_l_clean) (sc := He.DefD.scope d_l_clean) (by decide +kernel)) (fun _ _ _ _ _ => (pg_name (i := 2) sc_l_clean.nd rfl (Or.inl rfl) (Or.inr rfl))) (fun _ _ _ _ _ => pts_one (pt_cmpR op_ne (pv 2) (pe_op op_mul_str pe_str (pe_callB call_len_str (by rfl) T.b_len (by decide +kernel) (pa_cons (pv 2) pa_nil))) (nomark _))) (fun _ _ _ _ _ => (pv 2))))  (pss_one (ps_ret (pe_lc (own := [("_law_k", 3)]) (by rfl) sc_l_clean.nd (pi_range1 (by rfl) T.b_range (pa_cons (pe_callB cq_len (by rfl) T.b_len (by decide +kernel) (pa_cons (pv 1) pa_nil)) pa_nil)) (blkOk_by (own := [("_law_k", 3)]) (N := n_l_clean) (sc := He.DefD.scope d_l_clean) (by decide +kernel)) (fun _ _ _ _ _ => (pg_name (i := 3) sc_l_clean.nd rfl (Or.inl rfl) (Or.inr rfl))) (fun _ _ _ _ _ => pts_one (pt_cmpR oq_notIn (pe_ix xq_list (pv 1) (pv 3) (fun _ _ => rfl)) (pe_slice sq_list (pv 1) po_none (po_some (pv 3))) (by rfl))) (fun _ _ _ _ _ => (pe_ix xq_list (pv 1) (pv 3) (fun _ _ => rfl))))))), ?_⟩
  obtain ⟨v, xs, rfl, hx, hl, M, s0, i0, k⟩ := h
  obtain ⟨a, rfl, ha⟩ := i0.strs
  walk_at "vc"
  refine ⟨a, rfl, ⟨_, SqL.of (s0 _ _ ha)⟩, ?_⟩
  refine lc_go (ex := no) walkL s0 (fun i acc _ => acc = ((xs.take i).filter fun x => !decide (x = blk x.length)).map V.str) rfl (fun _ _ S => S.mh _ _ (S.mm _ _ ha)) ?_ ?_
  · rintro i v acc M1 H1 H1' D hi S1 hD m1 h1 rfl ⟨rfl, hv⟩
    obtain ⟨x, hx', rfl⟩ := map_at hv
    have hlx := hl x (mem_of_get hx')
    walk_at "vc"
    refine ⟨rfl, ?_⟩
    walk_at "vc"
    refine ⟨x, rfl, line_of (by omega), ?_⟩
    walk_at "vc"
    refine ⟨_, _, rfl, rfl, by omega, by omega, by decide +kernel, ?_⟩
    rw [rep_dot]
    walk_at "vc"
    refine ifnd (fun q => ?_) (fun q => ?_)
    · walk_at "vc"
      exact LcA.of hD S1 m1 h1 (len_tf (by omega)) (by rw [tkf_yes hx' (by simpa using q)])
    · exact LcS.of S1 m1 h1 (by rw [tkf_no hx' (by simpa using q)])
  · rintro D acc M1 H1 hD S1 m1 h1 rfl
    rw [List.length_map, tk_all] at h1
    have hD' : H1 D = some (.lst ((nbS xs).map V.str)) := h1
    have S2 := S1.fix h1 hD
    have hnl : (nbS xs).length ≤ 1000 := Nat.le_trans (List.length_filter_le _ _) hx
    walk_at "vc"
    refine ⟨D, _, rfl, .inl hD', ?_⟩
    walk_at "vc"
    rw [List.length_map]
    refine w_r1 (by omega) ?_
    rw [Int.toNat_natCast]
    refine lc_go (ex := no) walkR S2.mh (fun i acc _ => acc = (dedT (nbS xs) i).map V.str) rfl (fun _ _ _ => trivial) ?_ ?_
    · rintro i v acc M3 H3 H3' D' hi S3 hD' m3 h3 rfl ⟨rfl, rfl⟩
      have hD3 := S3.same _ _ ‹H1 D = some (.lst ((nbS xs).map V.str))›
      have hx := List.getElem?_eq_getElem hi
      have hx2 : ((nbS xs).map V.str)[i]? = some (.str (nbS xs)[i]) := by rw [List.getElem?_map, hx]; rfl
      walk_at "vc"
      refine ⟨rfl, ?_⟩
      walk_at "vc"
      refine w_ixl hD3 (atI_nat hx2) ?_
      walk_at "vc"
      refine ⟨D, _, rfl, hD3, fun p hp => ?_⟩
      rw [cutV_to, ← List.map_take]
      refine w_notInS (.inl upd_same) ?_
      walk_at "vc"
      have S4 := S3.new (.lst (((nbS xs).take i).map V.str)) hp
      have h4 : upd H3' p (.lst (((nbS xs).take i).map V.str)) D' = some (.lst ((dedT (nbS xs) i).map V.str)) := upd_old h3 hp
      refine ifnd (fun q => ?_) (fun q => ?_)
      · walk_at "vc"
        refine w_ixl (upd_old hD3 hp) (atI_nat hx2) ?_
        exact LcA.of hD' S4 m3 h4 (by rw [List.length_map]; have := dedT_len (nbS xs) i; omega) (by rw [dedT, hx]; simp [q])
      · exact LcS.of S4 m3 h4 (by rw [dedT, hx]; simp [q])
    · rintro D' acc M3 H3 hD' S3 m3 h3 rfl
      have hD0 : H D' = none := S1.hfree hD'
      have S4 := S2.trans S3
      exact k _ _ _ (S4.fix h3 hD0) (Is.of_strs upd_same)
def sp_l_closure : Sp := fun vs H Q _ => ∃ (v : V) (seeds : List Str) (n cap : Nat), vs = [v, .int n, .int cap] ∧ n ≤ 100 ∧ 1 ≤ cap ∧ cap ≤ 50 ∧ seeds.length ≤ 100 ∧ (∀ s ∈ seeds, s.length = n) ∧ ∃ M, Same M H ∧ Is M (dS seeds) v ∧
  (cap < (itB seeds (blk n) (cap + 1)).length → Ret M H Q .non) ∧ (∀ ys, (itB seeds (blk n) (cap + 1)).length ≤ cap → ys.Perm (itB seeds (blk n) (cap + 1)) → sortedS ys = true → Ret M H Q (dS ys))
theorem ok_l_closure (T : Tx K mg) : Good P w K mg base CX0 2 (He.fAd K (He.DefD.at_ d_l_closure)) p_l_closure sp_l_closure := by
  obtain ⟨fd, F⟩ := T.def_ 22 (d := d_l_closure) rfl
  have g_l_over : Good P w K mg base CX0 1 (He.fAd K (He.DefD.at_ d_l_over)) p_l_over sp_l_over := ok_l_over T
  refine good_of F sc_l_closure (fun _ _ _ _ _ _ us hl => match us, hl with | [_, _, _], _ => rfl) (by intro vs H Q E h; (repeat obtain ⟨_, h⟩ := h); subst_vars; rfl) fun cdv A outer s H vs Q E hr h => ?_
  have hu := hu_of hr
  refine ⟨_, (pss_cons (ps_par (i := 3) (j := 4) rfl sc_l_closure.nd rfl rfl (by decide) rfl rfl (pa_cons (pe_lst (pa_cons (pe_op op_mul_str pe_str (pv 1)) pa_nil)) (pa_cons (pe_disp (pps_cons (pe_op op_mul_str pe_str (pv 1)) pe_bl pps_nil) (by rfl) (by rfl) (fun z => by cases z) (by decide)) pa_nil)) (by rfl))  (pss_cons (ps_for PassesOwn.never rfl (pi_range1 (by rfl) T.b_range (pa_cons (pe_op op_add (pv 2) pe_int) pa_nil)) (pg_name (i := 5) sc_l_closure.nd rfl (Or.inl rfl) (Or.inl rfl))  (pss_one (ps_if (pt_cmpR op_lt (pv 5) (pe_callB cq_len (by rfl) T.b_len (by decide +kernel) (pa_cons (pv 3) pa_nil)) (nomark _))  (pss_cons (ps_for PassesOwn.never rfl (iq_list K (pv 0)) (pg_name (i := 6) sc_l_closure.nd rfl (Or.inl rfl) (Or.inl rfl))  (pss_cons (ps_set (i := 7) sc_l_closure.nd rfl (Or.inl rfl) (pe_good g_l_over (hr.mono (by decide)) rfl T.m_l_over (pa_cons (pv 6) (pa_cons (pe_ix xq_list (pv 3) (pv 5) (fun _ _ => rfl)) pa_nil))))  (pss_one (ps_if (pt_cmp (pc_dnotin hu (pv 7) (pv 4)) rfl)  (pss_cons (ps_dput hu (pv 4) (pv 7) pe_bl rfl)  (pss_one (ps_expr (eq_bm PySem.F.slot_list_append PySem.F.type_list_append mt_append (pv 3) (pa_cons (pv 7) pa_nil)))))  pss_nil))))  (pss_one (ps_if (pt_cmpR op_gt (pe_callB cq_len (by rfl) T.b_len (by decide +kernel) (pa_cons (pv 3) pa_nil)) (pv 2) (nomark _))  (pss_one (ps_ret pe_non))  pss_nil)))  pss_nil)))  (pss_one (ps_ret (pe_callB cr_sortedS (by rfl) T.b_sorted (by decide +kernel) (pa_cons (pv 3) pa_nil)))))), ?_⟩
  obtain ⟨v, seeds, n, cap, rfl, hn, hc1, hc2, hsl, hs, M, s0, i0, kN, kY⟩ := h
  obtain ⟨a, rfl, ha⟩ := i0.strs
  walk_at "vc"
  refine ⟨_, _, rfl, rfl, by omega, by omega, by decide +kernel, ?_⟩
  rw [rep_dot]
  walk_at "vc"
  intro f hf
  walk_at "vc"
  intro d hd
  refine w_one ?_
  walk_at "vc"
  refine ⟨_, _, rfl, rfl, by omega, by omega, by decide +kernel, ?_⟩
  rw [rep_dot]
  walk_at "vc"
  refine ⟨upd_same, [(.inr (blk n), .bl true)], rfl, by simp, ?_⟩
  obtain ⟨hfd, hd0⟩ := two_ne hd
  walk_at "vc"
  have S1 := (((Stp.refl (ex := no) s0).new (.lst [.str (blk n)]) hf).new (.dK []) hd).put (.dK (mergeK [] [(Sum.inr (blk n), V.bl true)])) (none_of_same s0 hd0) (.inl hd0)
  refine w_r1 (n := cap + 1) (by omega) ?_
  rw [Int.toNat_natCast]
  let I : Nat → Option V → Option V → Option V → List Str → L2.St → Hp → Prop := fun i o5 o6 o7 fs σ' H' => ∃ M', σ' = [some (.ref a), some (.int n), some (.int cap), some (.ref f), some (.ref d), o5, o6, o7] ∧ Stp no M H M' H' ∧ M' f = none ∧ M' d = none ∧ H' f = some (.lst (fs.map V.str)) ∧ H' d = some (.dK (kd yes fs))
  refine fo_go walkR (fun i σ' H' => ∃ o5 o6 o7, I i o5 o6 o7 (itB seeds (blk n) i) σ' H' ∧ (itB seeds (blk n) i).length ≤ cap)
    ⟨_, _, _, ⟨M, rfl, S1, none_of_same s0 hf, none_of_same s0 hd0, by rw [upd_ne (Ne.symm hfd), upd_ne (Ne.symm hfd), upd_same]; rfl, upd_same⟩, hc1⟩ (fun _ _ _ _ _ => trivial) ?_ ?_
  · rintro i x σ1 H1 H1' hi ⟨o5, o6, o7, ⟨M1, rfl, S1, mf, md, hf1, hd1⟩, hle⟩ ⟨rfl, rfl⟩
    walk_at "vc"
    refine ⟨f, _, rfl, .inl hf1, ?_⟩
    rw [List.length_map]
    walk_at "vc"
    refine ifd (fun q => ?_) (fun q => ?_)
    · have q : i < (itB seeds (blk n) i).length := by omega
      obtain ⟨r, hr1⟩ : ∃ r, (itB seeds (blk n) i)[i]? = some r := ⟨_, List.getElem?_eq_getElem q⟩
      have e1 : itB seeds (blk n) (i + 1) = stepB seeds r (itB seeds (blk n) i) := by rw [itB, hr1]
      refine w_cut (fun σ' H' => ∃ o6 o7, I i (some (.int i)) o6 o7 (itB seeds (blk n) (i + 1)) σ' H') ?_ ?_
      · rintro σ2 H2 ⟨o6, o7, M2, rfl, S2, mf2, md2, hf2, hd2⟩
        walk_at "vc"
        refine ⟨f, _, rfl, .inl hf2, ?_⟩
        rw [List.length_map]
        walk_at "vc"
        refine ifd (fun q2 => ?_) (fun q2 => ?_)
        · walk_at "vc"
          refine kN ?_ _ _ _ S2 rfl
          have := itB_le (seeds := seeds) (z := blk n) (show i + 1 ≤ cap + 1 by omega)
          omega
        · walk_at "vc"
          exact ⟨_, _, _, ⟨M2, rfl, S2, mf2, md2, hf2, hd2⟩, by omega⟩
      · intro U hU
        walk_at "vc"
        refine ⟨a, rfl, ⟨_, SqL.of (S1.mh _ _ (S1.mm _ _ ha))⟩, ?_⟩
        refine fo_go walkL (fun j σ' H' => ∃ o6 o7, I i (some (.int i)) o6 o7 ((seeds.take j).foldl (addB r) (itB seeds (blk n) i)) σ' H') ⟨_, _, M1, rfl, S1, mf, md, hf1, hd1⟩ (fun _ _ _ _ ⟨_, _, _, _, S, _⟩ => S.mh _ _ (S.mm _ _ ha)) ?_ ?_
        · rintro j v σ3 H3 H3' hj ⟨o6, o7, M3, rfl, S3, mf3, md3, hf3, hd3⟩ ⟨rfl, hv⟩
          obtain ⟨s', hs1, rfl⟩ := map_at hv
          obtain ⟨t, et, ht⟩ := stepB_pre (r := r) (seeds.take j) (itB seeds (blk n) i)
          have et' : (seeds.take j).foldl (addB r) (itB seeds (blk n) i) = itB seeds (blk n) i ++ t := et
          rw [List.length_take] at ht
          have hget : (((seeds.take j).foldl (addB r) (itB seeds (blk n) i)).map V.str)[i]? = some (.str r) := by
            rw [List.getElem?_map, et', List.getElem?_append_left q, hr1]
            rfl
          have hlen : ((seeds.take j).foldl (addB r) (itB seeds (blk n) i)).length ≤ 1000 := by
            rw [et', List.length_append]
            omega
          have e2 := fold_tk (g := addB r) (b := itB seeds (blk n) i) hs1
          walk_at "vc"
          refine w_ixl hf3 (atI_nat hget) ?_
          walk_at "vc"
          refine ⟨s', r, rfl, M3, S3.mh, by rw [hs s' (mem_of_get hs1)]; omega, ?_⟩
          rintro v M4 H4 S4 rfl
          obtain ⟨mf4, hf4⟩ := S4.keep mf3 hf3
          obtain ⟨md4, hd4⟩ := S4.keep md3 hd3
          walk_at "vc"
          refine kd_has hd4 (fun q3 => ?_) (fun q3 => ?_)
          · walk_at "vc"
            rw [e2]
            refine ⟨_, _, M4, rfl, S3.trans S4, mf4, md4, ?_, ?_⟩
            · rw [hf4, addB, if_pos q3]
            · rw [hd4, addB, if_pos q3]
          · walk_at "vc"
            refine kd_set (f := yes) hd4 q3 (by omega) rfl ?_
            walk_at "vc"
            have hf5 : upd H4 d (.dK (kd yes ((seeds.take j).foldl (addB r) (itB seeds (blk n) i) ++ [ovr s' r]))) f = some (.lst (((seeds.take j).foldl (addB r) (itB seeds (blk n) i)).map V.str)) := by rw [upd_ne (Ne.symm hfd)]; exact hf4
            refine ⟨⟨f, _, rfl, hf5⟩, ?_⟩
            walk_at "vc"
            refine ⟨f, _, _, rfl, rfl, hf5, line_lt (by rw [List.length_map]; omega), ?_⟩
            walk_at "vc"
            rw [e2]
            refine ⟨_, _, M4, rfl, ((S3.trans S4).put _ md4 (.inl hd0)).put _ mf4 (.inl hf), mf4, md4, ?_, ?_⟩
            · rw [upd_same, addB, if_neg q3]; simp
            · rw [upd_ne hfd, upd_same, addB, if_neg q3]
        · rintro σ3 H3 ⟨o6, o7, M3, rfl, S3, mf3, md3, hf3, hd3⟩
          walk_at "vc"
          rw [List.length_map, tk_all] at hf3 hd3
          rw [e1] at hU
          exact hU _ _ ⟨_, _, M3, rfl, S3, mf3, md3, hf3, hd3⟩
    · have e1 : itB seeds (blk n) (i + 1) = itB seeds (blk n) i := itB_stay (by omega) 1
      walk_at "vc"
      rw [e1]
      exact ⟨_, _, _, ⟨M1, rfl, S1, mf, md, hf1, hd1⟩, hle⟩
  · rintro σ1 H1 ⟨o5, o6, o7, ⟨M1, rfl, S1, mf, md, hf1, hd1⟩, hle⟩
    walk_at "vc"
    refine ⟨f, _, rfl, SqL.of hf1, by omega, ?_⟩
    intro ys p hp hs hpn
    refine kY ys hle hp hs _ _ _ (S1.lay _ hpn) (Is.of_strs upd_same)
end
end Nt
namespace Nt
section
variable {P : Program} {w : World} {K : PySem.W.Frag} {mg : Str → Option Value} {base : Heap}
def sp_l_seeds : Sp := fun vs H Q _ => ∃ (b : Addr) (v : V) (cs : Cells), vs = [.ref b, v] ∧ CellsOk cs ∧ ∃ M, Same M H ∧ Bag M H b ∧ Is M (cellsD cs) v ∧ RetB b M H Q (fun d => ∃ seeds, d = dS seeds ∧ SeedsOk cs seeds ∧ seeds.length ≤ 5)
theorem ok_l_seeds (T : Tx K mg) : Good P w K mg base CX0 2 (He.fAd K (He.DefD.at_ d_l_seeds)) p_l_seeds sp_l_seeds := by
  obtain ⟨fd, F⟩ := T.def_ 25 (d := d_l_seeds) rfl
  have g_l_clean : Good P w K mg base CX0 1 (He.fAd K (He.DefD.at_ d_l_clean)) p_l_clean sp_l_clean := ok_l_clean T
  have g_l_pull : Good P w K mg base CX0 1 (He.fAd K (He.DefD.at_ d_l_pull)) p_l_pull sp_l_pull := ok_l_pull T
  refine good_of F sc_l_seeds (fun _ _ _ _ _ _ us hl => match us, hl with | [_, _], _ => rfl) (by intro vs H Q E h; (repeat obtain ⟨_, h⟩ := h); subst_vars; rfl) fun cdv A outer s H vs Q E hr h => ?_
  have hu := hu_of hr
  refine ⟨_, (pss_cons (ps_set (i := 2) sc_l_seeds.nd rfl (Or.inl rfl) (pe_lst pa_nil))  (pss_cons (ps_for PassesOwn.never rfl (pi_range1 (by rfl) T.b_range (pa_cons (pe_op op_add pe_int (pe_good g_l_pull (hr.mono (by decide)) rfl T.m_l_pull (pa_cons (pv 0) (pa_cons pe_int pa_nil)))) pa_nil)) (pg_name (i := 3) sc_l_seeds.nd rfl (Or.inl rfl) (Or.inl rfl))  (pss_cons (ps_setLc (i := 4) (own := [("_law_name", 6), ("_law_many", 7)]) (by rfl) sc_l_seeds.nd rfl rfl (sw_true rfl rfl rfl (by decide +kernel)) (iq_list K (pv 1)) (blkOk_by (own := [("_law_name", 6), ("_law_many", 7)]) (N := n_l_seeds) (sc := He.DefD.scope d_l_seeds) (by decide +kernel)) (fun _ _ _ _ _ => (gq_tup K (n := 2) rfl (pgs_cons (pg_name (i := 6) sc_l_seeds.nd rfl (Or.inl rfl) (Or.inr rfl)) (pgs_cons (pg_name (i := 7) sc_l_seeds.nd rfl (Or.inl rfl) (Or.inr rfl)) pgs_nil)))) (fun _ _ _ _ _ => pts_nil) (fun _ _ _ _ _ => (pe_ifExp (pt_cmpR op_lt (pe_good g_l_pull (hr.mono (by decide)) rfl T.m_l_pull (pa_cons (pv 0) (pa_cons pe_int pa_nil))) pe_int (nomark _)) pe_str (pe_callTy call_str_int (by rfl) T.b_str (by decide +kernel) (pa_cons (pe_good g_l_pull (hr.mono (by decide)) rfl T.m_l_pull (pa_cons (pv 0) (pa_cons (pv 7) pa_nil))) pa_nil)))))  (pss_cons (ps_if (pt_cmpR (op_eqD hr.units) (pv 4) (pe_op op_rep (pe_lst (pa_cons pe_str pa_nil)) (pe_callB cq_len (by rfl) T.b_len (by decide +kernel) (pa_cons (pv 1) pa_nil))) (nomark _))  (pss_cons (ps_set (i := 5) sc_l_seeds.nd rfl (Or.inr rfl) (pe_good g_l_pull (hr.mono (by decide)) rfl T.m_l_pull (pa_cons (pv 0) (pa_cons (pe_callB cq_len (by rfl) T.b_len (by decide +kernel) (pa_cons (pv 1) pa_nil)) pa_nil))))  (pss_one (ps_asg (pe_callTy call_str_int (by rfl) T.b_str (by decide +kernel) (pa_cons (pe_good g_l_pull (hr.mono (by decide)) rfl T.m_l_pull (pa_cons (pv 0) (pa_cons (pe_ix xq_tup (pe_ix xq_list (pv 1) (pv 5) (fun _ _ => rfl)) pe_int (fun _ _ => rfl)) pa_nil))) pa_nil)) (pg_sub (pv 4) (pv 5) set_list))))  pss_nil)  (pss_one (ps_expr (eq_bm PySem.F.slot_list_append PySem.F.type_list_append mt_append (pv 2) (pa_cons (pv 4) pa_nil)))))))  (pss_cons (ps_set (i := 8) sc_l_seeds.nd rfl (Or.inl rfl) (pe_ix xq_list (pv 2) (pe_un un_neg pe_int) (fun _ _ => rfl)))  (pss_cons (ps_for PassesOwn.never rfl (pi_range1 (by rfl) T.b_range (pa_cons (pe_callB cq_len (by rfl) T.b_len (by decide +kernel) (pa_cons (pv 1) pa_nil)) pa_nil)) (pg_name (i := 5) sc_l_seeds.nd rfl (Or.inr rfl) (Or.inl rfl))  (pss_one (ps_if (pt_val (pe_callB (cq_all rfl) (by rfl) T.b_all (by decide +kernel) (pa_cons (pe_lc (own := [("_law_signs", 4)]) (by rfl) sc_l_seeds.nd (iq_list K (pv 2)) (blkOk_by (own := [("_law_signs", 4)]) (N := n_l_seeds) (sc := He.DefD.scope d_l_seeds) (by decide +kernel)) (fun _ _ _ _ _ => (pg_name (i := 4) sc_l_seeds.nd rfl (Or.inl rfl) (Or.inr rfl))) (fun _ _ _ _ _ => pts_nil) (fun _ _ _ _ _ => (pe_cmpR op_eq (pe_ix xq_list (pv 4) (pv 5) (fun _ _ => rfl)) pe_str (nomark _)))) pa_nil)))  (pss_one (ps_asg (pe_callTy call_str_int (by rfl) T.b_str (by decide +kernel) (pa_cons (pe_good g_l_pull (hr.mono (by decide)) rfl T.m_l_pull (pa_cons (pv 0) (pa_cons (pe_ix xq_tup (pe_ix xq_list (pv 1) (pv 5) (fun _ _ => rfl)) pe_int (fun _ _ => rfl)) pa_nil))) pa_nil)) (pg_sub (pv 8) (pv 5) set_list)))  pss_nil)))  (pss_one (ps_ret (pe_good g_l_clean (hr.mono (by decide)) rfl T.m_l_clean (pa_cons (pe_lc (own := [("_law_signs", 4)]) (by rfl) sc_l_seeds.nd (iq_list K (pv 2)) (blkOk_by (own := [("_law_signs", 4)]) (N := n_l_seeds) (sc := He.DefD.scope d_l_seeds) (by decide +kernel)) (fun _ _ _ _ _ => (pg_name (i := 4) sc_l_seeds.nd rfl (Or.inl rfl) (Or.inr rfl))) (fun _ _ _ _ _ => pts_nil) (fun _ _ _ _ _ => (pe_m1 PySem.F.slot_str_join PySem.F.type_str_join mq_join pe_str (pv 4)))) pa_nil)))))))), ?_⟩
  obtain ⟨b, v, cs, rfl, hc, M, s0, B, ic, k⟩ := h
  obtain ⟨ca, cvs, rfl, hca, hcv⟩ := ic
  have hcl : cvs.length = cs.length := by rw [hcv.len, List.length_map]
  have hcL := hc.l1
  have hcL2 := hc.l2
  refine w_seq ?_
  refine w_asg ?_
  refine w_lst ?_
  refine w_nil ?_
  refine w_litT (by with_unfolding_all rfl) ?_
  intro f hf
  refine w_name ?_
  have hfb := B.ne hf
  -- the seeds as lists of signs
  let I : Nat → List (List Nat) → L2.St → Hp → Prop := fun i cds σ' H' => ∃ o3 o4 o5 M' rs, σ' = [some (.ref b), some (.ref ca), some (.ref f), o3, o4, o5, none, none, none] ∧ Stp (exB b) M H M' H' ∧ Bag M' H' b ∧ M' f = none ∧
    H' f = some (.lst (rs.map V.ref)) ∧ OL H M' H' rs (cds.map fun l => l.map ch) ∧ f ∉ rs ∧ b ∉ rs ∧ cds.length = i ∧ ∀ l ∈ cds, RwL cs l
  with_reducible refine w_cut (fun σ' H' => ∃ cds, 2 ≤ cds.length ∧ cds.length ≤ 5 ∧ I cds.length cds σ' H') ?_ ?_
  · rintro σ1 H1 ⟨cds, hl2, hl5, o3, o4, o5, M1, rs, rfl, S1, B1, mf1, hf1, ol, hfr, hbr, _, hrw⟩
    have hrl := ol.len
    rw [List.length_map] at hrl
    obtain ⟨m, hm⟩ : ∃ m, cds.length = m + 1 := ⟨cds.length - 1, by omega⟩
    obtain ⟨L, hL⟩ : ∃ L, rs[m]? = some L := ⟨_, List.getElem?_eq_getElem (by omega)⟩
    have hLm := mem_of_get hL
    have hfr' := hfr
    walk_at "vc"
    refine w_ixl (v := .ref L) hf1 (atI_last (m := m) (by rw [List.length_map]; omega) (by rw [List.getElem?_map, hL]; rfl)) ?_
    with_reducible refine w_name ?_
    let J : List (List Nat) → L2.St → Hp → Prop := fun cds σ' H' => ∃ o3 o4 o5 M', σ' = [some (.ref b), some (.ref ca), some (.ref f), o3, o4, o5, none, none, some (.ref L)] ∧ Stp (exB b) M H M' H' ∧ Bag M' H' b ∧ M' f = none ∧
      H' f = some (.lst (rs.map V.ref)) ∧ OL H M' H' rs (cds.map fun l => l.map ch) ∧ cds.length = m + 1 ∧ ∀ l ∈ cds, RwL cs l
    have hca1 := S1.mh _ _ (S1.mm _ _ hca)
    with_reducible refine w_cut (fun σ' H' => ∃ cds, J cds σ' H' ∧ ∀ j, j < cs.length → Told cds j) ?_ ?_
    · rintro σ2 H2 ⟨cds, ⟨o3, o4, o5, M2, rfl, S2, B2, mf2, hf2, ol, hm, hrw⟩, ht⟩
      walk_at "vc"
      refine ⟨f, rfl, ⟨_, SqL.of hf2⟩, ?_⟩
      have hrl2 : rs.length = cds.length := by have := ol.len; rw [List.length_map] at this; exact this
      refine lc_go (ex := no) walkL S2.mh (fun n acc _ => acc = ((cds.take n).map mkS).map V.str) rfl (fun _ _ S => S.same _ _ hf2) ?_ ?_
      · rintro n v acc M3 H3 H3' D hn S3 hD m3 h3 rfl ⟨rfl, hv⟩
        obtain ⟨a, ha, rfl⟩ := map_at hv
        rw [List.length_map] at hn
        have hnl : n < cds.length := by omega
        have hln := List.getElem?_eq_getElem hnl
        obtain ⟨a', ha', _, _, hla⟩ := ol.at (i := n) (s := cds[n].map ch) (by rw [List.getElem?_map, hln]; rfl)
        rw [ha] at ha'
        cases ha'
        have hlr := (hrw _ (List.getElem_mem hnl)).1
        walk_at "vc"
        refine ⟨rfl, ?_⟩
        walk_at "vc"
        refine ⟨⟨_, rfl⟩, ?_⟩
        walk_at "vc"
        refine ⟨_, a, _, rfl, rfl, .inl (S3.same _ _ hla), join_size _ (by omega), ?_⟩
        rw [join_ch]
        refine LcA.of hD S3 m3 h3 (by rw [List.length_map, List.length_map, List.length_take]; omega) ?_
        rw [tk_snoc hln]
        simp only [List.map_append, List.map_cons, List.map_nil]
      · rintro D acc M3 H3 hD S3 m3 h3 rfl
        rw [List.length_map, hrl2, tk_all] at h3
        walk_at "vc"
        refine ⟨_, cds.map mkS, rfl, by rw [List.length_map]; omega, ?_, _, (S3.fix h3 hD).mh, Is.of_strs upd_same, ?_⟩
        · intro x hx
          obtain ⟨l, hl, rfl⟩ := List.mem_map.mp hx
          have := (hrw l hl).1
          rw [len_mk]
          omega
        · intro v M4 H4 S4 i4
          exact k _ _ _ _ ⟨_, rfl, seeds_ok hc (by omega) hrw ht, Nat.le_trans (clean_len _) (by rw [List.length_map]; omega)⟩ ((S2.trans (S3.fix h3 hD).of).trans S4.of) ((B2.keep (S3.fix h3 hD)).keep S4) i4
    · intro U hU
      walk_at "vc"
      refine ⟨ca, cvs, rfl, .inl hca1, ?_⟩
      walk_at "vc"
      refine w_r1 (n := cvs.length) (by omega) ?_
      rw [Int.toNat_natCast]
      refine fo_go walkR (fun i σ' H' => ∃ cds, J cds σ' H' ∧ ∀ j, j < i → Told cds j) ⟨cds, ⟨_, _, _, M1, rfl, S1, B1, mf1, hf1, ol, hm, hrw⟩, by intro j h; omega⟩ (fun _ _ _ _ _ => trivial) ?_ ?_
      · rintro i x σ1 H2 H2' hi ⟨cds, ⟨o3, o4, o5, M2, rfl, S2, B2, mf2, hf2, ol, hm, hrw⟩, ht⟩ ⟨rfl, rfl⟩
        have hrl2 : rs.length = cds.length := by have := ol.len; rw [List.length_map] at this; exact this
        walk_at "vc"
        refine ⟨f, rfl, ⟨_, SqL.of hf2⟩, ?_⟩
        refine lc_go (ex := no) walkL S2.mh (fun n acc _ => acc = ((cds.take n).map fun l => decide (l[i]? = some 46)).map V.bl) rfl (fun _ _ S => S.same _ _ hf2) ?_ ?_
        · rintro n v acc M3 H3 H3' D hn S3 hD m3 h3 rfl ⟨rfl, hv⟩
          obtain ⟨a, ha, rfl⟩ := map_at hv
          rw [List.length_map] at hn
          have hnl : n < cds.length := by omega
          have hln := List.getElem?_eq_getElem hnl
          obtain ⟨a', ha', _, _, hla⟩ := ol.at (i := n) (s := cds[n].map ch) (by rw [List.getElem?_map, hln]; rfl)
          rw [ha] at ha'
          cases ha'
          have hlr := (hrw _ (List.getElem_mem hnl)).1
          have hil : i < cds[n].length := by omega
          walk_at "vc"
          refine ⟨rfl, ?_⟩
          walk_at "vc"
          refine w_ixl (v := .str (ch cds[n][i])) (S3.same _ _ hla) (atI_nat (by rw [List.getElem?_map, List.getElem?_map, List.getElem?_eq_getElem hil]; rfl)) ?_
          walk_at "vc"
          refine LcA.of hD S3 m3 h3 (by rw [List.length_map, List.length_map, List.length_take]; omega) ?_
          rw [tk_snoc hln]
          have e1 : decide (ch cds[n][i] = Str.ofString ".") = decide (cds[n][i]? = some 46) := by
            rw [List.getElem?_eq_getElem hil, dot_ofS]
            simp
          rw [e1]
          simp only [List.map_append, List.map_cons, List.map_nil]
        · rintro D acc M3 H3 hD S3 m3 h3 rfl
          rw [List.length_map, hrl2, tk_all] at h3
          walk_at "vc"
          refine ⟨D, _, rfl, h3, ?_⟩
          walk_at "vc"
          obtain ⟨mf3, hf3⟩ := S3.keep mf2 hf2
          have ol3 := ol.step (M' := M3) (H' := H3) fun a ha o m e => S3.keep m e
          refine ifb (fun q => ?_) (fun q => ?_)
          · have hk := List.getElem?_eq_getElem (show i < cs.length by omega)
            obtain ⟨a0, hv0, ha0⟩ := cells_get hcv hk
            have ha3 := S3.same _ _ (S2.mh _ _ (S2.mm _ _ ha0))
            have hca3 := S3.same _ _ (S2.mh _ _ (S2.mm _ _ hca))
            have hk1 := hc.mn _ (mem_of_get hk)
            walk_at "vc"
            refine w_ixl hca3 (atI_nat hv0) ?_
            walk_at "vc"
            refine w_ixt ha3 rfl ?_
            walk_at "vc"
            refine ⟨b, cs[i].2, rfl, hk1.1, by omega, M3, S3.mh, B2.keep S3, ?_⟩
            rintro d v M6 H6 ⟨j2, rfl, hj2⟩ S6 B6 rfl
            obtain ⟨mf6, hf6⟩ := S6.keepB mf3 hf3 hfb
            have ol6 := ol3.step (M' := M6) (H' := H6) fun a ha o m e => S6.keepB m e (fun z => hbr (z ▸ ha))
            obtain ⟨l, hlm⟩ : ∃ l, cds[m]? = some l := ⟨_, List.getElem?_eq_getElem (by omega)⟩
            obtain ⟨L', hL', hL0, mL, hLv⟩ := ol6.at (i := m) (s := l.map ch) (by rw [List.getElem?_map, hlm]; rfl)
            rw [hL] at hL'
            cases hL'
            have hlr := hrw l (mem_of_get hlm)
            refine ⟨_, rfl, lo2 j2 (by omega), ?_⟩
            rw [dig j2 (by omega)]
            walk_at "vc"
            refine w_setl hLv (ixN_nat (by rw [List.length_map, List.length_map, hlr.1]; omega)) ?_
            have hLf : L ≠ f := fun z => hfr (z ▸ hLm)
            have hLb : L ≠ b := fun z => hbr (z ▸ hLm)
            have o7 := ol6.put (s := (l.set i (48 + j2)).map ch) hL
            have e7 : (cds.map fun l => l.map ch).set m ((l.set i (48 + j2)).map ch) = (cds.set m (l.set i (48 + j2))).map fun l => l.map ch := by simp [List.map_set]
            rw [e7] at o7
            refine ⟨cds.set m (l.set i (48 + j2)), ⟨_, _, _, M6, rfl, ((S2.trans S3.of).trans S6).put _ mL (.inl hL0), B6.put mL hLb, mf6, by rw [upd_ne (Ne.symm hLf)]; exact hf6, ?_, by rw [List.length_set]; exact hm, ?_⟩, ?_⟩
            · have e8 : (((l.map ch).map V.str).set i (V.str (ch (48 + j2)))) = ((l.set i (48 + j2)).map ch).map V.str := by simp [List.map_set]
              rw [e8]
              exact o7
            · intro l' hl'
              rcases mem_set hl' with z | z
              · exact hrw l' z
              · rw [z]; exact hlr.set hk (.inr ⟨by omega, by omega⟩)
            · intro j hj
              by_cases e : j = i
              · rw [e]; exact Told.now hlm (by rw [hlr.1]; omega) (by omega)
              · exact (ht j (by omega)).set hlm e
          · walk_at "vc"
            refine ⟨cds, ⟨_, _, _, M3, rfl, S2.trans S3.of, B2.keep S3, mf3, hf3, ol3, hm, hrw⟩, ?_⟩
            intro j hj
            by_cases e : j = i
            · rw [e]; exact told_of (n := cs.length) (fun l hl => (hrw l hl).1) (by omega) q
            · exact ht j (by omega)
      · rintro σ1 H2 ⟨cds, hJ, ht⟩
        exact hU _ _ ⟨cds, hJ, fun j hj => ht j (by omega)⟩
  · intro U hU
    walk_at "vc"
    refine ⟨b, 4, rfl, by decide, by decide, M, ((Stp.refl (ex := no) s0).new (.lst []) hf).mh, B.new s0 hf, ?_⟩
    rintro d v M1 H1 ⟨j, rfl, hj⟩ S1 B1 rfl
    obtain ⟨mf1, hf1⟩ := S1.keepB (none_of_same s0 hf) upd_same hfb
    have S1 := ((Stp.refl (ex := exB b) s0).new (.lst []) hf).trans S1
    walk_at "vc"
    refine w_r1 (n := 2 + j) (by omega) ?_
    rw [Int.toNat_natCast]
    refine fo_go walkR (fun i σ' H' => ∃ cds, I i cds σ' H') ⟨[], _, _, _, M1, [], rfl, S1, B1, mf1, hf1, trivial, by simp, by simp, rfl, by simp⟩ (fun _ _ _ _ _ => trivial) ?_ ?_
    · rintro i x σ1 H2 H2' hi ⟨cds, o3, o4, o5, M2, rs, rfl, S2, B2, mf2, hf2, ol, hfr, hbr, hcd, hrw⟩ ⟨rfl, rfl⟩
      refine w_name ?_
      let J : List (List Nat) → List Nat → L2.St → Hp → Prop := fun cds l σ' H' => ∃ o5 M' rs D, σ' = [some (.ref b), some (.ref ca), some (.ref f), some (.int i), some (.ref D), o5, none, none, none] ∧ Stp (exB b) M H M' H' ∧ Bag M' H' b ∧ M' f = none ∧
        H' f = some (.lst (rs.map V.ref)) ∧ OL H M' H' rs (cds.map fun l => l.map ch) ∧ f ∉ rs ∧ b ∉ rs ∧ H D = none ∧ D ≠ f ∧ D ≠ b ∧ D ∉ rs ∧ M' D = none ∧ H' D = some (.lst ((l.map ch).map V.str))
      with_reducible refine w_cut (fun σ' H' => ∃ l, RwL cs l ∧ J cds l σ' H') ?_ ?_
      · rintro σ3 H3 ⟨l, hl, o5, M3, rs, D, rfl, S3, B3, mf3, hf3, ol, hfr, hbr, hD0, hDf, hDb, hDr, mD, hD⟩
        refine w_cut (fun σ' H' => ∃ l, RwL cs l ∧ J cds l σ' H') ?_ ?_
        · rintro σ4 H4 ⟨l, hl, o5, M4, rs, D, rfl, S4, B4, mf4, hf4, ol, hfr, hbr, hD0, hDf, hDb, hDr, mD, hD⟩
          have hrl := ol.len
          rw [List.length_map] at hrl
          walk_at "vc"
          refine ⟨⟨f, _, rfl, hf4⟩, ?_⟩
          walk_at "vc"
          refine ⟨f, _, _, rfl, rfl, hf4, line_lt (by rw [List.length_map]; omega), ?_⟩
          walk_at "vc"
          have o1 := (OL.snoc hD0 mD hD ol hDr).step (M' := M4) (H' := upd H4 f (.lst (rs.map V.ref ++ [V.ref D]))) fun a ha o m q => ⟨m, by
            rw [upd_ne (fun z => by
              subst z
              rcases List.mem_append.mp ha with z | z
              · exact hfr z
              · exact hDf (List.mem_singleton.mp z).symm)]
            exact q⟩
          refine ⟨cds ++ [l], _, _, _, M4, rs ++ [D], rfl, S4.put _ mf4 (.inl hf), B4.put mf4 hfb, mf4, by rw [upd_same]; simp, by rw [List.map_append]; exact o1, ?_, ?_, by rw [List.length_append, hcd]; rfl, ?_⟩
          · intro z
            rcases List.mem_append.mp z with z | z
            · exact hfr z
            · exact hDf (List.mem_singleton.mp z).symm
          · intro z
            rcases List.mem_append.mp z with z | z
            · exact hbr z
            · exact hDb (List.mem_singleton.mp z).symm
          · intro l' h'
            rcases List.mem_append.mp h' with z | z
            · exact hrw l' z
            · rw [List.mem_singleton.mp z]; exact hl
        · intro U hU
          have hca3 := S3.mh _ _ (S3.mm _ _ hca)
          walk_at "vc"
          intro p hp
          walk_at "vc"
          refine ⟨ca, cvs, rfl, .inl (upd_old hca3 hp), ?_⟩
          walk_at "vc"
          refine ⟨p, _, _, rfl, rfl, upd_same, by omega, by omega, by rw [Int.toNat_natCast]; exact line_of (by show 1 * cvs.length ≤ _; omega), fun q hq => ?_⟩
          rw [Int.toNat_natCast, rep_flat, dots_V]
          have S4 := (S3.new (.lst [V.str (Str.ofString ".")]) hp).new (.lst ((List.replicate cvs.length ("." : Str)).map V.str)) hq
          have B4 := (B3.new (o := .lst [V.str (Str.ofString ".")]) S3.mh hp).new (o := .lst ((List.replicate cvs.length ("." : Str)).map V.str)) (S3.new (.lst [V.str (Str.ofString ".")]) hp).mh hq
          have old : ∀ x o, H3 x = some o → upd (upd H3 p (.lst [V.str (Str.ofString ".")])) q (.lst ((List.replicate cvs.length ("." : Str)).map V.str)) x = some o := fun x o e => upd_old (upd_old e hp) hq
          have hq4 : upd (upd H3 p (.lst [V.str (Str.ofString ".")])) q (.lst ((List.replicate cvs.length ("." : Str)).map V.str)) q = some (.lst ((List.replicate cvs.length ("." : Str)).map V.str)) := upd_same
          generalize upd (upd H3 p (.lst [V.str (Str.ofString ".")])) q (.lst ((List.replicate cvs.length ("." : Str)).map V.str)) = H4 at S4 B4 old hq4 ⊢
          refine w_eqStrs (xs := l.map ch) (ys := List.replicate cvs.length ".") (old _ _ hD) hq4 (rwl_ok hc hl) (dots_ok _) ?_
          walk_at "vc"
          have ol4 := ol.step (M' := M3) (H' := H4) fun a _ o m e => ⟨m, old _ _ e⟩
          refine ifb (fun _ => ?_) (fun _ => ?_)
          · walk_at "vc"
            refine ⟨ca, cvs, rfl, .inl (old _ _ hca3), ?_⟩
            walk_at "vc"
            refine ⟨b, cvs.length, rfl, by omega, by omega, M3, S4.mh, B4, ?_⟩
            rintro d v M5 H5 ⟨j, rfl, hj⟩ S5 B5 rfl
            have hjc : j < cs.length := by omega
            have hk := List.getElem?_eq_getElem hjc
            obtain ⟨a0, hv0, ha0⟩ := cells_get hcv hk
            have ha5 := S5.mh _ _ (S5.mm _ _ (S3.mm _ _ ha0))
            have hca5 := S5.mh _ _ (S5.mm _ _ (S3.mm _ _ hca))
            obtain ⟨mD5, hD5⟩ := S5.keepB mD (old _ _ hD) hDb
            obtain ⟨mf5, hf5⟩ := S5.keepB mf3 (old _ _ hf3) hfb
            have ol5 := ol4.step (M' := M5) (H' := H5) fun a ha o m e => S5.keepB m e (fun z => hbr (z ▸ ha))
            walk_at "vc"
            refine w_ixl hca5 (atI_nat hv0) ?_
            walk_at "vc"
            refine w_ixt ha5 rfl ?_
            walk_at "vc"
            have hk1 := hc.mn _ (mem_of_get hk)
            refine ⟨b, cs[j].2, rfl, hk1.1, by omega, M5, S5.mh, B5, ?_⟩
            rintro d v M6 H6 ⟨j2, rfl, hj2⟩ S6 B6 rfl
            obtain ⟨mD6, hD6⟩ := S6.keepB mD5 hD5 hDb
            obtain ⟨mf6, hf6⟩ := S6.keepB mf5 hf5 hfb
            have ol6 := ol5.step (M' := M6) (H' := H6) fun a ha o m e => S6.keepB m e (fun z => hbr (z ▸ ha))
            refine ⟨_, rfl, lo2 j2 (by omega), ?_⟩
            rw [dig j2 (by omega)]
            walk_at "vc"
            refine w_setl hD6 (ixN_nat (by rw [List.length_map, List.length_map, hl.1]; exact hjc)) ?_
            refine hU _ _ ⟨l.set j (48 + j2), hl.set hk (.inr ⟨by omega, by omega⟩), _, M6, rs, D, rfl, ((S4.trans S5).trans S6).put _ mD6 (.inl hD0), B6.put mD6 hDb, mf6, by rw [upd_ne (Ne.symm hDf)]; exact hf6,
              ol6.step fun a ha o m e => ⟨m, by rw [upd_ne (ne_mem hDr ha)]; exact e⟩, hfr, hbr, hD0, hDf, hDb, hDr, mD6, by rw [upd_same]; simp [List.map_set]⟩
          · walk_at "vc"
            exact hU _ _ ⟨l, hl, _, M3, rs, D, rfl, S4, B4, mf3, old _ _ hf3, ol4, hfr, hbr, hD0, hDf, hDb, hDr, mD, old _ _ hD⟩
      · intro U hU
        have hca2 := S2.mh _ _ (S2.mm _ _ hca)
        walk_at "vc"
        refine ⟨ca, rfl, ⟨_, SqL.of hca2⟩, ?_⟩
        refine lc_goB walkL S2.mh B2 (fun n acc _ => ∃ l : List Nat, l.length = n ∧ (∀ (j c : Nat) (k : Str × Nat), l[j]? = some c → cs[j]? = some k → SgOk k.2 c) ∧ acc = (l.map ch).map V.str) ⟨[], rfl, by simp, rfl⟩ (fun _ _ S => S.mh _ _ (S.mm _ _ (S2.mm _ _ hca))) ?_ ?_
        · rintro n v acc M3 H3 H3' D hn S3 B3 hD neD m3 h3 ⟨l, hll, hlr, rfl⟩ ⟨rfl, hv⟩
          obtain ⟨k0, a0, hk, rfl, ha0⟩ := cells_at hcv hv
          have ha3 := S3.mh _ _ (S3.mm _ _ (S2.mm _ _ ha0))
          refine g_pair ha3 ⟨rfl, ?_⟩
          walk_at "vc"
          refine ⟨b, 5, rfl, by decide, by decide, M3, S3.mh, B3, ?_⟩
          rintro d v M4 H4 ⟨j, rfl, hj⟩ S4 B4 rfl
          obtain ⟨m4, h4⟩ := S4.keepB m3 h3 neD
          have more : ∀ c, SgOk k0.2 c → ∀ (j d : Nat) (k : Str × Nat), (l ++ [c])[j]? = some d → cs[j]? = some k → SgOk k.2 d := by
            intro c hc j d k hd hk'
            by_cases q : j < l.length
            · rw [List.getElem?_append_left q] at hd
              exact hlr j d k hd hk'
            · rw [List.getElem?_append_right (by omega)] at hd
              have hj : j - l.length = 0 := by
                have := lt_of_get hd
                simp at this
                omega
              have e : j = n := by omega
              rw [hj] at hd
              rw [e, hk] at hk'
              cases hk'
              have : c = d := by simpa using hd
              rw [← this]; exact hc
          walk_at "vc"
          refine ifd (fun q => ?_) (fun q => ?_)
          · walk_at "vc"
            refine LcB.of hD neD (S3.trans S4) B4 m4 h4 (by rw [List.length_map, List.length_map]; omega) ⟨l ++ [46], by simp [hll], more 46 (.inl rfl), by rw [dot_ofS]; simp⟩
          · walk_at "vc"
            have hk1 := hc.mn k0 (mem_of_get hk)
            refine ⟨b, k0.2, rfl, hk1.1, by omega, M4, S4.mh, B4, ?_⟩
            rintro d v M5 H5 ⟨j2, rfl, hj2⟩ S5 B5 rfl
            obtain ⟨m5, h5⟩ := S5.keepB m4 h4 neD
            refine ⟨_, rfl, lo2 j2 (by omega), ?_⟩
            rw [dig j2 (by omega)]
            refine LcB.of hD neD ((S3.trans S4).trans S5) B5 m5 h5 (by rw [List.length_map, List.length_map]; omega) ⟨l ++ [48 + j2], by simp [hll], more _ (.inr ⟨by omega, by omega⟩), by simp⟩
        · rintro D acc M3 H3 hD neD S3 B3 m3 h3 ⟨l, hll, hlr, rfl⟩
          walk_at "vc"
          obtain ⟨mf3, hf3⟩ := S3.keepB mf2 hf2 hfb
          refine hU _ _ ⟨l, ⟨by omega, hlr⟩, _, M3, rs, D, rfl, S2.trans S3, B3, mf3, hf3, ol.step fun a ha o m e => S3.keepB m e (fun z => hbr (z ▸ ha)), hfr, hbr, S2.hfree hD, ?_, neD, ?_, m3, h3⟩
          · intro z; rw [z, hf2] at hD; cases hD
          · intro z
            obtain ⟨_, _, o, ho⟩ := ol.mem z
            rw [ho] at hD; cases hD
    · rintro σ1 H2 ⟨cds, hI⟩
      refine hU _ _ ⟨cds, ?_⟩
      obtain ⟨o3, o4, o5, M2, rs, rfl, S2, B2, mf2, hf2, ol, hfr, hbr, hcd, hrw⟩ := hI
      exact ⟨by omega, by omega, _, _, _, M2, rs, rfl, S2, B2, mf2, hf2, ol, hfr, hbr, rfl, hrw⟩
end
end Nt
namespace Nt
section
variable {P : Program} {w : World} {K : PySem.W.Frag} {mg : Str → Option Value} {base : Heap}
def sp_l_band : Sp := fun vs H Q _ => ∃ (b : Addr), vs = [.ref b, .int 1, .int 5, .int 40] ∧ ∃ M, Same M H ∧ Bag M H b ∧ RetB b M H Q (fun d => ∃ cs seeds rows, d = bandD cs seeds rows ∧ BandOk cs seeds rows ∧ seeds.length ≤ 5)
theorem ok_l_band (T : Tx K mg) : Good P w K mg base CX0 4 (He.fAd K (He.DefD.at_ d_l_band)) p_l_band sp_l_band := by
  obtain ⟨fd, F⟩ := T.def_ 26 (d := d_l_band) rfl
  have g_l_clean : Good P w K mg base CX0 1 (He.fAd K (He.DefD.at_ d_l_clean)) p_l_clean sp_l_clean := ok_l_clean T
  have g_l_closure : Good P w K mg base CX0 2 (He.fAd K (He.DefD.at_ d_l_closure)) p_l_closure sp_l_closure := ok_l_closure T
  have g_l_names : Good P w K mg base CX0 3 (He.fAd K (He.DefD.at_ d_l_names)) p_l_names sp_l_names := ok_l_names T
  have g_l_pick : Good P w K mg base CX0 2 (He.fAd K (He.DefD.at_ d_l_pick)) p_l_pick sp_l_pick := ok_l_pick T
  have g_l_pull : Good P w K mg base CX0 1 (He.fAd K (He.DefD.at_ d_l_pull)) p_l_pull sp_l_pull := ok_l_pull T
  have g_l_seeds : Good P w K mg base CX0 2 (He.fAd K (He.DefD.at_ d_l_seeds)) p_l_seeds sp_l_seeds := ok_l_seeds T
  refine good_of F sc_l_band (fun _ _ _ _ _ _ us hl => match us, hl with | [_, _, _, _], _ => rfl) (by intro vs H Q E h; (repeat obtain ⟨_, h⟩ := h); subst_vars; rfl) fun cdv A outer s H vs Q E hr h => ?_
  have hu := hu_of hr
  refine ⟨_, (pss_cons (ps_set (i := 4) sc_l_band.nd rfl (Or.inl rfl) (pe_good g_l_names (hr.mono (by decide)) rfl T.m_l_names (pa_cons (pv 0) (pa_cons (pe_op op_add (pv 1) (pe_good g_l_pull (hr.mono (by decide)) rfl T.m_l_pull (pa_cons (pv 0) (pa_cons (pe_op op_add (pe_op op_sub (pv 2) (pv 1)) pe_int) pa_nil)))) pa_nil))))  (pss_cons (ps_setLc (i := 5) (own := [("_law_name", 6)]) (by rfl) sc_l_band.nd rfl rfl (sw_true rfl rfl rfl (by decide +kernel)) (iq_list K (pv 4)) (blkOk_by (own := [("_law_name", 6)]) (N := n_l_band) (sc := He.DefD.scope d_l_band) (by decide +kernel)) (fun _ _ _ _ _ => (pg_name (i := 6) sc_l_band.nd rfl (Or.inl rfl) (Or.inr rfl))) (fun _ _ _ _ _ => pts_nil) (fun _ _ _ _ _ => (pe_tup (pa_cons (pv 6) (pa_cons (pe_good g_l_pick (hr.mono (by decide)) rfl T.m_l_pick (pa_cons (pv 0) (pa_cons (pe_lst (pa_cons pe_int (pa_cons pe_int (pa_cons pe_int (pa_cons pe_int (pa_cons pe_int (pa_cons pe_int pa_nil))))))) pa_nil))) pa_nil)))))  (pss_cons (ps_set (i := 7) sc_l_band.nd rfl (Or.inl rfl) (pe_good g_l_seeds (hr.mono (by decide)) rfl T.m_l_seeds (pa_cons (pv 0) (pa_cons (pv 5) pa_nil))))  (pss_cons (ps_for PassesOwn.never rfl (iq_list K (pe_lst (pa_cons (pe_callB cq_len (by rfl) T.b_len (by decide +kernel) (pa_cons (pv 5) pa_nil)) (pa_cons pe_int (pa_cons pe_int pa_nil))))) (pg_name (i := 8) sc_l_band.nd rfl (Or.inr rfl) (Or.inl rfl))  (pss_cons (ps_par (i := 5) (j := 7) rfl sc_l_band.nd rfl rfl (by decide) rfl rfl (pa_cons (pe_slice sq_list (pv 5) po_none (po_some (pv 8))) (pa_cons (pe_good g_l_clean (hr.mono (by decide)) rfl T.m_l_clean (pa_cons (pe_lc (own := [("_law_seed", 10)]) (by rfl) sc_l_band.nd (iq_list K (pv 7)) (blkOk_by (own := [("_law_seed", 10)]) (N := n_l_band) (sc := He.DefD.scope d_l_band) (by decide +kernel)) (fun _ _ _ _ _ => (pg_name (i := 10) sc_l_band.nd rfl (Or.inl rfl) (Or.inr rfl))) (fun _ _ _ _ _ => pts_nil) (fun _ _ _ _ _ => (pe_slice sl_str (pv 10) po_none (po_some (pv 8))))) pa_nil)) pa_nil)) (by rfl))  (pss_cons (ps_set (i := 9) sc_l_band.nd rfl (Or.inl rfl) (pe_good g_l_closure (hr.mono (by decide)) rfl T.m_l_closure (pa_cons (pv 7) (pa_cons (pe_callB cq_len (by rfl) T.b_len (by decide +kernel) (pa_cons (pv 5) pa_nil)) (pa_cons (pv 3) pa_nil)))))  (pss_one (ps_if (pt_cmpR op_notN (pv 9) pe_non (nomark _))  (pss_one (ps_ret (pe_tup (pa_cons (pv 5) (pa_cons (pv 7) (pa_cons (pv 9) pa_nil))))))  pss_nil)))))  (pss_one (ps_ret (pe_tup (pa_cons (pv 5) (pa_cons (pv 7) (pa_cons (pe_lst (pa_cons (pe_op op_mul_str pe_str (pe_callB cq_len (by rfl) T.b_len (by decide +kernel) (pa_cons (pv 5) pa_nil))) pa_nil)) pa_nil)))))))))), ?_⟩
  obtain ⟨b, rfl, M, s0, B, k⟩ := h
  walk_at "vc"
  refine ⟨b, 5, rfl, by decide, by decide, M, s0, B, ?_⟩
  rintro d v M1 H1 ⟨j, rfl, hj⟩ S1 B1 rfl
  walk_at "vc"
  refine ⟨b, 1 + j, rfl, by omega, M1, S1.mh, B1, ?_⟩
  rintro d v M2 H2 ⟨nms, rfl, hnl, hnd, hok⟩ S2 B2 i2
  obtain ⟨na, rfl, hna⟩ := i2.strs
  have S2 := S1.trans S2
  walk_at "vc"
  refine ⟨na, rfl, ⟨_, SqL.of (S2.mh _ _ hna)⟩, ?_⟩
  refine lc_goB walkL S2.mh B2 (fun n acc M' => ∃ cs : Cells, cs.map (·.1) = nms.take n ∧ (∀ c ∈ cs, 1 ≤ c.2 ∧ c.2 ≤ 4) ∧ IsA M' (cs.map cellD) acc) ⟨[], rfl, by simp, rfl⟩ (fun _ _ S => S.mh _ _ (S.mm _ _ hna)) ?_ ?_
  · rintro n v acc M3 H3 H3' D hn S3 B3 hD neD m3 h3 ⟨cs, hcs, hm, ia⟩ ⟨rfl, hv⟩
    obtain ⟨nm, hnm, rfl⟩ := map_at hv
    refine w_name ?_
    refine ⟨rfl, ?_⟩
    walk_at "vc"
    intro p hp
    have S4 := S3.lay (.lst [.int 2, .int 3, .int 2, .int 1, .int 2, .int 4]) hp
    have B4 := B3.lay (o := .lst [.int 2, .int 3, .int 2, .int 1, .int 2, .int 4]) S3.mh hp
    walk_at "vc"
    refine ⟨b, .ref p, [.int (2 : Nat), .int (3 : Nat), .int (2 : Nat), .int (1 : Nat), .int (2 : Nat), .int (4 : Nat)], rfl, by decide, by decide, _, S4.mh, B4, ⟨p, _, rfl, .inl upd_same, IsA.ints (xs := [2, 3, 2, 1, 2, 4]).mpr rfl⟩, ?_⟩
    rintro d v M5 H5 hd S5 B5 i5
    obtain ⟨mm, rfl, hm1, hm2⟩ : ∃ m : Nat, v = .int m ∧ 1 ≤ m ∧ m ≤ 4 := by
      simp only [List.mem_cons, List.not_mem_nil, or_false] at hd
      rcases hd with rfl | rfl | rfl | rfl | rfl | rfl
      · exact ⟨2, i5, by decide, by decide⟩
      · exact ⟨3, i5, by decide, by decide⟩
      · exact ⟨2, i5, by decide, by decide⟩
      · exact ⟨1, i5, by decide, by decide⟩
      · exact ⟨2, i5, by decide, by decide⟩
      · exact ⟨4, i5, by decide, by decide⟩
    have hDp : D ≠ p := fun z => by rw [← z, h3] at hp; cases hp
    obtain ⟨m5, h5⟩ := S5.keepB (by rw [upd_ne hDp]; exact m3) (by rw [upd_ne hDp]; exact h3) neD
    have S6 := S4.trans S5
    walk_at "vc"
    intro T hT
    have S7 := S6.lay (.tup [.str nm, .int mm]) hT
    have hDT : D ≠ T := fun z => by rw [← z, h5] at hT; cases hT
    refine LcB.of hD neD S7 (B5.lay S6.mh hT) (by rw [upd_ne hDT]; exact m5) (by rw [upd_ne hDT]; exact h5) ?_ ⟨cs ++ [(nm, mm)], ?_, ?_, ?_⟩
    · have := ia.len
      rw [List.length_map] at this
      have e := congrArg List.length hcs
      rw [List.length_map, List.length_take] at e
      omega
    · rw [List.map_append, hcs, tk_snoc hnm]
      rfl
    · intro c hc
      rcases List.mem_append.mp hc with z | z
      · exact hm c z
      · rw [List.mem_singleton.mp z]; exact ⟨hm1, hm2⟩
    · rw [List.map_append]
      have s7 : Same M3 (upd M5 T (.tup [.str nm, .int mm])) := (((Stp.refl (ex := exB b) S3.mh).lay (.lst [.int 2, .int 3, .int 2, .int 1, .int 2, .int 4]) hp).trans S5 |>.lay _ hT).mm
      exact (ia.mono s7).snoc (Is.cellOf upd_same)
  · rintro D acc M3 H3 hD neD S3 B3 m3 h3 ⟨cs0, hcs, hm, ia⟩
    rw [List.length_map, tk_all] at hcs
    have hc0 : CellsOk cs0 := by
      have e := congrArg List.length hcs
      rw [List.length_map] at e
      refine ⟨by omega, by omega, by rw [hcs]; exact hnd, fun c hc => hok _ (by rw [← hcs]; exact List.mem_map.mpr ⟨c, hc, rfl⟩), hm⟩
    have hl5 : cs0.length ≤ 5 := by
      have e := congrArg List.length hcs
      rw [List.length_map] at e
      omega
    have S4 := S2.trans (S3.fix h3 hD)
    have B4 : Bag (upd M3 D (.lst acc)) H3 b := B3.fix neD (.inl m3)
    have i4 : Is (upd M3 D (.lst acc)) (cellsD cs0) (.ref D) := ⟨D, acc, rfl, upd_same, ia.mono (same_upd m3)⟩
    walk_at "vc"
    refine ⟨b, .ref D, cs0, rfl, hc0, _, S4.mh, B4, i4, ?_⟩
    rintro d v M5 H5 ⟨sd0, rfl, hs0, hq0⟩ S5 B5 i5
    have hDl : H5 D = some (.lst acc) := S5.mh _ _ (S5.mm _ _ upd_same)
    have i4 := i4.mono S5.mm
    have S5 := S4.trans S5
    walk_at "vc"
    refine ⟨D, acc, rfl, .inl hDl, ?_⟩
    walk_at "vc"
    have hal : acc.length = cs0.length := by have := ia.len; rw [List.length_map] at this; exact this
    rw [hal]
    intro p hp
    have S6 := S5.lay (.lst [.int cs0.length, .int 2, .int 1]) hp
    have B6 := B5.lay (o := .lst [.int cs0.length, .int 2, .int 1]) S5.mh hp
    have hp6 : upd M5 p (.lst [.int cs0.length, .int 2, .int 1]) p = some (.lst [.int cs0.length, .int 2, .int 1]) := upd_same
    have i4 := i4.mono (same_upd (o := .lst [.int cs0.length, .int 2, .int 1]) (S5.mfree hp))
    have i5 := i5.mono (same_upd (o := .lst [.int cs0.length, .int 2, .int 1]) (S5.mfree hp))
    refine ⟨p, rfl, ⟨_, SqL.of upd_same⟩, ?_⟩
    refine fo_go walkL (fun i σ' H' => i < 3 ∧ ∃ v5 v7 o8 o9 M' cs sd, σ' = [some (.ref b), some (.int 1), some (.int 5), some (.int 40), some (.ref na), some v5, none, some v7, o8, o9, none] ∧ Stp (exB b) M H M' H' ∧ Bag M' H' b ∧
      M' p = some (.lst [.int cs0.length, .int 2, .int 1]) ∧ Is M' (cellsD cs) v5 ∧ Is M' (dS sd) v7 ∧ CellsOk cs ∧ cs.length ≤ 5 ∧ SeedsOk cs sd ∧ sd.length ≤ 5)
      ⟨by decide, _, _, _, _, _, cs0, sd0, rfl, S6, B6, hp6, i4, i5, hc0, hl5, hs0, hq0⟩ (fun _ _ _ _ ⟨_, _, _, _, _, M', _, _, _, S, _, h, _⟩ => S.mh _ _ h) ?_ (fun _ _ h => absurd h.1 (by show ¬ (3 < 3); decide))
    rintro i v σ1 H7 H7' hi ⟨hi3, v5, v7, o8, o9, M7, cs, sd, rfl, S7, B7, hp7, i5, i7, hc, hl5, hs, hq⟩ ⟨rfl, hv⟩
    obtain ⟨sz, rfl, hz1, hz2⟩ : ∃ k : Nat, v = .int k ∧ 1 ≤ k ∧ (i = 2 → k = 1) := by
      have := hc0.l1
      match i, hi3 with
      | 0, _ => exact ⟨cs0.length, (Option.some.inj hv).symm, this, by omega⟩
      | 1, _ => exact ⟨2, (Option.some.inj hv).symm, by decide, by omega⟩
      | 2, _ => exact ⟨1, (Option.some.inj hv).symm, by decide, by omega⟩
    obtain ⟨a5, vs5, rfl, h5, ia5⟩ := i5
    obtain ⟨a7, rfl, h7⟩ := i7.strs
    walk_at "vc"
    refine ⟨a5, vs5, rfl, S7.mh _ _ h5, fun q hq' => ?_⟩
    rw [cutV_to]
    have S8 := S7.lay (.lst (vs5.take sz)) hq'
    have B8 := B7.lay (o := .lst (vs5.take sz)) S7.mh hq'
    have s8 : Same M7 (upd M7 q (.lst (vs5.take sz))) := same_upd (S7.mfree hq')
    have i8 : Is (upd M7 q (.lst (vs5.take sz))) (cellsD (cs.take sz)) (.ref q) := ⟨q, _, rfl, upd_same, by rw [List.map_take]; exact (ia5.mono s8).take sz⟩
    have h78 := s8 _ _ h7
    have hp8 := s8 _ _ hp7
    walk_at "vc"
    refine ⟨a7, rfl, ⟨_, SqL.of (S8.mh _ _ h78)⟩, ?_⟩
    have hsl := hs.ln
    refine lc_go (ex := no) walkL S8.mh (fun n acc _ => acc = ((sd.take n).map fun s => mkS ((sl s).take sz)).map V.str) rfl (fun _ _ S => S.mh _ _ (S.mm _ _ h78)) ?_ ?_
    · rintro n v acc M9 H9 H9' D hn S9 hD m9 h9 rfl ⟨rfl, hv⟩
      obtain ⟨s', hs', rfl⟩ := map_at hv
      have hrl := row_len (hs.rw s' (mem_of_get hs'))
      walk_at "vc"
      refine ⟨rfl, ?_⟩
      walk_at "vc"
      refine ⟨s', rfl, line_of (by omega), ?_⟩
      rw [cutS_to]
      exact LcA.of hD S9 m9 h9 (by rw [List.length_map, List.length_map, List.length_take]; omega) (by rw [tk_snoc hs']; simp only [List.map_append, List.map_cons, List.map_nil])
    · rintro D acc M9 H9 hD S9 m9 h9 rfl
      rw [List.length_map, tk_all] at h9
      have F9 := S9.fix h9 hD
      walk_at "vc"
      refine ⟨_, _, rfl, by rw [List.length_map]; omega, ?_, _, F9.mh, Is.of_strs upd_same, ?_⟩
      · intro x hx
        obtain ⟨s', hs', rfl⟩ := List.mem_map.mp hx
        have hrl := row_len (hs.rw s' hs')
        rw [len_sl] at hrl
        rw [len_mk, List.length_take]
        omega
      · intro v10 M10 H10 S10 i10
        have s10 := F9.mm.trans S10.mm
        have S11 := (S8.trans F9.of).trans S10.of
        have B11 := (B8.keep F9).keep S10
        have i8 := i8.mono s10
        have hc' := hc.take hz1
        have hs' := hs.take hc hz1
        have hq5 : (cleanS (sd.map fun s => mkS ((sl s).take sz))).length ≤ 5 := Nat.le_trans (clean_len _) (by rw [List.length_map]; exact hq)
        have hl5' : (cs.take sz).length ≤ 5 := by rw [List.length_take]; omega
        have hp11 := s10 _ _ hp8
        obtain ⟨qq, vs8, hqq, h8, ia8⟩ := i8
        cases hqq
        have hl8 : vs8.length = (cs.take sz).length := by have := ia8.len; rw [List.length_map] at this; exact this
        have i8 : Is M10 (cellsD (cs.take sz)) (.ref q) := ⟨q, vs8, rfl, h8, ia8⟩
        walk_at "vc"
        refine ⟨q, vs8, rfl, .inl (S11.mh _ _ h8), ?_⟩
        walk_at "vc"
        rw [hl8]
        have hln := hs'.ln
        refine ⟨v10, _, (cs.take sz).length, 40, rfl, by omega, by decide, by decide, by omega, fun s hs => row_len (hs'.rw s hs), M10, S11.mh, i10, ?_, ?_⟩
        · rintro hcap v12 M12 H12 S12 rfl
          walk_at "vc"
          refine ⟨rfl, ?_⟩
          walk_at "vc"
          refine ⟨?_, _, _, _, _, M12, cs.take sz, _, rfl, S11.trans S12.of, B11.keep S12, S12.mm _ _ hp11, i8.mono S12.mm, i10.mono S12.mm, hc', hl5', hs', hq5⟩
          by_cases e : i = 2
          · have hz := hz2 e
            have h1 : (cs.take sz).length = 1 := by have := hc.l1; rw [List.length_take]; omega
            have := few_rows hc' h1 hs'.rw (40 + 1)
            omega
          · omega
        · rintro ys hle hpm hsd v12 M12 H12 S12 i12
          obtain ⟨a12, rfl, h12⟩ := i12.strs
          walk_at "vc"
          refine ⟨rfl, ?_⟩
          walk_at "vc"
          intro T hT
          have S13 := (S11.trans S12.of).lay (.tup [.ref q, v10, .ref a12]) hT
          have s13 : Same M12 (upd M12 T (.tup [.ref q, v10, .ref a12])) := same_upd ((S11.trans S12.of).mfree hT)
          exact k _ _ _ _ ⟨_, _, _, rfl, ⟨hc', hl5', hs', hpm, hsd, hle⟩, hq5⟩ S13 ((B11.keep S12).lay (S11.trans S12.of).mh hT) (Is.tup3 upd_same ((i8.mono S12.mm).mono s13) ((i10.mono S12.mm).mono s13) (i12.mono s13))
end
end Nt
namespace Nt
section
variable {P : Program} {w : World} {K : PySem.W.Frag} {mg : Str → Option Value} {base : Heap}
def sp_is_name : Sp := fun vs H Q _ => ∃ (x : Str), vs = [.str x] ∧ NameOk x ∧ ∃ M, Same M H ∧ Ret M H Q (.bl true)
theorem ok_is_name (T : Tx K mg) : Good P w K mg base CX0 1 (He.fAd K (He.DefD.at_ d_is_name)) p_is_name sp_is_name := by
  obtain ⟨fd, F⟩ := T.def_ 0 (d := d_is_name) rfl
  refine good_of F sc_is_name (fun _ _ _ _ _ _ us hl => match us, hl with | [_], _ => rfl) (by intro vs H Q E h; (repeat obtain ⟨_, h⟩ := h); subst_vars; rfl) fun cdv A outer s H vs Q E hr h => ?_
  have hu := hu_of hr
  refine ⟨_, (pss_cons (ps_if (PW.pt (pw_or (pt_not (pt_val (pe_callB cq_isi (by rfl) T.b_isinstance (by decide +kernel) (pa_cons (pv 0) (pa_cons (pe_ty "str" (by rfl) T.b_str (by decide +kernel)) pa_nil))))) (pw_or1 (pt_not (pt_chain op_le op_le pe_int (pe_callB call_len_str (by rfl) T.b_len (by decide +kernel) (pa_cons (pv 0) pa_nil)) pe_int)))))  (pss_one (ps_ret pe_bl))  pss_nil)  (pss_one (ps_ret (pe_callB (cq_all rfl) (by rfl) T.b_all (by decide +kernel) (pa_cons (pe_lc (own := [("sign", 1)]) (by rfl) sc_is_name.nd (pi_str (pv 0)) (blkOk_by (own := [("sign", 1)]) (N := n_is_name) (sc := He.DefD.scope d_is_name) (by decide +kernel)) (fun _ _ _ _ _ => (pg_name (i := 1) sc_is_name.nd rfl (Or.inl rfl) (Or.inr rfl))) (fun _ _ _ _ _ => pts_nil) (fun _ _ _ _ _ => (pe_cmpR op_in_sign (pv 1) (pe_gstr rfl T.m_LETTERS) (by rfl)))) pa_nil))))), ?_⟩
  obtain ⟨x, rfl, ⟨h1, h6, hlow⟩, M, s0, k⟩ := h
  walk_at "vc"
  refine w_isi s0 (d := .str x) rfl (by simp) ?_
  rw [show Dat.isT (.str x) "str" = true from rfl]
  walk_at "vc"
  refine ⟨x, rfl, line_of (by rw [len_sl]; omega), ?_⟩
  walk_at "vc"
  refine ifdT (by rw [len_sl]; omega) ?_
  walk_at "vc"
  refine ifnT (by rw [len_sl]; omega) ?_
  walk_at "vc"
  refine ⟨x, rfl, ?_⟩
  refine lc_go (ex := no) walkS s0 (fun i acc _ => acc = (List.replicate i true).map V.bl) rfl (fun _ _ _ => trivial) ?_ ?_
  · rintro i v acc M1 H1 H1' D hi S1 hD m1 h1 rfl ⟨rfl, c, hc, rfl⟩
    refine ⟨rfl, ?_⟩
    walk_at "vc"
    refine ⟨c, _, rfl, rfl, ?_⟩
    have hcl := low_abc (hlow c (mem_of_get hc))
    rw [decide_eq_true (show c ∈ sl ABC from hcl)]
    exact LcA.of hD S1 m1 h1 (by rw [List.length_map, List.length_replicate]; omega) (rep_snoc i)
  · rintro D acc M1 H1 hD S1 m1 h1 rfl
    walk_at "vc"
    refine ⟨D, _, rfl, h1, ?_⟩
    rw [all_yes]
    exact k _ _ _ S1 rfl
def sp_is_number : Sp := fun vs H Q _ => ∃ (i lo hi : Int), vs = [.int i, .int lo, .int hi] ∧ lo ≤ i ∧ i ≤ hi ∧ ∃ M, Same M H ∧ Ret M H Q (.bl true)
theorem ok_is_number (T : Tx K mg) : Good P w K mg base CX0 1 (He.fAd K (He.DefD.at_ d_is_number)) p_is_number sp_is_number := by
  obtain ⟨fd, F⟩ := T.def_ 1 (d := d_is_number) rfl
  refine good_of F sc_is_number (fun _ _ _ _ _ _ us hl => match us, hl with | [_, _, _], _ => rfl) (by intro vs H Q E h; (repeat obtain ⟨_, h⟩ := h); subst_vars; rfl) fun cdv A outer s H vs Q E hr h => ?_
  have hu := hu_of hr
  refine ⟨_, (pss_one (ps_ret (pe_and (pe_callB cq_isi (by rfl) T.b_isinstance (by decide +kernel) (pa_cons (pv 0) (pa_cons (pe_ty "int" (by rfl) T.b_int (by decide +kernel)) pa_nil))) (pe_and (pe_not (pe_callB cq_isi (by rfl) T.b_isinstance (by decide +kernel) (pa_cons (pv 0) (pa_cons (pe_ty "bool" (by rfl) T.b_bool (by decide +kernel)) pa_nil)))) (pe_one (pe_chain op_le op_le (pv 1) (pv 0) (pv 2))))))), ?_⟩
  obtain ⟨i, lo, hi, rfl, h1, h2, M, s0, k⟩ := h
  walk_at "vc"
  refine w_isi s0 (d := .int i) rfl (by simp) ?_
  rw [show Dat.isT (.int i) "int" = true from rfl]
  walk_at "vc"
  refine w_isi s0 (d := .int i) rfl (by simp) ?_
  rw [show Dat.isT (.int i) "bool" = false from rfl]
  walk_at "vc"
  refine ifdT h1 ?_
  walk_at "vc"
  rw [decide_eq_true h2]
  exact k _ _ _ (Stp.refl s0) rfl
def sp_is_row : Sp := fun vs H Q _ => ∃ (v : V) (x : Str) (cs : Cells), vs = [v, .str x] ∧ CellsOk cs ∧ RowOk cs x ∧ ∃ M, Same M H ∧ Is M (cellsD cs) v ∧ Ret M H Q (.bl true)
theorem ok_is_row (T : Tx K mg) : Good P w K mg base CX0 1 (He.fAd K (He.DefD.at_ d_is_row)) p_is_row sp_is_row := by
  obtain ⟨fd, F⟩ := T.def_ 3 (d := d_is_row) rfl
  refine good_of F sc_is_row (fun _ _ _ _ _ _ us hl => match us, hl with | [_, _], _ => rfl) (by intro vs H Q E h; (repeat obtain ⟨_, h⟩ := h); subst_vars; rfl) fun cdv A outer s H vs Q E hr h => ?_
  have hu := hu_of hr
  refine ⟨_, (pss_cons (ps_if (PW.pt (pw_or (pt_not (pt_val (pe_callB cq_isi (by rfl) T.b_isinstance (by decide +kernel) (pa_cons (pv 1) (pa_cons (pe_ty "str" (by rfl) T.b_str (by decide +kernel)) pa_nil))))) (pw_or1 (pt_cmpR op_ne (pe_callB call_len_str (by rfl) T.b_len (by decide +kernel) (pa_cons (pv 1) pa_nil)) (pe_callB cq_len (by rfl) T.b_len (by decide +kernel) (pa_cons (pv 0) pa_nil)) (nomark _)))))  (pss_one (ps_ret pe_bl))  pss_nil)  (pss_one (ps_ret (pe_callB (cq_all rfl) (by rfl) T.b_all (by decide +kernel) (pa_cons (pe_lc (own := [("sign", 2), ("cell", 3)]) (by rfl) sc_is_row.nd (iq_zs K (by rfl) T.b_zip (pa_cons (pv 1) (pa_cons (pv 0) pa_nil))) (blkOk_by (own := [("sign", 2), ("cell", 3)]) (N := n_is_row) (sc := He.DefD.scope d_is_row) (by decide +kernel)) (fun _ _ _ _ _ => (gq_tup K (n := 2) rfl (pgs_cons (pg_name (i := 2) sc_is_row.nd rfl (Or.inl rfl) (Or.inr rfl)) (pgs_cons (pg_name (i := 3) sc_is_row.nd rfl (Or.inl rfl) (Or.inr rfl)) pgs_nil)))) (fun _ _ _ _ _ => pts_nil) (fun _ _ _ _ _ => (pe_cmpR op_in_sign (pv 2) (pe_slice sl_str pe_str po_none (po_some (pe_op op_add (pe_ix xq_tup (pv 3) pe_int (fun _ _ => rfl)) pe_int))) (by rfl)))) pa_nil))))), ?_⟩
  obtain ⟨v, x, cs, rfl, hc, hx, M, s0, ic, k⟩ := h
  obtain ⟨ca, cvs, rfl, hca, hcv⟩ := ic
  have hcl : cvs.length = cs.length := by have := hcv.len; rw [List.length_map] at this; exact this
  have hl2 := hc.l2
  have hxl := hx.1
  walk_at "vc"
  refine w_isi s0 (d := .str x) rfl (by simp) ?_
  rw [show Dat.isT (.str x) "str" = true from rfl]
  walk_at "vc"
  refine ⟨x, rfl, line_of (by rw [len_sl]; omega), ?_⟩
  walk_at "vc"
  refine ⟨ca, cvs, rfl, .inl (s0 _ _ hca), ?_⟩
  walk_at "vc"
  refine ifnT (by rw [len_sl]; omega) ?_
  walk_at "vc"
  refine .inr ⟨x, ca, rfl, ⟨_, SqL.of (s0 _ _ hca)⟩, ?_⟩
  refine lc_go (ex := no) walkZl s0 (fun i acc _ => acc = (List.replicate i true).map V.bl) rfl (fun _ _ S => S.mh _ _ (S.mm _ _ hca)) ?_ ?_
  · rintro i v acc M1 H1 H1' D hi S1 hD m1 h1 rfl ⟨T, c, w', rfl, hT, rfl, hz⟩
    obtain ⟨h1c, h2c⟩ := List.getElem?_zip_eq_some.mp hz
    obtain ⟨k0, a0, hk, rfl, ha0⟩ := cells_at hcv h2c
    refine g_pair upd_same ⟨rfl, ?_⟩
    walk_at "vc"
    refine w_ixt (upd_old (S1.mh _ _ (S1.mm _ _ ha0)) hT) rfl ?_
    walk_at "vc"
    refine ⟨_, rfl, line_of (by decide), ?_⟩
    have hm := hc.mn k0 (mem_of_get hk)
    rw [show ((k0.2 : Int) + 1) = ((k0.2 + 1 : Nat) : Int) from rfl, cutS_to]
    walk_at "vc"
    refine ⟨c, _, rfl, rfl, ?_⟩
    rw [decide_eq_true (sg_in hm.1 hm.2 (hx.2 i c k0 h1c hk))]
    have hxl2 : (sl x).length ≤ 12 := by omega
    rw [List.length_zip] at hi
    exact LcA.of hD (S1.new _ hT) m1 (upd_old h1 hT) (by rw [List.length_map, List.length_replicate]; omega) (rep_snoc i)
  · rintro D acc M1 H1 hD S1 m1 h1 rfl
    walk_at "vc"
    refine ⟨D, _, rfl, h1, ?_⟩
    rw [all_yes]
    exact k _ _ _ S1 rfl
def sp_check_cells : Sp := fun vs H Q _ => ∃ (v : V) (cs : Cells), vs = [v] ∧ CellsOk cs ∧ ∃ M, Same M H ∧ Is M (cellsD cs) v ∧ Ret M H Q .non
theorem ok_check_cells (T : Tx K mg) : Good P w K mg base CX0 2 (He.fAd K (He.DefD.at_ d_check_cells)) p_check_cells sp_check_cells := by
  obtain ⟨fd, F⟩ := T.def_ 2 (d := d_check_cells) rfl
  have g_is_name : Good P w K mg base CX0 1 (He.fAd K (He.DefD.at_ d_is_name)) p_is_name sp_is_name := ok_is_name T
  have g_is_number : Good P w K mg base CX0 1 (He.fAd K (He.DefD.at_ d_is_number)) p_is_number sp_is_number := ok_is_number T
  refine good_of F sc_check_cells (fun _ _ _ _ _ _ us hl => match us, hl with | [_], _ => rfl) (by intro vs H Q E h; (repeat obtain ⟨_, h⟩ := h); subst_vars; rfl) fun cdv A outer s H vs Q E hr h => ?_
  have hu := hu_of hr
  refine ⟨_, (pss_cons (ps_if (PW.pt (pw_or (pt_not (pt_val (pe_callB cq_isi2 (by rfl) T.b_isinstance (by decide +kernel) (pa_cons (pv 0) (pa_cons (pe_tup (pa_cons (pe_ty "list" (by rfl) T.b_list (by decide +kernel)) (pa_cons (pe_ty "tuple" (by rfl) T.b_tuple (by decide +kernel)) pa_nil))) pa_nil))))) (pw_or1 (pt_not (pt_chain op_le op_le pe_int (pe_callB cq_len (by rfl) T.b_len (by decide +kernel) (pa_cons (pv 0) pa_nil)) (pe_gint rfl T.m_MOST_CELLS))))))  (pss_one ps_never)  pss_nil)  (pss_cons (ps_set (i := 1) sc_check_cells.nd rfl (Or.inl rfl) (pe_lst pa_nil))  (pss_one (ps_for PassesOwn.never rfl (iq_enum K (by rfl) T.b_enumerate (pa_cons (pv 0) pa_nil)) (gq_tup K (n := 2) rfl (pgs_cons (pg_name (i := 2) sc_check_cells.nd rfl (Or.inl rfl) (Or.inl rfl)) (pgs_cons (pg_name (i := 3) sc_check_cells.nd rfl (Or.inl rfl) (Or.inl rfl)) pgs_nil)))  (pss_cons (ps_if (PW.pt (pw_or (pt_not (pt_val (pe_callB cq_isi (by rfl) T.b_isinstance (by decide +kernel) (pa_cons (pv 3) (pa_cons (pe_ty "tuple" (by rfl) T.b_tuple (by decide +kernel)) pa_nil))))) (pw_or1 (pt_cmpR op_ne (pe_callB cq_len (by rfl) T.b_len (by decide +kernel) (pa_cons (pv 3) pa_nil)) pe_int (nomark _)))))  (pss_one ps_never)  pss_nil)  (pss_cons (ps_asg (pv 3) (gq_tup K (n := 2) rfl (pgs_cons (pg_name (i := 4) sc_check_cells.nd rfl (Or.inl rfl) (Or.inl rfl)) (pgs_cons (pg_name (i := 5) sc_check_cells.nd rfl (Or.inl rfl) (Or.inl rfl)) pgs_nil))))  (pss_cons (ps_if (PW.pt (pw_or (pt_not (pt_val (pe_good g_is_name (hr.mono (by decide)) rfl T.m_is_name (pa_cons (pv 4) pa_nil)))) (pw_or (pt_not (pt_val (pe_good g_is_number (hr.mono (by decide)) rfl T.m_is_number (pa_cons (pv 5) (pa_cons pe_int (pa_cons (pe_gint rfl T.m_MOST_VALUES) pa_nil)))))) (pw_or1 (pt_cmpR oq_in (pv 4) (pv 1) (by rfl))))))  (pss_one ps_never)  pss_nil)  (pss_one (ps_expr (eq_bm PySem.F.slot_list_append PySem.F.type_list_append mt_append (pv 1) (pa_cons (pv 4) pa_nil))))))))))), ?_⟩
  obtain ⟨v, cs, rfl, hc, M, s0, ic, k⟩ := h
  have ic' := ic
  obtain ⟨ca, cvs, rfl, hca, hcv⟩ := ic
  have hcl : cvs.length = cs.length := by have := hcv.len; rw [List.length_map] at this; exact this
  have hl1 := hc.l1
  have hl2 := hc.l2
  walk_at "vc"
  intro p hp
  have S1 := (Stp.refl (ex := no) s0).new (.tup [.ty "list", .ty "tuple"]) hp
  walk_at "vc"
  refine w_isi2 S1.mh ic' upd_same (by simp) (by simp) ?_
  rw [show (Dat.isT (cellsD cs) "list" || Dat.isT (cellsD cs) "tuple") = true from rfl]
  walk_at "vc"
  refine ⟨ca, cvs, rfl, .inl (S1.mh _ _ hca), ?_⟩
  walk_at "vc"
  refine ifdT (by omega) ?_
  walk_at "vc"
  refine ifnT (by omega) ?_
  walk_at "vc"
  intro f hf
  have S2 := S1.new (.lst []) hf
  have hf0 := S1.hfree hf
  walk_at "vc"
  refine ⟨ca, cvs, rfl, SqL.of (S2.mh _ _ hca), ?_⟩
  refine fo_go walkE (fun i σ' H' => ∃ o2 o3 o4 o5 M', σ' = [some (.ref ca), some (.ref f), o2, o3, o4, o5] ∧ Stp no M H M' H' ∧ M' f = none ∧ H' f = some (.lst (((cs.take i).map (·.1)).map V.str)))
    ⟨_, _, _, _, M, rfl, S2, none_of_same s0 hf0, upd_same⟩ (fun _ _ _ _ ⟨_, _, _, _, _, _, S, _⟩ => S.mh _ _ (S.mm _ _ hca)) ?_ ?_
  · rintro i v σ1 H3 H3' hi ⟨o2, o3, o4, o5, M3, rfl, S3, mf, hf3⟩ ⟨T, x, rfl, hT, rfl, hx⟩
    obtain ⟨k0, a0, hk, rfl, ha0⟩ := cells_at hcv hx
    have hm := hc.mn k0 (mem_of_get hk)
    have S4 := S3.new (.tup [.int i, .ref a0]) hT
    have ha4 := S4.mh _ _ (S3.mm _ _ ha0)
    have hf4 : upd H3 T (.tup [.int i, .ref a0]) f = some (.lst (((cs.take i).map (·.1)).map V.str)) := upd_old hf3 hT
    refine g_pair upd_same ?_
    generalize upd H3 T (.tup [.int i, .ref a0]) = H4 at S4 ha4 hf4 ⊢
    walk_at "vc"
    refine w_isi S4.mh (d := cellD k0) (Is.cellOf (S3.mm _ _ ha0)) (by simp) ?_
    rw [show Dat.isT (cellD k0) "tuple" = true from rfl]
    walk_at "vc"
    refine ⟨a0, _, rfl, .inr ha4, ?_⟩
    walk_at "vc"
    refine g_pair ha4 ?_
    walk_at "vc"
    refine ⟨k0.1, rfl, hc.nm k0 (mem_of_get hk), M3, S4.mh, ?_⟩
    rintro v M5 H5 S5 rfl
    walk_at "vc"
    refine ⟨_, _, _, rfl, by omega, by omega, M5, S5.mh, ?_⟩
    rintro v M6 H6 S6 rfl
    obtain ⟨mf6, hf6⟩ := (S5.trans S6).keep mf hf4
    walk_at "vc"
    refine w_inS (.inl hf6) ?_
    walk_at "vc"
    have hni : k0.1 ∉ (cs.take i).map (·.1) := by
      intro z
      have nd := hc.nd
      have e : (cs.map (·.1)).take (i + 1) = (cs.take i).map (·.1) ++ [k0.1] := by rw [← List.map_take, tk_snoc hk, List.map_append]; rfl
      have nd' : ((cs.map (·.1)).take (i + 1)).Nodup := List.Sublist.nodup (List.take_sublist _ _) nd
      rw [e, List.nodup_append] at nd'
      exact nd'.2.2 _ z _ List.mem_cons_self rfl
    refine ifdF hni ?_
    walk_at "vc"
    refine ⟨⟨f, _, rfl, hf6⟩, ?_⟩
    walk_at "vc"
    refine ⟨f, _, _, rfl, rfl, hf6, line_lt (by rw [List.length_map, List.length_map, List.length_take]; omega), ?_⟩
    walk_at "vc"
    refine ⟨_, _, _, _, M6, rfl, (S4.trans (S5.trans S6)).put _ mf6 (.inl hf0), mf6, ?_⟩
    rw [upd_same, tk_snoc hk]
    simp only [List.map_append, List.map_cons, List.map_nil]
  · rintro σ1 H3 ⟨o2, o3, o4, o5, M3, rfl, S3, mf, hf3⟩
    walk_at "vc"
    exact k _ _ _ S3 rfl
def sp_check_seeds : Sp := fun vs H Q _ => ∃ (v u : V) (cs : Cells) (sd : List Str), vs = [v, u] ∧ CellsOk cs ∧ SeedsOk cs sd ∧ ∃ M, Same M H ∧ Is M (cellsD cs) v ∧ Is M (dS sd) u ∧ Ret M H Q .non
theorem ok_check_seeds (T : Tx K mg) : Good P w K mg base CX0 2 (He.fAd K (He.DefD.at_ d_check_seeds)) p_check_seeds sp_check_seeds := by
  obtain ⟨fd, F⟩ := T.def_ 9 (d := d_check_seeds) rfl
  have g_blank : Good P w K mg base CX0 1 (He.fAd K (He.DefD.at_ d_blank)) p_blank sp_blank := ok_blank T
  have g_is_row : Good P w K mg base CX0 1 (He.fAd K (He.DefD.at_ d_is_row)) p_is_row sp_is_row := ok_is_row T
  refine good_of F sc_check_seeds (fun _ _ _ _ _ _ us hl => match us, hl with | [_, _], _ => rfl) (by intro vs H Q E h; (repeat obtain ⟨_, h⟩ := h); subst_vars; rfl) fun cdv A outer s H vs Q E hr h => ?_
  have hu := hu_of hr
  refine ⟨_, (pss_cons (ps_if (pt_not (pt_val (pe_callB cq_isi2 (by rfl) T.b_isinstance (by decide +kernel) (pa_cons (pv 1) (pa_cons (pe_tup (pa_cons (pe_ty "list" (by rfl) T.b_list (by decide +kernel)) (pa_cons (pe_ty "tuple" (by rfl) T.b_tuple (by decide +kernel)) pa_nil))) pa_nil)))))  (pss_one ps_never)  pss_nil)  (pss_cons (ps_if (pt_cmpR op_gt (pe_callB cq_len (by rfl) T.b_len (by decide +kernel) (pa_cons (pv 1) pa_nil)) (pe_gint rfl T.m_MOST_SEEDS) (nomark _))  (pss_one ps_never)  pss_nil)  (pss_cons (ps_for PassesOwn.never rfl (iq_enum K (by rfl) T.b_enumerate (pa_cons (pv 1) pa_nil)) (gq_tup K (n := 2) rfl (pgs_cons (pg_name (i := 2) sc_check_seeds.nd rfl (Or.inr rfl) (Or.inl rfl)) (pgs_cons (pg_name (i := 3) sc_check_seeds.nd rfl (Or.inl rfl) (Or.inl rfl)) pgs_nil)))  (pss_one (ps_if (PW.pt (pw_or (pt_not (pt_val (pe_good g_is_row (hr.mono (by decide)) rfl T.m_is_row (pa_cons (pv 0) (pa_cons (pv 3) pa_nil))))) (pw_or (pt_cmpR op_eq (pv 3) (pe_good g_blank (hr.mono (by decide)) rfl T.m_blank (pa_cons (pe_callB cq_len (by rfl) T.b_len (by decide +kernel) (pa_cons (pv 0) pa_nil)) pa_nil)) (nomark _)) (pw_or1 (pt_cmpR oq_in (pv 3) (pe_slice sq_list (pv 1) po_none (po_some (pv 2))) (by rfl))))))  (pss_one ps_never)  pss_nil)))  (pss_one (ps_for PassesOwn.never rfl (iq_enum K (by rfl) T.b_enumerate (pa_cons (pv 0) pa_nil)) (gq_tup K (n := 2) rfl (pgs_cons (pg_name (i := 2) sc_check_seeds.nd rfl (Or.inr rfl) (Or.inl rfl)) (pgs_cons (pg_name (i := 4) sc_check_seeds.nd rfl (Or.inl rfl) (Or.inl rfl)) pgs_nil)))  (pss_one (ps_if (pt_val (pe_callB (cq_all rfl) (by rfl) T.b_all (by decide +kernel) (pa_cons (pe_lc (own := [("seed", 3)]) (by rfl) sc_check_seeds.nd (iq_list K (pv 1)) (blkOk_by (own := [("seed", 3)]) (N := n_check_seeds) (sc := He.DefD.scope d_check_seeds) (by decide +kernel)) (fun _ _ _ _ _ => (pg_name (i := 3) sc_check_seeds.nd rfl (Or.inl rfl) (Or.inr rfl))) (fun _ _ _ _ _ => pts_nil) (fun _ _ _ _ _ => (pe_cmpR op_eq (pe_ix ix_str (pv 3) (pv 2) (fun _ _ => rfl)) pe_str (nomark _)))) pa_nil)))  (pss_one ps_never)  pss_nil))))))), ?_⟩
  obtain ⟨v, u, cs, sd, rfl, hc, hs, M, s0, ic, iu, k⟩ := h
  have ic' := ic
  have iu' := iu
  obtain ⟨ca, cvs, rfl, hca, hcv⟩ := ic
  obtain ⟨ua, rfl, hua⟩ := iu.strs
  have hcl : cvs.length = cs.length := by have := hcv.len; rw [List.length_map] at this; exact this
  have hl1 := hc.l1
  have hl2 := hc.l2
  have hsl := hs.ln
  walk_at "vc"
  intro p hp
  have S1 := (Stp.refl (ex := no) s0).new (.tup [.ty "list", .ty "tuple"]) hp
  walk_at "vc"
  refine w_isi2 S1.mh iu' upd_same (by simp) (by simp) ?_
  rw [show (Dat.isT (dS sd) "list" || Dat.isT (dS sd) "tuple") = true from rfl]
  walk_at "vc"
  refine ⟨ua, _, rfl, .inl (S1.mh _ _ hua), ?_⟩
  rw [List.length_map]
  walk_at "vc"
  refine ifdF (by omega) ?_
  refine w_next ?_
  with_reducible refine w_cut (fun σ' H' => ∃ o2 o3, σ' = [some (.ref ca), some (.ref ua), o2, o3, none] ∧ ∃ M', Stp no M H M' H') ?_ ?_
  · rintro σ1 H1 ⟨o2, o3, rfl, M1, S1⟩
    walk_at "vc"
    refine ⟨ca, cvs, rfl, SqL.of (S1.mh _ _ (S1.mm _ _ hca)), ?_⟩
    refine fo_go walkE (fun i σ' H' => ∃ o2 o3 o4 M', σ' = [some (.ref ca), some (.ref ua), o2, o3, o4] ∧ Stp no M H M' H') ⟨_, _, _, M1, rfl, S1⟩ (fun _ _ _ _ ⟨_, _, _, _, _, S⟩ => S.mh _ _ (S.mm _ _ hca)) ?_ ?_
    · rintro i v σ1 H3 H3' hi ⟨o2, o3, o4, M3, rfl, S3⟩ ⟨T, x, rfl, hT, rfl, hx⟩
      obtain ⟨k0, a0, hk, rfl, ha0⟩ := cells_at hcv hx
      have S4 := S3.new (.tup [.int i, .ref a0]) hT
      refine g_pair upd_same ?_
      generalize upd H3 T (.tup [.int i, .ref a0]) = H4 at S4 ⊢
      walk_at "vc"
      refine ⟨ua, rfl, ⟨_, SqL.of (S4.mh _ _ (S3.mm _ _ hua))⟩, ?_⟩
      refine lc_go (ex := no) walkL S4.mh (fun n acc _ => acc = ((sd.take n).map fun s => decide ((sl s)[i]? = some 46)).map V.bl) rfl (fun _ _ S => S.mh _ _ (S.mm _ _ (S3.mm _ _ hua))) ?_ ?_
      · rintro n v acc M5 H5 H5' D hn S5 hD m5 h5 rfl ⟨rfl, hv⟩
        obtain ⟨s', hs', rfl⟩ := map_at hv
        have hr := (hs.rw s' (mem_of_get hs')).1
        have hil : i < (sl s').length := by omega
        walk_at "vc"
        refine ⟨rfl, ?_⟩
        walk_at "vc"
        refine w_ixS (line_of (by rw [len_sl]; omega)) (atI_nat (List.getElem?_eq_getElem hil)) ?_
        walk_at "vc"
        refine LcA.of hD S5 m5 h5 (by rw [List.length_map, List.length_map, List.length_take]; omega) ?_
        rw [tk_snoc hs']
        have e1 : decide ((⟨#[(sl s')[i]]⟩ : Str) = Str.ofString ".") = decide ((sl s')[i]? = some 46) := by
          rw [List.getElem?_eq_getElem hil, dot_ofS]
          simp
        rw [e1]
        simp only [List.map_append, List.map_cons, List.map_nil]
      · rintro D acc M5 H5 hD S5 m5 h5 rfl
        rw [List.length_map, tk_all] at h5
        walk_at "vc"
        refine ⟨D, _, rfl, h5, ?_⟩
        have e : (sd.map fun s => decide ((sl s)[i]? = some 46)).all id = false := by
          obtain ⟨s', hm, c, h1, h2⟩ := hs.td i (by omega)
          rw [List.all_eq_false]
          exact ⟨_, List.mem_map.mpr ⟨s', hm, rfl⟩, by rw [h1]; simpa using h2⟩
        rw [e]
        walk_at "vc"
        exact ⟨_, _, _, M5, rfl, S4.trans S5⟩
    · rintro σ1 H3 ⟨o2, o3, o4, M3, rfl, S3⟩
      walk_at "vc"
      exact k _ _ _ S3 rfl
  · intro U hU
    walk_at "vc"
    refine ⟨ua, _, rfl, SqL.of (S1.mh _ _ hua), ?_⟩
    refine fo_go walkE (fun i σ' H' => ∃ o2 o3 M', σ' = [some (.ref ca), some (.ref ua), o2, o3, none] ∧ Stp no M H M' H') ⟨_, _, M, rfl, S1⟩ (fun _ _ _ _ ⟨_, _, _, _, S⟩ => S.mh _ _ (S.mm _ _ hua)) ?_ ?_
    · rintro i v σ1 H3 H3' hi ⟨o2, o3, M3, rfl, S3⟩ ⟨T, x, rfl, hT, rfl, hx⟩
      obtain ⟨s', hs', rfl⟩ := map_at hx
      have S4 := S3.new (.tup [.int i, .str s']) hT
      have hm := mem_of_get hs'
      refine g_pair upd_same ?_
      generalize upd H3 T (.tup [.int i, .str s']) = H4 at S4 ⊢
      walk_at "vc"
      refine ⟨.ref ca, s', cs, rfl, hc, hs.rw s' hm, M3, S4.mh, ic'.mono S3.mm, ?_⟩
      rintro v M5 H5 S5 rfl
      have S6 := S4.trans S5
      walk_at "vc"
      refine ⟨ca, cvs, rfl, .inl (S6.mh _ _ (S6.mm _ _ hca)), ?_⟩
      walk_at "vc"
      refine ⟨cvs.length, rfl, M5, S6.mh, by omega, ?_⟩
      rintro v M7 H7 S7 rfl
      have S8 := S6.trans S7
      walk_at "vc"
      refine ifdF (by rw [hcl]; exact hs.nb s' hm) ?_
      walk_at "vc"
      refine ⟨ua, _, rfl, S8.mh _ _ (S8.mm _ _ hua), fun q hq => ?_⟩
      rw [cutV_to, ← List.map_take]
      refine w_inS (.inl upd_same) ?_
      walk_at "vc"
      have hni : s' ∉ sd.take i := by
        intro z
        have nd := List.Sublist.nodup (List.take_sublist (i + 1) sd) hs.nd
        rw [tk_snoc hs', List.nodup_append] at nd
        exact nd.2.2 _ z _ List.mem_cons_self rfl
      refine ifdF hni ?_
      walk_at "vc"
      exact ⟨_, _, M7, rfl, S8.new _ hq⟩
    · rintro σ1 H3 ⟨o2, o3, M3, rfl, S3⟩
      exact hU _ _ ⟨_, _, rfl, M3, S3⟩
end
end Nt
namespace Nt
section
variable {P : Program} {w : World} {K : PySem.W.Frag} {mg : Str → Option Value} {base : Heap}
def sp_ordered_lots : Sp := fun vs H Q _ => ∃ (v : V) (xs : List Str), vs = [v] ∧ xs.length ≤ 1000 ∧ ∃ M, Same M H ∧ Is M (dS xs) v ∧ ∀ ys : List Str, (∀ y, y ∈ ys ↔ y ∈ xs) → Ret M H Q (dS ys)
theorem ok_ordered_lots (T : Tx K mg) : Good P w K mg base CX0 2 (He.fAd K (He.DefD.at_ d_ordered_lots)) p_ordered_lots sp_ordered_lots := by
  obtain ⟨fd, F⟩ := T.def_ 8 (d := d_ordered_lots) rfl
  obtain ⟨fl, L⟩ := T.def_ 7 (d := d_lot_size) rfl
  refine good_of F sc_ordered_lots (fun _ _ _ _ _ _ us hl => match us, hl with | [_], _ => rfl) (by intro vs H Q E h; (repeat obtain ⟨_, h⟩ := h); subst_vars; rfl) fun cdv A outer s H vs Q E hr h => ?_
  have hu := hu_of hr
  refine ⟨_, (pss_one (ps_ret (pe_callBK (cq_sortKey (z := "+") (Nat.lt_of_le_of_lt (Nat.add_le_add_right (Nat.le_add_right _ _) _) hr.un) (fun s KX lim y t E => count_key L sc_lot_size rfl (fun _ _ _ _ _ _ us hl => match us, hl with | [_], _ => rfl) rfl (by decide) (by have := hr.dp; exact Nat.lt_of_le_of_lt (Nat.le_add_right _ _) this) KX lim y t E)) (by rfl) T.b_sorted (by decide +kernel)
    (pa_cons (pe_callB (cq_sortedSet rfl) (by rfl) T.b_sorted (by decide +kernel) (pa_cons (pe_callTy (cq_set rfl) (by rfl) T.b_set (by decide +kernel) (pa_cons (pv 0) pa_nil)) pa_nil)) pa_nil) (pk_cons (pe_glob (v := .ref (He.fAd K (He.DefD.at_ d_lot_size))) (by rfl) T.m_lot_size rfl) pk_nil)))), ?_⟩
  obtain ⟨v, xs, rfl, hl, M, s0, iv, k⟩ := h
  obtain ⟨a, rfl, ha⟩ := iv.strs
  walk_at "vc"
  refine w_ckw ?_
  walk_at "vc"
  refine ⟨a, xs, rfl, s0 _ _ ha, hl, fun p hp => ?_⟩
  have S1 := (Stp.refl (ex := no) s0).new (SetX P w p (setL xs)) hp
  walk_at "vc"
  refine ⟨p, setL xs, rfl, upd_same, Nat.le_trans (setL_le xs) hl, fun ys q hm hy _ hq => ?_⟩
  have S2 := S1.new (.lst (ys.map V.str)) hq
  walk_at "vc"
  refine ⟨q, ys, rfl, rfl, upd_same, by have := setL_le xs; omega, fun zs r pz hr' => ?_⟩
  have S3 := S2.lay (.lst (zs.map V.str)) hr'
  exact k zs (fun y => by rw [pz.mem_iff, hm, setL_mem]) _ _ _ S3 (Is.of_strs upd_same)
def sp_grown_rows : Sp := fun vs H Q _ => ∃ (v : V) (seeds : List Str) (n : Nat), vs = [v, .str (blk n), .int 800] ∧ n ≤ 100 ∧ seeds.length ≤ 100 ∧ (∀ s ∈ seeds, s.length = n) ∧ (itB seeds (blk n) 41).length ≤ 40 ∧ ∃ M, Same M H ∧ Is M (dS seeds) v ∧ Ret M H Q (dS (itB seeds (blk n) 41))
theorem ok_grown_rows (T : Tx K mg) : Good P w K mg base CX0 2 (He.fAd K (He.DefD.at_ d_grown_rows)) p_grown_rows sp_grown_rows := by
  obtain ⟨fd, F⟩ := T.def_ 10 (d := d_grown_rows) rfl
  have g_over : Good P w K mg base CX0 1 (He.fAd K (He.DefD.at_ d_over)) p_over sp_over := ok_over T
  refine good_of F sc_grown_rows (fun _ _ _ _ _ _ us hl => match us, hl with | [_, _, _], _ => rfl) (by intro vs H Q E h; (repeat obtain ⟨_, h⟩ := h); subst_vars; rfl) fun cdv A outer s H vs Q E hr h => ?_
  have hu := hu_of hr
  refine ⟨_, (pss_cons (ps_set (i := 3) sc_grown_rows.nd rfl (Or.inl rfl) (pe_lst (pa_cons (pv 1) pa_nil)))  (pss_cons (ps_set (i := 4) sc_grown_rows.nd rfl (Or.inl rfl) (pe_disp (pps_cons (pv 1) pe_bl pps_nil) (by rfl) (by rfl) (fun z => by cases z) (by decide)))  (pss_cons (ps_set (i := 5) sc_grown_rows.nd rfl (Or.inl rfl) pe_int)  (pss_cons (ps_while PassesOwn.never (PW.pt (pw_and (pt_cmpR op_lt (pv 5) (pe_callB cq_len (by rfl) T.b_len (by decide +kernel) (pa_cons (pv 3) pa_nil)) (nomark _)) (pw_and1 (pt_cmpR op_le (pe_callB cq_len (by rfl) T.b_len (by decide +kernel) (pa_cons (pv 3) pa_nil)) (pv 2) (nomark _)))))  (pss_cons (ps_for PassesOwn.never rfl (iq_list K (pv 0)) (pg_name (i := 6) sc_grown_rows.nd rfl (Or.inl rfl) (Or.inl rfl))  (pss_cons (ps_set (i := 7) sc_grown_rows.nd rfl (Or.inl rfl) (pe_good g_over (hr.mono (by decide)) rfl T.m_over (pa_cons (pv 6) (pa_cons (pe_ix xq_list (pv 3) (pv 5) (fun _ _ => rfl)) pa_nil))))  (pss_one (ps_if (pt_cmp (pc_dnotin hu (pv 7) (pv 4)) rfl)  (pss_cons (ps_dput hu (pv 4) (pv 7) pe_bl rfl)  (pss_one (ps_expr (eq_bm PySem.F.slot_list_append PySem.F.type_list_append mt_append (pv 3) (pa_cons (pv 7) pa_nil)))))  pss_nil))))  (pss_one (ps_set (i := 5) sc_grown_rows.nd rfl (Or.inl rfl) (pe_op op_add (pv 5) pe_int)))))  (pss_one (ps_ret (pv 3))))))), ?_⟩
  obtain ⟨v, seeds, n, rfl, hn, hsl, hs, h40, M, s0, i0, k⟩ := h
  obtain ⟨a, rfl, ha⟩ := i0.strs
  walk_at "vc"
  intro f hf
  walk_at "vc"
  intro d hd
  refine w_one ?_
  walk_at "vc"
  refine ⟨upd_same, [(.inr (blk n), .bl true)], rfl, by simp, ?_⟩
  obtain ⟨hfd, hd0⟩ := two_ne hd
  walk_at "vc"
  have S1 := (((Stp.refl (ex := no) s0).new (.lst [.str (blk n)]) hf).new (.dK []) hd).put (.dK (mergeK [] [(Sum.inr (blk n), V.bl true)])) (none_of_same s0 hd0) (.inl hd0)
  let I : Nat → Option V → Option V → List Str → L2.St → Hp → Prop := fun i o6 o7 fs σ' H' => ∃ M', σ' = [some (.ref a), some (.str (blk n)), some (.int 800), some (.ref f), some (.ref d), some (.int (i : Nat)), o6, o7] ∧ Stp no M H M' H' ∧ M' f = none ∧ M' d = none ∧ H' f = some (.lst (fs.map V.str)) ∧ H' d = some (.dK (kd yes fs))
  refine ⟨fun m σ' H' => ∃ i o6 o7, i + m = 50 ∧ i ≤ 41 ∧ I i o6 o7 (itB seeds (blk n) i) σ' H', ⟨50, 0, none, none, rfl, by omega, M, rfl, S1, none_of_same s0 hf, none_of_same s0 hd0, by rw [upd_ne (Ne.symm hfd), upd_ne (Ne.symm hfd), upd_same]; rfl, upd_same⟩, ?_⟩
  rintro m σ1 H1 ⟨i, o6, o7, him, hi, M1, rfl, S1, mf, md, hf1, hd1⟩
  have hle : (itB seeds (blk n) i).length ≤ 40 := Nat.le_trans (itB_le hi) h40
  walk_at "vc"
  refine ⟨f, _, rfl, .inl hf1, ?_⟩
  rw [List.length_map]
  walk_at "vc"
  refine ifd (fun q => ?_) (fun q => ?_)
  · walk_at "vc"
    refine ⟨f, _, rfl, .inl hf1, ?_⟩
    rw [List.length_map]
    walk_at "vc"
    refine ifdT (by omega) ?_
    have q : i < (itB seeds (blk n) i).length := by omega
    obtain ⟨r, hr1⟩ : ∃ r, (itB seeds (blk n) i)[i]? = some r := ⟨_, List.getElem?_eq_getElem q⟩
    have e1 : itB seeds (blk n) (i + 1) = stepB seeds r (itB seeds (blk n) i) := by rw [itB, hr1]
    refine ⟨fun σ' H' => ∃ o6 o7, I (i + 1) o6 o7 (itB seeds (blk n) (i + 1)) σ' H', fun σ' H' ⟨o6, o7, hI⟩ => ⟨m - 1, by omega, i + 1, o6, o7, by omega, by omega, hI⟩, ?_⟩
    refine w_cut (fun σ' H' => ∃ o6 o7, I i o6 o7 (itB seeds (blk n) (i + 1)) σ' H') ?_ ?_
    · rintro σ2 H2 ⟨o6, o7, M2, rfl, S2, mf2, md2, hf2, hd2⟩
      walk_at "vc"
      exact ⟨_, _, M2, rfl, S2, mf2, md2, hf2, hd2⟩
    · intro U hU
      walk_at "vc"
      refine ⟨a, rfl, ⟨_, SqL.of (S1.mh _ _ (S1.mm _ _ ha))⟩, ?_⟩
      refine fo_go walkL (fun j σ' H' => ∃ o6 o7, I i o6 o7 ((seeds.take j).foldl (addB r) (itB seeds (blk n) i)) σ' H') ⟨_, _, M1, rfl, S1, mf, md, hf1, hd1⟩ (fun _ _ _ _ ⟨_, _, _, _, S, _⟩ => S.mh _ _ (S.mm _ _ ha)) ?_ ?_
      · rintro j v σ3 H3 H3' hj ⟨o6, o7, M3, rfl, S3, mf3, md3, hf3, hd3⟩ ⟨rfl, hv⟩
        obtain ⟨s', hs1, rfl⟩ := map_at hv
        obtain ⟨t, et, ht⟩ := stepB_pre (r := r) (seeds.take j) (itB seeds (blk n) i)
        have et' : (seeds.take j).foldl (addB r) (itB seeds (blk n) i) = itB seeds (blk n) i ++ t := et
        rw [List.length_take] at ht
        have hget : (((seeds.take j).foldl (addB r) (itB seeds (blk n) i)).map V.str)[i]? = some (.str r) := by
          rw [List.getElem?_map, et', List.getElem?_append_left q, hr1]
          rfl
        have hlen : ((seeds.take j).foldl (addB r) (itB seeds (blk n) i)).length ≤ 1000 := by
          rw [et', List.length_append]
          omega
        have e2 := fold_tk (g := addB r) (b := itB seeds (blk n) i) hs1
        walk_at "vc"
        refine w_ixl hf3 (atI_nat hget) ?_
        walk_at "vc"
        refine ⟨s', r, rfl, M3, S3.mh, by rw [hs s' (mem_of_get hs1)]; omega, ?_⟩
        rintro v M4 H4 S4 rfl
        obtain ⟨mf4, hf4⟩ := S4.keep mf3 hf3
        obtain ⟨md4, hd4⟩ := S4.keep md3 hd3
        walk_at "vc"
        refine kd_has hd4 (fun q3 => ?_) (fun q3 => ?_)
        · walk_at "vc"
          rw [e2]
          refine ⟨_, _, M4, rfl, S3.trans S4, mf4, md4, ?_, ?_⟩
          · rw [hf4, addB, if_pos q3]
          · rw [hd4, addB, if_pos q3]
        · walk_at "vc"
          refine kd_set (f := yes) hd4 q3 (by omega) rfl ?_
          walk_at "vc"
          have hf5 : upd H4 d (.dK (kd yes ((seeds.take j).foldl (addB r) (itB seeds (blk n) i) ++ [ovr s' r]))) f = some (.lst (((seeds.take j).foldl (addB r) (itB seeds (blk n) i)).map V.str)) := by rw [upd_ne (Ne.symm hfd)]; exact hf4
          refine ⟨⟨f, _, rfl, hf5⟩, ?_⟩
          walk_at "vc"
          refine ⟨f, _, _, rfl, rfl, hf5, line_lt (by rw [List.length_map]; omega), ?_⟩
          walk_at "vc"
          rw [e2]
          refine ⟨_, _, M4, rfl, ((S3.trans S4).put _ md4 (.inl hd0)).put _ mf4 (.inl hf), mf4, md4, ?_, ?_⟩
          · rw [upd_same, addB, if_neg q3]; simp
          · rw [upd_ne hfd, upd_same, addB, if_neg q3]
      · rintro σ3 H3 ⟨o6, o7, M3, rfl, S3, mf3, md3, hf3, hd3⟩
        walk_at "vc"
        rw [List.length_map, tk_all] at hf3 hd3
        rw [e1] at hU
        exact hU _ _ ⟨_, _, M3, rfl, S3, mf3, md3, hf3, hd3⟩
  · walk_at "vc"
    have e : itB seeds (blk n) 41 = itB seeds (blk n) i := by
      have st := itB_stay (seeds := seeds) (z := blk n) (n := i) (by omega) (41 - i)
      rw [show i + (41 - i) = 41 by omega] at st
      exact st
    rw [e] at k
    exact k _ _ _ (S1.fix hf1 hf) (Is.of_strs upd_same)
end
end Nt
namespace Nt
section
variable {P : Program} {w : World} {K : PySem.W.Frag} {mg : Str → Option Value} {base : Heap}
def sp_Band_seeds (C : Addr) : Sp := fun vs H Q _ => ∃ (a : Addr) (cs : Cells) (seeds rows : List Str), vs = [.ref a] ∧ ∃ M, Same M H ∧ BandO C M cs seeds rows a ∧ Ret M H Q (dS seeds)
theorem ok_Band_seeds (T : Tx K mg) : Good P w K mg base CX0 1 (He.fAd K (He.DefD.at_ d_Band_seeds)) p_Band_seeds (sp_Band_seeds (He.ga K "Band")) := by
  obtain ⟨fd, F⟩ := T.def_ 12 (d := d_Band_seeds) rfl
  refine good_of F sc_Band_seeds (fun _ _ _ _ _ _ us hl => match us, hl with | [_], _ => rfl) (by intro vs H Q E h; (repeat obtain ⟨_, h⟩ := h); subst_vars; rfl) fun cdv A outer s H vs Q E hr h => ?_
  have hu := hu_of hr
  refine ⟨_, (pss_one (ps_ret (pe_callTy cq_list (by rfl) T.b_list (by decide +kernel) (pa_cons (pe_fld (pv 0) rfl) pa_nil)))), ?_⟩
  obtain ⟨a, cs, seeds, rows, rfl, M, s0, ⟨dx, vc, vs, vr, vk, vl, h1, h3, h5, h7, _⟩, k⟩ := h
  obtain ⟨b, rfl, hb⟩ := h5.strs
  walk_at "vc"
  refine ⟨a, _, dx, _, _, rfl, s0 _ _ h1, T.c_Band, T.n_Band_seed_list, fl_seed, ?_⟩
  walk_at "vc"
  refine ⟨b, _, rfl, .inl (s0 _ _ hb), fun l hl => ?_⟩
  exact k _ _ _ ((Stp.refl s0).lay _ hl) (Is.of_strs upd_same)
def sp_Band_rows (C : Addr) : Sp := fun vs H Q _ => ∃ (a : Addr) (cs : Cells) (seeds rows : List Str), vs = [.ref a] ∧ ∃ M, Same M H ∧ BandO C M cs seeds rows a ∧ Ret M H Q (dS rows)
theorem ok_Band_rows (T : Tx K mg) : Good P w K mg base CX0 1 (He.fAd K (He.DefD.at_ d_Band_rows)) p_Band_rows (sp_Band_rows (He.ga K "Band")) := by
  obtain ⟨fd, F⟩ := T.def_ 13 (d := d_Band_rows) rfl
  refine good_of F sc_Band_rows (fun _ _ _ _ _ _ us hl => match us, hl with | [_], _ => rfl) (by intro vs H Q E h; (repeat obtain ⟨_, h⟩ := h); subst_vars; rfl) fun cdv A outer s H vs Q E hr h => ?_
  have hu := hu_of hr
  refine ⟨_, (pss_one (ps_ret (pe_callTy cq_list (by rfl) T.b_list (by decide +kernel) (pa_cons (pe_fld (pv 0) rfl) pa_nil)))), ?_⟩
  obtain ⟨a, cs, seeds, rows, rfl, M, s0, ⟨dx, vc, vs, vr, vk, vl, h1, h3, h5, h7, _⟩, k⟩ := h
  obtain ⟨b, rfl, hb⟩ := h7.strs
  walk_at "vc"
  refine ⟨a, _, dx, _, _, rfl, s0 _ _ h1, T.c_Band, T.n_Band_row_list, fl_row, ?_⟩
  walk_at "vc"
  refine ⟨b, _, rfl, .inl (s0 _ _ hb), fun l hl => ?_⟩
  exact k _ _ _ ((Stp.refl s0).lay _ hl) (Is.of_strs upd_same)
def sp_Band_full_rows (C : Addr) : Sp := fun vs H Q _ => ∃ (a : Addr) (cs : Cells) (seeds rows : List Str), vs = [.ref a] ∧ rows.length ≤ 1000 ∧ ∃ M, Same M H ∧ BandO C M cs seeds rows a ∧ Ret M H Q (dS (fullS rows))
def sp_Band___init__ (C : Addr) : Sp := fun vs H Q _ => ∃ (x dx : Addr) (u v : V) (cs : Cells) (seeds : List Str) (H0 M : Hp), vs = [.ref x, u, v, .int 800] ∧ H = upd (upd H0 dx (.own x)) x (.ins C dx []) ∧ H0 x = none ∧ H0 dx = none ∧ dx ≠ x ∧
  CellsOk cs ∧ SeedsOk cs seeds ∧ (itB seeds (blk cs.length) 41).length ≤ 40 ∧ Same M H0 ∧ Is M (cellsD cs) u ∧ Is M (dS seeds) v ∧
  ∀ rows M' H', rows.Perm (itB seeds (blk cs.length) 41) → sortedS rows = true → Stp no M H0 M' H' → BandO C M' cs seeds rows x → Q .non H'
theorem bind_band {fd : FuncData} (F : FunD K d_Band___init__.name d_Band___init__.qual d_Band___init__.params d_Band___init__.body d_Band___init__.scope [] [("most", V.int 800)] (He.fAd K d_Band___init__.at_) fd) : ∃ ds, Vals [V.int 800] ds ∧ Binds K fd p_Band___init__ ds := by
  refine FunD.binds0 (ps := p_Band___init__) F 3 (List.cons_ne_nil _ _) (by show 3 + 1 = 4; rfl) ?_
  intro D doc pm an cdv ct us ks h1 h2
  match us, ks, h1, h2 with
  | [a, b, c], [d], _, _ => exact ⟨_, _, _, _, _, _, rfl, rfl, rfl⟩
theorem ok_Band___init__ (T : Tx K mg) : ∃ fd, FnOk P w K mg base CX0 3 (He.fAd K (He.DefD.at_ d_Band___init__)) fd p_Band___init__ (sp_Band___init__ (He.ga K "Band")) ∧ ∃ ds, Vals [V.int 800] ds ∧ Binds K fd p_Band___init__ ds := by
  obtain ⟨fd, F⟩ := T.def_ 11 (d := d_Band___init__) rfl
  have g_blank : Good P w K mg base CX0 1 (He.fAd K (He.DefD.at_ d_blank)) p_blank sp_blank := ok_blank T
  have g_check_cells : Good P w K mg base CX0 2 (He.fAd K (He.DefD.at_ d_check_cells)) p_check_cells sp_check_cells := ok_check_cells T
  have g_check_seeds : Good P w K mg base CX0 2 (He.fAd K (He.DefD.at_ d_check_seeds)) p_check_seeds sp_check_seeds := ok_check_seeds T
  have g_grown_rows : Good P w K mg base CX0 2 (He.fAd K (He.DefD.at_ d_grown_rows)) p_grown_rows sp_grown_rows := ok_grown_rows T
  have g_is_number : Good P w K mg base CX0 1 (He.fAd K (He.DefD.at_ d_is_number)) p_is_number sp_is_number := ok_is_number T
  have g_lot_of : Good P w K mg base CX0 1 (He.fAd K (He.DefD.at_ d_lot_of)) p_lot_of sp_lot_of := ok_lot_of T
  have g_ordered_lots : Good P w K mg base CX0 2 (He.fAd K (He.DefD.at_ d_ordered_lots)) p_ordered_lots sp_ordered_lots := ok_ordered_lots T
  refine ⟨fd, F.ok sc_Band___init__ (by intro vs H Q E h; (repeat obtain ⟨_, h⟩ := h); subst_vars; rfl) (fun cdv A outer s H vs Q E hr h => ?_), bind_band F⟩
  have hu := hu_of hr
  refine from_nox ?_
  refine ⟨_, (pss_cons (ps_expr (pe_good g_check_cells (hr.mono (by decide)) rfl T.m_check_cells (pa_cons (pv 1) pa_nil)))  (pss_cons (ps_expr (pe_good g_check_seeds (hr.mono (by decide)) rfl T.m_check_seeds (pa_cons (pv 1) (pa_cons (pv 2) pa_nil))))  (pss_cons (ps_if (pt_not (pt_val (pe_good g_is_number (hr.mono (by decide)) rfl T.m_is_number (pa_cons (pv 3) (pa_cons pe_int (pa_cons (pe_gint rfl T.m_MOST_ROWS) pa_nil))))))  (pss_one ps_never)  pss_nil)  (pss_cons (ps_set (i := 4) sc_Band___init__.nd rfl (Or.inl rfl) (pe_good g_grown_rows (hr.mono (by decide)) rfl T.m_grown_rows (pa_cons (pv 2) (pa_cons (pe_good g_blank (hr.mono (by decide)) rfl T.m_blank (pa_cons (pe_callB cq_len (by rfl) T.b_len (by decide +kernel) (pa_cons (pv 1) pa_nil)) pa_nil)) (pa_cons (pv 3) pa_nil)))))  (pss_cons (ps_if (pt_cmpR op_gt (pe_callB cq_len (by rfl) T.b_len (by decide +kernel) (pa_cons (pv 4) pa_nil)) (pv 3) (nomark _))  (pss_one ps_never)  pss_nil)  (pss_cons (ps_fld (pv 0) (pe_callTy cq_list (by rfl) T.b_list (by decide +kernel) (pa_cons (pv 1) pa_nil)) rfl)  (pss_cons (ps_fld (pv 0) (pe_callTy cq_list (by rfl) T.b_list (by decide +kernel) (pa_cons (pv 2) pa_nil)) rfl)  (pss_cons (ps_fld (pv 0) (pe_callB cr_sortedS (by rfl) T.b_sorted (by decide +kernel) (pa_cons (pv 4) pa_nil)) rfl)  (pss_cons (ps_fld (pv 0) (pe_dc (own := [("row", 5)]) (by rfl) sc_Band___init__.nd (iq_list K (pv 4)) (blkOk_by (own := [("row", 5)]) (N := n_Band___init__) (sc := He.DefD.scope d_Band___init__) (by decide +kernel)) (fun _ _ _ _ _ => (pg_name (i := 5) sc_Band___init__.nd rfl (Or.inl rfl) (Or.inr rfl))) (fun _ _ _ _ _ => pts_nil) (fun _ _ _ _ _ => (pv 5)) (fun _ _ _ _ _ => pe_bl)) rfl)  (pss_one (ps_fld (pv 0) (pe_good g_ordered_lots (hr.mono (by decide)) rfl T.m_ordered_lots (pa_cons (pe_lc (own := [("row", 5)]) (by rfl) sc_Band___init__.nd (iq_list K (pv 4)) (blkOk_by (own := [("row", 5)]) (N := n_Band___init__) (sc := He.DefD.scope d_Band___init__) (by decide +kernel)) (fun _ _ _ _ _ => (pg_name (i := 5) sc_Band___init__.nd rfl (Or.inl rfl) (Or.inr rfl))) (fun _ _ _ _ _ => pts_nil) (fun _ _ _ _ _ => (pe_good g_lot_of (hr.mono (by decide)) rfl T.m_lot_of (pa_cons (pv 5) pa_nil)))) pa_nil)) rfl))))))))))), ?_⟩
  obtain ⟨x, dx, u, v, cs, seeds, H0, M, rfl, rfl, hx, hdx, hne, hc, hs, h40, s0, iu, iv, k⟩ := h
  have S1 := ((Stp.refl (ex := no) s0).new (.own x) hdx).new (.ins (He.ga K "Band") dx []) (p := x) (by rw [upd_ne (Ne.symm hne)]; exact hx)
  have hx1 : upd (upd H0 dx (.own x)) x (.ins (He.ga K "Band") dx []) x = some (.ins (He.ga K "Band") dx []) := upd_same
  have mx1 : M x = none := none_of_same s0 hx
  have iu' := iu
  have iv' := iv
  obtain ⟨ca, cvs, rfl, hca, hcv⟩ := iu
  obtain ⟨sa, rfl, hsa⟩ := iv.strs
  have hcl : cvs.length = cs.length := by have := hcv.len; rw [List.length_map] at this; exact this
  have hl2 := hc.l2
  have hsl := hs.ln
  generalize upd (upd H0 dx (.own x)) x (.ins (He.ga K "Band") dx []) = H1 at S1 hx1 ⊢
  walk_at "vc"
  refine ⟨_, cs, rfl, hc, M, S1.mh, iu', ?_⟩
  intro v2 M2 H2 S2 i2
  obtain ⟨mx2, hx2⟩ := S2.keep mx1 hx1
  have S2' := S1.trans S2
  walk_at "vc"
  refine ⟨_, _, cs, seeds, rfl, hc, hs, M2, S2.mh, iu'.mono S2.mm, iv'.mono S2.mm, ?_⟩
  intro v3 M3 H3 S3 i3
  obtain ⟨mx3, hx3⟩ := S3.keep mx2 hx2
  have S3' := S2'.trans S3
  walk_at "vc"
  refine ⟨800, 1, 800, rfl, by decide, by decide, M3, S3.mh, ?_⟩
  rintro v4 M4 H4 S4 rfl
  obtain ⟨mx4, hx4⟩ := S4.keep mx3 hx3
  have S4' := S3'.trans S4
  walk_at "vc"
  refine ⟨ca, cvs, rfl, .inl (S4'.mh _ _ (S4'.mm _ _ hca)), ?_⟩
  walk_at "vc"
  refine ⟨cvs.length, rfl, M4, S4.mh, by omega, ?_⟩
  rintro v5 M5 H5 S5 rfl
  obtain ⟨mx5, hx5⟩ := S5.keep mx4 hx4
  have S5' := S4'.trans S5
  walk_at "vc"
  rw [hcl]
  refine ⟨.ref sa, seeds, cs.length, rfl, by omega, by omega, fun s hs' => row_len (hs.rw s hs'), h40, M5, S5.mh, iv'.mono S5'.mm, ?_⟩
  intro v6 M6 H6 S6 i6
  obtain ⟨ra, rfl, hra⟩ := i6.strs
  obtain ⟨mx6, hx6⟩ := S6.keep mx5 hx5
  have S6' := S5'.trans S6
  walk_at "vc"
  have hRl : ∀ r ∈ itB seeds (blk cs.length) 41, r.length ≤ 1000 := fun r hr' => by rw [row_len (rows_all hs.rw 41 r hr')]; omega
  have hRn : (itB seeds (blk cs.length) 41).Nodup := itB_nd 41
  generalize itB seeds (blk cs.length) 41 = R at h40 k hra hRl hRn
  refine ⟨ra, _, rfl, .inl (S6.mh _ _ hra), ?_⟩
  rw [List.length_map]
  walk_at "vc"
  refine ifdF (by omega) ?_
  walk_at "vc"
  refine ⟨ca, cvs, rfl, .inl (S6'.mh _ _ (S6'.mm _ _ hca)), fun l1 hl1 => ?_⟩
  have S7 := S6'.lay (.lst cvs) hl1
  have hxl1 : x ≠ l1 := fun z => by rw [z, hl1] at hx6; cases hx6
  have m7 : Same M6 (upd M6 l1 (.lst cvs)) := same_upd (S6.mfree hl1)
  have iu7 : Is (upd M6 l1 (.lst cvs)) (cellsD cs) (.ref l1) := ⟨l1, cvs, rfl, upd_same, (hcv.mono S6'.mm).mono m7⟩
  have mx7 : upd M6 l1 (.lst cvs) x = none := by rw [upd_ne hxl1]; exact mx6
  have hx7 : upd H6 l1 (.lst cvs) x = some (.ins (He.ga K "Band") dx []) := by rw [upd_ne hxl1]; exact hx6
  have hra7 := m7 _ _ hra
  have hsa7 : upd M6 l1 (.lst cvs) sa = some (.lst (seeds.map V.str)) := S7.mm _ _ hsa
  generalize upd M6 l1 (.lst cvs) = M7 at S7 iu7 mx7 hra7 hsa7
  generalize upd H6 l1 (.lst cvs) = H7 at S7 hx7 ⊢
  walk_at "vc"
  refine ⟨x, _, dx, [], rfl, hx7, T.c_Band, T.n_Band_cell_list, (by simp), ?_⟩
  rw [pf1]
  have S8 := S7.put (.ins (He.ga K "Band") dx [("cell_list", .ref l1)]) mx7 (.inl hx)
  have hx8 : upd H7 x (.ins (He.ga K "Band") dx [("cell_list", .ref l1)]) x = some (.ins (He.ga K "Band") dx [("cell_list", .ref l1)]) := upd_same
  generalize upd H7 x (.ins (He.ga K "Band") dx [("cell_list", .ref l1)]) = H8 at S8 hx8 ⊢
  walk_at "vc"
  refine ⟨sa, _, rfl, .inl (S8.mh _ _ hsa7), fun l2 hl2' => ?_⟩
  have S9 := S8.lay (.lst (seeds.map V.str)) hl2'
  have hxl2 : x ≠ l2 := fun z => by rw [z, hl2'] at hx8; cases hx8
  have m9 : Same M7 (upd M7 l2 (.lst (seeds.map V.str))) := same_upd (S8.mfree hl2')
  have iv9 : Is (upd M7 l2 (.lst (seeds.map V.str))) (dS seeds) (.ref l2) := Is.of_strs upd_same
  have mx9 : upd M7 l2 (.lst (seeds.map V.str)) x = none := by rw [upd_ne hxl2]; exact mx7
  have hx9 : upd H8 l2 (.lst (seeds.map V.str)) x = some (.ins (He.ga K "Band") dx [("cell_list", .ref l1)]) := by rw [upd_ne hxl2]; exact hx8
  have hra9 := m9 _ _ hra7
  have iu9 := iu7.mono m9
  generalize upd M7 l2 (.lst (seeds.map V.str)) = M9 at S9 iu9 iv9 mx9 hra9
  generalize upd H8 l2 (.lst (seeds.map V.str)) = H9 at S9 hx9 ⊢
  walk_at "vc"
  refine ⟨x, _, dx, _, rfl, hx9, T.c_Band, T.n_Band_seed_list, (by simp), ?_⟩
  rw [pf2]
  have S10 := S9.put (.ins (He.ga K "Band") dx [("cell_list", .ref l1), ("seed_list", .ref l2)]) mx9 (.inl hx)
  have hx10 : upd H9 x (.ins (He.ga K "Band") dx [("cell_list", .ref l1), ("seed_list", .ref l2)]) x = some (.ins (He.ga K "Band") dx [("cell_list", .ref l1), ("seed_list", .ref l2)]) := upd_same
  generalize upd H9 x (.ins (He.ga K "Band") dx [("cell_list", .ref l1), ("seed_list", .ref l2)]) = H10 at S10 hx10 ⊢
  walk_at "vc"
  refine ⟨ra, R, rfl, SqL.of (S10.mh _ _ hra9), by omega, ?_⟩
  intro rows l3 hpm hsd hl3
  have S11 := S10.lay (.lst (rows.map V.str)) hl3
  have hxl3 : x ≠ l3 := fun z => by rw [z, hl3] at hx10; cases hx10
  have m11 : Same M9 (upd M9 l3 (.lst (rows.map V.str))) := same_upd (S10.mfree hl3)
  have ir11 : Is (upd M9 l3 (.lst (rows.map V.str))) (dS rows) (.ref l3) := Is.of_strs upd_same
  have mx11 : upd M9 l3 (.lst (rows.map V.str)) x = none := by rw [upd_ne hxl3]; exact mx9
  have hx11 : upd H10 l3 (.lst (rows.map V.str)) x = some (.ins (He.ga K "Band") dx [("cell_list", .ref l1), ("seed_list", .ref l2)]) := by rw [upd_ne hxl3]; exact hx10
  have hra11 := m11 _ _ hra9
  have iu11 := iu9.mono m11
  have iv11 := iv9.mono m11
  generalize upd M9 l3 (.lst (rows.map V.str)) = M11 at S11 iu11 iv11 ir11 mx11 hra11
  generalize upd H10 l3 (.lst (rows.map V.str)) = H11 at S11 hx11 ⊢
  walk_at "vc"
  refine ⟨x, _, dx, _, rfl, hx11, T.c_Band, T.n_Band_row_list, (by simp), ?_⟩
  rw [pf3]
  have S12 := S11.put (.ins (He.ga K "Band") dx [("cell_list", .ref l1), ("seed_list", .ref l2), ("row_list", .ref l3)]) mx11 (.inl hx)
  have hx12 : upd H11 x (.ins (He.ga K "Band") dx [("cell_list", .ref l1), ("seed_list", .ref l2), ("row_list", .ref l3)]) x = some (.ins (He.ga K "Band") dx [("cell_list", .ref l1), ("seed_list", .ref l2), ("row_list", .ref l3)]) := upd_same
  generalize upd H11 x (.ins (He.ga K "Band") dx [("cell_list", .ref l1), ("seed_list", .ref l2), ("row_list", .ref l3)]) = H12 at S12 hx12 ⊢
  walk_at "vc"
  refine ⟨ra, rfl, ⟨_, SqL.of (S12.mh _ _ hra11)⟩, ?_⟩
  refine dc_go (ex := no) walkL S12.mh (fun i acc _ => acc = kd yes (R.take i)) rfl (fun _ _ S => S.mh _ _ (S.mm _ _ hra11)) ?_ ?_
  · rintro i v acc M13 H13 H13' D hi S13 hD m13 h13 rfl ⟨rfl, hv⟩
    obtain ⟨r, hr', rfl⟩ := map_at hv
    rw [List.length_map] at hi
    walk_at "vc"
    refine ⟨rfl, ?_⟩
    walk_at "vc"
    exact ⟨_, .inr r, rfl, h13, line_lt (by rw [kd_len, List.length_take]; omega), M13, _, S13.put _ m13 (.inl hD), m13, upd_same, by rw [tk_snoc hr', ← kd_put yes r _ (nodup_at hRn hr')]⟩
  · rintro D acc M13 H13 hD S13 m13 h13 rfl
    rw [List.length_map, List.take_length] at h13
    obtain ⟨mx13, hx13⟩ := S13.keep mx11 hx12
    have hxD : x ≠ D := fun z => by rw [z, hD] at hx12; cases hx12
    replace S13 := S13.fix h13 hD
    have hk13 : upd M13 D (.dK (kd yes R)) D = some (.dK (kd yes R)) := upd_same
    replace mx13 : upd M13 D (.dK (kd yes R)) x = none := by rw [upd_ne hxD]; exact mx13
    generalize upd M13 D (.dK (kd yes R)) = M13 at S13 hk13 mx13
    have S13' := S12.trans S13
    walk_at "vc"
    refine ⟨x, _, dx, _, rfl, hx13, T.c_Band, T.n_Band_known_rows, (by simp), ?_⟩
    rw [pf4]
    have S14 := S13'.put (.ins (He.ga K "Band") dx [("cell_list", .ref l1), ("seed_list", .ref l2), ("row_list", .ref l3), ("known_rows", .ref D)]) mx13 (.inl hx)
    have hx14 : upd H13 x (.ins (He.ga K "Band") dx [("cell_list", .ref l1), ("seed_list", .ref l2), ("row_list", .ref l3), ("known_rows", .ref D)]) x = some (.ins (He.ga K "Band") dx [("cell_list", .ref l1), ("seed_list", .ref l2), ("row_list", .ref l3), ("known_rows", .ref D)]) := upd_same
    have hra13 := S13.mm _ _ hra11
    have iu13 := iu11.mono S13.mm
    have iv13 := iv11.mono S13.mm
    have ir13 := ir11.mono S13.mm
    generalize upd H13 x (.ins (He.ga K "Band") dx [("cell_list", .ref l1), ("seed_list", .ref l2), ("row_list", .ref l3), ("known_rows", .ref D)]) = H14 at S14 hx14 ⊢
    walk_at "vc"
    refine ⟨ra, rfl, ⟨_, SqL.of (S14.mh _ _ hra13)⟩, ?_⟩
    refine lc_go (ex := no) walkL S14.mh (fun i acc _ => acc = ((R.take i).map lotS).map V.str) rfl (fun _ _ S => S.mh _ _ (S.mm _ _ hra13)) ?_ ?_
    · rintro i v acc M15 H15 H15' D2 hi S15 hD2 m15 h15 rfl ⟨rfl, hv⟩
      obtain ⟨r, hr', rfl⟩ := map_at hv
      rw [List.length_map] at hi
      walk_at "vc"
      refine ⟨rfl, ?_⟩
      walk_at "vc"
      refine ⟨r, rfl, M15, S15.mh, hRl r (mem_of_get hr'), ?_⟩
      rintro v M16 H16 S16 rfl
      obtain ⟨m16, h16⟩ := S16.keep m15 h15
      exact LcA.of hD2 (S15.trans S16) m16 h16 (by rw [List.length_map, List.length_map, List.length_take]; omega) (by rw [tk_snoc hr']; simp only [List.map_append, List.map_cons, List.map_nil])
    · rintro D2 acc M15 H15 hD2 S15 m15 h15 rfl
      rw [List.length_map, tk_all] at h15
      have F15 := S15.fix h15 hD2
      walk_at "vc"
      refine ⟨_, R.map lotS, rfl, by rw [List.length_map]; omega, _, F15.mh, Is.of_strs upd_same, ?_⟩
      intro ys _ v17 M17 H17 S17 i17
      have hxD2 : x ≠ D2 := fun z => by rw [z, hD2] at hx14; cases hx14
      obtain ⟨mx15, hx15⟩ := S15.keep mx13 hx14
      obtain ⟨mx17, hx17⟩ := S17.keep (by rw [upd_ne hxD2]; exact mx15) hx15
      have st := F15.mm.trans S17.mm
      have iu17 := iu13.mono st
      have iv17 := iv13.mono st
      have ir17 := ir13.mono st
      have S17' := (S14.trans F15).trans S17
      walk_at "vc"
      refine ⟨x, _, dx, _, rfl, hx17, T.c_Band, T.n_Band_lot_list, (by simp), ?_⟩
      rw [pf5]
      have S18 := S17'.put (.ins (He.ga K "Band") dx (bandF (.ref l1) (.ref l2) (.ref l3) (.ref D) v17)) mx17 (.inl hx)
      have S19 := S18.fix upd_same hx
      have m19 : Same M17 (upd M17 x (.ins (He.ga K "Band") dx (bandF (.ref l1) (.ref l2) (.ref l3) (.ref D) v17))) := same_upd mx17
      exact k rows _ _ hpm hsd S19 ⟨dx, _, _, _, _, _, upd_same, iu17.mono m19, iv17.mono m19, ir17.mono m19, D, R, rfl, m19 _ _ (st _ _ hk13), fun x => hpm.symm.mem_iff⟩
end
end Nt
namespace Nt
section
variable {P : Program} {w : World} {K : PySem.W.Frag} {mg : Str → Option Value} {base : Heap}
/-- the drawn value is one of those that were handed in -/
def sp_l_pickV : Sp := fun vs H Q _ => ∃ (b a : Addr) (xs : List V), vs = [.ref b, .ref a] ∧ 0 < xs.length ∧ xs.length < 1000000 ∧ ∃ M, Same M H ∧ Bag M H b ∧ (M a = some (.lst xs) ∨ M a = some (.tup xs)) ∧ ∀ v M' H', v ∈ xs → Stp (exB b) M H M' H' → Bag M' H' b → Q v H'
theorem ok_l_pickV (T : Tx K mg) : Good P w K mg base CX0 2 (He.fAd K (He.DefD.at_ d_l_pick)) p_l_pick sp_l_pickV := by
  obtain ⟨fd, F⟩ := T.def_ 16 (d := d_l_pick) rfl
  have g_l_pull : Good P w K mg base CX0 1 (He.fAd K (He.DefD.at_ d_l_pull)) p_l_pull sp_l_pull := ok_l_pull T
  refine good_of F sc_l_pick (fun _ _ _ _ _ _ us hl => match us, hl with | [_, _], _ => rfl) (by intro vs H Q E h; (repeat obtain ⟨_, h⟩ := h); subst_vars; rfl) fun cdv A outer s H vs Q E hr h => ?_
  have hu := hu_of hr
  refine ⟨_, (pss_one (ps_ret (pe_ix xq_seq (pv 1) (pe_good g_l_pull (hr.mono (by decide)) rfl T.m_l_pull (pa_cons (pv 0) (pa_cons (pe_callB cq_len (by rfl) T.b_len (by decide +kernel) (pa_cons (pv 1) pa_nil)) pa_nil))) (fun _ _ => rfl)))), ?_⟩
  obtain ⟨b, a, xs, rfl, h0, h1, M, s0, B, ha, k⟩ := h
  walk_at "vc"
  refine ⟨a, xs, rfl, ha.imp (s0 _ _) (s0 _ _), ?_⟩
  walk_at "vc"
  refine ⟨b, xs.length, rfl, h0, by omega, M, s0, B, ?_⟩
  rintro d v M1 H1 ⟨j, rfl, hj⟩ S1 B1 rfl
  have e : xs[j]? = some (xs[j]'(by omega)) := List.getElem?_eq_getElem (by omega)
  refine w_ixq (ha.imp (fun z => S1.mh _ _ (S1.mm _ _ z)) (fun z => S1.mh _ _ (S1.mm _ _ z))) e ?_
  exact k _ _ _ (mem_of_get e) S1 B1
def sp_l_odd : Sp := fun vs H Q _ => ∃ (b : Addr), vs = [.ref b] ∧ ∃ M, Same M H ∧ Bag M H b ∧ ∀ v M' H', Stp (exB b) M H M' H' → Bag M' H' b → KA M' [v] → Q v H'
theorem ok_l_odd (T : Tx K mg) : Good P w K mg base CX0 3 (He.fAd K (He.DefD.at_ d_l_odd)) p_l_odd sp_l_odd := by
  obtain ⟨fd, F⟩ := T.def_ 20 (d := d_l_odd) rfl
  have g_l_pick : Good P w K mg base CX0 2 (He.fAd K (He.DefD.at_ d_l_pick)) p_l_pick sp_l_pickV := ok_l_pickV T
  refine good_of F sc_l_odd (fun _ _ _ _ _ _ us hl => match us, hl with | [_], _ => rfl) (by intro vs H Q E h; (repeat obtain ⟨_, h⟩ := h); subst_vars; rfl) fun cdv A outer s H vs Q E hr h => ?_
  have hu := hu_of hr
  refine ⟨_, (pss_cons (ps_set (i := 1) sc_l_odd.nd rfl (Or.inl rfl) (pe_lst (pa_cons pe_non (pa_cons pe_bl (pa_cons pe_bl (pa_cons pe_int (pa_cons (pe_un un_neg pe_int) (pa_cons pe_int (pa_cons pe_str (pa_cons pe_str (pa_cons pe_str (pa_cons pe_str (pa_cons pe_str (pa_cons pe_str (pa_cons pe_str (pa_cons (pe_lst pa_nil) (pa_cons (pe_tup pa_nil) (pa_cons pe_dnewK (pa_cons (pe_tup (pa_cons (pe_tup pa_nil) pa_nil)) (pa_cons (pe_op op_pow pe_int pe_int) pa_nil))))))))))))))))))))  (pss_cons (ps_set (i := 2) sc_l_odd.nd rfl (Or.inl rfl) (pe_lst (pa_cons (pe_lst (pa_cons pe_non pa_nil)) (pa_cons (pe_tup (pa_cons pe_str pa_nil)) (pa_cons (pe_disp (pps_cons pe_str pe_int pps_nil) (by rfl) (by rfl) (fun z => by cases z) (by decide)) (pa_cons (pe_lst (pa_cons (pe_lst pa_nil) pa_nil)) (pa_cons (pe_lst (pa_cons pe_str (pa_cons pe_str pa_nil))) (pa_cons (pe_tup (pa_cons pe_str (pa_cons pe_int pa_nil))) (pa_cons (pe_disp (pps_cons pe_int pe_str pps_nil) (by rfl) (by rfl) (fun z => by cases z) (by decide)) (pa_cons (pe_lst (pa_cons (pe_tup (pa_cons pe_str (pa_cons pe_bl pa_nil))) pa_nil)) (pa_cons (pe_disp (pps_cons pe_str (pe_lst (pa_cons pe_str pa_nil)) pps_nil) (by rfl) (by rfl) (fun z => by cases z) (by decide)) pa_nil)))))))))))  (pss_one (ps_ret (pe_good g_l_pick (hr.mono (by decide)) rfl T.m_l_pick (pa_cons (pv 0) (pa_cons (pe_op op_cat (pv 1) (pv 2)) pa_nil))))))), ?_⟩
  obtain ⟨b, rfl, M, s0, B, k⟩ := h
  have S := Stp.refl (ex := exB b) s0
  have kk : KA M [] := KA.nil
  walk_at "vc"
  intro p1 hp
  generalize hH : upd _ p1 _ = H'
  obtain ⟨M', S', B', mm, e1, k', fr, kv⟩ := ka_lst S B kk hH (Nat.le_of_ble_eq_true rfl) (by simp [Atom]) hp
  clear kk S B
  have kk := k'
  have S := S'
  have B := B'
  clear k' S' B' mm hp hH
  try clear fr kv
  walk_at "vc"
  intro p2 hp
  generalize hH : upd _ p2 _ = H'
  obtain ⟨M', S', B', mm, e2, k', fr, kv⟩ := ka_tup S B kk hH (Nat.le_of_ble_eq_true rfl) (by simp [Atom]) hp
  clear kk S B
  have kk := k'
  have S := S'
  have B := B'
  clear k' S' B' mm hp hH
  try clear fr kv
  walk_at "vc"
  intro p3 hp
  generalize hH : upd _ p3 _ = H'
  obtain ⟨M', S', B', mm, k'⟩ := ka_dnew S B kk hH hp
  clear kk S B
  have kk := k'
  have S := S'
  have B := B'
  clear k' S' B' mm hp hH
  try clear fr kv
  walk_at "vc"
  intro p4 hp
  generalize hH : upd _ p4 _ = H'
  obtain ⟨M', S', B', mm, e4, k', fr, kv⟩ := ka_tup S B kk hH (Nat.le_of_ble_eq_true rfl) (by simp [Atom]) hp
  clear kk S B
  have kk := k'
  have S := S'
  have B := B'
  clear k' S' B' mm hp hH
  try clear fr kv
  walk_at "vc"
  intro p5 hp
  generalize hH : upd _ p5 _ = H'
  obtain ⟨M', S', B', mm, e5, k', fr, kv⟩ := ka_tup S B kk hH (Nat.le_of_ble_eq_true rfl) (by simp [Atom]) hp
  clear kk S B
  have kk := k'
  have S := S'
  have B := B'
  clear k' S' B' mm hp hH
  try clear fr kv
  walk_at "vc"
  intro p6 hp
  generalize hH : upd _ p6 _ = H'
  obtain ⟨M', S', B', mm, e6, k', fr, kv⟩ := ka_lst S B kk hH (Nat.le_of_ble_eq_true rfl) (by simp [Atom]) hp
  clear kk S B
  have kk := k'
  have S := S'
  have B := B'
  clear k' S' B' mm hp hH
  try clear fr kv
  walk_at "vc"
  intro p7 hp
  generalize hH : upd _ p7 _ = H'
  obtain ⟨M', S', B', mm, e7, k', fr, kv⟩ := ka_lst S B kk hH (Nat.le_of_ble_eq_true rfl) (by simp [Atom]) hp
  have e6 := mm _ _ e6
  clear kk S B
  have kk := k'
  have S := S'
  have B := B'
  clear k' S' B' mm hp hH
  try clear fr kv
  walk_at "vc"
  intro p8 hp
  generalize hH : upd _ p8 _ = H'
  obtain ⟨M', S', B', mm, e8, k', fr, kv⟩ := ka_tup S B kk hH (Nat.le_of_ble_eq_true rfl) (by simp [Atom]) hp
  have e6 := mm _ _ e6
  clear kk S B
  have kk := k'
  have S := S'
  have B := B'
  clear k' S' B' mm hp hH
  try clear fr kv
  walk_at "vc"
  intro p9 hp
  generalize hH : upd _ p9 _ = H'
  obtain ⟨S', B', h0', mp, hq, ne⟩ := ka_d0 S B hH hp
  clear S B hH
  have S := S'
  have B := B'
  clear S' B' hp
  refine w_one ?_
  walk_at "vc"
  refine ⟨h0', [(Sum.inr (Str.ofString "a"), V.int 1)], rfl, Nat.le_of_ble_eq_true rfl, ?_⟩
  generalize hH : upd _ p9 _ = H'
  obtain ⟨M', S', B', mm, k'⟩ := ka_d1 S B kk hH mp hq ne
  have e6 := mm _ _ e6
  clear kk S B h0'
  have kk := k'
  have S := S'
  have B := B'
  clear k' S' B' mm mp hq ne hH
  walk_at "vc"
  intro p10 hp
  generalize hH : upd _ p10 _ = H'
  obtain ⟨M', S', B', mm, e10, k', fr, kv⟩ := ka_lst S B kk hH (Nat.le_of_ble_eq_true rfl) (by simp [Atom]) hp
  have e6 := mm _ _ e6
  clear kk S B
  have kk := k'
  have S := S'
  have B := B'
  clear k' S' B' mm hp hH
  try clear fr kv
  walk_at "vc"
  intro p11 hp
  generalize hH : upd _ p11 _ = H'
  obtain ⟨M', S', B', mm, e11, k', fr, kv⟩ := ka_lst S B kk hH (Nat.le_of_ble_eq_true rfl) (by simp [Atom]) hp
  have e6 := mm _ _ e6
  clear kk S B
  have kk := k'
  have S := S'
  have B := B'
  clear k' S' B' mm hp hH
  try clear fr kv
  walk_at "vc"
  intro p12 hp
  generalize hH : upd _ p12 _ = H'
  obtain ⟨M', S', B', mm, e12, k', fr, kv⟩ := ka_lst S B kk hH (Nat.le_of_ble_eq_true rfl) (by simp [Atom]) hp
  have e6 := mm _ _ e6
  clear kk S B
  have kk := k'
  have S := S'
  have B := B'
  clear k' S' B' mm hp hH
  try clear fr kv
  walk_at "vc"
  intro p13 hp
  generalize hH : upd _ p13 _ = H'
  obtain ⟨M', S', B', mm, e13, k', fr, kv⟩ := ka_tup S B kk hH (Nat.le_of_ble_eq_true rfl) (by simp [Atom]) hp
  have e6 := mm _ _ e6
  clear kk S B
  have kk := k'
  have S := S'
  have B := B'
  clear k' S' B' mm hp hH
  try clear fr kv
  walk_at "vc"
  intro p14 hp
  generalize hH : upd _ p14 _ = H'
  obtain ⟨S', B', h0', mp, hq, ne⟩ := ka_d0 S B hH hp
  clear S B hH
  have S := S'
  have B := B'
  clear S' B' hp
  refine w_one ?_
  walk_at "vc"
  refine ⟨h0', [(Sum.inl 0, V.str (Str.ofString "0"))], rfl, Nat.le_of_ble_eq_true rfl, ?_⟩
  generalize hH : upd _ p14 _ = H'
  obtain ⟨M', S', B', mm, k'⟩ := ka_d1 S B kk hH mp hq ne
  have e6 := mm _ _ e6
  clear kk S B h0'
  have kk := k'
  have S := S'
  have B := B'
  clear k' S' B' mm mp hq ne hH
  walk_at "vc"
  intro p15 hp
  generalize hH : upd _ p15 _ = H'
  obtain ⟨M', S', B', mm, e15, k', fr, kv⟩ := ka_tup S B kk hH (Nat.le_of_ble_eq_true rfl) (by simp [Atom]) hp
  have e6 := mm _ _ e6
  clear kk S B
  have kk := k'
  have S := S'
  have B := B'
  clear k' S' B' mm hp hH
  try clear fr kv
  walk_at "vc"
  intro p16 hp
  generalize hH : upd _ p16 _ = H'
  obtain ⟨M', S', B', mm, e16, k', fr, kv⟩ := ka_lst S B kk hH (Nat.le_of_ble_eq_true rfl) (by simp [Atom]) hp
  have e6 := mm _ _ e6
  clear kk S B
  have kk := k'
  have S := S'
  have B := B'
  clear k' S' B' mm hp hH
  try clear fr kv
  walk_at "vc"
  intro p17 hp
  generalize hH : upd _ p17 _ = H'
  obtain ⟨S', B', h0', mp, hq, ne⟩ := ka_d0 S B hH hp
  clear S B hH
  have S := S'
  have B := B'
  clear S' B' hp
  refine w_one ?_
  walk_at "vc"
  intro p18 hp
  generalize hH : upd _ p18 _ = H'
  have h1' := upd_old (u := HO.lst [V.str (Str.ofString "x")]) h0' hp
  have ne' : p17 ≠ p18 := fun z => by rw [← z, h0'] at hp; cases hp
  obtain ⟨M', S', B', mm, e18, k', fr, kv⟩ := ka_lst S B kk hH (Nat.le_of_ble_eq_true rfl) (by simp [Atom]) hp
  rw [hH] at h1'
  have mp := (fr _ ne').trans mp
  clear h0'
  have h0' := h1'
  have e6 := mm _ _ e6
  clear kk S B
  have kk := k'
  have S := S'
  have B := B'
  clear k' S' B' mm hp hH
  try clear fr kv
  walk_at "vc"
  refine ⟨h0', [(Sum.inr (Str.ofString "0."), V.ref p18)], rfl, Nat.le_of_ble_eq_true rfl, ?_⟩
  generalize hH : upd _ p17 _ = H'
  obtain ⟨M', S', B', mm, k'⟩ := ka_d1 S B kk hH mp hq ne
  have e6 := mm _ _ e6
  clear kk S B h0'
  have kk := k'
  have S := S'
  have B := B'
  clear k' S' B' mm mp hq ne hH
  walk_at "vc"
  intro p19 hp
  generalize hH : upd _ p19 _ = H'
  obtain ⟨M', S', B', mm, e19, k', fr, kv⟩ := ka_lst S B kk hH (Nat.le_of_ble_eq_true rfl) (by simp [Atom]) hp
  have e6 := mm _ _ e6
  clear kk S B
  have kk := k'
  have S := S'
  have B := B'
  clear k' S' B' mm hp hH
  try clear fr kv
  walk_at "vc"
  refine ⟨p6, p19, _, _, rfl, rfl, S.mh _ _ e6, S.mh _ _ e19, Nat.le_trans (Nat.le_of_ble_eq_true (m := 100) rfl) (by decide), ?_⟩
  intro p20 hp
  generalize hH : upd _ p20 _ = H'
  obtain ⟨M', S', B', mm, e20, k', fr, kv⟩ := ka_lst S B kk hH (Nat.le_of_ble_eq_true rfl) (by simp [Atom]) hp
  walk_at "vc"
  refine ⟨b, p20, _, rfl, Nat.le_of_ble_eq_true rfl, Nat.lt_of_le_of_lt (Nat.le_of_ble_eq_true (m := 100) rfl) (by decide), M', S'.mh, B', .inl e20, ?_⟩
  exact fun v M2 H2 hm S2 B2 => k v M2 H2 (S'.trans S2) B2 fun w hw => by rw [List.mem_singleton.mp hw]; exact (kv.mono S2.mm) v hm
end
end Nt
namespace Nt
section
variable {P : Program} {w : World} {K : PySem.W.Frag} {mg : Str → Option Value} {base : Heap}
def sp_l_laid : Sp := fun vs H Q _ => ∃ (v : V) (ws : List Str) (n : Nat), vs = [v, .int n] ∧ n ≤ 1000 ∧ (∀ x ∈ ws, x.length ≤ 1000) ∧ ∃ M, Same M H ∧ Is M (dS ws) v ∧ Ret M H Q (.str (laid (blk n) ws))
theorem ok_l_laid (T : Tx K mg) : Good P w K mg base CX0 2 (He.fAd K (He.DefD.at_ d_l_laid)) p_l_laid sp_l_laid := by
  obtain ⟨fd, F⟩ := T.def_ 40 (d := d_l_laid) rfl
  have g_l_over : Good P w K mg base CX0 1 (He.fAd K (He.DefD.at_ d_l_over)) p_l_over sp_l_over := ok_l_over T
  refine good_of F sc_l_laid (fun _ _ _ _ _ _ us hl => match us, hl with | [_, _], _ => rfl) (by intro vs H Q E h; (repeat obtain ⟨_, h⟩ := h); subst_vars; rfl) fun cdv A outer s H vs Q E hr h => ?_
  have hu := hu_of hr
  refine ⟨_, (pss_cons (ps_set (i := 2) sc_l_laid.nd rfl (Or.inl rfl) (pe_op op_mul_str pe_str (pv 1)))  (pss_cons (ps_for PassesOwn.never rfl (iq_list K (pv 0)) (pg_name (i := 3) sc_l_laid.nd rfl (Or.inl rfl) (Or.inl rfl))  (pss_one (ps_set (i := 2) sc_l_laid.nd rfl (Or.inl rfl) (pe_good g_l_over (hr.mono (by decide)) rfl T.m_l_over (pa_cons (pv 3) (pa_cons (pv 2) pa_nil))))))  (pss_one (ps_ret (pv 2))))), ?_⟩
  obtain ⟨v, ws, n, rfl, hn, hw, M, s0, iv, k⟩ := h
  obtain ⟨a, rfl, ha⟩ := iv.strs
  walk_at "vc"
  refine ⟨_, _, rfl, rfl, by omega, by omega, by decide +kernel, ?_⟩
  rw [rep_dot]
  walk_at "vc"
  refine ⟨a, rfl, ⟨_, SqL.of (s0 _ _ ha)⟩, ?_⟩
  refine fo_go walkL (fun i σ' H' => ∃ (o3 : Option V) (M' : Hp), σ' = [some (.ref a), some (.int n), some (.str (laid (blk n) (ws.take i))), o3] ∧ Stp no M H M' H') ⟨_, M, rfl, Stp.refl s0⟩ (fun _ _ _ _ ⟨_, _, _, S⟩ => S.mh _ _ (S.mm _ _ ha)) ?_ ?_
  · rintro i v σ1 H1 H1' hi ⟨o3, M1, rfl, S1⟩ ⟨rfl, hv⟩
    obtain ⟨x, hx, rfl⟩ := map_at hv
    walk_at "vc"
    refine ⟨x, _, rfl, M1, S1.mh, hw x (mem_of_get hx), ?_⟩
    rintro v M2 H2 S2 rfl
    walk_at "vc"
    refine ⟨some (.str x), M2, ?_, S1.trans S2⟩
    rw [tk_snoc hx, laid_snoc]
    rfl
  · rintro σ1 H1 ⟨o3, M1, rfl, S1⟩
    rw [List.length_map, tk_all]
    walk_at "vc"
    exact k _ _ _ S1 rfl
def sp_Band_blank_row (C : Addr) : Sp := fun vs H Q _ => ∃ (a : Addr) (cs : Cells) (seeds rows : List Str), vs = [.ref a] ∧ cs.length ≤ 1000 ∧ ∃ M, Same M H ∧ BandO C M cs seeds rows a ∧ Ret M H Q (.str (blk cs.length))
theorem ok_Band_blank_row (T : Tx K mg) : Good P w K mg base CX0 2 (He.fAd K (He.DefD.at_ d_Band_blank_row)) p_Band_blank_row (sp_Band_blank_row (He.ga K "Band")) := by
  obtain ⟨fd, F⟩ := T.def_ 29 (d := d_Band_blank_row) rfl
  have g_blank : Good P w K mg base CX0 1 (He.fAd K (He.DefD.at_ d_blank)) p_blank sp_blank := ok_blank T
  refine good_of F sc_Band_blank_row (fun _ _ _ _ _ _ us hl => match us, hl with | [_], _ => rfl) (by intro vs H Q E h; (repeat obtain ⟨_, h⟩ := h); subst_vars; rfl) fun cdv A outer s H vs Q E hr h => ?_
  have hu := hu_of hr
  refine ⟨_, (pss_one (ps_ret (pe_good g_blank (hr.mono (by decide)) rfl T.m_blank (pa_cons (pe_callB cq_len (by rfl) T.b_len (by decide +kernel) (pa_cons (pe_fld (pv 0) rfl) pa_nil)) pa_nil)))), ?_⟩
  obtain ⟨a, cs, seeds, rows, rfl, hc, M, s0, ib, k⟩ := h
  have ib' := ib
  obtain ⟨bdx, bvc, bvs, bvr, bvk, bvl, hb1, hb2, hb3⟩ := ib
  obtain ⟨ca, cvs, rfl, hca, hcv⟩ := hb2
  have hcl := hcv.len
  rw [List.length_map] at hcl
  walk_at "vc"
  refine ⟨a, _, bdx, _, _, rfl, s0 _ _ hb1, T.c_Band, T.n_Band_cell_list, rfl, ?_⟩
  walk_at "vc"
  refine ⟨ca, cvs, rfl, .inl (s0 _ _ hca), ?_⟩
  walk_at "vc"
  refine ⟨cvs.length, rfl, M, s0, by omega, ?_⟩
  rw [hcl]
  exact k
/-- row in band -/
def sp_Band___contains__ (C : Addr) : Sp := fun vs H Q _ => ∃ (a : Addr) (v : V) (cs : Cells) (seeds rows : List Str) (d : Dat), vs = [.ref a, v] ∧ ∃ M, Same M H ∧ BandO C M cs seeds rows a ∧ Is M d v ∧ ∀ b : Bool, (b = true ↔ ∃ x ∈ rows, d = .str x) → Ret M H Q (.bl b)
theorem ok_Band___contains__ (T : Tx K mg) : Good P w K mg base CX0 1 (He.fAd K (He.DefD.at_ d_Band___contains__)) p_Band___contains__ (sp_Band___contains__ (He.ga K "Band")) := by
  obtain ⟨fd, F⟩ := T.def_ 31 (d := d_Band___contains__) rfl
  refine good_of F sc_Band___contains__ (fun _ _ _ _ _ _ us hl => match us, hl with | [_, _], _ => rfl) (by intro vs H Q E h; (repeat obtain ⟨_, h⟩ := h); subst_vars; rfl) fun cdv A outer s H vs Q E hr h => ?_
  have hu := hu_of hr
  refine ⟨_, (pss_one (ps_ret (pe_and (pe_callB cq_isi (by rfl) T.b_isinstance (by decide +kernel) (pa_cons (pv 1) (pa_cons (pe_ty "str" (by rfl) T.b_str (by decide +kernel)) pa_nil))) (pe_one (pe_cmp (pc_din hu (pv 1) (pe_fld (pv 0) rfl)) rfl))))), ?_⟩
  obtain ⟨a, v, cs, seeds, rows, d, rfl, M, s0, ib, iv, k⟩ := h
  have ib' := ib
  obtain ⟨bdx, bvc, bvs, bvr, bvk, bvl, hb1, hb2, hb3, hb4, ka, ks, rfl, hka, hks⟩ := ib
  walk_at "vc"
  have no : (∀ x, d ≠ .str x) → Ret M H Q (.bl false) := fun n => k false ⟨fun h => (nomatch h), fun ⟨x, _, h⟩ => (n x h).elim⟩
  refine w_isi s0 iv (by simp) ?_
  refine ⟨_, rfl, ?_⟩
  cases d with
  | str x =>
    obtain rfl : v = .str x := iv
    rw [if_pos (by show isTy "str" "str" = true; decide)]
    walk_at "vc"
    refine ⟨a, _, bdx, _, _, rfl, s0 _ _ hb1, T.c_Band, T.n_Band_known_rows, rfl, ?_⟩
    refine kd_has (s0 _ _ hka) (fun q => ?_) (fun q => ?_)
    · exact k true ⟨fun _ => ⟨x, (hks x).mp q, rfl⟩, fun _ => rfl⟩ _ _ _ (Stp.refl s0) rfl
    · exact k false ⟨fun h => (nomatch h), fun ⟨y, hy, e⟩ => by
        cases e
        exact absurd ((hks x).mpr hy) q⟩ _ _ _ (Stp.refl s0) rfl
  | non => rw [if_neg (by decide)]; exact no (fun _ h => (nomatch h)) _ _ _ (Stp.refl s0) rfl
  | bl b => rw [if_neg (by show ¬ (isTy "bool" "str") = true; decide)]; exact no (fun _ h => (nomatch h)) _ _ _ (Stp.refl s0) rfl
  | int i => rw [if_neg (by show ¬ (isTy "int" "str") = true; decide)]; exact no (fun _ h => (nomatch h)) _ _ _ (Stp.refl s0) rfl
  | lst ds => rw [if_neg (by show ¬ (isTy "list" "str") = true; decide)]; exact no (fun _ h => (nomatch h)) _ _ _ (Stp.refl s0) rfl
  | tup ds => rw [if_neg (by show ¬ (isTy "tuple" "str") = true; decide)]; exact no (fun _ h => (nomatch h)) _ _ _ (Stp.refl s0) rfl
  | dct => rw [if_neg (by show ¬ (isTy "dict" "str") = true; decide)]; exact no (fun _ h => (nomatch h)) _ _ _ (Stp.refl s0) rfl
end
end Nt
namespace Nt
section
variable {P : Program} {w : World} {K : PySem.W.Frag} {mg : Str → Option Value} {base : Heap}
theorem w_ost {f : Str} {to te : TE} {D : Ends} {σ : L2.St} {H : Hp} (k : te σ H fun y H1 => to σ H1 fun x H2 => ∃ a C : Addr, x = .ref a ∧ OexC K C ∧ PySem.W.findIn K (.ref C) f = some none ∧
  ((H2 a = some (exo a C none) ∧ ∀ dx, H2 dx = none → dx ≠ a → D.nx σ (upd (upd H2 dx (exd dx [(f, y)])) a (exo a C (some dx)))) ∨
    ∃ (dx : Addr) (fs : List (Str × V)), H2 a = some (exo a C (some dx)) ∧ H2 dx = some (exd dx fs) ∧ fs.length ≤ 900 ∧ D.nx σ (upd H2 dx (exd dx ((f, y) :: fs))))) : tOst K f to te D σ H := k
def sp_BadPictures___init__ (C : Addr) : Sp := fun vs H Q _ => ∃ (a : Addr), vs = [.ref a] ∧ H a = some (exo a C none) ∧ ∀ dx, H dx = none → dx ≠ a → Q .non (upd (upd H dx (exd dx [("code", .str "BadPictures")])) a (exo a C (some dx)))
theorem ok_BadPictures___init__ (T : Tx K mg) : Good P w K mg base CX0 2 (He.fAd K (He.DefD.at_ d_BadPictures___init__)) p_BadPictures___init__ (sp_BadPictures___init__ (He.ga K "BadPictures")) := by
  obtain ⟨fd, F⟩ := T.def_ 27 (d := d_BadPictures___init__) rfl
  refine good_of F sc_BadPictures___init__ (fun _ _ _ _ _ _ us hl => match us, hl with | [_], _ => rfl) (by intro vs H Q E h; (repeat obtain ⟨_, h⟩ := h); subst_vars; rfl) fun cdv A outer s H vs Q E hr h => ?_
  have hu := hu_of hr
  refine ⟨_, (pss_one (ps_ost (pv 0) pe_str)), ?_⟩
  obtain ⟨a, rfl, ha, k⟩ := h
  have x_BadPictures := T.exc "BadPictures" (by decide)
  refine w_ost ?_
  walk_at "vc"
  refine ⟨a, _, rfl, x_BadPictures.oc, ?_, .inl ⟨ha, fun dx h1 h2 => ?_⟩⟩
  · exact T.n_BadPictures_code
  · exact k dx h1 h2
theorem raise0 {C : Addr} {σ : L2.St} {H : Hp} {E : XK} (k : ∀ dx, H dx = none → E (.ref C) (some dx) (upd H dx (.xd [("code", .str "BadPictures")]))) : tMkO C (sp_BadPictures___init__ C) [] tNil σ H E := by
  refine ⟨by decide, fun a ha => ⟨a, rfl, upd_same, fun dx h1 h2 => ⟨rfl, dx, [("code", .str "BadPictures")], upd_same, ?_, ?_, ?_⟩⟩⟩
  · rw [upd_ne h2, upd_same]
  · rw [upd_ne h2] at h1; exact h1
  · have h1' : H dx = none := by rw [upd_ne h2] at h1; exact h1
    have e : upd (del (upd (upd (upd H a (exo a C none)) dx (exd dx [("code", .str "BadPictures")])) a (exo a C (some dx))) a) dx (.xd [("code", .str "BadPictures")]) = upd H dx (.xd [("code", .str "BadPictures")]) := by
      funext b
      by_cases q : b = dx
      · rw [q, upd_same, upd_same]
      · rw [upd_ne q, upd_ne q]
        by_cases q2 : b = a
        · rw [q2, del_same, ha]
        · rw [del_ne q2, upd_ne q2, upd_ne q, upd_ne q2]
    rw [e]
    exact k dx h1'
/-- a value that is handed in as pictures for n seeds: no dict, or one with ints and texts for keys, or one with another number of items -/
def PicV (n : Nat) (M : Hp) (v : V) : Prop := (∃ d, Is M d v ∧ d ≠ .dct) ∨ (∃ p kvs, v = .ref p ∧ M p = some (.dK kvs) ∧ kvs.length ≤ 1000 ∧ ∀ k x, valV kvs k = some x → ∃ d, Is M d x) ∨ ∃ p m, v = .ref p ∧ M p = some (dMix p m) ∧ m ≠ n
def GoodP (seeds rows' : List Str) (M : Hp) (v : V) : Prop := ∃ p kvs, v = .ref p ∧ M p = some (.dK kvs) ∧ kvs.length = seeds.length ∧ ∀ s ∈ seeds, ∃ x, valV kvs (Sum.inr s) = some (.str x) ∧ x ∈ rows'
theorem goodP_not {seeds rows' : List Str} {M : Hp} {v : V} {d : Dat} (h : Is M d v) (n : d ≠ .dct) : ¬ GoodP seeds rows' M v := fun ⟨p, kvs, e, hp, _⟩ => by
  subst e
  cases d with
  | dct => exact n rfl
  | lst ds => obtain ⟨a, vs, e, q, _⟩ := h; cases e; rw [hp] at q; cases q
  | tup ds => obtain ⟨a, vs, e, q, _⟩ := h; cases e; rw [hp] at q; cases q
  | non => cases h
  | bl b => cases h
  | int i => cases h
  | str x => cases h
theorem isT_dict {d : Dat} (n : d ≠ .dct) : d.isT "dict" = false := by
  cases d with
  | dct => exact (n rfl).elim
  | lst ds => show isTy "list" "dict" = false; decide
  | tup ds => show isTy "tuple" "dict" = false; decide
  | non => show isTy "NoneType" "dict" = false; decide
  | bl b => show isTy "bool" "dict" = false; decide
  | int i => show isTy "int" "dict" = false; decide
  | str x => show isTy "str" "dict" = false; decide
def sp_check_pictures (C C' : Addr) : Sp := fun vs H Q E => ∃ (a o : Addr) (v : V) (cs cs' : Cells) (seeds rows seeds' rows' : List Str), vs = [.ref a, .ref o, v] ∧ seeds.length ≤ 100 ∧ ∃ M, Same M H ∧ BandO C M cs seeds rows a ∧ BandO C M cs' seeds' rows' o ∧ PicV seeds.length M v ∧
  (GoodP seeds rows' M v → Ret M H Q .non) ∧ (¬ GoodP seeds rows' M v → ∀ M' H' dx, Stp no M H M' H' → H' dx = none → E (.ref C') (some dx) (upd H' dx (.xd [("code", .str "BadPictures")])))
theorem ok_check_pictures (T : Tx K mg) : Good P w K mg base (L2.CX P w) 5 (He.fAd K (He.DefD.at_ d_check_pictures)) p_check_pictures (sp_check_pictures (He.ga K "Band") (He.ga K "BadPictures")) := by
  obtain ⟨fd, F⟩ := T.def_ 32 (d := d_check_pictures) rfl
  have g_Band___contains__ : Good P w K mg base CX0 1 (He.fAd K (He.DefD.at_ d_Band___contains__)) p_Band___contains__ (sp_Band___contains__ (He.ga K "Band")) := ok_Band___contains__ T
  have g_Band_seeds : Good P w K mg base CX0 1 (He.fAd K (He.DefD.at_ d_Band_seeds)) p_Band_seeds (sp_Band_seeds (He.ga K "Band")) := ok_Band_seeds T
  obtain ⟨⟨fd_BadPictures, F_BadPictures, B_BadPictures⟩, _⟩ : Good P w K mg base CX0 2 (He.fAd K (He.DefD.at_ d_BadPictures___init__)) p_BadPictures___init__ (sp_BadPictures___init__ (He.ga K "BadPictures")) := ok_BadPictures___init__ T
  have x_BadPictures := T.exc "BadPictures" (by decide)
  refine good_ofX F sc_check_pictures (fun _ _ _ _ _ _ us hl => match us, hl with | [_, _, _], _ => rfl) (by intro vs H Q E h; (repeat obtain ⟨_, h⟩ := h); subst_vars; rfl) fun cdv A outer s H vs Q E hr h => ?_
  have hu := hu_of hr
  refine ⟨_, (pss_cons (ps_set (i := 3) sc_check_pictures.nd rfl (Or.inl rfl) (pe_goodm0 g_Band_seeds (hr.mono (by decide)) (pv 0) T.c_Band T.Band_seeds))  (pss_cons (ps_if (PW.pt (pw_or (pt_not (pt_val (pe_callB cq_isiM (by rfl) T.b_isinstance (by decide +kernel) (pa_cons (pv 2) (pa_cons (pe_ty "dict" (by rfl) T.b_dict (by decide +kernel)) pa_nil))))) (pw_or1 (pt_cmpR op_ne (pe_callB cq_lenM (by rfl) T.b_len (by decide +kernel) (pa_cons (pv 2) pa_nil)) (pe_callB cq_len (by rfl) T.b_len (by decide +kernel) (pa_cons (pv 3) pa_nil)) (nomark _)))))  (pss_one (ps_raise rfl (takes_of rfl rfl rfl rfl) (pmk_oex0 x_BadPictures.oc x_BadPictures.ic x_BadPictures.ti F_BadPictures (hr.mono (by decide)) B_BadPictures pass0 (by rfl) T.m_BadPictures)))  pss_nil)  (pss_one (ps_for (passes_of rfl) rfl (iq_list K (pv 3)) (pg_name (i := 4) sc_check_pictures.nd rfl (Or.inl rfl) (Or.inl rfl))  (pss_one (ps_if (PW.pt (pw_or (pt_cmp (pc_dnotin hu (pv 4) (pv 2)) rfl) (pw_or1 (pt_cmpR (op_notInOwn g_Band___contains__ (hr.mono (by decide)) T.Band___contains__.at_ T.Band___contains__.fn) (pe_dget hu (pv 2) (pv 4) (fun _ _ => rfl)) (pv 1) (by rfl)))))  (pss_one (ps_raise rfl (takes_of rfl rfl rfl rfl) (pmk_oex0 x_BadPictures.oc x_BadPictures.ic x_BadPictures.ti F_BadPictures (hr.mono (by decide)) B_BadPictures pass0 (by rfl) T.m_BadPictures)))  pss_nil)))))), ?_⟩
  obtain ⟨a, o, v, cs, cs', seeds, rows, seeds', rows', rfl, hsl, M, s0, ib, io, iv, kY, kN⟩ := h
  have ib' := ib
  obtain ⟨bdx, bvc, bvs, bvr, bvk, bvl, hb1, hb2⟩ := ib
  walk_at "vc"
  refine w_meth ?_
  walk_at "vc"
  refine ⟨a, bdx, _, rfl, s0 _ _ hb1, rfl, ?_⟩
  walk_at "vc"
  refine ⟨a, cs, seeds, rows, rfl, M, s0, ib', ?_⟩
  rintro v2 M2 H2 S2 i2
  obtain ⟨sa, rfl, hsa⟩ := i2.strs
  have bad : ¬ GoodP seeds rows' M v → ∀ M' H', Stp no M H M' H' → ∀ dx, H' dx = none → E (.ref (He.ga K "BadPictures")) (some dx) (upd H' dx (.xd [("code", .str "BadPictures")])) := fun n M' H' S dx hdx => kN n M' H' dx S hdx
  walk_at "vc"
  rcases iv with ⟨d, iv, hd⟩ | ⟨p, kvs, rfl, hp, hkl, hkv⟩ | ⟨p, m, rfl, hp, hm⟩
  · refine .inl (w_isi S2.mh (iv.mono S2.mm) (by simp) ?_)
    rw [isT_dict hd]
    walk_at "vc"
    exact raise0 (bad (goodP_not iv hd) _ _ S2)
  · have hp2 := S2.mm _ _ hp
    refine .inl (w_isi (d := .dct) S2.mh ⟨p, rfl, .inl ⟨kvs, hp2⟩⟩ (by simp) ?_)
    rw [show Dat.dct.isT "dict" = true by show isTy "dict" "dict" = true; decide]
    walk_at "vc"
    refine .inl ⟨p, kvs, rfl, S2.mh _ _ hp2, ?_⟩
    walk_at "vc"
    refine ⟨sa, _, rfl, .inl (S2.mh _ _ hsa), ?_⟩
    walk_at "vc"
    rw [List.length_map]
    by_cases q : ((kvs.length : Nat) : Int) = ((seeds.length : Nat) : Int)
    rotate_left
    · refine ifnF q ?_
      walk_at "vc"
      refine raise0 (bad (fun ⟨p', kvs', e, h1, h2, _⟩ => ?_) _ _ S2)
      cases e
      rw [hp] at h1
      cases h1
      omega
    · refine ifnT q ?_
      walk_at "vc"
      refine ⟨sa, rfl, ⟨_, SqL.of (S2.mh _ _ hsa)⟩, ?_⟩
      refine fo_go walkL (fun i σ' H' => ∃ (o4 : Option V) (M' : Hp), σ' = [some (.ref a), some (.ref o), some (.ref p), some (.ref sa), o4] ∧ Stp no M2 H2 M' H' ∧ ∀ s ∈ seeds.take i, ∃ x, valV kvs (Sum.inr s) = some (.str x) ∧ x ∈ rows') ⟨_, M2, rfl, Stp.refl S2.mh, by simp⟩ (fun _ _ _ _ ⟨_, _, _, S, _⟩ => S.mh _ _ (S.mm _ _ hsa)) ?_ ?_
      · rintro i y σ3 H3 H3' hi ⟨o4, M3, rfl, S3, hall⟩ ⟨rfl, hy⟩
        obtain ⟨s, hs, rfl⟩ := map_at hy
        have hsm := mem_of_get hs
        have S3' := S2.trans S3
        have hp3 := S3.mh _ _ (S3.mm _ _ hp2)
        have no1 : (∀ x, valV kvs (Sum.inr s) = some (.str x) → x ∉ rows') → ¬ GoodP seeds rows' M (.ref p) := fun n ⟨p', kvs', e, h1, _, h2⟩ => by
          cases e
          rw [hp] at h1
          cases h1
          obtain ⟨x, hx, hx2⟩ := h2 s hsm
          exact n x hx hx2
        walk_at "vc"
        refine ⟨p, _, rfl, DGet.k (k := Sum.inr s) hp3, ?_⟩
        cases hv : valV kvs (Sum.inr s) with
        | none =>
          walk_at "vc"
          exact raise0 (bad (no1 fun x hx => by rw [hv] at hx; cases hx) _ _ S3')
        | some x =>
          obtain ⟨d, id⟩ := hkv _ _ hv
          walk_at "vc"
          refine ⟨p, x, rfl, by have := DGet.k (k := Sum.inr s) hp3; rw [hv] at this; exact this, ?_⟩
          walk_at "vc"
          have io3 := io.mono S3'.mm
          have io4 := io3
          obtain ⟨odx, ovc, ovs, ovr, ovk, ovl, ho1, _⟩ := io3
          refine ⟨o, odx, _, rfl, S3.mh _ _ ho1, ?_⟩
          refine ⟨o, x, cs', seeds', rows', d, rfl, M3, S3.mh, io4, id.mono S3'.mm, fun b hb => ?_⟩
          rintro v5 M5 H5 S5 rfl
          refine ⟨b, rfl, ?_⟩
          walk_at "vc"
          cases b with
          | true =>
            obtain ⟨z, hz, rfl⟩ := hb.mp rfl
            obtain rfl : x = .str z := id
            walk_at "vc"
            refine ⟨_, M5, rfl, S3.trans S5, fun s' hs' => ?_⟩
            rw [tk_snoc hs] at hs'
            rcases List.mem_append.mp hs' with q | q
            · exact hall s' q
            · rw [List.mem_singleton.mp q]; exact ⟨z, hv, hz⟩
          | false =>
            walk_at "vc"
            refine raise0 (bad (no1 fun z hz hm => ?_) _ _ (S3'.trans S5))
            rw [hv] at hz
            cases hz
            have : d = .str z := by
              cases d with
              | str y => cases id; rfl
              | non => cases id
              | bl b => cases id
              | int i => cases id
              | lst ds => obtain ⟨_, _, e, _⟩ := id; cases e
              | tup ds => obtain ⟨_, _, e, _⟩ := id; cases e
              | dct => obtain ⟨_, e, _⟩ := id; cases e
            exact nomatch hb.mpr ⟨z, hm, this⟩
      · rintro σ3 H3 ⟨o4, M3, rfl, S3, hall⟩
        rw [List.length_map, List.take_length] at hall
        walk_at "vc"
        exact kY ⟨p, kvs, rfl, hp, by omega, hall⟩ _ _ _ (S2.trans S3) rfl
  · refine .inr ⟨p, m, "dict", true, rfl, S2.mh _ _ (S2.mm _ _ hp), by decide, ?_⟩
    walk_at "vc"
    refine .inr ⟨p, m, rfl, S2.mh _ _ (S2.mm _ _ hp), ?_⟩
    walk_at "vc"
    refine ⟨sa, _, rfl, .inl (S2.mh _ _ hsa), ?_⟩
    walk_at "vc"
    rw [List.length_map]
    refine ifnF (by omega) ?_
    walk_at "vc"
    refine raise0 (bad (fun ⟨p', kvs', e, h1, _⟩ => ?_) _ _ S2)
    cases e
    rw [hp] at h1
    cases h1
end
end Nt
namespace Nt
section
variable {P : Program} {w : World} {K : PySem.W.Frag} {mg : Str → Option Value} {base : Heap}
def sp_way_to : Sp := fun vs H Q _ => ∃ (d : Addr) (r : Str) (wv : Str → V) (W : Str → Option (Str × Str)) (fs ws : List Str), vs = [.ref d, .str r] ∧ fs.length ≤ 1000 ∧ ws.length ≤ 1000 ∧ ∃ M, Same M H ∧ M d = none ∧ H d = some (.dK (kd wv fs)) ∧ WD M wv W fs ∧ r ∈ fs ∧ Wy W r ws ∧ Ret M H Q (dS ws)
theorem ok_way_to (T : Tx K mg) : Good P w K mg base CX0 1 (He.fAd K (He.DefD.at_ d_way_to)) p_way_to sp_way_to := by
  obtain ⟨fd, F⟩ := T.def_ 35 (d := d_way_to) rfl
  refine good_of F sc_way_to (fun _ _ _ _ _ _ us hl => match us, hl with | [_, _], _ => rfl) (by intro vs H Q E h; (repeat obtain ⟨_, h⟩ := h); subst_vars; rfl) fun cdv A outer s H vs Q E hr h => ?_
  have hu := hu_of hr
  refine ⟨_, (pss_cons (ps_set (i := 2) sc_way_to.nd rfl (Or.inl rfl) (pe_lst pa_nil))  (pss_cons (ps_set (i := 3) sc_way_to.nd rfl (Or.inl rfl) (pe_dget hu (pv 0) (pv 1) (fun _ _ => rfl)))  (pss_cons (ps_while PassesOwn.never (pt_cmpR op_notN (pv 3) pe_non (nomark _))  (pss_cons (ps_expr (eq_bm PySem.F.slot_list_append PySem.F.type_list_append mt_append (pv 2) (pa_cons (pe_ix xq_tup (pv 3) pe_int (fun _ _ => rfl)) pa_nil)))  (pss_one (ps_set (i := 3) sc_way_to.nd rfl (Or.inl rfl) (pe_dget hu (pv 0) (pe_ix xq_tup (pv 3) pe_int (fun _ _ => rfl)) (fun _ _ => rfl))))))  (pss_one (ps_ret (pe_revL (pv 2))))))), ?_⟩
  obtain ⟨d, r, wv, W, fs, ws, rfl, hfl, hwl, M, s0, md, hd, hw, hr, wy, k⟩ := h
  walk_at "vc"
  intro l hl
  have S1 := (Stp.refl (ex := no) s0).new (.lst []) hl
  have ml : M l = none := none_of_same s0 hl
  have hld : d ≠ l := fun z => by rw [z, hl] at hd; cases hd
  have hd1 : upd H l (.lst []) d = some (.dK (kd wv fs)) := by rw [upd_ne hld]; exact hd
  walk_at "vc"
  refine kd_get hd1 hr ?_
  walk_at "vc"
  refine ⟨fun m σ' H' => ∃ (r' : Str) (us acc : List Str), σ' = [some (.ref d), some (.str r), some (.ref l), some (wv r')] ∧ us.length = m ∧ Wy W r' us ∧ r' ∈ fs ∧ ws = us ++ acc.reverse ∧ Stp no M H M H' ∧ H' d = some (.dK (kd wv fs)) ∧ H' l = some (.lst (acc.map V.str)), ⟨ws.length, r, ws, [], rfl, rfl, wy, hr, by simp, S1, hd1, upd_same⟩, ?_⟩
  rintro m σ1 H1 ⟨r', us, acc, rfl, hm, wy1, hr1, hws, S, hd2, hl2⟩
  have hal : us.length + acc.length = ws.length := by rw [hws, List.length_append, List.length_reverse]
  obtain ⟨w1, w2⟩ := hw r' hr1
  walk_at "vc"
  cases wy1 with
  | nil e =>
    rw [w1 e]
    refine ⟨rfl, ?_⟩
    walk_at "vc"
    refine w_rev ?_
    walk_at "vc"
    refine ⟨l, _, rfl, SqL.of hl2, fun p hp => ?_⟩
    have e2 : (acc.map V.str).reverse = ws.map V.str := by rw [hws, ← List.map_reverse]; rfl
    rw [e2]
    exact k _ _ _ (S.lay _ hp) (Is.of_strs upd_same)
  | @snoc _ o s us' e wo =>
    obtain ⟨ho, T1, e1, hT⟩ := w2 o s e
    rw [e1]
    refine ⟨rfl, ?_⟩
    walk_at "vc"
    rw [List.length_append] at hm hal
    have hm' : us'.length + 1 = m := hm
    have hal' : us'.length + 1 + acc.length = ws.length := hal
    refine ⟨fun σ' H' => ∃ (r' : Str) (us acc : List Str), σ' = [some (.ref d), some (.str r), some (.ref l), some (wv r')] ∧ us.length = us'.length ∧ Wy W r' us ∧ r' ∈ fs ∧ ws = us ++ acc.reverse ∧ Stp no M H M H' ∧ H' d = some (.dK (kd wv fs)) ∧ H' l = some (.lst (acc.map V.str)), fun σ' H' h => ⟨us'.length, by omega, h⟩, ?_⟩
    walk_at "vc"
    refine ⟨⟨l, _, rfl, hl2⟩, ?_⟩
    walk_at "vc"
    refine w_ixt (j := ((1 : Nat) : Int)) (S.mh _ _ hT) (atI_nat rfl) ?_
    walk_at "vc"
    refine ⟨l, _, _, rfl, rfl, hl2, Nat.lt_of_le_of_lt (show _ ≤ 1000 by rw [List.length_map]; omega) (line_lt (by decide)), ?_⟩
    have S2 := S.put (.lst (acc.map V.str ++ [.str s])) ml (.inl hl)
    have hd3 : upd H1 l (.lst (acc.map V.str ++ [.str s])) d = some (.dK (kd wv fs)) := by rw [upd_ne hld]; exact hd2
    have hl3 : upd H1 l (.lst (acc.map V.str ++ [.str s])) l = some (.lst ((acc ++ [s]).map V.str)) := by rw [upd_same, List.map_append]; rfl
    generalize upd H1 l (.lst (acc.map V.str ++ [.str s])) = H2 at S2 hd3 hl3 ⊢
    walk_at "vc"
    refine w_ixt (j := ((0 : Nat) : Int)) (S2.mh _ _ hT) (atI_nat rfl) ?_
    refine kd_get hd3 ho ?_
    walk_at "vc"
    exact ⟨o, us', acc ++ [s], rfl, rfl, wo, ho, by rw [hws]; simp, S2, hd3, hl3⟩
end
end Nt
namespace Nt
section
variable {P : Program} {w : World} {K : PySem.W.Frag} {mg : Str → Option Value} {base : Heap}
theorem line200 {n : Nat} (h : n ≤ 400) : n ≤ sizeLine := Nat.le_trans h (by decide)
/-- two ways to one row that are led to two pictures -/
structure Two (seeds : List Str) (pic : Str → Str) (z z' : Str) (F : Str → Str) (W : Str → Option (Str × Str)) (w1 w2 : List Str) : Prop where
  m1 : ∀ s ∈ w1, s ∈ seeds
  m2 : ∀ s ∈ w2, s ∈ seeds
  to : laid z w1 = laid z w2
  ne : laid z' (w1.map pic) ≠ laid z' (w2.map pic)
  l1 : w1.length ≤ 50
  l2 : w2.length ≤ 50
  fc : ∃ (i j : Nat) (r s : Str) (ws : List Str), HomI seeds pic z F i ∧ (itB seeds z i)[i]? = some r ∧ seeds[j]? = some s ∧ (∀ k < j, ∀ s, seeds[k]? = some s → F (ovr s r) = ovr (pic s) (F r)) ∧ ¬ F (ovr s r) = ovr (pic s) (F r) ∧ w1 = ws ++ [s] ∧ Wy W r ws ∧ Wy W (ovr s r) w2
theorem Wy.one {W : Str → Option (Str × Str)} {r : Str} {a b : List Str} (h : Wy W r a) : Wy W r b → a = b := by
  induction h generalizing b with
  | nil e =>
    intro g
    cases g with
    | nil _ => rfl
    | snoc e' _ => rw [e] at e'; cases e'
  | snoc e _ ih =>
    intro g
    cases g with
    | nil e' => rw [e] at e'; cases e'
    | snoc e' g' =>
      rw [e] at e'
      cases e'
      rw [ih g']
/-- there is one first conflict -/
theorem Two.one {seeds : List Str} {pic : Str → Str} {z z' : Str} {F : Str → Str} {W : Str → Option (Str × Str)} {a b a' b' : List Str} (h : Two seeds pic z z' F W a b) (g : Two seeds pic z z' F W a' b') : a = a' ∧ b = b' := by
  obtain ⟨i, j, r, s, ws, h1, h2, h3, h4, h5, h6, h7, h8⟩ := h.fc
  obtain ⟨i', j', r', s', ws', g1, g2, g3, g4, g5, g6, g7, g8⟩ := g.fc
  obtain rfl : i = i' := by
    rcases Nat.lt_trichotomy i i' with q | q | q
    · exact absurd (g1 i q r h2 s (mem_of_get h3)) h5
    · exact q
    · exact absurd (h1 i' q r' g2 s' (mem_of_get g3)) g5
  rw [h2] at g2
  cases g2
  obtain rfl : j = j' := by
    rcases Nat.lt_trichotomy j j' with q | q | q
    · exact absurd (g4 j q s h3) h5
    · exact q
    · exact absurd (h4 j' q s' g3) g5
  rw [h3] at g3
  cases g3
  exact ⟨by rw [h6, g6, h7.one g7], h8.one g8⟩
def sp_walked (C : Addr) : Sp := fun vs H Q _ => ∃ (a o p : Addr) (cs cs' : Cells) (seeds rows seeds' rows' : List Str) (kvs : List (L2.Key × V)) (pic F : Str → Str) (W : Str → Option (Str × Str)), vs = [.ref a, .ref o, .ref p] ∧ cs.length ≤ 100 ∧ cs'.length ≤ 100 ∧ seeds.length ≤ 100 ∧ (∀ s ∈ seeds, s.length = cs.length) ∧
  (∀ s ∈ seeds, valV kvs (Sum.inr s) = some (.str (pic s)) ∧ (pic s).length ≤ 1000) ∧ (itB seeds (blk cs.length) 41).length ≤ 40 ∧ MapF seeds pic (blk cs.length) (blk cs'.length) F W ∧ ∃ M, Same M H ∧ BandO C M cs seeds rows a ∧ BandO C M cs' seeds' rows' o ∧ M p = some (.dK kvs) ∧
  (Hom seeds pic (itB seeds (blk cs.length) 41) F → ∀ T D M' H', Stp no M H M' H' → H D = none → M' T = some (.tup [.ref D, .non]) → M' D = some (.dK (kd (fun r => .str (F r)) (itB seeds (blk cs.length) 41))) → Q (.ref T) H') ∧
  (¬ Hom seeds pic (itB seeds (blk cs.length) 41) F → ∀ T D T2 w1 w2 M' H', Stp no M H M' H' → M' T = some (.tup [.ref D, .ref T2]) → Is M' (.tup [dS w1, dS w2]) (.ref T2) → Two seeds pic (blk cs.length) (blk cs'.length) F W w1 w2 → Q (.ref T) H')
theorem ok_walked (T : Tx K mg) : Good P w K mg base CX0 3 (He.fAd K (He.DefD.at_ d_walked)) p_walked (sp_walked (He.ga K "Band")) := by
  obtain ⟨fd, F⟩ := T.def_ 34 (d := d_walked) rfl
  have g_Band_blank_row : Good P w K mg base CX0 2 (He.fAd K (He.DefD.at_ d_Band_blank_row)) p_Band_blank_row (sp_Band_blank_row (He.ga K "Band")) := ok_Band_blank_row T
  have g_Band_seeds : Good P w K mg base CX0 1 (He.fAd K (He.DefD.at_ d_Band_seeds)) p_Band_seeds (sp_Band_seeds (He.ga K "Band")) := ok_Band_seeds T
  have g_over : Good P w K mg base CX0 1 (He.fAd K (He.DefD.at_ d_over)) p_over sp_over := ok_over T
  have g_way_to : Good P w K mg base CX0 1 (He.fAd K (He.DefD.at_ d_way_to)) p_way_to sp_way_to := ok_way_to T
  refine good_of F sc_walked (fun _ _ _ _ _ _ us hl => match us, hl with | [_, _, _], _ => rfl) (by intro vs H Q E h; (repeat obtain ⟨_, h⟩ := h); subst_vars; rfl) fun cdv A outer s H vs Q E hr h => ?_
  have hu := hu_of hr
  refine ⟨_, (pss_cons (ps_set (i := 3) sc_walked.nd rfl (Or.inl rfl) (pe_lst (pa_cons (pe_goodm0 g_Band_blank_row (hr.mono (by decide)) (pv 0) T.c_Band T.Band_blank_row) pa_nil)))  (pss_cons (ps_set (i := 4) sc_walked.nd rfl (Or.inl rfl) (pe_disp (pps_cons (pe_ix xq_list (pv 3) pe_int (fun _ _ => rfl)) (pe_goodm0 g_Band_blank_row (hr.mono (by decide)) (pv 1) T.c_Band T.Band_blank_row) pps_nil) (by rfl) (by rfl) (fun z => by cases z) (by decide)))  (pss_cons (ps_set (i := 5) sc_walked.nd rfl (Or.inl rfl) (pe_disp (pps_cons (pe_ix xq_list (pv 3) pe_int (fun _ _ => rfl)) pe_non pps_nil) (by rfl) (by rfl) (fun z => by cases z) (by decide)))  (pss_cons (ps_set (i := 6) sc_walked.nd rfl (Or.inl rfl) (pe_goodm0 g_Band_seeds (hr.mono (by decide)) (pv 0) T.c_Band T.Band_seeds))  (pss_cons (ps_set (i := 7) sc_walked.nd rfl (Or.inl rfl) pe_int)  (pss_cons (ps_while PassesOwn.never (pt_cmpR op_lt (pv 7) (pe_callB cq_len (by rfl) T.b_len (by decide +kernel) (pa_cons (pv 3) pa_nil)) (nomark _))  (pss_cons (ps_set (i := 8) sc_walked.nd rfl (Or.inl rfl) (pe_ix xq_list (pv 3) (pv 7) (fun _ _ => rfl)))  (pss_cons (ps_for PassesOwn.never rfl (iq_list K (pv 6)) (pg_name (i := 9) sc_walked.nd rfl (Or.inl rfl) (Or.inl rfl))  (pss_cons (ps_set (i := 10) sc_walked.nd rfl (Or.inl rfl) (pe_good g_over (hr.mono (by decide)) rfl T.m_over (pa_cons (pv 9) (pa_cons (pv 8) pa_nil))))  (pss_cons (ps_set (i := 11) sc_walked.nd rfl (Or.inl rfl) (pe_good g_over (hr.mono (by decide)) rfl T.m_over (pa_cons (pe_dget hu (pv 2) (pv 9) (fun _ _ => rfl)) (pa_cons (pe_dget hu (pv 4) (pv 8) (fun _ _ => rfl)) pa_nil))))  (pss_one (ps_if (pt_cmp (pc_dnotin hu (pv 10) (pv 4)) rfl)  (pss_cons (ps_dput hu (pv 4) (pv 10) (pv 11) rfl)  (pss_cons (ps_dput hu (pv 5) (pv 10) (pe_tup (pa_cons (pv 8) (pa_cons (pv 9) pa_nil))) rfl)  (pss_one (ps_expr (eq_bm PySem.F.slot_list_append PySem.F.type_list_append mt_append (pv 3) (pa_cons (pv 10) pa_nil))))))  (pss_one (ps_if (pt_cmpR op_ne (pe_dget hu (pv 4) (pv 10) (fun _ _ => rfl)) (pv 11) (nomark _))  (pss_one (ps_ret (pe_tup (pa_cons (pv 4) (pa_cons (pe_tup (pa_cons (pe_op op_cat (pe_good g_way_to (hr.mono (by decide)) rfl T.m_way_to (pa_cons (pv 5) (pa_cons (pv 8) pa_nil))) (pe_lst (pa_cons (pv 9) pa_nil))) (pa_cons (pe_good g_way_to (hr.mono (by decide)) rfl T.m_way_to (pa_cons (pv 5) (pa_cons (pv 10) pa_nil))) pa_nil))) pa_nil)))))  pss_nil)))))))  (pss_one (ps_aug (i := 7) sc_walked.nd rfl (Or.inl rfl) pe_int ip_add)))))  (pss_one (ps_ret (pe_tup (pa_cons (pv 4) (pa_cons pe_non pa_nil))))))))))), ?_⟩
  obtain ⟨a, o, p, cs, cs', seeds, rows, seeds', rows', kvs, pic, F, W, rfl, hc, hc', hsl, hsn, hpic, h40, hm, M, s0, ib, io, hp, kY, kN⟩ := h
  have ib' := ib
  have io' := io
  obtain ⟨bdx, bvc, bvs, bvr, bvk, bvl, hb1, _⟩ := ib
  obtain ⟨odx, ovc, ovs, ovr', ovk, ovl, ho1, _⟩ := io
  walk_at "vc"
  refine w_meth ?_
  walk_at "vc"
  refine ⟨a, bdx, _, rfl, s0 _ _ hb1, rfl, ?_⟩
  walk_at "vc"
  refine ⟨a, cs, seeds, rows, rfl, by omega, M, s0, ib', ?_⟩
  rintro v1 M1 H1 S1 rfl
  walk_at "vc"
  intro f hf
  have mf : M1 f = none := S1.mfree hf
  have hf0 := S1.hfree hf
  have S2 := S1.new (.lst [.str (blk cs.length)]) hf
  have hf1 : upd H1 f (.lst [.str (blk cs.length)]) f = some (.lst ([blk cs.length].map V.str)) := upd_same
  generalize upd H1 f (.lst [.str (blk cs.length)]) = H2 at S2 hf1 ⊢
  walk_at "vc"
  intro d hd
  have md : M1 d = none := S2.mfree hd
  have hd0 := S2.hfree hd
  have hdf : f ≠ d := fun z => by rw [z, hd] at hf1; cases hf1
  have S3 := S2.new (.dK []) hd
  have hf2 : upd H2 d (.dK []) f = some (.lst ([blk cs.length].map V.str)) := by rw [upd_ne hdf]; exact hf1
  have hd1 : upd H2 d (.dK []) d = some (.dK []) := upd_same
  generalize upd H2 d (.dK []) = H3 at S3 hf2 hd1 ⊢
  refine w_one ?_
  walk_at "vc"
  refine w_meth ?_
  walk_at "vc"
  refine ⟨o, odx, _, rfl, S3.mh _ _ (S1.mm _ _ ho1), rfl, ?_⟩
  walk_at "vc"
  refine ⟨o, cs', seeds', rows', rfl, by omega, M1, S3.mh, io'.mono S1.mm, ?_⟩
  rintro v4 M4 H4 S4 rfl
  obtain ⟨mf4, hf4⟩ := S4.keep mf hf2
  obtain ⟨md4, hd4⟩ := S4.keep md hd1
  have S4' := S3.trans S4
  refine ⟨hd4, [(.inr (blk cs.length), .str (blk cs'.length))], rfl, by simp, ?_⟩
  have S5 := S4'.put (.dK (mergeK [] [(Sum.inr (blk cs.length), V.str (blk cs'.length))])) md4 (.inl hd0)
  have hd5 : upd H4 d (.dK (mergeK [] [(Sum.inr (blk cs.length), V.str (blk cs'.length))])) d = some (.dK (kd (fun r => .str (F r)) [blk cs.length])) := by
    rw [upd_same]
    show some (HO.dK [(Sum.inr (blk cs.length), V.str (blk cs'.length))]) = some (.dK [(Sum.inr (blk cs.length), V.str (F (blk cs.length)))])
    rw [hm.fz]
  have hf5 : upd H4 d (.dK (mergeK [] [(Sum.inr (blk cs.length), V.str (blk cs'.length))])) f = some (.lst ([blk cs.length].map V.str)) := by rw [upd_ne hdf]; exact hf4
  generalize upd H4 d (.dK (mergeK [] [(Sum.inr (blk cs.length), V.str (blk cs'.length))])) = H5 at S5 hd5 hf5 ⊢
  clear S1 S2 S3 S4 S4' hf hd hf1 hf2 hd1 mf md hf4 hd4
  walk_at "vc"
  intro e he
  have me : M4 e = none := S5.mfree he
  have he0 := S5.hfree he
  have hfe : f ≠ e := fun z => by rw [z, he] at hf5; cases hf5
  have hde : d ≠ e := fun z => by rw [z, he] at hd5; cases hd5
  have S6 := S5.new (.dK []) he
  have hf6 : upd H5 e (.dK []) f = some (.lst ([blk cs.length].map V.str)) := by rw [upd_ne hfe]; exact hf5
  have hd6 : upd H5 e (.dK []) d = some (.dK (kd (fun r => .str (F r)) [blk cs.length])) := by rw [upd_ne hde]; exact hd5
  have he6 : upd H5 e (.dK []) e = some (.dK []) := upd_same
  generalize upd H5 e (.dK []) = H6 at S6 hf6 hd6 he6 ⊢
  refine w_one ?_
  walk_at "vc"
  refine ⟨he6, [(.inr (blk cs.length), .non)], rfl, by simp, ?_⟩
  have S7 := S6.put (.dK (mergeK [] [(Sum.inr (blk cs.length), V.non)])) me (.inl he0)
  have he7 : upd H6 e (.dK (mergeK [] [(Sum.inr (blk cs.length), V.non)])) e = some (.dK (kd (fun _ => .non) [blk cs.length])) := upd_same
  have hf7 : upd H6 e (.dK (mergeK [] [(Sum.inr (blk cs.length), V.non)])) f = some (.lst ([blk cs.length].map V.str)) := by rw [upd_ne hfe]; exact hf6
  have hd7 : upd H6 e (.dK (mergeK [] [(Sum.inr (blk cs.length), V.non)])) d = some (.dK (kd (fun r => .str (F r)) [blk cs.length])) := by rw [upd_ne hde]; exact hd6
  generalize upd H6 e (.dK (mergeK [] [(Sum.inr (blk cs.length), V.non)])) = H7 at S7 hd7 hf7 he7 ⊢
  clear S5 S6 hf5 hd5 he hf6 hd6 he6
  walk_at "vc"
  refine w_meth ?_
  walk_at "vc"
  refine ⟨a, bdx, _, rfl, S7.mh _ _ (S7.mm _ _ hb1), rfl, ?_⟩
  walk_at "vc"
  refine ⟨a, cs, seeds, rows, rfl, M4, S7.mh, ib'.mono S7.mm, ?_⟩
  rintro v8 M8 H8 S8 i8
  obtain ⟨sd, rfl, hsd⟩ := i8.strs
  obtain ⟨mf8, hf8⟩ := S8.keep mf4 hf7
  obtain ⟨md8, hd8⟩ := S8.keep md4 hd7
  obtain ⟨me8, he8⟩ := S8.keep me he7
  have S8' := S7.trans S8
  clear S7 S8 mf4 md4 me hf7 hd7 he7 i8
  walk_at "vc"
  have hz : ∀ r ∈ itB seeds (blk cs.length) 41, ∃ ws, Wy W r ws ∧ Way seeds pic (blk cs.length) (blk cs'.length) F r ws ∧ ws.length ≤ 41 := way_all hm.fz hm.wz hm.c 41 (Nat.le_refl _)
  have hmz := hm.wz
  have hmc := hm.c
  generalize hzz : blk cs.length = z at *
  let J : Nat → Option V → Option V → Option V → Option V → List Str → L2.St → Hp → Prop := fun i o8 o9 o10 o11 fs σ' H' => ∃ wv M', σ' = [some (.ref a), some (.ref o), some (.ref p), some (.ref f), some (.ref d), some (.ref e), some (.ref sd), some (.int (i : Nat)), o8, o9, o10, o11] ∧ Stp no M H M' H' ∧ (M' f = none ∧ M' d = none ∧ M' e = none) ∧
    H' f = some (.lst (fs.map V.str)) ∧ H' d = some (.dK (kd (fun r => .str (F r)) fs)) ∧ H' e = some (.dK (kd wv fs)) ∧ WD M' wv W fs ∧ M' sd = some (.lst (seeds.map V.str))
  refine ⟨fun m σ' H' => ∃ i o8 o9 o10 o11, i + m = 50 ∧ i ≤ 41 ∧ HomI seeds pic z F i ∧ J i o8 o9 o10 o11 (itB seeds z i) σ' H', ⟨50, 0, none, none, none, none, rfl, by omega, fun _ h => by omega, fun _ => .non, M8, rfl, S8', ⟨mf8, md8, me8⟩, hf8, hd8, he8, fun r hr => ?_, hsd⟩, ?_⟩
  · obtain rfl := List.mem_singleton.mp hr
    exact ⟨fun _ => rfl, fun _ _ q => by rw [hmz] at q; cases q⟩
  rintro m σ1 H1 ⟨i, o8, o9, o10, o11, him, hi, hom, wv, M1, rfl, S1, ⟨mf, md, me⟩, hf1, hd1, he1, hw1, hsd1⟩
  have hle : (itB seeds z i).length ≤ 40 := Nat.le_trans (itB_le hi) h40
  walk_at "vc"
  refine ⟨f, _, rfl, .inl hf1, ?_⟩
  rw [List.length_map]
  walk_at "vc"
  refine ifd (fun q => ?_) (fun q => ?_)
  · walk_at "vc"
    have q : i < (itB seeds z i).length := by omega
    obtain ⟨r, hr1⟩ : ∃ r, (itB seeds z i)[i]? = some r := ⟨_, List.getElem?_eq_getElem q⟩
    have hrm : r ∈ itB seeds z i := List.mem_of_getElem? hr1
    refine ⟨fun σ' H' => ∃ o8 o9 o10 o11, HomI seeds pic z F (i + 1) ∧ J (i + 1) o8 o9 o10 o11 (itB seeds z (i + 1)) σ' H', fun σ' H' ⟨o8, o9, o10, o11, hI, hJ⟩ => ⟨m - 1, by omega, i + 1, o8, o9, o10, o11, by omega, by omega, hI, hJ⟩, ?_⟩
    walk_at "vc"
    refine w_ixl hf1 (atI_nat (by rw [List.getElem?_map, hr1]; rfl)) ?_
    with_reducible refine w_name ?_
    with_reducible refine w_cut (fun σ' H' => ∃ o9 o10 o11, HomI seeds pic z F (i + 1) ∧ J i (some (.str r)) o9 o10 o11 (itB seeds z (i + 1)) σ' H') ?_ ?_
    · rintro σ2 H2 ⟨o9, o10, o11, hI, wv2, M2, rfl, S2, mm2, hf2, hd2, he2, hw2, hsd2⟩
      walk_at "vc"
      refine ⟨_, rfl, _, _, rfl, rfl, ?_⟩
      exact ⟨_, _, _, _, hI, wv2, M2, rfl, S2, mm2, hf2, hd2, he2, hw2, hsd2⟩
    · intro U hU
      walk_at "vc"
      refine ⟨sd, rfl, ⟨_, SqL.of (S1.mh _ _ hsd1)⟩, ?_⟩
      refine fo_go walkL (fun j σ' H' => ∃ o9 o10 o11, (∀ k < j, ∀ s, seeds[k]? = some s → F (ovr s r) = ovr (pic s) (F r)) ∧ J i (some (.str r)) o9 o10 o11 (itJ seeds z r i j) σ' H') ⟨_, _, _, fun _ h => by omega, wv, M1, rfl, S1, ⟨mf, md, me⟩, hf1, hd1, he1, hw1, hsd1⟩ (fun _ _ _ _ ⟨_, _, _, _, _, _, _, S, _, _, _, _, _, hs⟩ => S.mh _ _ hs) ?_ ?_
      · rintro j y σ3 H3 H3' hj ⟨o9, o10, o11, hok, wv3, M3, rfl, S3, ⟨mf3, md3, me3⟩, hf3, hd3, he3, hw3, hsd3⟩ ⟨rfl, hy⟩
        obtain ⟨s, hs, rfl⟩ := map_at hy
        have hsm := mem_of_get hs
        obtain ⟨hpv, hpl⟩ := hpic s hsm
        have hrj : r ∈ itJ seeds z r i j := itJ_sub hrm
        have hjl : (itJ seeds z r i j).length ≤ 140 := by
          obtain ⟨t, et, ht⟩ := stepB_pre (r := r) (seeds.take j) (itB seeds z i)
          have et' : itJ seeds z r i j = itB seeds z i ++ t := et
          rw [et', List.length_append]
          rw [List.length_take] at ht
          omega
        walk_at "vc"
        refine ⟨s, r, rfl, M3, S3.mh, by rw [hsn s hsm]; omega, ?_⟩
        rintro v M4 H4 S4 rfl
        obtain ⟨mf4, hf4⟩ := S4.keep mf3 hf3
        obtain ⟨md4, hd4⟩ := S4.keep md3 hd3
        obtain ⟨me4, he4⟩ := S4.keep me3 he3
        have S4' := S3.trans S4
        walk_at "vc"
        refine ⟨p, .str (pic s), rfl, by have := DGet.k (k := Sum.inr s) (S4'.mh _ _ (S4'.mm _ _ hp)); rw [hpv] at this; exact this, ?_⟩
        walk_at "vc"
        refine kd_get hd4 hrj ?_
        walk_at "vc"
        refine ⟨pic s, F r, rfl, M4, S4.mh, hpl, ?_⟩
        rintro v M5 H5 S5 rfl
        obtain ⟨mf5, hf5⟩ := S5.keep mf4 hf4
        obtain ⟨md5, hd5⟩ := S5.keep md4 hd4
        obtain ⟨me5, he5⟩ := S5.keep me4 he4
        have S5' := S4'.trans S5
        have hw5 := hw3.mono (S4.mm.trans S5.mm)
        have hsd5 := (S4.mm.trans S5.mm) _ _ hsd3
        clear mf3 md3 me3 hf3 hd3 he3 hf4 hd4 he4 mf4 md4 me4 S4' S4 S5 S3 hw3 hsd3
        walk_at "vc"
        refine kd_has hd5 (fun q3 => ?_) (fun q3 => ?_)
        · walk_at "vc"
          refine kd_get hd5 q3 ?_
          walk_at "vc"
          have e2 : itJ seeds z r i (j + 1) = itJ seeds z r i j := by rw [itJ_succ hs, addB, if_pos q3]
          by_cases q4 : F (ovr s r) = ovr (pic s) (F r)
          · refine ifnT q4 ?_
            walk_at "vc"
            refine ⟨_, _, _, fun k hk s' hs' => ?_, wv3, M5, rfl, S5', ⟨mf5, md5, me5⟩, by rw [e2]; exact hf5, by rw [e2]; exact hd5, by rw [e2]; exact he5, by rw [e2]; exact hw5, hsd5⟩
            rcases Nat.lt_or_ge k j with t | t
            · exact hok k t s' hs'
            · obtain rfl : k = j := by omega
              rw [hs] at hs'
              cases hs'
              exact q4
          · refine ifnF q4 ?_
            walk_at "vc"
            obtain ⟨ws1, wy1, way1, wl1⟩ := hz r (itB_in hi hrm)
            have hx41 : ovr s r ∈ itB seeds z 41 := by
              refine itB_in (n := i + 1) (by omega) ?_
              rw [← itJ_all hr1]
              exact itJ_has hs (lt_of_get hs)
            obtain ⟨ws2, wy2, way2, wl2⟩ := hz _ hx41
            refine ⟨e, r, wv3, W, _, ws1, rfl, by omega, by omega, M5, S5'.mh, me5, he5, hw5, hrj, wy1, ?_⟩
            rintro v6 M6 H6 S6 i6
            obtain ⟨me6, he6⟩ := S6.keep me5 he5
            obtain ⟨md6, hd6⟩ := S6.keep md5 hd5
            obtain ⟨l6, rfl, hl6⟩ := i6.strs
            have S6' := S5'.trans S6
            walk_at "vc"
            intro p7 hp7
            have S7 := S6'.lay (.lst [.str s]) hp7
            have s7 : Same M6 (upd M6 p7 (.lst [.str s])) := same_upd (S6.mfree hp7)
            refine ⟨l6, p7, ws1.map V.str, [.str s], rfl, rfl, S7.mh _ _ (s7 _ _ hl6), upd_same, ?_, ?_⟩
            · exact Nat.le_trans (show _ + 1 ≤ 400 by rw [List.length_map]; omega) (line200 (Nat.le_refl _))
            have me7 : upd M6 p7 (.lst [.str s]) e = none := by rw [upd_ne (fun t => by rw [t, hp7] at he6; cases he6)]; exact me6
            have he7 : upd H6 p7 (.lst [.str s]) e = some (.dK (kd wv3 (itJ seeds z r i j))) := upd_old he6 hp7
            have md7 : upd M6 p7 (.lst [.str s]) d = none := by rw [upd_ne (fun t => by rw [t, hp7] at hd6; cases hd6)]; exact md6
            have hd7 : upd H6 p7 (.lst [.str s]) d = some (.dK (kd (fun r => .str (F r)) (itJ seeds z r i j))) := upd_old hd6 hp7
            have hw7 := (hw5.mono S6.mm).mono s7
            generalize upd M6 p7 (.lst [.str s]) = M7 at S7 s7 me7 md7 hw7
            generalize upd H6 p7 (.lst [.str s]) = H7 at S7 he7 hd7 ⊢
            intro p8 hp8
            have e8 : ws1.map V.str ++ [V.str s] = (ws1 ++ [s]).map V.str := by rw [List.map_append]; rfl
            rw [e8]
            have S8 := S7.lay (.lst ((ws1 ++ [s]).map V.str)) hp8
            have s8 : Same M7 (upd M7 p8 (.lst ((ws1 ++ [s]).map V.str))) := same_upd (S7.mfree hp8)
            have i8 : Is (upd M7 p8 (.lst ((ws1 ++ [s]).map V.str))) (dS (ws1 ++ [s])) (.ref p8) := Is.of_strs upd_same
            have me8' : upd M7 p8 (.lst ((ws1 ++ [s]).map V.str)) e = none := by rw [upd_ne (fun t => by rw [t, hp8] at he7; cases he7)]; exact me7
            have he8' : upd H7 p8 (.lst ((ws1 ++ [s]).map V.str)) e = some (.dK (kd wv3 (itJ seeds z r i j))) := upd_old he7 hp8
            have md8' : upd M7 p8 (.lst ((ws1 ++ [s]).map V.str)) d = none := by rw [upd_ne (fun t => by rw [t, hp8] at hd7; cases hd7)]; exact md7
            have hd8' : upd H7 p8 (.lst ((ws1 ++ [s]).map V.str)) d = some (.dK (kd (fun r => .str (F r)) (itJ seeds z r i j))) := upd_old hd7 hp8
            have hw8 := hw7.mono s8
            generalize upd M7 p8 (.lst ((ws1 ++ [s]).map V.str)) = M8 at S8 s8 i8 me8' md8' hw8
            generalize upd H7 p8 (.lst ((ws1 ++ [s]).map V.str)) = H8 at S8 he8' hd8' ⊢
            walk_at "vc"
            refine ⟨e, ovr s r, wv3, W, _, ws2, rfl, by omega, by omega, M8, S8.mh, me8', he8', hw8, q3, wy2, ?_⟩
            rintro v9 M9 H9 S9 i9
            have S9' := S8.trans S9
            replace i8 := i8.mono S9.mm
            walk_at "vc"
            intro p10 hp10
            have S10 := S9'.lay (.tup [.ref p8, v9]) hp10
            have s10 : Same M9 (upd M9 p10 (.tup [.ref p8, v9])) := same_upd (S9.mfree hp10)
            have i10 : Is (upd M9 p10 (.tup [.ref p8, v9])) (.tup [dS (ws1 ++ [s]), dS ws2]) (.ref p10) := Is.tup2 upd_same (i8.mono s10) (i9.mono s10)
            generalize upd M9 p10 (.tup [.ref p8, v9]) = M10 at S10 i10
            generalize upd H9 p10 (.tup [.ref p8, v9]) = H10 at S10 ⊢
            walk_at "vc"
            intro p11 hp11
            have S11 := S10.lay (.tup [.ref d, .ref p10]) hp11
            refine kN (fun hh => q4 (hh r (itB_in hi hrm) s hsm)) p11 d p10 (ws1 ++ [s]) ws2 _ _ S11 upd_same (i10.mono (same_upd (S10.mfree hp11))) ⟨fun t ht => ?_, way2.mem, ?_, ?_, by rw [List.length_append]; show _ + 1 ≤ 50; omega, by omega, i, j, r, s, ws1, hom, hr1, hs, hok, q4, rfl, wy1, wy2⟩
            · rcases List.mem_append.mp ht with u | u
              · exact way1.mem t u
              · rw [List.mem_singleton.mp u]; exact hsm
            · rw [laid_snoc, way1.to, way2.to]
            · rw [List.map_append, List.map_singleton, laid_snoc, way1.pc, way2.pc]
              exact fun t => q4 t.symm
        · walk_at "vc"
          have hc3 := (hmc i (by omega) j).c r s hr1 hs q3
          have e2 : itJ seeds z r i (j + 1) = itJ seeds z r i j ++ [ovr s r] := by rw [itJ_succ hs, addB, if_neg q3]
          refine kd_set (f := fun r => .str (F r)) hd5 q3 (by omega) (by rw [hc3.1]) ?_
          have S6 := S5'.put (.dK (kd (fun r => .str (F r)) (itJ seeds z r i j ++ [ovr s r]))) md5 (.inl hd0)
          have hf6 : upd H5 d (.dK (kd (fun r => .str (F r)) (itJ seeds z r i j ++ [ovr s r]))) f = some (.lst ((itJ seeds z r i j).map V.str)) := by rw [upd_ne hdf]; exact hf5
          have he6 : upd H5 d (.dK (kd (fun r => .str (F r)) (itJ seeds z r i j ++ [ovr s r]))) e = some (.dK (kd wv3 (itJ seeds z r i j))) := by rw [upd_ne (Ne.symm hde)]; exact he5
          have hd6 : upd H5 d (.dK (kd (fun r => .str (F r)) (itJ seeds z r i j ++ [ovr s r]))) d = some (.dK (kd (fun r => .str (F r)) (itJ seeds z r i j ++ [ovr s r]))) := upd_same
          generalize upd H5 d (.dK (kd (fun r => .str (F r)) (itJ seeds z r i j ++ [ovr s r]))) = H6 at S6 hf6 he6 hd6 ⊢
          walk_at "vc"
          intro T hT
          have S7 := S6.lay (.tup [.str r, .str s]) hT
          have s7 : Same M5 (upd M5 T (.tup [.str r, .str s])) := same_upd (S6.mfree hT)
          have hT7 : upd M5 T (.tup [.str r, .str s]) T = some (.tup [.str r, .str s]) := upd_same
          have mf7 : upd M5 T (.tup [.str r, .str s]) f = none := by rw [upd_ne (fun t => by rw [t, hT] at hf6; cases hf6)]; exact mf5
          have md7 : upd M5 T (.tup [.str r, .str s]) d = none := by rw [upd_ne (fun t => by rw [t, hT] at hd6; cases hd6)]; exact md5
          have me7 : upd M5 T (.tup [.str r, .str s]) e = none := by rw [upd_ne (fun t => by rw [t, hT] at he6; cases he6)]; exact me5
          have hf7 : upd H6 T (.tup [.str r, .str s]) f = some (.lst ((itJ seeds z r i j).map V.str)) := upd_old hf6 hT
          have he7 : upd H6 T (.tup [.str r, .str s]) e = some (.dK (kd wv3 (itJ seeds z r i j))) := upd_old he6 hT
          have hd7 : upd H6 T (.tup [.str r, .str s]) d = some (.dK (kd (fun r => .str (F r)) (itJ seeds z r i j ++ [ovr s r]))) := upd_old hd6 hT
          have hw7 := hw5.mono s7
          have hsd7 := s7 _ _ hsd5
          generalize upd M5 T (.tup [.str r, .str s]) = M7 at S7 hT7 mf7 md7 me7 hw7 hsd7
          generalize upd H6 T (.tup [.str r, .str s]) = H7 at S7 hf7 he7 hd7 ⊢
          have hcg : kd wv3 (itJ seeds z r i j) = kd (fun y => if y = ovr s r then .ref T else wv3 y) (itJ seeds z r i j) := kd_congr fun y hy => by
            show wv3 y = if y = ovr s r then .ref T else wv3 y
            rw [if_neg (fun t => q3 (by rw [← t]; exact hy))]
          rw [hcg] at he7
          walk_at "vc"
          refine kd_set he7 q3 (by omega) (by show V.ref T = if ovr s r = ovr s r then V.ref T else wv3 (ovr s r); rw [if_pos rfl]) ?_
          have S8 := S7.put (.dK (kd (fun y => if y = ovr s r then .ref T else wv3 y) (itJ seeds z r i j ++ [ovr s r]))) me7 (.inl he0)
          have hf8 : upd H7 e (.dK (kd (fun y => if y = ovr s r then .ref T else wv3 y) (itJ seeds z r i j ++ [ovr s r]))) f = some (.lst ((itJ seeds z r i j).map V.str)) := by rw [upd_ne hfe]; exact hf7
          have hd8 : upd H7 e (.dK (kd (fun y => if y = ovr s r then .ref T else wv3 y) (itJ seeds z r i j ++ [ovr s r]))) d = some (.dK (kd (fun r => .str (F r)) (itJ seeds z r i j ++ [ovr s r]))) := by rw [upd_ne hde]; exact hd7
          have he8 : upd H7 e (.dK (kd (fun y => if y = ovr s r then .ref T else wv3 y) (itJ seeds z r i j ++ [ovr s r]))) e = some (.dK (kd (fun y => if y = ovr s r then .ref T else wv3 y) (itJ seeds z r i j ++ [ovr s r]))) := upd_same
          generalize upd H7 e (.dK (kd (fun y => if y = ovr s r then .ref T else wv3 y) (itJ seeds z r i j ++ [ovr s r]))) = H8 at S8 hf8 hd8 he8 ⊢
          walk_at "vc"
          refine ⟨⟨f, _, rfl, hf8⟩, ?_⟩
          walk_at "vc"
          refine ⟨f, _, _, rfl, rfl, hf8, line_lt (by rw [List.length_map]; omega), ?_⟩
          walk_at "vc"
          have ef : (itJ seeds z r i j).map V.str ++ [V.str (ovr s r)] = (itJ seeds z r i j ++ [ovr s r]).map V.str := by rw [List.map_append]; rfl
          rw [ef]
          refine ⟨_, _, _, fun k hk s' hs' => ?_, fun y => if y = ovr s r then .ref T else wv3 y, M7, rfl, S8.put _ mf7 (.inl hf0), ⟨mf7, md7, me7⟩, by rw [e2]; exact upd_same, by rw [e2, upd_ne (Ne.symm hdf)]; exact hd8, by rw [e2, upd_ne (Ne.symm hfe)]; exact he8, ?_, hsd7⟩
          · rcases Nat.lt_or_ge k j with t | t
            · exact hok k t s' hs'
            · obtain rfl : k = j := by omega
              rw [hs] at hs'
              cases hs'
              exact hc3.1
          · rw [e2]
            intro y hy
            rcases List.mem_append.mp hy with u | u
            · have hne : ¬ y = ovr s r := fun t => q3 (by rw [← t]; exact u)
              simp only [if_neg hne]
              exact ⟨(hw7 y u).1, fun o' s' q => ⟨List.mem_append_left _ ((hw7 y u).2 o' s' q).1, ((hw7 y u).2 o' s' q).2⟩⟩
            · rw [List.mem_singleton.mp u]
              simp only [if_pos]
              refine ⟨fun q => (by rw [hc3.2] at q; cases q), fun o' s' q => ?_⟩
              rw [hc3.2] at q
              cases q
              exact ⟨List.mem_append_left _ hrj, T, rfl, hT7⟩
      · rintro σ3 H3 ⟨o9, o10, o11, hok, wv3, M3, rfl, S3, mm3, hf3, hd3, he3, hw3, hsd3⟩
        rw [List.length_map, itJ_all hr1] at hf3 hd3 he3 hw3
        refine hU _ _ ⟨_, _, _, fun k hk r' hr' s' hs' => ?_, wv3, M3, rfl, S3, mm3, hf3, hd3, he3, hw3, hsd3⟩
        rcases Nat.lt_or_ge k i with t | t
        · exact hom k t r' hr' s' hs'
        · obtain rfl : k = i := by omega
          rw [hr1] at hr'
          cases hr'
          obtain ⟨j, hj⟩ := List.getElem?_of_mem hs'
          exact hok j (by rw [List.length_map]; exact lt_of_get hj) s' hj
  · walk_at "vc"
    intro T hT
    have st := itB_stay (seeds := seeds) (z := z) (n := i) (by omega) (41 - i)
    rw [show i + (41 - i) = 41 by omega] at st
    have S2 := S1.fix hd1 hd0
    have S3 := S2.lay (.tup [.ref d, .non]) hT
    refine kY (hom.all hi (by omega)) T d _ _ S3 hd0 upd_same ?_
    rw [upd_ne (fun t => by rw [t, hT] at hd1; cases hd1), upd_same, st]
end
end Nt
namespace Nt
section
variable {P : Program} {w : World} {K : PySem.W.Frag} {mg : Str → Option Value} {base : Heap}
theorem itB_cap {seeds : List Str} {z : Str} (h : (itB seeds z 41).length ≤ 40) (i : Nat) : (itB seeds z i).length ≤ 40 := by
  rcases Nat.le_total i 41 with q | q
  · exact Nat.le_trans (itB_le q) h
  · have st := itB_stay (seeds := seeds) (z := z) (n := 41) (by omega) (i - 41)
    rw [show 41 + (i - 41) = i by omega] at st
    rw [st]; exact h
def sp_l_map_rows : Sp := fun vs H Q _ => ∃ (u : V) (p : Addr) (seeds : List Str) (n n' : Nat) (kvs : List (L2.Key × V)) (pic F : Str → Str) (W : Str → Option (Str × Str)), vs = [u, .ref p, .int n, .int n'] ∧ n ≤ 100 ∧ n' ≤ 100 ∧ seeds.length ≤ 100 ∧ (∀ s ∈ seeds, s.length = n) ∧
  (∀ s ∈ seeds, valV kvs (Sum.inr s) = some (.str (pic s)) ∧ (pic s).length ≤ 1000) ∧ (itB seeds (blk n) 41).length ≤ 40 ∧ MapF seeds pic (blk n) (blk n') F W ∧ ∃ M, Same M H ∧ Is M (dS seeds) u ∧ M p = some (.dK kvs) ∧
  (Hom seeds pic (itB seeds (blk n) 41) F → ∀ D M' H', Stp no M H M' H' → M' D = some (.dK (kd (fun r => .str (F r)) (itB seeds (blk n) 41))) → Q (.ref D) H') ∧
  (¬ Hom seeds pic (itB seeds (blk n) 41) F → Ret M H Q .non)
theorem ok_l_map_rows (T : Tx K mg) : Good P w K mg base CX0 2 (He.fAd K (He.DefD.at_ d_l_map_rows)) p_l_map_rows sp_l_map_rows := by
  obtain ⟨fd, F⟩ := T.def_ 43 (d := d_l_map_rows) rfl
  have g_l_over : Good P w K mg base CX0 1 (He.fAd K (He.DefD.at_ d_l_over)) p_l_over sp_l_over := ok_l_over T
  refine good_of F sc_l_map_rows (fun _ _ _ _ _ _ us hl => match us, hl with | [_, _, _, _], _ => rfl) (by intro vs H Q E h; (repeat obtain ⟨_, h⟩ := h); subst_vars; rfl) fun cdv A outer s H vs Q E hr h => ?_
  have hu := hu_of hr
  refine ⟨_, (pss_cons (ps_par (i := 4) (j := 5) rfl sc_l_map_rows.nd rfl rfl (by decide) rfl rfl (pa_cons (pe_disp (pps_cons (pe_op op_mul_str pe_str (pv 2)) (pe_op op_mul_str pe_str (pv 3)) pps_nil) (by rfl) (by rfl) (fun z => by cases z) (by decide)) (pa_cons (pe_lst (pa_cons (pe_op op_mul_str pe_str (pv 2)) pa_nil)) pa_nil)) (by rfl))  (pss_cons (ps_for PassesOwn.never rfl (pi_range1 (by rfl) T.b_range (pa_cons pe_int pa_nil)) (pg_name (i := 6) sc_l_map_rows.nd rfl (Or.inl rfl) (Or.inl rfl))  (pss_one (ps_if (pt_cmpR op_lt (pv 6) (pe_callB cq_len (by rfl) T.b_len (by decide +kernel) (pa_cons (pv 5) pa_nil)) (nomark _))  (pss_cons (ps_set (i := 7) sc_l_map_rows.nd rfl (Or.inl rfl) (pe_ix xq_list (pv 5) (pv 6) (fun _ _ => rfl)))  (pss_one (ps_for PassesOwn.never rfl (iq_list K (pv 0)) (pg_name (i := 8) sc_l_map_rows.nd rfl (Or.inl rfl) (Or.inl rfl))  (pss_cons (ps_par (i := 9) (j := 10) rfl sc_l_map_rows.nd rfl rfl (by decide) rfl rfl (pa_cons (pe_good g_l_over (hr.mono (by decide)) rfl T.m_l_over (pa_cons (pv 8) (pa_cons (pv 7) pa_nil))) (pa_cons (pe_good g_l_over (hr.mono (by decide)) rfl T.m_l_over (pa_cons (pe_dget hu (pv 1) (pv 8) (fun _ _ => rfl)) (pa_cons (pe_dget hu (pv 4) (pv 7) (fun _ _ => rfl)) pa_nil))) pa_nil)) (by rfl))  (pss_cons (ps_if (pt_cmp (pc_dnotin hu (pv 9) (pv 4)) rfl)  (pss_cons (ps_dput hu (pv 4) (pv 9) (pv 10) rfl)  (pss_one (ps_expr (eq_bm PySem.F.slot_list_append PySem.F.type_list_append mt_append (pv 5) (pa_cons (pv 9) pa_nil)))))  pss_nil)  (pss_one (ps_if (pt_cmpR op_ne (pe_dget hu (pv 4) (pv 9) (fun _ _ => rfl)) (pv 10) (nomark _))  (pss_one (ps_ret pe_non))  pss_nil)))))))  pss_nil)))  (pss_one (ps_ret (pv 4))))), ?_⟩
  obtain ⟨u, p, seeds, n, n', kvs, pic, F, W, rfl, hn, hn', hsl, hsn, hpic, h40, hm, M, s0, iu, hp, kY, kN⟩ := h
  obtain ⟨ua, rfl, hua⟩ := iu.strs
  walk_at "vc"
  intro d hd
  refine w_one ?_
  walk_at "vc"
  refine ⟨_, _, rfl, rfl, by omega, by omega, by decide +kernel, ?_⟩
  rw [rep_dot]
  walk_at "vc"
  refine ⟨_, _, rfl, rfl, by omega, by omega, by decide +kernel, ?_⟩
  rw [rep_dot]
  walk_at "vc"
  refine ⟨upd_same, [(.inr (blk n), .str (blk n'))], rfl, by simp, ?_⟩
  have md : M d = none := none_of_same s0 hd
  have S1 := ((Stp.refl (ex := no) s0).new (.dK []) hd).put (.dK (mergeK [] [(Sum.inr (blk n), V.str (blk n'))])) md (.inl hd)
  have hd1 : upd (upd H d (.dK [])) d (.dK (mergeK [] [(Sum.inr (blk n), V.str (blk n'))])) d = some (.dK (kd (fun r => .str (F r)) [blk n])) := by
    rw [upd_same]
    show some (HO.dK [(Sum.inr (blk n), V.str (blk n'))]) = some (.dK [(Sum.inr (blk n), V.str (F (blk n)))])
    rw [hm.fz]
  generalize upd (upd H d (.dK [])) d (.dK (mergeK [] [(Sum.inr (blk n), V.str (blk n'))])) = H1 at S1 hd1 ⊢
  walk_at "vc"
  refine ⟨_, _, rfl, rfl, by omega, by omega, by decide +kernel, ?_⟩
  rw [rep_dot]
  walk_at "vc"
  intro f hf
  have mf : M f = none := S1.mfree hf
  have hf0 := S1.hfree hf
  have hdf : f ≠ d := fun z => by rw [← z, hf] at hd1; cases hd1
  have S2 := S1.new (.lst [.str (blk n)]) hf
  have hf2 : upd H1 f (.lst [.str (blk n)]) f = some (.lst ([blk n].map V.str)) := upd_same
  have hd2 : upd H1 f (.lst [.str (blk n)]) d = some (.dK (kd (fun r => .str (F r)) [blk n])) := upd_old hd1 hf
  generalize upd H1 f (.lst [.str (blk n)]) = H2 at S2 hf2 hd2 ⊢
  walk_at "vc"
  clear S1 hd1 hf
  have hmc := hm.c
  have hcap := itB_cap h40
  generalize hzz : blk n = z at *
  let J : Option V → Option V → Option V → Option V → Option V → List Str → L2.St → Hp → Prop := fun o6 o7 o8 o9 o10 fs σ' H' => ∃ M', σ' = [some (.ref ua), some (.ref p), some (.int n), some (.int n'), some (.ref d), some (.ref f), o6, o7, o8, o9, o10] ∧ Stp no M H M' H' ∧ (M' f = none ∧ M' d = none) ∧
    H' f = some (.lst (fs.map V.str)) ∧ H' d = some (.dK (kd (fun r => .str (F r)) fs))
  refine w_r1 (n := 801) (by decide) ?_
  refine fo_go walkR (fun i σ' H' => ∃ o6 o7 o8 o9 o10, HomI seeds pic z F i ∧ J o6 o7 o8 o9 o10 (itB seeds z i) σ' H') ⟨_, _, _, _, _, fun _ h => by omega, M, rfl, S2, ⟨mf, md⟩, hf2, hd2⟩ (fun _ _ _ _ _ => trivial) ?_ ?_
  · rintro i y σ1 H1 H1' hi ⟨o6, o7, o8, o9, o10, hom, M1, rfl, S1, ⟨mf1, md1⟩, hf1, hd1⟩ ⟨rfl, rfl⟩
    have hle := hcap i
    walk_at "vc"
    refine ⟨f, _, rfl, .inl hf1, ?_⟩
    rw [List.length_map]
    walk_at "vc"
    refine ifd (fun q => ?_) (fun q => ?_)
    · walk_at "vc"
      have q : i < (itB seeds z i).length := by omega
      have hi41 : i < 41 := by omega
      obtain ⟨r, hr1⟩ : ∃ r, (itB seeds z i)[i]? = some r := ⟨_, List.getElem?_eq_getElem q⟩
      have hrm : r ∈ itB seeds z i := List.mem_of_getElem? hr1
      refine w_ixl hf1 (atI_nat (by rw [List.getElem?_map, hr1]; rfl)) ?_
      walk_at "vc"
      refine ⟨ua, rfl, ⟨_, SqL.of (S1.mh _ _ (S1.mm _ _ hua))⟩, ?_⟩
      refine fo_go walkL (fun j σ' H' => ∃ o8 o9 o10, (∀ k < j, ∀ s, seeds[k]? = some s → F (ovr s r) = ovr (pic s) (F r)) ∧ J (some (.int (i : Nat))) (some (.str r)) o8 o9 o10 (itJ seeds z r i j) σ' H') ⟨_, _, _, fun _ h => by omega, M1, rfl, S1, ⟨mf1, md1⟩, hf1, hd1⟩ (fun _ _ _ _ ⟨_, _, _, _, _, _, S, _⟩ => S.mh _ _ (S.mm _ _ hua)) ?_ ?_
      · rintro j y σ3 H3 H3' hj ⟨o8, o9, o10, hok, M3, rfl, S3, ⟨mf3, md3⟩, hf3, hd3⟩ ⟨rfl, hy⟩
        obtain ⟨s, hs, rfl⟩ := map_at hy
        have hsm := mem_of_get hs
        obtain ⟨hpv, hpl⟩ := hpic s hsm
        have hrj : r ∈ itJ seeds z r i j := itJ_sub hrm
        have hjl : (itJ seeds z r i j).length ≤ 140 := by
          obtain ⟨t, et, ht⟩ := stepB_pre (r := r) (seeds.take j) (itB seeds z i)
          have et' : itJ seeds z r i j = itB seeds z i ++ t := et
          rw [et', List.length_append]
          rw [List.length_take] at ht
          omega
        walk_at "vc"
        refine ⟨s, r, rfl, M3, S3.mh, by rw [hsn s hsm]; omega, ?_⟩
        rintro v M4 H4 S4 rfl
        obtain ⟨mf4, hf4⟩ := S4.keep mf3 hf3
        obtain ⟨md4, hd4⟩ := S4.keep md3 hd3
        have S4' := S3.trans S4
        walk_at "vc"
        refine ⟨p, .str (pic s), rfl, by have := DGet.k (k := Sum.inr s) (S4'.mh _ _ (S4'.mm _ _ hp)); rw [hpv] at this; exact this, ?_⟩
        walk_at "vc"
        refine kd_get hd4 hrj ?_
        walk_at "vc"
        refine ⟨pic s, F r, rfl, M4, S4.mh, hpl, ?_⟩
        rintro v M5 H5 S5 rfl
        obtain ⟨mf5, hf5⟩ := S5.keep mf4 hf4
        obtain ⟨md5, hd5⟩ := S5.keep md4 hd4
        have S5' := S4'.trans S5
        clear mf3 md3 hf3 hd3 hf4 hd4 mf4 md4 S4' S4 S5 S3
        walk_at "vc"
        refine kd_has hd5 (fun q3 => ?_) (fun q3 => ?_)
        · walk_at "vc"
          have e2 : itJ seeds z r i (j + 1) = itJ seeds z r i j := by rw [itJ_succ hs, addB, if_pos q3]
          refine kd_get hd5 q3 ?_
          walk_at "vc"
          by_cases q4 : F (ovr s r) = ovr (pic s) (F r)
          · refine ifnT q4 ?_
            walk_at "vc"
            refine ⟨_, _, _, fun k hk s' hs' => ?_, M5, rfl, S5', ⟨mf5, md5⟩, by rw [e2]; exact hf5, by rw [e2]; exact hd5⟩
            rcases Nat.lt_or_ge k j with t | t
            · exact hok k t s' hs'
            · obtain rfl : k = j := by omega
              rw [hs] at hs'
              cases hs'
              exact q4
          · refine ifnF q4 ?_
            walk_at "vc"
            exact kN (fun hh => q4 (hh r (itB_in (by omega) hrm) s hsm)) _ _ _ S5' rfl
        · walk_at "vc"
          have hc3 := (hmc i hi41 j).c r s hr1 hs q3
          have e2 : itJ seeds z r i (j + 1) = itJ seeds z r i j ++ [ovr s r] := by rw [itJ_succ hs, addB, if_neg q3]
          refine kd_set (f := fun r => .str (F r)) hd5 q3 (by omega) (by rw [hc3.1]) ?_
          have S6 := S5'.put (.dK (kd (fun r => .str (F r)) (itJ seeds z r i j ++ [ovr s r]))) md5 (.inl hd)
          have hf6 : upd H5 d (.dK (kd (fun r => .str (F r)) (itJ seeds z r i j ++ [ovr s r]))) f = some (.lst ((itJ seeds z r i j).map V.str)) := by rw [upd_ne hdf]; exact hf5
          have hd6 : upd H5 d (.dK (kd (fun r => .str (F r)) (itJ seeds z r i j ++ [ovr s r]))) d = some (.dK (kd (fun r => .str (F r)) (itJ seeds z r i j ++ [ovr s r]))) := upd_same
          generalize upd H5 d (.dK (kd (fun r => .str (F r)) (itJ seeds z r i j ++ [ovr s r]))) = H6 at S6 hf6 hd6 ⊢
          walk_at "vc"
          refine ⟨⟨f, _, rfl, hf6⟩, ?_⟩
          walk_at "vc"
          refine ⟨f, _, _, rfl, rfl, hf6, line_lt (by rw [List.length_map]; omega), ?_⟩
          have ef : (itJ seeds z r i j).map V.str ++ [V.str (ovr s r)] = (itJ seeds z r i j ++ [ovr s r]).map V.str := by rw [List.map_append]; rfl
          rw [ef]
          have S7 := S6.put (.lst ((itJ seeds z r i j ++ [ovr s r]).map V.str)) mf5 (.inl hf0)
          have hf7 : upd H6 f (.lst ((itJ seeds z r i j ++ [ovr s r]).map V.str)) f = some (.lst ((itJ seeds z r i j ++ [ovr s r]).map V.str)) := upd_same
          have hd7 : upd H6 f (.lst ((itJ seeds z r i j ++ [ovr s r]).map V.str)) d = some (.dK (kd (fun r => .str (F r)) (itJ seeds z r i j ++ [ovr s r]))) := by rw [upd_ne (Ne.symm hdf)]; exact hd6
          generalize upd H6 f (.lst ((itJ seeds z r i j ++ [ovr s r]).map V.str)) = H7 at S7 hf7 hd7 ⊢
          walk_at "vc"
          refine kd_get hd7 (List.mem_append_right _ (List.mem_singleton.mpr rfl)) ?_
          walk_at "vc"
          refine ifnT hc3.1 ?_
          walk_at "vc"
          refine ⟨_, _, _, fun k hk s' hs' => ?_, M5, rfl, S7, ⟨mf5, md5⟩, by rw [e2]; exact hf7, by rw [e2]; exact hd7⟩
          rcases Nat.lt_or_ge k j with t | t
          · exact hok k t s' hs'
          · obtain rfl : k = j := by omega
            rw [hs] at hs'
            cases hs'
            exact hc3.1
      · rintro σ3 H3 ⟨o8, o9, o10, hok, M3, rfl, S3, mm3, hf3, hd3⟩
        rw [List.length_map, itJ_all hr1] at hf3 hd3
        walk_at "vc"
        refine ⟨_, _, _, _, _, fun k hk r' hr' s' hs' => ?_, M3, rfl, S3, mm3, hf3, hd3⟩
        rcases Nat.lt_or_ge k i with t | t
        · exact hom k t r' hr' s' hs'
        · obtain rfl : k = i := by omega
          rw [hr1] at hr'
          cases hr'
          obtain ⟨j, hj⟩ := List.getElem?_of_mem hs'
          exact hok j (by rw [List.length_map]; exact lt_of_get hj) s' hj
    · walk_at "vc"
      have en : (itB seeds z i)[i]? = none := List.getElem?_eq_none (by omega)
      have e2 : itB seeds z (i + 1) = itB seeds z i := by rw [itB, en]
      refine ⟨_, _, _, _, _, fun k hk r' hr' s' hs' => ?_, M1, rfl, S1, ⟨mf1, md1⟩, by rw [e2]; exact hf1, by rw [e2]; exact hd1⟩
      rcases Nat.lt_or_ge k i with t | t
      · exact hom k t r' hr' s' hs'
      · obtain rfl : k = i := by omega
        rw [en] at hr'
        cases hr'
  · rintro σ1 H1 ⟨o6, o7, o8, o9, o10, hom, M1, rfl, S1, ⟨mf1, md1⟩, hf1, hd1⟩
    walk_at "vc"
    have st := itB_stay (seeds := seeds) (z := z) (n := 41) (by omega) 760
    replace hd1 : H1 d = some (.dK (kd (fun r => .str (F r)) (itB seeds z (41 + 760)))) := hd1
    rw [st] at hd1
    have hh : HomI seeds pic z F 41 := fun k hk => hom k (by omega)
    exact kY (hh.all (Nat.le_refl _) (by omega)) d _ _ (S1.fix hd1 hd) upd_same
end
end Nt
namespace Nt
section
variable {P : Program} {w : World} {K : PySem.W.Frag} {mg : Str → Option Value} {base : Heap}
/-- what is known of a band and another and what may be pictures -/
structure MpF (cs cs' : Cells) (seeds rows seeds' rows' : List Str) : Prop where
  c : cs.length ≤ 100
  c' : cs'.length ≤ 100
  sl : seeds.length ≤ 100
  sn : ∀ s ∈ seeds, s.length = cs.length
  le : (itB seeds (blk cs.length) 41).length ≤ 40
  rl : ∀ x ∈ rows', x.length ≤ 1000
/-- good pictures, by name -/
structure PicG (seeds rows' : List Str) (M : Hp) (v : V) (p : Addr) (kvs : List (L2.Key × V)) (pic : Str → Str) : Prop where
  e : v = .ref p
  h : M p = some (.dK kvs)
  l : kvs.length = seeds.length
  g : ∀ s ∈ seeds, valV kvs (Sum.inr s) = some (.str (pic s)) ∧ pic s ∈ rows'
theorem PicG.good {seeds rows' : List Str} {M : Hp} {v : V} {p : Addr} {kvs : List (L2.Key × V)} {pic : Str → Str} (h : PicG seeds rows' M v p kvs pic) : GoodP seeds rows' M v :=
  ⟨p, kvs, h.e, h.h, h.l, fun s hs => ⟨pic s, h.g s hs⟩⟩
theorem GoodP.pics {seeds rows' : List Str} {M : Hp} {v : V} (h : GoodP seeds rows' M v) : ∃ p kvs pic, PicG seeds rows' M v p kvs pic := by
  obtain ⟨p, kvs, e, h1, h2, h3⟩ := h
  refine ⟨p, kvs, fun s => if h : s ∈ seeds then (h3 s h).choose else "", e, h1, h2, fun s hs => ?_⟩
  simp only [dif_pos hs]
  exact (h3 s hs).choose_spec
def sp_map_break (C C' : Addr) : Sp := fun vs H Q E => ∃ (a o : Addr) (v : V) (cs cs' : Cells) (seeds rows seeds' rows' : List Str), vs = [.ref a, .ref o, v] ∧ MpF cs cs' seeds rows seeds' rows' ∧ ∃ M, Same M H ∧ BandO C M cs seeds rows a ∧ BandO C M cs' seeds' rows' o ∧ PicV seeds.length M v ∧
  (∀ p kvs pic, PicG seeds rows' M v p kvs pic → ∃ F W, MapF seeds pic (blk cs.length) (blk cs'.length) F W ∧ (Hom seeds pic (itB seeds (blk cs.length) 41) F → Ret M H Q .non) ∧
    (¬ Hom seeds pic (itB seeds (blk cs.length) 41) F → ∀ w1 w2, Two seeds pic (blk cs.length) (blk cs'.length) F W w1 w2 → Ret M H Q (.tup [dS w1, dS w2]))) ∧
  (¬ GoodP seeds rows' M v → ∀ M' H' dx, Stp no M H M' H' → H' dx = none → E (.ref C') (some dx) (upd H' dx (.xd [("code", .str "BadPictures")])))
theorem ok_map_break (T : Tx K mg) : Good P w K mg base (L2.CX P w) 6 (He.fAd K (He.DefD.at_ d_map_break)) p_map_break (sp_map_break (He.ga K "Band") (He.ga K "BadPictures")) := by
  obtain ⟨fd, F⟩ := T.def_ 33 (d := d_map_break) rfl
  have g_walked : Good P w K mg base CX0 3 (He.fAd K (He.DefD.at_ d_walked)) p_walked (sp_walked (He.ga K "Band")) := ok_walked T
  have g_check_pictures : Good P w K mg base (L2.CX P w) 5 (He.fAd K (He.DefD.at_ d_check_pictures)) p_check_pictures (sp_check_pictures (He.ga K "Band") (He.ga K "BadPictures")) := ok_check_pictures T
  refine good_ofX F sc_map_break (fun _ _ _ _ _ _ us hl => match us, hl with | [_, _, _], _ => rfl) (by intro vs H Q E h; (repeat obtain ⟨_, h⟩ := h); subst_vars; rfl) fun cdv A outer s H vs Q E hr h => ?_
  have hu := hu_of hr
  refine ⟨_, (pss_cons (ps_expr (pe_goodP (E := E) g_check_pictures (hr.mono (by decide)) rfl T.m_check_pictures (passes_call (takes_of rfl rfl rfl rfl) (fun _ _ _ _ h => h)) (pa_cons (pv 0) (pa_cons (pv 1) (pa_cons (pv 2) pa_nil)))))  (pss_one (ps_ret (pe_ix xq_tup (pe_good g_walked (hr.mono (by decide)) rfl T.m_walked (pa_cons (pv 0) (pa_cons (pv 1) (pa_cons (pv 2) pa_nil)))) pe_int (fun _ _ => rfl))))), ?_⟩
  obtain ⟨a, o, v, cs, cs', seeds, rows, seeds', rows', rfl, B, M, s0, ib, io, iv, kY, kN⟩ := h
  walk_at "vc"
  refine ⟨a, o, v, cs, cs', seeds, rows, seeds', rows', rfl, B.sl, M, s0, ib, io, iv, fun hg => ?_, fun hn M' H' dx S hdx => kN hn M' H' dx S hdx⟩
  rintro v1 M1 H1 S1 rfl
  obtain ⟨p, kvs, pic, G⟩ := hg.pics
  obtain ⟨F, W, hm, k1, k2⟩ := kY p kvs pic G
  obtain rfl := G.e
  walk_at "vc"
  refine ⟨a, o, p, cs, cs', seeds, rows, seeds', rows', kvs, pic, F, W, rfl, B.c, B.c', B.sl, B.sn, fun s hs => ⟨(G.g s hs).1, B.rl _ (G.g s hs).2⟩, B.le, hm, M1, S1.mh, ib.mono S1.mm, io.mono S1.mm, S1.mm _ _ G.h, fun hh T D M' H' S _ hT hD => ?_, fun hh T D T2 w1 w2 M' H' S hT i2 tw => ?_⟩
  · walk_at "vc"
    refine w_ixt (j := ((1 : Nat) : Int)) (S.mh _ _ hT) (atI_nat rfl) ?_
    exact k1 hh _ _ _ (S1.trans S) rfl
  · walk_at "vc"
    refine w_ixt (j := ((1 : Nat) : Int)) (S.mh _ _ hT) (atI_nat rfl) ?_
    exact k2 hh w1 w2 tw _ _ _ (S1.trans S) i2
/-- an error with two lists -/
def sp_NotMap___init__ (C : Addr) : Sp := fun vs H Q _ => ∃ (a : Addr) (u v : V), vs = [.ref a, u, v] ∧ H a = some (exo a C none) ∧ ∀ dx, H dx = none → dx ≠ a → Q .non (upd (upd H a (exo a C (some dx))) dx (exd dx [("code", .str "NotMap"), ("other", v), ("one", u)]))
theorem ok_NotMap___init__ (T : Tx K mg) : Good P w K mg base CX0 2 (He.fAd K (He.DefD.at_ d_NotMap___init__)) p_NotMap___init__ (sp_NotMap___init__ (He.ga K "NotMap")) := by
  obtain ⟨fd, F⟩ := T.def_ 28 (d := d_NotMap___init__) rfl
  refine good_of F sc_NotMap___init__ (fun _ _ _ _ _ _ us hl => match us, hl with | [_, _, _], _ => rfl) (by intro vs H Q E h; (repeat obtain ⟨_, h⟩ := h); subst_vars; rfl) fun cdv A outer s H vs Q E hr h => ?_
  have hu := hu_of hr
  refine ⟨_, (pss_cons (ps_ost (pv 0) (pv 1))  (pss_cons (ps_ost (pv 0) (pv 2))  (pss_one (ps_ost (pv 0) pe_str)))), ?_⟩
  obtain ⟨a, u, v, rfl, ha, k⟩ := h
  have x_NotMap := T.exc "NotMap" (by decide)
  refine w_ost ?_
  walk_at "vc"
  refine ⟨a, _, rfl, x_NotMap.oc, T.n_NotMap_one, .inl ⟨ha, fun dx h1 h2 => ?_⟩⟩
  generalize hH1 : upd (upd H dx (exd dx [("one", u)])) a (exo a (He.ga K "NotMap") (some dx)) = H1
  have ha1 : H1 a = some (exo a (He.ga K "NotMap") (some dx)) := by rw [← hH1]; exact upd_same
  have hd1 : H1 dx = some (exd dx [("one", u)]) := by rw [← hH1, upd_ne h2]; exact upd_same
  walk_at "vc"
  refine w_ost ?_
  walk_at "vc"
  refine ⟨a, _, rfl, x_NotMap.oc, T.n_NotMap_other, .inr ⟨dx, _, ha1, hd1, Nat.le_of_ble_eq_true rfl, ?_⟩⟩
  generalize hH2 : upd H1 dx _ = H2
  have ha2 : H2 a = some (exo a (He.ga K "NotMap") (some dx)) := by rw [← hH2, upd_ne (fun z => h2 z.symm)]; exact ha1
  have hd2 : H2 dx = some (exd dx [("other", v), ("one", u)]) := by rw [← hH2]; exact upd_same
  dsimp only
  refine w_ost ?_
  walk_at "vc"
  refine ⟨a, _, rfl, x_NotMap.oc, T.n_NotMap_code, .inr ⟨dx, _, ha2, hd2, Nat.le_of_ble_eq_true rfl, ?_⟩⟩
  walk_at "vc"
  have e : upd H2 dx (exd dx [("code", .str "NotMap"), ("other", v), ("one", u)]) = upd (upd H a (exo a (He.ga K "NotMap") (some dx))) dx (exd dx [("code", .str "NotMap"), ("other", v), ("one", u)]) := by
    funext b
    by_cases q : b = dx
    · rw [q, upd_same, upd_same]
    · rw [upd_ne q, upd_ne q, ← hH2, upd_ne q, ← hH1]
      by_cases q2 : b = a
      · rw [q2, upd_same, upd_same]
      · rw [upd_ne q2, upd_ne q, upd_ne q2]
  rw [e]
  exact k dx h1 h2
end
end Nt
namespace Nt
section
variable {P : Program} {w : World} {K : PySem.W.Frag} {mg : Str → Option Value} {base : Heap}
/-- a copy of one's own, in any order -/
def sp_l_copied : Sp := fun vs H Q _ => ∃ (b t : Addr) (g : Str → V) (ks : List Str), vs = [.ref b, .ref t] ∧ ks.Nodup ∧ ks.length ≤ 1000 ∧ ∃ M, Same M H ∧ Bag M H b ∧ M t = some (.dK (kd g ks)) ∧
  ∀ D ks' M' H', ks'.Perm ks → Stp (exB b) M H M' H' → Bag M' H' b → H D = none → M' D = none → H' D = some (.dK (kd g ks')) → Q (.ref D) H'
theorem ok_l_copied (T : Tx K mg) : Good P w K mg base CX0 4 (He.fAd K (He.DefD.at_ d_l_copied)) p_l_copied sp_l_copied := by
  obtain ⟨fd, F⟩ := T.def_ 42 (d := d_l_copied) rfl
  have g_l_turned : Good P w K mg base CX0 3 (He.fAd K (He.DefD.at_ d_l_turned)) p_l_turned sp_l_turned := ok_l_turned T
  refine good_of F sc_l_copied (fun _ _ _ _ _ _ us hl => match us, hl with | [_, _], _ => rfl) (by intro vs H Q E h; (repeat obtain ⟨_, h⟩ := h); subst_vars; rfl) fun cdv A outer s H vs Q E hr h => ?_
  have hu := hu_of hr
  refine ⟨_, (pss_cons (ps_set (i := 2) sc_l_copied.nd rfl (Or.inl rfl) pe_dnewK)  (pss_cons (ps_for PassesOwn.never rfl (iq_list K (pe_good g_l_turned (hr.mono (by decide)) rfl T.m_l_turned (pa_cons (pv 0) (pa_cons (pe_callTy (call_list_dK rfl) (by rfl) T.b_list (by decide +kernel) (pa_cons (pv 1) pa_nil)) pa_nil)))) (pg_name (i := 3) sc_l_copied.nd rfl (Or.inl rfl) (Or.inl rfl))  (pss_one (ps_dput hu (pv 2) (pv 3) (pe_dget hu (pv 1) (pv 3) (fun _ _ => rfl)) rfl)))  (pss_one (ps_ret (pv 2))))), ?_⟩
  obtain ⟨b, t, g, ks, rfl, nd, hl, M, s0, B, ht, k⟩ := h
  walk_at "vc"
  intro d hd
  have S1 := (Stp.refl (ex := exB b) s0).new (.dK []) hd
  have md : M d = none := none_of_same s0 hd
  have B1 := B.new (o := .dK []) s0 hd
  have hd1 : upd H d (.dK []) d = some (.dK []) := upd_same
  have ne := B.ne hd
  generalize upd H d (.dK []) = H1 at S1 B1 hd1 ⊢
  walk_at "vc"
  refine ⟨t, _, rfl, S1.mh _ _ ht, fun l hl' => ?_⟩
  have hdl : d ≠ l := fun z => by rw [z, hl'] at hd1; cases hd1
  have ek : (kd g ks).map (fun kv => kV kv.1) = ks.map V.str := by
    unfold kd
    rw [List.map_map]
    rfl
  rw [ek]
  have S2 := S1.lay (.lst (ks.map V.str)) hl'
  have B2 := B1.lay (o := .lst (ks.map V.str)) S1.mh hl'
  have i2 : Is (upd M l (.lst (ks.map V.str))) (dS ks) (.ref l) := Is.of_strs upd_same
  have md2 : upd M l (.lst (ks.map V.str)) d = none := by rw [upd_ne hdl]; exact md
  have hd2 : upd H1 l (.lst (ks.map V.str)) d = some (.dK []) := upd_old hd1 hl'
  generalize upd M l (.lst (ks.map V.str)) = M2 at S2 B2 i2 md2
  generalize upd H1 l (.lst (ks.map V.str)) = H2 at S2 B2 hd2 ⊢
  clear S1 B1 hd1 hl' hdl
  walk_at "vc"
  refine ⟨b, .ref l, ks.map Dat.str, rfl, by rw [List.length_map]; omega, M2, S2.mh, B2, i2.q, ?_⟩
  rintro _ v3 M3 H3 ⟨es, rfl, hpm⟩ S3 B3 i3
  obtain ⟨ks', hp', rfl⟩ := perm_pre hpm
  obtain ⟨l3, rfl, hl3⟩ := i3.strs
  have md3 : M3 d = none := S3.fr d md2 (by rw [hd2]; exact Option.some_ne_none _)
  have hd3 : H3 d = some (.dK (kd g [])) := S3.hh d _ (fun z => ne z) hd2
  have S3' := S2.trans S3
  have nd' : ks'.Nodup := hp'.nodup_iff.mpr nd
  have hkl : ks'.length = ks.length := hp'.length_eq
  clear S2 S3 B2 hd2 md2 i2
  walk_at "vc"
  refine ⟨l3, rfl, ⟨_, SqL.of (S3'.mh _ _ hl3)⟩, ?_⟩
  refine fo_go walkL (fun i σ' H' => ∃ (o3 : Option V), σ' = [some (.ref b), some (.ref t), some (.ref d), o3] ∧ Stp (exB b) M H M3 H' ∧ Bag M3 H' b ∧ H' d = some (.dK (kd g (ks'.take i)))) ⟨_, rfl, S3', B3, hd3⟩ (fun _ _ _ _ ⟨_, _, S, _⟩ => S.mh _ _ hl3) ?_ ?_
  · rintro i y σ1 H1 H1' hi ⟨o3, rfl, S, B, hd1⟩ ⟨rfl, hy⟩
    obtain ⟨x, hx, rfl⟩ := map_at hy
    have hxk : x ∈ ks := hp'.mem_iff.mp (mem_of_get hx)
    walk_at "vc"
    refine kd_get (S.mh _ _ (S.mm _ _ ht)) hxk ?_
    walk_at "vc"
    refine kd_set hd1 (nodup_at nd' hx) (by rw [List.length_take]; omega) rfl ?_
    walk_at "vc"
    refine ⟨_, rfl, S.put _ md3 (.inl hd), B.put md3 ne, ?_⟩
    rw [upd_same, tk_snoc hx]
  · rintro σ1 H1 ⟨o3, rfl, S, B, hd1⟩
    rw [List.length_map, List.take_length] at hd1
    walk_at "vc"
    exact k d ks' _ _ hp' S B hd md3 hd1
end
end Nt
namespace Nt
section
variable {P : Program} {w : World} {K : PySem.W.Frag} {mg : Str → Option Value} {base : Heap}
abbrev mapF (vb vo vs vr : V) : List (Str × V) := [("band", vb), ("other", vo), ("seed_pictures", vs), ("row_pictures", vr)]
/-- a map that stands -/
def MapO (C B : Addr) (M : Hp) (cs : Cells) (seeds rows ss : List Str) (pic F : Str → Str) (R : List Str) (x : Addr) : Prop := ∃ dx a vo sp rp, M x = some (.ins C dx (mapF (.ref a) vo (.ref sp) (.ref rp))) ∧ BandO B M cs seeds rows a ∧ M sp = some (.dK (kd (fun s => .str (pic s)) ss)) ∧ M rp = some (.dK (kd (fun r => .str (F r)) R))
def sp_Band_check_row (C : Addr) : Sp := fun vs H Q _ => ∃ (a : Addr) (r : Str) (cs : Cells) (seeds rows : List Str), vs = [.ref a, .str r] ∧ CellsOk cs ∧ RowOk cs r ∧ r ∈ rows ∧ ∃ M, Same M H ∧ BandO C M cs seeds rows a ∧ Ret M H Q .non
theorem ok_Band_check_row (T : Tx K mg) : Good P w K mg base CX0 2 (He.fAd K (He.DefD.at_ d_Band_check_row)) p_Band_check_row (sp_Band_check_row (He.ga K "Band")) := by
  obtain ⟨fd, F⟩ := T.def_ 30 (d := d_Band_check_row) rfl
  have g_is_row : Good P w K mg base CX0 1 (He.fAd K (He.DefD.at_ d_is_row)) p_is_row sp_is_row := ok_is_row T
  refine good_of F sc_Band_check_row (fun _ _ _ _ _ _ us hl => match us, hl with | [_, _], _ => rfl) (by intro vs H Q E h; (repeat obtain ⟨_, h⟩ := h); subst_vars; rfl) fun cdv A outer s H vs Q E hr h => ?_
  have hu := hu_of hr
  refine ⟨_, (pss_cons (ps_if (pt_not (pt_val (pe_good g_is_row (hr.mono (by decide)) rfl T.m_is_row (pa_cons (pe_fld (pv 0) rfl) (pa_cons (pv 1) pa_nil)))))  (pss_one ps_never)  pss_nil)  (pss_one (ps_if (pt_cmp (pc_dnotin hu (pv 1) (pe_fld (pv 0) rfl)) rfl)  (pss_one ps_never)  pss_nil))), ?_⟩
  obtain ⟨a, r, cs, seeds, rows, rfl, hc, hr, hm, M, s0, ib, k⟩ := h
  obtain ⟨bdx, bvc, bvs, bvr, bvk, bvl, hb1, hb2, hb3, hb4, ka, ks, rfl, hka, hks⟩ := ib
  walk_at "vc"
  refine ⟨a, _, bdx, _, _, rfl, s0 _ _ hb1, T.c_Band, T.n_Band_cell_list, rfl, ?_⟩
  walk_at "vc"
  refine ⟨_, r, cs, rfl, hc, hr, M, s0, hb2, ?_⟩
  rintro v1 M1 H1 S1 rfl
  walk_at "vc"
  refine ⟨a, _, bdx, _, _, rfl, S1.mh _ _ (S1.mm _ _ hb1), T.c_Band, T.n_Band_known_rows, rfl, ?_⟩
  refine kd_has (S1.mh _ _ (S1.mm _ _ hka)) (fun q => ?_) (fun q => absurd ((hks r).mpr hm) q)
  walk_at "vc"
  exact k _ _ _ S1 rfl
def sp_BandMap_pictures (C B : Addr) : Sp := fun vs H Q _ => ∃ (x : Addr) (cs : Cells) (seeds rows ss : List Str) (pic F : Str → Str) (R : List Str), vs = [.ref x] ∧ ∃ M, Same M H ∧ MapO C B M cs seeds rows ss pic F R x ∧
  ∀ D M' H', Stp no M H M' H' → M' D = some (.dK (kd (fun s => .str (pic s)) ss)) → Q (.ref D) H'
theorem ok_BandMap_pictures (T : Tx K mg) : Good P w K mg base CX0 1 (He.fAd K (He.DefD.at_ d_BandMap_pictures)) p_BandMap_pictures (sp_BandMap_pictures (He.ga K "BandMap") (He.ga K "Band")) := by
  obtain ⟨fd, F⟩ := T.def_ 37 (d := d_BandMap_pictures) rfl
  refine good_of F sc_BandMap_pictures (fun _ _ _ _ _ _ us hl => match us, hl with | [_], _ => rfl) (by intro vs H Q E h; (repeat obtain ⟨_, h⟩ := h); subst_vars; rfl) fun cdv A outer s H vs Q E hr h => ?_
  have hu := hu_of hr
  refine ⟨_, (pss_one (ps_ret (pe_callTy call_dictD (by rfl) T.b_dict (by decide +kernel) (pa_cons (pe_fld (pv 0) rfl) pa_nil)))), ?_⟩
  obtain ⟨x, cs, seeds, rows, ss, pic, F, R, rfl, M, s0, ⟨dx, a, vo, sp, rp, h1, h2, h3, h4⟩, k⟩ := h
  walk_at "vc"
  refine ⟨x, _, dx, _, _, rfl, s0 _ _ h1, T.c_BandMap, T.n_BandMap_seed_pictures, rfl, ?_⟩
  walk_at "vc"
  refine ⟨sp, _, rfl, .inl (s0 _ _ h3), fun p hp => ?_⟩
  exact k p _ _ ((Stp.refl s0).lay _ hp) upd_same
def sp_BandMap_picture (C B : Addr) : Sp := fun vs H Q _ => ∃ (x : Addr) (r : Str) (cs : Cells) (seeds rows ss : List Str) (pic F : Str → Str) (R : List Str), vs = [.ref x, .str r] ∧ CellsOk cs ∧ RowOk cs r ∧ r ∈ rows ∧ r ∈ R ∧ ∃ M, Same M H ∧ MapO C B M cs seeds rows ss pic F R x ∧ Ret M H Q (.str (F r))
theorem ok_BandMap_picture (T : Tx K mg) : Good P w K mg base CX0 3 (He.fAd K (He.DefD.at_ d_BandMap_picture)) p_BandMap_picture (sp_BandMap_picture (He.ga K "BandMap") (He.ga K "Band")) := by
  obtain ⟨fd, F⟩ := T.def_ 38 (d := d_BandMap_picture) rfl
  have g_Band_check_row : Good P w K mg base CX0 2 (He.fAd K (He.DefD.at_ d_Band_check_row)) p_Band_check_row (sp_Band_check_row (He.ga K "Band")) := ok_Band_check_row T
  refine good_of F sc_BandMap_picture (fun _ _ _ _ _ _ us hl => match us, hl with | [_, _], _ => rfl) (by intro vs H Q E h; (repeat obtain ⟨_, h⟩ := h); subst_vars; rfl) fun cdv A outer s H vs Q E hr h => ?_
  have hu := hu_of hr
  refine ⟨_, (pss_cons (ps_expr (pe_goodm g_Band_check_row (hr.mono (by decide)) (pe_fld (pv 0) rfl) T.c_Band T.Band_check_row (pa_cons (pv 1) pa_nil)))  (pss_one (ps_ret (pe_dget hu (pe_fld (pv 0) rfl) (pv 1) (fun _ _ => rfl))))), ?_⟩
  obtain ⟨x, r, cs, seeds, rows, ss, pic, F, R, rfl, hc, hr, hm, hR, M, s0, ⟨dx, a, vo, sp, rp, h1, h2, h3, h4⟩, k⟩ := h
  have ib := h2
  obtain ⟨bdx, bvc, bvs, bvr, bvk, bvl, hb1, _⟩ := h2
  walk_at "vc"
  refine w_meth ?_
  walk_at "vc"
  refine ⟨x, _, dx, _, _, rfl, s0 _ _ h1, T.c_BandMap, T.n_BandMap_band, rfl, ?_⟩
  refine ⟨a, bdx, _, rfl, s0 _ _ hb1, rfl, ?_⟩
  walk_at "vc"
  refine ⟨a, r, cs, seeds, rows, rfl, hc, hr, hm, M, s0, ib, ?_⟩
  rintro v1 M1 H1 S1 rfl
  walk_at "vc"
  refine ⟨x, _, dx, _, _, rfl, S1.mh _ _ (S1.mm _ _ h1), T.c_BandMap, T.n_BandMap_row_pictures, rfl, ?_⟩
  walk_at "vc"
  refine kd_get (S1.mh _ _ (S1.mm _ _ h4)) hR ?_
  exact k _ _ _ S1 rfl
def sp_BandMap___call__ (C B : Addr) : Sp := sp_BandMap_picture C B
theorem ok_BandMap___call__ (T : Tx K mg) : Good P w K mg base CX0 4 (He.fAd K (He.DefD.at_ d_BandMap___call__)) p_BandMap___call__ (sp_BandMap___call__ (He.ga K "BandMap") (He.ga K "Band")) := by
  obtain ⟨fd, F⟩ := T.def_ 39 (d := d_BandMap___call__) rfl
  have g_BandMap_picture : Good P w K mg base CX0 3 (He.fAd K (He.DefD.at_ d_BandMap_picture)) p_BandMap_picture (sp_BandMap_picture (He.ga K "BandMap") (He.ga K "Band")) := ok_BandMap_picture T
  refine good_of F sc_BandMap___call__ (fun _ _ _ _ _ _ us hl => match us, hl with | [_, _], _ => rfl) (by intro vs H Q E h; (repeat obtain ⟨_, h⟩ := h); subst_vars; rfl) fun cdv A outer s H vs Q E hr h => ?_
  have hu := hu_of hr
  refine ⟨_, (pss_one (ps_ret (pe_goodm g_BandMap_picture (hr.mono (by decide)) (pv 0) T.c_BandMap T.BandMap_picture (pa_cons (pv 1) pa_nil)))), ?_⟩
  obtain ⟨x, r, cs, seeds, rows, ss, pic, F, R, rfl, hc, hr, hm, hR, M, s0, hx, k⟩ := h
  have hx' := hx
  obtain ⟨dx, a, vo, sp, rp, h1, _⟩ := hx
  walk_at "vc"
  refine w_meth ?_
  walk_at "vc"
  refine ⟨x, dx, _, rfl, s0 _ _ h1, rfl, ?_⟩
  walk_at "vc"
  exact ⟨x, r, cs, seeds, rows, ss, pic, F, R, rfl, hc, hr, hm, hR, M, s0, hx', k⟩
end
end Nt
namespace Nt
section
variable {P : Program} {w : World} {K : PySem.W.Frag} {mg : Str → Option Value} {base : Heap}
theorem w_yesI {σ : L2.St} {H : Hp} {Y N : Hp → Prop} (h : Y H) : tYes σ H fun b H' => if b = true then Y H' else N H' := by
  show (if true = true then Y H else N H)
  rw [if_pos rfl]
  exact h
def okP (kvs : List (L2.Key × V)) (rows' : List Str) (s : Str) : Bool := match valV kvs (Sum.inr s) with
  | some (.str x) => decide (x ∈ rows')
  | _ => false
theorem okP_iff {kvs : List (L2.Key × V)} {rows' : List Str} {s : Str} : okP kvs rows' s = true ↔ ∃ x, valV kvs (Sum.inr s) = some (.str x) ∧ x ∈ rows' := by
  unfold okP
  split
  · rename_i x e
    rw [e]
    constructor
    · intro h; exact ⟨x, rfl, of_decide_eq_true h⟩
    · rintro ⟨y, h1, h2⟩; cases h1; exact decide_eq_true h2
  · rename_i n
    constructor
    · intro h; cases h
    · rintro ⟨y, h1, h2⟩; exact absurd h1 (n y)
def sp_l_are_pictures : Sp := fun vs H Q _ => ∃ (u x v : V) (seeds rows' : List Str), vs = [u, x, v] ∧ seeds.length ≤ 100 ∧ ∃ M, Same M H ∧ Is M (dS seeds) u ∧ Is M (dS rows') x ∧ PicV seeds.length M v ∧ ∀ b : Bool, (b = true ↔ GoodP seeds rows' M v) → Ret M H Q (.bl b)
theorem ok_l_are_pictures (T : Tx K mg) : Good P w K mg base CX0 1 (He.fAd K (He.DefD.at_ d_l_are_pictures)) p_l_are_pictures sp_l_are_pictures := by
  obtain ⟨fd, F⟩ := T.def_ 46 (d := d_l_are_pictures) rfl
  refine good_of F sc_l_are_pictures (fun _ _ _ _ _ _ us hl => match us, hl with | [_, _, _], _ => rfl) (by intro vs H Q E h; (repeat obtain ⟨_, h⟩ := h); subst_vars; rfl) fun cdv A outer s H vs Q E hr h => ?_
  have hu := hu_of hr
  refine ⟨_, (pss_cons (ps_if (PW.pt (pw_or (pt_not (pt_val (pe_callB cq_isiM (by rfl) T.b_isinstance (by decide +kernel) (pa_cons (pv 2) (pa_cons (pe_ty "dict" (by rfl) T.b_dict (by decide +kernel)) pa_nil))))) (pw_or1 (pt_cmpR op_ne (pe_callB cq_lenM (by rfl) T.b_len (by decide +kernel) (pa_cons (pv 2) pa_nil)) (pe_callB cq_len (by rfl) T.b_len (by decide +kernel) (pa_cons (pv 0) pa_nil)) (nomark _)))))  (pss_one (ps_ret pe_bl))  pss_nil)  (pss_one (ps_ret (pe_callB (cq_all rfl) (by rfl) T.b_all (by decide +kernel) (pa_cons (pe_lc (own := [("_law_seed", 3)]) (by rfl) sc_l_are_pictures.nd (iq_list K (pv 0)) (blkOk_by (own := [("_law_seed", 3)]) (N := n_l_are_pictures) (sc := He.DefD.scope d_l_are_pictures) (by decide +kernel)) (fun _ _ _ _ _ => (pg_name (i := 3) sc_l_are_pictures.nd rfl (Or.inl rfl) (Or.inr rfl))) (fun _ _ _ _ _ => pts_nil) (fun _ _ _ _ _ => (pe_and (pe_cmp (pc_din hu (pv 3) (pv 2)) rfl) (pe_and (pe_callB cq_isi (by rfl) T.b_isinstance (by decide +kernel) (pa_cons (pe_dget hu (pv 2) (pv 3) (fun _ _ => rfl)) (pa_cons (pe_ty "str" (by rfl) T.b_str (by decide +kernel)) pa_nil))) (pe_one (pe_cmpR oq_in (pe_dget hu (pv 2) (pv 3) (fun _ _ => rfl)) (pv 1) (by rfl))))))) pa_nil))))), ?_⟩
  obtain ⟨u, x, v, seeds, rows', rfl, hsl, M, s0, iu, ix, iv, k⟩ := h
  obtain ⟨ua, rfl, hua⟩ := iu.strs
  obtain ⟨xa, rfl, hxa⟩ := ix.strs
  walk_at "vc"
  rcases iv with ⟨d, iv, hd⟩ | ⟨p, kvs, rfl, hp, hkl, hkv⟩ | ⟨p, m, rfl, hp, hm⟩
  · refine .inl (w_isi s0 iv (by simp) ?_)
    rw [isT_dict hd]
    walk_at "vc"
    exact k false ⟨fun h => (nomatch h), fun h => (goodP_not iv hd h).elim⟩ _ _ _ (Stp.refl s0) rfl
  · refine .inl (w_isi (d := .dct) s0 ⟨p, rfl, .inl ⟨kvs, hp⟩⟩ (by simp) ?_)
    rw [show Dat.dct.isT "dict" = true by show isTy "dict" "dict" = true; decide]
    walk_at "vc"
    refine .inl ⟨p, kvs, rfl, s0 _ _ hp, ?_⟩
    walk_at "vc"
    refine ⟨ua, _, rfl, .inl (s0 _ _ hua), ?_⟩
    walk_at "vc"
    rw [List.length_map]
    by_cases q : ((kvs.length : Nat) : Int) = ((seeds.length : Nat) : Int)
    rotate_left
    · refine ifnF q ?_
      walk_at "vc"
      refine k false ⟨fun h => (nomatch h), fun ⟨p', kvs', e, h1, h2, _⟩ => ?_⟩ _ _ _ (Stp.refl s0) rfl
      cases e
      rw [hp] at h1
      cases h1
      omega
    · refine ifnT q ?_
      walk_at "vc"
      refine ⟨ua, rfl, ⟨_, SqL.of (s0 _ _ hua)⟩, ?_⟩
      refine lc_go (ex := no) walkL s0 (fun i acc _ => acc = ((seeds.take i).map (okP kvs rows')).map V.bl) rfl (fun _ _ S => S.mh _ _ (S.mm _ _ hua)) ?_ ?_
      · rintro i y acc M1 H1 H1' D hi S1 hD m1 h1 rfl ⟨rfl, hy⟩
        obtain ⟨s, hs, rfl⟩ := map_at hy
        rw [List.length_map] at hi
        have hp1 := S1.mh _ _ (S1.mm _ _ hp)
        have fin : ∀ b, okP kvs rows' s = b → LcA no M H D (fun acc _ => acc = ((seeds.take (i + 1)).map (okP kvs rows')).map V.bl) (.bl b) H1' := fun b hb =>
          LcA.of hD S1 m1 h1 (by rw [List.length_map, List.length_map, List.length_take]; omega) (by rw [tk_snoc hs, ← hb]; simp only [List.map_append, List.map_cons, List.map_nil])
        walk_at "vc"
        refine ⟨rfl, ?_⟩
        refine w_yesI ?_
        walk_at "vc"
        refine ⟨p, _, rfl, DGet.k (k := Sum.inr s) hp1, ?_⟩
        cases hv : valV kvs (Sum.inr s) with
        | none =>
          walk_at "vc"
          exact fin false (by unfold okP; rw [hv])
        | some x1 =>
          obtain ⟨d, id⟩ := hkv _ _ hv
          have dg : ∀ {H2 : Hp}, H2 p = some (.dK kvs) → DGet H2 p (.str s) (some x1) := fun h => by have := DGet.k (k := Sum.inr s) h; rw [hv] at this; exact this
          walk_at "vc"
          refine ⟨p, x1, rfl, dg hp1, ?_⟩
          walk_at "vc"
          refine w_isi S1.mh (id.mono S1.mm) (by simp) ?_
          walk_at "vc"
          have no1 : d.isT "str" = false → (∀ z, x1 ≠ .str z) → LcA no M H D (fun acc _ => acc = ((seeds.take (i + 1)).map (okP kvs rows')).map V.bl) (.bl false) H1' := fun _ n => fin false (by
            unfold okP
            rw [hv]
            cases x1 <;> first | rfl | exact absurd rfl (n _))
          cases d with
          | str z =>
            obtain rfl : x1 = .str z := id
            rw [if_pos (by show isTy "str" "str" = true; decide)]
            walk_at "vc"
            refine ⟨p, .str z, rfl, dg hp1, ?_⟩
            walk_at "vc"
            refine w_inS (.inl (S1.mh _ _ (S1.mm _ _ hxa))) ?_
            exact fin _ (by unfold okP; rw [hv])
          | non => rw [if_neg (by show ¬ isTy "NoneType" "str" = true; decide)]; exact no1 (by show isTy "NoneType" "str" = false; decide) fun z e => by subst e; cases id
          | bl b => rw [if_neg (by show ¬ isTy "bool" "str" = true; decide)]; exact no1 (by show isTy "bool" "str" = false; decide) fun z e => by subst e; cases id
          | int b => rw [if_neg (by show ¬ isTy "int" "str" = true; decide)]; exact no1 (by show isTy "int" "str" = false; decide) fun z e => by subst e; cases id
          | lst ds => rw [if_neg (by show ¬ isTy "list" "str" = true; decide)]; exact no1 (by show isTy "list" "str" = false; decide) fun z e => by subst e; obtain ⟨_, _, e, _⟩ := id; cases e
          | tup ds => rw [if_neg (by show ¬ isTy "tuple" "str" = true; decide)]; exact no1 (by show isTy "tuple" "str" = false; decide) fun z e => by subst e; obtain ⟨_, _, e, _⟩ := id; cases e
          | dct => rw [if_neg (by show ¬ isTy "dict" "str" = true; decide)]; exact no1 (by show isTy "dict" "str" = false; decide) fun z e => by subst e; obtain ⟨_, e, _⟩ := id; cases e
      · rintro D acc M1 H1 hD S1 m1 h1 rfl
        rw [List.length_map, List.take_length] at h1
        walk_at "vc"
        refine ⟨D, _, rfl, h1, ?_⟩
        refine k _ ?_ _ _ _ S1 rfl
        rw [List.all_eq_true]
        constructor
        · intro h
          refine ⟨p, kvs, rfl, hp, by omega, fun s hs => okP_iff.mp (h _ (List.mem_map.mpr ⟨s, hs, rfl⟩))⟩
        · rintro ⟨p', kvs', e, h1, h2, h3⟩ b hb
          cases e
          rw [hp] at h1
          cases h1
          obtain ⟨s, hs, rfl⟩ := List.mem_map.mp hb
          exact okP_iff.mpr (h3 s hs)
  · refine .inr ⟨p, m, "dict", true, rfl, s0 _ _ hp, by decide, ?_⟩
    walk_at "vc"
    refine .inr ⟨p, m, rfl, s0 _ _ hp, ?_⟩
    walk_at "vc"
    refine ⟨ua, _, rfl, .inl (s0 _ _ hua), ?_⟩
    walk_at "vc"
    rw [List.length_map]
    refine ifnF (by omega) ?_
    walk_at "vc"
    refine k false ⟨fun h => (nomatch h), fun ⟨p', kvs', e, h1, _⟩ => ?_⟩ _ _ _ (Stp.refl s0) rfl
    cases e
    rw [hp] at h1
    cases h1
end
end Nt
namespace Nt
section
variable {P : Program} {w : World} {K : PySem.W.Frag} {mg : Str → Option Value} {base : Heap}
theorem pm1 {v1 : V} : putF "band" v1 ([] : List (Str × V)) = ([("band", v1)] : List (Str × V)) := by rfl
theorem pm2 {v1 v2 : V} : putF "other" v2 ([("band", v1)] : List (Str × V)) = ([("band", v1), ("other", v2)] : List (Str × V)) := by rfl
theorem pm3 {v1 v2 v3 : V} : putF "seed_pictures" v3 ([("band", v1), ("other", v2)] : List (Str × V)) = ([("band", v1), ("other", v2), ("seed_pictures", v3)] : List (Str × V)) := by rfl
theorem pm4 {v1 v2 v3 v4 : V} : putF "row_pictures" v4 ([("band", v1), ("other", v2), ("seed_pictures", v3)] : List (Str × V)) = mapF v1 v2 v3 v4 := by rfl
theorem w_mkO {C : Addr} {sp : Sp} {σ : L2.St} {H : Hp} {E : XK} {t : TA} (k : t σ H fun vs H1 => vs.length ≤ 1000 ∧ ∀ a, H1 a = none → sp (.ref a :: (vs ++ [])) (upd H1 a (exo a C none)) (fun v H2 => v = .non ∧ ∃ (d : Addr) (fs : List (Str × V)), H2 a = some (exo a C (some d)) ∧ H2 d = some (exd d fs) ∧ H1 d = none ∧
  E (.ref C) (some d) (upd (del H2 a) d (.xd fs))) (fun _ _ _ => False)) : tMkO C sp [] t σ H E := k
theorem raise2 {C : Addr} {u v : V} {H1 : Hp} {E : XK} (k : ∀ dx, H1 dx = none → E (.ref C) (some dx) (upd H1 dx (.xd [("code", .str "NotMap"), ("other", v), ("one", u)]))) : [u, v].length ≤ 1000 ∧ ∀ a, H1 a = none → sp_NotMap___init__ C (.ref a :: ([u, v] ++ [])) (upd H1 a (exo a C none)) (fun v H2 => v = .non ∧ ∃ (d : Addr) (fs : List (Str × V)), H2 a = some (exo a C (some d)) ∧ H2 d = some (exd d fs) ∧ H1 d = none ∧
    E (.ref C) (some d) (upd (del H2 a) d (.xd fs))) (fun _ _ _ => False) := by
  refine ⟨Nat.le_of_ble_eq_true rfl, fun a ha => ⟨a, u, v, rfl, upd_same, fun dx h1 h2 => ⟨rfl, dx, [("code", .str "NotMap"), ("other", v), ("one", u)], ?_, upd_same, ?_, ?_⟩⟩⟩
  · rw [upd_ne (fun z => h2 z.symm)]; exact upd_same
  · rw [upd_ne h2] at h1; exact h1
  · have h1' : H1 dx = none := by rw [upd_ne h2] at h1; exact h1
    have e : upd (del (upd (upd (upd H1 a (exo a C none)) a (exo a C (some dx))) dx (exd dx [("code", .str "NotMap"), ("other", v), ("one", u)])) a) dx (.xd [("code", .str "NotMap"), ("other", v), ("one", u)]) = upd H1 dx (.xd [("code", .str "NotMap"), ("other", v), ("one", u)]) := by
      funext b
      by_cases q : b = dx
      · rw [q, upd_same, upd_same]
      · rw [upd_ne q, upd_ne q]
        by_cases q2 : b = a
        · rw [q2, del_same, ha]
        · rw [del_ne q2, upd_ne q, upd_ne q2, upd_ne q2]
    rw [e]
    exact k dx h1'
/-- a map whose dicts are new -/
def MapN (C : Addr) (H0 M : Hp) (a : Addr) (ss : List Str) (pic F : Str → Str) (R : List Str) (x : Addr) : Prop := ∃ dx vo sp rp, M x = some (.ins C dx (mapF (.ref a) vo (.ref sp) (.ref rp))) ∧ M sp = some (.dK (kd (fun s => .str (pic s)) ss)) ∧ M rp = some (.dK (kd (fun r => .str (F r)) R)) ∧ H0 sp = none ∧ H0 rp = none
theorem MapN.o {C B : Addr} {H0 M : Hp} {cs : Cells} {seeds rows ss : List Str} {pic F : Str → Str} {R : List Str} {a x : Addr} (h : MapN C H0 M a ss pic F R x) (ib : BandO B M cs seeds rows a) : MapO C B M cs seeds rows ss pic F R x := by
  obtain ⟨dx, vo, sp, rp, h1, h3, h4, _⟩ := h
  exact ⟨dx, a, vo, sp, rp, h1, ib, h3, h4⟩
def sp_BandMap___init__ (C C' CN CM : Addr) : Sp := fun vs H Q E => ∃ (x dx a o : Addr) (v : V) (cs cs' : Cells) (seeds rows seeds' rows' : List Str) (H0 M : Hp), vs = [.ref x, .ref a, .ref o, v] ∧ H = upd (upd H0 dx (.own x)) x (.ins CM dx []) ∧ H0 x = none ∧ H0 dx = none ∧ dx ≠ x ∧
  MpF cs cs' seeds rows seeds' rows' ∧ seeds.Nodup ∧ seeds.length < 64 ∧ Same M H0 ∧ BandO C M cs seeds rows a ∧ BandO C M cs' seeds' rows' o ∧ PicV seeds.length M v ∧
  (∀ p kvs pic, PicG seeds rows' M v p kvs pic → ∃ F W, MapF seeds pic (blk cs.length) (blk cs'.length) F W ∧
    (Hom seeds pic (itB seeds (blk cs.length) 41) F → ∀ ss M' H', ss.Perm seeds → sortedS ss = true → Stp no M H0 M' H' → MapN CM H0 M' a ss pic F (itB seeds (blk cs.length) 41) x → Q .non H') ∧
    (¬ Hom seeds pic (itB seeds (blk cs.length) 41) F → ∀ w1 w2, Two seeds pic (blk cs.length) (blk cs'.length) F W w1 w2 → ∀ M' H' D u1 u2, Stp no M H0 M' H' → H' D = none → Is M' (dS w1) u1 → Is M' (dS w2) u2 →
      E (.ref CN) (some D) (upd H' D (.xd [("code", .str "NotMap"), ("other", u2), ("one", u1)])))) ∧
  (¬ GoodP seeds rows' M v → ∀ M' H' D, Stp no M H0 M' H' → H' D = none → E (.ref C') (some D) (upd H' D (.xd [("code", .str "BadPictures")])))
theorem ok_BandMap___init__ (T : Tx K mg) : Good P w K mg base (L2.CX P w) 6 (He.fAd K (He.DefD.at_ d_BandMap___init__)) p_BandMap___init__ (sp_BandMap___init__ (He.ga K "Band") (He.ga K "BadPictures") (He.ga K "NotMap") (He.ga K "BandMap")) := by
  obtain ⟨fd, F⟩ := T.def_ 36 (d := d_BandMap___init__) rfl
  have g_Band_seeds : Good P w K mg base CX0 1 (He.fAd K (He.DefD.at_ d_Band_seeds)) p_Band_seeds (sp_Band_seeds (He.ga K "Band")) := ok_Band_seeds T
  have g_walked : Good P w K mg base CX0 3 (He.fAd K (He.DefD.at_ d_walked)) p_walked (sp_walked (He.ga K "Band")) := ok_walked T
  have g_check_pictures : Good P w K mg base (L2.CX P w) 5 (He.fAd K (He.DefD.at_ d_check_pictures)) p_check_pictures (sp_check_pictures (He.ga K "Band") (He.ga K "BadPictures")) := ok_check_pictures T
  obtain ⟨⟨fd_NotMap, F_NotMap, B_NotMap⟩, _⟩ : Good P w K mg base CX0 2 (He.fAd K (He.DefD.at_ d_NotMap___init__)) p_NotMap___init__ (sp_NotMap___init__ (He.ga K "NotMap")) := ok_NotMap___init__ T
  have x_NotMap := T.exc "NotMap" (by decide)
  refine good_ofX F sc_BandMap___init__ (fun _ _ _ _ _ _ us hl => match us, hl with | [_, _, _, _], _ => rfl) (by intro vs H Q E h; (repeat obtain ⟨_, h⟩ := h); subst_vars; rfl) fun cdv A outer s H vs Q E hr h => ?_
  have hu := hu_of hr
  refine ⟨_, (pss_cons (ps_expr (pe_goodP (E := E) g_check_pictures (hr.mono (by decide)) rfl T.m_check_pictures (passes_call (takes_of rfl rfl rfl rfl) (fun _ _ _ _ h => h)) (pa_cons (pv 1) (pa_cons (pv 2) (pa_cons (pv 3) pa_nil)))))  (pss_cons (ps_asg (pe_good g_walked (hr.mono (by decide)) rfl T.m_walked (pa_cons (pv 1) (pa_cons (pv 2) (pa_cons (pv 3) pa_nil)))) (gq_tup K (n := 2) rfl (pgs_cons (pg_name (i := 4) sc_BandMap___init__.nd rfl (Or.inl rfl) (Or.inl rfl)) (pgs_cons (pg_name (i := 5) sc_BandMap___init__.nd rfl (Or.inl rfl) (Or.inl rfl)) pgs_nil))))  (pss_cons (ps_if (pt_cmpR op_notN (pv 5) pe_non (nomark _))  (pss_one (ps_raise rfl (takes_of rfl rfl rfl rfl) (pmk_oex x_NotMap.oc x_NotMap.ic x_NotMap.ti F_NotMap (hr.mono (by decide)) B_NotMap .nil pass0 (by rfl) T.m_NotMap (pa_cons (pe_ix xq_tup (pv 5) pe_int (fun _ _ => rfl)) (pa_cons (pe_ix xq_tup (pv 5) pe_int (fun _ _ => rfl)) pa_nil)))))  pss_nil)  (pss_cons (ps_fld (pv 0) (pv 1) rfl)  (pss_cons (ps_fld (pv 0) (pv 2) rfl)  (pss_cons (ps_fld (pv 0) (pe_dc (own := [("seed", 6)]) (by rfl) sc_BandMap___init__.nd (iq_list K (pe_callB cr_sortedS (by rfl) T.b_sorted (by decide +kernel) (pa_cons (pe_goodm0 g_Band_seeds (hr.mono (by decide)) (pv 1) T.c_Band T.Band_seeds) pa_nil))) (blkOk_by (own := [("seed", 6)]) (N := n_BandMap___init__) (sc := He.DefD.scope d_BandMap___init__) (by decide +kernel)) (fun _ _ _ _ _ => (pg_name (i := 6) sc_BandMap___init__.nd rfl (Or.inl rfl) (Or.inr rfl))) (fun _ _ _ _ _ => pts_nil) (fun _ _ _ _ _ => (pv 6)) (fun _ _ _ _ _ => (pe_dget hu (pv 3) (pv 6) (fun _ _ => rfl)))) rfl)  (pss_one (ps_fld (pv 0) (pv 4) rfl)))))))), ?_⟩
  obtain ⟨x, dx, a, o, v, cs, cs', seeds, rows, seeds', rows', H0, M, rfl, rfl, hx, hdx, hne, B, hnd, h64, s0, ib, io, iv, kY, kN⟩ := h
  have S1 := ((Stp.refl (ex := no) s0).new (.own x) hdx).new (.ins (He.ga K "BandMap") dx []) (p := x) (by rw [upd_ne (Ne.symm hne)]; exact hx)
  have hx1 : upd (upd H0 dx (.own x)) x (.ins (He.ga K "BandMap") dx []) x = some (.ins (He.ga K "BandMap") dx []) := upd_same
  have mx1 : M x = none := none_of_same s0 hx
  generalize upd (upd H0 dx (.own x)) x (.ins (He.ga K "BandMap") dx []) = H1 at S1 hx1 ⊢
  walk_at "vc"
  refine ⟨a, o, v, cs, cs', seeds, rows, seeds', rows', rfl, B.sl, M, S1.mh, ib, io, iv, fun hg => ?_, fun hn M' H' dx' S hdx' => kN hn M' H' dx' (S1.trans S) hdx'⟩
  rintro v2 M2 H2 S2 rfl
  obtain ⟨p, kvs, pic, G⟩ := hg.pics
  obtain ⟨F, W, hm, k1, k2⟩ := kY p kvs pic G
  obtain rfl := G.e
  obtain ⟨mx2, hx2⟩ := S2.keep mx1 hx1
  have S2' := S1.trans S2
  walk_at "vc"
  refine ⟨a, o, p, cs, cs', seeds, rows, seeds', rows', kvs, pic, F, W, rfl, B.c, B.c', B.sl, B.sn, fun s hs => ⟨(G.g s hs).1, B.rl _ (G.g s hs).2⟩, B.le, hm, M2, S2.mh, ib.mono S2.mm, io.mono S2.mm, S2.mm _ _ G.h, fun hh Tu D M' H' S hD0 hT hD => ?_, fun hh Tu D T2 w1 w2 M' H' S hT i2 tw => ?_⟩
  · obtain ⟨mx3, hx3⟩ := S.keep mx2 hx2
    have S3 := S2'.trans S
    have ib3 := ib.mono S3.mm
    have ib4 := ib3
    obtain ⟨bdx, bvc, bvs, bvr, bvk, bvl, hb1, _⟩ := ib4
    have hp3 := S3.mm _ _ G.h
    have hDn := S2'.hfree hD0
    clear S1 S2 S2' mx1 mx2 hx1 hx2
    walk_at "vc"
    refine g_pair (S.mh _ _ hT) ?_
    dsimp only
    walk_at "vc"
    refine ⟨rfl, ?_⟩
    walk_at "vc"
    refine ⟨x, _, dx, _, rfl, hx3, T.c_BandMap, T.n_BandMap_band, by decide, ?_⟩
    rw [pm1]
    have S4 := S3.put (.ins (He.ga K "BandMap") dx [("band", .ref a)]) mx3 (.inl hx)
    have hx4 : upd H' x (.ins (He.ga K "BandMap") dx [("band", .ref a)]) x = some (.ins (He.ga K "BandMap") dx [("band", .ref a)]) := upd_same
    generalize upd H' x (.ins (He.ga K "BandMap") dx [("band", .ref a)]) = H4 at S4 hx4 ⊢
    walk_at "vc"
    refine ⟨x, _, dx, _, rfl, hx4, T.c_BandMap, T.n_BandMap_other, Nat.le_of_ble_eq_true rfl, ?_⟩
    rw [pm2]
    have S5 := S4.put (.ins (He.ga K "BandMap") dx [("band", .ref a), ("other", .ref o)]) mx3 (.inl hx)
    have hx5 : upd H4 x (.ins (He.ga K "BandMap") dx [("band", .ref a), ("other", .ref o)]) x = some (.ins (He.ga K "BandMap") dx [("band", .ref a), ("other", .ref o)]) := upd_same
    generalize upd H4 x (.ins (He.ga K "BandMap") dx [("band", .ref a), ("other", .ref o)]) = H5 at S5 hx5 ⊢
    clear S3 S4 hx3 hx4
    walk_at "vc"
    refine w_meth ?_
    walk_at "vc"
    refine ⟨a, bdx, _, rfl, S5.mh _ _ hb1, rfl, ?_⟩
    walk_at "vc"
    refine ⟨a, cs, seeds, rows, rfl, M', S5.mh, ib3, ?_⟩
    rintro v6 M6 H6 S6 i6
    obtain ⟨sa, rfl, hsa⟩ := i6.strs
    obtain ⟨mx6, hx6⟩ := S6.keep mx3 hx5
    have S6' := S5.trans S6
    walk_at "vc"
    refine ⟨sa, seeds, rfl, SqL.of (S6.mh _ _ hsa), h64, fun ss sp hpm hsd hsp => ?_⟩
    have S7 := S6'.lay (.lst (ss.map V.str)) hsp
    have s7 : Same M6 (upd M6 sp (.lst (ss.map V.str))) := same_upd (S6.mfree hsp)
    have hsp7 : upd M6 sp (.lst (ss.map V.str)) sp = some (.lst (ss.map V.str)) := upd_same
    have hx7 : upd H6 sp (.lst (ss.map V.str)) x = some (.ins (He.ga K "BandMap") dx [("band", .ref a), ("other", .ref o)]) := upd_old hx6 hsp
    have mx7 : upd M6 sp (.lst (ss.map V.str)) x = none := by rw [upd_ne (fun z => by rw [← z, hx6] at hsp; cases hsp)]; exact mx6
    have hp7 := s7 _ _ (S6.mm _ _ hp3)
    have hD7 := s7 _ _ (S6.mm _ _ hD)
    have ib7 := (ib3.mono S6.mm).mono s7
    generalize upd M6 sp (.lst (ss.map V.str)) = M7 at S7 hsp7 mx7 hp7 hD7 ib7
    generalize upd H6 sp (.lst (ss.map V.str)) = H7 at S7 hx7 ⊢
    clear S6 S6' mx6 hx6 S5 hx5 i6 hsa s7 hsp
    have nd : ss.Nodup := hpm.nodup_iff.mpr hnd
    have hssl : ss.length ≤ 100 := by rw [hpm.length_eq]; exact B.sl
    dsimp only
    refine ⟨sp, rfl, ⟨_, SqL.of (S7.mh _ _ hsp7)⟩, ?_⟩
    refine dc_go (ex := no) walkL S7.mh (fun i acc _ => acc = kd (fun s => .str (pic s)) (ss.take i)) rfl (fun _ _ S => S.mh _ _ (S.mm _ _ hsp7)) ?_ ?_
    · rintro i y acc M8 H8 H8' D8 hi S8 hD8 m8 h8 rfl ⟨rfl, hy⟩
      obtain ⟨s, hs, rfl⟩ := map_at hy
      have hsm : s ∈ seeds := hpm.mem_iff.mp (mem_of_get hs)
      walk_at "vc"
      refine ⟨rfl, ?_⟩
      refine w_yesI ?_
      walk_at "vc"
      refine ⟨p, .str (pic s), rfl, by have := DGet.k (k := Sum.inr s) (S8.mh _ _ (S8.mm _ _ hp7)); rw [(G.g s hsm).1] at this; exact this, ?_⟩
      refine ⟨_, .inr s, rfl, h8, line_lt (by rw [kd_len, List.length_take]; omega), M8, _, S8.put _ m8 (.inl hD8), m8, upd_same, ?_⟩
      rw [kd_put (fun s => .str (pic s)) s _ (nodup_at nd hs), tk_snoc hs]
    · rintro D8 acc M8 H8 hD8 S8 m8 h8 rfl
      have hD8n := S7.hfree hD8
      rw [List.length_map, tk_all] at h8
      obtain ⟨mx8, hx8⟩ := S8.keep mx7 hx7
      have S8' := (S7.trans S8).fix h8 (S7.hfree hD8)
      have hne8 : x ≠ D8 := fun z => by rw [← z, hx7] at hD8; cases hD8
      have hx9 : upd M8 D8 (.dK (kd (fun s => .str (pic s)) ss)) x = none := by rw [upd_ne hne8]; exact mx8
      have hD9 : upd M8 D8 (.dK (kd (fun s => .str (pic s)) ss)) D8 = some (.dK (kd (fun s => .str (pic s)) ss)) := upd_same
      have s9 : Same M7 (upd M8 D8 (.dK (kd (fun s => .str (pic s)) ss))) := S8.mm.trans (same_upd m8)
      generalize upd M8 D8 (.dK (kd (fun s => .str (pic s)) ss)) = M9 at S8' hx9 hD9 s9
      walk_at "vc"
      refine ⟨x, _, dx, _, rfl, hx8, T.c_BandMap, T.n_BandMap_seed_pictures, Nat.le_of_ble_eq_true rfl, ?_⟩
      rw [pm3]
      have S9 := S8'.put (.ins (He.ga K "BandMap") dx [("band", .ref a), ("other", .ref o), ("seed_pictures", .ref D8)]) hx9 (.inl hx)
      have hx10 : upd H8 x (.ins (He.ga K "BandMap") dx [("band", .ref a), ("other", .ref o), ("seed_pictures", .ref D8)]) x = some (.ins (He.ga K "BandMap") dx [("band", .ref a), ("other", .ref o), ("seed_pictures", .ref D8)]) := upd_same
      generalize upd H8 x (.ins (He.ga K "BandMap") dx [("band", .ref a), ("other", .ref o), ("seed_pictures", .ref D8)]) = H9 at S9 hx10 ⊢
      walk_at "vc"
      refine ⟨x, _, dx, _, rfl, hx10, T.c_BandMap, T.n_BandMap_row_pictures, Nat.le_of_ble_eq_true rfl, ?_⟩
      rw [pm4]
      have S10 := S9.put (.ins (He.ga K "BandMap") dx (mapF (.ref a) (.ref o) (.ref D8) (.ref D))) hx9 (.inl hx)
      have S11 := S10.fix (p := x) upd_same hx
      have s11 : Same M9 (upd M9 x (.ins (He.ga K "BandMap") dx (mapF (.ref a) (.ref o) (.ref D8) (.ref D)))) := same_upd hx9
      exact k1 hh ss _ _ hpm hsd S11 ⟨dx, .ref o, D8, D, upd_same, s11 _ _ hD9, s11 _ _ (s9 _ _ hD7), hD8n, hDn⟩
  · have S3 := S2'.trans S
    walk_at "vc"
    refine g_pair (S.mh _ _ hT) ?_
    dsimp only
    walk_at "vc"
    refine ⟨rfl, ?_⟩
    walk_at "vc"
    refine w_mkO ?_
    obtain ⟨T2', e1, e2, q1, q2, j1, j2⟩ := i2.un2
    cases q1
    walk_at "vc"
    refine w_ixt (j := ((0 : Nat) : Int)) (S.mh _ _ q2) (atI_nat rfl) ?_
    walk_at "vc"
    refine w_ixt (j := ((1 : Nat) : Int)) (S.mh _ _ q2) (atI_nat rfl) ?_
    exact raise2 fun D' hD' => k2 hh w1 w2 tw _ _ D' _ _ S3 hD' j1 j2
end
end Nt
namespace Nt
section
variable {P : Program} {w : World} {K : PySem.W.Frag} {mg : Str → Option Value} {base : Heap}
def sp_l_told (C : Addr) : Sp := fun vs H Q _ => ∃ (wy : Nat) (a o : Addr) (v : V) (cs cs' : Cells) (seeds rows seeds' rows' : List Str), vs = [.int wy, .ref a, .ref o, v] ∧ wy ≤ 1 ∧ MpF cs cs' seeds rows seeds' rows' ∧ seeds.Nodup ∧ seeds.length < 64 ∧ ∃ M, Same M H ∧ BandO C M cs seeds rows a ∧ BandO C M cs' seeds' rows' o ∧ PicV seeds.length M v ∧
  (∀ p kvs pic, PicG seeds rows' M v p kvs pic → ∃ F W, MapF seeds pic (blk cs.length) (blk cs'.length) F W ∧
    (Hom seeds pic (itB seeds (blk cs.length) 41) F → (wy = 0 → Ret M H Q (.tup [.str "told", .non])) ∧
      (wy = 1 → ∀ ss U D M' H', ss.Perm seeds → sortedS ss = true → Stp no M H M' H' → M' U = some (.tup [.str "told", .ref D]) → M' D = some (.dK (kd (fun s => .str (pic s)) ss)) → Q (.ref U) H')) ∧
    (¬ Hom seeds pic (itB seeds (blk cs.length) 41) F → ∀ w1 w2, Two seeds pic (blk cs.length) (blk cs'.length) F W w1 w2 → Ret M H Q (.tup [.str (if wy = 0 then "told" else "NotMap"), .tup [dS w1, dS w2]]))) ∧
  (¬ GoodP seeds rows' M v → Ret M H Q (.tup [.str "BadPictures", .str "BadPictures"]))
theorem ok_l_told (T : Tx K mg) : Good P w K mg base CX0 8 (He.fAd K (He.DefD.at_ d_l_told)) p_l_told (sp_l_told (He.ga K "Band")) := by
  obtain ⟨fd, F⟩ := T.def_ 45 (d := d_l_told) rfl
  have g_BandMap_pictures : Good P w K mg base CX0 1 (He.fAd K (He.DefD.at_ d_BandMap_pictures)) p_BandMap_pictures (sp_BandMap_pictures (He.ga K "BandMap") (He.ga K "Band")) := ok_BandMap_pictures T
  have g_BandMap___init__ : Good P w K mg base (L2.CX P w) 6 (He.fAd K (He.DefD.at_ d_BandMap___init__)) p_BandMap___init__ (sp_BandMap___init__ (He.ga K "Band") (He.ga K "BadPictures") (He.ga K "NotMap") (He.ga K "BandMap")) := ok_BandMap___init__ T
  have g_map_break : Good P w K mg base (L2.CX P w) 6 (He.fAd K (He.DefD.at_ d_map_break)) p_map_break (sp_map_break (He.ga K "Band") (He.ga K "BadPictures")) := ok_map_break T
  have x_BadPictures := T.exc "BadPictures" (by decide)
  have x_NotMap := T.exc "NotMap" (by decide)
  refine good_of F sc_l_told (fun _ _ _ _ _ _ us hl => match us, hl with | [_, _, _, _], _ => rfl) (by intro vs H Q E h; (repeat obtain ⟨_, h⟩ := h); subst_vars; rfl) fun cdv A outer s H vs Q E hr h => ?_
  have hu := hu_of hr
  refine ⟨_, (pss_one (ps_try_mas (tb := (fun W => tSeq (tIfS (tTest (tOp rEq (tVar 0) (tC (.int 0)))) (tRet (tTup (tCons (tC (.str "told")) (tCons (tCallS (sp_map_break (He.ga K "Band") (He.ga K "BadPictures")) (WE W) (tCons (tVar 1) (tCons (tVar 2) (tCons (tVar 3) tNil)))) tNil)))) tNext) (tSeq (tAsg (tMakeS (He.ga K "BandMap") (sp_BandMap___init__ (He.ga K "Band") (He.ga K "BadPictures") (He.ga K "NotMap") (He.ga K "BandMap")) (WE W) (tCons (tVar 1) (tCons (tVar 2) (tCons (tVar 3) tNil)))) (gName 5)) (tRet (tTup (tCons (tC (.str "told")) (tCons (tMeth (He.ga K "BandMap") "pictures" (sp_BandMap_pictures (He.ga K "BandMap") (He.ga K "Band")) [] E0 (tVar 5) tNil) tNil))))))) (l := [(.ref (He.ga K "BadPictures"), 4, (fun a cls d => tRet (tTup (tCons (tC (.str "BadPictures")) (tCons (tXf a cls d (He.ga K "BadPictures") "code" (tVar 4)) tNil))))), (.ref (He.ga K "NotMap"), 4, (fun a cls d => tRet (tTup (tCons (tC (.str "NotMap")) (tCons (tTup (tCons (tXf a cls d (He.ga K "NotMap") "one" (tVar 4)) (tCons (tXf a cls d (He.ga K "NotMap") "other" (tVar 4)) tNil))) tNil)))))]) (Wout := fun _ _ _ _ => False) rfl rfl sc_l_told.nd takes0 (fun W pn xe tk _ => (pss_cons (ps_if (pt_cmpR op_eq (pv 0) pe_int (nomark _)) (pss_one (ps_ret (pe_tup (pa_cons pe_str (pa_cons (pe_goodS g_map_break (hr.mono (by decide)) rfl T.m_map_break (fun σ => passAt tk σ) (pa_cons (pv 1) (pa_cons (pv 2) (pa_cons (pv 3) pa_nil)))) pa_nil))))) pss_nil) (pss_cons (ps_set (i := 5) sc_l_told.nd rfl (Or.inl rfl) (pe_makeS T.mk_BandMap g_BandMap___init__ (hr.mono (by decide)) rfl T.m_BandMap (fun σ => passAt tk σ) (pa_cons (pv 1) (pa_cons (pv 2) (pa_cons (pv 3) pa_nil))))) (pss_one (ps_ret (pe_tup (pa_cons pe_str (pa_cons (pe_goodm0 g_BandMap_pictures (hr.mono (by decide)) (pv 5) T.c_BandMap T.BandMap_pictures) pa_nil)))))))) (.cons (i := 4) rfl rfl ⟨rfl, by decide, Or.inl T.m_BadPictures⟩ (fun a oe cls d pn hz hf => pss_one (ps_ret (pe_tup (pa_cons pe_str (pa_cons (pe_xf x_BadPictures.xf T.n_BadPictures_code hz hf (pv 4)) pa_nil))))) (.cons (i := 4) rfl rfl ⟨rfl, by decide, Or.inl T.m_NotMap⟩ (fun a oe cls d pn hz hf => pss_one (ps_ret (pe_tup (pa_cons pe_str (pa_cons (pe_tup (pa_cons (pe_xf x_NotMap.xf T.n_NotMap_one hz hf (pv 4)) (pa_cons (pe_xf x_NotMap.xf T.n_NotMap_other hz hf (pv 4)) pa_nil))) pa_nil))))) .nil)))), ?_⟩
  obtain ⟨wy, a, o, v, cs, cs', seeds, rows, seeds', rows', rfl, hwy, B, hnd, h64, M, s0, ib, io, iv, kY, kN⟩ := h
  have bad : ∀ M1 H1 dx, ¬ GoodP seeds rows' M v → Stp no M H M1 H1 → H1 dx = none → ∀ p, upd H1 dx (.xd [("code", .str "BadPictures")]) p = none → Q (.ref p) (upd (upd H1 dx (.xd [("code", .str "BadPictures")])) p (.tup [.str "BadPictures", .str "BadPictures"])) := fun M1 H1 dx hn S1 hdx p hp =>
    kN hn _ _ _ ((S1.new (.xd [("code", .str "BadPictures")]) hdx).lay (.tup [.str "BadPictures", .str "BadPictures"]) hp) (Is.tup2 upd_same rfl rfl)
  walk_at "vc"
  refine ifd (fun q => ?_) (fun q => ?_)
  · obtain rfl : wy = 0 := by omega
    walk_at "vc"
    refine w_callS ?_
    walk_at "vc"
    refine ⟨a, o, v, cs, cs', seeds, rows, seeds', rows', rfl, B, M, s0, ib, io, iv, fun p kvs pic G => ?_, fun hn M1 H1 dx S1 hdx => ?_⟩
    · obtain ⟨F, W, hm, k1, k2⟩ := kY p kvs pic G
      refine ⟨F, W, hm, fun hh => ?_, fun hh w1 w2 tw => ?_⟩
      · rintro v1 M1 H1 S1 rfl
        walk_at "vc"
        intro p hp
        exact (k1 hh).1 rfl _ _ _ (S1.lay (.tup [.str "told", .non]) hp) (Is.tup2 upd_same rfl rfl)
      · rintro v1 M1 H1 S1 i1
        walk_at "vc"
        intro p hp
        exact k2 hh w1 w2 tw _ _ _ (S1.lay (.tup [.str "told", v1]) hp) (Is.tup2 upd_same rfl (i1.mono (same_upd (S1.mfree hp))))
    · refine ⟨true, T.x_BadPictures, ?_⟩
      rw [if_pos rfl]
      intro b hb
      walk_at "vc"
      refine w_xf ?_
      walk_at "vc"
      refine ⟨rfl, rfl, dx, _, _, rfl, upd_same, rfl, ?_⟩
      walk_at "vc"
      exact bad _ _ dx hn S1 hdx
  · obtain rfl : wy = 1 := by omega
    walk_at "vc"
    refine w_makeS ?_
    walk_at "vc"
    intro x dx hx hdx hne
    refine ⟨x, dx, a, o, v, cs, cs', seeds, rows, seeds', rows', H, M, rfl, rfl, hx, hdx, hne, B, hnd, h64, s0, ib, io, iv, fun p kvs pic G => ?_, fun hn M1 H1 dx S1 hdx => ?_⟩
    · obtain ⟨F, W, hm, k1, k2⟩ := kY p kvs pic G
      refine ⟨F, W, hm, fun hh ss M1 H1 hpm hsd S1 hx1 => ?_, fun hh w1 w2 tw M1 H1 D u1 u2 S1 hD i1 i2 => ?_⟩
      · replace hx1 := hx1.o (ib.mono S1.mm)
        refine ⟨rfl, ?_⟩
        walk_at "vc"
        refine w_meth ?_
        walk_at "vc"
        obtain ⟨dx1, a1, vo, sp, rp, g1, g2⟩ := id hx1
        refine ⟨x, dx1, _, rfl, S1.mh _ _ g1, rfl, ?_⟩
        walk_at "vc"
        refine ⟨x, cs, seeds, rows, ss, pic, F, _, rfl, M1, S1.mh, hx1, fun D M2 H2 S2 hD => ?_⟩
        walk_at "vc"
        intro p hp
        have S3 := (S1.trans S2).lay (.tup [.str "told", .ref D]) hp
        exact (k1 hh).2 rfl ss p D _ _ hpm hsd S3 upd_same (same_upd (S2.mfree hp) _ _ hD)
      · refine ⟨false, T.y_NotMap_BadPictures, ?_⟩
        rw [if_neg Bool.false_ne_true]
        refine ⟨true, T.x_NotMap, ?_⟩
        rw [if_pos rfl]
        intro b hb
        walk_at "vc"
        refine w_xf ?_
        walk_at "vc"
        refine ⟨rfl, rfl, D, _, _, rfl, upd_same, rfl, ?_⟩
        walk_at "vc"
        refine w_xf ?_
        walk_at "vc"
        refine ⟨rfl, rfl, D, _, _, rfl, upd_same, rfl, ?_⟩
        walk_at "vc"
        intro p1 hp1
        have S2 := (S1.new (.xd [("code", .str "NotMap"), ("other", u2), ("one", u1)]) hD).lay (.tup [u1, u2]) hp1
        have s2 : Same M1 (upd M1 p1 (.tup [u1, u2])) := same_upd ((S1.new (.xd [("code", .str "NotMap"), ("other", u2), ("one", u1)]) hD).mfree hp1)
        have i3 : Is (upd M1 p1 (.tup [u1, u2])) (.tup [dS w1, dS w2]) (.ref p1) := Is.tup2 upd_same (i1.mono s2) (i2.mono s2)
        generalize upd M1 p1 (.tup [u1, u2]) = M2 at S2 i3
        generalize upd (upd H1 D (.xd [("code", .str "NotMap"), ("other", u2), ("one", u1)])) p1 (.tup [u1, u2]) = H2 at S2 ⊢
        walk_at "vc"
        intro p hp
        exact k2 hh w1 w2 tw _ _ _ (S2.lay (.tup [.str "NotMap", .ref p1]) hp) (Is.tup2 upd_same rfl (i3.mono (same_upd (S2.mfree hp))))
    · refine ⟨true, T.x_BadPictures, ?_⟩
      rw [if_pos rfl]
      intro b hb
      walk_at "vc"
      refine w_xf ?_
      walk_at "vc"
      refine ⟨rfl, rfl, dx, _, _, rfl, upd_same, rfl, ?_⟩
      walk_at "vc"
      exact bad _ _ dx hn S1 hdx
end
end Nt
namespace Nt
section
variable {P : Program} {w : World} {K : PySem.W.Frag} {mg : Str → Option Value} {base : Heap}
def sp_l_pair_good : Sp := fun vs H Q _ => ∃ (u v : V) (p : Addr) (seeds : List Str) (n n' : Nat) (kvs : List (L2.Key × V)) (pic F : Str → Str) (W : Str → Option (Str × Str)) (w1 w2 : List Str), vs = [u, .ref p, .int n, .int n', v] ∧ n ≤ 1000 ∧ n' ≤ 1000 ∧ (∀ s ∈ seeds, s.length ≤ 1000 ∧ valV kvs (Sum.inr s) = some (.str (pic s)) ∧ (pic s).length ≤ 1000) ∧
  Two seeds pic (blk n) (blk n') F W w1 w2 ∧ ∃ M, Same M H ∧ Is M (dS seeds) u ∧ M p = some (.dK kvs) ∧ Is M (.tup [dS w1, dS w2]) v ∧ Ret M H Q (.bl true)
theorem ok_l_pair_good (T : Tx K mg) : Good P w K mg base CX0 3 (He.fAd K (He.DefD.at_ d_l_pair_good)) p_l_pair_good sp_l_pair_good := by
  obtain ⟨fd, F⟩ := T.def_ 48 (d := d_l_pair_good) rfl
  have g_l_laid : Good P w K mg base CX0 2 (He.fAd K (He.DefD.at_ d_l_laid)) p_l_laid sp_l_laid := ok_l_laid T
  refine good_of F sc_l_pair_good (fun _ _ _ _ _ _ us hl => match us, hl with | [_, _, _, _, _], _ => rfl) (by intro vs H Q E h; (repeat obtain ⟨_, h⟩ := h); subst_vars; rfl) fun cdv A outer s H vs Q E hr h => ?_
  have hu := hu_of hr
  refine ⟨_, (pss_cons (ps_if (PW.pt (pw_or (pt_not (pt_val (pe_callB cq_isi (by rfl) T.b_isinstance (by decide +kernel) (pa_cons (pv 4) (pa_cons (pe_ty "tuple" (by rfl) T.b_tuple (by decide +kernel)) pa_nil))))) (pw_or1 (pt_cmpR op_ne (pe_callB cq_len (by rfl) T.b_len (by decide +kernel) (pa_cons (pv 4) pa_nil)) pe_int (nomark _)))))  (pss_one (ps_ret pe_bl))  pss_nil)  (pss_cons (ps_for PassesOwn.never rfl (iq_tup K (pv 4)) (pg_name (i := 5) sc_l_pair_good.nd rfl (Or.inl rfl) (Or.inl rfl))  (pss_one (ps_if (PW.pt (pw_or (pt_not (pt_val (pe_callB cq_isi (by rfl) T.b_isinstance (by decide +kernel) (pa_cons (pv 5) (pa_cons (pe_ty "list" (by rfl) T.b_list (by decide +kernel)) pa_nil))))) (pw_or1 (pt_not (pt_val (pe_callB (cq_all rfl) (by rfl) T.b_all (by decide +kernel) (pa_cons (pe_lc (own := [("_law_seed", 6)]) (by rfl) sc_l_pair_good.nd (iq_list K (pv 5)) (blkOk_by (own := [("_law_seed", 6)]) (N := n_l_pair_good) (sc := He.DefD.scope d_l_pair_good) (by decide +kernel)) (fun _ _ _ _ _ => (pg_name (i := 6) sc_l_pair_good.nd rfl (Or.inl rfl) (Or.inr rfl))) (fun _ _ _ _ _ => pts_nil) (fun _ _ _ _ _ => (pe_and (pe_callB cq_isi (by rfl) T.b_isinstance (by decide +kernel) (pa_cons (pv 6) (pa_cons (pe_ty "str" (by rfl) T.b_str (by decide +kernel)) pa_nil))) (pe_one (pe_cmpR oq_in (pv 6) (pv 0) (by rfl)))))) pa_nil)))))))  (pss_one (ps_ret pe_bl))  pss_nil)))  (pss_cons (ps_if (pt_cmpR op_ne (pe_good g_l_laid (hr.mono (by decide)) rfl T.m_l_laid (pa_cons (pe_ix xq_tup (pv 4) pe_int (fun _ _ => rfl)) (pa_cons (pv 2) pa_nil))) (pe_good g_l_laid (hr.mono (by decide)) rfl T.m_l_laid (pa_cons (pe_ix xq_tup (pv 4) pe_int (fun _ _ => rfl)) (pa_cons (pv 2) pa_nil))) (nomark _))  (pss_one (ps_ret pe_bl))  pss_nil)  (pss_cons (ps_setLc (i := 7) (own := [("_law_one", 5)]) (by rfl) sc_l_pair_good.nd rfl rfl (sw_true rfl rfl rfl (by decide +kernel)) (iq_tup K (pv 4)) (blkOk_by (own := [("_law_one", 5)]) (N := n_l_pair_good) (sc := He.DefD.scope d_l_pair_good) (by decide +kernel)) (fun _ _ _ _ _ => (pg_name (i := 5) sc_l_pair_good.nd rfl (Or.inl rfl) (Or.inr rfl))) (fun _ _ _ _ _ => pts_nil) (fun _ _ _ _ _ => (pe_good g_l_laid (hr.mono (by decide)) rfl T.m_l_laid (pa_cons (pe_lc (own := [("_law_seed", 6)]) (by rfl) sc_l_pair_good.nd (iq_list K (pv 5)) (blkOk_by (own := [("_law_seed", 6)]) (N := n_l_pair_good) (by show blkC _ (relS _ (He.DefD.scope d_l_pair_good)) _ _ = true; decide +kernel)) (fun _ _ _ _ _ => (pg_name (i := 6) sc_l_pair_good.nd rfl (Or.inl rfl) (Or.inr rfl))) (fun _ _ _ _ _ => pts_nil) (fun _ _ _ _ _ => (pe_dget hu (pv 1) (pv 6) (fun _ _ => rfl)))) (pa_cons (pv 3) pa_nil)))))  (pss_one (ps_ret (pe_cmpR op_ne (pe_ix xq_list (pv 7) pe_int (fun _ _ => rfl)) (pe_ix xq_list (pv 7) pe_int (fun _ _ => rfl)) (nomark _)))))))), ?_⟩
  obtain ⟨u, v, p, seeds, n, n', kvs, pic, F, W, w1, w2, rfl, hn, hn', hs, tw, M, s0, iu, hp, iv, k⟩ := h
  obtain ⟨ua, rfl, hua⟩ := iu.strs
  have iv' := iv
  obtain ⟨T, ts, rfl, hT, its⟩ := iv.tup1
  have htl := its.len
  have two : ∀ {i : Nat} {y : V}, ts[i]? = some y → ∃ ws, [w1, w2][i]? = some ws ∧ Is M (dS ws) y ∧ (∀ s ∈ ws, s ∈ seeds) ∧ ws.length ≤ 50 := by
    intro i y hy
    obtain ⟨d, hd, id1⟩ := its.get hy
    match i, hd with
    | 0, hd => cases hd; exact ⟨w1, rfl, id1, tw.m1, tw.l1⟩
    | 1, hd => cases hd; exact ⟨w2, rfl, id1, tw.m2, tw.l2⟩
    | i + 2, hd => simp at hd
  walk_at "vc"
  refine w_isi s0 iv' (by simp) ?_
  rw [show Dat.isT (.tup [dS w1, dS w2]) "tuple" = true by show isTy "tuple" "tuple" = true; decide]
  walk_at "vc"
  refine ⟨T, ts, rfl, .inr (s0 _ _ hT), ?_⟩
  walk_at "vc"
  rw [htl]
  refine ifnT (by rfl) ?_
  walk_at "vc"
  refine ⟨_, rfl, T, rfl, ⟨_, SqT.of (s0 _ _ hT)⟩, ?_⟩
  refine fo_go walkT (fun i σ' H' => ∃ (o5 o6 o7 : Option V) (M' : Hp), σ' = [some (.ref ua), some (.ref p), some (.int n), some (.int n'), some (.ref T), o5, o6, o7] ∧ Stp no M H M' H') ⟨_, _, _, M, rfl, Stp.refl s0⟩ (fun _ _ _ _ ⟨_, _, _, _, _, S⟩ => S.mh _ _ (S.mm _ _ hT)) ?_ ?_
  · rintro i y σ1 H1 H1' hi ⟨o5, o6, o7, M1, rfl, S1⟩ ⟨rfl, hy⟩
    obtain ⟨ws, _, iw, hws, hwl⟩ := two hy
    have iw1 := iw.mono S1.mm
    obtain ⟨wa, rfl, hwa⟩ := iw1.strs
    walk_at "vc"
    refine w_isi S1.mh iw1 (by simp) ?_
    rw [show Dat.isT (dS ws) "list" = true by show isTy "list" "list" = true; decide]
    walk_at "vc"
    refine ⟨wa, rfl, ⟨_, SqL.of (S1.mh _ _ hwa)⟩, ?_⟩
    refine lc_go (ex := no) walkL S1.mh (fun i acc _ => acc = ((ws.take i).map fun _ => true).map V.bl) rfl (fun _ _ S => S.mh _ _ (S.mm _ _ hwa)) ?_ ?_
    · rintro j z acc M2 H2 H2' D hj S2 hD m2 h2 rfl ⟨rfl, hz⟩
      obtain ⟨s, hsz, rfl⟩ := map_at hz
      walk_at "vc"
      refine ⟨rfl, ?_⟩
      refine w_yesI ?_
      walk_at "vc"
      refine w_isi (d := .str s) S2.mh rfl (by simp) ?_
      rw [show Dat.isT (.str s) "str" = true by show isTy "str" "str" = true; decide]
      walk_at "vc"
      refine w_inS (.inl (S2.mh _ _ (S2.mm _ _ (S1.mm _ _ hua)))) ?_
      rw [decide_eq_true (hws s (mem_of_get hsz))]
      refine LcA.of hD S2 m2 h2 (by rw [List.length_map, List.length_map, List.length_take]; omega) ?_
      rw [tk_snoc hsz]
      simp only [List.map_append, List.map_cons, List.map_nil]
    · rintro D acc M2 H2 hD S2 m2 h2 rfl
      walk_at "vc"
      refine ⟨D, _, rfl, h2, ?_⟩
      rw [all_true]
      walk_at "vc"
      exact ⟨_, _, _, M2, rfl, S1.trans S2⟩
  rintro σ1 H1 ⟨o5, o6, o7, M1, rfl, S1⟩
  obtain ⟨T', ve, vf, e1, hT', ie, jf⟩ := iv'.un2
  cases e1
  rw [hT] at hT'
  cases hT'
  walk_at "vc"
  refine w_ixt (j := ((0 : Nat) : Int)) (S1.mh _ _ (S1.mm _ _ hT)) (atI_nat rfl) ?_
  walk_at "vc"
  refine ⟨ve, w1, n, rfl, hn, fun x hx => (hs x (tw.m1 x hx)).1, M1, S1.mh, ie.mono S1.mm, ?_⟩
  rintro v2 M2 H2 S2 rfl
  walk_at "vc"
  refine w_ixt (j := ((1 : Nat) : Int)) (S2.mh _ _ (S2.mm _ _ (S1.mm _ _ hT))) (atI_nat rfl) ?_
  walk_at "vc"
  refine ⟨vf, w2, n, rfl, hn, fun x hx => (hs x (tw.m2 x hx)).1, M2, S2.mh, (jf.mono S1.mm).mono S2.mm, ?_⟩
  rintro v3 M3 H3 S3 rfl
  have S3' := (S1.trans S2).trans S3
  clear S1 S2 S3
  walk_at "vc"
  rw [tw.to]
  refine ifnT rfl ?_
  walk_at "vc"
  refine ⟨_, rfl, T, rfl, ⟨_, SqT.of (S3'.mh _ _ (S3'.mm _ _ hT))⟩, ?_⟩
  dsimp only
  refine lc_go (ex := no) walkT S3'.mh (fun i acc _ => acc = ([w1, w2].take i).map fun ws => V.str (laid (blk n') (ws.map pic))) rfl (fun _ _ S => S.mh _ _ (S.mm _ _ (S3'.mm _ _ hT))) ?_ ?_
  · rintro i y acc M4 H4 H4' D hi S4 hD m4 h4 rfl ⟨rfl, hy⟩
    obtain ⟨ws, hws0, iw, hws, hwl⟩ := two hy
    have S34 := S3'.trans S4
    have iw1 := iw.mono S34.mm
    obtain ⟨wa, rfl, hwa⟩ := iw1.strs
    walk_at "vc"
    refine ⟨rfl, ?_⟩
    refine w_yesI ?_
    walk_at "vc"
    refine ⟨wa, rfl, ⟨_, SqL.of (S4.mh _ _ hwa)⟩, ?_⟩
    refine lc_go (ex := no) walkL S4.mh (fun i acc _ => acc = ((ws.take i).map pic).map V.str) rfl (fun _ _ S => S.mh _ _ (S.mm _ _ hwa)) ?_ ?_
    · rintro j z acc M5 H5 H5' D5 hj S5 hD5 m5 h5 rfl ⟨rfl, hz⟩
      obtain ⟨s, hsz, rfl⟩ := map_at hz
      walk_at "vc"
      refine ⟨rfl, ?_⟩
      refine w_yesI ?_
      walk_at "vc"
      refine ⟨p, .str (pic s), rfl, by have := DGet.k (k := Sum.inr s) (S5.mh _ _ (S5.mm _ _ (S34.mm _ _ hp))); rw [(hs s (hws s (mem_of_get hsz))).2.1] at this; exact this, ?_⟩
      refine LcA.of hD5 S5 m5 h5 (by rw [List.length_map, List.length_map, List.length_take]; omega) ?_
      rw [tk_snoc hsz]
      simp only [List.map_append, List.map_cons, List.map_nil]
    · rintro D5 acc M5 H5 hD5 S5 m5 h5 rfl
      rw [List.length_map, tk_all] at h5
      obtain ⟨m6, h6⟩ := S5.keep m4 h4
      have S6 := S5.fix h5 hD5
      have hne : D ≠ D5 := fun z => by rw [← z, h4] at hD5; cases hD5
      have i6 : Is (upd M5 D5 (.lst ((ws.map pic).map V.str))) (dS (ws.map pic)) (.ref D5) := Is.of_strs upd_same
      have m7 : upd M5 D5 (.lst ((ws.map pic).map V.str)) D = none := by rw [upd_ne hne]; exact m6
      generalize upd M5 D5 (.lst ((ws.map pic).map V.str)) = M6 at S6 i6 m7
      walk_at "vc"
      refine ⟨.ref D5, ws.map pic, n', rfl, hn', fun x hx => ?_, M6, S6.mh, i6, ?_⟩
      · obtain ⟨s, hs1, rfl⟩ := List.mem_map.mp hx
        exact (hs s (hws s hs1)).2.2
      rintro v7 M7 H7 S7 rfl
      obtain ⟨m8, h8⟩ := S7.keep m7 h6
      refine LcA.of hD ((S4.trans S6).trans S7) m8 h8 (by rw [htl] at hi; have hi2 : i < 2 := hi; rw [List.length_map, List.length_take]; omega) ?_
      rw [tk_snoc hws0]
      simp only [List.map_append, List.map_cons, List.map_nil]
  · rintro D acc M4 H4 hD S4 m4 h4 rfl
    rw [htl] at h4
    walk_at "vc"
    rw [decide_eq_false tw.ne]
    exact k _ _ _ (S3'.trans S4) rfl
end
end Nt
namespace Nt
section
variable {P : Program} {w : World} {K : PySem.W.Frag} {mg : Str → Option Value} {base : Heap}
theorem num_lo : ∀ k : Nat, k ≤ 10 → (((k : Nat) : Int).natAbs).log2 < 1920 := by decide
theorem num_len (k : Nat) (h : k ≤ 10) : (Str.ofString (toString ((k : Nat) : Int))).length ≤ 10 := by
  have all : ∀ k : Nat, k ≤ 10 → (Str.ofString (toString ((k : Nat) : Int))).length ≤ 10 := by decide +kernel
  exact all k h
theorem app_len (x y : Str) : (x ++ y).length = x.length + y.length := by
  show (x.cps ++ y.cps).size = _
  rw [Array.size_append]
  rfl
def sp_l_bad_row : Sp := fun vs H Q _ => ∃ (b : Addr) (u : V) (r : Str) (cs : Cells), vs = [.ref b, u, .str r] ∧ 0 < cs.length ∧ cs.length ≤ 100 ∧ (∀ c ∈ cs, c.2 ≤ 10) ∧ r.length ≤ 100 ∧ ∃ M, Same M H ∧ Bag M H b ∧ Is M (cellsD cs) u ∧ RetB b M H Q Sm
theorem ok_l_bad_row (T : Tx K mg) : Good P w K mg base CX0 3 (He.fAd K (He.DefD.at_ d_l_bad_row)) p_l_bad_row sp_l_bad_row := by
  obtain ⟨fd, F⟩ := T.def_ 41 (d := d_l_bad_row) rfl
  have g_l_pick : Good P w K mg base CX0 2 (He.fAd K (He.DefD.at_ d_l_pick)) p_l_pick sp_l_pick := ok_l_pick T
  have g_l_pull : Good P w K mg base CX0 1 (He.fAd K (He.DefD.at_ d_l_pull)) p_l_pull sp_l_pull := ok_l_pull T
  refine good_of F sc_l_bad_row (fun _ _ _ _ _ _ us hl => match us, hl with | [_, _, _], _ => rfl) (by intro vs H Q E h; (repeat obtain ⟨_, h⟩ := h); subst_vars; rfl) fun cdv A outer s H vs Q E hr h => ?_
  have hu := hu_of hr
  refine ⟨_, (pss_cons (ps_par (i := 3) (j := 4) rfl sc_l_bad_row.nd rfl rfl (by decide) rfl rfl (pa_cons (pe_callB cq_len (by rfl) T.b_len (by decide +kernel) (pa_cons (pv 1) pa_nil)) (pa_cons (pe_good g_l_pull (hr.mono (by decide)) rfl T.m_l_pull (pa_cons (pv 0) (pa_cons (pe_callB cq_len (by rfl) T.b_len (by decide +kernel) (pa_cons (pv 1) pa_nil)) pa_nil))) pa_nil)) (by rfl))  (pss_cons (ps_set (i := 5) sc_l_bad_row.nd rfl (Or.inl rfl) (pe_good g_l_pull (hr.mono (by decide)) rfl T.m_l_pull (pa_cons (pv 0) (pa_cons pe_int pa_nil))))  (pss_cons (ps_if (pt_cmpR op_eq (pv 5) pe_int (nomark _))  (pss_one (ps_ret (pe_op op_add_str (pv 2) pe_str)))  pss_nil)  (pss_cons (ps_if (pt_cmpR op_eq (pv 5) pe_int (nomark _))  (pss_one (ps_ret (pe_slice sl_str (pv 2) po_none (po_some (pe_op op_sub (pv 3) pe_int)))))  pss_nil)  (pss_cons (ps_if (pt_cmpR op_eq (pv 5) pe_int (nomark _))  (pss_one (ps_ret (pe_op op_add_str (pe_op op_add_str (pe_slice sl_str (pv 2) po_none (po_some (pv 4))) (pe_callTy call_str_int (by rfl) T.b_str (by decide +kernel) (pa_cons (pe_ix xq_tup (pe_ix xq_list (pv 1) (pv 4) (fun _ _ => rfl)) pe_int (fun _ _ => rfl)) pa_nil))) (pe_slice sl_str (pv 2) (po_some (pe_op op_add (pv 4) pe_int)) po_none))))  pss_nil)  (pss_cons (ps_if (pt_cmpR op_eq (pv 5) pe_int (nomark _))  (pss_one (ps_ret (pe_op op_add_str (pe_op op_add_str (pe_slice sl_str (pv 2) po_none (po_some (pv 4))) (pe_good g_l_pick (hr.mono (by decide)) rfl T.m_l_pick (pa_cons (pv 0) (pa_cons (pe_lst (pa_cons pe_str (pa_cons pe_str (pa_cons pe_str (pa_cons pe_str pa_nil))))) pa_nil)))) (pe_slice sl_str (pv 2) (po_some (pe_op op_add (pv 4) pe_int)) po_none))))  pss_nil)  (pss_one (ps_ret (pe_good g_l_pick (hr.mono (by decide)) rfl T.m_l_pick (pa_cons (pv 0) (pa_cons (pe_lst (pa_cons pe_non (pa_cons pe_bl (pa_cons pe_int (pa_cons pe_str (pa_cons (pe_lst pa_nil) (pa_cons (pe_tup pa_nil) (pa_cons pe_dnewK (pa_cons (pe_lst (pa_cons (pv 2) pa_nil)) (pa_cons (pe_tup (pa_cons (pv 2) pa_nil)) (pa_cons (pe_disp (pps_cons (pv 2) pe_int pps_nil) (by rfl) (by rfl) (fun z => by cases z) (by decide)) (pa_cons (pe_callTy (cq_listS rfl) (by rfl) T.b_list (by decide +kernel) (pa_cons (pv 2) pa_nil)) pa_nil)))))))))))) pa_nil))))))))))), ?_⟩
  obtain ⟨b, u, r, cs, rfl, hc0, hc1, hcm, hr, M, s0, B, iu, k⟩ := h
  obtain ⟨ca, cvs, rfl, hca, icv⟩ := id iu
  have hcl := icv.len
  rw [List.length_map] at hcl
  have S := Stp.refl (ex := exB b) s0
  walk_at "vc"
  refine ⟨ca, cvs, rfl, .inl (s0 _ _ hca), ?_⟩
  walk_at "vc"
  refine ⟨ca, cvs, rfl, .inl (s0 _ _ hca), ?_⟩
  walk_at "vc"
  rw [hcl]
  refine ⟨b, cs.length, rfl, by omega, by omega, M, s0, B, ?_⟩
  clear B
  rintro d v1 M1 H1 ⟨i, rfl, hi⟩ S1 B rfl
  have S' := S.trans S1
  have mm := S1.mm
  replace hca := mm _ _ hca
  replace iu := iu.mono mm
  replace icv := icv.mono mm
  clear S
  have S := S'
  clear S' mm
  walk_at "vc"
  refine ⟨b, 6, rfl, by omega, by omega, M1, S1.mh, B, ?_⟩
  clear B
  rintro d v2 M2 H2 ⟨wy, rfl, hwy⟩ S2 B rfl
  have S' := S.trans S2
  have mm := S2.mm
  replace hca := mm _ _ hca
  replace iu := iu.mono mm
  replace icv := icv.mono mm
  clear S
  have S := S'
  clear S' mm
  clear S1 S2
  have kk : ∀ (x : Str) (M' H' : Hp), Stp (exB b) M H M' H' → Bag M' H' b → Q (.str x) H' := fun x M' H' S B => k (.str x) _ _ _ (fun _ e => by cases e) S B rfl
  walk_at "vc"
  have sz : ∀ n, n ≤ 400 → n ≤ sizeLine := fun n h => line200 h
  have hz := sz r.length (by omega)
  refine ifd (fun q => ?_) (fun q => ?_)
  · walk_at "vc"
    refine ⟨r, _, rfl, rfl, sz _ (by show r.length + 1 ≤ 400; omega), ?_⟩
    exact kk _ _ _ S B
  · walk_at "vc"
    refine ifd (fun q => ?_) (fun q => ?_)
    · walk_at "vc"
      refine ⟨r, rfl, hz, ?_⟩
      exact kk _ _ _ S B
    · walk_at "vc"
      refine ifd (fun q => ?_) (fun q => ?_)
      · walk_at "vc"
        refine ⟨r, rfl, hz, ?_⟩
        walk_at "vc"
        obtain ⟨cv, hcv⟩ : ∃ cv, cvs[i]? = some cv := ⟨_, List.getElem?_eq_getElem (by omega)⟩
        obtain ⟨dc, hdc, idc⟩ := icv.get hcv
        rw [List.getElem?_map] at hdc
        obtain ⟨c, hc, rfl⟩ := Option.map_eq_some_iff.mp hdc
        obtain ⟨T1, rfl, hT1⟩ := Is.cell idc
        refine w_ixl (S.mh _ _ hca) (atI_nat hcv) ?_
        walk_at "vc"
        refine w_ixt (j := ((1 : Nat) : Int)) (S.mh _ _ hT1) (atI_nat rfl) ?_
        walk_at "vc"
        have hcb := hcm c (mem_of_get hc)
        have l1 := cutS_length r none (some (i : Int))
        have l2 := num_len c.2 hcb
        refine ⟨_, rfl, num_lo _ hcb, ?_⟩
        refine ⟨_, _, rfl, rfl, sz _ (by omega), ?_⟩
        walk_at "vc"
        refine ⟨r, rfl, hz, ?_⟩
        have l3 := cutS_length r (some ((i : Int) + 1)) none
        refine ⟨_, _, rfl, rfl, sz _ (by rw [app_len]; omega), ?_⟩
        exact kk _ _ _ S B
      · walk_at "vc"
        refine ifd (fun q => ?_) (fun q => ?_)
        · walk_at "vc"
          refine ⟨r, rfl, hz, ?_⟩
          walk_at "vc"
          intro p hp
          generalize hH : upd _ p _ = H'
          obtain ⟨M', S', B', mm, e1, fr, kp⟩ := ka_lst2 S B (KA.s (x := "+") (KA.s (x := " ") (KA.s (x := "-") (KA.s (x := "a") KA.nil)))) hH (Nat.le_of_ble_eq_true rfl) hp
          walk_at "vc"
          refine ⟨b, .ref p, [.str "+", .str " ", .str "-", .str "a"], rfl, by decide, by decide, M', S'.mh, B', ⟨p, _, rfl, .inl e1, IsA.strs (xs := ["+", " ", "-", "a"]).mpr rfl⟩, ?_⟩
          rintro d v5 M5 H5 hm S5 B5 i5
          obtain ⟨x, hx, rfl⟩ : ∃ x : Str, x.length ≤ 10 ∧ d = .str x := by
            simp only [List.mem_cons, List.not_mem_nil, or_false] at hm
            rcases hm with rfl | rfl | rfl | rfl <;> exact ⟨_, by decide, rfl⟩
          obtain rfl : v5 = .str x := i5
          walk_at "vc"
          have l1 := cutS_length r none (some (i : Int))
          refine ⟨_, _, rfl, rfl, sz _ (by omega), ?_⟩
          walk_at "vc"
          refine ⟨r, rfl, hz, ?_⟩
          have l3 := cutS_length r (some ((i : Int) + 1)) none
          refine ⟨_, _, rfl, rfl, sz _ (by rw [app_len]; omega), ?_⟩
          exact kk _ _ _ (S'.trans S5) B5
        · clear kk
          have kk : KA M2 [] := KA.nil
          have k' : RetB b M2 H2 Q Sm := RetB.of k S fun _ h => h
          have S := Stp.refl (ex := exB b) S.mh
          walk_at "vc"
          intro p1 hp
          generalize hH : upd _ p1 _ = H'
          obtain ⟨M', S', B', mm, e1, kq, fr, kv⟩ := ka_lst S B kk hH (Nat.le_of_ble_eq_true rfl) (by simp [Atom]) hp
          clear kk S B fr kv hp hH e1
          walk_at "vc"
          intro p2 hp
          generalize hH : upd _ p2 _ = H''
          obtain ⟨M'', S'', B'', mm', e1, kq', fr, kv⟩ := ka_tup S' B' kq hH (Nat.le_of_ble_eq_true rfl) (by simp [Atom]) hp
          clear kq S' B' fr kv hp hH e1 mm mm'
          walk_at "vc"
          intro p3 hp
          generalize hH : upd _ p3 _ = H3
          obtain ⟨M3, S3, B3, mm, kq⟩ := ka_dnew S'' B'' kq' hH hp
          clear kq' S'' B'' hp hH mm
          walk_at "vc"
          intro p4 hp
          generalize hH : upd _ p4 _ = H4
          obtain ⟨M4, S4, B4, mm, e1, kq', fr, kv⟩ := ka_lst S3 B3 kq hH (Nat.le_of_ble_eq_true rfl) (by simp [Atom]) hp
          clear kq S3 B3 fr kv hp hH e1 mm
          walk_at "vc"
          intro p5 hp
          generalize hH : upd _ p5 _ = H5
          obtain ⟨M5, S5, B5, mm, e1, kq, fr, kv⟩ := ka_tup S4 B4 kq' hH (Nat.le_of_ble_eq_true rfl) (by simp [Atom]) hp
          clear kq' S4 B4 fr kv hp hH e1 mm
          walk_at "vc"
          intro p6 hp
          generalize hH : upd _ p6 _ = H6
          obtain ⟨S6, B6, h6, mp, hq, ne⟩ := ka_d0 S5 B5 hH hp
          clear S5 B5 hH hp
          refine w_one ?_
          walk_at "vc"
          refine ⟨h6, [(Sum.inr r, V.int 1)], rfl, Nat.le_of_ble_eq_true rfl, ?_⟩
          generalize hH : upd _ p6 _ = H7
          obtain ⟨M7, S7, B7, mm, kq'⟩ := ka_d1 S6 B6 kq hH mp hq ne
          clear kq S6 B6 h6 mp hq ne hH mm
          walk_at "vc"
          refine ⟨r, rfl, sz _ (by rw [← len_sl]; omega), fun p8 hp => ?_⟩
          generalize hH : upd _ p8 _ = H8
          obtain ⟨M8, S8, B8, mm, e8, kq, fr, kv⟩ := ka_lst S7 B7 kq' hH (by rw [List.length_map, ← len_sl]; omega) (fun v hv => by obtain ⟨c, _, rfl⟩ := List.mem_map.mp hv; exact .inl trivial) hp
          clear kq' S7 B7 fr kv hp hH e8 mm
          walk_at "vc"
          intro p9 hp
          generalize hH : upd _ p9 _ = H9
          obtain ⟨M9, S9, B9, mm, e9, kq', fr, kv⟩ := ka_lst S8 B8 kq hH (Nat.le_of_ble_eq_true rfl) (by simp [Atom]) hp
          obtain ⟨ds, ia, hd⟩ := kv.kids
          have hl := ia.len
          walk_at "vc"
          refine ⟨b, _, ds, rfl, by rw [← hl]; exact Nat.le_of_ble_eq_true rfl, by rw [← hl]; exact Nat.lt_of_le_of_lt (Nat.le_of_ble_eq_true (m := 100) rfl) (by decide), M9, S9.mh, B9, ⟨p9, _, rfl, .inl e9, ia⟩, ?_⟩
          exact fun d v M2 H2 hm S2 B2 i2 => k' d v M2 H2 (hd d hm) (S9.trans S2) B2 i2
end
end Nt
namespace Nt
section
variable {P : Program} {w : World} {K : PySem.W.Frag} {mg : Str → Option Value} {base : Heap}
theorem putK_vals {kvs : List (L2.Key × V)} {k : L2.Key} {v : V} : ∀ q ∈ putK kvs k v, q.2 = v ∨ ∃ q' ∈ kvs, q'.2 = q.2 := by
  intro q hq
  unfold putK at hq
  split at hq
  · obtain ⟨q', m, e⟩ := List.mem_map.mp hq
    split at e
    · rw [← e]; exact .inl rfl
    · rw [← e]; exact .inr ⟨q', m, rfl⟩
  · rcases List.mem_append.mp hq with m | m
    · exact .inr ⟨q, m, rfl⟩
    · rw [List.mem_singleton.mp m]; exact .inl rfl
/-- what the dict holds is data -/
def VOk (M : Hp) (kvs : List (L2.Key × V)) : Prop := ∀ q ∈ kvs, ∃ d, Is M d q.2
theorem VOk.mono {M M' : Hp} {kvs : List (L2.Key × V)} (h : VOk M kvs) (s : Same M M') : VOk M' kvs := fun q m => let ⟨d, i⟩ := h q m; ⟨d, i.mono s⟩
theorem VOk.put {M : Hp} {kvs : List (L2.Key × V)} {k : L2.Key} {v : V} {d : Dat} (h : VOk M kvs) (i : Is M d v) : VOk M (putK kvs k v) := fun q m => by
  rcases putK_vals q m with e | ⟨q', m', e⟩
  · rw [e]; exact ⟨d, i⟩
  · rw [← e]; exact h q' m'
theorem VOk.kd {M : Hp} {pic : Str → Str} {ks : List Str} : VOk M (Nt.kd (fun s => .str (pic s)) ks) := fun q m => by
  obtain ⟨x, _, rfl⟩ := List.mem_map.mp m
  exact ⟨.str (pic x), rfl⟩
theorem w_dPutM {td ty tv : TE} {σ : L2.St} {H : Hp} {D : Ends} (k : tv σ H fun v H1 => td σ H1 fun x H2 => ty σ H2 fun y H3 => ∃ a H4, x = .ref a ∧ DPutM H3 a y v H4 ∧ D.nx σ H4) : sDPutM td ty tv D σ H := k
theorem w_par3 {σ : L2.St} {H : Hp} {D : Ends} {ta : TA} {i j l : Nat} (k : ta σ H fun vs H1 => ∃ v1 v2 v3, vs = [v1, v2, v3] ∧ D.nx (((σ.set i (some v1)).set j (some v2)).set l (some v3)) H1) : tPar3 i j l ta D σ H := k
def sp_l_bent : Sp := fun vs H Q _ => ∃ (b : Addr) (u x : V) (t : Addr) (seeds : List Str) (cs' : Cells) (pic : Str → Str) (ks : List Str), vs = [.ref b, u, x, .ref t] ∧ 0 < seeds.length ∧ seeds.length ≤ 100 ∧ (∀ s ∈ seeds, s.length ≤ 100 ∧ (pic s).length ≤ 100) ∧ ks.Perm seeds ∧ seeds.Nodup ∧
  0 < cs'.length ∧ cs'.length ≤ 100 ∧ (∀ c ∈ cs', c.2 ≤ 10) ∧ ∃ M, Same M H ∧ Bag M H b ∧ Is M (dS seeds) u ∧ Is M (cellsD cs') x ∧ M t = some (.dK (kd (fun s => .str (pic s)) ks)) ∧ ∀ v M' H', Stp (exB b) M H M' H' → Bag M' H' b → PicV seeds.length M' v → Q v H'
theorem ok_l_bent (T : Tx K mg) : Good P w K mg base CX0 5 (He.fAd K (He.DefD.at_ d_l_bent)) p_l_bent sp_l_bent := by
  obtain ⟨fd, F⟩ := T.def_ 47 (d := d_l_bent) rfl
  have g_l_bad_row : Good P w K mg base CX0 3 (He.fAd K (He.DefD.at_ d_l_bad_row)) p_l_bad_row sp_l_bad_row := ok_l_bad_row T
  have g_l_copied : Good P w K mg base CX0 4 (He.fAd K (He.DefD.at_ d_l_copied)) p_l_copied sp_l_copied := ok_l_copied T
  have g_l_odd : Good P w K mg base CX0 3 (He.fAd K (He.DefD.at_ d_l_odd)) p_l_odd sp_l_odd := ok_l_odd T
  have g_l_pick : Good P w K mg base CX0 2 (He.fAd K (He.DefD.at_ d_l_pick)) p_l_pick sp_l_pick := ok_l_pick T
  have g_l_pull : Good P w K mg base CX0 1 (He.fAd K (He.DefD.at_ d_l_pull)) p_l_pull sp_l_pull := ok_l_pull T
  refine good_of F sc_l_bent (fun _ _ _ _ _ _ us hl => match us, hl with | [_, _, _, _], _ => rfl) (by intro vs H Q E h; (repeat obtain ⟨_, h⟩ := h); subst_vars; rfl) fun cdv A outer s H vs Q E hr h => ?_
  have hu := hu_of hr
  refine ⟨_, (pss_cons (ps_par3 (i := 4) (j := 5) (l := 6) rfl sc_l_bent.nd rfl rfl rfl (by decide) (by decide) (by decide) rfl rfl rfl (pa_cons (pe_good g_l_copied (hr.mono (by decide)) rfl T.m_l_copied (pa_cons (pv 0) (pa_cons (pv 3) pa_nil))) (pa_cons (pe_good g_l_pull (hr.mono (by decide)) rfl T.m_l_pull (pa_cons (pv 0) (pa_cons pe_int pa_nil))) (pa_cons (pe_good g_l_pick (hr.mono (by decide)) rfl T.m_l_pick (pa_cons (pv 0) (pa_cons (pv 1) pa_nil))) pa_nil))) (by rfl))  (pss_cons (ps_if (pt_cmpR op_eq (pv 5) pe_int (nomark _))  (pss_one (ps_ret (pe_good g_l_odd (hr.mono (by decide)) rfl T.m_l_odd (pa_cons (pv 0) pa_nil))))  pss_nil)  (pss_cons (ps_if (pt_cmpR op_eq (pv 5) pe_int (nomark _))  (pss_one (ps_expr (pe_dpop1 (pv 4) (pv 6) ⟨rfl, rfl, rfl, rfl⟩)))  pss_nil)  (pss_cons (ps_if (pt_cmpR op_eq (pv 5) pe_int (nomark _))  (pss_one (ps_dput hu (pv 4) (pe_op op_mul_str pe_str (pe_callB call_len_str (by rfl) T.b_len (by decide +kernel) (pa_cons (pv 6) pa_nil))) (pe_op op_mul_str pe_str (pe_callB cq_len (by rfl) T.b_len (by decide +kernel) (pa_cons (pv 2) pa_nil))) rfl))  pss_nil)  (pss_cons (ps_if (pt_cmpR op_eq (pv 5) pe_int (nomark _))  (pss_one (ps_dputM hu (pv 4) (pe_good g_l_pick (hr.mono (by decide)) rfl T.m_l_pick (pa_cons (pv 0) (pa_cons (pe_lst (pa_cons pe_non (pa_cons pe_int (pa_cons pe_str (pa_cons pe_bl (pa_cons (pe_op op_add_str (pv 6) pe_str) (pa_cons (pe_tup (pa_cons (pv 6) pa_nil)) pa_nil))))))) pa_nil))) (pe_dget hu (pv 4) (pv 6) (fun _ _ => rfl)) rfl))  pss_nil)  (pss_cons (ps_if (pt_cmpR op_eq (pv 5) pe_int (nomark _))  (pss_one (ps_dput hu (pv 4) (pv 6) (pe_good g_l_pick (hr.mono (by decide)) rfl T.m_l_pick (pa_cons (pv 0) (pa_cons (pe_lst (pa_cons (pe_good g_l_bad_row (hr.mono (by decide)) rfl T.m_l_bad_row (pa_cons (pv 0) (pa_cons (pv 2) (pa_cons (pe_dget hu (pv 4) (pv 6) (fun _ _ => rfl)) pa_nil)))) (pa_cons (pe_good g_l_odd (hr.mono (by decide)) rfl T.m_l_odd (pa_cons (pv 0) pa_nil)) pa_nil))) pa_nil))) rfl))  pss_nil)  (pss_one (ps_ret (pv 4))))))))), ?_⟩
  obtain ⟨b, u, x, t, seeds, cs', pic, ks, rfl, hs0, hsl, hsn, hpm, hnd, hc0, hcl, hcm, M, s0, B, iu, ix, ht, k⟩ := h
  have hkl : ks.length = seeds.length := hpm.length_eq
  have hb : H b ≠ none := B.has
  walk_at "vc"
  refine w_par3 ?_
  walk_at "vc"
  refine ⟨b, t, _, ks, rfl, hpm.nodup_iff.mpr hnd, by omega, M, s0, B, ht, fun D ks' M1 H1 hpm1 S1 B1 hD0 mD hD => ?_⟩
  have hpm1' : ks'.Perm seeds := hpm1.trans hpm
  have hkl1 : ks'.length = seeds.length := hpm1'.length_eq
  have hDb : D ≠ b := fun z => hb (by rw [← z]; exact hD0)
  walk_at "vc"
  refine ⟨b, 5, rfl, by omega, by omega, M1, S1.mh, B1, ?_⟩
  rintro d v M2 H2 ⟨wy, rfl, hwy⟩ S2 B2 rfl
  obtain ⟨mD2, hD2⟩ := S2.keepB mD hD hDb
  have S2' := S1.trans S2
  obtain ⟨ua, rfl, hua⟩ := iu.strs
  have ix' := ix
  obtain ⟨ca, cvs, rfl, hca, icv⟩ := ix
  have hcvl := icv.len
  rw [List.length_map] at hcvl
  clear S1 S2 B1 mD hD
  walk_at "vc"
  refine ⟨b, _, seeds.map Dat.str, rfl, by rw [List.length_map]; omega, by rw [List.length_map]; omega, M2, S2'.mh, B2, (iu.mono S2'.mm).q, ?_⟩
  rintro d v M3 H3 hm S3 B3 i3
  obtain ⟨s, hs, rfl⟩ := List.mem_map.mp hm
  obtain rfl : v = .str s := i3
  obtain ⟨mD3, hD3⟩ := S3.keepB mD2 hD2 hDb
  have S3' := S2'.trans S3
  clear S2' S3 B2 mD2 hD2 hm
  obtain ⟨hsl1, hpl1⟩ := hsn s hs
  have fin : ∀ kvs M' H', Stp (exB b) M H M' H' → Bag M' H' b → M' D = none → H' D = some (.dK kvs) → kvs.length ≤ 1000 → VOk M' kvs → Q (.ref D) H' := fun kvs M' H' S B m h hl hv =>
    k _ _ _ (S.fix h hD0) (B.fix hDb (.inl m)) (.inr (.inl ⟨D, kvs, rfl, upd_same, hl, fun kx y e => by
      obtain ⟨q, hq, rfl⟩ := valV_mem e
      exact hv.mono (same_upd m) q hq⟩))
  have fin0 : Q (.ref D) H3 := fin _ _ _ S3' B3 mD3 hD3 (by rw [kd_len]; omega) VOk.kd
  walk_at "vc"
  refine ⟨_, _, _, rfl, ?_⟩
  walk_at "vc"
  refine ifd (fun q => ?_) (fun q0 => ?_)
  · walk_at "vc"
    refine ⟨b, rfl, M3, S3'.mh, B3, fun v M4 H4 S4 B4 ka => ?_⟩
    obtain ⟨d, i4, _, o4⟩ := ka v List.mem_cons_self
    refine k _ _ _ (S3'.trans S4) B4 ?_
    by_cases hd : d = .dct
    · obtain ⟨p, kvs, e1, e2, e3, e4⟩ := o4 hd
      exact .inr (.inl ⟨p, kvs, e1, e2, e3, e4⟩)
    · exact .inl ⟨d, i4, hd⟩
  walk_at "vc"
  refine ifd (fun q => ?_) (fun q1 => ?_)
  · walk_at "vc"
    refine ⟨_, rfl, D, rfl, .inl ⟨_, .inl hD3⟩, _, rfl, _, .inr s, .str (pic s), hD3, rfl, by rw [kd_val, if_pos (hpm1'.mem_iff.mpr hs)], ?_⟩
    walk_at "vc"
    refine ifdF (by omega) ?_
    walk_at "vc"
    refine ifdF (by omega) ?_
    walk_at "vc"
    refine ifdF (by omega) ?_
    walk_at "vc"
    refine fin _ _ _ (S3'.put _ mD3 (.inl hD0)) (B3.put mD3 hDb) mD3 upd_same ?_ fun q hq => VOk.kd q (dropK_mem hq)
    have := dropK_le (kd (fun s => V.str (pic s)) ks') (Sum.inr s)
    rw [kd_len] at this
    omega
  walk_at "vc"
  refine ifd (fun q => ?_) (fun q2 => ?_)
  · walk_at "vc"
    refine ⟨ca, cvs, rfl, .inl (S3'.mh _ _ (S3'.mm _ _ hca)), ?_⟩
    walk_at "vc"
    refine ⟨_, _, rfl, rfl, by omega, by omega, by decide +kernel, ?_⟩
    rw [rep_dot]
    walk_at "vc"
    refine ⟨s, rfl, line_of (by omega), ?_⟩
    walk_at "vc"
    refine ⟨_, _, rfl, rfl, by omega, by omega, by decide +kernel, ?_⟩
    rw [rep_dot]
    refine ⟨D, _, rfl, DPut.k (k := .inr (blk s.length)) hD3 (line_lt (by rw [kd_len]; omega)), ?_⟩
    walk_at "vc"
    refine ifdF (by omega) ?_
    walk_at "vc"
    refine ifdF (by omega) ?_
    walk_at "vc"
    refine fin _ _ _ (S3'.put _ mD3 (.inl hD0)) (B3.put mD3 hDb) mD3 upd_same ?_ (VOk.kd.put (d := .str (blk cvs.length)) rfl)
    have := length_putK (kd (fun s => V.str (pic s)) ks') (Sum.inr (blk s.length)) (.str (blk cvs.length))
    rw [kd_len] at this
    omega
  walk_at "vc"
  refine ifd (fun q => ?_) (fun q3 => ?_)
  · walk_at "vc"
    refine w_dPutM ?_
    walk_at "vc"
    refine kd_get hD3 (hpm1'.mem_iff.mpr hs) ?_
    walk_at "vc"
    refine ⟨_, _, rfl, rfl, line_of (show s.length + 1 ≤ 1000000 by omega), ?_⟩
    walk_at "vc"
    intro p1 hp1
    have hDp1 : D ≠ p1 := fun z => by rw [← z, hD3] at hp1; cases hp1
    have S5 := S3'.lay (.tup [.str s]) hp1
    have B5 := B3.lay (o := .tup [.str s]) S3'.mh hp1
    have hD5 := upd_old (u := HO.tup [.str s]) hD3 hp1
    have mD5 : upd M3 p1 (.tup [.str s]) D = none := by rw [upd_ne hDp1]; exact mD3
    have e1 : upd M3 p1 (.tup [.str s]) p1 = some (.tup [.str s]) := upd_same
    generalize upd M3 p1 (.tup [.str s]) = M5 at S5 B5 mD5 e1
    generalize upd H3 p1 (.tup [.str s]) = H5 at S5 B5 hD5 ⊢
    walk_at "vc"
    intro p2 hp2
    generalize hxs : [V.non, .int 7, .str (Str.ofString ""), .bl true, .str (s ++ Str.ofString "."), .ref p1] = xs
    have hDp2 : D ≠ p2 := fun z => by rw [← z, hD5] at hp2; cases hp2
    have S6 := S5.lay (.lst xs) hp2
    have B6 := B5.lay (o := .lst xs) S5.mh hp2
    have hD6 := upd_old (u := HO.lst xs) hD5 hp2
    have mD6 : upd M5 p2 (.lst xs) D = none := by rw [upd_ne hDp2]; exact mD5
    have e2 : upd M5 p2 (.lst xs) p2 = some (.lst xs) := upd_same
    have e1' : upd M5 p2 (.lst xs) p1 = some (.tup [.str s]) := same_upd (S5.mfree hp2) _ _ e1
    generalize upd M5 p2 (.lst xs) = M6 at S6 B6 mD6 e1' e2
    generalize upd H5 p2 (.lst xs) = H6 at S6 B6 hD6 ⊢
    walk_at "vc"
    refine ⟨b, .ref p2, [.non, .int 7, .str (Str.ofString ""), .bl true, .str (s ++ Str.ofString "."), .tup [.str s]], rfl, by simp, by simp, M6, S6.mh, B6, ⟨p2, _, rfl, .inl e2, ?_⟩, ?_⟩
    · rw [← hxs]
      exact ⟨_, _, rfl, rfl, _, _, rfl, rfl, _, _, rfl, rfl, _, _, rfl, rfl, _, _, rfl, rfl, _, _, rfl, ⟨p1, _, rfl, e1', _, _, rfl, rfl, rfl⟩, rfl⟩
    rintro d v M7 H7 hm S7 B7 i7
    obtain ⟨mD7, hD7⟩ := S7.keepB mD6 hD6 hDb
    have split : (∃ kx : L2.Key, v = kV kx) ∨ OddKey H7 v := by
      simp only [List.mem_cons, List.not_mem_nil, or_false] at hm
      rcases hm with rfl | rfl | rfl | rfl | rfl | rfl
      · exact .inr (.inl i7)
      · exact .inl ⟨.inl 7, i7⟩
      · exact .inl ⟨.inr _, i7⟩
      · exact .inr (.inr (.inl ⟨true, i7⟩))
      · exact .inl ⟨.inr _, i7⟩
      · obtain ⟨a, vs, e, h1, h2⟩ := i7
        exact .inr (.inr (.inr ⟨a, [.inr s], e, S7.mh _ _ (by rw [h1, IsA.strs (xs := [s]) |>.mp h2]; rfl)⟩))
    have S7' := S6.trans S7
    rcases split with ⟨kx, rfl⟩ | ok
    · refine ⟨D, _, rfl, .inl (DPut.k (k := kx) hD7 (line_lt (by rw [kd_len]; omega))), ?_⟩
      walk_at "vc"
      refine ifdF (by omega) ?_
      walk_at "vc"
      refine fin _ _ _ (S7'.put _ mD7 (.inl hD0)) (B7.put mD7 hDb) mD7 upd_same ?_ (VOk.kd.put (d := .str (pic s)) rfl)
      have := length_putK (kd (fun s => V.str (pic s)) ks') kx (.str (pic s))
      rw [kd_len] at this
      omega
    · refine ⟨D, _, rfl, .inr ⟨_, hD7, fun q hq => ?_, ok, line_lt (by rw [kd_len]; omega), rfl⟩, ?_⟩
      · obtain ⟨x, _, rfl⟩ := List.mem_map.mp hq
        exact ⟨x, rfl⟩
      walk_at "vc"
      refine ifdF (by omega) ?_
      walk_at "vc"
      refine k _ _ _ ((S7'.put _ mD7 (.inl hD0)).fix upd_same hD0) ((B7.put mD7 hDb).fix hDb (.inl mD7)) (.inr (.inr ⟨D, _, rfl, upd_same, by rw [kd_len]; omega⟩))
  walk_at "vc"
  refine ifd (fun q => ?_) (fun q4 => ?_)
  · walk_at "vc"
    refine kd_get hD3 (hpm1'.mem_iff.mpr hs) ?_
    walk_at "vc"
    refine ⟨b, .ref ca, pic s, cs', rfl, hc0, hcl, hcm, hpl1, M3, S3'.mh, B3, ix'.mono S3'.mm, ?_⟩
    rintro d5 v5 M5 H5 _ S5 B5 i5
    obtain ⟨mD5, hD5⟩ := S5.keepB mD3 hD3 hDb
    walk_at "vc"
    refine ⟨b, rfl, M5, S5.mh, B5, fun v6 M6 H6 S6 B6 ka => ?_⟩
    obtain ⟨mD6, hD6⟩ := S6.keepB mD5 hD5 hDb
    obtain ⟨d6, i6, _, _⟩ := ka v6 List.mem_cons_self
    have S6' := (S3'.trans S5).trans S6
    replace i5 := i5.mono S6.mm
    walk_at "vc"
    intro p2 hp2
    have hDp2 : D ≠ p2 := fun z => by rw [← z, hD6] at hp2; cases hp2
    have S7 := S6'.lay (.lst [v5, v6]) hp2
    have B7 := B6.lay (o := .lst [v5, v6]) S6'.mh hp2
    have hD7 := upd_old (u := HO.lst [v5, v6]) hD6 hp2
    have mD7 : upd M6 p2 (.lst [v5, v6]) D = none := by rw [upd_ne hDp2]; exact mD6
    have e2 : upd M6 p2 (.lst [v5, v6]) p2 = some (.lst [v5, v6]) := upd_same
    have s7 : Same M6 (upd M6 p2 (.lst [v5, v6])) := same_upd (S6.mfree hp2)
    have j5 := i5.mono s7
    have j6 := i6.mono s7
    generalize upd M6 p2 (.lst [v5, v6]) = M7 at S7 B7 mD7 e2 j5 j6
    generalize upd H6 p2 (.lst [v5, v6]) = H7 at S7 B7 hD7 ⊢
    walk_at "vc"
    refine ⟨b, .ref p2, [d5, d6], rfl, by simp, by simp, M7, S7.mh, B7, ⟨p2, _, rfl, .inl e2, _, _, rfl, j5, _, _, rfl, j6, rfl⟩, ?_⟩
    rintro d8 v8 M8 H8 _ S8 B8 i8
    obtain ⟨mD8, hD8⟩ := S8.keepB mD7 hD7 hDb
    walk_at "vc"
    refine ⟨D, _, rfl, DPut.k (k := .inr s) hD8 (line_lt (by rw [kd_len]; omega)), ?_⟩
    walk_at "vc"
    refine fin _ _ _ ((S7.trans S8).put _ mD8 (.inl hD0)) (B8.put mD8 hDb) mD8 upd_same ?_ (VOk.kd.put i8)
    have := length_putK (kd (fun s => V.str (pic s)) ks') (Sum.inr s) v8
    rw [kd_len] at this
    omega
  walk_at "vc"
  exact fin0
end
end Nt
namespace Nt
section
open LiI
variable {P : Program} {w : World} {K : PySem.W.Frag} {mg : Str → Option Value} {base : Heap}
/-- values that are alike, at most so deep: data; lists or tuples of such values; dicts of texts by texts -/
def SV (M : Hp) : Nat → V → V → Prop
  | 0, _, _ => False
  | k + 1, u, v => (∃ d, PL (k + 1) d ∧ Is M d u ∧ Is M d v) ∨
      (∃ a b xs ys, u = .ref a ∧ v = .ref b ∧ ((M a = some (.lst xs) ∧ M b = some (.lst ys)) ∨ (M a = some (.tup xs) ∧ M b = some (.tup ys))) ∧ xs.length = ys.length ∧ xs.length ≤ 1000000 ∧ ∀ (i : Nat) (x y : V), xs[i]? = some x → ys[i]? = some y → SV M k x y) ∨
      ∃ a b ss, ∃ f : Str → Str, u = .ref a ∧ v = .ref b ∧ M a = some (.dK (kd (fun s => .str (f s)) ss)) ∧ M b = some (.dK (kd (fun s => .str (f s)) ss)) ∧ ss.length ≤ 1000 ∧ 3 ≤ k
theorem SV.mono {M M' : Hp} (s : Same M M') : ∀ {k : Nat} {u v : V}, SV M k u v → SV M' k u v
  | 0, _, _, h => h
  | k + 1, u, v, h => by
    rcases h with ⟨d, h1, h2, h3⟩ | ⟨a, b, xs, ys, h1, h2, h3, h4, h5, h6⟩ | ⟨a, b, ss, f, h1, h2, h3, h4, h5⟩
    · exact .inl ⟨d, h1, h2.mono s, h3.mono s⟩
    · exact .inr (.inl ⟨a, b, xs, ys, h1, h2, h3.imp (fun z => ⟨s _ _ z.1, s _ _ z.2⟩) (fun z => ⟨s _ _ z.1, s _ _ z.2⟩), h4, h5, fun i x y e e' => (h6 i x y e e').mono s⟩)
    · exact .inr (.inr ⟨a, b, ss, f, h1, h2, s _ _ h3, s _ _ h4, h5⟩)
theorem SV.dat {M : Hp} {k : Nat} {d : Dat} {u v : V} (h : PL k d) (i : Is M d u) (j : Is M d v) : SV M k u v := by
  cases k with
  | zero => cases d <;> exact h.elim
  | succ k => exact .inl ⟨d, h, i, j⟩
open Classical in
/-- several new objects, laid down for good -/
theorem Stp.many {ex : Addr → Prop} {M0 H0 M H H' : Hp} (S : Stp ex M0 H0 M H) (N : Addr → Prop) (hN : ∀ b, N b → H b = none) (kept : ∀ b o, H b = some o → H' b = some o) : ∃ M', Stp ex M0 H0 M' H' ∧ Same M M' ∧ (∀ b, N b → M' b = H' b) ∧ ∀ b, ¬ N b → M' b = M b := by
  have mN : ∀ b, N b → M b = none := fun b n => S.mfree (hN b n)
  refine ⟨fun b => if N b then H' b else M b, ⟨fun a o e => ?_, fun a o e => ?_, fun a o n e => kept a o (S.hh a o n e), fun a e n => ?_, fun a n => ?_⟩, fun a o e => ?_, fun b n => if_pos n, fun b n => if_neg n⟩
  · have e' := S.mm a o e
    show (if N a then H' a else M a) = some o
    rw [if_neg fun n => by rw [mN a n] at e'; cases e']
    exact e'
  · have e2 : (if N a then H' a else M a) = some o := e
    split at e2
    · exact e2
    · exact kept a o (S.mh a o e2)
  · show (if N a then H' a else M a) = none
    rw [if_neg fun z => S.th a n (hN a z)]
    exact S.fr a e n
  · cases e : H a with
    | none => exact absurd e (S.th a n)
    | some o => rw [kept a o e]; exact Option.some_ne_none o
  · show (if N a then H' a else M a) = some o
    rw [if_neg fun n => by rw [mN a n] at e; cases e]
    exact e
theorem w_isiN {v : V} {H : Hp} {T c : String} {Q : VK} (t : TyN v H T) (hT : T ∈ tyNames) (hc : c ∈ ["bool", "int", "str", "list", "tuple", "dict"]) (k : Q (.bl (isTy T c)) H) : qIsi [v, .ty c] H Q := ⟨v, c, T, _, rfl, t, kit_all T hT c hc, k⟩
theorem w_li {te : TE} {σ : L2.St} {H : Hp} {Q : VK} (h : te σ H fun x H1 => rItemsL x H1 Q) : tListItems te σ H Q := h
theorem get_map {α β : Type} {g : α → β} {xs : List α} {i : Nat} {y : β} (h : (xs.map g)[i]? = some y) : ∃ x, xs[i]? = some x ∧ y = g x := by
  rw [List.getElem?_map] at h
  obtain ⟨x, e1, e2⟩ := Option.map_eq_some_iff.mp h
  exact ⟨x, e1, e2.symm⟩
theorem items_at {H : Hp} {f : Str → Str} : ∀ {ts : List Addr} {ss : List Str}, Paired (fun (t : Addr) (q : Key × V) => H t = some (.tup [kV q.1, q.2])) ts (kd (fun s => .str (f s)) ss) → ts.length = ss.length ∧ ∀ (i : Nat) (t : Addr), ts[i]? = some t → ∃ s, ss[i]? = some s ∧ H t = some (.tup [.str s, .str (f s)]) := by
  intro ts ss h
  have hl : ts.length = ss.length := (Paired.length h).trans (List.length_map _)
  refine ⟨hl, fun i t e => ?_⟩
  obtain ⟨q, e1, e2⟩ := LiI.paired_get h e
  obtain ⟨s, e3, rfl⟩ := get_map e1
  exact ⟨s, e3, e2⟩
def sp_l_same (k : Nat) : Sp := fun vs H Q _ => ∃ (u v : V), vs = [u, v] ∧ ∃ M, Same M H ∧ SV M k u v ∧ Ret M H Q (.bl true)
theorem sp_l_same_0 {vs : List V} {H : Hp} {Q : VK} {E : XK} (h : sp_l_same 0 vs H Q E) : False := by
  obtain ⟨_, _, _, _, _, h, _⟩ := h
  exact h
theorem okR_l_same (T : Tx K mg) : ∀ k : Nat, Good P w K mg base CX0 (k + 1) (He.fAd K (He.DefD.at_ d_l_same)) p_l_same (sp_l_same k) := by
  intro k
  induction k with
  | zero =>
    obtain ⟨fd, F⟩ := T.def_ 17 (d := d_l_same) rfl
    refine good_of F sc_l_same (fun _ _ _ _ _ _ us hl => match us, hl with | [_, _], _ => rfl) (by intro vs H Q E h; (repeat obtain ⟨_, h⟩ := h); subst_vars; rfl) fun cdv A outer s H vs Q E hr h => ?_
    exact (sp_l_same_0 h).elim
  | succ k g_l_same =>
  obtain ⟨fd, F⟩ := T.def_ 17 (d := d_l_same) rfl
  refine good_of F sc_l_same (fun _ _ _ _ _ _ us hl => match us, hl with | [_, _], _ => rfl) (by intro vs H Q E h; (repeat obtain ⟨_, h⟩ := h); subst_vars; rfl) fun cdv A outer s H vs Q E hr h => ?_
  have hu := hu_of hr
  refine ⟨_, (pss_cons (ps_if (PW.pt (pw_or (pt_cmpR op_isN (pv 1) pe_non (nomark _)) (pw_or1 (pt_cmpR op_isN (pv 0) pe_non (nomark _)))))  (pss_one (ps_ret (pe_and (pe_cmpR op_isN (pv 1) pe_non (nomark _)) (pe_one (pe_cmpR op_isN (pv 0) pe_non (nomark _))))))  pss_nil)  (pss_cons (ps_if (pt_val (pe_callB cq_isi (by rfl) T.b_isinstance (by decide +kernel) (pa_cons (pv 1) (pa_cons (pe_ty "dict" (by rfl) T.b_dict (by decide +kernel)) pa_nil))))  (pss_one (ps_ret (pe_and (pe_callB cq_isi (by rfl) T.b_isinstance (by decide +kernel) (pa_cons (pv 0) (pa_cons (pe_ty "dict" (by rfl) T.b_dict (by decide +kernel)) pa_nil))) (pe_one (pe_good g_l_same (hr.mono (by omega)) rfl T.m_l_same (pa_cons (pe_listItems rfl (pv 0) (by rfl) T.b_list (by decide +kernel)) (pa_cons (pe_listItems rfl (pv 1) (by rfl) T.b_list (by decide +kernel)) pa_nil)))))))  pss_nil)  (pss_cons (ps_if (pt_val (pe_callB cq_isi2 (by rfl) T.b_isinstance (by decide +kernel) (pa_cons (pv 1) (pa_cons (pe_tup (pa_cons (pe_ty "list" (by rfl) T.b_list (by decide +kernel)) (pa_cons (pe_ty "tuple" (by rfl) T.b_tuple (by decide +kernel)) pa_nil))) pa_nil))))  (pss_cons (ps_if (PW.pt (pw_or (pt_cmpR op_ne (pe_callB cq_isi (by rfl) T.b_isinstance (by decide +kernel) (pa_cons (pv 0) (pa_cons (pe_ty "list" (by rfl) T.b_list (by decide +kernel)) pa_nil))) (pe_callB cq_isi (by rfl) T.b_isinstance (by decide +kernel) (pa_cons (pv 1) (pa_cons (pe_ty "list" (by rfl) T.b_list (by decide +kernel)) pa_nil))) (nomark _)) (pw_or1 (pt_cmpR op_ne (pe_callB cq_isi (by rfl) T.b_isinstance (by decide +kernel) (pa_cons (pv 0) (pa_cons (pe_ty "tuple" (by rfl) T.b_tuple (by decide +kernel)) pa_nil))) (pe_callB cq_isi (by rfl) T.b_isinstance (by decide +kernel) (pa_cons (pv 1) (pa_cons (pe_ty "tuple" (by rfl) T.b_tuple (by decide +kernel)) pa_nil))) (nomark _)))))  (pss_one (ps_ret pe_bl))  pss_nil)  (pss_one (ps_ret (pe_and (pe_cmpR op_eq (pe_callB cq_len (by rfl) T.b_len (by decide +kernel) (pa_cons (pv 0) pa_nil)) (pe_callB cq_len (by rfl) T.b_len (by decide +kernel) (pa_cons (pv 1) pa_nil)) (nomark _)) (pe_one (pe_callB (cq_all rfl) (by rfl) T.b_all (by decide +kernel) (pa_cons (pe_lc (own := [("_law_left", 2), ("_law_right", 3)]) (by rfl) sc_l_same.nd (iq_zipA K (by rfl) T.b_zip (pa_cons (pv 0) (pa_cons (pv 1) pa_nil))) (blkOk_by (own := [("_law_left", 2), ("_law_right", 3)]) (N := n_l_same) (sc := He.DefD.scope d_l_same) (by decide +kernel)) (fun _ _ _ _ _ => (gq_tup K (n := 2) rfl (pgs_cons (pg_name (i := 2) sc_l_same.nd rfl (Or.inl rfl) (Or.inr rfl)) (pgs_cons (pg_name (i := 3) sc_l_same.nd rfl (Or.inl rfl) (Or.inr rfl)) pgs_nil)))) (fun _ _ _ _ _ => pts_nil) (fun _ _ _ _ _ => (pe_good g_l_same (hr.mono (by omega)) rfl T.m_l_same (pa_cons (pv 2) (pa_cons (pv 3) pa_nil))))) pa_nil)))))))  pss_nil)  (pss_cons (ps_if (PW.pt (pw_or (pt_cmpR op_ne (pe_callB cq_isi (by rfl) T.b_isinstance (by decide +kernel) (pa_cons (pv 0) (pa_cons (pe_ty "bool" (by rfl) T.b_bool (by decide +kernel)) pa_nil))) (pe_callB cq_isi (by rfl) T.b_isinstance (by decide +kernel) (pa_cons (pv 1) (pa_cons (pe_ty "bool" (by rfl) T.b_bool (by decide +kernel)) pa_nil))) (nomark _)) (pw_or1 (pt_cmpR op_ne (pe_callB cq_isi (by rfl) T.b_isinstance (by decide +kernel) (pa_cons (pv 0) (pa_cons (pe_ty "int" (by rfl) T.b_int (by decide +kernel)) pa_nil))) (pe_callB cq_isi (by rfl) T.b_isinstance (by decide +kernel) (pa_cons (pv 1) (pa_cons (pe_ty "int" (by rfl) T.b_int (by decide +kernel)) pa_nil))) (nomark _)))))  (pss_one (ps_ret pe_bl))  pss_nil)  (pss_one (ps_ret (pe_and (pe_cmpR op_eq (pe_callB cq_isi (by rfl) T.b_isinstance (by decide +kernel) (pa_cons (pv 0) (pa_cons (pe_ty "str" (by rfl) T.b_str (by decide +kernel)) pa_nil))) (pe_callB cq_isi (by rfl) T.b_isinstance (by decide +kernel) (pa_cons (pv 1) (pa_cons (pe_ty "str" (by rfl) T.b_str (by decide +kernel)) pa_nil))) (nomark _)) (pe_one (pe_cmpR op_eq (pv 0) (pv 1) (nomark _)))))))))), ?_⟩
  obtain ⟨u, v, rfl, M, s0, hsv, kk⟩ := h
  rcases hsv with ⟨d, hd, iu, iv⟩ | ⟨a, b, xs, ys, rfl, rfl, hk, hlen, hlim, hel⟩ | ⟨a, b, ss, f, rfl, rfl, ha, hb, hss, h3⟩
  · by_cases hn : d = .non
    · subst hn
      cases iu
      cases iv
      walk_at "vc"
      refine ⟨rfl, true, rfl, ?_⟩
      walk_at "vc"
      refine ⟨rfl, ?_⟩
      walk_at "vc"
      exact ⟨rfl, kk _ _ _ (Stp.refl s0) rfl⟩
    have nn : ∀ x : V, Is M d x → decide (x = V.non) = false := fun x hx => by
      cases d with
      | non => exact absurd rfl hn
      | bl b => rw [show x = V.bl b from hx]; rfl
      | int b => rw [show x = V.int b from hx]; rfl
      | str b => rw [show x = V.str b from hx]; rfl
      | lst ds => obtain ⟨a, _, e, _⟩ := hx; rw [e]; rfl
      | tup ds => obtain ⟨a, _, e, _⟩ := hx; rw [e]; rfl
      | dct => exact hd.elim
    have nd : d.isT "dict" = false := by
      cases d with
      | dct => exact hd.elim
      | _ => rfl
    walk_at "vc"
    refine ⟨rfl, false, by rw [nn v iv], ?_⟩
    walk_at "vc"
    refine ⟨rfl, false, by rw [nn u iu], ?_⟩
    walk_at "vc"
    refine w_isi s0 iv (by simp) ?_
    rw [nd]
    walk_at "vc"
    intro p hp
    have S1 := (Stp.refl (ex := no) s0).new (.tup [.ty "list", .ty "tuple"]) hp
    walk_at "vc"
    refine w_isi2 S1.mh iv upd_same (by simp) (by simp) ?_
    rw [Dat.seq_ty]
    generalize upd H p (.tup [.ty "list", .ty "tuple"]) = H1 at S1 ⊢
    cases hs : d.seq with
    | none =>
      walk_at "vc"
      refine w_isi S1.mh iu (by simp) ?_
      walk_at "vc"
      refine w_isi S1.mh iv (by simp) ?_
      walk_at "vc"
      refine ifnT rfl ?_
      walk_at "vc"
      refine w_isi S1.mh iu (by simp) ?_
      walk_at "vc"
      refine w_isi S1.mh iv (by simp) ?_
      walk_at "vc"
      refine ifnT rfl ?_
      walk_at "vc"
      refine w_isi S1.mh iu (by simp) ?_
      walk_at "vc"
      refine w_isi S1.mh iv (by simp) ?_
      walk_at "vc"
      refine ifdT rfl ?_
      cases d with
      | non => exact absurd rfl hn
      | bl c =>
        cases iu
        cases iv
        walk_at "vc"
        rw [decide_eq_true rfl]
        exact kk _ _ _ S1 rfl
      | int c =>
        cases iu
        cases iv
        walk_at "vc"
        rw [decide_eq_true rfl]
        exact kk _ _ _ S1 rfl
      | str c =>
        cases iu
        cases iv
        walk_at "vc"
        rw [decide_eq_true rfl]
        exact kk _ _ _ S1 rfl
      | lst ds => cases hs
      | tup ds => cases hs
      | dct => exact hd.elim
    | some ds =>
      obtain ⟨a, xs, rfl, ha, ia⟩ := iu.seq hs
      obtain ⟨b, ys, rfl, hb, ib⟩ := iv.seq hs
      walk_at "vc"
      refine w_isi S1.mh iu (by simp) ?_
      walk_at "vc"
      refine w_isi S1.mh iv (by simp) ?_
      walk_at "vc"
      refine ifnT rfl ?_
      walk_at "vc"
      refine w_isi S1.mh iu (by simp) ?_
      walk_at "vc"
      refine w_isi S1.mh iv (by simp) ?_
      walk_at "vc"
      refine ifnT rfl ?_
      walk_at "vc"
      refine ⟨a, xs, rfl, ha.mono S1.mh, ?_⟩
      walk_at "vc"
      refine ⟨b, ys, rfl, hb.mono S1.mh, ?_⟩
      rw [ia.len, ib.len]
      walk_at "vc"
      refine ifdT rfl ?_
      walk_at "vc"
      have hz : (H1 a = some (.lst xs) ∧ H1 b = some (.lst ys)) ∨ (H1 a = some (.tup xs) ∧ H1 b = some (.tup ys)) := by
        cases d with
        | lst es =>
          obtain ⟨a', xs', e1, h1, _⟩ := iu
          obtain ⟨b', ys', e2, h2, _⟩ := iv
          cases e1
          cases e2
          rw [ha.one (.inl h1), hb.one (.inl h2)]
          exact .inl ⟨S1.mh _ _ h1, S1.mh _ _ h2⟩
        | tup es =>
          obtain ⟨a', xs', e1, h1, _⟩ := iu
          obtain ⟨b', ys', e2, h2, _⟩ := iv
          cases e1
          cases e2
          rw [ha.one (.inr h1), hb.one (.inr h2)]
          exact .inr ⟨S1.mh _ _ h1, S1.mh _ _ h2⟩
        | _ => cases hs
      have hpl : ds.length ≤ 1000000 ∧ ∀ e ∈ ds, PL k e := by
        cases d with
        | lst es => cases hs; exact hd
        | tup es => cases hs; exact hd
        | _ => cases hs
      have hxl := ia.len
      refine w_zipV hz (by rw [ib.len, ia.len]) rfl rfl fun J G hG W => ?_
      refine lc_go (ex := no) W S1.mh (fun i acc _ => acc = (List.replicate i true).map V.bl) rfl (fun M' H' S => hG H' (fun o e => ha.keep S1.mh (S.mm.trans S.mh) o e) (fun o e => hb.keep S1.mh (S.mm.trans S.mh) o e)) ?_ ?_
      · rintro i y acc M2 H2 H2' D hi S2 hD m2 h2 rfl ⟨Tt, x1, y1, rfl, hT, rfl, hx1, hy1⟩
        obtain ⟨e, he, ie⟩ := ia.get hx1
        obtain ⟨e', he', ie'⟩ := ib.get hy1
        rw [he] at he'
        cases he'
        have S3 := S2.new (.tup [x1, y1]) hT
        have h3 := upd_old (u := HO.tup [x1, y1]) h2 hT
        walk_at "vc"
        refine ⟨rfl, ?_⟩
        generalize upd H2 Tt (.tup [x1, y1]) = H3 at S3 h3 ⊢
        refine w_yesI ?_
        walk_at "vc"
        refine ⟨x1, y1, rfl, M2, S3.mh, .dat (hpl.2 e (mem_of_get he)) (ie.mono S2.mm) (ie'.mono S2.mm), ?_⟩
        rintro v4 M4 H4 S4 rfl
        obtain ⟨m4, h4⟩ := S4.keep m2 h3
        exact LcA.of hD (S3.trans S4) m4 h4 (by rw [List.length_map, List.length_replicate]; omega) (by rw [List.replicate_succ', List.map_append]; rfl)
      · rintro D acc M2 H2 hD S2 m2 h2 rfl
        walk_at "vc"
        refine ⟨D, _, rfl, h2, ?_⟩
        rw [all_yes]
        exact kk _ _ _ (S1.trans (S2.fix h2 hD)) rfl
  · obtain ⟨T, hT, ta, tb⟩ : ∃ T, (T = "list" ∨ T = "tuple") ∧ (∀ {H'}, Same M H' → TyN (.ref a) H' T) ∧ ∀ {H'}, Same M H' → TyN (.ref b) H' T := by
      rcases hk with ⟨h1, h2⟩ | ⟨h1, h2⟩
      · exact ⟨"list", .inl rfl, fun s => .inl ⟨rfl, xs, s _ _ h1⟩, fun s => .inl ⟨rfl, ys, s _ _ h2⟩⟩
      · exact ⟨"tuple", .inr rfl, fun s => .inr (.inl ⟨rfl, xs, s _ _ h1⟩), fun s => .inr (.inl ⟨rfl, ys, s _ _ h2⟩)⟩
    have hTm : T ∈ tyNames := by rcases hT with rfl | rfl <;> decide
    walk_at "vc"
    refine ⟨rfl, false, rfl, ?_⟩
    walk_at "vc"
    refine ⟨rfl, false, rfl, ?_⟩
    walk_at "vc"
    refine w_isiN (tb s0) hTm (by simp) ?_
    rw [show isTy T "dict" = false by rcases hT with rfl | rfl <;> decide]
    walk_at "vc"
    intro p hp
    have S1 := (Stp.refl (ex := no) s0).new (.tup [.ty "list", .ty "tuple"]) hp
    walk_at "vc"
    refine ⟨_, _, "list", "tuple", T, _, _, rfl, upd_same, tb S1.mh, kit_all T hTm _ (by simp), kit_all T hTm _ (by simp), ?_⟩
    generalize upd H p (.tup [.ty "list", .ty "tuple"]) = H1 at S1 ⊢
    rw [show (isTy T "list" || isTy T "tuple") = true by rcases hT with rfl | rfl <;> decide]
    walk_at "vc"
    refine w_isiN (ta S1.mh) hTm (by simp) ?_
    walk_at "vc"
    refine w_isiN (tb S1.mh) hTm (by simp) ?_
    walk_at "vc"
    refine ifnT rfl ?_
    walk_at "vc"
    refine w_isiN (ta S1.mh) hTm (by simp) ?_
    walk_at "vc"
    refine w_isiN (tb S1.mh) hTm (by simp) ?_
    walk_at "vc"
    refine ifnT rfl ?_
    walk_at "vc"
    have hqa : SQ M a xs := hk.imp (fun z => z.1) (fun z => z.1)
    have hqb : SQ M b ys := hk.imp (fun z => z.2) (fun z => z.2)
    refine ⟨a, xs, rfl, hqa.mono S1.mh, ?_⟩
    walk_at "vc"
    refine ⟨b, ys, rfl, hqb.mono S1.mh, ?_⟩
    rw [hlen]
    walk_at "vc"
    refine ifdT rfl ?_
    walk_at "vc"
    have hz : (H1 a = some (.lst xs) ∧ H1 b = some (.lst ys)) ∨ (H1 a = some (.tup xs) ∧ H1 b = some (.tup ys)) := hk.imp (fun z => ⟨S1.mh _ _ z.1, S1.mh _ _ z.2⟩) (fun z => ⟨S1.mh _ _ z.1, S1.mh _ _ z.2⟩)
    refine w_zipV hz hlen.symm rfl rfl fun J G hG W => ?_
    refine lc_go (ex := no) W S1.mh (fun i acc _ => acc = (List.replicate i true).map V.bl) rfl (fun M' H' S => hG H' (fun o e => hqa.keep S1.mh (S.mm.trans S.mh) o e) (fun o e => hqb.keep S1.mh (S.mm.trans S.mh) o e)) ?_ ?_
    · rintro i y acc M2 H2 H2' D hi S2 hD m2 h2 rfl ⟨Tt, x1, y1, rfl, hT, rfl, hx1, hy1⟩
      have S3 := S2.new (.tup [x1, y1]) hT
      have h3 := upd_old (u := HO.tup [x1, y1]) h2 hT
      walk_at "vc"
      refine ⟨rfl, ?_⟩
      generalize upd H2 Tt (.tup [x1, y1]) = H3 at S3 h3 ⊢
      refine w_yesI ?_
      walk_at "vc"
      refine ⟨x1, y1, rfl, M2, S3.mh, (hel _ _ _ hx1 hy1).mono S2.mm, ?_⟩
      rintro v4 M4 H4 S4 rfl
      obtain ⟨m4, h4⟩ := S4.keep m2 h3
      exact LcA.of hD (S3.trans S4) m4 h4 (by rw [List.length_map, List.length_replicate]; omega) (by rw [List.replicate_succ', List.map_append]; rfl)
    · rintro D acc M2 H2 hD S2 m2 h2 rfl
      walk_at "vc"
      refine ⟨D, _, rfl, h2, ?_⟩
      rw [all_yes]
      exact kk _ _ _ (S1.trans (S2.fix h2 hD)) rfl
  · walk_at "vc"
    refine ⟨rfl, false, rfl, ?_⟩
    walk_at "vc"
    refine ⟨rfl, false, rfl, ?_⟩
    walk_at "vc"
    refine w_isiN (T := "dict") (.inr (.inr ⟨rfl, .inl ⟨_, s0 _ _ hb⟩⟩)) (by decide) (by simp) ?_
    rw [show isTy "dict" "dict" = true from rfl]
    walk_at "vc"
    refine w_isiN (T := "dict") (.inr (.inr ⟨rfl, .inl ⟨_, s0 _ _ ha⟩⟩)) (by decide) (by simp) ?_
    rw [show isTy "dict" "dict" = true from rfl]
    walk_at "vc"
    refine w_li ?_
    walk_at "vc"
    refine ⟨_, _, rfl, s0 _ _ ha, ?_⟩
    intro H1 p1 ts1 kp1 np1 nt1 npt1 hp1 hts1
    obtain ⟨M1, S1, sM1, in1, _⟩ := (Stp.refl (ex := no) s0).many (fun b => b = p1 ∨ b ∈ ts1) (fun b z => z.elim (fun e => e ▸ np1) (nt1 b)) kp1
    refine w_li ?_
    walk_at "vc"
    refine ⟨_, _, rfl, S1.mh _ _ (sM1 _ _ hb), ?_⟩
    intro H2 p2 ts2 kp2 np2 nt2 npt2 hp2 hts2
    obtain ⟨M2, S2, sM2, in2, _⟩ := S1.many (fun b => b = p2 ∨ b ∈ ts2) (fun b z => z.elim (fun e => e ▸ np2) (nt2 b)) kp2
    obtain ⟨l1, g1⟩ := items_at hts1
    obtain ⟨l2, g2⟩ := items_at hts2
    have q1 : M2 p1 = some (.lst (ts1.map V.ref)) := sM2 _ _ ((in1 _ (.inl rfl)).trans hp1)
    have q2 : M2 p2 = some (.lst (ts2.map V.ref)) := (in2 _ (.inl rfl)).trans hp2
    have sv : SV M2 k (.ref p1) (.ref p2) := by
      obtain ⟨k', rfl⟩ : ∃ k', k = k' + 3 := ⟨k - 3, by omega⟩
      refine .inr (.inl ⟨p1, p2, _, _, rfl, rfl, .inl ⟨q1, q2⟩, by rw [List.length_map, List.length_map, l1, l2], by rw [List.length_map, l1]; omega, fun i x y e1 e2 => ?_⟩)
      obtain ⟨t1, e1', rfl⟩ := get_map e1
      obtain ⟨t2, e2', rfl⟩ := get_map e2
      obtain ⟨s1, m1, z1⟩ := g1 i t1 e1'
      obtain ⟨s2, m2, z2⟩ := g2 i t2 e2'
      rw [m1] at m2
      cases m2
      refine .inr (.inl ⟨t1, t2, [.str s1, .str (f s1)], [.str s1, .str (f s1)], rfl, rfl, .inr ⟨sM2 _ _ ((in1 _ (.inr (mem_of_get e1'))).trans z1), (in2 _ (.inr (mem_of_get e2'))).trans z2⟩, rfl, by show 2 ≤ 1000000; decide, fun j x y h1 h2 => ?_⟩)
      rw [h1] at h2
      cases h2
      match j, h1 with
      | 0, h1 => cases h1; exact .dat (d := .str s1) trivial rfl rfl
      | 1, h1 => cases h1; exact .dat (d := .str (f s1)) trivial rfl rfl
      | j + 2, h1 => cases h1
    refine ⟨_, _, rfl, M2, S2.mh, sv, ?_⟩
    rintro v4 M4 H4 S4 rfl
    walk_at "vc"
    exact kk _ _ _ (S2.trans S4) rfl
theorem ok_l_same (T : Tx K mg) : Good P w K mg base CX0 7 (He.fAd K (He.DefD.at_ d_l_same)) p_l_same (sp_l_same 6) := okR_l_same T 6
end
end Nt
namespace Nt
section
variable {P : Program} {w : World} {K : PySem.W.Frag} {mg : Str → Option Value} {base : Heap}
/-- what was known for a while is one's own again -/
theorem Stp.unfix {ex : Addr → Prop} {M H M' H' : Hp} {D : Addr} {o : HO} (mD : M D = none) (hD : H D ≠ none) (T : Stp ex (upd M D o) H M' H') : Stp ex M H (del M' D) H' := by
  refine ⟨fun a x e => ?_, fun a x e => ?_, T.hh, fun a e n => ?_, T.th⟩
  · have ne : a ≠ D := fun z => by rw [z, mD] at e; cases e
    rw [del_ne ne]
    exact T.mm a x (by rw [upd_ne ne]; exact e)
  · by_cases q : a = D
    · rw [q, del_same] at e; cases e
    · rw [del_ne q] at e; exact T.mh a x e
  · by_cases q : a = D
    · rw [q, del_same]
    · rw [del_ne q]
      exact T.fr a (by rw [upd_ne q]; exact e) n
theorem w_iKeysV {i : Nat} {p : Addr} {od : Obj} {kvs : List (L2.Key × V)} {σ : L2.St} {H : Hp} {R : It → Hp → Prop} (h : σ[i]? = some (some (.ref p))) (g : H p = some (.frz od (.dK kvs))) (k : R (Itk p od kvs) H) : iKeys (tVar i) σ H R :=
  ⟨.ref p, h, p, od, rfl, .inl ⟨kvs, g, k⟩⟩
theorem same_lock {M H : Hp} {p : Addr} {u : HO} (s : Same M H) : Same (del M p) (upd H p u) := fun a x e => by
  by_cases q : a = p
  · rw [q, del_same] at e; cases e
  · rw [del_ne q] at e
    rw [upd_ne q]
    exact s a x e
/-- a known dict that was locked for a while -/
theorem Stp.unlock {M H M' H' : Hp} {p : Addr} {u f : HO} (s : Same M H) (h : M p = some u) (T : Stp no (del M p) (upd H p f) M' H') : Stp no M H (upd M' p u) (upd H' p u) := by
  refine ⟨fun a x e => ?_, fun a x e => ?_, fun a x _ e => ?_, fun a e n => ?_, fun a n => ?_⟩
  · by_cases q : a = p
    · rw [q] at e ⊢; rw [upd_same, ← e, h]
    · rw [upd_ne q]; exact T.mm a x (by rw [del_ne q]; exact e)
  · by_cases q : a = p
    · rw [q] at e ⊢; rw [upd_same] at e ⊢; exact e
    · rw [upd_ne q] at e ⊢; exact T.mh a x e
  · by_cases q : a = p
    · rw [q] at e ⊢; rw [upd_same, ← e, s p u h]
    · rw [upd_ne q]; exact T.same a x (by rw [upd_ne q]; exact e)
  · have q : a ≠ p := fun z => by rw [z, h] at e; cases e
    rw [upd_ne q]
    exact T.fr a (by rw [del_ne q]; exact e) (by rw [upd_ne q]; exact n)
  · by_cases q : a = p
    · rw [q, upd_same]; exact Option.some_ne_none _
    · rw [upd_ne q]; exact T.th a (by rw [upd_ne q]; exact n)
theorem Bag.unfix {M H : Hp} {b D : Addr} {kvs : List (L2.Key × V)} (B : Bag M H b) (h : M D = some (.dK kvs)) : Bag (del M D) H b := by
  obtain ⟨a, xs, i, r, m, c, h1, h2, h3⟩ := B.ex
  refine ⟨?_, a, xs, i, r, m, c, h1, ?_, h3⟩
  · by_cases q : b = D
    · rw [q, del_same]
    · rw [del_ne q]; exact B.mb
  · rw [del_ne fun z => by rw [z, h] at h2; cases h2]; exact h2
theorem MapF.cong {seeds : List Str} {pic pic' : Str → Str} {z z' : Str} {F : Str → Str} {W : Str → Option (Str × Str)} (e : ∀ s ∈ seeds, pic' s = pic s) (h : MapF seeds pic z z' F W) : MapF seeds pic' z z' F W :=
  ⟨h.fz, h.wz, fun i hi j => ⟨fun r s h1 h2 h3 => by rw [e s (mem_of_get h2)]; exact (h.c i hi j).c r s h1 h2 h3⟩⟩
theorem Hom.cong {seeds : List Str} {pic pic' : Str → Str} {rows : List Str} {F : Str → Str} (e : ∀ s ∈ seeds, pic' s = pic s) : Hom seeds pic' rows F ↔ Hom seeds pic rows F :=
  ⟨fun h r hr s hs => by rw [← e s hs]; exact h r hr s hs, fun h r hr s hs => by rw [e s hs]; exact h r hr s hs⟩
theorem map_cong {pic pic' : Str → Str} {xs : List Str} (h : ∀ s ∈ xs, pic' s = pic s) : xs.map pic' = xs.map pic := List.map_congr_left h
theorem Two.cong {seeds : List Str} {pic pic' : Str → Str} {z z' : Str} {F : Str → Str} {W : Str → Option (Str × Str)} {a b : List Str} (e : ∀ s ∈ seeds, pic' s = pic s) (h : Two seeds pic' z z' F W a b) : Two seeds pic z z' F W a b := by
  obtain ⟨i, j, r, s, ws, h1, h2, h3, h4, h5, h6⟩ := h.fc
  refine ⟨h.m1, h.m2, h.to, ?_, h.l1, h.l2, i, j, r, s, ws, fun k hk r hr s hs => ?_, h2, h3, fun k hk s hs => ?_, ?_, h6⟩
  · have := h.ne
    rw [map_cong fun s hs => e s (h.m1 s hs), map_cong fun s hs => e s (h.m2 s hs)] at this
    exact this
  · rw [← e s hs]; exact h1 k hk r hr s hs
  · rw [← e s (mem_of_get hs)]; exact h4 k hk s hs
  · rw [← e s (mem_of_get h3)]; exact h5
theorem picG_kd {seeds rows' ks : List Str} {pic pic' : Str → Str} {M : Hp} {D p : Addr} {kvs : List (L2.Key × V)} (h : M D = some (.dK (kd (fun s => .str (pic s)) ks))) (hk : ∀ s ∈ seeds, s ∈ ks) (G : PicG seeds rows' M (.ref D) p kvs pic') : ∀ s ∈ seeds, pic' s = pic s := by
  intro s hs
  obtain rfl : D = p := V.ref.inj G.e
  have e := G.h
  rw [h] at e
  cases e
  have q := (G.g s hs).1
  rw [kd_val, if_pos (hk s hs)] at q
  exact (V.str.inj (Option.some.inj q)).symm
/-- what an asking asks -/
structure Ask (cs cs' : Cells) (seeds rows seeds' rows' ks : List Str) (pic : Str → Str) : Prop where
  B : MpF cs cs' seeds rows seeds' rows'
  nd : seeds.Nodup
  h64 : seeds.length < 64
  pm : ks.Perm seeds
  pr : ∀ s ∈ seeds, pic s ∈ rows'
  co : CellsOk cs
  ro : ∀ r ∈ rows, RowOk cs r
  rw : rows.Perm (itB seeds (blk cs.length) 41)
  ne : rows ≠ []
theorem picV_kd {n : Nat} {pic : Str → Str} {ks : List Str} {M : Hp} {D : Addr} (h : M D = some (.dK (kd (fun s => .str (pic s)) ks))) (hl : ks.length ≤ 1000) : PicV n M (.ref D) := .inr (.inl ⟨D, _, rfl, h, by rw [kd_len]; exact hl, fun kx y e => by
  obtain ⟨q, hq, rfl⟩ := valV_mem e
  exact VOk.kd q hq⟩)
theorem goodP_kd {seeds rows' ks : List Str} {pic : Str → Str} {M : Hp} {D : Addr} (h : M D = some (.dK (kd (fun s => .str (pic s)) ks))) (pm : ks.Perm seeds) (pr : ∀ s ∈ seeds, pic s ∈ rows') : GoodP seeds rows' M (.ref D) :=
  ⟨D, _, rfl, h, by rw [kd_len]; exact pm.length_eq, fun s hs => ⟨pic s, by rw [kd_val, if_pos (pm.mem_iff.mpr hs)], pr s hs⟩⟩
/-- what is told of a dict with good pictures -/
theorem told_was {C : Addr} {wy : Nat} {a o D : Addr} {cs cs' : Cells} {seeds rows seeds' rows' ks ks1 : List Str} {pic F : Str → Str} {W : Str → Option (Str × Str)} {M H : Hp} {Q : VK} {E : XK} (A : Ask cs cs' seeds rows seeds' rows' ks pic) (hwy : wy ≤ 1) (mf : MapF seeds pic (blk cs.length) (blk cs'.length) F W)
    (pm : ks1.Perm seeds) (s0 : Same M H) (ib : BandO C M cs seeds rows a) (io : BandO C M cs' seeds' rows' o) (hD : M D = some (.dK (kd (fun s => .str (pic s)) ks1)))
    (k : ∀ v M' H', Stp no M H M' H' → (Hom seeds pic (itB seeds (blk cs.length) 41) F ∧ ((wy = 0 ∧ Is M' (.tup [.str "told", .non]) v) ∨ (wy = 1 ∧ ∃ ss U D', v = .ref U ∧ ss.Perm seeds ∧ sortedS ss = true ∧ M' U = some (.tup [.str "told", .ref D']) ∧ M' D' = some (.dK (kd (fun s => .str (pic s)) ss))))
      ∨ ¬ Hom seeds pic (itB seeds (blk cs.length) 41) F ∧ ∃ w1 w2, Two seeds pic (blk cs.length) (blk cs'.length) F W w1 w2 ∧ Is M' (.tup [.str (if wy = 0 then "told" else "NotMap"), .tup [dS w1, dS w2]]) v) → Q v H') :
    sp_l_told C [.int wy, .ref a, .ref o, .ref D] H Q E := by
  have h64 := A.h64
  have hl := pm.length_eq
  refine ⟨wy, a, o, .ref D, cs, cs', seeds, rows, seeds', rows', rfl, hwy, A.B, A.nd, A.h64, M, s0, ib, io, picV_kd hD (by omega), fun p kvs pic' G => ?_, fun hn => (hn (goodP_kd hD pm A.pr)).elim⟩
  have e := picG_kd hD (fun s hs => pm.mem_iff.mpr hs) G
  refine ⟨F, W, mf.cong e, fun hh => ⟨fun q => ?_, fun q ss U D' M' H' hpm hsd S hU hD' => ?_⟩, fun hh w1 w2 tw v M' H' S i => ?_⟩
  · intro v M' H' S i
    exact k v M' H' S (.inl ⟨(Hom.cong e).mp hh, .inl ⟨q, i⟩⟩)
  · refine k _ M' H' S (.inl ⟨(Hom.cong e).mp hh, .inr ⟨q, ss, U, D', rfl, hpm, hsd, hU, ?_⟩⟩)
    rw [hD', kd_congr fun s hs => by rw [e s (hpm.mem_iff.mp hs)]]
  · exact k v M' H' S (.inr ⟨fun z => hh ((Hom.cong e).mpr z), w1, w2, tw.cong e, i⟩)
theorem rows_of {seeds : List Str} {pic F : Str → Str} {R : List Str} {M H : Hp} {Q : VK} (k : ∀ v M' H', Stp no M H M' H' → (Hom seeds pic R F ∧ ∃ D, v = .ref D ∧ M' D = some (.dK (kd (fun r => .str (F r)) R))) ∨ (¬ Hom seeds pic R F ∧ v = .non) → Q v H') :
    (¬ Hom seeds pic R F → Ret M H Q .non) ∧ (Hom seeds pic R F → ∀ D M' H', Stp no M H M' H' → M' D = some (.dK (kd (fun r => .str (F r)) R)) → Q (.ref D) H') :=
  ⟨fun hh v M' H' S i => k _ _ _ S (.inr ⟨hh, i⟩), fun hh D M' H' S h => k _ _ _ S (.inl ⟨hh, D, rfl, h⟩)⟩
theorem pl_strs {xs : List Str} {k : Nat} (h : xs.length ≤ 1000000) : PL (k + 2) (dS xs) := ⟨by rw [List.length_map]; exact h, fun d hd => by
  obtain ⟨x, _, rfl⟩ := List.mem_map.mp hd
  trivial⟩
theorem pl_pair {s : Str} {a b : List Str} {k : Nat} (h1 : a.length ≤ 1000000) (h2 : b.length ≤ 1000000) : PL (k + 4) (.tup [.str s, .tup [dS a, dS b]]) := by
  refine ⟨Nat.le_of_ble_eq_true rfl, fun d hd => ?_⟩
  rcases List.mem_cons.mp hd with rfl | hd
  · trivial
  obtain rfl := List.mem_singleton.mp hd
  refine ⟨Nat.le_of_ble_eq_true rfl, fun d hd => ?_⟩
  rcases List.mem_cons.mp hd with rfl | hd
  · exact pl_strs h1
  obtain rfl := List.mem_singleton.mp hd
  exact pl_strs h2
theorem MapO.mono {C B : Addr} {M M' : Hp} {cs : Cells} {seeds rows ss : List Str} {pic F : Str → Str} {R : List Str} {x : Addr} (h : MapO C B M cs seeds rows ss pic F R x) (s : Same M M') : MapO C B M' cs seeds rows ss pic F R x := by
  obtain ⟨dx, a, vo, sp, rp, h1, h2, h3, h4⟩ := h
  exact ⟨dx, a, vo, sp, rp, s _ _ h1, h2.mono s, s _ _ h3, s _ _ h4⟩
theorem MapN.del {C : Addr} {H0 M : Hp} {ss : List Str} {pic F : Str → Str} {R : List Str} {a x D : Addr} (h : MapN C H0 M a ss pic F R x) (hD : H0 D ≠ none) (hx : x ≠ D) : MapN C H0 (del M D) a ss pic F R x := by
  obtain ⟨dx, vo, sp, rp, h1, h3, h4, n1, n2⟩ := h
  have e1 : sp ≠ D := fun z => hD (by rw [← z]; exact n1)
  have e2 : rp ≠ D := fun z => hD (by rw [← z]; exact n2)
  exact ⟨dx, vo, sp, rp, by rw [del_ne hx]; exact h1, by rw [del_ne e1]; exact h3, by rw [del_ne e2]; exact h4, n1, n2⟩
theorem MapN.cong {C : Addr} {H0 M : Hp} {ss : List Str} {pic pic' F : Str → Str} {R : List Str} {a x : Addr} (h : MapN C H0 M a ss pic' F R x) (e : ∀ s ∈ ss, pic' s = pic s) : MapN C H0 M a ss pic F R x := by
  obtain ⟨dx, vo, sp, rp, h1, h3, h4, n1, n2⟩ := h
  exact ⟨dx, vo, sp, rp, h1, by rw [h3, kd_congr fun s hs => by rw [e s hs]], h4, n1, n2⟩
theorem sv_told {M : Hp} {v3 : V} {L1 L2 U T1 T2 D' d : Addr} {ss : List Str} {pic : Str → Str} (hL1 : M L1 = some (.lst [v3, .ref U])) (hL2 : M L2 = some (.lst [.ref T1, .ref T2])) (i3 : Is M (.tup [.str "told", .non]) v3) (h1 : M T1 = some (.tup [.str "told", .non]))
    (hU : M U = some (.tup [.str "told", .ref D'])) (h2 : M T2 = some (.tup [.str "told", .ref d])) (hD' : M D' = some (.dK (kd (fun s => .str (pic s)) ss))) (hd : M d = some (.dK (kd (fun s => .str (pic s)) ss))) (hl : ss.length ≤ 1000) : SV M 6 (.ref L1) (.ref L2) := by
  refine .inr (.inl ⟨L1, L2, _, _, rfl, rfl, .inl ⟨hL1, hL2⟩, rfl, Nat.le_of_ble_eq_true rfl, fun i x y e1 e2 => ?_⟩)
  match i, e1, e2 with
  | 0, e1, e2 =>
    cases e1
    cases e2
    refine .dat (d := .tup [.str "told", .non]) ⟨Nat.le_of_ble_eq_true rfl, fun d hd => ?_⟩ i3 (Is.tup2 h1 rfl rfl)
    rcases List.mem_cons.mp hd with rfl | hd
    · trivial
    obtain rfl := List.mem_singleton.mp hd
    trivial
  | 1, e1, e2 =>
    cases e1
    cases e2
    refine .inr (.inl ⟨U, T2, _, _, rfl, rfl, .inr ⟨hU, h2⟩, rfl, Nat.le_of_ble_eq_true rfl, fun i x y e1 e2 => ?_⟩)
    match i, e1, e2 with
    | 0, e1, e2 =>
      cases e1
      cases e2
      exact .dat (d := .str "told") trivial rfl rfl
    | 1, e1, e2 =>
      cases e1
      cases e2
      exact .inr (.inr ⟨D', d, ss, pic, rfl, rfl, hD', hd, hl, by decide⟩)
    | i + 2, e1, e2 => cases e1
  | i + 2, e1, e2 => cases e1
theorem w_bM0 {K : PySem.W.Frag} {T : String} {r : V → List V → Hp → VK → Prop} {to : TE} {σ : L2.St} {H : Hp} {Q : VK} (k : to σ H fun x H1 => tyV K T x H1 ∧ r x [] H1 Q) : tBM0 K T r to σ H Q := k
theorem sub_strs {n : Nat} {xs : List Str} {es : List Dat} (h : Sub n (xs.map Dat.str) es) : ∃ ys : List Str, es = ys.map Dat.str ∧ ∀ y ∈ ys, y ∈ xs := by
  obtain ⟨r, hp, _⟩ := h
  obtain ⟨zs, hz, e⟩ := perm_pre hp
  obtain ⟨ys, ws, rfl, e1, e2⟩ := List.append_eq_map_iff.mp e
  exact ⟨ys, e1.symm, fun y hy => hz.mem_iff.mp (List.mem_append_left _ hy)⟩
def sp_l_asked (C : Addr) : Sp := fun vs H Q _ => ∃ (b p a o : Addr) (u x : V) (cs cs' : Cells) (seeds rows seeds' rows' ks : List Str) (pic : Str → Str), vs = [.ref b, u, x, .ref a, .ref o, .int cs'.length, .ref p] ∧ Ask cs cs' seeds rows seeds' rows' ks pic ∧ ∃ M, Same M H ∧ Bag M H b ∧ Is M (dS seeds) u ∧ Is M (dS rows) x ∧ BandO C M cs seeds rows a ∧ BandO C M cs' seeds' rows' o ∧
  M p = some (.dK (kd (fun s => .str (pic s)) ks)) ∧ ∀ M' H', Stp (exB b) M H M' H' → Bag M' H' b → Q (.bl true) H'
theorem ok_l_asked (T : Tx K mg) : Good P w K mg base CX0 9 (He.fAd K (He.DefD.at_ d_l_asked)) p_l_asked (sp_l_asked (He.ga K "Band")) := by
  obtain ⟨fd, F⟩ := T.def_ 49 (d := d_l_asked) rfl
  have g_BandMap___call__ : Good P w K mg base CX0 4 (He.fAd K (He.DefD.at_ d_BandMap___call__)) p_BandMap___call__ (sp_BandMap___call__ (He.ga K "BandMap") (He.ga K "Band")) := ok_BandMap___call__ T
  have g_BandMap_picture : Good P w K mg base CX0 3 (He.fAd K (He.DefD.at_ d_BandMap_picture)) p_BandMap_picture (sp_BandMap_picture (He.ga K "BandMap") (He.ga K "Band")) := ok_BandMap_picture T
  have g_BandMap_pictures : Good P w K mg base CX0 1 (He.fAd K (He.DefD.at_ d_BandMap_pictures)) p_BandMap_pictures (sp_BandMap_pictures (He.ga K "BandMap") (He.ga K "Band")) := ok_BandMap_pictures T
  have g_l_copied : Good P w K mg base CX0 4 (He.fAd K (He.DefD.at_ d_l_copied)) p_l_copied sp_l_copied := ok_l_copied T
  have g_l_map_rows : Good P w K mg base CX0 2 (He.fAd K (He.DefD.at_ d_l_map_rows)) p_l_map_rows sp_l_map_rows := ok_l_map_rows T
  have g_l_pair_good : Good P w K mg base CX0 3 (He.fAd K (He.DefD.at_ d_l_pair_good)) p_l_pair_good sp_l_pair_good := ok_l_pair_good T
  have g_l_same : Good P w K mg base CX0 7 (He.fAd K (He.DefD.at_ d_l_same)) p_l_same (sp_l_same 6) := ok_l_same T
  have g_l_some_of : Good P w K mg base CX0 2 (He.fAd K (He.DefD.at_ d_l_some_of)) p_l_some_of sp_l_some_of := ok_l_some_of T
  have g_l_told : Good P w K mg base CX0 8 (He.fAd K (He.DefD.at_ d_l_told)) p_l_told (sp_l_told (He.ga K "Band")) := ok_l_told T
  have g_BandMap___init__ : Good P w K mg base (L2.CX P w) 6 (He.fAd K (He.DefD.at_ d_BandMap___init__)) p_BandMap___init__ (sp_BandMap___init__ (He.ga K "Band") (He.ga K "BadPictures") (He.ga K "NotMap") (He.ga K "BandMap")) := ok_BandMap___init__ T
  have x_BadPictures := T.exc "BadPictures" (by decide)
  have x_NotMap := T.exc "NotMap" (by decide)
  refine good_of F sc_l_asked (fun _ _ _ _ _ _ us hl => match us, hl with | [_, _, _, _, _, _, _], _ => rfl) (by intro vs H Q E h; (repeat obtain ⟨_, h⟩ := h); subst_vars; rfl) fun cdv A outer s H vs Q E hr h => ?_
  have hu := hu_of hr
  refine ⟨_, (pss_cons (ps_asg (pe_tup (pa_cons (pe_good g_l_copied (hr.mono (by decide)) rfl T.m_l_copied (pa_cons (pv 0) (pa_cons (pv 6) pa_nil))) (pa_cons (pe_callB call_len_str (by rfl) T.b_len (by decide +kernel) (pa_cons (pe_ix xq_list (pv 2) pe_int (fun _ _ => rfl)) pa_nil)) pa_nil))) (gq_tup K (n := 2) rfl (pgs_cons (pg_name (i := 7) sc_l_asked.nd rfl (Or.inr rfl) (Or.inl rfl)) (pgs_cons (pg_name (i := 8) sc_l_asked.nd rfl (Or.inl rfl) (Or.inl rfl)) pgs_nil))))  (pss_cons (ps_set (i := 9) sc_l_asked.nd rfl (Or.inl rfl) (pe_good g_l_map_rows (hr.mono (by decide)) rfl T.m_l_map_rows (pa_cons (pv 1) (pa_cons (pv 6) (pa_cons (pv 8) (pa_cons (pv 5) pa_nil))))))  (pss_cons (ps_par (i := 10) (j := 11) rfl sc_l_asked.nd rfl rfl (by decide) rfl rfl (pa_cons (pe_good g_l_told (hr.mono (by decide)) rfl T.m_l_told (pa_cons pe_int (pa_cons (pv 3) (pa_cons (pv 4) (pa_cons (pv 7) pa_nil))))) (pa_cons (pe_good g_l_told (hr.mono (by decide)) rfl T.m_l_told (pa_cons pe_int (pa_cons (pv 3) (pa_cons (pv 4) (pa_cons (pv 7) pa_nil))))) pa_nil)) (by rfl))  (pss_cons (ps_if (PW.pt (pw_or (pt_cmpR op_ne (pe_callB call_lenD (by rfl) T.b_len (by decide +kernel) (pa_cons (pv 7) pa_nil)) (pe_callB call_lenD (by rfl) T.b_len (by decide +kernel) (pa_cons (pv 6) pa_nil)) (nomark _)) (pw_or1 (pt_not (pt_val (pe_callB (cq_all rfl) (by rfl) T.b_all (by decide +kernel) (pa_cons (pe_lock (pe_lc (own := [("_law_seed", 12)]) (by rfl) sc_l_asked.nd (pi_keys (pv 6)) (blkOk_by (own := [("_law_seed", 12)]) (N := n_l_asked) (sc := He.DefD.scope d_l_asked) (by decide +kernel)) (fun _ _ _ _ _ => (pg_name (i := 12) sc_l_asked.nd rfl (Or.inl rfl) (Or.inr rfl))) (fun _ _ _ _ _ => pts_nil) (fun _ _ _ _ _ => (pe_cmpR op_eq (pe_dget hu (pv 7) (pv 12) (fun _ _ => rfl)) (pe_dget hu (pv 6) (pv 12) (fun _ _ => rfl)) (nomark _))))) pa_nil)))))))  (pss_one (ps_ret pe_bl))  pss_nil)  (pss_cons (ps_if (pt_cmpR op_isN (pv 9) pe_non (nomark _))  (pss_cons (ps_if (PW.pt (pw_or (pt_cmpR op_ne (pe_ix xq_tup (pv 10) pe_int (fun _ _ => rfl)) pe_str (nomark _)) (pw_or1 (pt_not (pt_val (pe_good g_l_pair_good (hr.mono (by decide)) rfl T.m_l_pair_good (pa_cons (pv 1) (pa_cons (pv 6) (pa_cons (pv 8) (pa_cons (pv 5) (pa_cons (pe_ix xq_tup (pv 10) pe_int (fun _ _ => rfl)) pa_nil)))))))))))  (pss_one (ps_ret pe_bl))  pss_nil)  (pss_one (ps_ret (pe_good g_l_same (hr.mono (by decide)) rfl T.m_l_same (pa_cons (pv 11) (pa_cons (pe_tup (pa_cons pe_str (pa_cons (pe_ix xq_tup (pv 10) pe_int (fun _ _ => rfl)) pa_nil))) pa_nil))))))  pss_nil)  (pss_cons (ps_set (i := 13) sc_l_asked.nd rfl (Or.inl rfl) pe_dnewK)  (pss_cons (ps_for PassesOwn.never rfl (iq_list K (pe_callB cr_sortedS (by rfl) T.b_sorted (by decide +kernel) (pa_cons (pv 1) pa_nil))) (pg_name (i := 12) sc_l_asked.nd rfl (Or.inl rfl) (Or.inl rfl))  (pss_one (ps_dput hu (pv 13) (pv 12) (pe_dget hu (pv 6) (pv 12) (fun _ _ => rfl)) rfl)))  (pss_cons (ps_if (pt_not (pt_val (pe_good g_l_same (hr.mono (by decide)) rfl T.m_l_same (pa_cons (pe_lst (pa_cons (pv 10) (pa_cons (pv 11) pa_nil))) (pa_cons (pe_lst (pa_cons (pe_tup (pa_cons pe_str (pa_cons pe_non pa_nil))) (pa_cons (pe_tup (pa_cons pe_str (pa_cons (pv 13) pa_nil))) pa_nil))) pa_nil)))))  (pss_one (ps_ret pe_bl))  pss_nil)  (pss_cons (ps_set (i := 14) sc_l_asked.nd rfl (Or.inl rfl) (pe_makeL T.mk_BandMap g_BandMap___init__ (hr.mono (by decide)) rfl T.m_BandMap (pa_cons (pv 3) (pa_cons (pv 4) (pa_cons (pv 7) pa_nil)))))  (pss_cons (ps_expr (pe_dclear (pv 7)))  (pss_cons (ps_for PassesOwn.never rfl (iq_list K (pe_good g_l_some_of (hr.mono (by decide)) rfl T.m_l_some_of (pa_cons (pv 0) (pa_cons (pv 2) (pa_cons pe_int pa_nil))))) (pg_name (i := 15) sc_l_asked.nd rfl (Or.inl rfl) (Or.inl rfl))  (pss_one (ps_if (pt_not (pt_val (pe_good g_l_same (hr.mono (by decide)) rfl T.m_l_same (pa_cons (pe_lst (pa_cons (pe_goodm g_BandMap_picture (hr.mono (by decide)) (pv 14) T.c_BandMap T.BandMap_picture (pa_cons (pv 15) pa_nil)) (pa_cons (pe_callI g_BandMap___call__ (hr.mono (by decide)) (pv 14) T.BandMap___call__ (Exists.elim (T.def_ 39 (d := d_BandMap___call__) rfl) fun _ F => fnIn_of F) (pa_cons (pv 15) pa_nil)) pa_nil))) (pa_cons (pe_lst (pa_cons (pe_dget hu (pv 9) (pv 15) (fun _ _ => rfl)) (pa_cons (pe_dget hu (pv 9) (pv 15) (fun _ _ => rfl)) pa_nil))) pa_nil)))))  (pss_one (ps_ret pe_bl))  pss_nil)))  (pss_one (ps_ret (pe_good g_l_same (hr.mono (by decide)) rfl T.m_l_same (pa_cons (pe_goodm0 g_BandMap_pictures (hr.mono (by decide)) (pv 14) T.c_BandMap T.BandMap_pictures) (pa_cons (pv 13) pa_nil)))))))))))))))), ?_⟩
  obtain ⟨b, p, a, o, u, x, cs, cs', seeds, rows, seeds', rows', ks, pic, rfl, A, M, s0, B, iu, ix, ib, io, hp, k⟩ := h
  obtain ⟨ua, rfl, hua⟩ := iu.strs
  obtain ⟨xa, rfl, hxa⟩ := ix.strs
  have hb : H b ≠ none := B.has
  have hkl : ks.length = seeds.length := A.pm.length_eq
  have h64 := A.h64
  have hpk : ∀ s ∈ seeds, s ∈ ks := fun s hs => A.pm.mem_iff.mpr hs
  have hpl : ∀ s ∈ seeds, (pic s).length ≤ 1000 := fun s hs => A.B.rl _ (A.pr s hs)
  obtain ⟨r0, rs0, hrs⟩ : ∃ r t, rows = r :: t := by
    cases e : rows with
    | nil => exact (A.ne e).elim
    | cons r t => exact ⟨r, t, rfl⟩
  have hr0 : r0.length = cs.length := row_len (A.ro r0 (by rw [hrs]; exact List.mem_cons_self))
  have hcl := A.B.c
  have hcl' := A.B.c'
  walk_at "vc"
  refine ⟨b, p, _, ks, rfl, A.pm.nodup_iff.mpr A.nd, by omega, M, s0, B, hp, fun D ks1 M1 H1 hpm1 S1 B1 hD0 mD hD => ?_⟩
  have hpm1' : ks1.Perm seeds := hpm1.trans A.pm
  have hkl1 : ks1.length = seeds.length := hpm1'.length_eq
  have hDb : D ≠ b := fun z => hb (by rw [← z]; exact hD0)
  have hk1 : ∀ s ∈ seeds, s ∈ ks1 := fun s hs => hpm1'.mem_iff.mpr hs
  walk_at "vc"
  refine w_ixl (S1.mh _ _ (S1.mm _ _ hxa)) (j := ((0 : Nat) : Int)) (atI_nat (by rw [hrs]; rfl)) ?_
  walk_at "vc"
  refine ⟨r0, rfl, line_of (by omega), ?_⟩
  rw [hr0]
  walk_at "vc"
  intro p1 hp1
  have hDp1 : D ≠ p1 := fun z => by rw [← z, hD] at hp1; cases hp1
  replace B1 := B1.lay (o := .tup [.ref D, .int (cs.length : Int)]) S1.mh hp1
  replace S1 := S1.lay (.tup [.ref D, .int (cs.length : Int)]) hp1
  replace hD := upd_old (u := HO.tup [.ref D, .int (cs.length : Int)]) hD hp1
  replace mD : upd M1 p1 (.tup [.ref D, .int (cs.length : Int)]) D = none := by rw [upd_ne hDp1]; exact mD
  have hT1 : upd H1 p1 (.tup [.ref D, .int (cs.length : Int)]) p1 = some (.tup [.ref D, .int (cs.length : Int)]) := upd_same
  generalize upd M1 p1 (.tup [.ref D, .int (cs.length : Int)]) = M1 at S1 B1 mD
  generalize upd H1 p1 (.tup [.ref D, .int (cs.length : Int)]) = H1 at S1 B1 hD hT1 ⊢
  refine g_pair hT1 ?_
  walk_at "vc"
  obtain ⟨F, W, mf⟩ := mapF_ex seeds pic (blk cs.length) (blk cs'.length)
  refine ⟨.ref ua, p, seeds, cs.length, cs'.length, _, pic, F, W, rfl, hcl, hcl', A.B.sl, A.B.sn, fun s hs => ⟨by rw [kd_val, if_pos (hpk s hs)], hpl s hs⟩, A.B.le, mf, M1, S1.mh, iu.mono S1.mm, S1.mm _ _ hp, And.symm (rows_of fun vf M2 H2 S2 hv => ?_)⟩
  obtain ⟨mD2, hD2⟩ := S2.keep mD hD
  have B2 := B1.keep S2
  have S2' := S1.trans S2.of
  clear S1 S2 B1 mD hD
  have T2 : Stp no (upd M2 D (.dK (kd (fun s => .str (pic s)) ks1))) H2 (upd M2 D (.dK (kd (fun s => .str (pic s)) ks1))) H2 := Stp.refl fun y v e => by
    by_cases q : y = D
    · subst q; rw [upd_same] at e; rw [hD2]; exact e
    · rw [upd_ne q] at e; exact S2'.mh y v e
  have hDf : upd M2 D (.dK (kd (fun s => .str (pic s)) ks1)) D = some (.dK (kd (fun s => .str (pic s)) ks1)) := upd_same
  have sf : Same M2 (upd M2 D (.dK (kd (fun s => .str (pic s)) ks1))) := same_upd mD2
  have Bf : Bag (upd M2 D (.dK (kd (fun s => .str (pic s)) ks1))) H2 b := B2.fix hDb (.inl mD2)
  have Sf : Stp (exB b) M H (upd M2 D (.dK (kd (fun s => .str (pic s)) ks1))) H2 := S2'.fix hD2 hD0
  have back : ∀ M' H', Stp no (upd M2 D (.dK (kd (fun s => .str (pic s)) ks1))) H2 M' H' → Stp (exB b) M H (del M' D) H' := fun M' H' T => S2'.trans (Stp.unfix mD2 (by rw [hD2]; exact Option.some_ne_none _) T.of)
  have backs : ∀ M' H', Stp no (upd M2 D (.dK (kd (fun s => .str (pic s)) ks1))) H2 M' H' → Same M2 (del M' D) := fun M' H' T => (Stp.unfix mD2 (by rw [hD2]; exact Option.some_ne_none _) T).mm
  generalize hMf : upd M2 D (.dK (kd (fun s => .str (pic s)) ks1)) = Mf at T2 hDf sf Bf Sf back backs
  have hpf := sf _ _ (S2'.mm _ _ hp)
  have ibf := (ib.mono S2'.mm).mono sf
  have iof := (io.mono S2'.mm).mono sf
  have iuf := (iu.mono S2'.mm).mono sf
  walk_at "vc"
  refine told_was (wy := 0) A (by decide) mf hpm1' T2.mh ibf iof hDf fun v3 M3 H3 S3 h3 => ?_
  walk_at "vc"
  refine told_was (wy := 1) A (by decide) mf hpm1' S3.mh (ibf.mono S3.mm) (iof.mono S3.mm) (S3.mm _ _ hDf) fun v4 M4 H4 S4 h4 => ?_
  have S4' := S3.trans S4
  walk_at "vc"
  refine ⟨D, _, rfl, S4.mh _ _ (S4'.mm _ _ hDf), ?_⟩
  walk_at "vc"
  refine ⟨p, _, rfl, S4.mh _ _ (S4'.mm _ _ hpf), ?_⟩
  rw [kd_len, kd_len, hkl1, hkl]
  walk_at "vc"
  refine ifnT rfl ?_
  walk_at "vc"
  have hp4 := S4'.mm _ _ hpf
  have hDp : D ≠ p := fun z => by rw [z, S2'.mm _ _ hp] at mD2; cases mD2
  have hD4 := S4'.mm _ _ hDf
  refine ⟨p, _, S4.mh _ _ hp4, trivial, fun od => ?_⟩
  have sl := same_lock (p := p) (u := .frz od (.dK (kd (fun s => .str (pic s)) ks))) S4.mh
  walk_at "vc"
  refine w_iKeysV rfl upd_same ?_
  have hDl : del M4 p D = some (.dK (kd (fun s => .str (pic s)) ks1)) := by rw [del_ne hDp]; exact hD4
  refine lc_go (ex := no) walk_keys sl (fun i acc _ => acc = (List.replicate i true).map V.bl) rfl (fun _ _ S => S.same _ _ upd_same) ?_ ?_
  · rintro i y acc M5 H5 H5' D5 hi S5 hD5 m5 h5 rfl ⟨rfl, kx, vx, hkv, rfl⟩
    obtain ⟨s, hs, e⟩ := get_map hkv
    cases e
    rw [kd_len] at hi
    have hsm : s ∈ seeds := A.pm.mem_iff.mp (mem_of_get hs)
    walk_at "vc"
    refine ⟨rfl, ?_⟩
    refine w_yesI ?_
    walk_at "vc"
    refine kd_get (S5.mh _ _ (S5.mm _ _ hDl)) (hk1 s hsm) ?_
    walk_at "vc"
    have g := S5.same _ _ (show upd H4 p (HO.frz od (.dK (kd (fun s => .str (pic s)) ks))) p = some (HO.frz od (.dK (kd (fun s => .str (pic s)) ks))) from upd_same)
    refine ⟨p, .str (pic s), rfl, .inl ⟨_, .inr s, .inr ⟨od, g⟩, rfl, by rw [kd_val, if_pos (hpk s hsm)]⟩, ?_⟩
    walk_at "vc"
    rw [decide_eq_true rfl]
    exact LcA.of hD5 S5 m5 h5 (by rw [List.length_map, List.length_replicate]; omega) (by rw [List.replicate_succ', List.map_append]; rfl)
  · rintro D5 acc M5 H5 hD5 S5 m5 h5 rfl
    refine ⟨S5.same _ _ upd_same, ?_⟩
    have hDp5 : D5 ≠ p := fun z => by rw [z, upd_same] at hD5; cases hD5
    have S6 := S4'.trans (Stp.unlock S4.mh hp4 S5)
    have h6 : upd H5 p (.dK (kd (fun s => .str (pic s)) ks)) D5 = some (.lst ((List.replicate (kd (fun s => V.str (pic s)) ks).length true).map V.bl)) := by rw [upd_ne hDp5]; exact h5
    have s6 := (Stp.unlock S4.mh hp4 S5).mm
    generalize upd M5 p (.dK (kd (fun s => .str (pic s)) ks)) = M6 at S6 s6
    generalize upd H5 p (.dK (kd (fun s => .str (pic s)) ks)) = H6 at S6 h6 ⊢
    clear S5 h5 m5 hD5 sl
    walk_at "vc"
    refine ⟨D5, _, rfl, h6, ?_⟩
    rw [all_yes]
    walk_at "vc"
    refine ⟨rfl, _, rfl, ?_⟩
    have B6 := Bf.keep S6
    have p6 := S6.mm _ _ hpf
    replace h3 : _ := h3
    rcases hv with ⟨hh, Df, rfl, hF⟩ | ⟨hh, rfl⟩
    · obtain ⟨_, hx3⟩ := h3.resolve_right fun z => z.1 hh
      obtain ⟨_, hx4⟩ := h4.resolve_right fun z => z.1 hh
      obtain ⟨_, i3⟩ := hx3.resolve_right fun z => by omega
      obtain ⟨_, ss, U, D', rfl, hpms, hsds, hU, hD'⟩ := hx4.resolve_left fun z => by omega
      replace i3 := (i3.mono S4.mm).mono s6
      replace hU := s6 _ _ hU
      replace hD' := s6 _ _ hD'
      have hssl : ss.length = seeds.length := hpms.length_eq
      walk_at "vc"
      intro d hd
      have hdD : d ≠ D := fun z => by rw [z, S6.mh _ _ (S6.mm _ _ hDf)] at hd; cases hd
      have md : M6 d = none := S6.mfree hd
      have hd0 := S6.hfree hd
      have S7 := S6.new (.dK []) hd
      have hd7 : upd H6 d (.dK []) d = some (.dK (kd (fun s => .str (pic s)) [])) := upd_same
      have T7 := (Stp.refl (ex := no) S6.mh).new (.dK []) hd
      generalize upd H6 d (.dK []) = H7 at S7 hd7 T7 ⊢
      walk_at "vc"
      refine ⟨ua, seeds, rfl, SqL.of (S7.mh _ _ (S6.mm _ _ (sf _ _ (S2'.mm _ _ hua)))), h64, fun ss2 sp hpm2 hsd2 hsp => ?_⟩
      obtain rfl : ss2 = ss := sorted_one (hpm2.trans hpms.symm) (sorted_pw hsd2) (sorted_pw hsds)
      have hdsp : d ≠ sp := fun z => by rw [← z, hd7] at hsp; cases hsp
      have S8 := S7.lay (.lst (ss2.map V.str)) hsp
      have s8 : Same M6 (upd M6 sp (.lst (ss2.map V.str))) := same_upd (S7.mfree hsp)
      have hsp8 : upd M6 sp (.lst (ss2.map V.str)) sp = some (.lst (ss2.map V.str)) := upd_same
      have md8 : upd M6 sp (.lst (ss2.map V.str)) d = none := by rw [upd_ne hdsp]; exact md
      have hd8 := upd_old (u := HO.lst (ss2.map V.str)) hd7 hsp
      have p8 := s8 _ _ p6
      replace i3 := i3.mono s8
      replace hU := s8 _ _ hU
      replace hD' := s8 _ _ hD'
      generalize upd M6 sp (.lst (ss2.map V.str)) = M8 at S8 s8 hsp8 md8 p8 i3 hU hD'
      generalize upd H7 sp (.lst (ss2.map V.str)) = H8 at S8 hd8 ⊢
      have nd : ss2.Nodup := hpm2.nodup_iff.mpr A.nd
      dsimp only
      refine ⟨sp, rfl, ⟨_, SqL.of (S8.mh _ _ hsp8)⟩, ?_⟩
      refine fo_go walkL (fun i σ' H' => ∃ o12, σ' = [some (.ref b), some (.ref ua), some (.ref xa), some (.ref a), some (.ref o), some (.int (cs'.length : Int)), some (.ref p), some (.ref D), some (.int (cs.length : Int)), some (.ref Df), some v3, some (.ref U), o12, some (.ref d), none, none] ∧ Stp no Mf H2 M8 H' ∧ H' d = some (.dK (kd (fun s => .str (pic s)) (ss2.take i)))) ⟨_, rfl, S8, hd8⟩ (fun _ _ _ _ ⟨_, _, S, _⟩ => S.mh _ _ hsp8) ?_ ?_
      · rintro i y σ9 H9 H9' hi ⟨o12, rfl, S9, hd9⟩ ⟨rfl, hy⟩
        obtain ⟨s, hs, rfl⟩ := map_at hy
        have hsm : s ∈ seeds := hpm2.mem_iff.mp (mem_of_get hs)
        walk_at "vc"
        refine kd_get (S9.mh _ _ p8) (hpk s hsm) ?_
        walk_at "vc"
        refine kd_set hd9 (nodup_at nd hs) (by rw [List.length_take]; omega) rfl ?_
        walk_at "vc"
        refine ⟨_, rfl, S9.put _ md8 (.inl hd0), ?_⟩
        rw [upd_same, tk_snoc hs]
      · rintro σ9 H9 ⟨o12, rfl, S9, hd9⟩
        rw [List.length_map, List.take_length] at hd9
        have S10 := S9.fix hd9 hd0
        have s10 : Same M8 (upd M8 d (.dK (kd (fun s => .str (pic s)) ss2))) := same_upd md8
        have hd10 : upd M8 d (.dK (kd (fun s => .str (pic s)) ss2)) d = some (.dK (kd (fun s => .str (pic s)) ss2)) := upd_same
        replace i3 := i3.mono s10
        replace hU := s10 _ _ hU
        replace hD' := s10 _ _ hD'
        generalize upd M8 d (.dK (kd (fun s => .str (pic s)) ss2)) = M10 at S10 hd10 i3 hU hD'
        have hU10 := hU
        walk_at "vc"
        intro q1 hq1
        have S11 := S10.lay (.lst [v3, .ref U]) hq1
        have s11 : Same M10 (upd M10 q1 (.lst [v3, .ref U])) := same_upd (S10.mfree hq1)
        have e11 : upd M10 q1 (.lst [v3, .ref U]) q1 = some (.lst [v3, .ref U]) := upd_same
        generalize upd M10 q1 (.lst [v3, .ref U]) = M11 at S11 s11 e11
        generalize upd H9 q1 (.lst [v3, .ref U]) = H11 at S11 ⊢
        walk_at "vc"
        intro q2 hq2
        have S12 := S11.lay (.tup [.str "told", .non]) hq2
        have s12 : Same M11 (upd M11 q2 (.tup [.str "told", .non])) := same_upd (S11.mfree hq2)
        have e12 : upd M11 q2 (.tup [.str "told", .non]) q2 = some (.tup [.str "told", .non]) := upd_same
        generalize upd M11 q2 (.tup [.str "told", .non]) = M12 at S12 s12 e12
        generalize upd H11 q2 (.tup [.str "told", .non]) = H12 at S12 ⊢
        walk_at "vc"
        intro q3 hq3
        have S13 := S12.lay (.tup [.str "told", .ref d]) hq3
        have s13 : Same M12 (upd M12 q3 (.tup [.str "told", .ref d])) := same_upd (S12.mfree hq3)
        have e13 : upd M12 q3 (.tup [.str "told", .ref d]) q3 = some (.tup [.str "told", .ref d]) := upd_same
        generalize upd M12 q3 (.tup [.str "told", .ref d]) = M13 at S13 s13 e13
        generalize upd H12 q3 (.tup [.str "told", .ref d]) = H13 at S13 ⊢
        walk_at "vc"
        intro q4 hq4
        have S14 := S13.lay (.lst [.ref q2, .ref q3]) hq4
        have s14 : Same M13 (upd M13 q4 (.lst [.ref q2, .ref q3])) := same_upd (S13.mfree hq4)
        have e14 : upd M13 q4 (.lst [.ref q2, .ref q3]) q4 = some (.lst [.ref q2, .ref q3]) := upd_same
        generalize upd M13 q4 (.lst [.ref q2, .ref q3]) = M14 at S14 s14 e14
        generalize upd H13 q4 (.lst [.ref q2, .ref q3]) = H14 at S14 ⊢
        have s24 := s12.trans (s13.trans s14)
        have s04 := s11.trans s24
        have sv : SV M14 6 (.ref q1) (.ref q4) := sv_told (s24 _ _ e11) e14 (i3.mono s04) (s13.trans s14 _ _ e12) (s04 _ _ hU) (s14 _ _ e13) (s04 _ _ hD') (s04 _ _ hd10) (by omega)
        have hd14 := s04 _ _ hd10
        clear S11 S12 S13 S10 S9 S8 e11 e12 e13 e14 s11 s12 s13 s14 s24 s04
        walk_at "vc"
        refine ⟨.ref q1, .ref q4, rfl, M14, S14.mh, sv, ?_⟩
        rintro v15 M15 H15 S15 rfl
        have S15' := S14.trans S15
        have hd15 := S15.mm _ _ hd14
        clear S14 S15 sv hd14
        walk_at "vc"
        refine w_makeR ?_
        walk_at "vc"
        intro x dx hx hdx hne
        have hD15 := S15'.mm _ _ hDf
        refine ⟨x, dx, a, o, .ref D, cs, cs', seeds, rows, seeds', rows', H15, M15, rfl, rfl, hx, hdx, hne, A.B, A.nd, A.h64, S15'.mh, ibf.mono S15'.mm, iof.mono S15'.mm, picV_kd hD15 (by omega), fun p' kvs pic' G => ?_, fun hn => (hn (goodP_kd hD15 hpm1' A.pr)).elim⟩
        have e := picG_kd hD15 hk1 G
        refine ⟨F, W, mf.cong e, fun _ ss3 M16 H16 hpm3 hsd3 S16 hx3 => ?_, fun n => (n ((Hom.cong e).mpr hh)).elim⟩
        obtain rfl : ss3 = ss2 := sorted_one (hpm3.trans hpm2.symm) (sorted_pw hsd3) (sorted_pw hsd2)
        refine ⟨rfl, ?_⟩
        have S16' := S15'.trans S16
        have hDh : H15 D ≠ none := by rw [S15'.mh _ _ hD15]; exact Option.some_ne_none _
        have hxD : x ≠ D := fun z => hDh (by rw [← z]; exact hx)
        have S17 := back _ _ S16'
        have s17 := backs _ _ S16'
        have B17 := (Bf.keep S16').unfix (S16'.mm _ _ hDf)
        have ib17 := (ib.mono S2'.mm).mono s17
        have mo := ((hx3.cong fun s hs => e s (hpm3.mem_iff.mp hs)).del hDh hxD).o ib17
        have hd17 : del M16 D d = some (.dK (kd (fun s => .str (pic s)) ss3)) := by rw [del_ne hdD]; exact S16.mm _ _ hd15
        have hF17 := s17 _ _ hF
        have mD17 : del M16 D D = none := del_same
        have hD16 := S16'.mh _ _ (S16'.mm _ _ hDf)
        generalize del M16 D = M17 at S17 s17 B17 ib17 mo hd17 hF17 mD17
        clear S16 S16' S15' hx3 hx hdx hne hDh hd15
        walk_at "vc"
        refine w_bM0 ?_
        walk_at "vc"
        refine ⟨.inr (.inr (.inl ⟨rfl, .inl ⟨_, hD16⟩⟩)), D, _, rfl, rfl, hD16, ?_⟩
        have S18 := S17.put (.dK []) mD17 (.inl hD0)
        have B18 := B17.put (o := .dK []) mD17 hDb
        generalize upd H16 D (.dK []) = H18 at S18 B18 ⊢
        have hrl : rows.length ≤ 40 := by rw [A.rw.length_eq]; exact A.B.le
        walk_at "vc"
        refine ⟨b, .ref xa, 8, rows.map Dat.str, rfl, by rw [List.length_map]; omega, by decide, M17, S18.mh, B18, (ix.mono S17.mm).q, ?_⟩
        rintro d19 v19 M19 H19 ⟨es, rfl, hsub⟩ S19 B19 i19
        obtain ⟨ys, rfl, hys⟩ := sub_strs hsub
        obtain ⟨ya, rfl, hya⟩ := i19.strs
        have S19' := S18.trans S19
        replace mo := mo.mono S19.mm
        replace hd17 := S19.mm _ _ hd17
        replace hF17 := S19.mm _ _ hF17
        have sh19 := S19.mh
        walk_at "vc"
        refine ⟨ya, rfl, ⟨_, SqL.of (S19.mh _ _ hya)⟩, ?_⟩
        clear S19 S18 S17 B18 B17 i19
        refine fo_go walkL (fun i σ' H' => ∃ o12 o15 M', σ' = [some (.ref b), some (.ref ua), some (.ref xa), some (.ref a), some (.ref o), some (.int (cs'.length : Int)), some (.ref p), some (.ref D), some (.int (cs.length : Int)), some (.ref Df), some v3, some (.ref U), o12, some (.ref d), some (.ref x), o15] ∧ Stp no M19 H19 M' H') ⟨_, _, M19, rfl, Stp.refl sh19⟩ (fun _ _ _ _ ⟨_, _, _, _, S⟩ => S.mh _ _ (S.mm _ _ hya)) ?_ ?_
        · rintro i y σ20 H20 H20' hi ⟨o12', o15, M20, rfl, S20⟩ ⟨rfl, hy⟩
          obtain ⟨r, hr0', rfl⟩ := map_at hy
          have hr : r ∈ rows := hys r (mem_of_get hr0')
          have hrR := A.rw.mem_iff.mp hr
          have mo20 := mo.mono S20.mm
          obtain ⟨dx1, a1, vo, sp1, rp1, g1, _⟩ := id mo20
          walk_at "vc"
          refine w_meth ?_
          walk_at "vc"
          refine ⟨x, dx1, _, rfl, S20.mh _ _ g1, rfl, ?_⟩
          walk_at "vc"
          refine ⟨x, r, cs, seeds, rows, ss3, pic, F, _, rfl, A.co, A.ro r hr, hr, hrR, M20, S20.mh, mo20, ?_⟩
          rintro v21 M21 H21 S21 rfl
          walk_at "vc"
          refine w_callI ?_
          walk_at "vc"
          refine ⟨x, rfl, ?_⟩
          walk_at "vc"
          refine ⟨.inr ⟨dx1, _, S21.mh _ _ (S21.mm _ _ g1)⟩, x, r, cs, seeds, rows, ss3, pic, F, _, rfl, A.co, A.ro r hr, hr, hrR, M21, S21.mh, mo20.mono S21.mm, ?_⟩
          rintro v22 M22 H22 S22 rfl
          have S22' := (S20.trans S21).trans S22
          clear S20 S21 S22 mo20
          walk_at "vc"
          intro q1 hq1
          have S23 := S22'.lay (.lst [.str (F r), .str (F r)]) hq1
          have e23 : upd M22 q1 (.lst [.str (F r), .str (F r)]) q1 = some (.lst [.str (F r), .str (F r)]) := upd_same
          generalize upd M22 q1 (.lst [.str (F r), .str (F r)]) = M23 at S23 e23
          generalize upd H22 q1 (.lst [.str (F r), .str (F r)]) = H23 at S23 ⊢
          walk_at "vc"
          refine kd_get (S23.mh _ _ (S23.mm _ _ hF17)) hrR ?_
          walk_at "vc"
          refine kd_get (S23.mh _ _ (S23.mm _ _ hF17)) hrR ?_
          walk_at "vc"
          intro q2 hq2
          have S24 := S23.lay (.lst [.str (F r), .str (F r)]) hq2
          have e24 : upd M23 q2 (.lst [.str (F r), .str (F r)]) q2 = some (.lst [.str (F r), .str (F r)]) := upd_same
          have e23' : upd M23 q2 (.lst [.str (F r), .str (F r)]) q1 = some (.lst [.str (F r), .str (F r)]) := same_upd (S23.mfree hq2) _ _ e23
          generalize upd M23 q2 (.lst [.str (F r), .str (F r)]) = M24 at S24 e24 e23'
          generalize upd H23 q2 (.lst [.str (F r), .str (F r)]) = H24 at S24 ⊢
          walk_at "vc"
          refine ⟨.ref q1, .ref q2, rfl, M24, S24.mh, .dat (d := dS [F r, F r]) (pl_strs (Nat.le_of_ble_eq_true rfl)) (Is.of_strs e23') (Is.of_strs e24), ?_⟩
          rintro v25 M25 H25 S25 rfl
          walk_at "vc"
          exact ⟨_, _, M25, rfl, S24.trans S25⟩
        · rintro σ20 H20 ⟨o12', o15, M20, rfl, S20⟩
          have mo20 := mo.mono S20.mm
          obtain ⟨dx1, a1, vo, sp1, rp1, g1, _⟩ := id mo20
          walk_at "vc"
          refine w_meth ?_
          walk_at "vc"
          refine ⟨x, dx1, _, rfl, S20.mh _ _ g1, rfl, ?_⟩
          walk_at "vc"
          refine ⟨x, cs, seeds, rows, ss3, pic, F, _, rfl, M20, S20.mh, mo20, fun D21 M21 H21 S21 hD21 => ?_⟩
          walk_at "vc"
          refine ⟨.ref D21, .ref d, rfl, M21, S21.mh, .inr (.inr ⟨D21, d, ss3, pic, rfl, rfl, hD21, S21.mm _ _ (S20.mm _ _ hd17), by omega, by decide⟩), ?_⟩
          rintro v22 M22 H22 S22 rfl
          have S22' := (S20.trans S21).trans S22
          exact k _ _ (S19'.trans S22'.of) (B19.keep S22')
    · obtain ⟨_, w1, w2, tw, i3⟩ := h3.resolve_left fun z => hh z.1
      obtain ⟨_, w1', w2', tw', i4⟩ := h4.resolve_left fun z => hh z.1
      obtain ⟨rfl, rfl⟩ := tw'.one tw
      replace i3 := (i3.mono S4.mm).mono s6
      replace i4 := i4.mono s6
      obtain ⟨T3, e1, e2, rfl, hT3, rfl, i32⟩ := i3.un2
      walk_at "vc"
      refine w_ixt (j := ((0 : Nat) : Int)) (S6.mh _ _ hT3) (atI_nat rfl) ?_
      walk_at "vc"
      refine w_ixt (j := ((1 : Nat) : Int)) (S6.mh _ _ hT3) (atI_nat rfl) ?_
      walk_at "vc"
      refine ⟨.ref ua, e2, p, seeds, cs.length, cs'.length, _, pic, F, W, w1', w2', rfl, by omega, by omega, fun s hs => ⟨by rw [A.B.sn s hs]; omega, by rw [kd_val, if_pos (hpk s hs)], hpl s hs⟩, tw, M6, S6.mh, iuf.mono S6.mm, p6, i32, ?_⟩
      rintro v7 M7 H7 S7 rfl
      walk_at "vc"
      refine w_ixt (j := ((1 : Nat) : Int)) (S7.mh _ _ (S7.mm _ _ hT3)) (atI_nat rfl) ?_
      walk_at "vc"
      intro p8 hp8
      have S8 := (S6.trans S7).lay (.tup [.str "NotMap", e2]) hp8
      have s8 : Same M7 (upd M7 p8 (.tup [.str "NotMap", e2])) := same_upd (S7.mfree hp8)
      have i8 : Is (upd M7 p8 (.tup [.str "NotMap", e2])) (.tup [.str "NotMap", .tup [dS w1', dS w2']]) (.ref p8) := Is.tup2 upd_same rfl ((i32.mono S7.mm).mono s8)
      replace i4 := (i4.mono S7.mm).mono s8
      have B8 := Bf.keep S8
      generalize upd M7 p8 (.tup [.str "NotMap", e2]) = M8 at S8 i8 i4 B8
      generalize upd H7 p8 (.tup [.str "NotMap", e2]) = H8 at S8 B8 ⊢
      walk_at "vc"
      refine ⟨v4, .ref p8, rfl, M8, S8.mh, .dat (d := .tup [.str "NotMap", .tup [dS w1', dS w2']]) (pl_pair (Nat.le_trans tw.l1 (by decide)) (Nat.le_trans tw.l2 (by decide))) i4 i8, ?_⟩
      rintro v9 M9 H9 S9 rfl
      exact k _ _ (Sf.trans (S8.trans S9).of) (B8.keep S9)
end
end Nt
namespace Nt
section
variable {P : Program} {w : World} {K : PySem.W.Frag} {mg : Str → Option Value} {base : Heap}
/-- two lists of one's own -/
structure O2 (b : Addr) (H0 M H : Hp) (A G : Addr) (xs ys : List V) : Prop where
  ab : A ≠ b
  gb : G ≠ b
  ag : A ≠ G
  a0 : H0 A = none
  g0 : H0 G = none
  ma : M A = none
  mg : M G = none
  ha : H A = some (.lst xs)
  hg : H G = some (.lst ys)
theorem O2.step {b : Addr} {H0 M H M' H' : Hp} {A G : Addr} {xs ys : List V} (o : O2 b H0 M H A G xs ys) (S : Stp (exB b) M H M' H') : O2 b H0 M' H' A G xs ys := by
  obtain ⟨m1, h1⟩ := S.keepB o.ma o.ha o.ab
  obtain ⟨m2, h2⟩ := S.keepB o.mg o.hg o.gb
  exact ⟨o.ab, o.gb, o.ag, o.a0, o.g0, m1, m2, h1, h2⟩
theorem O2.new {b : Addr} {H0 M H : Hp} {A G p : Addr} {xs ys : List V} {u : HO} (o : O2 b H0 M H A G xs ys) (hp : H p = none) : O2 b H0 M (upd H p u) A G xs ys :=
  ⟨o.ab, o.gb, o.ag, o.a0, o.g0, o.ma, o.mg, upd_old o.ha hp, upd_old o.hg hp⟩
theorem O2.ne {b : Addr} {H0 M H : Hp} {A G p : Addr} {xs ys : List V} (o : O2 b H0 M H A G xs ys) (hp : H p = none) : A ≠ p ∧ G ≠ p := ⟨fun z => (by rw [← z, o.ha] at hp; cases hp), fun z => (by rw [← z, o.hg] at hp; cases hp)⟩
theorem O2.off {b : Addr} {H0 M H : Hp} {A G p : Addr} {xs ys : List V} {u : HO} (o : O2 b H0 M H A G xs ys) (h1 : A ≠ p) (h2 : G ≠ p) : O2 b H0 M (upd H p u) A G xs ys :=
  ⟨o.ab, o.gb, o.ag, o.a0, o.g0, o.ma, o.mg, by rw [upd_ne h1]; exact o.ha, by rw [upd_ne h2]; exact o.hg⟩
theorem O2.lay {b : Addr} {H0 M H : Hp} {A G p : Addr} {xs ys : List V} {u : HO} (o : O2 b H0 M H A G xs ys) (hp : H p = none) : O2 b H0 (upd M p u) (upd H p u) A G xs ys :=
  ⟨o.ab, o.gb, o.ag, o.a0, o.g0, by rw [upd_ne (o.ne hp).1]; exact o.ma, by rw [upd_ne (o.ne hp).2]; exact o.mg, upd_old o.ha hp, upd_old o.hg hp⟩
theorem O2.setA {b : Addr} {H0 M H : Hp} {A G : Addr} {xs xs' ys : List V} (o : O2 b H0 M H A G xs ys) : O2 b H0 M (upd H A (.lst xs')) A G xs' ys :=
  ⟨o.ab, o.gb, o.ag, o.a0, o.g0, o.ma, o.mg, upd_same, by rw [upd_ne (Ne.symm o.ag)]; exact o.hg⟩
theorem O2.setG {b : Addr} {H0 M H : Hp} {A G : Addr} {xs ys ys' : List V} (o : O2 b H0 M H A G xs ys) : O2 b H0 M (upd H G (.lst ys')) A G xs ys' :=
  ⟨o.ab, o.gb, o.ag, o.a0, o.g0, o.ma, o.mg, by rw [upd_ne o.ag]; exact o.ha, upd_same⟩
theorem int_dig : ∀ k : Nat, k < 4 → PySem.intText? (ch (48 + k)) = some ((k : Nat) : Int) := by decide +kernel
structure ShP (cs cs' : Cells) (sh : List (Nat × Str)) : Prop where
  pl : ∀ p ∈ sh, p.1 < cs.length
  tb : ∀ (k : Nat) (p : Nat × Str) (c c' : Str × Nat), sh[k]? = some p → cs[p.1]? = some c → cs'[k]? = some c' → (sl p.2).length = c.2 ∧ ∀ x ∈ sl p.2, 48 ≤ x ∧ x < 48 + c'.2
theorem ShP.nil {cs cs' : Cells} : ShP cs cs' [] := ⟨fun p h => (nomatch h), fun k p _ _ h => (nomatch h)⟩
theorem ShP.snoc {cs cs' : Cells} {sh : List (Nat × Str)} (h : ShP cs cs' sh) {j : Nat} {t : Str} {c c' : Str × Nat} (hj : cs[j]? = some c) (hc : cs'[sh.length]? = some c') (h1 : (sl t).length = c.2) (h2 : ∀ x ∈ sl t, 48 ≤ x ∧ x < 48 + c'.2) : ShP cs cs' (sh ++ [(j, t)]) := by
  refine ⟨fun p hp => ?_, fun k p d d' hp hd hd' => ?_⟩
  · rcases List.mem_append.mp hp with z | z
    · exact h.pl p z
    · rw [List.mem_singleton.mp z]; exact lt_of_get hj
  · by_cases q : k < sh.length
    · rw [List.getElem?_append_left q] at hp
      exact h.tb k p d d' hp hd hd'
    · have hl := lt_of_get hp
      rw [List.length_append] at hl
      have hk : k = sh.length := by
        have : [(j, t)].length = 1 := rfl
        omega
      subst hk
      rw [List.getElem?_append_right (Nat.le_refl _), Nat.sub_self] at hp
      cases hp
      rw [hj] at hd
      rw [hc] at hd'
      cases hd
      cases hd'
      exact ⟨h1, h2⟩
def sp_l_map : Sp := fun vs H Q _ => ∃ (b : Addr) (u v : V) (cs : Cells) (seeds : List Str), vs = [.ref b, u, v] ∧ CellsOk cs ∧ SeedsOk cs seeds ∧ seeds.length ≤ 5 ∧ (itB seeds (blk cs.length) 41).length ≤ 40 ∧ ∃ M, Same M H ∧ Bag M H b ∧ Is M (cellsD cs) u ∧ Is M (dS seeds) v ∧
  ∀ T p (x y : V) cs' seeds' pic M' H', MapR cs cs' seeds seeds' pic → Stp (exB b) M H M' H' → Bag M' H' b → M' T = some (.tup [x, y, .ref p]) → Is M' (cellsD cs') x → Is M' (dS seeds') y → M' p = some (.dK (kd (fun s => .str (pic s)) seeds)) → Q (.ref T) H'
theorem ok_l_map (T : Tx K mg) : Good P w K mg base CX0 4 (He.fAd K (He.DefD.at_ d_l_map)) p_l_map sp_l_map := by
  obtain ⟨fd, F⟩ := T.def_ 44 (d := d_l_map) rfl
  have g_l_clean : Good P w K mg base CX0 1 (He.fAd K (He.DefD.at_ d_l_clean)) p_l_clean sp_l_clean := ok_l_clean T
  have g_l_closure : Good P w K mg base CX0 2 (He.fAd K (He.DefD.at_ d_l_closure)) p_l_closure sp_l_closure := ok_l_closure T
  have g_l_names : Good P w K mg base CX0 3 (He.fAd K (He.DefD.at_ d_l_names)) p_l_names sp_l_names := ok_l_names T
  have g_l_pick : Good P w K mg base CX0 2 (He.fAd K (He.DefD.at_ d_l_pick)) p_l_pick sp_l_pick := ok_l_pick T
  have g_l_pull : Good P w K mg base CX0 1 (He.fAd K (He.DefD.at_ d_l_pull)) p_l_pull sp_l_pull := ok_l_pull T
  have g_l_seeds : Good P w K mg base CX0 2 (He.fAd K (He.DefD.at_ d_l_seeds)) p_l_seeds sp_l_seeds := ok_l_seeds T
  have g_l_turned : Good P w K mg base CX0 3 (He.fAd K (He.DefD.at_ d_l_turned)) p_l_turned sp_l_turned := ok_l_turned T
  refine good_of F sc_l_map (fun _ _ _ _ _ _ us hl => match us, hl with | [_, _, _], _ => rfl) (by intro vs H Q E h; (repeat obtain ⟨_, h⟩ := h); subst_vars; rfl) fun cdv A outer s H vs Q E hr h => ?_
  have hu := hu_of hr
  refine ⟨_, (pss_cons (ps_asg (pe_tup (pa_cons (pe_lst pa_nil) (pa_cons (pe_lst pa_nil) pa_nil))) (gq_tup K (n := 2) rfl (pgs_cons (pg_name (i := 3) sc_l_map.nd rfl (Or.inr rfl) (Or.inl rfl)) (pgs_cons (pg_name (i := 4) sc_l_map.nd rfl (Or.inr rfl) (Or.inl rfl)) pgs_nil))))  (pss_cons (ps_set (i := 5) sc_l_map.nd rfl (Or.inl rfl) (pe_good g_l_names (hr.mono (by decide)) rfl T.m_l_names (pa_cons (pv 0) (pa_cons (pe_op op_add pe_int (pe_good g_l_pull (hr.mono (by decide)) rfl T.m_l_pull (pa_cons (pv 0) (pa_cons pe_int pa_nil)))) pa_nil))))  (pss_cons (ps_setLc (i := 6) (own := [("_law_name", 7)]) (by rfl) sc_l_map.nd rfl rfl (sw_true rfl rfl rfl (by decide +kernel)) (iq_list K (pv 5)) (blkOk_by (own := [("_law_name", 7)]) (N := n_l_map) (sc := He.DefD.scope d_l_map) (by decide +kernel)) (fun _ _ _ _ _ => (pg_name (i := 7) sc_l_map.nd rfl (Or.inl rfl) (Or.inr rfl))) (fun _ _ _ _ _ => pts_nil) (fun _ _ _ _ _ => (pe_tup (pa_cons (pv 7) (pa_cons (pe_good g_l_pick (hr.mono (by decide)) rfl T.m_l_pick (pa_cons (pv 0) (pa_cons (pe_lst (pa_cons pe_int (pa_cons pe_int (pa_cons pe_int (pa_cons pe_int (pa_cons pe_int pa_nil)))))) pa_nil))) pa_nil)))))  (pss_cons (ps_for PassesOwn.never rfl (iq_list K (pv 6)) (gq_tup K (n := 2) rfl (pgs_cons (pg_name (i := 7) sc_l_map.nd rfl (Or.inl rfl) (Or.inl rfl)) (pgs_cons (pg_name (i := 8) sc_l_map.nd rfl (Or.inl rfl) (Or.inl rfl)) pgs_nil)))  (pss_cons (ps_par (i := 11) (j := 12) rfl sc_l_map.nd rfl rfl (by decide) rfl rfl (pa_cons (pe_good g_l_pull (hr.mono (by decide)) rfl T.m_l_pull (pa_cons (pv 0) (pa_cons (pe_callB cq_len (by rfl) T.b_len (by decide +kernel) (pa_cons (pv 1) pa_nil)) pa_nil))) (pa_cons (pe_cmpR op_eq (pe_good g_l_pull (hr.mono (by decide)) rfl T.m_l_pull (pa_cons (pv 0) (pa_cons pe_int pa_nil))) pe_int (nomark _)) pa_nil)) (by rfl))  (pss_cons (ps_expr (eq_bm PySem.F.slot_list_append PySem.F.type_list_append mt_append (pv 3) (pa_cons (pv 11) pa_nil)))  (pss_cons (ps_set (i := 9) sc_l_map.nd rfl (Or.inl rfl) (pe_lst pa_nil))  (pss_cons (ps_for PassesOwn.never rfl (pi_range1 (by rfl) T.b_range (pa_cons (pe_ix xq_tup (pe_ix xq_list (pv 1) (pv 11) (fun _ _ => rfl)) pe_int (fun _ _ => rfl)) pa_nil)) (pg_name (i := 10) sc_l_map.nd rfl (Or.inl rfl) (Or.inl rfl))  (pss_one (ps_expr (eq_bm PySem.F.slot_list_append PySem.F.type_list_append mt_append (pv 9) (pa_cons (pe_callTy call_str_int (by rfl) T.b_str (by decide +kernel) (pa_cons (pe_ifExp (PW.pt (pw_and (pt_val (pv 12)) (pw_and1 (pt_cmpR op_lt (pv 10) (pv 8) (nomark _))))) (pv 10) (pe_good g_l_pull (hr.mono (by decide)) rfl T.m_l_pull (pa_cons (pv 0) (pa_cons (pv 8) pa_nil)))) pa_nil)) pa_nil)))))  (pss_one (ps_expr (eq_bm PySem.F.slot_list_append PySem.F.type_list_append mt_append (pv 4) (pa_cons (pe_m1 PySem.F.slot_str_join PySem.F.type_str_join mq_join pe_str (pv 9)) pa_nil)))))))))  (pss_cons (ps_set (i := 13) sc_l_map.nd rfl (Or.inr rfl) pe_dnewK)  (pss_cons (ps_for PassesOwn.never rfl (iq_list K (pv 2)) (pg_name (i := 14) sc_l_map.nd rfl (Or.inr rfl) (Or.inl rfl))  (pss_cons (ps_setLc (i := 15) (own := [("_law_k", 10)]) (by rfl) sc_l_map.nd rfl rfl (sw_true rfl rfl rfl (by decide +kernel)) (pi_range1 (by rfl) T.b_range (pa_cons (pe_callB cq_len (by rfl) T.b_len (by decide +kernel) (pa_cons (pv 3) pa_nil)) pa_nil)) (blkOk_by (own := [("_law_k", 10)]) (N := n_l_map) (sc := He.DefD.scope d_l_map) (by decide +kernel)) (fun _ _ _ _ _ => (pg_name (i := 10) sc_l_map.nd rfl (Or.inl rfl) (Or.inr rfl))) (fun _ _ _ _ _ => pts_nil) (fun _ _ _ _ _ => (pe_tup (pa_cons (pe_ix ix_str (pv 14) (pe_ix xq_list (pv 3) (pv 10) (fun _ _ => rfl)) (fun _ _ => rfl)) (pa_cons (pe_ix xq_list (pv 4) (pv 10) (fun _ _ => rfl)) pa_nil)))))  (pss_one (ps_dput hu (pv 13) (pv 14) (pe_m1 PySem.F.slot_str_join PySem.F.type_str_join mq_join pe_str (pe_lc (own := [("_law_sign", 16), ("_law_table", 9)]) (by rfl) sc_l_map.nd (iq_list K (pv 15)) (blkOk_by (own := [("_law_sign", 16), ("_law_table", 9)]) (N := n_l_map) (sc := He.DefD.scope d_l_map) (by decide +kernel)) (fun _ _ _ _ _ => (gq_tup K (n := 2) rfl (pgs_cons (pg_name (i := 16) sc_l_map.nd rfl (Or.inl rfl) (Or.inr rfl)) (pgs_cons (pg_name (i := 9) sc_l_map.nd rfl (Or.inl rfl) (Or.inr rfl)) pgs_nil)))) (fun _ _ _ _ _ => pts_nil) (fun _ _ _ _ _ => (pe_ifExp (pt_cmpR op_eq (pv 16) pe_str (nomark _)) pe_str (pe_ix ix_str (pv 9) (pe_callTy call_int_str (by rfl) T.b_int (by decide +kernel) (pa_cons (pv 16) pa_nil)) (fun _ _ => rfl)))))) rfl))))  (pss_cons (ps_set (i := 17) sc_l_map.nd rfl (Or.inl rfl) (pe_good g_l_clean (hr.mono (by decide)) rfl T.m_l_clean (pa_cons (pe_lc (own := [("_law_seed", 14)]) (by rfl) sc_l_map.nd (iq_list K (pv 2)) (blkOk_by (own := [("_law_seed", 14)]) (N := n_l_map) (sc := He.DefD.scope d_l_map) (by decide +kernel)) (fun _ _ _ _ _ => (pg_name (i := 14) sc_l_map.nd rfl (Or.inl rfl) (Or.inr rfl))) (fun _ _ _ _ _ => pts_nil) (fun _ _ _ _ _ => (pe_dget hu (pv 13) (pv 14) (fun _ _ => rfl)))) pa_nil)))  (pss_cons (ps_set (i := 18) sc_l_map.nd rfl (Or.inl rfl) (pe_good g_l_clean (hr.mono (by decide)) rfl T.m_l_clean (pa_cons (pe_op op_cat (pv 17) (pe_slice sq_list (pe_good g_l_seeds (hr.mono (by decide)) rfl T.m_l_seeds (pa_cons (pv 0) (pa_cons (pv 6) pa_nil))) po_none (po_some (pe_good g_l_pull (hr.mono (by decide)) rfl T.m_l_pull (pa_cons (pv 0) (pa_cons pe_int pa_nil)))))) pa_nil)))  (pss_cons (ps_if (pt_cmpR op_notN (pe_good g_l_closure (hr.mono (by decide)) rfl T.m_l_closure (pa_cons (pv 18) (pa_cons (pe_callB cq_len (by rfl) T.b_len (by decide +kernel) (pa_cons (pv 6) pa_nil)) (pa_cons pe_int pa_nil)))) pe_non (nomark _))  (pss_one (ps_set (i := 17) sc_l_map.nd rfl (Or.inl rfl) (pv 18)))  pss_nil)  (pss_one (ps_ret (pe_tup (pa_cons (pv 6) (pa_cons (pe_good g_l_turned (hr.mono (by decide)) rfl T.m_l_turned (pa_cons (pv 0) (pa_cons (pv 17) pa_nil))) (pa_cons (pv 13) pa_nil))))))))))))))), ?_⟩
  obtain ⟨b, u, v, cs, seeds, rfl, hc, hs, hs5, hle, M, s0, B, iu, iv, k⟩ := h
  obtain ⟨ua, uvs, rfl, hua, icv⟩ := iu
  obtain ⟨va, rfl, hva⟩ := iv.strs
  have hcl := icv.len
  rw [List.length_map] at hcl
  have hc1 := hc.l1
  have hc2 := hc.l2
  walk_at "vc"
  intro A hA
  have S1 := (Stp.refl (ex := exB b) s0).new (.lst []) hA
  have B1 := B.new (o := .lst []) s0 hA
  have hAb := B.ne hA
  have mA := none_of_same s0 hA
  have eA : upd H A (.lst []) A = some (.lst []) := upd_same
  generalize upd H A (.lst []) = H1 at S1 B1 eA ⊢
  walk_at "vc"
  intro G hG
  have hAG : A ≠ G := fun z => by rw [← z, eA] at hG; cases hG
  have hG0 := S1.hfree hG
  have mG := S1.mfree hG
  have hGb := B1.ne hG
  have S2 := S1.new (.lst []) hG
  have B2 := B1.new (o := .lst []) S1.mh hG
  have eA2 : upd H1 G (.lst []) A = some (.lst []) := upd_old eA hG
  have eG2 : upd H1 G (.lst []) G = some (.lst []) := upd_same
  generalize upd H1 G (.lst []) = H2 at S2 B2 eA2 eG2 ⊢
  clear S1 B1 eA hG
  have O : O2 b H M H2 A G [] [] := ⟨hAb, hGb, hAG, hA, hG0, mA, mG, eA2, eG2⟩
  clear eA2 eG2
  walk_at "vc"
  intro T0 hT0
  have S3 := S2.new (.tup [.ref A, .ref G]) hT0
  have B3 := B2.new (o := .tup [.ref A, .ref G]) S2.mh hT0
  have O3 := O.new (u := .tup [.ref A, .ref G]) hT0
  have eT3 : upd H2 T0 (.tup [.ref A, .ref G]) T0 = some (.tup [.ref A, .ref G]) := upd_same
  generalize upd H2 T0 (.tup [.ref A, .ref G]) = H3 at S3 B3 O3 eT3 ⊢
  clear S2 B2 O hT0
  refine g_pair eT3 ?_
  walk_at "vc"
  refine ⟨b, 4, rfl, by decide, by decide, M, S3.mh, B3, ?_⟩
  rintro d v4 M4 H4 ⟨j, rfl, hj⟩ S4 B4 rfl
  have O4 := O3.step S4
  have S4' := S3.trans S4
  walk_at "vc"
  refine ⟨b, 1 + j, rfl, by omega, M4, S4.mh, B4, ?_⟩
  rintro d v5 M5 H5 ⟨nms, rfl, hnl, hnd, hok⟩ S5 B5 i5
  obtain ⟨na, rfl, hna⟩ := i5.strs
  have O5 := O4.step S5
  have S5' := S4'.trans S5
  clear S3 B3 O3 eT3 S4 S4' B4 O4 S5 i5
  walk_at "vc"
  refine ⟨na, rfl, ⟨_, SqL.of (S5'.mh _ _ hna)⟩, ?_⟩
  refine lc_goB walkL S5'.mh B5 (fun n acc M' => ∃ cs : Cells, cs.map (·.1) = nms.take n ∧ (∀ c ∈ cs, 1 ≤ c.2 ∧ c.2 ≤ 4) ∧ IsA M' (cs.map cellD) acc) ⟨[], rfl, by simp, rfl⟩ (fun _ _ S => S.mh _ _ (S.mm _ _ hna)) ?_ ?_
  · rintro n v acc M6 H6 H6' D hn S6 B6 hD neD m6 h6 ⟨cs2, hcs, hm, ia⟩ ⟨rfl, hv⟩
    obtain ⟨nm, hnm, rfl⟩ := map_at hv
    walk_at "vc"
    refine ⟨rfl, ?_⟩
    walk_at "vc"
    intro p hp
    have S7 := S6.lay (.lst [.int 2, .int 3, .int 2, .int 1, .int 4]) hp
    have B7 := B6.lay (o := .lst [.int 2, .int 3, .int 2, .int 1, .int 4]) S6.mh hp
    walk_at "vc"
    refine ⟨b, .ref p, [.int (2 : Nat), .int (3 : Nat), .int (2 : Nat), .int (1 : Nat), .int (4 : Nat)], rfl, by decide, by decide, _, S7.mh, B7, ⟨p, _, rfl, .inl upd_same, IsA.ints (xs := [2, 3, 2, 1, 4]).mpr rfl⟩, ?_⟩
    rintro d v M8 H8 hd S8 B8 i8
    obtain ⟨mm, rfl, hm1, hm2⟩ : ∃ m : Nat, v = .int m ∧ 1 ≤ m ∧ m ≤ 4 := by
      simp only [List.mem_cons, List.not_mem_nil, or_false] at hd
      rcases hd with rfl | rfl | rfl | rfl | rfl
      · exact ⟨2, i8, by decide, by decide⟩
      · exact ⟨3, i8, by decide, by decide⟩
      · exact ⟨2, i8, by decide, by decide⟩
      · exact ⟨1, i8, by decide, by decide⟩
      · exact ⟨4, i8, by decide, by decide⟩
    have hDp : D ≠ p := fun z => by rw [← z, h6] at hp; cases hp
    obtain ⟨m8, h8⟩ := S8.keepB (by rw [upd_ne hDp]; exact m6) (by rw [upd_ne hDp]; exact h6) neD
    have S9 := S7.trans S8
    walk_at "vc"
    intro T hT
    have S10 := S9.lay (.tup [.str nm, .int mm]) hT
    have hDT : D ≠ T := fun z => by rw [← z, h8] at hT; cases hT
    refine LcB.of hD neD S10 (B8.lay S9.mh hT) (by rw [upd_ne hDT]; exact m8) (by rw [upd_ne hDT]; exact h8) ?_ ⟨cs2 ++ [(nm, mm)], ?_, ?_, ?_⟩
    · have := ia.len
      rw [List.length_map] at this
      have e := congrArg List.length hcs
      rw [List.length_map, List.length_take] at e
      omega
    · rw [List.map_append, hcs, tk_snoc hnm]
      rfl
    · intro c hc
      rcases List.mem_append.mp hc with z | z
      · exact hm c z
      · rw [List.mem_singleton.mp z]; exact ⟨hm1, hm2⟩
    · rw [List.map_append]
      have s7 : Same M6 (upd M8 T (.tup [.str nm, .int mm])) := (((Stp.refl (ex := exB b) S6.mh).lay (.lst [.int 2, .int 3, .int 2, .int 1, .int 4]) hp).trans S8 |>.lay _ hT).mm
      exact (ia.mono s7).snoc (Is.cellOf upd_same)
  · rintro D acc M6 H6 hD neD S6 B6 m6 h6 ⟨cs', hcs, hm, ia⟩
    rw [List.length_map, tk_all] at hcs
    have e := congrArg List.length hcs
    rw [List.length_map] at e
    have hc' : CellsOk cs' := ⟨by omega, by omega, by rw [hcs]; exact hnd, fun c hc => hok _ (by rw [← hcs]; exact List.mem_map.mpr ⟨c, hc, rfl⟩), hm⟩
    have hl4 : cs'.length ≤ 4 := by omega
    have O6 := (O5.step S6)
    have hnD := O5.ne hD
    have S7 := S5'.trans (S6.fix h6 hD)
    have B7 : Bag (upd M6 D (.lst acc)) H6 b := B6.fix neD (.inl m6)
    have ic' : IsA (upd M6 D (.lst acc)) (cs'.map cellD) acc := ia.mono (same_upd m6)
    have hD7 : upd M6 D (.lst acc) D = some (.lst acc) := upd_same
    have O7 : O2 b H (upd M6 D (.lst acc)) H6 A G [] [] := ⟨O6.ab, O6.gb, O6.ag, O6.a0, O6.g0, by rw [upd_ne hnD.1]; exact O6.ma, by rw [upd_ne hnD.2]; exact O6.mg, O6.ha, O6.hg⟩
    generalize upd M6 D (.lst acc) = M7 at S7 B7 ic' hD7 O7
    clear S6 B6 m6 ia O6 O5 S5' B5 hD
    have hal : acc.length = cs'.length := by have := ic'.len; rw [List.length_map] at this; exact this
    walk_at "vc"
    refine ⟨D, rfl, ⟨_, SqL.of (S7.mh _ _ hD7)⟩, ?_⟩
    refine fo_go walkL (fun i σ' H' => ∃ o7 o8 o9 o10 o11 o12 M' sh, σ' = [some (.ref b), some (.ref ua), some (.ref va), some (.ref A), some (.ref G), some (.ref na), some (.ref D), o7, o8, o9, o10, o11, o12, none, none, none, none, none, none] ∧ Stp (exB b) M H M' H' ∧ Same M7 M' ∧ Bag M' H' b ∧
      O2 b H M' H' A G (sh.map fun p => .int (p.1 : Int)) (sh.map fun p => .str p.2) ∧ sh.length = i ∧ ShP cs cs' sh) ⟨_, _, _, _, _, _, M7, [], rfl, S7, Same.refl _, B7, O7, rfl, ShP.nil⟩ (fun _ _ _ _ ⟨_, _, _, _, _, _, _, _, _, S, s, _⟩ => S.mh _ _ (s _ _ hD7)) ?_ ?_
    · rintro i y σ8 H8 H8' hi ⟨o7, o8, o9, o10, o11, o12, M8, sh, rfl, S8, s8, B8, O8, hsl, hsp⟩ ⟨rfl, hy⟩
      obtain ⟨k0, a0, hk0, rfl, ha0⟩ := cells_at ic' hy
      have hm0 := hm k0 (mem_of_get hk0)
      refine g_pair (S8.mh _ _ (s8 _ _ ha0)) ?_
      walk_at "vc"
      refine ⟨ua, uvs, rfl, .inl (S8.mh _ _ (S8.mm _ _ hua)), ?_⟩
      walk_at "vc"
      refine ⟨b, uvs.length, rfl, by omega, by omega, M8, S8.mh, B8, ?_⟩
      rintro d v9 M9 H9 ⟨j1, rfl, hj1⟩ S9 B9 rfl
      have O9 := O8.step S9
      have S9' := S8.trans S9
      walk_at "vc"
      refine ⟨b, 2, rfl, by decide, by decide, M9, S9.mh, B9, ?_⟩
      rintro d v10 M10 H10 ⟨j2, rfl, hj2⟩ S10 B10 rfl
      have O10 := O9.step S10
      have S10' := S9'.trans S10
      have s10 := s8.trans (S9.trans S10).mm
      clear S8 S9 S9' S10 O9 O8 B8 B9
      walk_at "vc"
      generalize hpl : decide (((j2 : Nat) : Int) = 0) = pl
      refine ⟨⟨A, _, rfl, O10.ha⟩, ?_⟩
      walk_at "vc"
      refine ⟨A, _, _, rfl, rfl, O10.ha, line_lt (by rw [List.length_map]; omega), ?_⟩
      have S11 := S10'.put (.lst ((sh.map fun p => V.int (p.1 : Int)) ++ [.int (j1 : Int)])) O10.ma (.inl O10.a0)
      have B11 := B10.put (o := .lst ((sh.map fun p => V.int (p.1 : Int)) ++ [.int (j1 : Int)])) O10.ma O10.ab
      have O11 := O10.setA (xs' := (sh.map fun p => V.int (p.1 : Int)) ++ [.int (j1 : Int)])
      generalize upd H10 A (.lst ((sh.map fun p => V.int (p.1 : Int)) ++ [.int (j1 : Int)])) = H11 at S11 B11 O11 ⊢
      clear S10' B10 O10
      walk_at "vc"
      intro Tb hTb
      have S12 := S11.new (.lst []) hTb
      have B12 := B11.new (o := .lst []) S11.mh hTb
      have O12 := O11.new (u := .lst []) hTb
      have hTb0 := S11.hfree hTb
      have mTb := S11.mfree hTb
      have hTbb := B11.ne hTb
      have hTne := O11.ne hTb
      have eTb : upd H11 Tb (.lst []) Tb = some (.lst []) := upd_same
      generalize upd H11 Tb (.lst []) = H12 at S12 B12 O12 eTb ⊢
      clear S11 B11 O11 hTb
      have hj1c : j1 < cs.length := by omega
      have hk := List.getElem?_eq_getElem hj1c
      obtain ⟨ak, hvk, hak⟩ := cells_get icv hk
      have hmk := hc.mn _ (List.getElem_mem hj1c)
      walk_at "vc"
      refine w_ixl (S12.mh _ _ (S12.mm _ _ hua)) (atI_nat hvk) ?_
      walk_at "vc"
      refine w_ixt (S12.mh _ _ (S12.mm _ _ hak)) rfl ?_
      walk_at "vc"
      refine w_r1 (n := cs[j1].2) (by omega) ?_
      rw [Int.toNat_natCast]
      refine fo_go walkR (fun n σ' H' => ∃ o10 M' tb, σ' = [some (.ref b), some (.ref ua), some (.ref va), some (.ref A), some (.ref G), some (.ref na), some (.ref D), some (.str k0.1), some (.int (k0.2 : Int)), some (.ref Tb), o10, some (.int (j1 : Int)), some (.bl pl), none, none, none, none, none, none] ∧ Stp (exB b) M H M' H' ∧ Same M10 M' ∧ Bag M' H' b ∧
        O2 b H M' H' A G ((sh.map fun p => V.int (p.1 : Int)) ++ [.int (j1 : Int)]) (sh.map fun p => .str p.2) ∧ M' Tb = none ∧ H' Tb = some (.lst ((tb.map ch).map V.str)) ∧ tb.length = n ∧ ∀ x ∈ tb, 48 ≤ x ∧ x < 48 + k0.2)
        ⟨_, M10, [], rfl, S12, Same.refl _, B12, O12, mTb, eTb, rfl, by simp⟩ (fun _ _ _ _ _ => trivial) ?_ ?_
      · rintro n x σ13 H13 H13' hn ⟨o10', M13, tb, rfl, S13, s13, B13, O13, mT13, hT13, htl, htb⟩ ⟨rfl, rfl⟩
        have S0 := Stp.refl (ex := exB b) S13.mh
        walk_at "vc"
        refine ⟨⟨Tb, _, rfl, hT13⟩, ?_⟩
        walk_at "vc"
        refine ifb (fun _ => ?_) (fun _ => ?_)
        · walk_at "vc"
          refine ifd (fun q => ?_) (fun q => ?_)
          · walk_at "vc"
            refine ⟨_, rfl, lo2 n (by omega), ?_⟩
            rw [dig n (by omega)]
            walk_at "vc"
            have S14' := S13.trans S0
            obtain ⟨mT, hT⟩ := S0.keepB mT13 hT13 hTbb
            refine ⟨Tb, _, _, rfl, rfl, hT, line_lt (by rw [List.length_map, List.length_map]; omega), ?_⟩
            refine ⟨_, M13, tb ++ [48 + n], rfl, S14'.put _ mT (.inl hTb0), s13.trans S0.mm, B13.put mT hTbb, (O13.step S0).off hTne.1 hTne.2, mT, by rw [upd_same]; simp, by rw [List.length_append, htl]; rfl, fun z hz => ?_⟩
            rcases List.mem_append.mp hz with z1 | z1
            · exact htb z z1
            · rw [List.mem_singleton.mp z1]; omega
          · walk_at "vc"
            refine ⟨b, k0.2, rfl, by omega, by omega, M13, S13.mh, B13, ?_⟩
            rintro _ v14 M14 H14 ⟨d, rfl, hd⟩ S14 B14 rfl
            replace hd : d < k0.2 := by omega
            walk_at "vc"
            refine ⟨_, rfl, lo2 d (by omega), ?_⟩
            rw [dig d (by omega)]
            walk_at "vc"
            have S14' := S13.trans S14
            obtain ⟨mT, hT⟩ := S14.keepB mT13 hT13 hTbb
            refine ⟨Tb, _, _, rfl, rfl, hT, line_lt (by rw [List.length_map, List.length_map]; omega), ?_⟩
            refine ⟨_, M14, tb ++ [48 + d], rfl, S14'.put _ mT (.inl hTb0), s13.trans S14.mm, B14.put mT hTbb, (O13.step S14).off hTne.1 hTne.2, mT, by rw [upd_same]; simp, by rw [List.length_append, htl]; rfl, fun z hz => ?_⟩
            rcases List.mem_append.mp hz with z1 | z1
            · exact htb z z1
            · rw [List.mem_singleton.mp z1]; omega
        · walk_at "vc"
          refine ⟨b, k0.2, rfl, by omega, by omega, M13, S13.mh, B13, ?_⟩
          rintro _ v14 M14 H14 ⟨d, rfl, hd⟩ S14 B14 rfl
          replace hd : d < k0.2 := by omega
          walk_at "vc"
          refine ⟨_, rfl, lo2 d (by omega), ?_⟩
          rw [dig d (by omega)]
          walk_at "vc"
          have S14' := S13.trans S14
          obtain ⟨mT, hT⟩ := S14.keepB mT13 hT13 hTbb
          refine ⟨Tb, _, _, rfl, rfl, hT, line_lt (by rw [List.length_map, List.length_map]; omega), ?_⟩
          refine ⟨_, M14, tb ++ [48 + d], rfl, S14'.put _ mT (.inl hTb0), s13.trans S14.mm, B14.put mT hTbb, (O13.step S14).off hTne.1 hTne.2, mT, by rw [upd_same]; simp, by rw [List.length_append, htl]; rfl, fun z hz => ?_⟩
          rcases List.mem_append.mp hz with z1 | z1
          · exact htb z z1
          · rw [List.mem_singleton.mp z1]; omega
      · rintro σ13 H13 ⟨o10', M13, tb, rfl, S13, s13, B13, O13, mT13, hT13, htl, htb⟩
        walk_at "vc"
        refine ⟨⟨G, _, rfl, O13.hg⟩, ?_⟩
        walk_at "vc"
        refine ⟨⟨_, rfl⟩, ?_⟩
        walk_at "vc"
        refine ⟨_, Tb, _, rfl, rfl, .inl hT13, join_size _ (by omega), ?_⟩
        rw [join_ch]
        walk_at "vc"
        refine ⟨G, _, _, rfl, rfl, O13.hg, line_lt (by rw [List.length_map]; omega), ?_⟩
        have O14 := O13.setG (ys' := (sh.map fun p => V.str p.2) ++ [.str (mkS tb)])
        refine ⟨_, _, _, _, _, _, M13, sh ++ [(j1, mkS tb)], rfl, S13.put _ O13.mg (.inl O13.g0), s10.trans s13, B13.put O13.mg O13.gb, ?_, by rw [List.length_append, hsl]; rfl, hsp.snoc hk (by rw [hsl]; exact hk0) (by rw [sl_mk]; exact htl) (by rw [sl_mk]; exact htb)⟩
        rw [List.map_append, List.map_append]
        exact O14
    · rintro σ8 H8 ⟨o7, o8, o9, o10, o11, o12, M8, sh, rfl, S8, s8, B8, O8, hsl, hsp⟩
      have S : ShOk cs cs' sh := ⟨by omega, hsp.pl, hsp.tb⟩
      obtain ⟨M9, S9, s9, B9, hA9, hG9⟩ : ∃ M9, Stp (exB b) M H M9 H8 ∧ Same M7 M9 ∧ Bag M9 H8 b ∧ M9 A = some (.lst (sh.map fun p => .int (p.1 : Int))) ∧ M9 G = some (.lst (sh.map fun p => .str p.2)) := by
        have m2 : upd M8 A (.lst (sh.map fun p => .int (p.1 : Int))) G = none := by rw [upd_ne (Ne.symm O8.ag)]; exact O8.mg
        exact ⟨_, (S8.fix O8.ha O8.a0).fix O8.hg O8.g0, s8.trans ((same_upd O8.ma).trans (same_upd m2)), (B8.fix O8.ab (.inl O8.ma)).fix O8.gb (.inl m2), by rw [upd_ne O8.ag, upd_same], upd_same⟩
      clear S8 B8 O8 s8
      have hsl4 : sh.length ≤ 4 := by rw [S.len]; exact hl4
      walk_at "vc"
      intro p hp
      have hp0 := S9.hfree hp
      have mp : M9 p = none := S9.mfree hp
      have S10 := (Stp.refl (ex := no) S9.mh).new (.dK []) hp
      have hp10 : upd H8 p (.dK []) p = some (.dK (kd (fun s => .str (pcS sh s)) [])) := upd_same
      have hpq := hp
      generalize upd H8 p (.dK []) = H10 at S10 hp10 ⊢
      have hva9 := S9.mm _ _ hva
      walk_at "vc"
      refine ⟨va, rfl, ⟨_, SqL.of (S10.mh _ _ hva9)⟩, ?_⟩
      refine fo_go walkL (fun i σ' H' => ∃ o7 o8 o9 o10 o11 o12 o14 o15 M', σ' = [some (.ref b), some (.ref ua), some (.ref va), some (.ref A), some (.ref G), some (.ref na), some (.ref D), o7, o8, o9, o10, o11, o12, some (.ref p), o14, o15, none, none, none] ∧ Stp no M9 H8 M' H' ∧ M' p = none ∧ H' p = some (.dK (kd (fun s => .str (pcS sh s)) (seeds.take i)))) ⟨_, _, _, _, _, _, _, _, M9, rfl, S10, mp, hp10⟩ (fun _ _ _ _ ⟨_, _, _, _, _, _, _, _, _, _, S, _⟩ => S.mh _ _ (S.mm _ _ hva9)) ?_ ?_
      · rintro i y σ11 H11 H11' hi ⟨o7, o8, o9, o10, o11, o12, o14, o15, M11, rfl, S11, mp11, hp11⟩ ⟨rfl, hy⟩
        obtain ⟨s, hsi, rfl⟩ := map_at hy
        have hsm := mem_of_get hsi
        have hrw := hs.rw s hsm
        have hA11 := S11.mm _ _ hA9
        have hG11 := S11.mm _ _ hG9
        walk_at "vc"
        refine ⟨A, _, rfl, .inl (S11.mh _ _ hA11), ?_⟩
        walk_at "vc"
        rw [List.length_map]
        refine w_r1 (n := sh.length) (by omega) ?_
        rw [Int.toNat_natCast]
        refine lc_go (ex := no) walkR S11.mh (fun n acc M' => IsA M' ((sh.take n).map fun p => .tup [.str (ch ((sl s).getD p.1 46)), .str p.2]) acc) rfl (fun _ _ _ => trivial) ?_ ?_
        · rintro n x acc M12 H12 H12' D2 hn S12 hD2 m12 h12 ia ⟨rfl, rfl⟩
          have hpn := List.getElem?_eq_getElem hn
          have hpl := S.pl _ (List.getElem_mem hn)
          have hal2 := ia.len
          rw [List.length_map, List.length_take] at hal2
          walk_at "vc"
          refine ⟨rfl, ?_⟩
          refine w_yesI ?_
          walk_at "vc"
          refine w_ixl (S12.mh _ _ (S12.mm _ _ hA11)) (atI_nat (by rw [List.getElem?_map, hpn]; rfl)) ?_
          refine ⟨s, _, _, rfl, rfl, line_of (by rw [row_len hrw]; omega), atI_nat (getD_at (by rw [hrw.1]; exact hpl)), ?_⟩
          walk_at "vc"
          refine w_ixl (S12.mh _ _ (S12.mm _ _ hG11)) (atI_nat (by rw [List.getElem?_map, hpn]; rfl)) ?_
          walk_at "vc"
          intro T2 hT2
          have hDT : D2 ≠ T2 := fun z => by rw [← z, h12] at hT2; cases hT2
          refine LcA.of hD2 (S12.lay _ hT2) (by rw [upd_ne hDT]; exact m12) (by rw [upd_ne hDT]; exact h12) (by omega) ?_
          rw [tk_snoc hpn, List.map_append]
          exact (ia.mono (same_upd (S12.mfree hT2))).snoc (Is.tup2 (d := .str (ch ((sl s).getD sh[n].1 46))) (e := .str sh[n].2) upd_same rfl rfl)
        · rintro D2 acc2 M12 H12 hD2 S12 m12 h12 ia
          rw [tk_all] at ia
          have hal2 := ia.len
          rw [List.length_map] at hal2
          have S13 := S12.fix h12 hD2
          obtain ⟨mp12, hp12⟩ := S12.keep mp11 hp11
          have hpD2 : p ≠ D2 := fun z => by rw [← z, hp11] at hD2; cases hD2
          have mp13 : upd M12 D2 (.lst acc2) p = none := by rw [upd_ne hpD2]; exact mp12
          have ia13 := ia.mono (same_upd (o := .lst acc2) m12)
          have hD13 : upd M12 D2 (.lst acc2) D2 = some (.lst acc2) := upd_same
          generalize upd M12 D2 (.lst acc2) = M13 at S13 mp13 ia13 hD13
          clear S12 m12 ia mp12
          walk_at "vc"
          refine ⟨⟨_, rfl⟩, ?_⟩
          walk_at "vc"
          refine ⟨D2, rfl, ⟨_, SqL.of (S13.mh _ _ hD13)⟩, ?_⟩
          have hpcl : (pcL sh (sl s)).length = sh.length := by unfold pcL; rw [List.length_map]
          refine lc_go (ex := no) walkL S13.mh (fun n acc _ => acc = (((pcL sh (sl s)).take n).map ch).map V.str) rfl (fun _ _ S => S.mh _ _ (S.mm _ _ hD13)) ?_ ?_
          · rintro n x acc3 M14 H14 H14' D3 hn S14 hD3 m14 h14 rfl ⟨rfl, hy3⟩
            obtain ⟨d, hd, id3⟩ := ia13.get hy3
            rw [List.getElem?_map] at hd
            obtain ⟨q, hq, rfl⟩ := Option.map_eq_some_iff.mp hd
            obtain ⟨T2, e1, e2, rfl, hT2, rfl, rfl⟩ := id3.un2
            have hql := S.pl q (mem_of_get hq)
            have hnl : n < cs'.length := by have := lt_of_get hq; rw [S.len] at this; exact this
            have hk' := List.getElem?_eq_getElem hnl
            have sgc := hrw.2 q.1 _ _ (getD_at (by rw [hrw.1]; exact hql)) (List.getElem?_eq_getElem hql)
            have sg2 := (hc.mn _ (List.getElem_mem hql)).2
            have pp := (pc_sg S hrw hq hk').2
            have hpn : (pcL sh (sl s))[n]? = some (pcC q.2 ((sl s).getD q.1 46)) := by unfold pcL; rw [List.getElem?_map, hq]; rfl
            have lns : (List.map V.str (List.map ch (List.take n (pcL sh (sl s))))).length ≤ 1000 := by rw [List.length_map, List.length_map, List.length_take]; omega
            refine g_pair (S14.mh _ _ (S14.mm _ _ hT2)) ?_
            walk_at "vc"
            refine ⟨rfl, ?_⟩
            refine w_yesI ?_
            walk_at "vc"
            generalize hcc : (sl s).getD q.1 46 = c at sgc pp hpn ⊢
            refine ifd (fun e => ?_) (fun e => ?_)
            · rw [dot_ofS] at e
              have ec : c = 46 := ch_inj.mp e
              subst ec
              walk_at "vc"
              refine LcA.of hD3 S14 m14 h14 (by omega) ?_
              rw [tk_snoc hpn, dot_ofS]
              have e46 : pcC q.2 46 = 46 := rfl
              rw [e46]
              simp only [List.map_append, List.map_cons, List.map_nil]
            · have ec : c ≠ 46 := fun z => e (by rw [z, dot_ofS])
              have h48 := sgc.resolve_left ec
              have hlt := (pp ec).2
              walk_at "vc"
              refine ⟨_, _, rfl, by have := int_dig (c - 48) (by omega); rw [show 48 + (c - 48) = c by omega] at this; exact this, Nat.le_of_ble_eq_true rfl, ?_⟩
              walk_at "vc"
              refine ⟨q.2, _, _, rfl, rfl, line_of (by rw [len_sl, (S.tb n q _ _ hq (List.getElem?_eq_getElem hql) hk').1]; omega), atI_nat (getD_at hlt), ?_⟩
              refine LcA.of hD3 S14 m14 h14 (by omega) ?_
              rw [tk_snoc hpn]
              have e46 : pcC q.2 c = (sl q.2).getD (c - 48) 46 := by unfold pcC; rw [if_neg ec]
              rw [e46]
              simp only [List.map_append, List.map_cons, List.map_nil]
          · rintro D3 acc3 M14 H14 hD3 S14 m14 h14 rfl
            have hal3 := ia13.len
            rw [List.length_map] at hal3
            rw [hal3, ← hpcl, tk_all] at h14
            obtain ⟨mp14, hp14⟩ := S14.keep mp13 hp12
            walk_at "vc"
            refine ⟨_, D3, _, rfl, rfl, .inl h14, join_size _ (by omega), ?_⟩
            rw [join_ch]
            walk_at "vc"
            refine kd_set hp14 (nodup_at hs.nd hsi) (by rw [List.length_take]; omega) rfl ?_
            have S15 := (S11.trans S13).trans S14
            refine ⟨_, _, _, _, _, _, _, _, M14, rfl, S15.put _ mp14 (.inl hpq), mp14, ?_⟩
            rw [upd_same, tk_snoc hsi]
      · rintro σ11 H11 ⟨o7, o8, o9, o10, o11, o12, o14, o15, M11, rfl, S11, mp11, hp11⟩
        rw [List.length_map, List.take_length] at hp11
        have hpb : p ≠ b := B9.ne hpq
        have S12 := (S9.trans S11.of).fix hp11 hp0
        have B12 := (B9.keep S11).fix hpb (.inl mp11) (o := .dK (kd (fun s => .str (pcS sh s)) seeds))
        have s12 : Same M9 (upd M11 p (.dK (kd (fun s => .str (pcS sh s)) seeds))) := S11.mm.trans (same_upd mp11)
        have hp12 : upd M11 p (.dK (kd (fun s => .str (pcS sh s)) seeds)) p = some (.dK (kd (fun s => .str (pcS sh s)) seeds)) := upd_same
        generalize upd M11 p (.dK (kd (fun s => .str (pcS sh s)) seeds)) = M12 at S12 B12 s12 hp12
        have hva12 := s12 _ _ hva9
        have hD12 := s12 _ _ (s9 _ _ hD7)
        have ic12 := (ic'.mono s9).mono s12
        have hpl : ∀ s ∈ seeds, (pcS sh s).length = cs'.length := fun s hm => row_len (pcS_row S (hs.rw s hm))
        clear S11 S9 B9 mp11 hp11
        walk_at "vc"
        refine ⟨va, rfl, ⟨_, SqL.of (S12.mh _ _ hva12)⟩, ?_⟩
        refine lc_go (ex := no) walkL S12.mh (fun n acc _ => acc = ((seeds.take n).map (pcS sh)).map V.str) rfl (fun _ _ S => S.mh _ _ (S.mm _ _ hva12)) ?_ ?_
        · rintro n x acc3 M14 H14 H14' D3 hn S14 hD3 m14 h14 rfl ⟨rfl, hy3⟩
          obtain ⟨s, hsi, rfl⟩ := map_at hy3
          walk_at "vc"
          refine ⟨rfl, ?_⟩
          refine w_yesI ?_
          walk_at "vc"
          refine kd_get (S14.mh _ _ (S14.mm _ _ hp12)) (mem_of_get hsi) ?_
          refine LcA.of hD3 S14 m14 h14 (by rw [List.length_map, List.length_map, List.length_take]; omega) ?_
          rw [tk_snoc hsi]
          simp only [List.map_append, List.map_cons, List.map_nil]
        · rintro D3 acc3 M14 H14 hD3 S14 m14 h14 rfl
          rw [List.length_map, tk_all] at h14
          have S15 := S14.fix h14 hD3
          have i15 : Is (upd M14 D3 (.lst ((seeds.map (pcS sh)).map V.str))) (dS (seeds.map (pcS sh))) (.ref D3) := Is.of_strs upd_same
          generalize upd M14 D3 (.lst ((seeds.map (pcS sh)).map V.str)) = M15 at S15 i15
          clear S14 m14
          walk_at "vc"
          refine ⟨_, _, rfl, by rw [List.length_map]; omega, fun x hx => ?_, M15, S15.mh, i15, ?_⟩
          · obtain ⟨s, hm, rfl⟩ := List.mem_map.mp hx
            rw [hpl s hm]; omega
          rintro v17 M16 H16 S16 i17
          have S16' := S15.trans S16
          have T16 := S12.trans S16'.of
          have B16 := B12.keep S16'
          have s16 := S16'.mm
          obtain ⟨a17, rfl, h17⟩ := i17.strs
          walk_at "vc"
          refine ⟨b, .ref D, cs', rfl, hc', M16, T16.mh, B16, ⟨D, acc, rfl, s16 _ _ hD12, ic12.mono s16⟩, ?_⟩
          rintro _ v18 M17 H17 ⟨sd, rfl, hsd, hsd5⟩ S17 B17 i18
          have T17 := T16.trans S17
          obtain ⟨a18, rfl, h18⟩ := i18.strs
          walk_at "vc"
          refine ⟨b, 3, rfl, by decide, by decide, M17, T17.mh, B17, ?_⟩
          rintro _ v19 M18 H18 ⟨j3, rfl, hj3⟩ S18 B18 rfl
          have T18 := T17.trans S18
          have h18' := S18.mm _ _ h18
          have h17' := S18.mm _ _ (S17.mm _ _ h17)
          walk_at "vc"
          refine ⟨a18, _, rfl, T18.mh _ _ h18', fun q hq => ?_⟩
          rw [cutV_to, ← List.map_take]
          have T19 := T18.lay (.lst ((sd.take j3).map V.str)) hq
          have B19 := B18.lay (o := .lst ((sd.take j3).map V.str)) T18.mh hq
          have s19 : Same M18 (upd M18 q (.lst ((sd.take j3).map V.str))) := same_upd (T18.mfree hq)
          have hq19 : upd M18 q (.lst ((sd.take j3).map V.str)) q = some (.lst ((sd.take j3).map V.str)) := upd_same
          generalize upd M18 q (.lst ((sd.take j3).map V.str)) = M19 at T19 B19 s19 hq19
          generalize upd H18 q (.lst ((sd.take j3).map V.str)) = H19 at T19 B19 ⊢
          have h17'' := s19 _ _ h17'
          generalize hso1e : cleanS (seeds.map (pcS sh)) = so1 at *
          have hl1 : so1.length ≤ 5 := by
            rw [← hso1e]
            have := clean_len (seeds.map (pcS sh))
            rw [List.length_map] at this
            omega
          have hol1 : (itB so1 (blk cs'.length) 41).length ≤ 40 := by rw [← hso1e]; exact pics_le S hs hle
          have hin1 : ∀ x ∈ cleanS (seeds.map (pcS sh)), x ∈ so1 := fun x hx => by rw [← hso1e]; exact hx
          refine ⟨a17, q, _, _, rfl, rfl, T19.mh _ _ h17'', T19.mh _ _ hq19, ?_, fun r hr => ?_⟩
          · rw [List.length_map, List.length_map, List.length_take]
            exact line_of (by have := hl1; omega)
          rw [← List.map_append]
          have T20 := T19.lay (.lst ((so1 ++ sd.take j3).map V.str)) hr
          have B20 := B19.lay (o := .lst ((so1 ++ sd.take j3).map V.str)) T19.mh hr
          have s20 : Same M19 (upd M19 r (.lst ((so1 ++ sd.take j3).map V.str))) := same_upd (T19.mfree hr)
          have i20 : Is (upd M19 r (.lst ((so1 ++ sd.take j3).map V.str))) (dS (so1 ++ sd.take j3)) (.ref r) := Is.of_strs upd_same
          generalize upd M19 r (.lst ((so1 ++ sd.take j3).map V.str)) = M20 at T20 B20 s20 i20
          generalize upd H19 r (.lst ((so1 ++ sd.take j3).map V.str)) = H20 at T20 B20 ⊢
          have s1220 : Same M12 M20 := s16.trans (S17.mm.trans (S18.mm.trans (s19.trans s20)))
          have h1720 := s20 _ _ h17''
          have hso1 : SeedsOk cs' so1 := by rw [← hso1e]; exact pics_ok hc' S hs
          have hln : (so1 ++ sd.take j3).length ≤ 20 := by rw [List.length_append, List.length_take]; omega
          have hsm : SeedsOk cs' (cleanS (so1 ++ sd.take j3)) := more_ok hc' hso1 (fun y hy => hsd.rw y (List.mem_of_mem_take hy)) hln
          have hsl20 : ∀ x ∈ so1 ++ sd.take j3, x.length = cs'.length := fun x hx => by
            rcases List.mem_append.mp hx with z | z
            · exact row_len (hso1.rw x z)
            · exact row_len (hsd.rw x (List.mem_of_mem_take z))
          clear T19 B19 s19 hq19 s20 T18 B18 S18 S17 B17 T17 h17'' h17' h18' h18
          walk_at "vc"
          refine ⟨_, so1 ++ sd.take j3, rfl, by omega, fun x hx => by rw [hsl20 x hx]; omega, M20, T20.mh, i20, ?_⟩
          rintro v21 M21 H21 S21 i21
          have T21 := T20.trans S21.of
          have B21 := B20.keep S21
          have s21 := s1220.trans S21.mm
          walk_at "vc"
          refine ⟨D, acc, rfl, .inl (T21.mh _ _ (s21 _ _ hD12)), ?_⟩
          walk_at "vc"
          rw [hal]
          have hsml := hsm.ln
          refine ⟨v21, _, cs'.length, 40, rfl, by omega, by decide, by decide, by omega, fun s hm => row_len (hsm.rw s hm), M21, T21.mh, i21, ?_, ?_⟩
          · rintro hcap v22 M22 H22 S22 rfl
            walk_at "vc"
            refine ⟨rfl, ?_⟩
            walk_at "vc"
            have T22 := T21.trans S22.of
            have B22 := B21.keep S22
            have s22 := s21.trans S22.mm
            have i22 : Is M22 (dS so1) (.ref a17) := Is.of_strs (S22.mm _ _ (S21.mm _ _ h1720))
            refine ⟨b, .ref a17, (so1).map Dat.str, rfl, by rw [List.length_map]; have := hso1.ln; omega, M22, T22.mh, B22, (i22).q, ?_⟩
            rintro _ vt Mt Ht ⟨es, rfl, hpm⟩ St Bt it
            obtain ⟨ss, hpss, rfl⟩ := perm_pre hpm
            have Tt := T22.trans St
            walk_at "vc"
            intro Tt' hTt
            have sl1 : Same Mt (upd Mt Tt' (.tup [.ref D, vt, .ref p])) := same_upd (Tt.mfree hTt)
            have sA := ((s22).trans St.mm).trans sl1
            exact k Tt' p (.ref D) vt cs' ss (pcS sh) _ _ (map_ok hc' S hs hle hso1 hol1 hpss hin1) (Tt.lay _ hTt) (Bt.lay Tt.mh hTt) upd_same ⟨D, acc, rfl, sA _ _ hD12, ic12.mono sA⟩ (it.mono sl1) (sA _ _ hp12)
          · rintro ys hley hpmy hsdy v22 M22 H22 S22 i22
            obtain ⟨y22, rfl, _⟩ := i22.strs
            walk_at "vc"
            refine ⟨rfl, ?_⟩
            walk_at "vc"
            have T22 := T21.trans S22.of
            have B22 := B21.keep S22
            have s22 := s21.trans S22.mm
            have hinm : ∀ x ∈ cleanS (seeds.map (pcS sh)), x ∈ cleanS (so1 ++ sd.take j3) := fun x hx => by
              have hx1 : x ∈ so1 := by rw [← hso1e]; exact hx
              exact clean_mem.mpr ⟨List.mem_append_left _ hx1, (clean_mem.mp hx).2⟩
            refine ⟨b, v21, (cleanS (so1 ++ sd.take j3)).map Dat.str, rfl, by rw [List.length_map]; have := hsm.ln; omega, M22, T22.mh, B22, (i21.mono S22.mm).q, ?_⟩
            rintro _ vt Mt Ht ⟨es, rfl, hpm⟩ St Bt it
            obtain ⟨ss, hpss, rfl⟩ := perm_pre hpm
            have Tt := T22.trans St
            walk_at "vc"
            intro Tt' hTt
            have sl1 : Same Mt (upd Mt Tt' (.tup [.ref D, vt, .ref p])) := same_upd (Tt.mfree hTt)
            have sA := ((s22).trans St.mm).trans sl1
            exact k Tt' p (.ref D) vt cs' ss (pcS sh) _ _ (map_ok hc' S hs hle hsm hley hpss hinm) (Tt.lay _ hTt) (Bt.lay Tt.mh hTt) upd_same ⟨D, acc, rfl, sA _ _ hD12, ic12.mono sA⟩ (it.mono sl1) (sA _ _ hp12)
end
end Nt
namespace Nt
section
variable {P : Program} {w : World} {K : PySem.W.Frag} {mg : Str → Option Value} {base : Heap}
abbrev M00 : Hp := fun _ => none
def sp_l_start (K : PySem.W.Frag) : Sp := fun vs H Q _ => ∃ (a : Addr) (ns : List Int), vs = [.ref a] ∧ SqL K H a (ns.map V.int) ∧ ns.length ≤ 1000 ∧ ∀ b M' H', Stp no M00 H M' H' → Bag M' H' b → Q (.ref b) H'
theorem ok_l_start (T : Tx K mg) : Good P w K mg base CX0 1 (He.fAd K (He.DefD.at_ d_l_start)) p_l_start (sp_l_start K) := by
  obtain ⟨fd, F⟩ := T.def_ 14 (d := d_l_start) rfl
  refine good_of F sc_l_start (fun _ _ _ _ _ _ us hl => match us, hl with | [_], _ => rfl) (by intro vs H Q E h; (repeat obtain ⟨_, h⟩ := h); subst_vars; rfl) fun cdv A outer s H vs Q E hr h => ?_
  have hu := hu_of hr
  refine ⟨_, (pss_cons (ps_set (i := 1) sc_l_start.nd rfl (Or.inl rfl) pe_int)  (pss_cons (ps_for PassesOwn.never rfl (iq_list K (pe_slice sl_list (pv 0) po_none (po_some pe_int))) (pg_name (i := 2) sc_l_start.nd rfl (Or.inl rfl) (Or.inl rfl))  (pss_one (ps_set (i := 1) sc_l_start.nd rfl (Or.inl rfl) (pe_op op_modN (pe_callTy call_int1 (by rfl) T.b_int (by decide +kernel) (pa_cons (pe_op op_add (pe_op op_add (pe_op op_mul (pv 1) pe_int) (pe_op op_modN (pe_callTy call_int1 (by rfl) T.b_int (by decide +kernel) (pa_cons (pv 2) pa_nil)) pe_int)) pe_int) pa_nil)) pe_int))))  (pss_one (ps_ret (pe_lst (pa_cons (pe_callTy cq_list (by rfl) T.b_list (by decide +kernel) (pa_cons (pe_slice sl_list (pv 0) po_none (po_some pe_int)) pa_nil)) (pa_cons pe_int (pa_cons pe_int (pa_cons (pv 1) (pa_cons pe_int pa_nil)))))))))), ?_⟩
  obtain ⟨a, ns, rfl, ha, hl, k⟩ := h
  have S0 := Stp.refl (ex := no) (M := M00) (H := H) (fun a o e => by cases e)
  walk_at "vc"
  have e : cutV (ns.map V.int) none (some 63) = (ns.take 63).map V.int := by rw [show (63 : Int) = ((63 : Nat) : Int) from rfl, cutV_to, List.map_take]
  refine ⟨a, _, rfl, ha, fun p hp => ?_⟩
  rw [e]
  generalize ns.take 63 = ms at e
  have S1 := S0.lay (.lst (ms.map V.int)) hp
  have hM1 : upd M00 p (.lst (ms.map V.int)) p = some (.lst (ms.map V.int)) := upd_same
  generalize upd M00 p (.lst (ms.map V.int)) = M1 at S1 hM1
  generalize upd H p (.lst (ms.map V.int)) = H1 at S1 ⊢
  refine ⟨p, rfl, ⟨_, SqL.of (S1.mh _ _ hM1)⟩, ?_⟩
  refine fo_go walkL (fun i σ' H' => ∃ (o : Option V) (m : Int), σ' = [some (.ref a), some (.int m), o] ∧ 0 ≤ m ∧ m < 2147483629 ∧ Stp no M00 H M1 H') ⟨_, _, rfl, by decide, by decide, S1⟩ (fun _ _ _ _ ⟨_, _, _, _, _, S⟩ => S.mh _ _ hM1) ?_ ?_
  · rintro i y σ2 H2 H2' hi ⟨o, m, rfl, h0, h1, S2⟩ ⟨rfl, hy⟩
    obtain ⟨x, hx, rfl⟩ := map_at hy
    walk_at "vc"
    have f1 := Int.fmod_nonneg_of_pos (m * 48397 + x.fmod 2147483549 + 53) (show (0 : Int) < 2147483629 by decide)
    have f2 := Int.fmod_lt_of_pos (m * 48397 + x.fmod 2147483549 + 53) (show (0 : Int) < 2147483629 by decide)
    exact ⟨_, _, rfl, f1, f2, S2⟩
  · rintro σ2 H2 ⟨o, m, rfl, h0, h1, S2⟩
    walk_at "vc"
    refine ⟨a, _, rfl, Same.seq S2.same ha, fun p2 hp2 => ?_⟩
    rw [e]
    have S3 := S2.new (.lst (ms.map V.int)) hp2
    walk_at "vc"
    refine ⟨p2, _, rfl, .inl upd_same, fun p3 hp3 => ?_⟩
    have S4 := S3.lay (.lst (ms.map V.int)) hp3
    have hM4 : upd M1 p3 (.lst (ms.map V.int)) p3 = some (.lst (ms.map V.int)) := upd_same
    generalize upd M1 p3 (.lst (ms.map V.int)) = M4 at S4 hM4
    generalize upd (upd H2 p2 (.lst (ms.map V.int))) p3 (.lst (ms.map V.int)) = H4 at S4 ⊢
    walk_at "vc"
    intro b hb
    exact k _ _ _ (S4.new _ hb) ⟨S4.mfree hb, p3, ms, 0, 0, m, 0, upd_same, hM4, Int.le_refl _, Int.le_refl _, h0, h1⟩
end
end Nt
namespace Nt
section
variable {P : Program} {w : World} {K : PySem.W.Frag} {mg : Str → Option Value} {base : Heap}
theorem w_make {C : Addr} {sp : Sp} {dvs : List V} {E : XK} {t : TA} {σ : L2.St} {H : Hp} {Q : VK} (k : t σ H fun vs H1 => ∀ x dx, H1 x = none → H1 dx = none → dx ≠ x →
  sp (.ref x :: (vs ++ dvs)) (upd (upd H1 dx (.own x)) x (.ins C dx [])) (fun v H2 => v = .non ∧ Q (.ref x) H2) E) : tMake C sp dvs E t σ H Q := k
theorem fnok_of {x qual : Str} {params : Arguments} {body : List Stmt} {scope : Scope} {f : Addr} {fd : FuncData} {N ps : List Str} {k : Nat} {sp : Sp} (F : FunD K x qual params body scope [] [] f fd) (S : FnScope N ps scope)
    (len : ∀ vs H Q E, sp vs H Q E → vs.length = ps.length)
    (hbody : ∀ (cdv : Value) (A : Around) (outer : List Env) (s : Shared) (H : Hp) (vs : List V) (Q : VK) (E : XK), Room k (A.deeper (envOfC qual scope s.heap.objs.size f cdv)) → sp vs H Q E →
      ∃ t, PSs (cxOf CX0 P w K mg base N qual scope f cdv A outer s H E).nox body t ∧ t { nx := fun _ H' => Q .non H', rt := Q } (start N vs) H) : FnOk P w K mg base CX0 (k + 1) f fd ps sp :=
  F.ok S len fun cdv A outer s H vs Q E hr h => let ⟨t, a, b⟩ := hbody cdv A outer s H vs Q E hr h; ⟨t, a.nox, b⟩
theorem kd_over1 (f : Str → V) (r : Str) (v : V) : ∀ xs : List Str, r ∈ xs → putK (kd f xs) (Sum.inr r) v = kd (fun x => if x = r then v else f x) xs := by
  intro xs hr
  unfold putK
  have hv : ((kd f xs).any fun kv => decide (kv.1 = Sum.inr r)) = true := by
    rw [valV_any, kd_val, if_pos hr]
    rfl
  rw [if_pos hv]
  unfold kd
  rw [List.map_map]
  refine List.map_congr_left fun x _ => ?_
  show (if (Sum.inr x : L2.Key) = Sum.inr r then _ else _) = _
  by_cases q : x = r
  · subst q
    simp
  · rw [if_neg (fun z => q (Sum.inr.inj z))]
    simp [q]
theorem mk_band {C : Addr} {cs : Cells} {seeds : List Str} {M H : Hp} {u v : V} {σ : L2.St} {i j : Nat} {Q : VK} (hc : CellsOk cs) (hs : SeedsOk cs seeds) (hle : (itB seeds (blk cs.length) 41).length ≤ 40) (s : Same M H) (iu : Is M (cellsD cs) u) (iv : Is M (dS seeds) v)
    (hu : σ[i]? = some (some u)) (hv : σ[j]? = some (some v)) (k : ∀ rows x M' H', rows.Perm (itB seeds (blk cs.length) 41) → sortedS rows = true → Stp no M H M' H' → BandO C M' cs seeds rows x → Q (.ref x) H') :
    tMake C (sp_Band___init__ C) [.int 800] E0 (tCons (tCB qList (tCons (tVar i) tNil)) (tCons (tCB qList (tCons (tVar j) tNil)) tNil)) σ H Q := by
  obtain ⟨ca, cvs, rfl, hca, icv⟩ := iu
  obtain ⟨sa, rfl, hsa⟩ := iv.strs
  have S0 := Stp.refl (ex := no) s
  refine w_make ?_
  refine w_cons ?_
  refine w_cb ?_
  refine w_cons ?_
  refine w_var hu ?_
  refine w_nil ?_
  refine ⟨ca, cvs, rfl, .inl (S0.mh _ _ hca), fun l1 hl1 => ?_⟩
  have S4 := S0.lay (.lst cvs) hl1
  have s4 : Same M (upd M l1 (.lst cvs)) := same_upd (S0.mfree hl1)
  have i4 : Is (upd M l1 (.lst cvs)) (cellsD cs) (.ref l1) := ⟨l1, cvs, rfl, upd_same, icv.mono s4⟩
  generalize upd M l1 (.lst cvs) = M4 at S4 i4 s4
  generalize upd H l1 (.lst cvs) = H4 at S4 ⊢
  refine w_cons ?_
  refine w_cb ?_
  refine w_cons ?_
  refine w_var hv ?_
  refine w_nil ?_
  refine ⟨sa, _, rfl, .inl (S4.mh _ _ (s4 _ _ hsa)), fun l2 hl2 => ?_⟩
  have S5 := S4.lay (.lst (seeds.map V.str)) hl2
  have i5 : Is (upd M4 l2 (.lst (seeds.map V.str))) (dS seeds) (.ref l2) := Is.of_strs upd_same
  replace i4 := i4.mono (same_upd (o := .lst (seeds.map V.str)) (S4.mfree hl2))
  generalize upd M4 l2 (.lst (seeds.map V.str)) = M5 at S5 i5 i4
  generalize upd H4 l2 (.lst (seeds.map V.str)) = H5 at S5 ⊢
  refine w_nil ?_
  intro x dx hx hdx hne
  refine ⟨x, dx, .ref l1, .ref l2, cs, seeds, H5, M5, rfl, rfl, hx, hdx, hne, hc, hs, hle, S5.mh, i4, i5, ?_⟩
  intro rows M6 H6 hpm hsd S6 ib
  exact ⟨rfl, k rows x M6 H6 hpm hsd (S5.trans S6) ib⟩
theorem PicV.mono {n : Nat} {M M' : Hp} {v : V} (h : PicV n M v) (s : Same M M') : PicV n M' v := by
  rcases h with ⟨d, i, hd⟩ | ⟨p, kvs, e, hp, hl, hv⟩ | ⟨p, m, e, hp, hm⟩
  · exact .inl ⟨d, i.mono s, hd⟩
  · exact .inr (.inl ⟨p, kvs, e, s _ _ hp, hl, fun k x q => let ⟨d, i⟩ := hv k x q; ⟨d, i.mono s⟩⟩)
  · exact .inr (.inr ⟨p, m, e, s _ _ hp, hm⟩)
theorem GoodP.back {seeds rows' : List Str} {n : Nat} {M M' : Hp} {v : V} (g : GoodP seeds rows' M' v) (h : PicV n M v) (s : Same M M') : GoodP seeds rows' M v := by
  rcases h with ⟨d, i, hd⟩ | ⟨p, kvs, rfl, hp, hl, hv⟩ | ⟨p, m, rfl, hp, hm⟩
  · exact (goodP_not (i.mono s) hd g).elim
  · obtain ⟨p', kvs', e, hp', h1, h2⟩ := g
    cases e
    rw [s _ _ hp] at hp'
    cases hp'
    exact ⟨p, kvs, rfl, hp, h1, h2⟩
  · obtain ⟨p', kvs', e, hp', h1, h2⟩ := g
    cases e
    rw [s _ _ hp] at hp'
    cases hp'
theorem bad_told {C : Addr} {wy : Nat} {a o : Addr} {v : V} {cs cs' : Cells} {seeds rows seeds' rows' ks : List Str} {pic : Str → Str} {M H : Hp} {Q : VK} {E : XK} (A : Ask cs cs' seeds rows seeds' rows' ks pic) (hwy : wy ≤ 1) (s0 : Same M H) (ib : BandO C M cs seeds rows a) (io : BandO C M cs' seeds' rows' o)
    (pv : PicV seeds.length M v) (hn : ¬ GoodP seeds rows' M v) (k : ∀ v M' H', Stp no M H M' H' → Is M' (.tup [.str "BadPictures", .str "BadPictures"]) v → Q v H') : sp_l_told C [.int wy, .ref a, .ref o, v] H Q E :=
  ⟨wy, a, o, v, cs, cs', seeds, rows, seeds', rows', rfl, hwy, A.B, A.nd, A.h64, M, s0, ib, io, pv, fun _ _ _ G => (hn G.good).elim, fun _ v' M' H' S i => k v' M' H' S i⟩
theorem pl_bad {k : Nat} : PL (k + 3) (.lst [.tup [.str "BadPictures", .str "BadPictures"], .tup [.str "BadPictures", .str "BadPictures"]]) := by
  refine ⟨Nat.le_of_ble_eq_true rfl, fun d hd => ?_⟩
  have e : d = .tup [.str "BadPictures", .str "BadPictures"] := by
    rcases List.mem_cons.mp hd with e | e
    · exact e
    · exact List.mem_singleton.mp e
  rw [e]
  refine ⟨Nat.le_of_ble_eq_true rfl, fun d hd => ?_⟩
  have e : d = .str "BadPictures" := by
    rcases List.mem_cons.mp hd with e | e
    · exact e
    · exact List.mem_singleton.mp e
  rw [e]
  trivial
def sp_law (K : PySem.W.Frag) : Sp := fun vs H Q _ => ∃ (a : Addr) (ns : List Int), vs = [.ref a] ∧ SqL K H a (ns.map V.int) ∧ ns.length ≤ 1000 ∧ ∀ H', Q (.bl true) H'
theorem ask_of {cs cs' : Cells} {seeds rows seeds' rows' ks : List Str} {pic pic' : Str → Str} (hb : BandOk cs seeds rows) (h5 : seeds.length ≤ 5) (R : MapR cs cs' seeds seeds' pic) (pm' : rows'.Perm (itB seeds' (blk cs'.length) 41)) (pm : ks.Perm seeds) (pr : ∀ s ∈ seeds, pic' s ∈ rows') : Ask cs cs' seeds rows seeds' rows' ks pic' := by
  have h1 := hb.co.l2
  have h2 := R.co.l2
  refine ⟨⟨by omega, by omega, by omega, fun s hs => row_len (hb.so.rw s hs), hb.le, fun x hx => ?_⟩, hb.so.nd, by omega, pm, pr, hb.co, fun r hr => rows_all hb.so.rw 41 r (hb.pm.mem_iff.mp hr), hb.pm, fun e => ?_⟩
  · rw [row_len (rows_all R.so.rw 41 x (pm'.mem_iff.mp hx))]
    omega
  · have := hb.pm.mem_iff.mpr (itB_first 41)
    rw [e] at this
    cases this
theorem ok_law (T : Tx K mg) {fd : FuncData} (F : FunD K (He.DefD.name d_law) (He.DefD.qual d_law) (He.DefD.params d_law) (He.DefD.body d_law) (He.DefD.scope d_law) (He.DefD.dvs K d_law) (He.DefD.kws K d_law) (He.fAd K (He.DefD.at_ d_law)) fd) : FnOk P w K mg base CX0 10 (He.fAd K (He.DefD.at_ d_law)) fd p_law (sp_law K) := by
  have g_Band_rows : Good P w K mg base CX0 1 (He.fAd K (He.DefD.at_ d_Band_rows)) p_Band_rows (sp_Band_rows (He.ga K "Band")) := ok_Band_rows T
  have g_l_are_pictures : Good P w K mg base CX0 1 (He.fAd K (He.DefD.at_ d_l_are_pictures)) p_l_are_pictures sp_l_are_pictures := ok_l_are_pictures T
  have g_l_asked : Good P w K mg base CX0 9 (He.fAd K (He.DefD.at_ d_l_asked)) p_l_asked (sp_l_asked (He.ga K "Band")) := ok_l_asked T
  have g_l_band : Good P w K mg base CX0 4 (He.fAd K (He.DefD.at_ d_l_band)) p_l_band sp_l_band := ok_l_band T
  have g_l_bent : Good P w K mg base CX0 5 (He.fAd K (He.DefD.at_ d_l_bent)) p_l_bent sp_l_bent := ok_l_bent T
  have g_l_closure : Good P w K mg base CX0 2 (He.fAd K (He.DefD.at_ d_l_closure)) p_l_closure sp_l_closure := ok_l_closure T
  have g_l_copied : Good P w K mg base CX0 4 (He.fAd K (He.DefD.at_ d_l_copied)) p_l_copied sp_l_copied := ok_l_copied T
  have g_l_map : Good P w K mg base CX0 4 (He.fAd K (He.DefD.at_ d_l_map)) p_l_map sp_l_map := ok_l_map T
  have g_l_pick : Good P w K mg base CX0 2 (He.fAd K (He.DefD.at_ d_l_pick)) p_l_pick sp_l_pick := ok_l_pick T
  have g_l_pull : Good P w K mg base CX0 1 (He.fAd K (He.DefD.at_ d_l_pull)) p_l_pull sp_l_pull := ok_l_pull T
  have g_l_same : Good P w K mg base CX0 7 (He.fAd K (He.DefD.at_ d_l_same)) p_l_same (sp_l_same 6) := ok_l_same T
  have g_l_start : Good P w K mg base CX0 1 (He.fAd K (He.DefD.at_ d_l_start)) p_l_start (sp_l_start K) := ok_l_start T
  have g_l_told : Good P w K mg base CX0 8 (He.fAd K (He.DefD.at_ d_l_told)) p_l_told (sp_l_told (He.ga K "Band")) := ok_l_told T
  obtain ⟨fd_Band, F_Band, ds_Band, V_Band, B_Band⟩ := ok_Band___init__ (P := P) (w := w) (base := base) T
  refine fnok_of F sc_law (by intro vs H Q E h; (repeat obtain ⟨_, h⟩ := h); subst_vars; rfl) fun cdv A outer s H vs Q E hr h => ?_
  have hu := hu_of hr
  refine ⟨_, (pss_cons (ps_set (i := 1) sc_law.nd rfl (Or.inl rfl) (pe_good g_l_start (hr.mono (by decide)) rfl T.m_l_start (pa_cons (pv 0) pa_nil)))  (pss_cons (ps_asg (pe_good g_l_band (hr.mono (by decide)) rfl T.m_l_band (pa_cons (pv 1) (pa_cons pe_int (pa_cons pe_int (pa_cons pe_int pa_nil))))) (gq_tup K (n := 3) rfl (pgs_cons (pg_name (i := 2) sc_law.nd rfl (Or.inl rfl) (Or.inl rfl)) (pgs_cons (pg_name (i := 3) sc_law.nd rfl (Or.inl rfl) (Or.inl rfl)) (pgs_cons (pg_name (i := 4) sc_law.nd rfl (Or.inl rfl) (Or.inl rfl)) pgs_nil)))))  (pss_cons (ps_asg (pe_good g_l_map (hr.mono (by decide)) rfl T.m_l_map (pa_cons (pv 1) (pa_cons (pv 2) (pa_cons (pv 3) pa_nil)))) (gq_tup K (n := 3) rfl (pgs_cons (pg_name (i := 5) sc_law.nd rfl (Or.inl rfl) (Or.inl rfl)) (pgs_cons (pg_name (i := 6) sc_law.nd rfl (Or.inl rfl) (Or.inl rfl)) (pgs_cons (pg_name (i := 7) sc_law.nd rfl (Or.inl rfl) (Or.inl rfl)) pgs_nil)))))  (pss_cons (ps_set (i := 8) sc_law.nd rfl (Or.inl rfl) (pe_good g_l_closure (hr.mono (by decide)) rfl T.m_l_closure (pa_cons (pv 6) (pa_cons (pe_callB cq_len (by rfl) T.b_len (by decide +kernel) (pa_cons (pv 5) pa_nil)) (pa_cons pe_int pa_nil)))))  (pss_cons (ps_par (i := 9) (j := 10) rfl sc_law.nd rfl rfl (by decide) rfl rfl (pa_cons (pe_make T.mk_Band F_Band (hr.mono (by decide)) rfl T.m_Band B_Band V_Band pass0 (pa_cons (pe_callTy cq_list (by rfl) T.b_list (by decide +kernel) (pa_cons (pv 2) pa_nil)) (pa_cons (pe_callTy cq_list (by rfl) T.b_list (by decide +kernel) (pa_cons (pv 3) pa_nil)) pa_nil))) (pa_cons (pe_make T.mk_Band F_Band (hr.mono (by decide)) rfl T.m_Band B_Band V_Band pass0 (pa_cons (pe_callTy cq_list (by rfl) T.b_list (by decide +kernel) (pa_cons (pv 5) pa_nil)) (pa_cons (pe_callTy cq_list (by rfl) T.b_list (by decide +kernel) (pa_cons (pv 6) pa_nil)) pa_nil))) pa_nil)) (by rfl))  (pss_cons (ps_if (pt_not (pt_val (pe_good g_l_same (hr.mono (by decide)) rfl T.m_l_same (pa_cons (pe_goodm0 g_Band_rows (hr.mono (by decide)) (pv 10) T.c_Band T.Band_rows) (pa_cons (pv 8) pa_nil)))))  (pss_one (ps_ret pe_bl))  pss_nil)  (pss_cons (ps_if (pt_not (pt_val (pe_good g_l_asked (hr.mono (by decide)) rfl T.m_l_asked (pa_cons (pv 1) (pa_cons (pv 3) (pa_cons (pv 4) (pa_cons (pv 9) (pa_cons (pv 10) (pa_cons (pe_callB cq_len (by rfl) T.b_len (by decide +kernel) (pa_cons (pv 5) pa_nil)) (pa_cons (pv 7) pa_nil))))))))))  (pss_one (ps_ret pe_bl))  pss_nil)  (pss_cons (ps_for PassesOwn.never rfl (pi_range1 (by rfl) T.b_range (pa_cons pe_int pa_nil)) (pg_name (i := 11) sc_law.nd rfl (Or.inl rfl) (Or.inl rfl))  (pss_cons (ps_set (i := 12) sc_law.nd rfl (Or.inl rfl) (pe_good g_l_bent (hr.mono (by decide)) rfl T.m_l_bent (pa_cons (pv 1) (pa_cons (pv 3) (pa_cons (pv 5) (pa_cons (pv 7) pa_nil))))))  (pss_cons (ps_if (pt_not (pt_val (pe_good g_l_are_pictures (hr.mono (by decide)) rfl T.m_l_are_pictures (pa_cons (pv 3) (pa_cons (pv 8) (pa_cons (pv 12) pa_nil))))))  (pss_cons (ps_set (i := 15) sc_law.nd rfl (Or.inl rfl) (pe_lst (pa_cons (pe_good g_l_told (hr.mono (by decide)) rfl T.m_l_told (pa_cons pe_int (pa_cons (pv 9) (pa_cons (pv 10) (pa_cons (pv 12) pa_nil))))) (pa_cons (pe_good g_l_told (hr.mono (by decide)) rfl T.m_l_told (pa_cons pe_int (pa_cons (pv 9) (pa_cons (pv 10) (pa_cons (pv 12) pa_nil))))) pa_nil))))  (pss_one (ps_if (pt_not (pt_val (pe_good g_l_same (hr.mono (by decide)) rfl T.m_l_same (pa_cons (pv 15) (pa_cons (pe_op op_rep (pe_lst (pa_cons (pe_tup (pa_cons pe_str (pa_cons pe_str pa_nil))) pa_nil)) pe_int) pa_nil)))))  (pss_one (ps_ret pe_bl))  pss_nil)))  pss_nil)  (pss_cons (ps_set (i := 13) sc_law.nd rfl (Or.inl rfl) (pe_good g_l_copied (hr.mono (by decide)) rfl T.m_l_copied (pa_cons (pv 1) (pa_cons (pv 7) pa_nil))))  (pss_cons (ps_for PassesOwn.never rfl (pi_range1 (by rfl) T.b_range (pa_cons (pe_op op_add pe_int (pe_good g_l_pull (hr.mono (by decide)) rfl T.m_l_pull (pa_cons (pv 1) (pa_cons pe_int pa_nil)))) pa_nil)) (pg_name (i := 14) sc_law.nd rfl (Or.inl rfl) (Or.inl rfl))  (pss_one (ps_dput hu (pv 13) (pe_good g_l_pick (hr.mono (by decide)) rfl T.m_l_pick (pa_cons (pv 1) (pa_cons (pv 3) pa_nil))) (pe_good g_l_pick (hr.mono (by decide)) rfl T.m_l_pick (pa_cons (pv 1) (pa_cons (pv 8) pa_nil))) rfl)))  (pss_one (ps_if (pt_not (pt_val (pe_good g_l_asked (hr.mono (by decide)) rfl T.m_l_asked (pa_cons (pv 1) (pa_cons (pv 3) (pa_cons (pv 4) (pa_cons (pv 9) (pa_cons (pv 10) (pa_cons (pe_callB cq_len (by rfl) T.b_len (by decide +kernel) (pa_cons (pv 5) pa_nil)) (pa_cons (pv 13) pa_nil))))))))))  (pss_one (ps_ret pe_bl))  pss_nil)))))))  (pss_one (ps_ret (pe_good g_l_asked (hr.mono (by decide)) rfl T.m_l_asked (pa_cons (pv 1) (pa_cons (pv 3) (pa_cons (pv 4) (pa_cons (pv 9) (pa_cons (pv 10) (pa_cons (pe_callB cq_len (by rfl) T.b_len (by decide +kernel) (pa_cons (pv 5) pa_nil)) (pa_cons (pv 7) pa_nil)))))))))))))))))), ?_⟩
  obtain ⟨a, ns, rfl, ha, hl, k⟩ := h
  walk_at "vc"
  refine ⟨a, ns, rfl, ha, hl, ?_⟩
  rintro b M1 H1 S1 B1
  walk_at "vc"
  refine ⟨b, rfl, M1, S1.mh, B1, ?_⟩
  rintro d v2 M2 H2 ⟨cs, seeds, rows, rfl, hb, h5⟩ S2 B2 i2
  obtain ⟨T0, u, x, w3, rfl, hT, iu, ix, iw⟩ := i2.un3
  have hs1 : 0 < seeds.length := by
    obtain ⟨s, hm, _⟩ := hb.so.td 0 hb.co.l1
    exact List.length_pos_of_mem hm
  have hrl : rows.length ≤ 40 := by rw [hb.pm.length_eq]; exact hb.le
  refine ⟨T0, _, rfl, SqT.of (S2.mh _ _ hT), rfl, ?_⟩
  walk_at "vc"
  refine ⟨b, u, x, cs, seeds, rfl, hb.co, hb.so, h5, hb.le, M2, S2.mh, B2, iu, ix, ?_⟩
  intro T1 p u' x' cs' seeds' pic M3 H3 R S3 B3 hT1 iu' ix' hp
  replace iu := iu.mono S3.mm
  replace ix := ix.mono S3.mm
  replace iw := iw.mono S3.mm
  refine ⟨T1, _, rfl, SqT.of (S3.mh _ _ hT1), rfl, ?_⟩
  have hpl : ∀ s ∈ seeds, (pic s).length = cs'.length := fun s hs => row_len (rows_all R.so.rw 41 _ (R.pr s hs))
  have hc5 := hb.co.l2
  have hc5' := R.co.l2
  have hc1' := R.co.l1
  have hs20' := R.so.ln
  have hcell : ∃ ca cvs, u' = .ref ca ∧ M3 ca = some (.lst cvs) ∧ cvs.length = cs'.length := by
    obtain ⟨ca, cvs, e, h1, h2⟩ := id iu'
    have := h2.len
    rw [List.length_map] at this
    exact ⟨ca, cvs, e, h1, this⟩
  obtain ⟨ca, cvs, rfl, hca, hcvl⟩ := hcell
  walk_at "vc"
  refine ⟨ca, cvs, rfl, .inl (S3.mh _ _ hca), ?_⟩
  rw [hcvl]
  walk_at "vc"
  refine ⟨x', seeds', cs'.length, 40, rfl, by omega, by decide, by decide, by omega, fun s hs => row_len (R.so.rw s hs), M3, S3.mh, ix', fun hcap => absurd R.le (Nat.not_le.mpr hcap), fun rows' hle' hpm' hsd' => ?_⟩
  rintro v8 M4 H4 S4 i8
  have B4 := B3.keep S4
  replace iu := iu.mono S4.mm
  replace ix := ix.mono S4.mm
  replace iw := iw.mono S4.mm
  replace iu' := iu'.mono S4.mm
  replace ix' := ix'.mono S4.mm
  replace hp := S4.mm _ _ hp
  replace hca := S4.mm _ _ hca
  have S4' := S4.mh
  clear S4 S3 B3 S2 B2 S1 B1 hT hT1 i2
  walk_at "vc"
  refine mk_band hb.co hb.so hb.le S4' iu ix rfl rfl fun rowsA xa M5 H5 hpmA hsdA S5 ibA => ?_
  obtain rfl : rowsA = rows := sorted_one (hpmA.trans hb.pm.symm) (sorted_pw hsdA) (sorted_pw hb.sd)
  walk_at "vc"
  refine mk_band R.co R.so R.le S5.mh (iu'.mono S5.mm) (ix'.mono S5.mm) rfl rfl fun rowsB xb M6 H6 hpmB hsdB S6 ibB => ?_
  obtain rfl : rowsB = rows' := sorted_one (hpmB.trans hpm'.symm) (sorted_pw hsdB) (sorted_pw hsd')
  have B6 := (B4.keep S5).keep S6
  replace ibA := ibA.mono S6.mm
  have s6 := S5.mm.trans S6.mm
  replace iu := iu.mono s6
  replace ix := ix.mono s6
  replace iw := iw.mono s6
  replace iu' := iu'.mono s6
  replace ix' := ix'.mono s6
  replace hp := s6 _ _ hp
  replace hca := s6 _ _ hca
  replace i8 := i8.mono s6
  have S6' := S6.mh
  have hAsk : ∀ ks pic', ks.Perm seeds → (∀ s ∈ seeds, pic' s ∈ rowsB) → Ask cs cs' seeds rowsA seeds' rowsB ks pic' := fun ks pic' h1 h2 => ask_of hb h5 R hpmB h1 h2
  have hpr : ∀ s ∈ seeds, pic s ∈ rowsB := fun s hs => hpmB.mem_iff.mpr (R.pr s hs)
  have hrB1 : 0 < rowsB.length := List.length_pos_of_mem (hpmB.mem_iff.mpr (itB_first 41))
  have hrlB : rowsB.length ≤ 40 := by rw [hpmB.length_eq]; exact R.le
  clear S5 S6 B4 S4' hpm' hsd' hle' hpmA hsdA
  have ibB' := ibB
  obtain ⟨bdx, bvc, bvs, bvr, bvk, bvl, hb1, _⟩ := ibB
  walk_at "vc"
  refine w_meth ?_
  walk_at "vc"
  refine ⟨xb, bdx, _, rfl, S6' _ _ hb1, rfl, ?_⟩
  walk_at "vc"
  refine ⟨xb, cs', seeds', rowsB, rfl, M6, S6', ibB', ?_⟩
  rintro v7 M7 H7 S7 i7
  have B7 := B6.keep S7
  walk_at "vc"
  refine ⟨v7, v8, rfl, M7, S7.mh, .dat (pl_strs (by omega)) i7 (i8.mono S7.mm), ?_⟩
  rintro v9 M8 H8 S8 rfl
  have B8 := B7.keep S8
  have S8' := (S7.trans S8).of (ex := exB b)
  clear S7 S8 B7 i7 B6
  walk_at "vc"
  refine ⟨ca, cvs, rfl, .inl (S8'.mh _ _ (S8'.mm _ _ hca)), ?_⟩
  rw [hcvl]
  walk_at "vc"
  refine ⟨b, p, xa, xb, x, w3, cs, cs', seeds, rowsA, seeds', rowsB, seeds, pic, rfl, hAsk _ _ (.refl _) hpr, M8, S8'.mh, B8, ix.mono S8'.mm, iw.mono S8'.mm, ibA.mono S8'.mm, ibB'.mono S8'.mm, S8'.mm _ _ hp, ?_⟩
  intro M9 H9 S9 B9
  have S9' := S8'.trans S9
  clear S8' S9 B8
  walk_at "vc"
  refine w_r1 (n := 3) (by decide) ?_
  refine fo_go walkR (fun i σ' H' => ∃ o11 o12 o13 o14 o15 M', σ' = [some (.ref a), some (.ref b), some u, some x, some w3, some (.ref ca), some x', some (.ref p), some v8, some (.ref xa), some (.ref xb), o11, o12, o13, o14, o15] ∧ Stp (exB b) M6 H6 M' H' ∧ Bag M' H' b) ⟨_, _, _, _, _, M9, rfl, S9', B9⟩ (fun _ _ _ _ _ => trivial) ?_ ?_
  · rintro i y σ10 H10 H10' hi ⟨o11, o12, o13, o14, o15, M10, rfl, S10, B10⟩ ⟨rfl, rfl⟩
    refine w_name ?_
    with_reducible refine w_cut (fun σ' H' => ∃ v12 o13 o14 o15 M', σ' = [some (.ref a), some (.ref b), some u, some x, some w3, some (.ref ca), some x', some (.ref p), some v8, some (.ref xa), some (.ref xb), some (.int (i : Int)), some v12, o13, o14, o15] ∧ Stp (exB b) M6 H6 M' H' ∧ Bag M' H' b ∧ PicV seeds.length M' v12) ?_ ?_
    · rintro σ11 H11 ⟨v12, o13, o14, o15, M11, rfl, S11, B11, pv⟩
      with_reducible refine w_cut (fun σ' H' => ∃ o12 o13 o14 o15 M', σ' = [some (.ref a), some (.ref b), some u, some x, some w3, some (.ref ca), some x', some (.ref p), some v8, some (.ref xa), some (.ref xb), some (.int (i : Int)), o12, o13, o14, o15] ∧ Stp (exB b) M6 H6 M' H' ∧ Bag M' H' b) ?_ ?_
      · rintro σ12 H12 ⟨o12, o13, o14, o15, M12, rfl, S12, B12⟩
        have hb12 : H12 b ≠ none := B12.has
        walk_at "vc"
        refine ⟨b, p, _, seeds, rfl, hb.so.nd, by omega, M12, S12.mh, B12, S12.mm _ _ hp, fun D ks1 M13 H13 hpm1 S13 B13 hD0 mD hD => ?_⟩
        have hDb : D ≠ b := fun z => hb12 (by rw [← z]; exact hD0)
        walk_at "vc"
        refine ⟨b, 2, rfl, by decide, by decide, M13, S13.mh, B13, ?_⟩
        rintro _ v14 M14 H14 ⟨j, rfl, hj⟩ S14 B14 rfl
        obtain ⟨mD14, hD14⟩ := S14.keepB mD hD hDb
        have S14' := S13.trans S14
        walk_at "vc"
        refine w_r1 (n := 1 + j) (by omega) ?_
        rw [Int.toNat_natCast]
        refine fo_go walkR (fun n σ' H' => ∃ o14 M' pic', σ' = [some (.ref a), some (.ref b), some u, some x, some w3, some (.ref ca), some x', some (.ref p), some v8, some (.ref xa), some (.ref xb), some (.int (i : Int)), o12, some (.ref D), o14, o15] ∧ Stp (exB b) M12 H12 M' H' ∧ Bag M' H' b ∧ M' D = none ∧ H' D = some (.dK (kd (fun s => .str (pic' s)) ks1)) ∧ ∀ s ∈ seeds, pic' s ∈ rowsB)
          ⟨_, M14, pic, rfl, S14', B14, mD14, hD14, hpr⟩ (fun _ _ _ _ _ => trivial) ?_ ?_
        · rintro n y σ15 H15 H15' hn ⟨o14', M15, pic', rfl, S15, B15, mD15, hD15, hpr'⟩ ⟨rfl, rfl⟩
          have sA := S12.mm.trans S15.mm
          walk_at "vc"
          refine ⟨b, v8, rowsB.map Dat.str, rfl, by rw [List.length_map]; exact hrB1, by rw [List.length_map]; omega, M15, S15.mh, B15, (i8.mono sA).q, ?_⟩
          rintro d v16 M16 H16 hm16 S16 B16 i16
          obtain ⟨r, hr, rfl⟩ := List.mem_map.mp hm16
          obtain rfl : v16 = .str r := i16
          obtain ⟨mD16, hD16⟩ := S16.keepB mD15 hD15 hDb
          walk_at "vc"
          refine ⟨b, x, seeds.map Dat.str, rfl, by rw [List.length_map]; exact hs1, by rw [List.length_map]; omega, M16, S16.mh, B16, (ix.mono (sA.trans S16.mm)).q, ?_⟩
          rintro d v17 M17 H17 hm17 S17 B17 i17
          obtain ⟨s, hs, rfl⟩ := List.mem_map.mp hm17
          obtain rfl : v17 = .str s := i17
          obtain ⟨mD17, hD17⟩ := S17.keepB mD16 hD16 hDb
          have hsk := hpm1.mem_iff.mpr hs
          have hks := hpm1.length_eq
          refine ⟨D, _, rfl, DPut.k (k := .inr s) hD17 (line_lt (by rw [kd_len]; omega)), ?_⟩
          refine ⟨_, M17, fun y => if y = s then r else pic' y, rfl, ((S15.trans S16).trans S17).put _ mD17 (.inl hD0), B17.put mD17 hDb, mD17, ?_, fun y hy => ?_⟩
          · rw [upd_same, kd_over1 _ _ _ _ hsk]
            rw [kd_congr (g := fun y => V.str (if y = s then r else pic' y)) fun y _ => (apply_ite V.str _ _ _).symm]
          · show (if y = s then r else pic' y) ∈ rowsB
            split
            · exact hr
            · exact hpr' y hy
        · rintro σ15 H15 ⟨o14', M15, pic', rfl, S15, B15, mD15, hD15, hpr'⟩
          have sA := S12.mm.trans (S15.mm.trans (same_upd (o := .dK (kd (fun s => .str (pic' s)) ks1)) mD15))
          have S16 := S12.trans (S15.fix hD15 hD0)
          have B16 : Bag (upd M15 D (.dK (kd (fun s => .str (pic' s)) ks1))) H15 b := B15.fix hDb (.inl mD15)
          have hD16 : upd M15 D (.dK (kd (fun s => .str (pic' s)) ks1)) D = some (.dK (kd (fun s => .str (pic' s)) ks1)) := upd_same
          generalize upd M15 D (.dK (kd (fun s => .str (pic' s)) ks1)) = M16 at sA S16 B16 hD16
          walk_at "vc"
          refine ⟨ca, cvs, rfl, .inl (S16.mh _ _ (sA _ _ hca)), ?_⟩
          rw [hcvl]
          walk_at "vc"
          refine ⟨b, D, xa, xb, x, w3, cs, cs', seeds, rowsA, seeds', rowsB, ks1, pic', rfl, hAsk _ _ hpm1 hpr', M16, S16.mh, B16, ix.mono sA, iw.mono sA, ibA.mono sA, ibB'.mono sA, hD16, ?_⟩
          intro M17 H17 S17 B17
          walk_at "vc"
          exact ⟨_, _, _, _, _, M17, rfl, S16.trans S17, B17⟩
      · intro U hU
        walk_at "vc"
        refine ⟨x, v8, v12, seeds, rowsB, rfl, by omega, M11, S11.mh, ix.mono S11.mm, i8.mono S11.mm, pv, fun bb hbb => ?_⟩
        rintro v13 M12 H12 S12 rfl
        have S12' := S11.trans S12.of
        have B12 := B11.keep S12
        refine ⟨bb, rfl, ?_⟩
        cases bb with
        | true =>
          walk_at "vc"
          exact hU _ _ ⟨_, _, _, _, M12, rfl, S12', B12⟩
        | false =>
          have hn : ¬ GoodP seeds rowsB M11 v12 := fun g => Bool.false_ne_true (hbb.mpr g)
          have hn12 : ¬ GoodP seeds rowsB M12 v12 := fun g => hn (g.back pv S12.mm)
          have pv12 := pv.mono S12.mm
          have sA := S12'.mm
          walk_at "vc"
          refine bad_told (wy := 0) (hAsk _ _ (.refl _) hpr) (by decide) S12'.mh (ibA.mono sA) (ibB'.mono sA) pv12 hn12 fun v13 M13 H13 S13 i13 => ?_
          walk_at "vc"
          refine bad_told (wy := 1) (hAsk _ _ (.refl _) hpr) (by decide) S13.mh ((ibA.mono sA).mono S13.mm) ((ibB'.mono sA).mono S13.mm) (pv12.mono S13.mm) (fun g => hn12 (g.back pv12 S13.mm)) fun v14 M14 H14 S14 i14 => ?_
          have S14' := S13.trans S14
          replace i13 := i13.mono S14.mm
          walk_at "vc"
          intro q1 hq1
          have S15 := S14'.lay (.lst [v13, v14]) hq1
          have s15 : Same M14 (upd M14 q1 (.lst [v13, v14])) := same_upd (S14'.mfree hq1)
          have i15 : Is (upd M14 q1 (.lst [v13, v14])) (.lst [.tup [.str "BadPictures", .str "BadPictures"], .tup [.str "BadPictures", .str "BadPictures"]]) (.ref q1) := ⟨q1, _, rfl, upd_same, _, _, rfl, i13.mono s15, _, _, rfl, i14.mono s15, rfl⟩
          generalize upd M14 q1 (.lst [v13, v14]) = M15 at S15 i15
          generalize upd H14 q1 (.lst [v13, v14]) = H15 at S15 ⊢
          walk_at "vc"
          intro q2 hq2
          have S16 := S15.lay (.tup [.str "BadPictures", .str "BadPictures"]) hq2
          have s16 : Same M15 (upd M15 q2 (.tup [.str "BadPictures", .str "BadPictures"])) := same_upd (S15.mfree hq2)
          have e16 : upd M15 q2 (.tup [.str "BadPictures", .str "BadPictures"]) q2 = some (.tup [.str "BadPictures", .str "BadPictures"]) := upd_same
          replace i15 := i15.mono s16
          generalize upd M15 q2 (.tup [.str "BadPictures", .str "BadPictures"]) = M16 at S16 i15 e16
          generalize upd H15 q2 (.tup [.str "BadPictures", .str "BadPictures"]) = H16 at S16 ⊢
          walk_at "vc"
          intro q3 hq3
          have S17 := S16.lay (.lst [.ref q2]) hq3
          have s17 : Same M16 (upd M16 q3 (.lst [.ref q2])) := same_upd (S16.mfree hq3)
          have e17 : upd M16 q3 (.lst [.ref q2]) q3 = some (.lst [.ref q2]) := upd_same
          replace i15 := i15.mono s17
          replace e16 := s17 _ _ e16
          generalize upd M16 q3 (.lst [.ref q2]) = M17 at S17 i15 e16 e17
          generalize upd H16 q3 (.lst [.ref q2]) = H17 at S17 ⊢
          walk_at "vc"
          refine ⟨q3, _, _, rfl, rfl, S17.mh _ _ e17, by decide, by decide, line_of (show 1 * 2 ≤ 1000000 by decide), fun q4 hq4 => ?_⟩
          have S18 := S17.lay (.lst [.ref q2, .ref q2]) hq4
          have s18 : Same M17 (upd M17 q4 (.lst [.ref q2, .ref q2])) := same_upd (S17.mfree hq4)
          have i18 : Is (upd M17 q4 (.lst [.ref q2, .ref q2])) (.lst [.tup [.str "BadPictures", .str "BadPictures"], .tup [.str "BadPictures", .str "BadPictures"]]) (.ref q4) :=
            ⟨q4, _, rfl, upd_same, _, _, rfl, Is.tup2 (s18 _ _ e16) rfl rfl, _, _, rfl, Is.tup2 (s18 _ _ e16) rfl rfl, rfl⟩
          replace i15 := i15.mono s18
          have e4 : (List.replicate (Int.toNat 2) [V.ref q2]).flatten = [V.ref q2, .ref q2] := rfl
          rw [e4]
          generalize upd M17 q4 (.lst [.ref q2, .ref q2]) = M18 at S18 i15 i18
          generalize upd H17 q4 (.lst [.ref q2, .ref q2]) = H18 at S18 ⊢
          walk_at "vc"
          refine ⟨.ref q1, .ref q4, rfl, M18, S18.mh, .dat (d := .lst [.tup [.str "BadPictures", .str "BadPictures"], .tup [.str "BadPictures", .str "BadPictures"]]) pl_bad i15 i18, ?_⟩
          rintro v19 M19 H19 S19 rfl
          have S19' := S18.trans S19
          walk_at "vc"
          exact hU _ _ ⟨_, _, _, _, M19, rfl, S12'.trans S19'.of, B12.keep S19'⟩
    · intro U hU
      walk_at "vc"
      refine ⟨b, x, .ref ca, p, seeds, cs', pic, seeds, rfl, hs1, by omega, fun s hs => ⟨by rw [row_len (hb.so.rw s hs)]; omega, by rw [hpl s hs]; omega⟩, .refl _, hb.so.nd, hc1', by omega, fun c hc => by have := (R.co.mn c hc).2; omega, M10, S10.mh, B10, ix.mono S10.mm, iu'.mono S10.mm, S10.mm _ _ hp, ?_⟩
      intro v11 M11 H11 S11 B11 iv
      walk_at "vc"
      exact hU _ _ ⟨v11, _, _, _, M11, rfl, S10.trans S11, B11, iv⟩
  · rintro σ10 H10 ⟨o11, o12, o13, o14, o15, M10, rfl, S10, B10⟩
    walk_at "vc"
    refine ⟨ca, cvs, rfl, .inl (S10.mh _ _ (S10.mm _ _ hca)), ?_⟩
    rw [hcvl]
    walk_at "vc"
    refine ⟨b, p, xa, xb, x, w3, cs, cs', seeds, rowsA, seeds', rowsB, seeds, pic, rfl, hAsk _ _ (.refl _) hpr, M10, S10.mh, B10, ix.mono S10.mm, iw.mono S10.mm, ibA.mono S10.mm, ibB'.mono S10.mm, S10.mm _ _ hp, ?_⟩
    intro M11 H11 S11 B11
    exact k _
end
end Nt
namespace Nt
open PySem PySem.Spec PyProof.Rows L2
theorem facts {P : Program} {w : World} {K : PySem.W.Frag} {h : Heap} {mg : Str → Option Value} {f : Addr} (X : K.In h) (G : h.Ns mainGlobals mg) (hfa : mg ("law" : Str) = some (.ref f)) (c : SaysX K) :
    ∃ fd : FuncData, (∀ (s : Shared) (v : Value), BindsTo s fd ⟨[v], []⟩ [("_law_script", v)]) ∧ ∀ base : Heap, K.In base → base.Ns mainGlobals mg → FnOk P w K mg base CX0 10 f fd ["_law_script"] (sp_law K) := by
  have T := Tx.of X G c
  obtain ⟨fd, F⟩ := T.def_ 50 (d := d_law) rfl
  have e := hfa.symm.trans T.m_law
  cases e
  have b := FunD.bindsA (ps := ["_law_script"]) F fun _ _ _ _ _ _ us hl => match us, hl with | [_], _ => rfl
  refine ⟨fd, fun s v => b s [v] rfl, fun base _ _ => ?_⟩
  exact ok_law T F
end Nt
open PySem PySem.W PySem.Calls PyProof.Rows
theorem PySem.Challenge.cw_newesttells_k93_whole_maps_holds : PySem.Challenge.rw_newesttells_k93_whole_maps.Holds := by
  w_on; o_law
  refine HandSHeadRun.head_any (r := OpenLaw.row PySem.Challenge.rw_newesttells_k93_whole_maps) (q := view (OpenLaw.row PySem.Challenge.rw_newesttells_k93_whole_maps).prog [79]) (H := Nt.hookY) (ob := Nt.ob) (M := 12000) (loose := Nt.loose) (d := HandSHeadRun.topDef (OpenLaw.row PySem.Challenge.rw_newesttells_k93_whole_maps).prog 79) (kwd := []) Nt.ob_eq
    (by kernel_rfl) (fun s => by kernel_rfl) Nt.run (by kernel_rfl) (by kernel_rfl) (by kernel_rfl) (by rfl) (by first | assumption | decide +kernel) (by decide +kernel) ⟨rfl, rfl, rfl, rfl, rfl, by decide +kernel⟩ ?hw ?hc
  case hw => w_witness2
  case hc =>
    refine L2.walk_ofE (l := PySem.Challenge.rw_newesttells_k93_whole_maps) (n := 63) (k := 10) (x := "_law_script") (CX := L2.CX0) rfl (by decide) (by kernel_rfl) ⟨rfl, by decide, by decide⟩ ?F (fun _ _ _ _ z => z)
    intro w mg fa h Y G hmg0
    obtain ⟨K, KX, c⟩ := Y
    have hmg : mg ("law" : PySem.Str) = some (.ref fa) := by
      have e : (HandSHeadRun.topDef (OpenLaw.row PySem.Challenge.rw_newesttells_k93_whole_maps).prog 79).name = ("law" : PySem.Str) := by kernel_rfl
      rw [← e]
      exact hmg0
    obtain ⟨fd, hb, hF⟩ := Nt.facts (P := (PySem.Challenge.rw_newesttells_k93_whole_maps).prog) (w := w) KX G hmg c
    exact ⟨K, fd, Nt.sp_law K, KX, hb, fun H a ns hl _ hS => ⟨a, ns, rfl, hS, Nat.le_trans hl (by decide), fun _ => rfl⟩, hF⟩
