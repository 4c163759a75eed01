import PyProof.Rows.All
import Wide.All
import OpenK.AllK
import Wide.FinOn
import PySem.Challenge.RW_carryyard_k20_whole_nothing_is_lost
import HandS.ForMost
import HandS.Defaults
import HandS.HeadHook2
import KE.KStateDown
import Lean
import HandS.More
import HandS.Head0
import HandS.Head1
import HandS.Head2
import HandS.HeadEnd
import HandS.HeadHook1
import HandS.HeadHook3
import HandS.HeadHook4
import HandS.Conv
import HandS.Zip
import HandS.TupAny
import HandS.TupMul
import HandS.IsInst
import HandS.TupLe
import HandS.Style
import HandS.DictComp
import HandS.Replace
import HandS.SortInts
import HandS.DictTup
import HandS.Walk
import PyProof.Draws
import PyProof.ToksMono
import HandS.ReplaceLit
import HandS.TupSets
import HandS.Codes
import KE.KDictSum
import HandS.SetBool
import HandS.Strs
import KE.OsSort
import KE.GoesZip
import KE.GoesMore
set_option Elab.async false
set_option linter.all false
set_option maxRecDepth 100000
set_option maxHeartbeats 4000000
namespace K20
open PySem PySem.Spec PyProof.Rows L2
abbrev Prg : Program := PySem.Challenge.pw_carryyard_k20_whole_nothing_is_lost
def topS (i : Nat) : Stmt := Prg.main.body.getD i (.Pass ⟨0, 0, 0, 0⟩)
abbrev s_is_whole : Stmt := topS 16
abbrev s_is_among : Stmt := topS 17
abbrev s_rises : Stmt := topS 18
abbrev s_is_text : Stmt := topS 19
abbrev s_is_floor : Stmt := topS 20
abbrev s_are_floors : Stmt := topS 21
abbrev s_are_costs : Stmt := topS 22
abbrev s_signs_of : Stmt := topS 23
abbrev s_is_shut_row : Stmt := topS 24
abbrev s_is_yard : Stmt := topS 25
abbrev s_need_yard : Stmt := topS 26
abbrev s_cells_of : Stmt := topS 27
abbrev s_sign_at : Stmt := topS 28
abbrev s_is_cell : Stmt := topS 29
abbrev s_need_cell : Stmt := topS 30
abbrev s_beside_by : Stmt := topS 31
abbrev s_beside : Stmt := topS 32
abbrev s_is_shut : Stmt := topS 33
abbrev s_is_carrier : Stmt := topS 40
abbrev s_is_stock : Stmt := topS 41
abbrev s_is_shelf : Stmt := topS 42
abbrev s_are_shelves : Stmt := topS 43
abbrev s_is_order : Stmt := topS 44
abbrev s_are_carriers : Stmt := topS 45
abbrev s_goods_in : Stmt := topS 46
abbrev s_is_state_of : Stmt := topS 47
abbrev s_is_state : Stmt := topS 48
abbrev s_need_state : Stmt := topS 49
abbrev s_loads_of : Stmt := topS 50
abbrev s_standing_by : Stmt := topS 51
abbrev s_lacking : Stmt := topS 52
abbrev s_sums_by : Stmt := topS 53
abbrev s_sums : Stmt := topS 54
abbrev s_totals_of : Stmt := topS 55
abbrev s_alike : Stmt := topS 56
abbrev s_is_deed : Stmt := topS 63
abbrev s_are_deeds : Stmt := topS 64
abbrev s_homes_by : Stmt := topS 65
abbrev s_price_of : Stmt := topS 66
abbrev s_go_fault : Stmt := topS 67
abbrev s_lift_fault : Stmt := topS 68
abbrev s_set_fault : Stmt := topS 69
abbrev s_hand_fault : Stmt := topS 70
abbrev s_fill_fault : Stmt := topS 71
abbrev s_bide_fault : Stmt := topS 72
abbrev s_own_fault : Stmt := topS 74
abbrev s_cells_behind : Stmt := topS 75
abbrev s_met_fault : Stmt := topS 76
abbrev s_fault_by : Stmt := topS 77
abbrev s_carrier_behind : Stmt := topS 78
abbrev s_handed : Stmt := topS 79
abbrev s_behind_by : Stmt := topS 80
abbrev s_are_rows : Stmt := topS 83
abbrev s_need_rows : Stmt := topS 84
abbrev s_run_by : Stmt := topS 85
abbrev s_run : Stmt := topS 86
abbrev s__law_box : Stmt := topS 88
abbrev s__law_more : Stmt := topS 89
abbrev s__law_take : Stmt := topS 90
abbrev s__law_yard : Stmt := topS 91
abbrev s__law_signs : Stmt := topS 92
abbrev s__law_shuts : Stmt := topS 93
abbrev s__law_shelves : Stmt := topS 94
abbrev s__law_carriers : Stmt := topS 95
abbrev s__law_calmed : Stmt := topS 96
abbrev s__law_state : Stmt := topS 97
abbrev s__law_spot : Stmt := topS 98
abbrev s__law_near : Stmt := topS 99
abbrev s__law_deed : Stmt := topS 100
abbrev s__law_deeds : Stmt := topS 101
abbrev s__law_homes : Stmt := topS 102
abbrev s__law_own : Stmt := topS 103
abbrev s__law_takes : Stmt := topS 104
abbrev s__law_met : Stmt := topS 105
abbrev s__law_fault : Stmt := topS 106
abbrev s__law_after : Stmt := topS 107
abbrev s__law_rows : Stmt := topS 108
abbrev s__law_carrier_right : Stmt := topS 109
abbrev s__law_step_right : Stmt := topS 110
abbrev s_law : Stmt := topS 111
def d_is_whole : He.DefD := ⟨("is_whole", none), "is_whole", "is_whole", defArgs s_is_whole, defBody s_is_whole, defScope s_is_whole, [], []⟩
def d_is_among : He.DefD := ⟨("is_among", none), "is_among", "is_among", defArgs s_is_among, defBody s_is_among, defScope s_is_among, [], []⟩
def d_rises : He.DefD := ⟨("rises", none), "rises", "rises", defArgs s_rises, defBody s_rises, defScope s_rises, [], []⟩
def d_is_text : He.DefD := ⟨("is_text", none), "is_text", "is_text", defArgs s_is_text, defBody s_is_text, defScope s_is_text, [], []⟩
def d_is_floor : He.DefD := ⟨("is_floor", none), "is_floor", "is_floor", defArgs s_is_floor, defBody s_is_floor, defScope s_is_floor, [], []⟩
def d_are_floors : He.DefD := ⟨("are_floors", none), "are_floors", "are_floors", defArgs s_are_floors, defBody s_are_floors, defScope s_are_floors, [], []⟩
def d_are_costs : He.DefD := ⟨("are_costs", none), "are_costs", "are_costs", defArgs s_are_costs, defBody s_are_costs, defScope s_are_costs, [], []⟩
def d_signs_of : He.DefD := ⟨("signs_of", none), "signs_of", "signs_of", defArgs s_signs_of, defBody s_signs_of, defScope s_signs_of, [], []⟩
def d_is_shut_row : He.DefD := ⟨("is_shut_row", none), "is_shut_row", "is_shut_row", defArgs s_is_shut_row, defBody s_is_shut_row, defScope s_is_shut_row, [], []⟩
def d_is_yard : He.DefD := ⟨("is_yard", none), "is_yard", "is_yard", defArgs s_is_yard, defBody s_is_yard, defScope s_is_yard, [], []⟩
def d_need_yard : He.DefD := ⟨("need_yard", none), "need_yard", "need_yard", defArgs s_need_yard, defBody s_need_yard, defScope s_need_yard, [], []⟩
def d_cells_of : He.DefD := ⟨("cells_of", none), "cells_of", "cells_of", defArgs s_cells_of, defBody s_cells_of, defScope s_cells_of, [], []⟩
def d_sign_at : He.DefD := ⟨("sign_at", none), "sign_at", "sign_at", defArgs s_sign_at, defBody s_sign_at, defScope s_sign_at, [], []⟩
def d_is_cell : He.DefD := ⟨("is_cell", none), "is_cell", "is_cell", defArgs s_is_cell, defBody s_is_cell, defScope s_is_cell, [], []⟩
def d_need_cell : He.DefD := ⟨("need_cell", none), "need_cell", "need_cell", defArgs s_need_cell, defBody s_need_cell, defScope s_need_cell, [], []⟩
def d_beside_by : He.DefD := ⟨("beside_by", none), "beside_by", "beside_by", defArgs s_beside_by, defBody s_beside_by, defScope s_beside_by, [], []⟩
def d_beside : He.DefD := ⟨("beside", none), "beside", "beside", defArgs s_beside, defBody s_beside, defScope s_beside, [], []⟩
def d_is_shut : He.DefD := ⟨("is_shut", none), "is_shut", "is_shut", defArgs s_is_shut, defBody s_is_shut, defScope s_is_shut, [], []⟩
def d_is_carrier : He.DefD := ⟨("is_carrier", none), "is_carrier", "is_carrier", defArgs s_is_carrier, defBody s_is_carrier, defScope s_is_carrier, [], []⟩
def d_is_stock : He.DefD := ⟨("is_stock", none), "is_stock", "is_stock", defArgs s_is_stock, defBody s_is_stock, defScope s_is_stock, [], []⟩
def d_is_shelf : He.DefD := ⟨("is_shelf", none), "is_shelf", "is_shelf", defArgs s_is_shelf, defBody s_is_shelf, defScope s_is_shelf, [], []⟩
def d_are_shelves : He.DefD := ⟨("are_shelves", none), "are_shelves", "are_shelves", defArgs s_are_shelves, defBody s_are_shelves, defScope s_are_shelves, [], []⟩
def d_is_order : He.DefD := ⟨("is_order", none), "is_order", "is_order", defArgs s_is_order, defBody s_is_order, defScope s_is_order, [], []⟩
def d_are_carriers : He.DefD := ⟨("are_carriers", none), "are_carriers", "are_carriers", defArgs s_are_carriers, defBody s_are_carriers, defScope s_are_carriers, [], []⟩
def d_goods_in : He.DefD := ⟨("goods_in", none), "goods_in", "goods_in", defArgs s_goods_in, defBody s_goods_in, defScope s_goods_in, [], []⟩
def d_is_state_of : He.DefD := ⟨("is_state_of", none), "is_state_of", "is_state_of", defArgs s_is_state_of, defBody s_is_state_of, defScope s_is_state_of, [], []⟩
def d_is_state : He.DefD := ⟨("is_state", none), "is_state", "is_state", defArgs s_is_state, defBody s_is_state, defScope s_is_state, [], []⟩
def d_need_state : He.DefD := ⟨("need_state", none), "need_state", "need_state", defArgs s_need_state, defBody s_need_state, defScope s_need_state, [], []⟩
def d_loads_of : He.DefD := ⟨("loads_of", none), "loads_of", "loads_of", defArgs s_loads_of, defBody s_loads_of, defScope s_loads_of, [], []⟩
def d_standing_by : He.DefD := ⟨("standing_by", none), "standing_by", "standing_by", defArgs s_standing_by, defBody s_standing_by, defScope s_standing_by, [], []⟩
def d_lacking : He.DefD := ⟨("lacking", none), "lacking", "lacking", defArgs s_lacking, defBody s_lacking, defScope s_lacking, [], []⟩
def d_sums_by : He.DefD := ⟨("sums_by", none), "sums_by", "sums_by", defArgs s_sums_by, defBody s_sums_by, defScope s_sums_by, [], []⟩
def d_sums : He.DefD := ⟨("sums", none), "sums", "sums", defArgs s_sums, defBody s_sums, defScope s_sums, [], []⟩
def d_totals_of : He.DefD := ⟨("totals_of", none), "totals_of", "totals_of", defArgs s_totals_of, defBody s_totals_of, defScope s_totals_of, [], []⟩
def d_alike : He.DefD := ⟨("alike", none), "alike", "alike", defArgs s_alike, defBody s_alike, defScope s_alike, [], []⟩
def d_is_deed : He.DefD := ⟨("is_deed", none), "is_deed", "is_deed", defArgs s_is_deed, defBody s_is_deed, defScope s_is_deed, [], []⟩
def d_are_deeds : He.DefD := ⟨("are_deeds", none), "are_deeds", "are_deeds", defArgs s_are_deeds, defBody s_are_deeds, defScope s_are_deeds, [], []⟩
def d_homes_by : He.DefD := ⟨("homes_by", none), "homes_by", "homes_by", defArgs s_homes_by, defBody s_homes_by, defScope s_homes_by, [], []⟩
def d_price_of : He.DefD := ⟨("price_of", none), "price_of", "price_of", defArgs s_price_of, defBody s_price_of, defScope s_price_of, [], []⟩
def d_go_fault : He.DefD := ⟨("go_fault", none), "go_fault", "go_fault", defArgs s_go_fault, defBody s_go_fault, defScope s_go_fault, [], []⟩
def d_lift_fault : He.DefD := ⟨("lift_fault", none), "lift_fault", "lift_fault", defArgs s_lift_fault, defBody s_lift_fault, defScope s_lift_fault, [], []⟩
def d_set_fault : He.DefD := ⟨("set_fault", none), "set_fault", "set_fault", defArgs s_set_fault, defBody s_set_fault, defScope s_set_fault, [], []⟩
def d_hand_fault : He.DefD := ⟨("hand_fault", none), "hand_fault", "hand_fault", defArgs s_hand_fault, defBody s_hand_fault, defScope s_hand_fault, [], []⟩
def d_fill_fault : He.DefD := ⟨("fill_fault", none), "fill_fault", "fill_fault", defArgs s_fill_fault, defBody s_fill_fault, defScope s_fill_fault, [], []⟩
def d_bide_fault : He.DefD := ⟨("bide_fault", none), "bide_fault", "bide_fault", defArgs s_bide_fault, defBody s_bide_fault, defScope s_bide_fault, [], []⟩
def d_own_fault : He.DefD := ⟨("own_fault", none), "own_fault", "own_fault", defArgs s_own_fault, defBody s_own_fault, defScope s_own_fault, [], []⟩
def d_cells_behind : He.DefD := ⟨("cells_behind", none), "cells_behind", "cells_behind", defArgs s_cells_behind, defBody s_cells_behind, defScope s_cells_behind, [], []⟩
def d_met_fault : He.DefD := ⟨("met_fault", none), "met_fault", "met_fault", defArgs s_met_fault, defBody s_met_fault, defScope s_met_fault, [], []⟩
def d_fault_by : He.DefD := ⟨("fault_by", none), "fault_by", "fault_by", defArgs s_fault_by, defBody s_fault_by, defScope s_fault_by, [], []⟩
def d_carrier_behind : He.DefD := ⟨("carrier_behind", none), "carrier_behind", "carrier_behind", defArgs s_carrier_behind, defBody s_carrier_behind, defScope s_carrier_behind, [], []⟩
def d_handed : He.DefD := ⟨("handed", none), "handed", "handed", defArgs s_handed, defBody s_handed, defScope s_handed, [], []⟩
def d_behind_by : He.DefD := ⟨("behind_by", none), "behind_by", "behind_by", defArgs s_behind_by, defBody s_behind_by, defScope s_behind_by, [], []⟩
def d_are_rows : He.DefD := ⟨("are_rows", none), "are_rows", "are_rows", defArgs s_are_rows, defBody s_are_rows, defScope s_are_rows, [], []⟩
def d_need_rows : He.DefD := ⟨("need_rows", none), "need_rows", "need_rows", defArgs s_need_rows, defBody s_need_rows, defScope s_need_rows, [], []⟩
def d_run_by : He.DefD := ⟨("run_by", none), "run_by", "run_by", defArgs s_run_by, defBody s_run_by, defScope s_run_by, [], []⟩
def d_run : He.DefD := ⟨("run", none), "run", "run", defArgs s_run, defBody s_run, defScope s_run, [], []⟩
def d__law_box : He.DefD := ⟨("_law_box", none), "_law_box", "_law_box", defArgs s__law_box, defBody s__law_box, defScope s__law_box, [], []⟩
def d__law_more : He.DefD := ⟨("_law_more", none), "_law_more", "_law_more", defArgs s__law_more, defBody s__law_more, defScope s__law_more, [], []⟩
def d__law_take : He.DefD := ⟨("_law_take", none), "_law_take", "_law_take", defArgs s__law_take, defBody s__law_take, defScope s__law_take, [], []⟩
def d__law_yard : He.DefD := ⟨("_law_yard", none), "_law_yard", "_law_yard", defArgs s__law_yard, defBody s__law_yard, defScope s__law_yard, [], []⟩
def d__law_signs : He.DefD := ⟨("_law_signs", none), "_law_signs", "_law_signs", defArgs s__law_signs, defBody s__law_signs, defScope s__law_signs, [], []⟩
def d__law_shuts : He.DefD := ⟨("_law_shuts", none), "_law_shuts", "_law_shuts", defArgs s__law_shuts, defBody s__law_shuts, defScope s__law_shuts, [], []⟩
def d__law_shelves : He.DefD := ⟨("_law_shelves", none), "_law_shelves", "_law_shelves", defArgs s__law_shelves, defBody s__law_shelves, defScope s__law_shelves, [], []⟩
def d__law_carriers : He.DefD := ⟨("_law_carriers", none), "_law_carriers", "_law_carriers", defArgs s__law_carriers, defBody s__law_carriers, defScope s__law_carriers, [], []⟩
def d__law_calmed : He.DefD := ⟨("_law_calmed", none), "_law_calmed", "_law_calmed", defArgs s__law_calmed, defBody s__law_calmed, defScope s__law_calmed, [], []⟩
def d__law_state : He.DefD := ⟨("_law_state", none), "_law_state", "_law_state", defArgs s__law_state, defBody s__law_state, defScope s__law_state, [], []⟩
def d__law_spot : He.DefD := ⟨("_law_spot", none), "_law_spot", "_law_spot", defArgs s__law_spot, defBody s__law_spot, defScope s__law_spot, [], []⟩
def d__law_near : He.DefD := ⟨("_law_near", none), "_law_near", "_law_near", defArgs s__law_near, defBody s__law_near, defScope s__law_near, [], []⟩
def d__law_deed : He.DefD := ⟨("_law_deed", none), "_law_deed", "_law_deed", defArgs s__law_deed, defBody s__law_deed, defScope s__law_deed, [], []⟩
def d__law_deeds : He.DefD := ⟨("_law_deeds", none), "_law_deeds", "_law_deeds", defArgs s__law_deeds, defBody s__law_deeds, defScope s__law_deeds, [], []⟩
def d__law_homes : He.DefD := ⟨("_law_homes", none), "_law_homes", "_law_homes", defArgs s__law_homes, defBody s__law_homes, defScope s__law_homes, [], []⟩
def d__law_own : He.DefD := ⟨("_law_own", none), "_law_own", "_law_own", defArgs s__law_own, defBody s__law_own, defScope s__law_own, [], []⟩
def d__law_takes : He.DefD := ⟨("_law_takes", none), "_law_takes", "_law_takes", defArgs s__law_takes, defBody s__law_takes, defScope s__law_takes, [], []⟩
def d__law_met : He.DefD := ⟨("_law_met", none), "_law_met", "_law_met", defArgs s__law_met, defBody s__law_met, defScope s__law_met, [], []⟩
def d__law_fault : He.DefD := ⟨("_law_fault", none), "_law_fault", "_law_fault", defArgs s__law_fault, defBody s__law_fault, defScope s__law_fault, [], []⟩
def d__law_after : He.DefD := ⟨("_law_after", none), "_law_after", "_law_after", defArgs s__law_after, defBody s__law_after, defScope s__law_after, [], []⟩
def d__law_rows : He.DefD := ⟨("_law_rows", none), "_law_rows", "_law_rows", defArgs s__law_rows, defBody s__law_rows, defScope s__law_rows, [], []⟩
def d__law_carrier_right : He.DefD := ⟨("_law_carrier_right", none), "_law_carrier_right", "_law_carrier_right", defArgs s__law_carrier_right, defBody s__law_carrier_right, defScope s__law_carrier_right, [], []⟩
def d__law_step_right : He.DefD := ⟨("_law_step_right", none), "_law_step_right", "_law_step_right", defArgs s__law_step_right, defBody s__law_step_right, defScope s__law_step_right, [], []⟩
def d_law : He.DefD := ⟨("law", none), "law", "law", defArgs s_law, defBody s_law, defScope s_law, [], []⟩
def fn : List He.DefD := [d_is_whole, d_is_among, d_rises, d_is_text, d_is_floor, d_are_floors, d_are_costs, d_signs_of, d_is_shut_row, d_is_yard, d_need_yard, d_cells_of, d_sign_at, d_is_cell, d_need_cell, d_beside_by, d_beside, d_is_shut, d_is_carrier, d_is_stock, d_is_shelf, d_are_shelves, d_is_order, d_are_carriers, d_goods_in, d_is_state_of, d_is_state, d_need_state, d_loads_of, d_standing_by, d_lacking, d_sums_by, d_sums, d_totals_of, d_alike, d_is_deed, d_are_deeds, d_homes_by, d_price_of, d_go_fault, d_lift_fault, d_set_fault, d_hand_fault, d_fill_fault, d_bide_fault, d_own_fault, d_cells_behind, d_met_fault, d_fault_by, d_carrier_behind, d_handed, d_behind_by, d_are_rows, d_need_rows, d_run_by, d_run, d__law_box, d__law_more, d__law_take, d__law_yard, d__law_signs, d__law_shuts, d__law_shelves, d__law_carriers, d__law_calmed, d__law_state, d__law_spot, d__law_near, d__law_deed, d__law_deeds, d__law_homes, d__law_own, d__law_takes, d__law_met, d__law_fault, d__law_after, d__law_rows, d__law_carrier_right, d__law_step_right, d_law]
-- free: abs all any bool dict divmod enumerate int isinstance len list max min range set sorted str sum tuple zip
-- other: [('ALONE', "('bide', 'fill', 'lift', 'set')"), ('NUMBERED', "('go', 'hand')"), ('FAULTS', "{'bide': bide_fault, 'fill': fill_fault, 'go': go_fault, 'lift': lift_fault, 'set': set_fault, 'hand': hand_fault}")]
def fa : List He.Fa := [.glo "is_whole", .glo "is_among", .glo "rises", .glo "is_text", .glo "is_floor", .glo "are_floors", .glo "are_costs", .glo "signs_of", .glo "is_shut_row", .glo "is_yard", .glo "need_yard", .glo "cells_of", .glo "sign_at", .glo "is_cell", .glo "need_cell", .glo "beside_by", .glo "beside", .glo "is_shut", .glo "is_carrier", .glo "is_stock", .glo "is_shelf", .glo "are_shelves", .glo "is_order", .glo "are_carriers", .glo "goods_in", .glo "is_state_of", .glo "is_state", .glo "need_state", .glo "loads_of", .glo "standing_by", .glo "lacking", .glo "sums_by", .glo "sums", .glo "totals_of", .glo "alike", .glo "is_deed", .glo "are_deeds", .glo "homes_by", .glo "price_of", .glo "go_fault", .glo "lift_fault", .glo "set_fault", .glo "hand_fault", .glo "fill_fault", .glo "bide_fault", .glo "own_fault", .glo "cells_behind", .glo "met_fault", .glo "fault_by", .glo "carrier_behind", .glo "handed", .glo "behind_by", .glo "are_rows", .glo "need_rows", .glo "run_by", .glo "run", .glo "_law_box", .glo "_law_more", .glo "_law_take", .glo "_law_yard", .glo "_law_signs", .glo "_law_shuts", .glo "_law_shelves", .glo "_law_carriers", .glo "_law_calmed", .glo "_law_state", .glo "_law_spot", .glo "_law_near", .glo "_law_deed", .glo "_law_deeds", .glo "_law_homes", .glo "_law_own", .glo "_law_takes", .glo "_law_met", .glo "_law_fault", .glo "_law_after", .glo "_law_rows", .glo "_law_carrier_right", .glo "_law_step_right", .glo "law", .free "abs", .free "all", .free "any", .free "bool", .free "dict", .free "divmod", .free "enumerate", .free "int", .free "isinstance", .free "len", .free "list", .free "max", .free "min", .free "range", .free "set", .free "sorted", .free "str", .free "sum", .free "tuple", .free "zip", .int "MOST_FLOORS" 2, .int "MOST_SIDE" 5, .int "MOST_CELLS" 12, .int "MOST_SHUTS" 4, .int "LAST_SHUT" 99, .int "MOST_CARRIERS" 3, .int "MOST_SHELVES" 4, .int "MOST_ORDERS" 4, .int "MOST_GOODS" 3, .int "MOST_STOCK" 99, .int "MOST_NUMBER" 99, .int "MOST_ROWS" 24, .str "WALL" "#", .str "HOME" "S", .str "LIFT" "L", .str "SIGNS" ".#SDPL", .str "DESK" "D", .str "POST" "P", .glo "ALONE", .glo "NUMBERED", .glo "FAULTS"]
end K20
set_option maxHeartbeats 0
namespace K20
open PySem PySem.Spec PyProof.Rows L2
def loose0 : List Str := ["YardError", "NoYard", "NoCell", "NoState", "NoRows", "WALL", "HOME", "LIFT", "SIGNS", "MOST_FLOORS", "MOST_SIDE", "MOST_CELLS", "MOST_SHUTS", "LAST_SHUT", "is_whole", "is_among", "rises", "is_text", "is_floor", "are_floors", "are_costs", "signs_of", "is_shut_row", "is_yard", "need_yard", "cells_of", "sign_at", "is_cell", "need_cell", "beside_by"]
def loose1 : List Str := ["beside", "is_shut", "MOST_CARRIERS", "MOST_SHELVES", "MOST_ORDERS", "MOST_GOODS", "MOST_STOCK", "is_carrier", "is_stock", "is_shelf", "are_shelves", "is_order", "are_carriers", "goods_in", "is_state_of", "is_state", "need_state", "loads_of", "standing_by", "lacking", "sums_by", "sums", "totals_of", "alike", "ALONE", "NUMBERED", "MOST_NUMBER", "DESK", "POST", "is_deed"]
def loose2 : List Str := ["are_deeds", "homes_by", "price_of", "go_fault", "lift_fault", "set_fault", "hand_fault", "fill_fault", "bide_fault", "FAULTS", "own_fault", "cells_behind", "met_fault", "fault_by", "carrier_behind", "handed", "behind_by", "MOST_ROWS", "are_rows", "need_rows", "run_by", "run", "_law_box", "_law_more", "_law_take", "_law_yard", "_law_signs", "_law_shuts", "_law_shelves", "_law_carriers"]
def loose3 : List Str := ["_law_calmed", "_law_state", "_law_spot", "_law_near", "_law_deed", "_law_deeds", "_law_homes", "_law_own", "_law_takes", "_law_met", "_law_fault", "_law_after", "_law_rows", "_law_carrier_right", "_law_step_right"]
def loose : List Str := loose0 ++ loose1 ++ loose2 ++ loose3
abbrev R : PySem.W.OpenRow := PySem.W.OpenLaw.row PySem.Challenge.rw_carryyard_k20_whole_nothing_is_lost
def faultsKV : List (Str × He.Dv) := [("bide", .glo "bide_fault"), ("fill", .glo "fill_fault"), ("go", .glo "go_fault"), ("lift", .glo "lift_fault"), ("set", .glo "set_fault"), ("hand", .glo "hand_fault")]
def ts : List He.Tab := [(fun K => He.ga K "FAULTS", ["bide", "fill", "go", "lift", "set", "hand"])]
def ex (K : PySem.W.Frag) : Bool := He.tupB K "ALONE" [.str "bide", .str "fill", .str "lift", .str "set"] && (He.tupB K "NUMBERED" [.str "go", .str "hand"] && He.valsB K (He.ga K "FAULTS") faultsKV)
abbrev hk : PySem.W.Hook := He.hookX 2 fa fn ts [] ex
def ob (s : PySem.W.SharedT) : He.AlX := He.obsX 2 fa fn ts [] ex (HandSHeadRun.getT s)
theorem ob_eq (s : PySem.W.SharedT) : ob s = hk.obs s.abs := He.obsX_eq (HandSHeadRun.getT_eq s)
abbrev lawIx : Nat := 111
abbrev qv : Program := PySem.W.view R.prog [111]
theorem run0 (w : World) : HandSHeadRun.RunEq R qv hk ob 6000 loose (w.withFollow "special-get-raises" false) := by
  intro os
  kernel_rfl
theorem run1 (w : World) : HandSHeadRun.RunEq R qv hk ob 6000 loose (w.withFollow "special-get-raises" true) := by
  intro os
  kernel_rfl
theorem run (w : World) : HandSHeadRun.RunEq R qv hk ob 6000 loose w := PySem.W.byRow2 "special-get-raises" (P := fun w => HandSHeadRun.RunEq R qv hk ob 6000 loose w) run0 run1 w
end K20
set_option maxHeartbeats 4000000
namespace K20
open PySem PySem.Spec PyProof.Rows L2
abbrev D := PyData
/-- a tuple of the written part -/
def KT (K : PySem.W.Frag) (a : Addr) (xs : List V) : Prop := SqT K (fun _ => none) a xs
theorem KT.sqt {K : PySem.W.Frag} {H : Hp} {a : Addr} {xs : List V} (h : KT K a xs) : SqT K H a xs := by
  rcases h with (h | ⟨_, h⟩) | q
  · cases h
  · cases h
  · exact .inr q
theorem KT.obj {K : PySem.W.Frag} {a : Addr} {xs : List V} (h : KT K a xs) : ∃ o, K.lookup a = some o ∧ o.cls = .type "tuple" := by
  rcases h with (h | ⟨o, h⟩) | ⟨o, _, _, h1, h2, _⟩
  · cases h
  · cases h
  · exact ⟨o, h1, h2⟩
mutual
inductive Rep (K : PySem.W.Frag) (H : Hp) : V → D → Prop
  | non : Rep K H .non .none
  | bl (b : Bool) : Rep K H (.bl b) (.bool b)
  | int (i : Int) : Rep K H (.int i) (.int i)
  | str (x : Str) : Rep K H (.str x) (.str x)
  | tup {a : Addr} {xs : List V} {ds : List D} : (H a = some (.tup xs) ∨ KT K a xs) → Reps K H xs ds → Rep K H (.ref a) (.tuple ds)
inductive Reps (K : PySem.W.Frag) (H : Hp) : List V → List D → Prop
  | nil : Reps K H [] []
  | cons {v : V} {vs : List V} {d : D} {ds : List D} : Rep K H v d → Reps K H vs ds → Reps K H (v :: vs) (d :: ds)
end
/-- the tuples are kept -/
def TK (H H' : Hp) : Prop := ∀ a xs, H a = some (.tup xs) → H' a = some (.tup xs)
mutual
theorem Rep.tk {K : PySem.W.Frag} {H H' : Hp} (k : TK H H') : ∀ {v : V} {d : D}, Rep K H v d → Rep K H' v d
  | _, _, .non => .non
  | _, _, .bl b => .bl b
  | _, _, .int i => .int i
  | _, _, .str x => .str x
  | _, _, .tup h r => .tup (h.imp (k _ _) id) (Reps.tk k r)
theorem Reps.tk {K : PySem.W.Frag} {H H' : Hp} (k : TK H H') : ∀ {vs : List V} {ds : List D}, Reps K H vs ds → Reps K H' vs ds
  | _, _, .nil => .nil
  | _, _, .cons a b => .cons (Rep.tk k a) (Reps.tk k b)
end
mutual
theorem Rep.dp {K : PySem.W.Frag} {H : Hp} : ∀ {v : V} {d : D}, Rep K H v d → Dp K H v d
  | _, _, .non => .non
  | _, _, .bl b => .bl b
  | _, _, .int i => .int i
  | _, _, .str x => .str x
  | _, _, .tup h r => .tup (h.elim (fun h => .inl (.inl h)) KT.sqt) (Reps.dp r)
theorem Reps.dp {K : PySem.W.Frag} {H : Hp} : ∀ {vs : List V} {ds : List D}, Reps K H vs ds → DpAll K H vs ds
  | _, _, .nil => .nil
  | _, _, .cons a b => .cons (Rep.dp a) (Reps.dp b)
end
theorem Rep.sqt {K : PySem.W.Frag} {H : Hp} {a : Addr} {xs : List V} (h : H a = some (.tup xs) ∨ KT K a xs) : SqT K H a xs := h.elim (fun h => .inl (.inl h)) KT.sqt
section
variable {K : PySem.W.Frag} {H H' : Hp} {v : V} {vs : List V} {ds : List D}
theorem Rep.inv_int {i : Int} (h : Rep K H v (.int i)) : v = .int i := by cases h; rfl
theorem Rep.inv_str {x : Str} (h : Rep K H v (.str x)) : v = .str x := by cases h; rfl
theorem Rep.inv_bool {b : Bool} (h : Rep K H v (.bool b)) : v = .bl b := by cases h; rfl
theorem Rep.inv_none (h : Rep K H v .none) : v = .non := by cases h; rfl
theorem Rep.inv_tup (h : Rep K H v (.tuple ds)) : ∃ a xs, v = .ref a ∧ (H a = some (.tup xs) ∨ KT K a xs) ∧ Reps K H xs ds := by
  cases h with
  | tup h r => exact ⟨_, _, rfl, h, r⟩
theorem Reps.length (h : Reps K H vs ds) : vs.length = ds.length := by
  induction (vs) generalizing ds with
  | nil => cases h; rfl
  | cons v vs ih =>
    cases h with
    | cons a b => exact congrArg Nat.succ (ih b)
theorem Reps.get {i : Nat} {d : D} (h : Reps K H vs ds) (e : ds[i]? = some d) : ∃ v, vs[i]? = some v ∧ Rep K H v d := by
  induction vs generalizing ds i with
  | nil => cases h; simp at e
  | cons v vs ih =>
    cases h with
    | cons a b =>
      cases i with
      | zero => simp at e; subst e; exact ⟨v, rfl, a⟩
      | succ i => simpa using ih b (by simpa using e)
theorem Reps.get' {i : Nat} {v : V} (h : Reps K H vs ds) (e : vs[i]? = some v) : ∃ d, ds[i]? = some d ∧ Rep K H v d := by
  induction vs generalizing ds i with
  | nil => simp at e
  | cons u vs ih =>
    cases h with
    | cons a b =>
      cases i with
      | zero => simp at e; subst e; exact ⟨_, rfl, a⟩
      | succ i => simpa using ih b (by simpa using e)
theorem Reps.append {vs' : List V} {ds' : List D} (h : Reps K H vs ds) (h' : Reps K H vs' ds') : Reps K H (vs ++ vs') (ds ++ ds') := by
  induction (vs) generalizing ds with
  | nil => cases h; exact h'
  | cons v vs ih =>
    cases h with
    | cons a b => exact .cons a (ih b)
theorem Reps.set {i : Nat} {d : D} (h : Reps K H vs ds) (r : Rep K H v d) : Reps K H (vs.set i v) (ds.set i d) := by
  induction vs generalizing ds i with
  | nil => cases h; exact .nil
  | cons u vs ih =>
    cases h with
    | cons a b =>
      cases i with
      | zero => exact .cons r b
      | succ i => exact .cons a (ih b)
theorem Reps.drop {n : Nat} (h : Reps K H vs ds) : Reps K H (vs.drop n) (ds.drop n) := by
  induction n generalizing vs ds with
  | zero => exact h
  | succ n ih =>
    cases h with
    | nil => exact .nil
    | cons a b => exact ih b
theorem Reps.take {n : Nat} (h : Reps K H vs ds) : Reps K H (vs.take n) (ds.take n) := by
  induction n generalizing vs ds with
  | zero => exact .nil
  | succ n ih =>
    cases h with
    | nil => exact .nil
    | cons a b => exact .cons a (ih b)
theorem Reps.eraseIdx {n : Nat} (h : Reps K H vs ds) : Reps K H (vs.eraseIdx n) (ds.eraseIdx n) := by
  induction n generalizing vs ds with
  | zero =>
    cases h with
    | nil => exact .nil
    | cons a b => exact b
  | succ n ih =>
    cases h with
    | nil => exact .nil
    | cons a b => exact .cons a (ih b)
/-- ints, truths, texts, None -/
theorem Reps.ints {ns : List Int} (h : Reps K H vs (ns.map PyData.int)) : vs = ns.map V.int := by
  induction ns generalizing vs with
  | nil => cases h; rfl
  | cons n ns ih =>
    cases h with
    | cons a b => rw [a.inv_int, ih b]; rfl
theorem Reps.bools {ns : List Bool} (h : Reps K H vs (ns.map PyData.bool)) : vs = ns.map V.bl := by
  induction ns generalizing vs with
  | nil => cases h; rfl
  | cons n ns ih =>
    cases h with
    | cons a b => rw [a.inv_bool, ih b]; rfl
theorem Reps.strs' {ns : List Str} (h : Reps K H vs (ns.map PyData.str)) : vs = ns.map V.str := by
  induction ns generalizing vs with
  | nil => cases h; rfl
  | cons n ns ih =>
    cases h with
    | cons a b => rw [a.inv_str, ih b]; rfl
theorem Reps.mkInts : ∀ ns : List Int, Reps K H (ns.map V.int) (ns.map PyData.int)
  | [] => .nil
  | n :: ns => .cons (.int n) (Reps.mkInts ns)
end

abbrev Bx := Int × Int
def Kp (bx : Option Addr) (H H' : Hp) : Prop := ∀ a o, H a = some o → bx ≠ some a → H' a = some o
def BoxIs (bx : Option Addr) (H : Hp) (β : Bx) : Prop := ∀ b, bx = some b → H b = some (.lst [.int β.1, .int β.2])
theorem Kp.refl {bx : Option Addr} {H : Hp} : Kp bx H H := fun _ _ h _ => h
theorem Kp.trans {bx : Option Addr} {H H1 H2 : Hp} (a : Kp bx H H1) (b : Kp bx H1 H2) : Kp bx H H2 := fun p o h n => b p o (a p o h n) n
theorem Kp.new {bx : Option Addr} {H : Hp} {p : Addr} {o : HO} (h : H p = none) : Kp bx H (upd H p o) := fun a u e _ => by
  rw [upd_ne (ne_of_none e h)]; exact e
theorem Kp.tk {bx : Option Addr} {H H' : Hp} {β : Bx} (b : BoxIs bx H β) (k : Kp bx H H') : TK H H' := fun a xs h => k a _ h fun e => by
  have := b a e
  rw [h] at this; cases this
theorem BoxIs.new {bx : Option Addr} {H : Hp} {β : Bx} {p : Addr} {o : HO} (b : BoxIs bx H β) (h : H p = none) : BoxIs bx (upd H p o) β := fun a e => by
  rw [upd_ne (ne_of_none (b a e) h)]; exact b a e
theorem BoxIs.ne {bx : Option Addr} {H : Hp} {β : Bx} {p : Addr} (b : BoxIs bx H β) (h : H p = none) : bx ≠ some p := fun e => by
  have := b p e
  rw [h] at this; cases this
/-- fresh later is fresh before (the box stands) -/
theorem Kp.fresh {bx : Option Addr} {H H' : Hp} {β' : Bx} {p : Addr} (k : Kp bx H H') (b : BoxIs bx H' β') (h : H' p = none) : H p = none := by
  cases e : H p with
  | none => rfl
  | some o =>
    have := k p o e (b.ne h)
    rw [h] at this; cases this

inductive Res where
  | d (x : D)
  | l (ds : List D)
  | m (kvs : List (Int × Int))
  | box
  | s (ns : List Int)
  | t (ks : List (List Int))
  | ll (dss : List (List D))
abbrev Env := List (Option Res)
/-- an entry of a dict by tuples, its value True -/
def ktOf (k : List Int) : List Key × V := (k.map Sum.inl, V.bl true)
/-- lists at these addresses -/
inductive LLs (K : PySem.W.Frag) (bx : Option Addr) (H : Hp) : List Addr → List (List D) → Prop
  | nil : LLs K bx H [] []
  | cons {q : Addr} {qs : List Addr} {vs : List V} {ds : List D} {dss : List (List D)} : bx ≠ some q → H q = some (.lst vs) → Reps K H vs ds → LLs K bx H qs dss → LLs K bx H (q :: qs) (ds :: dss)
def kvOf (p : Int × Int) : Key × V := (Sum.inl p.1, V.int p.2)
/-- a list that is only read -/
def KL (K : PySem.W.Frag) (H : Hp) (a : Addr) (xs : List V) : Prop := (∃ o, H a = some (.frz o (.lst xs))) ∨ SqL K (fun _ => none) a xs
theorem KL.sql {K : PySem.W.Frag} {H : Hp} {a : Addr} {xs : List V} (h : KL K H a xs) : SqL K H a xs := by
  rcases h with h | (h | ⟨o, h⟩) | h
  · exact .inl (.inr h)
  · cases h
  · cases h
  · exact .inr h
/-- v stands for r; A: its own addresses -/
def RV (K : PySem.W.Frag) (bx : Option Addr) (H : Hp) (v : V) : Res → List Addr → Prop
  | .d x, A => Rep K H v x ∧ A = []
  | .l ds, A => ∃ p vs, v = .ref p ∧ bx ≠ some p ∧ H p = some (.lst vs) ∧ Reps K H vs ds ∧ A = [p]
  | .m kvs, A => ∃ p, v = .ref p ∧ bx ≠ some p ∧ H p = some (.dK (kvs.map kvOf)) ∧ A = [p]
  | .box, A => ∃ b, v = .ref b ∧ bx = some b ∧ A = []
  | .s ns, A => ∃ a, v = .ref a ∧ KL K H a (ns.map V.int) ∧ A = []
  | .t ks, A => ∃ p, v = .ref p ∧ bx ≠ some p ∧ H p = some (.dT (ks.map ktOf)) ∧ A = [p]
  | .ll dss, A => ∃ p qs, v = .ref p ∧ bx ≠ some p ∧ H p = some (.lst (qs.map V.ref)) ∧ LLs K bx H qs dss ∧ (p :: qs).Nodup ∧ A = p :: qs
theorem LLs.kp {K : PySem.W.Frag} {bx : Option Addr} {H H' : Hp} {β : Bx} (b : BoxIs bx H β) (k : Kp bx H H') : ∀ {qs : List Addr} {dss : List (List D)}, LLs K bx H qs dss → LLs K bx H' qs dss
  | _, _, .nil => .nil
  | _, _, .cons n hq r t => .cons n (k _ _ hq n) (r.tk (k.tk b)) (LLs.kp b k t)
theorem LLs.some {K : PySem.W.Frag} {bx : Option Addr} {H : Hp} : ∀ {qs : List Addr} {dss : List (List D)} {p : Addr}, LLs K bx H qs dss → p ∈ qs → ∃ vs, H p = Option.some (.lst vs)
  | _, _, _, .nil, h => by cases h
  | _, _, _, .cons n hq r t, h => by
    rcases List.mem_cons.1 h with e | h
    · rw [e]; exact ⟨_, hq⟩
    · exact LLs.some t h
def isD : Res → Bool
  | .l _ => false
  | .m _ => false
  | .t _ => false
  | .ll _ => false
  | _ => true
section
variable {K : PySem.W.Frag} {bx : Option Addr} {H H' : Hp} {β β' : Bx} {v : V} {r : Res} {A : List Addr}
theorem RV.kp (b : BoxIs bx H β) (k : Kp bx H H') (h : RV K bx H v r A) : RV K bx H' v r A := by
  cases r with
  | d x => exact ⟨h.1.tk (k.tk b), h.2⟩
  | l ds =>
    obtain ⟨p, vs, e, n, hp, r, ea⟩ := h
    exact ⟨p, vs, e, n, k _ _ hp n, r.tk (k.tk b), ea⟩
  | m kvs =>
    obtain ⟨p, e, n, hp, ea⟩ := h
    exact ⟨p, e, n, k _ _ hp n, ea⟩
  | box => exact h
  | s ns =>
    obtain ⟨a, e, hs, ea⟩ := h
    refine ⟨a, e, ?_, ea⟩
    rcases hs with ⟨o, hs⟩ | hs
    · exact .inl ⟨o, k _ _ hs fun q => by
        have := b a q
        rw [hs] at this; cases this⟩
    · exact .inr hs
  | t ks =>
    obtain ⟨p, e, n, hp, ea⟩ := h
    exact ⟨p, e, n, k _ _ hp n, ea⟩
  | ll dss =>
    obtain ⟨p, qs, e, n, hp, hl, nd, ea⟩ := h
    exact ⟨p, qs, e, n, k _ _ hp n, hl.kp b k, nd, ea⟩
theorem RV.nil (hd : isD r = true) (h : RV K bx H v r A) : A = [] := by
  cases r with
  | d x => exact h.2
  | l ds => cases hd
  | m kvs => cases hd
  | box => exact h.choose_spec.2.2
  | s ns => exact h.choose_spec.2.2
  | t ks => cases hd
  | ll dss => cases hd
end
/-- the state: B the heap at the def's entry, ρ what the slots hold, β the box -/
structure RS (K : PySem.W.Frag) (B : Hp) (bx : Option Addr) (ρ : Env) (β : Bx) (σ : L2.St) (H : Hp) : Prop where
  kp : Kp bx B H
  bb : ∀ b, bx = some b → B b ≠ none
  bi : BoxIs bx H β
  len : σ.length = ρ.length
  sl : ∃ fa : Nat → List Addr, (∀ i r, ρ[i]? = some (some r) → ∃ v, σ[i]? = some (some v) ∧ RV K bx H v r (fa i)) ∧ (∀ i p, p ∈ fa i → B p = none) ∧ (∀ i j p, p ∈ fa i → p ∈ fa j → i = j)
section
variable {K : PySem.W.Frag} {B : Hp} {bx : Option Addr} {ρ : Env} {β β' β1 β2 : Bx} {σ : L2.St} {H H' : Hp} {v : V} {r : Res} {A : List Addr}
theorem RS.step (h : RS K B bx ρ β σ H) (k : Kp bx H H') (b : BoxIs bx H' β') : RS K B bx ρ β' σ H' := by
  obtain ⟨kp, bb, bi, len, fa, h1, h2, h3⟩ := h
  exact ⟨kp.trans k, bb, b, len, fa, fun i r e => let ⟨v, e1, e2⟩ := h1 i r e; ⟨v, e1, e2.kp bi k⟩, h2, h3⟩
/-- B's free addresses stay free of what is kept -/
theorem RS.freshB (h : RS K B bx ρ β σ H) {p : Addr} (e : H p = none) : B p = none := h.kp.fresh h.bi e
/-- what is wanted of a value -/
def Got (K : PySem.W.Frag) (bx : Option Addr) (H : Hp) (fr : Bool) (r : Res) (β' : Bx) (Q : VK) : Prop :=
  ∀ v H' A, Kp bx H H' → BoxIs bx H' β' → RV K bx H' v r A → (fr = true → ∀ p ∈ A, H p = none) → Q v H'
def EvR (K : PySem.W.Frag) (B : Hp) (bx : Option Addr) (te : TE) (ρ : Env) (β : Bx) (fr : Bool) (r : Res) (β' : Bx) : Prop :=
  ∀ σ H, RS K B bx ρ β σ H → ∀ Q : VK, Got K bx H fr r β' Q → te σ H Q
def EvT (K : PySem.W.Frag) (B : Hp) (bx : Option Addr) (tt : TT) (ρ : Env) (β : Bx) (c : Bool) (β' : Bx) : Prop :=
  ∀ σ H, RS K B bx ρ β σ H → ∀ Q : Bool → Hp → Prop, (∀ H', Kp bx H H' → BoxIs bx H' β' → Q c H') → tt σ H Q
/-- values of many, none with addresses of its own -/
def RVs (K : PySem.W.Frag) (bx : Option Addr) (H : Hp) : List V → List Res → Prop
  | [], [] => True
  | v :: vs, r :: rs => RV K bx H v r [] ∧ RVs K bx H vs rs
  | _, _ => False
def EvA (K : PySem.W.Frag) (B : Hp) (bx : Option Addr) (ta : TA) (ρ : Env) (β : Bx) (rs : List Res) (β' : Bx) : Prop :=
  ∀ σ H, RS K B bx ρ β σ H → ∀ Q : List V → Hp → Prop, (∀ vs H', Kp bx H H' → BoxIs bx H' β' → RVs K bx H' vs rs → Q vs H') → ta σ H Q
theorem RVs.kp (b : BoxIs bx H β) (k : Kp bx H H') : ∀ {vs : List V} {rs : List Res}, RVs K bx H vs rs → RVs K bx H' vs rs
  | [], [], h => h
  | _ :: _, _ :: _, h => ⟨h.1.kp b k, RVs.kp b k h.2⟩
  | [], _ :: _, h => h.elim
  | _ :: _, [], h => h.elim
theorem RVs.reps : ∀ {vs : List V} {ds : List D}, RVs K bx H vs (ds.map Res.d) → Reps K H vs ds
  | [], [], _ => .nil
  | _ :: _, _ :: _, h => .cons h.1.1 (RVs.reps h.2)
  | [], _ :: _, h => h.elim
  | _ :: _, [], h => h.elim
theorem RVs.ofReps : ∀ {vs : List V} {ds : List D}, Reps K H vs ds → RVs K bx H vs (ds.map Res.d)
  | _, _, .nil => True.intro
  | _, _, .cons a b => ⟨⟨a, rfl⟩, RVs.ofReps b⟩
/-- data, the heap as it is -/
theorem Got.d {fr : Bool} {x : D} {Q : VK} (g : Got K bx H fr (.d x) β Q) (b : BoxIs bx H β) (h : Rep K H v x) : Q v H :=
  g v H [] Kp.refl b ⟨h, rfl⟩ fun _ p hp => by cases hp
/-- a new tuple -/
theorem Got.tup {fr : Bool} {xs : List V} {ds : List D} {p : Addr} {Q : VK} (g : Got K bx H fr (.d (.tuple ds)) β Q) (b : BoxIs bx H β) (h : Reps K H xs ds) (hp : H p = none) : Q (.ref p) (upd H p (.tup xs)) :=
  g _ _ [] (Kp.new hp) (b.new hp) ⟨.tup (.inl upd_same) (h.tk ((Kp.new hp).tk b)), rfl⟩ fun _ p hp => by cases hp
/-- a new list -/
theorem Got.lst {fr : Bool} {xs : List V} {ds : List D} {p : Addr} {Q : VK} (g : Got K bx H fr (.l ds) β Q) (b : BoxIs bx H β) (h : Reps K H xs ds) (hp : H p = none) : Q (.ref p) (upd H p (.lst xs)) :=
  g _ _ [p] (Kp.new hp) (b.new hp) ⟨p, xs, rfl, b.ne hp, upd_same, h.tk ((Kp.new hp).tk b), rfl⟩ fun _ q hq => by
    simp at hq; subst hq; exact hp
/-- behind a first step -/
theorem Got.behind {fr : Bool} {Q : VK} (g : Got K bx H fr r β' Q) (k : Kp bx H H') (b : BoxIs bx H' β) : Got K bx H' fr r β' Q := fun v H2 A k2 b2 h f =>
  g v H2 A (k.trans k2) b2 h fun hf p hp => k.fresh b (f hf p hp)
theorem evr_op {rr : R2} {ta tb : TE} {x y : Res} {f1 f2 fr : Bool} (ha : EvR K B bx ta ρ β f1 x β1) (hb : EvR K B bx tb ρ β1 f2 y β2)
    (hr : ∀ H vx vy Ax Ay, BoxIs bx H β2 → RV K bx H vx x Ax → RV K bx H vy y Ay → ∀ Q, Got K bx H fr r β2 Q → rr vx vy H Q) : EvR K B bx (tOp rr ta tb) ρ β fr r β2 := fun σ H S Q g =>
  ha σ H S _ fun vx H1 Ax k1 b1 r1 _ => hb σ H1 (S.step k1 b1) _ fun vy H2 Ay k2 b2 r2 _ =>
    hr H2 vx vy Ax Ay b2 (r1.kp b1 k2) r2 Q (g.behind (k1.trans k2) b2)
theorem evr_var {i : Nat} (h : ρ[i]? = some (some r)) : EvR K B bx (tVar i) ρ β (isD r) r β := fun σ H S Q g => by
  obtain ⟨fa, h1, _, _⟩ := S.sl
  obtain ⟨v, e1, e2⟩ := h1 i r h
  refine ⟨v, e1, g v H _ Kp.refl S.bi e2 fun hf p hp => ?_⟩
  rw [e2.nil hf] at hp; cases hp
theorem evr_c {w : V} {x : D} (h : ∀ H, Rep K H w x) : EvR K B bx (tC w) ρ β true (.d x) β := fun σ H S Q g => g.d S.bi (h H)
theorem eva_nil : EvA K B bx tNil ρ β [] β := fun σ H S Q g => g [] H Kp.refl S.bi True.intro
theorem eva_cons {te : TE} {ta : TA} {rs : List Res} {fr : Bool} (he : EvR K B bx te ρ β fr r β1) (hd : isD r = true) (ha : EvA K B bx ta ρ β1 rs β2) : EvA K B bx (tCons te ta) ρ β (r :: rs) β2 := fun σ H S Q g =>
  he σ H S _ fun v H1 A k1 b1 r1 _ => ha σ H1 (S.step k1 b1) _ fun vs H2 k2 b2 r2 => g (v :: vs) H2 (k1.trans k2) b2 ⟨by
    have e := r1.nil hd
    subst e
    exact r1.kp b1 k2, r2⟩
theorem evr_tup {ta : TA} {ds : List D} (h : EvA K B bx ta ρ β (ds.map Res.d) β1) (hl : ds.length ≤ 100000) : EvR K B bx (tTup ta) ρ β true (.d (.tuple ds)) β1 := fun σ H S Q g =>
  h σ H S _ fun vs H1 k1 b1 r1 => ⟨by rw [r1.reps.length]; exact Nat.le_trans hl (by decide), fun p hp => (g.behind k1 b1).tup b1 r1.reps hp⟩
theorem evr_lst {ta : TA} {ds : List D} (h : EvA K B bx ta ρ β (ds.map Res.d) β1) (hl : ds.length ≤ 100000) : EvR K B bx (tLst ta) ρ β true (.l ds) β1 := fun σ H S Q g =>
  h σ H S _ fun vs H1 k1 b1 r1 => ⟨by rw [r1.reps.length]; exact Nat.le_trans hl (by decide), fun p hp => (g.behind k1 b1).lst b1 r1.reps hp⟩
/-- a built-in's call -/
theorem evr_cb {rr : List V → Hp → VK → Prop} {ta : TA} {rs : List Res} {fr : Bool} (ha : EvA K B bx ta ρ β rs β1)
    (hr : ∀ H vs, BoxIs bx H β1 → RVs K bx H vs rs → ∀ Q, Got K bx H fr r β1 Q → rr vs H Q) : EvR K B bx (tCB rr ta) ρ β fr r β1 := fun σ H S Q g =>
  ha σ H S _ fun vs H1 k1 b1 r1 => hr H1 vs b1 r1 Q (g.behind k1 b1)
/-- .. of one value of any kind -/
theorem evr_cb1 {rr : List V → Hp → VK → Prop} {te : TE} {x : Res} {f1 fr : Bool} (ha : EvR K B bx te ρ β f1 x β1)
    (hr : ∀ H v A, BoxIs bx H β1 → RV K bx H v x A → ∀ Q, Got K bx H fr r β1 Q → rr [v] H Q) : EvR K B bx (tCB rr (tCons te tNil)) ρ β fr r β1 := fun σ H S Q g =>
  ha σ H S _ fun v H1 A k1 b1 r1 _ => hr H1 v A b1 r1 Q (g.behind k1 b1)
theorem evt_of {te : TE} {c : Bool} {fr : Bool} (h : EvR K B bx te ρ β fr (.d (.bool c)) β1) : EvT K B bx (tB te) ρ β c β1 := fun σ H S Q g =>
  h σ H S _ fun v H1 A k1 b1 r1 _ => ⟨c, r1.1.inv_bool, g H1 k1 b1⟩
theorem evt_not {tt : TT} {c : Bool} (h : EvT K B bx tt ρ β c β1) : EvT K B bx (tNot tt) ρ β (!c) β1 := fun σ H S Q g => h σ H S _ fun H1 k1 b1 => g H1 k1 b1
theorem evt_and {t u : TT} {a c : Bool} (h : EvT K B bx t ρ β a β1) (h2 : a = true → EvT K B bx u ρ β1 c β2) : EvT K B bx (tAnd t u) ρ β (a && c) (cond a β2 β1) := fun σ H S Q g =>
  h σ H S _ fun H1 k1 b1 => by
    cases a with
    | true =>
      show u σ H1 Q
      exact h2 rfl σ H1 (S.step k1 b1) Q fun H2 k2 b2 => g H2 (k1.trans k2) b2
    | false =>
      show Q false H1
      exact g H1 k1 b1
theorem evt_or {t u : TT} {a c : Bool} (h : EvT K B bx t ρ β a β1) (h2 : a = false → EvT K B bx u ρ β1 c β2) : EvT K B bx (tOr t u) ρ β (a || c) (cond a β1 β2) := fun σ H S Q g =>
  h σ H S _ fun H1 k1 b1 => by
    cases a with
    | false =>
      show u σ H1 Q
      exact h2 rfl σ H1 (S.step k1 b1) Q fun H2 k2 b2 => g H2 (k1.trans k2) b2
    | true =>
      show Q true H1
      exact g H1 k1 b1
theorem evr_and {ta tb : TE} {a c : Bool} {f1 f2 : Bool} (h : EvR K B bx ta ρ β f1 (.d (.bool a)) β1) (h2 : a = true → EvR K B bx tb ρ β1 f2 (.d (.bool c)) β2) : EvR K B bx (tAndV ta tb) ρ β true (.d (.bool (a && c))) (cond a β2 β1) := fun σ H S Q g =>
  h σ H S _ fun v H1 A k1 b1 r1 _ => ⟨a, r1.1.inv_bool, by
    cases a with
    | true =>
      show tb σ H1 Q
      exact h2 rfl σ H1 (S.step k1 b1) Q fun w H2 A2 k2 b2 r2 f => (g.behind k1 b1) w H2 A2 k2 b2 r2 fun _ p hp => by rw [r2.2] at hp; cases hp
    | false =>
      show Q (.bl false) H1
      exact (g.behind k1 b1).d b1 (.bl false)⟩
theorem evr_or {ta tb : TE} {a c : Bool} {f1 f2 : Bool} (h : EvR K B bx ta ρ β f1 (.d (.bool a)) β1) (h2 : a = false → EvR K B bx tb ρ β1 f2 (.d (.bool c)) β2) : EvR K B bx (tOrV ta tb) ρ β true (.d (.bool (a || c))) (cond a β1 β2) := fun σ H S Q g =>
  h σ H S _ fun v H1 A k1 b1 r1 _ => ⟨a, r1.1.inv_bool, by
    cases a with
    | false =>
      show tb σ H1 Q
      exact h2 rfl σ H1 (S.step k1 b1) Q fun w H2 A2 k2 b2 r2 f => (g.behind k1 b1) w H2 A2 k2 b2 r2 fun _ p hp => by rw [r2.2] at hp; cases hp
    | true =>
      show Q (.bl true) H1
      exact (g.behind k1 b1).d b1 (.bl true)⟩
theorem evr_if {tt : TT} {ta tb : TE} {c fr : Bool} (h : EvT K B bx tt ρ β c β1) (h1 : c = true → EvR K B bx ta ρ β1 fr r β2) (h2 : c = false → EvR K B bx tb ρ β1 fr r β2) : EvR K B bx (tIf tt ta tb) ρ β fr r β2 := fun σ H S Q g =>
  h σ H S _ fun H1 k1 b1 => by
    cases c with
    | true =>
      show ta σ H1 Q
      exact h1 rfl σ H1 (S.step k1 b1) Q (g.behind k1 b1)
    | false =>
      show tb σ H1 Q
      exact h2 rfl σ H1 (S.step k1 b1) Q (g.behind k1 b1)
end
end K20
set_option maxHeartbeats 4000000
namespace K20
open PySem PySem.Spec PyProof.Rows L2
structure Gb where
  P : Program
  w : World
  K : PySem.W.Frag
  mg : Str → Option Value
  base : Heap
structure Ct where
  g : Gb
  N : List Str
  sc : Scope
  fn : Str → Bool
  k : Nat
structure Ctx (c : Ct) (X : Cx) : Prop where
  hP : X.prog = c.g.P
  hw : X.w = c.g.w
  hK : X.K = c.g.K
  hm : X.mg = c.g.mg
  hb : X.base = c.g.base
  hN : X.N = c.N
  hs : X.env.scope = c.sc
  hf : X.fn = c.fn
  hc : X.calm = true
  hx : X.xe = fun _ _ => False
  hr : Room c.k X.A
def Ct.blk (c : Ct) (scope : Scope) : Ct := { c with sc := relS scope c.sc, fn := fun x => scope.names.lookup x == some .cell }
theorem Ctx.blk {c : Ct} {X : Cx} (h : Ctx c X) (scope : Scope) (s : Shared) (H : Hp) (C : Addr) (cl : List (Str × Addr)) (fp : List Addr) :
    Ctx (c.blk scope) (X.blk s H scope (compEnvC scope cl C X.env) fp) := by
  refine ⟨h.hP, h.hw, h.hK, h.hm, h.hb, h.hN, ?_, rfl, h.hc, rfl, h.hr⟩
  show relS scope X.env.scope = relS scope c.sc
  rw [h.hs]

def PEc (c : Ct) (e : Expr) (t : TE) : Prop := ∀ X, Ctx c X → PE X e t
def PTc (c : Ct) (e : Expr) (t : TT) : Prop := ∀ X, Ctx c X → PT X e t
def PWc (c : Ct) (e : Expr) (t : TT) : Prop := ∀ X, Ctx c X → PW X e t
def PAc (c : Ct) (es : List Expr) (t : TA) : Prop := ∀ X, Ctx c X → PA X es t
def POc (c : Ct) (e : Option Expr) (t : TO) : Prop := ∀ X, Ctx c X → PO X e t
def PIc (c : Ct) (tg e : Expr) (t : TI) : Prop := ∀ X, Ctx c X → PI X tg e t
def PGc (c : Ct) (e : Expr) (t : TG) : Prop := ∀ X, Ctx c X → PG X e t
def PGsc (c : Ct) (es : List Expr) (t : TGs) : Prop := ∀ X, Ctx c X → PGs X es t
def PSc (c : Ct) (st : Stmt) (t : TS) : Prop := ∀ X, Ctx c X → PS X st t
def PSsc (c : Ct) (st : List Stmt) (t : TS) : Prop := ∀ X, Ctx c X → PSs X st t
/-- a name of the module, or built in -/
abbrev GlS (sc : Scope) (x : Str) : Prop := sc.names.lookup x = some .globalImplicit
theorem Ctx.gl {c : Ct} {X : Cx} (h : Ctx c X) {x : Str} (hg : GlS c.sc x) : Gl X x := by
  show X.env.scope.names.lookup x = _
  rw [h.hs]; exact hg
theorem Ctx.mg0 {c : Ct} {X : Cx} (h : Ctx c X) {x : Str} {v : Option Value} (hm : c.g.mg x = v) : X.mg x = v := by rw [h.hm]; exact hm
theorem Ctx.u64 {c : Ct} {X : Cx} (h : Ctx c X) : X.A.units + 64 < cLine := by have := h.hr.un; omega
theorem Ctx.u1 {c : Ct} {X : Cx} (h : Ctx c X) : X.A.units + 1 < cLine := by have := h.hr.un; omega
section
variable {c : Ct} {a b d' e : Expr} {es rest : List Expr} {ta tb td te : TE} {tA tB' : TT} {t : TA} {pos : Pos}
theorem pec_var (i : Nat) {x : Str} (hN : c.N[i]? = some x := by rfl) (hv : Vis c.sc x := by first | exact Or.inl rfl | exact Or.inr (Or.inl rfl) | exact Or.inr (Or.inr rfl))
    (hd : (x == ("__debug__" : Str)) = false := by decide) (hcd : (x == ("__classdict__" : Str)) = false := by decide) : PEc c (.Name x pos) (tVar i) :=
  fun X h => pe_var (by rw [h.hN]; exact hN) (by rw [h.hs]; exact hv) hd hcd
theorem pec_int {i : Int} {j : Nat} : PEc c (.Constant (.int i) j pos) (tC (.int i)) := fun _ _ => pe_int
theorem pec_bl {i : Bool} {j : Nat} : PEc c (.Constant (.bool i) j pos) (tC (.bl i)) := fun _ _ => pe_bl
theorem pec_non {j : Nat} : PEc c (.Constant .none j pos) (tC .non) := fun _ _ => pe_non
theorem pec_str {i : Str} {j : Nat} : PEc c (.Constant (.str i) j pos) (tC (.str i)) := fun _ _ => pe_str
theorem pec_gint {x : Str} {i : Int} (hm : ∃ t, c.g.mg x = some (.int i t)) (hg : GlS c.sc x := by rfl) (hd : (x == ("__debug__" : Str)) = false := by decide) : PEc c (.Name x pos) (tC (.int i)) := by
  obtain ⟨t, e⟩ := hm
  exact fun X h => pe_glob (v := .int i) (h.gl hg) (h.mg0 e) ⟨t, rfl⟩ hd
theorem pec_gstr {x : Str} {i : Str} (hm : ∃ t, c.g.mg x = some (.str i t)) (hg : GlS c.sc x := by rfl) (hd : (x == ("__debug__" : Str)) = false := by decide) : PEc c (.Name x pos) (tC (.str i)) := by
  obtain ⟨t, e⟩ := hm
  exact fun X h => pe_glob (v := .str i) (h.gl hg) (h.mg0 e) ⟨t, rfl⟩ hd
theorem pec_gref {x : Str} {p : Addr} (hm : c.g.mg x = some (.ref p)) (hg : GlS c.sc x := by rfl) (hd : (x == ("__debug__" : Str)) = false := by decide) : PEc c (.Name x pos) (tC (.ref p)) :=
  fun X h => pe_glob (v := .ref p) (h.gl hg) (h.mg0 hm) rfl hd
theorem pec_gty {x : Str} {n : String} (hm : c.g.mg x = none) (hv : bootBuiltins x = some (.type n)) (hg : GlS c.sc x := by rfl) (hn : x ≠ "__name__" := by decide) (hd : (x == ("__debug__" : Str)) = false := by decide) : PEc c (.Name x pos) (tC (.ty n)) :=
  fun X h => pe_bltn (v := .ty n) (h.gl hg) (h.mg0 hm) hv rfl hn hd
abbrev rAddI : R2 := rI0 fun i j => .int (i + j)
abbrev rSubI : R2 := rI0 fun i j => .int (i - j)
abbrev rMulI : R2 := rI CMul fun i j => .int (i * j)
abbrev rModI : R2 := rI (fun _ j => 0 < j) fun i j => .int (i % j)
abbrev rDivI : R2 := rI CDiv fun i j => .int (i / j)
abbrev rAddSt : R2 := fun x y H Q => ∃ i j, x = .str i ∧ y = .str j ∧ i.length + j.length ≤ sizeLine ∧ Q (.str (i ++ j)) H
theorem pec_op {op : Operator} {r : R2} (ho : ∀ X, OpR X (binaryOp op) r) (ha : PEc c a ta) (hb : PEc c b tb) : PEc c (.BinOp a op b pos) (tOp r ta tb) := fun X h => pe_op (ho X) (ha X h) (hb X h)
theorem pec_add (ha : PEc c a ta) (hb : PEc c b tb) : PEc c (.BinOp a .Add b pos) (tOp rAddI ta tb) := pec_op (fun _ => op_add) ha hb
theorem pec_sub (ha : PEc c a ta) (hb : PEc c b tb) : PEc c (.BinOp a .Sub b pos) (tOp rSubI ta tb) := pec_op (fun _ => op_sub) ha hb
theorem pec_mul (ha : PEc c a ta) (hb : PEc c b tb) : PEc c (.BinOp a .Mult b pos) (tOp rMulI ta tb) := pec_op (fun _ => op_mul) ha hb
theorem pec_mod (ha : PEc c a ta) (hb : PEc c b tb) : PEc c (.BinOp a .Mod b pos) (tOp rModI ta tb) := pec_op (fun _ => op_mod) ha hb
theorem pec_fdiv (ha : PEc c a ta) (hb : PEc c b tb) : PEc c (.BinOp a .FloorDiv b pos) (tOp rDivI ta tb) := pec_op (fun _ => op_fdiv) ha hb
theorem pec_addS (ha : PEc c a ta) (hb : PEc c b tb) : PEc c (.BinOp a .Add b pos) (tOp rAddSt ta tb) := pec_op (fun _ => op_add_str) ha hb
theorem pec_addT (ha : PEc c a ta) (hb : PEc c b tb) : PEc c (.BinOp a .Add b pos) (tOp (rCatA c.g.K) ta tb) := fun X h => by
  rw [← h.hK]; exact pe_op op_catA (ha X h) (hb X h)
theorem pec_mulT (ha : PEc c a ta) (hb : PEc c b tb) : PEc c (.BinOp a .Mult b pos) (tOp (rRepT c.g.K) ta tb) := fun X h => by
  rw [← h.hK]; exact pe_op op_repT (ha X h) (hb X h)
abbrev rLtI : R2 := rI0 fun i j => .bl (decide (i < j))
abbrev rLeI : R2 := rI0 fun i j => .bl (decide (i ≤ j))
abbrev rGtI : R2 := rI0 fun i j => .bl (decide (j < i))
abbrev rGeI : R2 := rI0 fun i j => .bl (decide (j ≤ i))
theorem pec_cmp {op : CmpOp} {r : R2} (ho : ∀ X, OpR X (compareOp op) r) (ha : PEc c a ta) (hb : PEc c b tb) (hm : behindInMarks op b = false) : PEc c (.Compare a [op] [b] pos) (tOp r ta tb) := fun X h => pe_cmpR (ho X) (ha X h) (hb X h) hm
theorem pec_lt (ha : PEc c a ta) (hb : PEc c b tb) : PEc c (.Compare a [.Lt] [b] pos) (tOp rLtI ta tb) := pec_cmp (fun _ => op_lt) ha hb (nomark _)
theorem pec_le (ha : PEc c a ta) (hb : PEc c b tb) : PEc c (.Compare a [.LtE] [b] pos) (tOp rLeI ta tb) := pec_cmp (fun _ => op_le) ha hb (nomark _)
theorem pec_gt (ha : PEc c a ta) (hb : PEc c b tb) : PEc c (.Compare a [.Gt] [b] pos) (tOp rGtI ta tb) := pec_cmp (fun _ => op_gt) ha hb (nomark _)
theorem pec_ge (ha : PEc c a ta) (hb : PEc c b tb) : PEc c (.Compare a [.GtE] [b] pos) (tOp rGeI ta tb) := pec_cmp (fun _ => op_ge) ha hb (nomark _)
theorem pec_eq (ha : PEc c a ta) (hb : PEc c b tb) : PEc c (.Compare a [.Eq] [b] pos) (tOp rEq ta tb) := pec_cmp (fun _ => op_eq) ha hb (nomark _)
theorem pec_ne (ha : PEc c a ta) (hb : PEc c b tb) : PEc c (.Compare a [.NotEq] [b] pos) (tOp rNe ta tb) := pec_cmp (fun _ => op_ne) ha hb (nomark _)
theorem pec_eqD (ha : PEc c a ta) (hb : PEc c b tb) : PEc c (.Compare a [.Eq] [b] pos) (tOp (rEqD c.g.K) ta tb) := fun X h => by
  rw [← h.hK]; exact pe_cmpR (op_eqD h.u64) (ha X h) (hb X h) (nomark _)
theorem pec_neD (ha : PEc c a ta) (hb : PEc c b tb) : PEc c (.Compare a [.NotEq] [b] pos) (tOp (rNeD c.g.K) ta tb) := fun X h => by
  rw [← h.hK]; exact pe_cmpR (op_neD h.u64) (ha X h) (hb X h) (nomark _)
theorem pec_ltT (ha : PEc c a ta) (hb : PEc c b tb) : PEc c (.Compare a [.Lt] [b] pos) (tOp (rLtT c.g.K) ta tb) := fun X h => by
  rw [← h.hK]; exact pe_cmpR (op_ltT (by have := h.u1; omega)) (ha X h) (hb X h) (nomark _)
abbrev rIsNo : R2 := fun x y H Q => y = .non ∧ Q (.bl (decide (x = .non))) H
abbrev rNotNo : R2 := fun x y H Q => y = .non ∧ Q (.bl (!decide (x = .non))) H
theorem pec_isN (ha : PEc c a ta) {j : Nat} {p : Pos} : PEc c (.Compare a [.Is] [.Constant .none j p] pos) (tOp rIsNo ta (tC .non)) := pec_cmp (fun _ => op_isN) ha pec_non (nomark _)
theorem pec_notN (ha : PEc c a ta) {j : Nat} {p : Pos} : PEc c (.Compare a [.IsNot] [.Constant .none j p] pos) (tOp rNotNo ta (tC .non)) := pec_cmp (fun _ => op_notN) ha pec_non (nomark _)
abbrev rNotBo : R2 := fun x y H Q => ∃ a b, x = .bl a ∧ y = .bl b ∧ Q (.bl (!decide (a = b))) H
theorem pec_notBl (ha : PEc c a ta) (hb : PEc c b tb) : PEc c (.Compare a [.IsNot] [b] pos) (tOp rNotBo ta tb) := pec_cmp (fun _ => op_isnot_bl) ha hb (nomark _)
theorem pec_in (ha : PEc c a ta) (hb : PEc c b tb) (hm : behindInMarks .In b = false := by rfl) : PEc c (.Compare a [.In] [b] pos) (tOp (rIn c.g.K false) ta tb) := fun X h => by
  rw [← h.hK]; exact pe_cmpR op_in_seq (ha X h) (hb X h) hm
theorem pec_nin (ha : PEc c a ta) (hb : PEc c b tb) (hm : behindInMarks .NotIn b = false := by rfl) : PEc c (.Compare a [.NotIn] [b] pos) (tOp (rIn c.g.K true) ta tb) := fun X h => by
  rw [← h.hK]; exact pe_cmpR op_notIn_seq (ha X h) (hb X h) hm
abbrev rInSg : R2 := fun x y H Q => ∃ (c : Nat) (z : Str), x = .str ⟨#[c]⟩ ∧ y = .str z ∧ Q (.bl (decide (c ∈ z.cps.toList))) H
theorem pec_inS (ha : PEc c a ta) (hb : PEc c b tb) (hm : behindInMarks .In b = false := by rfl) : PEc c (.Compare a [.In] [b] pos) (tOp rInSg ta tb) := pec_cmp (fun _ => op_in_sign) ha hb hm
theorem pec_inM (ha : PEc c a ta) (hb : PEc c b tb) (hm : behindInMarks .In b = false := by rfl) : PEc c (.Compare a [.In] [b] pos) (tDIn ta tb) := fun X h => pe_cmp (pc_din h.u1 (ha X h) (hb X h)) hm
theorem pec_ninM (ha : PEc c a ta) (hb : PEc c b tb) (hm : behindInMarks .NotIn b = false := by rfl) : PEc c (.Compare a [.NotIn] [b] pos) (tDNotIn ta tb) := fun X h => pe_cmp (pc_dnotin h.u1 (ha X h) (hb X h)) hm
theorem pec_ch {op op' : CmpOp} {r r' : R2} (ho : ∀ X, OpR X (compareOp op) r) (ho' : ∀ X, OpR X (compareOp op') r') (ha : PEc c a ta) (hb : PEc c b tb) (hd : PEc c d' td)
    (hm : lastMarks [op, op'] [b, d'] = false := by with_unfolding_all rfl) : PEc c (.Compare a [op, op'] [b, d'] pos) (tChain r r' ta tb td) := fun X h => pe_chain (ho X) (ho' X) (ha X h) (hb X h) (hd X h) hm
theorem pec_leLe (ha : PEc c a ta) (hb : PEc c b tb) (hd : PEc c d' td) (hm : lastMarks [.LtE, .LtE] [b, d'] = false := by with_unfolding_all rfl) : PEc c (.Compare a [.LtE, .LtE] [b, d'] pos) (tChain rLeI rLeI ta tb td) := pec_ch (fun _ => op_le) (fun _ => op_le) ha hb hd hm
theorem pec_leLt (ha : PEc c a ta) (hb : PEc c b tb) (hd : PEc c d' td) (hm : lastMarks [.LtE, .Lt] [b, d'] = false := by with_unfolding_all rfl) : PEc c (.Compare a [.LtE, .Lt] [b, d'] pos) (tChain rLeI rLtI ta tb td) := pec_ch (fun _ => op_le) (fun _ => op_lt) ha hb hd hm
theorem ptc_of (h : PEc c e te) (he : ∀ env whole, isTrue e env whole = (do let v ← whole; standAt e.pos; holding [v] (truthy v)) := by intro _ _; rfl) : PTc c e (tB te) := fun X hX => pt_val (h X hX) (he _)
theorem ptc_w (h : PWc c e tA) : PTc c e tA := fun X hX => (h X hX).pt
theorem ptc_not (h : PTc c a tA) : PTc c (.UnaryOp .Not a pos) (tNot tA) := fun X hX => pt_not (h X hX)
theorem pwc_and1 (h : PTc c a tA) : PWc c (.BoolOp .And [a] pos) tA := fun X hX => pw_and1 (h X hX)
theorem pwc_or1 (h : PTc c a tA) : PWc c (.BoolOp .Or [a] pos) tA := fun X hX => pw_or1 (h X hX)
theorem pwc_and (h : PTc c a tA) (h2 : PWc c (.BoolOp .And (b :: rest) pos) tB') : PWc c (.BoolOp .And (a :: b :: rest) pos) (tAnd tA tB') := fun X hX => pw_and (h X hX) (h2 X hX)
theorem pwc_or (h : PTc c a tA) (h2 : PWc c (.BoolOp .Or (b :: rest) pos) tB') : PWc c (.BoolOp .Or (a :: b :: rest) pos) (tOr tA tB') := fun X hX => pw_or (h X hX) (h2 X hX)
theorem pec_one {op : BoolOp} (h : PEc c a ta) : PEc c (.BoolOp op [a] pos) ta := fun X hX => pe_one (h X hX)
theorem pec_and (h : PEc c a ta) (h2 : PEc c (.BoolOp .And (b :: rest) pos) tb) : PEc c (.BoolOp .And (a :: b :: rest) pos) (tAndV ta tb) := fun X hX => pe_and (h X hX) (h2 X hX)
theorem pec_or (h : PEc c a ta) (h2 : PEc c (.BoolOp .Or (b :: rest) pos) tb) : PEc c (.BoolOp .Or (a :: b :: rest) pos) (tOrV ta tb) := fun X hX => pe_or (h X hX) (h2 X hX)
theorem pec_not (h : PEc c a ta) : PEc c (.UnaryOp .Not a pos) (tNotV ta) := fun X hX => pe_not (h X hX)
theorem pec_if {k : Expr} (h : PTc c k tA) (ha : PEc c a ta) (hb : PEc c b tb) : PEc c (.IfExp k a b pos) (tIf tA ta tb) := fun X hX => pe_ifExp (h X hX) (ha X hX) (hb X hX)
theorem pac_nil : PAc c [] tNil := fun _ _ => pa_nil
theorem pac_cons (h : PEc c e te) (ht : PAc c es t) (hs : ∀ env, starEach (e :: es) env = (false, eval e env) :: starEach es env := by intro _; rfl) : PAc c (e :: es) (tCons te t) := fun X hX => pa_cons (h X hX) (ht X hX) (hs _)
theorem pec_tup {x1} (h : PAc c es t) : PEc c (.Tuple es x1 pos) (tTup t) := fun X hX => pe_tup (h X hX)
theorem pec_lst (h : PAc c es t) : PEc c (.List es pos) (tLst t) := fun X hX => pe_lst (h X hX)
def rSeq (K : PySem.W.Frag) : R2 := fun x y H Q => rIxL K x y H Q ∨ rIxT K x y H Q
theorem pec_ix (ha : PEc c a ta) (hb : PEc c b tb) (hs : PlainIx b := by exact fun _ _ => rfl) : PEc c (.Subscript a b pos) (tOp (rSeq c.g.K) ta tb) := fun X h => by
  rw [← h.hK]; exact pe_ix (ix_list.or ix_tup) (ha X h) (hb X h) hs
theorem pec_ixS (ha : PEc c a ta) (hb : PEc c b tb) (hs : PlainIx b := by exact fun _ _ => rfl) : PEc c (.Subscript a b pos) (tOp rIxS ta tb) := fun X h => pe_ix ix_str (ha X h) (hb X h) hs
theorem pec_ixM (ha : PEc c a ta) (hb : PEc c b tb) (hs : NoSl b := by exact fun _ _ => rfl) : PEc c (.Subscript a b pos) (tDGet ta tb) := fun X h => pe_dget h.u1 (ha X h) (hb X h) hs
theorem poc_none : POc c none tNoPart := fun _ _ => po_none
theorem poc_some (h : PEc c e te) : POc c (some e) (tPart te) := fun X hX => po_some (h X hX)
variable {lo hi : Option Expr} {tl th : TO} {p2 : Pos}
theorem pec_slT (he : PEc c e te) (hl : POc c lo tl) (hh : POc c hi th) : PEc c (.Subscript e (.Slice lo hi none p2) pos) (tSl (rSlA c.g.K) te tl th) := fun X h => by
  rw [← h.hK]; exact pe_slice sl_tupA (he X h) (hl X h) (hh X h)
theorem pec_slL (he : PEc c e te) (hl : POc c lo tl) (hh : POc c hi th) : PEc c (.Subscript e (.Slice lo hi none p2) pos) (tSl (rSlL c.g.K) te tl th) := fun X h => by
  rw [← h.hK]; exact pe_slice sl_list (he X h) (hl X h) (hh X h)
theorem pec_slS (he : PEc c e te) (hl : POc c lo tl) (hh : POc c hi th) : PEc c (.Subscript e (.Slice lo hi none p2) pos) (tSl rSlS te tl th) := fun X h => pe_slice sl_str (he X h) (hl X h) (hh X h)
end
/-- == of scalars: the plain data alike -/
def scD : D → D → Option Bool
  | .int i, .int j => some (decide (i = j))
  | .str i, .str j => some (decide (i = j))
  | .bool i, .bool j => some (decide (i = j))
  | .none, .none => some true
  | .none, .int _ => some false
  | .int _, .none => some false
  | _, _ => none
theorem scD_ok {K : PySem.W.Frag} {H : Hp} {x y : V} {d e : D} {k : Bool} (h : scD d e = some k) (rx : Rep K H x d) (ry : Rep K H y e) : scal x y = true ∧ decide (x = y) = k := by
  cases rx <;> cases ry <;> simp_all [scD, scal]
/-- as plain data, lists too -/
def Res.pd : Res → Option D
  | .d x => some x
  | .l ds => some (.list ds)
  | _ => none
theorem RV.dp {K : PySem.W.Frag} {bx : Option Addr} {H : Hp} {v : V} {A : List Addr} {d : D} {r : Res} (e : r.pd = some d) (h : RV K bx H v r A) : Dp K H v d := by
  cases r with
  | d x => cases e; exact h.1.dp
  | l ds =>
    cases e
    obtain ⟨p, vs, rfl, n, hp, r, _⟩ := h
    exact .lst (.inl (.inl hp)) r.dp
  | m kvs => cases e
  | box => cases e
  | s ns => cases e
  | t ks => cases e
  | ll dss => cases e
/-- is None -/
def isNo : D → Bool
  | .none => true
  | _ => false
theorem Rep.isNo {K : PySem.W.Frag} {H : Hp} {v : V} {d : D} (h : Rep K H v d) : decide (v = .non) = isNo d := by
  cases h <;> simp [K20.isNo]
/-- in a list or a tuple of flat things -/
def flD : D → Option V
  | .none => some .non
  | .bool b => some (.bl b)
  | .int i => some (.int i)
  | .str x => some (.str x)
  | _ => none
def inD (x : D) (ds : List D) : Bool := ds.any fun y => PyData.eqv y x
def Res.seq : Res → Option (List D)
  | .d (.tuple ds) => some ds
  | .l ds => some ds
  | _ => none
theorem RV.seq {K : PySem.W.Frag} {bx : Option Addr} {H : Hp} {v : V} {A : List Addr} {ds : List D} {r : Res} (e : r.seq = some ds) (h : RV K bx H v r A) : ∃ p vs, v = .ref p ∧ (SqL K H p vs ∨ SqT K H p vs) ∧ Reps K H vs ds := by
  cases r with
  | d x =>
    cases x with
    | tuple xs =>
      cases e
      obtain ⟨p, vs, rfl, hp, rr⟩ := h.1.inv_tup
      exact ⟨p, vs, rfl, .inr (Rep.sqt hp), rr⟩
    | _ => cases e
  | l xs =>
    cases e
    obtain ⟨p, vs, rfl, n, hp, rr, _⟩ := h
    exact ⟨p, vs, rfl, .inl (.inl (.inl hp)), rr⟩
  | m kvs => cases e
  | box => cases e
  | s ns => cases e
  | t ks => cases e
  | ll dss => cases e
def fl1 (d : D) : Bool := (flD d).isSome
theorem Rep.flat {K : PySem.W.Frag} {H : Hp} {v : V} {d : D} (h : Rep K H v d) (f : fl1 d = true) : flatV v = true := by
  cases h with
  | tup _ _ => cases f
  | _ => rfl
theorem Reps.flats {K : PySem.W.Frag} {H : Hp} {vs : List V} {ds : List D} (h : Reps K H vs ds) (f : ds.all fl1 = true) : vs.all flatV = true := by
  induction (vs) generalizing ds with
  | nil => rfl
  | cons v vs ih =>
    cases h with
    | cons a b =>
      simp only [List.all_cons, Bool.and_eq_true] at f ⊢
      exact ⟨a.flat f.1, ih b f.2⟩
theorem eqV_eqv {K : PySem.W.Frag} {H : Hp} {x y : V} {d e : D} (rx : Rep K H x d) (ry : Rep K H y e) (fx : fl1 d = true) (fy : fl1 e = true) : eqV x y = PyData.eqv d e := by
  cases rx <;> cases ry <;> first | rfl | cases fx | cases fy
theorem inV_inD {K : PySem.W.Frag} {H : Hp} {x : V} {d : D} {vs : List V} {ds : List D} (rx : Rep K H x d) (h : Reps K H vs ds) (fx : fl1 d = true) (f : ds.all fl1 = true) : inV x vs = inD d ds := by
  unfold inV inD
  induction (vs) generalizing ds with
  | nil => cases h; rfl
  | cons v vs ih =>
    cases h with
    | cons a b =>
      simp only [List.all_cons, Bool.and_eq_true] at f
      rw [List.any_cons, List.any_cons, ih b f.2, eqV_eqv a rx f.1 fx]

end K20
set_option maxHeartbeats 4000000
namespace K20
open PySem PySem.Spec PyProof.Rows L2
section
variable {c : Ct} {a b d' e o : Expr} {es rest : List Expr} {ta tb td te to : TE} {tA tB' tt : TT} {t : TA} {pos p p2 apos : Pos} {x : Str}
/-- what is told of a call, by the callee's name: the data in, the box, what comes, the box behind -/
abbrev Tells := Nat → Str → List Res → Bx → Res → Bx → Prop
/-- the promise: all that is told -/
def spT (K : PySem.W.Frag) (R : List Res → Bx → Res → Bx → Prop) : Sp := fun vs H Q _ => ∃ rs β r β', R rs β r β' ∧ ∃ bx, (∀ b, bx = some b → H b ≠ none) ∧ BoxIs bx H β ∧ RVs K bx H vs rs ∧ Got K bx H true r β' Q
/-- the def x stands: where, its object, its parameters -/
structure Df (g : Gb) (x : Str) (f : Addr) (fd : FuncData) (ps : List Str) : Prop where
  mg : g.mg x = some (.ref f)
  kp : PySem.W.keepIn g.K (.ref f) = true
  bd : Binds g.K fd ps []
/-- the def x, with such values, at level k -/
def Fn (g : Gb) (f : Addr) (fd : FuncData) (ps : List Str) (k : Nat) (R : List Res → Bx → Res → Bx → Prop) : Prop := FnOk g.P g.w g.K g.mg g.base CX0 k f fd ps (spT g.K R)
theorem Fn.mono {g : Gb} {f : Addr} {fd : FuncData} {ps : List Str} {k j : Nat} {R : List Res → Bx → Res → Bx → Prop} (h : Fn g f fd ps k R) (hk : k ≤ j) : Fn g f fd ps j R := FnOk.mono h hk
theorem pec_call {f : Addr} {fd : FuncData} {ps : List Str} {k : Nat} {R : List Res → Bx → Res → Bx → Prop} (F : Fn c.g f fd ps k R) (D : Df c.g x f fd ps) (hk : k ≤ c.k) (ha : PAc c (e :: es) t) (hg : GlS c.sc x := by rfl)
    (hdb : (x == ("__debug__" : Str)) = false := by decide) (he : ∀ env, starEach (e :: es) env = (false, eval e env) :: starEach es env := by intro _; rfl) (hpl : ∀ env, (backTo pos (starEach es env)).any (·.1) = false := by intro _; rfl) :
    PEc c (.Call (.Name x p) (e :: es) [] pos) (tCall (spT c.g.K R) [] E0 t) := fun X h => by
  have F' : FnOk X.prog X.w X.K X.mg X.base CX0 k f fd ps (spT c.g.K R) := by
    rw [h.hP, h.hw, h.hK, h.hm, h.hb]; exact F
  exact pe_call F' (h.hr.mono hk) (h.gl hg) (h.mg0 D.mg) (by rw [h.hK]; exact D.kp) (by rw [h.hK]; exact D.bd) .nil pass0 (ha X h) hdb (he _) (hpl _)
/-- a def that stands, with what it tells -/
def FnX (g : Gb) (x : Str) (ps : List Str) (k : Nat) (R : List Res → Bx → Res → Bx → Prop) : Prop := ∃ f fd, Df g x f fd ps ∧ Fn g f fd ps k R
theorem pec_fn {ps : List Str} {k : Nat} {R : List Res → Bx → Res → Bx → Prop} (F : FnX c.g x ps k R) (ha : PAc c (e :: es) t) (hk : Nat.ble k c.k = true := by rfl) (hg : GlS c.sc x := by rfl)
    (hdb : (x == ("__debug__" : Str)) = false := by decide) (he : ∀ env, starEach (e :: es) env = (false, eval e env) :: starEach es env := by intro _; rfl) (hpl : ∀ env, (backTo pos (starEach es env)).any (·.1) = false := by intro _; rfl) :
    PEc c (.Call (.Name x p) (e :: es) [] pos) (tCall (spT c.g.K R) [] E0 t) := by
  obtain ⟨f, fd, D, F⟩ := F
  exact pec_call F D (Nat.le_of_ble_eq_true hk) ha hg hdb he hpl
theorem ptc_leLe {k : Expr} (ha : PEc c a ta) (hb : PEc c b tb) (hd : PEc c k td) (hm : lastMarks [.LtE, .LtE] [b, k] = false := by with_unfolding_all rfl) : PTc c (.Compare a [.LtE, .LtE] [b, k] pos) (tB (tChain rLeI rLeI ta tb td)) := fun X h => pt_chain op_le op_le (ha X h) (hb X h) (hd X h) hm
theorem ptc_leLt {k : Expr} (ha : PEc c a ta) (hb : PEc c b tb) (hd : PEc c k td) (hm : lastMarks [.LtE, .Lt] [b, k] = false := by with_unfolding_all rfl) : PTc c (.Compare a [.LtE, .Lt] [b, k] pos) (tB (tChain rLeI rLtI ta tb td)) := fun X h => pt_chain op_le op_lt (ha X h) (hb X h) (hd X h) hm
theorem ptc_cmp {op : CmpOp} {r : R2} (ho : ∀ X, Ctx c X → OpR X (compareOp op) r) (ha : PEc c a ta) (hb : PEc c b tb) (hm : behindInMarks op b = false) : PTc c (.Compare a [op] [b] pos) (tB (tOp r ta tb)) := fun X h => pt_cmpR (ho X h) (ha X h) (hb X h) hm
theorem ptc_lt (ha : PEc c a ta) (hb : PEc c b tb) : PTc c (.Compare a [.Lt] [b] pos) (tB (tOp rLtI ta tb)) := ptc_cmp (fun _ _ => op_lt) ha hb (nomark _)
theorem ptc_le (ha : PEc c a ta) (hb : PEc c b tb) : PTc c (.Compare a [.LtE] [b] pos) (tB (tOp rLeI ta tb)) := ptc_cmp (fun _ _ => op_le) ha hb (nomark _)
theorem ptc_gt (ha : PEc c a ta) (hb : PEc c b tb) : PTc c (.Compare a [.Gt] [b] pos) (tB (tOp rGtI ta tb)) := ptc_cmp (fun _ _ => op_gt) ha hb (nomark _)
theorem ptc_ge (ha : PEc c a ta) (hb : PEc c b tb) : PTc c (.Compare a [.GtE] [b] pos) (tB (tOp rGeI ta tb)) := ptc_cmp (fun _ _ => op_ge) ha hb (nomark _)
theorem ptc_eq (ha : PEc c a ta) (hb : PEc c b tb) : PTc c (.Compare a [.Eq] [b] pos) (tB (tOp rEq ta tb)) := ptc_cmp (fun _ _ => op_eq) ha hb (nomark _)
theorem ptc_ne (ha : PEc c a ta) (hb : PEc c b tb) : PTc c (.Compare a [.NotEq] [b] pos) (tB (tOp rNe ta tb)) := ptc_cmp (fun _ _ => op_ne) ha hb (nomark _)
theorem ptc_eqD (ha : PEc c a ta) (hb : PEc c b tb) : PTc c (.Compare a [.Eq] [b] pos) (tB (tOp (rEqD c.g.K) ta tb)) := ptc_cmp (fun X h => by rw [← h.hK]; exact op_eqD h.u64) ha hb (nomark _)
theorem ptc_neD (ha : PEc c a ta) (hb : PEc c b tb) : PTc c (.Compare a [.NotEq] [b] pos) (tB (tOp (rNeD c.g.K) ta tb)) := ptc_cmp (fun X h => by rw [← h.hK]; exact op_neD h.u64) ha hb (nomark _)
theorem ptc_notBl (ha : PEc c a ta) (hb : PEc c b tb) : PTc c (.Compare a [.IsNot] [b] pos) (tB (tOp rNotBo ta tb)) := ptc_cmp (fun _ _ => op_isnot_bl) ha hb (nomark _)
theorem ptc_in (ha : PEc c a ta) (hb : PEc c b tb) (hm : behindInMarks .In b = false := by rfl) : PTc c (.Compare a [.In] [b] pos) (tB (tOp (rIn c.g.K false) ta tb)) := ptc_cmp (fun X h => by rw [← h.hK]; exact op_in_seq) ha hb hm
theorem ptc_nin (ha : PEc c a ta) (hb : PEc c b tb) (hm : behindInMarks .NotIn b = false := by rfl) : PTc c (.Compare a [.NotIn] [b] pos) (tB (tOp (rIn c.g.K true) ta tb)) := ptc_cmp (fun X h => by rw [← h.hK]; exact op_notIn_seq) ha hb hm
theorem ptc_inS (ha : PEc c a ta) (hb : PEc c b tb) (hm : behindInMarks .In b = false := by rfl) : PTc c (.Compare a [.In] [b] pos) (tB (tOp rInSg ta tb)) := ptc_cmp (fun _ _ => op_in_sign) ha hb hm
theorem ptc_isN (ha : PEc c a ta) {j : Nat} {p : Pos} : PTc c (.Compare a [.Is] [.Constant .none j p] pos) (tB (tOp rIsNo ta (tC .non))) := ptc_cmp (fun _ _ => op_isN) ha pec_non (nomark _)
theorem ptc_notN (ha : PEc c a ta) {j : Nat} {p : Pos} : PTc c (.Compare a [.IsNot] [.Constant .none j p] pos) (tB (tOp rNotNo ta (tC .non))) := ptc_cmp (fun _ _ => op_notN) ha pec_non (nomark _)
theorem ptc_inM (ha : PEc c a ta) (hb : PEc c b tb) (hm : behindInMarks .In b = false := by rfl) : PTc c (.Compare a [.In] [b] pos) (tB (tDIn ta tb)) := fun X h => pt_cmp (pc_din h.u1 (ha X h) (hb X h)) hm
theorem ptc_ninM (ha : PEc c a ta) (hb : PEc c b tb) (hm : behindInMarks .NotIn b = false := by rfl) : PTc c (.Compare a [.NotIn] [b] pos) (tB (tDNotIn ta tb)) := fun X h => pt_cmp (pc_dnotin h.u1 (ha X h) (hb X h)) hm
theorem pec_neg (ha : PEc c e te) : PEc c (.UnaryOp .USub e pos) (tUn (rU fun i => .int (-i)) te) := fun X h => pe_un un_neg (ha X h)
theorem pec_cb {id : String} {r : List V → Hp → VK → Prop} (hc : ∀ X, Ctx c X → CallR X (.builtin id) r) (hm : c.g.mg x = none) (hv : bootBuiltins x = some (.builtin id)) (ha : PAc c (e :: es) t) (hg : GlS c.sc x := by rfl) (hn : x ≠ "__name__" := by decide)
    (hdb : (x == ("__debug__" : Str)) = false := by decide) (he : ∀ env, starEach (e :: es) env = (false, eval e env) :: starEach es env := by intro _; rfl) (hpl : ∀ env, (backTo pos (starEach es env)).any (·.1) = false := by intro _; rfl) :
    PEc c (.Call (.Name x p) (e :: es) [] pos) (tCB r t) := fun X h => pe_callB (hc X h) (h.gl hg) (h.mg0 hm) hv (ha X h) hn hdb (he _) (hpl _)
theorem pec_cty {id : String} {r : List V → Hp → VK → Prop} (hc : ∀ X, Ctx c X → CallR X (.type id) r) (hm : c.g.mg x = none) (hv : bootBuiltins x = some (.type id)) (ha : PAc c (e :: es) t) (hg : GlS c.sc x := by rfl) (hn : x ≠ "__name__" := by decide)
    (hdb : (x == ("__debug__" : Str)) = false := by decide) (he : ∀ env, starEach (e :: es) env = (false, eval e env) :: starEach es env := by intro _; rfl) (hpl : ∀ env, (backTo pos (starEach es env)).any (·.1) = false := by intro _; rfl) :
    PEc c (.Call (.Name x p) (e :: es) [] pos) (tCB r t) := fun X h => pe_callTy (hc X h) (h.gl hg) (h.mg0 hm) hv (ha X h) hn hdb (he _) (hpl _)
abbrev rLenV (K : PySem.W.Frag) : List V → Hp → VK → Prop := fun xs H Q => ∃ x n, xs = [x] ∧ LenV K x H n ∧ Q (.int n) H
abbrev rAbs : List V → Hp → VK → Prop := fun xs H Q => ∃ i, xs = [.int i] ∧ Q (.int (if i < 0 then -i else i)) H
abbrev rMax2 : List V → Hp → VK → Prop := fun xs H Q => ∃ i j, xs = [.int i, .int j] ∧ Q (.int (if j > i then j else i)) H
abbrev rMin2 : List V → Hp → VK → Prop := fun xs H Q => ∃ i j, xs = [.int i, .int j] ∧ Q (.int (if j < i then j else i)) H
abbrev rDivm : List V → Hp → VK → Prop := fun xs H Q => ∃ i j, xs = [.int i, .int j] ∧ CDiv i j ∧ ∀ p, H p = none → Q (.ref p) (upd H p (.tup [.int (i / j), .int (i % j)]))
abbrev rTupOf (K : PySem.W.Frag) : List V → Hp → VK → Prop := fun xs H Q => ∃ x, xs = [x] ∧ kTup K x H Q
abbrev rInt1 : List V → Hp → VK → Prop := fun xs H Q => (∃ i, xs = [.int i] ∧ Q (.int i) H) ∨ ∃ k, xs = [.bl k] ∧ Q (.int (if k then 1 else 0)) H
abbrev rListOf (K : PySem.W.Frag) : List V → Hp → VK → Prop := fun xs H Q => ∃ p ys, xs = [.ref p] ∧ (SqL K H p ys ∨ SqT K H p ys) ∧ ∀ l, H l = none → Q (.ref l) (upd H l (.lst ys))
theorem pec_len (hm : c.g.mg "len" = none) (ha : PEc c e te) (hs : ∀ env, starEach [e] env = (false, eval e env) :: starEach [] env := by intro _; rfl) (hg : GlS c.sc "len" := by rfl) : PEc c (.Call (.Name "len" p) [e] [] pos) (tCB (rLenV c.g.K) (tCons te tNil)) :=
  pec_cb (id := "len") (fun X h => by rw [← h.hK]; exact call_len) hm (by decide +kernel) (pac_cons ha pac_nil hs) hg (by decide) (by decide) hs (by intro _; rfl)
theorem pec_abs (hm : c.g.mg "abs" = none) (ha : PEc c e te) (hs : ∀ env, starEach [e] env = (false, eval e env) :: starEach [] env := by intro _; rfl) (hg : GlS c.sc "abs" := by rfl) : PEc c (.Call (.Name "abs" p) [e] [] pos) (tCB rAbs (tCons te tNil)) :=
  pec_cb (id := "abs") (fun X h => call_abs) hm (by decide +kernel) (pac_cons ha pac_nil hs) hg (by decide) (by decide) hs (by intro _; rfl)
theorem pec_all (hm : c.g.mg "all" = none) (ha : PEc c e te) (hs : ∀ env, starEach [e] env = (false, eval e env) :: starEach [] env := by intro _; rfl) (hg : GlS c.sc "all" := by rfl) : PEc c (.Call (.Name "all" p) [e] [] pos) (tCB (rAll c.g.K) (tCons te tNil)) :=
  pec_cb (id := "all") (fun X h => by rw [← h.hK]; exact cr_all h.hc) hm (by decide +kernel) (pac_cons ha pac_nil hs) hg (by decide) (by decide) hs (by intro _; rfl)
theorem pec_any (hm : c.g.mg "any" = none) (ha : PEc c e te) (hs : ∀ env, starEach [e] env = (false, eval e env) :: starEach [] env := by intro _; rfl) (hg : GlS c.sc "any" := by rfl) : PEc c (.Call (.Name "any" p) [e] [] pos) (tCB (rAny c.g.K) (tCons te tNil)) :=
  pec_cb (id := "any") (fun X h => by rw [← h.hK]; exact cr_any h.hc) hm (by decide +kernel) (pac_cons ha pac_nil hs) hg (by decide) (by decide) hs (by intro _; rfl)
theorem pec_sum (hm : c.g.mg "sum" = none) (ha : PEc c e te) (hs : ∀ env, starEach [e] env = (false, eval e env) :: starEach [] env := by intro _; rfl) (hg : GlS c.sc "sum" := by rfl) : PEc c (.Call (.Name "sum" p) [e] [] pos) (tCB (rSum c.g.K) (tCons te tNil)) :=
  pec_cb (id := "sum") (fun X h => by rw [← h.hK]; exact cr_sum h.hc) hm (by decide +kernel) (pac_cons ha pac_nil hs) hg (by decide) (by decide) hs (by intro _; rfl)
theorem pec_sorted (hm : c.g.mg "sorted" = none) (ha : PEc c e te) (hs : ∀ env, starEach [e] env = (false, eval e env) :: starEach [] env := by intro _; rfl) (hg : GlS c.sc "sorted" := by rfl) : PEc c (.Call (.Name "sorted" p) [e] [] pos) (tCB (rSortedI c.g.K) (tCons te tNil)) :=
  pec_cb (id := "sorted") (fun X h => by rw [← h.hK]; exact cr_sortedI) hm (by decide +kernel) (pac_cons ha pac_nil hs) hg (by decide) (by decide) hs (by intro _; rfl)
theorem pec_isi {n : String} (hm : c.g.mg "isinstance" = none) (hm2 : c.g.mg x = none) (hv : bootBuiltins x = some (.type n)) (ha : PEc c e te) (hs : ∀ env, starEach [e, .Name x p2] env = (false, eval e env) :: starEach [.Name x p2] env := by intro _; rfl)
    (hg : GlS c.sc "isinstance" := by rfl) (hg2 : GlS c.sc x := by rfl) (hn : x ≠ "__name__" := by decide) (hd : (x == ("__debug__" : Str)) = false := by decide) : PEc c (.Call (.Name "isinstance" p) [e, .Name x p2] [] pos) (tCB (rIsi c.g.K) (tCons te (tCons (tC (.ty n)) tNil))) :=
  pec_cb (id := "isinstance") (fun X h => by rw [← h.hK]; exact call_isi) hm (by decide +kernel) (pac_cons ha (pac_cons (pec_gty hm2 hv hg2 hn hd) pac_nil (by intro _; rfl)) hs) hg (by decide) (by decide) hs (by intro _; rfl)
theorem pec_min (hm : c.g.mg "min" = none) (ha : PEc c e te) (hb : PEc c b tb) (hs : ∀ env, starEach [e, b] env = (false, eval e env) :: starEach [b] env := by intro _; rfl) (hs2 : ∀ env, starEach [b] env = (false, eval b env) :: starEach [] env := by intro _; rfl) (hg : GlS c.sc "min" := by rfl)
    (hpl : ∀ env, (backTo pos (starEach [b] env)).any (·.1) = false := by intro _; rfl) : PEc c (.Call (.Name "min" p) [e, b] [] pos) (tCB rMin2 (tCons te (tCons tb tNil))) :=
  pec_cb (id := "min") (fun X h => call_min2 h.hc) hm (by decide +kernel) (pac_cons ha (pac_cons hb pac_nil hs2) hs) hg (by decide) (by decide) hs hpl
theorem pec_max (hm : c.g.mg "max" = none) (ha : PEc c e te) (hb : PEc c b tb) (hs : ∀ env, starEach [e, b] env = (false, eval e env) :: starEach [b] env := by intro _; rfl) (hs2 : ∀ env, starEach [b] env = (false, eval b env) :: starEach [] env := by intro _; rfl) (hg : GlS c.sc "max" := by rfl)
    (hpl : ∀ env, (backTo pos (starEach [b] env)).any (·.1) = false := by intro _; rfl) : PEc c (.Call (.Name "max" p) [e, b] [] pos) (tCB rMax2 (tCons te (tCons tb tNil))) :=
  pec_cb (id := "max") (fun X h => call_max2 h.hc) hm (by decide +kernel) (pac_cons ha (pac_cons hb pac_nil hs2) hs) hg (by decide) (by decide) hs hpl
theorem pec_divmod (hm : c.g.mg "divmod" = none) (ha : PEc c e te) (hb : PEc c b tb) (hs : ∀ env, starEach [e, b] env = (false, eval e env) :: starEach [b] env := by intro _; rfl) (hs2 : ∀ env, starEach [b] env = (false, eval b env) :: starEach [] env := by intro _; rfl) (hg : GlS c.sc "divmod" := by rfl)
    (hpl : ∀ env, (backTo pos (starEach [b] env)).any (·.1) = false := by intro _; rfl) : PEc c (.Call (.Name "divmod" p) [e, b] [] pos) (tCB rDivm (tCons te (tCons tb tNil))) :=
  pec_cb (id := "divmod") (fun X h => call_divmod) hm (by decide +kernel) (pac_cons ha (pac_cons hb pac_nil hs2) hs) hg (by decide) (by decide) hs hpl
theorem pec_tuple (hm : c.g.mg "tuple" = none) (ha : PEc c e te) (hs : ∀ env, starEach [e] env = (false, eval e env) :: starEach [] env := by intro _; rfl) (hg : GlS c.sc "tuple" := by rfl) : PEc c (.Call (.Name "tuple" p) [e] [] pos) (tThen te (kTup c.g.K)) := fun X h => by
  rw [← h.hK]; exact pe_tupleOf (h.gl hg) (h.mg0 hm) (ha X h) (hs _)
theorem pec_list (hm : c.g.mg "list" = none) (ha : PEc c e te) (hs : ∀ env, starEach [e] env = (false, eval e env) :: starEach [] env := by intro _; rfl) (hg : GlS c.sc "list" := by rfl) : PEc c (.Call (.Name "list" p) [e] [] pos) (tCB (rListOf c.g.K) (tCons te tNil)) :=
  pec_cty (id := "list") (fun X h => by rw [← h.hK]; exact call_list_of) hm (by decide +kernel) (pac_cons ha pac_nil hs) hg (by decide) (by decide) hs (by intro _; rfl)
theorem pec_int1 (hm : c.g.mg "int" = none) (ha : PEc c e te) (hs : ∀ env, starEach [e] env = (false, eval e env) :: starEach [] env := by intro _; rfl) (hg : GlS c.sc "int" := by rfl) : PEc c (.Call (.Name "int" p) [e] [] pos) (tCB rInt1 (tCons te tNil)) :=
  pec_cty (id := "int") (fun X h => call_int1) hm (by decide +kernel) (pac_cons ha pac_nil hs) hg (by decide) (by decide) hs (by intro _; rfl)
theorem pec_listRg (hm : c.g.mg "list" = none) (hm2 : c.g.mg "range" = none) (ha : PEc c e te) (hs : ∀ env, starEach [.Call (.Name "range" p2) [e] [] pos] env = (false, eval (.Call (.Name "range" p2) [e] [] pos) env) :: starEach [] env := by intro _; rfl)
    (hs2 : ∀ env, starEach [e] env = (false, eval e env) :: starEach [] env := by intro _; rfl) (hg : GlS c.sc "list" := by rfl) (hg2 : GlS c.sc "range" := by rfl) {pos' : Pos} : PEc c (.Call (.Name "list" p) [.Call (.Name "range" p2) [e] [] pos] [] pos') (tLstRg (tRg1 te)) :=
  fun X h => pe_listRg h.hc (h.gl hg) (h.mg0 hm) (prg_1 (h.gl hg2) (h.mg0 hm2) (ha X h) (hs2 _)) (hs _)
theorem pec_lenSet (hm : c.g.mg "len" = none) (hm2 : c.g.mg "set" = none) (ha : PEc c e te) (hs2 : ∀ env, starEach [e] env = (false, eval e env) :: starEach [] env := by intro _; rfl) (hg : GlS c.sc "len" := by rfl) (hg2 : GlS c.sc "set" := by rfl) {pos' : Pos} :
    PEc c (.Call (.Name "len" p) [.Call (.Name "set" p2) [e] [] pos'] [] pos) (RZ.tLenSetI c.g.K te) := fun X h => by
  rw [← h.hK]; exact RZ.pe_lenSetI (h.gl hg) (h.mg0 hm) (h.gl hg2) (h.mg0 hm2) (ha X h) h.hc (hs2 _)
abbrev rJoin (K : PySem.W.Frag) : V → List V → Hp → VK → Prop := fun x xs H Q => ∃ a p, ∃ ys : List Str, x = .str a ∧ xs = [.ref p] ∧ (SqL K H p (ys.map V.str) ∨ SqT K H p (ys.map V.str)) ∧ (ys.map (·.length)).sum + ys.length * a.length ≤ 16777216 ∧ Q (.str (Txt.join a ys)) H
theorem pec_join (ho : PEc c o to) (he : PEc c e te) (hs : ∀ env, starEach [e] env = [(false, eval e env)] := by intro _; rfl) (hbase : ∀ env, attributeBase o "join" env (eval o env) = eval o env := by intro _; rfl) (hline : (apos.endLine == pos.line) = true := by rfl) :
    PEc c (.Call (.Attribute o "join" apos) [e] [] pos) (tM1 (rJoin c.g.K) to te) := fun X h => by
  rw [← h.hK]; exact pe_join (ho X h) (he X h) (hs _) (hbase _) hline
theorem pec_append (ho : PEc c o to) (he : PEc c e te) (hs : ∀ env, starEach [e] env = (false, eval e env) :: starEach [] env := by intro _; rfl) (hbase : ∀ env, attributeBase o "append" env (eval o env) = eval o env := by intro _; rfl) (hline : (apos.endLine == pos.line) = true := by rfl)
    (hfew : ∀ env, ((backTo pos (starEach [e] env)).all (fun x => !x.1) && (backToKw pos (keywordEach [] env)).all (fun x => x.1.isSome) && decide ([e].length + ([] : List Keyword).length + (if ([] : List Keyword).isEmpty then 0 else 1) < 30)) = true := by intro _; rfl) :
    PEc c (.Call (.Attribute o "append" apos) [e] [] pos) (tBM c.g.K "list" rAppend to (tCons te tNil)) := fun X h => by
  rw [← h.hK]; exact pe_bm PySem.F.plainAttrs_list PySem.F.slot_list_append PySem.F.type_list_append mt_append (ho X h) (pa_cons (he X h) pa_nil (hs _)) (hbase _) (hfew _) hline (hs _) rfl
theorem pec_popAt (ho : PEc c o to) (he : PEc c e te) (hs : ∀ env, starEach [e] env = (false, eval e env) :: starEach [] env := by intro _; rfl) (hbase : ∀ env, attributeBase o "pop" env (eval o env) = eval o env := by intro _; rfl) (hline : (apos.endLine == pos.line) = true := by rfl)
    (hfew : ∀ env, ((backTo pos (starEach [e] env)).all (fun x => !x.1) && (backToKw pos (keywordEach [] env)).all (fun x => x.1.isSome) && decide ([e].length + ([] : List Keyword).length + (if ([] : List Keyword).isEmpty then 0 else 1) < 30)) = true := by intro _; rfl) :
    PEc c (.Call (.Attribute o "pop" apos) [e] [] pos) (tBM c.g.K "list" rPopAt to (tCons te tNil)) := fun X h => by
  rw [← h.hK]; exact pe_bm PySem.F.plainAttrs_list PySem.F.slot_list_pop PySem.F.type_list_pop mt_popAt (ho X h) (pa_cons (he X h) pa_nil (hs _)) (hbase _) (hfew _) hline (hs _) rfl
variable {tg : Expr} {g : TG} {gs : TGs} {tgs : List Expr}
theorem pgc_name (i : Nat) (nd : c.N.Nodup) (hi : c.N[i]? = some x := by rfl) (hx : Loc c.sc x := by first | exact Or.inl rfl | exact Or.inr rfl) (hf : c.fn x = true ∨ c.sc.names.lookup x = some .local := by first | exact .inl rfl | exact .inr rfl) : PGc c (.Name x pos) (gName i) := fun X h =>
  pg_name (by rw [h.hN]; exact nd) (by rw [h.hN]; exact hi) (by rw [h.hs]; exact hx) (by rw [h.hf, h.hs]; exact hf)
theorem pgsc_nil : PGsc c [] gNil := fun _ _ => pgs_nil
theorem pgsc_cons (h : PGc c tg g) (h2 : PGsc c tgs gs) (hs : ∀ env, (assignEach (tg :: tgs) env).map (·.2) = assign tg env :: (assignEach tgs env).map (·.2) := by intro _; rfl) : PGsc c (tg :: tgs) (gCons g gs) := fun X hX => pgs_cons (h X hX) (h2 X hX) (hs _)
theorem pgc_tup {k n : Nat} (h : PGsc c tgs gs) (hn : ∀ env, (assignEach tgs env).length = n := by intro _; rfl) (hst : ∀ env, (assignEach tgs env).findIdx? (·.1) = none := by intro _; rfl) : PGc c (.Tuple tgs k pos) (gTup c.g.K n gs) := fun X hX => by
  rw [← hX.hK]; exact pg_tup hX.hc (h X hX) (hn _) (hst _)
variable {wi wi1 : TI} {iter iter1 elt tg1 : Expr}
theorem pic_list (h : PEc c e te) : PIc c tg e (iList c.g.K te) := fun X hX => by rw [← hX.hK]; exact pi_list (h X hX)
theorem pic_tup (h : PEc c e te) : PIc c tg e (iTup c.g.K te) := fun X hX => by rw [← hX.hK]; exact pi_tup (h X hX)
theorem pic_str (h : PEc c e te) : PIc c tg e (iStr te) := fun X hX => pi_str (h X hX)
theorem pic_range (hm : c.g.mg "range" = none) (h : PEc c e te) (hg : GlS c.sc "range" := by rfl) (hs : ∀ env, starEach [e] env = [(false, eval e env)] := by intro _; rfl) : PIc c tg (.Call (.Name "range" p) [e] [] pos) (iRng1 (tCons te tNil)) := fun X hX =>
  pi_range1 (hX.gl hg) (hX.mg0 hm) (pa_cons (h X hX) pa_nil (hs _)) (hs _)
theorem pic_zip {k : Nat} {tpos : Pos} (hm : c.g.mg "zip" = none) (h : PEc c e te) (hb : PEc c b tb) (hg : GlS c.sc "zip" := by rfl) (hs : ∀ env, starEach [e, b] env = (false, eval e env) :: starEach [b] env := by intro _; rfl) (hs2 : ∀ env, starEach [b] env = (false, eval b env) :: starEach [] env := by intro _; rfl)
    (hpl : ∀ env, (backTo pos (starEach [b] env)).any (·.1) = false := by intro _; rfl) : PIc c (.Tuple tgs k tpos) (.Call (.Name "zip" p) [e, b] [] pos) (RZ.iZipA c.g.K (tCons te (tCons tb tNil))) := fun X hX => by
  rw [← hX.hK]; exact RZ.pi_zipA (hX.gl hg) (hX.mg0 hm) (pa_cons (h X hX) (pa_cons (hb X hX) pa_nil (hs2 _)) (hs _)) (hs _) (hpl _)
theorem pic_enumL {k : Nat} {tpos : Pos} (hm : c.g.mg "enumerate" = none) (h : PEc c e te) (hg : GlS c.sc "enumerate" := by rfl) (hs : ∀ env, starEach [e] env = [(false, eval e env)] := by intro _; rfl) : PIc c (.Tuple tgs k tpos) (.Call (.Name "enumerate" p) [e] [] pos) (iEnum c.g.K (tCons te tNil)) := fun X hX => by
  rw [← hX.hK]; exact pi_enum (hX.gl hg) (hX.mg0 hm) (pa_cons (h X hX) pa_nil (hs _)) (hs _)
def PTsc (c : Ct) (ifs : List Expr) (t : TT) : Prop := ∀ X, Ctx c X → PTs X ifs t
theorem ptsc_nil : PTsc c [] tYes := fun _ _ => pts_nil
theorem ptsc_one (h : PTc c e tA) : PTsc c [e] tA := fun X hX => pts_one (h X hX)
variable {ifs ifs1 : List Expr} {scope : Scope}
theorem pec_lc (own : List (Str × Nat)) (nd : c.N.Nodup) (hi : PIc c tg iter wi) (hg : PGc (c.blk scope) tg g) (ht : PTsc (c.blk scope) ifs tt) (he : PEc (c.blk scope) elt te) (ok : blkC c.N c.sc scope own = true := by first | decide +kernel | (dsimp only [Ct.blk]; decide +kernel))
    (hs : ∀ env x, foldedSetIterable iter env x = pure x := by intro _ _; rfl) : PEc c (.ListComp elt [⟨tg, iter, ifs, 0⟩] scope pos) (tLc wi g tt te (own.map (·.2))) := fun X hX =>
  pe_lc hX.hc (by rw [hX.hN]; exact nd) (hi X hX) (by rw [hX.hN, hX.hs]; exact blkOk_by ok) (fun s H C cl fp => hg _ (hX.blk scope s H C cl fp)) (fun s H C cl fp => ht _ (hX.blk scope s H C cl fp)) (fun s H C cl fp => he _ (hX.blk scope s H C cl fp)) (hs _)
theorem pec_dc {kx vx : Expr} {tk tv : TE} (own : List (Str × Nat)) (nd : c.N.Nodup) (hi : PIc c tg iter wi) (hg : PGc (c.blk scope) tg g) (ht : PTsc (c.blk scope) ifs tt) (hk : PEc (c.blk scope) kx tk) (he : PEc (c.blk scope) vx tv) (ok : blkC c.N c.sc scope own = true := by first | decide +kernel | (dsimp only [Ct.blk]; decide +kernel))
    (hs : ∀ env x, foldedSetIterable iter env x = pure x := by intro _ _; rfl) : PEc c (.DictComp kx vx [⟨tg, iter, ifs, 0⟩] scope pos) (tDc wi g tt tk tv (own.map (·.2))) := fun X hX =>
  pe_dc hX.hc (by rw [hX.hN]; exact nd) (hi X hX) (by rw [hX.hN, hX.hs]; exact blkOk_by ok) (fun s H C cl fp => hg _ (hX.blk scope s H C cl fp)) (fun s H C cl fp => ht _ (hX.blk scope s H C cl fp)) (fun s H C cl fp => hk _ (hX.blk scope s H C cl fp)) (fun s H C cl fp => he _ (hX.blk scope s H C cl fp)) (hs _)
theorem pec_lc2 {g1 : TG} {tt1 : TT} (own : List (Str × Nat)) (vs1 : List Nat) (nd : c.N.Nodup) (hi : PIc c tg iter wi) (hg : PGc (c.blk scope) tg g) (ht : PTsc (c.blk scope) ifs tt) (hi1 : PIc (c.blk scope) tg1 iter1 wi1) (hg1 : PGc (c.blk scope) tg1 g1) (ht1 : PTsc (c.blk scope) ifs1 tt1) (he : PEc (c.blk scope) elt te)
    (ok : blkC c.N c.sc scope own = true := by first | decide +kernel | (dsimp only [Ct.blk]; decide +kernel)) (hv : ∀ i ∈ vs1, i ∈ own.map (·.2) := by decide) (hs : ∀ env x, foldedSetIterable iter env x = pure x := by intro _ _; rfl) (hs1 : ∀ env x, foldedSetIterable iter1 env x = pure x := by intro _ _; rfl) :
    PEc c (.ListComp elt [⟨tg, iter, ifs, 0⟩, ⟨tg1, iter1, ifs1, 0⟩] scope pos) (tLc2 wi g tt wi1 g1 tt1 te (own.map (·.2)) vs1) := fun X hX =>
  pe_lc2 hX.hc (by rw [hX.hN]; exact nd) (hi X hX) (by rw [hX.hN, hX.hs]; exact blkOk_by ok) hv (fun s H C cl fp => hg _ (hX.blk scope s H C cl fp)) (fun s H C cl fp => ht _ (hX.blk scope s H C cl fp)) (fun s H C cl fp => hi1 _ (hX.blk scope s H C cl fp)) (fun s H C cl fp => hg1 _ (hX.blk scope s H C cl fp))
    (fun s H C cl fp => ht1 _ (hX.blk scope s H C cl fp)) (fun s H C cl fp => he _ (hX.blk scope s H C cl fp)) (hs _) hs1
variable {st : Stmt} {ss body els : List Stmt} {ts us : TS} {spos py : Pos} {y : Str}
def env0 (sc : Scope) : PySem.Env := { scope := sc, locals := 0, globals := 0, cells := [], qual := "", func := none, code := .none, frame := none, builtins := 0 }
theorem swS {tgs : List Expr} {v : Expr} {env : PySem.Env} {sc : Scope} (h : env.scope = sc) : swappedStores tgs v env = swappedStores tgs v (env0 sc) := by
  subst h
  rfl
theorem swW {tgs : List Expr} {v : Expr} {l : Nat} {env : PySem.Env} {sc : Scope} (h : env.scope = sc) : swapsWithSole tgs v l env = swapsWithSole tgs v l (env0 sc) := by
  subst h
  cases tgs with
  | nil => rfl
  | cons t ts =>
    cases ts with
    | nil =>
      show swapsWith v (some t) l env = swapsWith v (some t) l (env0 env.scope)
      rfl
    | cons _ _ => rfl
theorem psc_asg (he : PEc c e te) (hg : PGc c tg g) (hs : swapsWithSole [tg] e pos.line (env0 c.sc) = pure false := by rfl) (hw : swappedStores [tg] e (env0 c.sc) = pure none := by rfl) (h1 : ∀ env, (assignEach [tg] env).map (·.2) = [assign tg env] := by intro _; rfl) :
    PSc c (.Assign [tg] e pos) (tAsg te g) := fun X h => ps_asg (he X h) (hg X h) ((swW h.hs).trans hs) ((swS h.hs).trans hw) (h1 _)
theorem psc_setLc (i : Nat) (own : List (Str × Nat)) (nd : c.N.Nodup) (hi : PIc c tg iter wi) (hg : PGc (c.blk scope) tg g) (ht : PTsc (c.blk scope) ifs tt) (he : PEc (c.blk scope) elt te) (hy : c.N[i]? = some y := by rfl) (hk : c.sc.kind = .function := by rfl) (hyl : c.sc.names.lookup y = some .local := by rfl)
    (hl : (py.line == pos.line) = true := by rfl) (ha : (scope.names.any fun (n, k) => n == y && (k == .local || k == .cell)) = false := by decide +kernel) (ok : blkC c.N c.sc scope own = true := by first | decide +kernel | (dsimp only [Ct.blk]; decide +kernel)) (hs : ∀ env x, foldedSetIterable iter env x = pure x := by intro _ _; rfl) :
    PSc c (.Assign [.Name y py] (.ListComp elt [⟨tg, iter, ifs, 0⟩] scope pos) spos) (tAsg (tLc wi g tt te (own.map (·.2))) (gName i)) := fun X hX =>
  ps_setLc hX.hc (by rw [hX.hN]; exact nd) (by rw [hX.hN]; exact hy) (by rw [hX.hs]; exact hyl) (sw_true (by rw [hX.hs]; exact hk) (by rw [hX.hs]; exact hyl) hl ha) (hi X hX) (by rw [hX.hN, hX.hs]; exact blkOk_by ok) (fun s H C cl fp => hg _ (hX.blk scope s H C cl fp)) (fun s H C cl fp => ht _ (hX.blk scope s H C cl fp)) (fun s H C cl fp => he _ (hX.blk scope s H C cl fp)) (hs _)
theorem psc_par {i j : Nat} {px py pt : Pos} {kt k2 pt2} {x y : Str} (nd : c.N.Nodup) (ha : PAc c [a, b] t) (hi : c.N[i]? = some x := by rfl) (hj : c.N[j]? = some y := by rfl) (hij : i ≠ j := by decide) (hx : c.sc.names.lookup x = some .local := by rfl) (hy : c.sc.names.lookup y = some .local := by rfl)
    (hw : swappedStores [.Tuple [.Name x px, .Name y py] kt pt] (.Tuple [a, b] k2 pt2) (env0 c.sc) = pure (some [x, y]) := by rfl) (hs : ∀ env, swapsWithSole [.Tuple [.Name x px, .Name y py] kt pt] (.Tuple [a, b] k2 pt2) pos.line env = pure false := by intro _; rfl) :
    PSc c (.Assign [.Tuple [.Name x px, .Name y py] kt pt] (.Tuple [a, b] k2 pt2) pos) (tPar i j t) := fun X h =>
  ps_par h.hc (by rw [h.hN]; exact nd) (by rw [h.hN]; exact hi) (by rw [h.hN]; exact hj) hij (by rw [h.hs]; exact hx) (by rw [h.hs]; exact hy) (ha X h) ((swS h.hs).trans hw) (hs _)
theorem psc_par3 {i j l : Nat} {px py pz pt : Pos} {kt k2 pt2} {x y z : Str} (nd : c.N.Nodup) (ha : PAc c [a, b, e] t) (hi : c.N[i]? = some x := by rfl) (hj : c.N[j]? = some y := by rfl) (hl : c.N[l]? = some z := by rfl) (hij : i ≠ j := by decide) (hil : i ≠ l := by decide) (hjl : j ≠ l := by decide)
    (hx : c.sc.names.lookup x = some .local := by rfl) (hy : c.sc.names.lookup y = some .local := by rfl) (hz : c.sc.names.lookup z = some .local := by rfl)
    (hw : swappedStores [.Tuple [.Name x px, .Name y py, .Name z pz] kt pt] (.Tuple [a, b, e] k2 pt2) (env0 c.sc) = pure (some [x, y, z]) := by rfl) (hs : ∀ env, swapsWithSole [.Tuple [.Name x px, .Name y py, .Name z pz] kt pt] (.Tuple [a, b, e] k2 pt2) pos.line env = pure false := by intro _; rfl) :
    PSc c (.Assign [.Tuple [.Name x px, .Name y py, .Name z pz] kt pt] (.Tuple [a, b, e] k2 pt2) pos) (tPar3 i j l t) := fun X h =>
  ps_par3 h.hc (by rw [h.hN]; exact nd) (by rw [h.hN]; exact hi) (by rw [h.hN]; exact hj) (by rw [h.hN]; exact hl) hij hil hjl (by rw [h.hs]; exact hx) (by rw [h.hs]; exact hy) (by rw [h.hs]; exact hz) (ha X h) ((swS h.hs).trans hw) (hs _)
theorem psc_expr (he : PEc c e te) (hs : ∀ env, swapsWith e none pos.line env = pure false := by intro _; rfl) : PSc c (.Expr e pos) (tDrop te) := fun X h => ps_expr (he X h) (hs _)
theorem psc_ret (he : PEc c e te) : PSc c (.Return (some e) pos) (tRet te) := fun X h => ps_ret (he X h)
theorem psc_if {k : Expr} (hk : PTc c k tA) (ha : PSsc c body ts) (hb : PSsc c els us) : PSc c (.If k body els pos) (tIfS tA ts us) := fun X h => ps_if (hk X h) (ha X h) (hb X h)
theorem psc_for (hi : PIc c tg iter wi) (hg : PGc c tg g) (hb : PSsc c body ts) (hs : ∀ env x, foldedSetIterable iter env x = pure x := by intro _ _; rfl) : PSc c (.For tg iter body [] pos) (tFor wi g ts) := fun X h =>
  ps_for (by rw [h.hx]; exact PassesOwn.never) h.hc (hi X h) (hg X h) (hb X h) (hs _)
theorem psc_never : PSc c st tNever := fun _ _ => ps_never
theorem pssc_nil : PSsc c [] tNext := fun _ _ => pss_nil
theorem pssc_cons (h : PSc c st ts) (h2 : PSsc c ss us) : PSsc c (st :: ss) (tSeq ts us) := fun X hX => pss_cons (h X hX) (h2 X hX)
theorem pssc_one (h : PSc c st ts) : PSsc c [st] ts := fun X hX => pss_one (h X hX)
theorem pssc_never : PSsc c ss tNever := fun _ _ => pss_never
end
end K20
set_option maxHeartbeats 4000000
namespace K20
open PySem PySem.Spec PyProof.Rows L2
section
variable {K : PySem.W.Frag} {B : Hp} {bx : Option Addr} {ρ ρ' : Env} {β β' β1 β2 β3 : Bx} {r : Res} {f1 f2 f3 fr : Bool} {ta tb td te : TE} {tt tu : TT} {i j : Int} {x y : Res}
theorem ev_bin {rr : R2} {z : D} (ha : EvR K B bx ta ρ β f1 x β1) (hb : EvR K B bx tb ρ β1 f2 y β2)
    (hr : ∀ H vx vy Ax Ay, RV K bx H vx x Ax → RV K bx H vy y Ay → ∀ Q : VK, (∀ v, Rep K H v z → Q v H) → rr vx vy H Q) : EvR K B bx (tOp rr ta tb) ρ β true (.d z) β2 :=
  evr_op ha hb fun H vx vy Ax Ay bi rx ry Q g => hr H vx vy Ax Ay rx ry Q fun v h => g.d bi h
theorem ev_add (ha : EvR K B bx ta ρ β f1 (.d (.int i)) β1) (hb : EvR K B bx tb ρ β1 f2 (.d (.int j)) β2) : EvR K B bx (tOp rAddI ta tb) ρ β true (.d (.int (i + j))) β2 := ev_bin ha hb fun H vx vy Ax Ay rx ry Q g => ⟨i, j, rx.1.inv_int, ry.1.inv_int, g _ (.int _)⟩
theorem ev_sub (ha : EvR K B bx ta ρ β f1 (.d (.int i)) β1) (hb : EvR K B bx tb ρ β1 f2 (.d (.int j)) β2) : EvR K B bx (tOp rSubI ta tb) ρ β true (.d (.int (i - j))) β2 := ev_bin ha hb fun H vx vy Ax Ay rx ry Q g => ⟨i, j, rx.1.inv_int, ry.1.inv_int, g _ (.int _)⟩
theorem ev_mul (ha : EvR K B bx ta ρ β f1 (.d (.int i)) β1) (hb : EvR K B bx tb ρ β1 f2 (.d (.int j)) β2) (h : CMul i j) : EvR K B bx (tOp rMulI ta tb) ρ β true (.d (.int (i * j))) β2 := ev_bin ha hb fun H vx vy Ax Ay rx ry Q g => ⟨i, j, rx.1.inv_int, ry.1.inv_int, h, g _ (.int _)⟩
theorem ev_mod (ha : EvR K B bx ta ρ β f1 (.d (.int i)) β1) (hb : EvR K B bx tb ρ β1 f2 (.d (.int j)) β2) (h : 0 < j) : EvR K B bx (tOp rModI ta tb) ρ β true (.d (.int (i % j))) β2 := ev_bin ha hb fun H vx vy Ax Ay rx ry Q g => ⟨i, j, rx.1.inv_int, ry.1.inv_int, h, g _ (.int _)⟩
theorem ev_fdiv (ha : EvR K B bx ta ρ β f1 (.d (.int i)) β1) (hb : EvR K B bx tb ρ β1 f2 (.d (.int j)) β2) (h : CDiv i j) : EvR K B bx (tOp rDivI ta tb) ρ β true (.d (.int (i / j))) β2 := ev_bin ha hb fun H vx vy Ax Ay rx ry Q g => ⟨i, j, rx.1.inv_int, ry.1.inv_int, h, g _ (.int _)⟩
theorem ev_addS {x y : Str} (ha : EvR K B bx ta ρ β f1 (.d (.str x)) β1) (hb : EvR K B bx tb ρ β1 f2 (.d (.str y)) β2) (h : x.length + y.length ≤ sizeLine) : EvR K B bx (tOp rAddSt ta tb) ρ β true (.d (.str (x ++ y))) β2 := ev_bin ha hb fun H vx vy Ax Ay rx ry Q g => ⟨x, y, rx.1.inv_str, ry.1.inv_str, h, g _ (.str _)⟩
theorem ev_addT {xs ys : List D} (ha : EvR K B bx ta ρ β f1 (.d (.tuple xs)) β1) (hb : EvR K B bx tb ρ β1 f2 (.d (.tuple ys)) β2) (h : xs.length + ys.length ≤ 100000) : EvR K B bx (tOp (rCatA K) ta tb) ρ β true (.d (.tuple (xs ++ ys))) β2 :=
  evr_op ha hb fun H vx vy Ax Ay bi rx ry Q g => by
    obtain ⟨p, us, rfl, hp, ru⟩ := rx.1.inv_tup
    obtain ⟨q, ws, rfl, hq, rw_⟩ := ry.1.inv_tup
    refine ⟨p, q, us, ws, rfl, rfl, Rep.sqt hp, Rep.sqt hq, ?_, fun e => ?_, fun _ e => ?_, fun _ _ o ho => ?_⟩
    · rw [ru.length, rw_.length]; exact Nat.le_trans h (by decide)
    · subst e
      cases ru
      exact g.d bi (.tup hq rw_)
    · subst e
      cases rw_
      rw [List.append_nil] at g
      exact g.d bi (.tup hp ru)
    · exact g.tup bi (ru.append rw_) ho
theorem ev_mulT {xs : List D} (ha : EvR K B bx ta ρ β f1 (.d (.tuple xs)) β1) (hb : EvR K B bx tb ρ β1 f2 (.d (.int j)) β2) (h0 : xs ≠ []) (h1 : xs.length ≤ 1000) (h2 : 2 ≤ j) (h3 : j ≤ 1000) : EvR K B bx (tOp (rRepT K) ta tb) ρ β true (.d (.tuple (List.replicate j.toNat xs).flatten)) β2 :=
  evr_op ha hb fun H vx vy Ax Ay bi rx ry Q g => by
    obtain ⟨p, us, rfl, hp, ru⟩ := rx.1.inv_tup
    refine ⟨p, j, us, rfl, ry.1.inv_int, Rep.sqt hp, fun e => ?_, h2, h3, by rw [ru.length]; exact h1, fun o ho => ?_⟩
    · subst e
      cases ru
      exact h0 rfl
    · refine g.tup bi ?_ ho
      generalize j.toNat = m
      induction m with
      | zero => exact .nil
      | succ m ih =>
        simp only [List.replicate_succ, List.flatten_cons]
        exact ru.append ih
theorem ev_neg (ha : EvR K B bx ta ρ β f1 (.d (.int i)) β1) : EvR K B bx (tUn (rU fun i => .int (-i)) ta) ρ β true (.d (.int (-i))) β1 := fun σ H S Q g => ha σ H S _ fun v H1 A k1 b1 r1 _ => ⟨i, r1.1.inv_int, (g.behind k1 b1).d b1 (.int _)⟩
theorem ev_lt (ha : EvR K B bx ta ρ β f1 (.d (.int i)) β1) (hb : EvR K B bx tb ρ β1 f2 (.d (.int j)) β2) : EvR K B bx (tOp rLtI ta tb) ρ β true (.d (.bool (decide (i < j)))) β2 := ev_bin ha hb fun H vx vy Ax Ay rx ry Q g => ⟨i, j, rx.1.inv_int, ry.1.inv_int, g _ (.bl _)⟩
theorem ev_le (ha : EvR K B bx ta ρ β f1 (.d (.int i)) β1) (hb : EvR K B bx tb ρ β1 f2 (.d (.int j)) β2) : EvR K B bx (tOp rLeI ta tb) ρ β true (.d (.bool (decide (i ≤ j)))) β2 := ev_bin ha hb fun H vx vy Ax Ay rx ry Q g => ⟨i, j, rx.1.inv_int, ry.1.inv_int, g _ (.bl _)⟩
theorem ev_gt (ha : EvR K B bx ta ρ β f1 (.d (.int i)) β1) (hb : EvR K B bx tb ρ β1 f2 (.d (.int j)) β2) : EvR K B bx (tOp rGtI ta tb) ρ β true (.d (.bool (decide (j < i)))) β2 := ev_bin ha hb fun H vx vy Ax Ay rx ry Q g => ⟨i, j, rx.1.inv_int, ry.1.inv_int, g _ (.bl _)⟩
theorem ev_ge (ha : EvR K B bx ta ρ β f1 (.d (.int i)) β1) (hb : EvR K B bx tb ρ β1 f2 (.d (.int j)) β2) : EvR K B bx (tOp rGeI ta tb) ρ β true (.d (.bool (decide (j ≤ i)))) β2 := ev_bin ha hb fun H vx vy Ax Ay rx ry Q g => ⟨i, j, rx.1.inv_int, ry.1.inv_int, g _ (.bl _)⟩
theorem ev_eq {d e : D} {k : Bool} (ha : EvR K B bx ta ρ β f1 (.d d) β1) (hb : EvR K B bx tb ρ β1 f2 (.d e) β2) (h : scD d e = some k := by rfl) : EvR K B bx (tOp rEq ta tb) ρ β true (.d (.bool k)) β2 := ev_bin ha hb fun H vx vy Ax Ay rx ry Q g => by
  obtain ⟨h1, h2⟩ := scD_ok h rx.1 ry.1
  refine ⟨h1, ?_⟩
  rw [h2]; exact g _ (.bl _)
theorem ev_ne {d e : D} {k : Bool} (ha : EvR K B bx ta ρ β f1 (.d d) β1) (hb : EvR K B bx tb ρ β1 f2 (.d e) β2) (h : scD d e = some k := by rfl) : EvR K B bx (tOp rNe ta tb) ρ β true (.d (.bool (!k))) β2 := ev_bin ha hb fun H vx vy Ax Ay rx ry Q g => by
  obtain ⟨h1, h2⟩ := scD_ok h rx.1 ry.1
  refine ⟨h1, ?_⟩
  rw [h2]; exact g _ (.bl _)
theorem ev_eqD {d e : D} (ha : EvR K B bx ta ρ β f1 x β1) (hb : EvR K B bx tb ρ β1 f2 y β2) (sd : SeqAt.shaped d = true) (se : SeqAt.shaped e = true) (hx : x.pd = some d := by rfl) (hy : y.pd = some e := by rfl) : EvR K B bx (tOp (rEqD K) ta tb) ρ β true (.d (.bool (PyData.eqv d e))) β2 :=
  ev_bin ha hb fun H vx vy Ax Ay rx ry Q g => ⟨d, e, rx.dp hx, ry.dp hy, sd, se, g _ (.bl _)⟩
theorem ev_neD {d e : D} (ha : EvR K B bx ta ρ β f1 x β1) (hb : EvR K B bx tb ρ β1 f2 y β2) (sd : SeqAt.shaped d = true) (se : SeqAt.shaped e = true) (hx : x.pd = some d := by rfl) (hy : y.pd = some e := by rfl) : EvR K B bx (tOp (rNeD K) ta tb) ρ β true (.d (.bool (!PyData.eqv d e))) β2 :=
  ev_bin ha hb fun H vx vy Ax Ay rx ry Q g => ⟨d, e, rx.dp hx, ry.dp hy, sd, se, g _ (.bl _)⟩
theorem ev_ltT {ns ms : List Int} (ha : EvR K B bx ta ρ β f1 (.d (.tuple (ns.map PyData.int))) β1) (hb : EvR K B bx tb ρ β1 f2 (.d (.tuple (ms.map PyData.int))) β2) : EvR K B bx (tOp (rLtT K) ta tb) ρ β true (.d (.bool (HT.lexLt ns ms))) β2 :=
  ev_bin ha hb fun H vx vy Ax Ay rx ry Q g => by
    obtain ⟨p, us, rfl, hp, ru⟩ := rx.1.inv_tup
    obtain ⟨q, ws, rfl, hq, rw_⟩ := ry.1.inv_tup
    have e1 := ru.ints
    have e2 := rw_.ints
    subst e1 e2
    exact ⟨p, q, ns, ms, rfl, rfl, Rep.sqt hp, Rep.sqt hq, g _ (.bl _)⟩
theorem ev_isN {d : D} (ha : EvR K B bx ta ρ β f1 (.d d) β1) : EvR K B bx (tOp rIsNo ta (tC .non)) ρ β true (.d (.bool (isNo d))) β1 := ev_bin ha (evr_c (w := .non) (x := .none) fun _ => .non) fun H vx vy Ax Ay rx ry Q g => by
  refine ⟨ry.1.inv_none, ?_⟩
  rw [rx.1.isNo]; exact g _ (.bl _)
theorem ev_notN {d : D} (ha : EvR K B bx ta ρ β f1 (.d d) β1) : EvR K B bx (tOp rNotNo ta (tC .non)) ρ β true (.d (.bool (!isNo d))) β1 := ev_bin ha (evr_c (w := .non) (x := .none) fun _ => .non) fun H vx vy Ax Ay rx ry Q g => by
  refine ⟨ry.1.inv_none, ?_⟩
  rw [rx.1.isNo]; exact g _ (.bl _)
theorem ev_notBl {k l : Bool} (ha : EvR K B bx ta ρ β f1 (.d (.bool k)) β1) (hb : EvR K B bx tb ρ β1 f2 (.d (.bool l)) β2) : EvR K B bx (tOp rNotBo ta tb) ρ β true (.d (.bool (!decide (k = l)))) β2 := ev_bin ha hb fun H vx vy Ax Ay rx ry Q g => ⟨k, l, rx.1.inv_bool, ry.1.inv_bool, g _ (.bl _)⟩
theorem ev_in {d : D} {ds : List D} (ha : EvR K B bx ta ρ β f1 (.d d) β1) (hb : EvR K B bx tb ρ β1 f2 y β2) (fx : fl1 d = true) (fy : ds.all fl1 = true) (hy : y.seq = some ds := by rfl) : EvR K B bx (tOp (rIn K false) ta tb) ρ β true (.d (.bool (inD d ds))) β2 :=
  ev_bin ha hb fun H vx vy Ax Ay rx ry Q g => by
    obtain ⟨p, vs, rfl, hp, rr⟩ := ry.seq hy
    refine ⟨p, vs, rfl, hp, rx.1.flat fx, rr.flats fy, ?_⟩
    rw [if_neg Bool.false_ne_true, inV_inD rx.1 rr fx fy]
    exact g _ (.bl _)
theorem ev_nin {d : D} {ds : List D} (ha : EvR K B bx ta ρ β f1 (.d d) β1) (hb : EvR K B bx tb ρ β1 f2 y β2) (fx : fl1 d = true) (fy : ds.all fl1 = true) (hy : y.seq = some ds := by rfl) : EvR K B bx (tOp (rIn K true) ta tb) ρ β true (.d (.bool (!inD d ds))) β2 :=
  ev_bin ha hb fun H vx vy Ax Ay rx ry Q g => by
    obtain ⟨p, vs, rfl, hp, rr⟩ := ry.seq hy
    refine ⟨p, vs, rfl, hp, rx.1.flat fx, rr.flats fy, ?_⟩
    rw [if_pos rfl, inV_inD rx.1 rr fx fy]
    exact g _ (.bl _)
theorem ev_inS {n : Nat} {z : Str} (ha : EvR K B bx ta ρ β f1 (.d (.str ⟨#[n]⟩)) β1) (hb : EvR K B bx tb ρ β1 f2 (.d (.str z)) β2) : EvR K B bx (tOp rInSg ta tb) ρ β true (.d (.bool (decide (n ∈ z.cps.toList)))) β2 :=
  ev_bin ha hb fun H vx vy Ax Ay rx ry Q g => ⟨n, z, rx.1.inv_str, ry.1.inv_str, g _ (.bl _)⟩
def lkM (kvs : List (Int × Int)) (k : Int) : Option Int := (kvs.find? fun p => decide (p.1 = k)).map (·.2)
theorem valV_kvOf : ∀ (kvs : List (Int × Int)) (k : Int), valV (kvs.map kvOf) (Sum.inl k) = (lkM kvs k).map V.int
  | [], k => rfl
  | (a, b) :: r, k => by
    have ih := valV_kvOf r k
    unfold valV lkM at ih ⊢
    rw [List.map_cons, List.find?_cons, List.find?_cons]
    have e : decide ((kvOf (a, b)).1 = (Sum.inl k : Key)) = decide (a = k) := by
      show decide ((Sum.inl a : Key) = Sum.inl k) = _
      rw [key_ll]
      by_cases h : a = k
      · simp [h]
      · simp [h]
    rw [e]
    by_cases h : a = k
    · simp [h, kvOf]
    · simp only [h, decide_false]
      exact ih
theorem ev_inM {kvs : List (Int × Int)} (ha : EvR K B bx ta ρ β f1 (.d (.int i)) β1) (hb : EvR K B bx tb ρ β1 f2 (.m kvs) β2) : EvR K B bx (tDIn ta tb) ρ β true (.d (.bool (lkM kvs i).isSome)) β2 := fun σ H S Q g =>
  ha σ H S _ fun vx H1 A1 k1 b1 r1 _ => hb σ H1 (S.step k1 b1) _ fun vy H2 A2 k2 b2 r2 _ => by
    obtain ⟨p, rfl, n, hp, _⟩ := r2
    have e := r1.1.inv_int
    subst e
    refine ⟨p, _, rfl, DGet.k (k := Sum.inl i) hp, ?_⟩
    rw [valV_kvOf, Option.isSome_map]
    exact (g.behind (k1.trans k2) b2).d b2 (.bl _)
theorem ev_ninM {kvs : List (Int × Int)} (ha : EvR K B bx ta ρ β f1 (.d (.int i)) β1) (hb : EvR K B bx tb ρ β1 f2 (.m kvs) β2) : EvR K B bx (tDNotIn ta tb) ρ β true (.d (.bool (!(lkM kvs i).isSome))) β2 := fun σ H S Q g =>
  ha σ H S _ fun vx H1 A1 k1 b1 r1 _ => hb σ H1 (S.step k1 b1) _ fun vy H2 A2 k2 b2 r2 _ => by
    obtain ⟨p, rfl, n, hp, _⟩ := r2
    have e := r1.1.inv_int
    subst e
    refine ⟨p, _, rfl, DGet.k (k := Sum.inl i) hp, ?_⟩
    rw [valV_kvOf, Option.isSome_map]
    exact (g.behind (k1.trans k2) b2).d b2 (.bl _)
theorem ev_ixM {kvs : List (Int × Int)} {m : Int} (hb : EvR K B bx tb ρ β f2 (.m kvs) β1) (ha : EvR K B bx ta ρ β1 f1 (.d (.int i)) β2) (h : lkM kvs i = some m) : EvR K B bx (tDGet tb ta) ρ β true (.d (.int m)) β2 := fun σ H S Q g =>
  hb σ H S _ fun vy H1 A1 k1 b1 r1 _ => ha σ H1 (S.step k1 b1) _ fun vx H2 A2 k2 b2 r2 _ => by
    obtain ⟨p, rfl, n, hp, _⟩ := r1.kp b1 k2
    have e := r2.1.inv_int
    subst e
    refine ⟨p, .int m, rfl, ?_, (g.behind (k1.trans k2) b2).d b2 (.int _)⟩
    have q := DGet.k (k := Sum.inl i) hp
    rw [valV_kvOf, h] at q
    exact q
theorem ev_leLe {m : Int} (ha : EvR K B bx ta ρ β f1 (.d (.int i)) β) (hb : EvR K B bx tb ρ β f2 (.d (.int j)) β) (hd : EvR K B bx td ρ β f3 (.d (.int m)) β) : EvR K B bx (tChain rLeI rLeI ta tb td) ρ β true (.d (.bool (decide (i ≤ j) && decide (j ≤ m)))) β := fun σ H S Q g =>
  ha σ H S _ fun vx H1 A1 k1 b1 r1 _ => hb σ H1 (S.step k1 b1) _ fun vy H2 A2 k2 b2 r2 _ => ⟨i, j, (r1.kp b1 k2).1.inv_int, r2.1.inv_int, _, rfl, by
    cases e : decide (i ≤ j) with
    | true =>
      refine iteT (hd σ H2 (S.step (k1.trans k2) b2) _ fun vz H3 A3 k3 b3 r3 _ => ⟨j, m, (r2.kp b2 k3).1.inv_int, r3.1.inv_int, ?_⟩)
      exact (g.behind ((k1.trans k2).trans k3) b3).d b3 (by rw [e]; exact .bl _)
    | false =>
      refine iteF ?_
      exact (g.behind (k1.trans k2) b2).d b2 (by rw [e]; exact .bl _)⟩
theorem ev_leLt {m : Int} (ha : EvR K B bx ta ρ β f1 (.d (.int i)) β) (hb : EvR K B bx tb ρ β f2 (.d (.int j)) β) (hd : EvR K B bx td ρ β f3 (.d (.int m)) β) : EvR K B bx (tChain rLeI rLtI ta tb td) ρ β true (.d (.bool (decide (i ≤ j) && decide (j < m)))) β := fun σ H S Q g =>
  ha σ H S _ fun vx H1 A1 k1 b1 r1 _ => hb σ H1 (S.step k1 b1) _ fun vy H2 A2 k2 b2 r2 _ => ⟨i, j, (r1.kp b1 k2).1.inv_int, r2.1.inv_int, _, rfl, by
    cases e : decide (i ≤ j) with
    | true =>
      refine iteT (hd σ H2 (S.step (k1.trans k2) b2) _ fun vz H3 A3 k3 b3 r3 _ => ⟨j, m, (r2.kp b2 k3).1.inv_int, r3.1.inv_int, ?_⟩)
      exact (g.behind ((k1.trans k2).trans k3) b3).d b3 (by rw [e]; exact .bl _)
    | false =>
      refine iteF ?_
      exact (g.behind (k1.trans k2) b2).d b2 (by rw [e]; exact .bl _)⟩
theorem ev_tand {a c : Bool} (h : EvT K B bx tt ρ β a β) (h2 : a = true → EvT K B bx tu ρ β c β) : EvT K B bx (tAnd tt tu) ρ β (a && c) β := by
  have := evt_and h h2
  cases a <;> exact this
theorem ev_tor {a c : Bool} (h : EvT K B bx tt ρ β a β) (h2 : a = false → EvT K B bx tu ρ β c β) : EvT K B bx (tOr tt tu) ρ β (a || c) β := by
  have := evt_or h h2
  cases a <;> exact this
theorem ev_vand {a c : Bool} (h : EvR K B bx ta ρ β f1 (.d (.bool a)) β) (h2 : a = true → EvR K B bx tb ρ β f2 (.d (.bool c)) β) : EvR K B bx (tAndV ta tb) ρ β true (.d (.bool (a && c))) β := by
  have := evr_and h h2
  cases a <;> exact this
theorem ev_vor {a c : Bool} (h : EvR K B bx ta ρ β f1 (.d (.bool a)) β) (h2 : a = false → EvR K B bx tb ρ β f2 (.d (.bool c)) β) : EvR K B bx (tOrV ta tb) ρ β true (.d (.bool (a || c))) β := by
  have := evr_or h h2
  cases a <;> exact this
theorem ev_vnot {a : Bool} (h : EvR K B bx ta ρ β f1 (.d (.bool a)) β1) : EvR K B bx (tNotV ta) ρ β true (.d (.bool (!a))) β1 := fun σ H S Q g =>
  h σ H S _ fun v H1 A k1 b1 r1 _ => ⟨a, r1.1.inv_bool, (g.behind k1 b1).d b1 (.bl _)⟩
/-- the same value either way, told by an if over data -/
theorem ev_ifI {a : Bool} {m n : Int} (h : EvT K B bx tt ρ β a β1) (h1 : a = true → EvR K B bx ta ρ β1 f1 (.d (.int m)) β1) (h2 : a = false → EvR K B bx tb ρ β1 f2 (.d (.int n)) β1) : EvR K B bx (tIf tt ta tb) ρ β true (.d (.int (cond a m n))) β1 :=
  evr_if h (fun e => by
    subst e
    intro σ H S Q g
    exact h1 rfl σ H S Q fun v H' A k b r _ => g v H' A k b r fun _ p hp => by rw [r.2] at hp; cases hp) (fun e => by
    subst e
    intro σ H S Q g
    exact h2 rfl σ H S Q fun v H' A k b r _ => g v H' A k b r fun _ p hp => by rw [r.2] at hp; cases hp)
theorem ev_cast {z z' : D} (h : EvR K B bx te ρ β fr (.d z) β1) (e : z = z') : EvR K B bx te ρ β fr (.d z') β1 := e ▸ h
theorem ev_castR {z z' : Res} (h : EvR K B bx te ρ β fr z β1) (e : z = z') : EvR K B bx te ρ β fr z' β1 := e ▸ h
theorem ev_tcast {a c : Bool} (h : EvT K B bx tt ρ β a β1) (e : a = c) : EvT K B bx tt ρ β c β1 := e ▸ h
/-- data are no address: fresh as wished -/
theorem ev_fr {z : D} {f : Bool} (h : EvR K B bx te ρ β f1 (.d z) β1) : EvR K B bx te ρ β f (.d z) β1 := fun σ H S Q g =>
  h σ H S Q fun v H' A k b r _ => g v H' A k b r fun _ p hp => by rw [r.2] at hp; cases hp
def EvD (K : PySem.W.Frag) (B : Hp) (bx : Option Addr) (ta : TA) (ρ : Env) (β : Bx) (ds : List D) (β' : Bx) : Prop := EvA K B bx ta ρ β (ds.map Res.d) β'
theorem dv_nil : EvD K B bx tNil ρ β [] β := eva_nil
theorem dv_cons {d : D} {ds : List D} {tr : TA} (h : EvR K B bx te ρ β fr (.d d) β1) (h2 : EvD K B bx tr ρ β1 ds β2) : EvD K B bx (tCons te tr) ρ β (d :: ds) β2 := eva_cons h rfl h2
theorem ev_tup {tr : TA} {ds : List D} (h : EvD K B bx tr ρ β ds β1) (hl : ds.length ≤ 100000 := by exact Nat.le_of_ble_eq_true rfl) : EvR K B bx (tTup tr) ρ β true (.d (.tuple ds)) β1 := evr_tup h hl
theorem ev_lst {tr : TA} {ds : List D} (h : EvD K B bx tr ρ β ds β1) (hl : ds.length ≤ 100000 := by exact Nat.le_of_ble_eq_true rfl) : EvR K B bx (tLst tr) ρ β true (.l ds) β1 := evr_lst h hl
theorem Reps.atI {H : Hp} {vs : List V} {ds : List D} {d : D} (h : Reps K H vs ds) (e : L2.atI ds i = some d) : ∃ v, L2.atI vs i = some v ∧ Rep K H v d := by
  unfold L2.atI at e ⊢
  rw [h.length]
  cases q : ixN ds.length i with
  | none => rw [q] at e; exact nomatch e
  | some k =>
    rw [q] at e
    exact h.get e
theorem ev_ix {ds : List D} {d : D} (ha : EvR K B bx ta ρ β f1 x β1) (hb : EvR K B bx tb ρ β1 f2 (.d (.int i)) β2) (h : L2.atI ds i = some d) (hx : x.seq = some ds := by rfl) : EvR K B bx (tOp (rSeq K) ta tb) ρ β true (.d d) β2 :=
  ev_bin ha hb fun H vx vy Ax Ay rx ry Q g => by
    obtain ⟨p, vs, rfl, hp, rr⟩ := rx.seq hx
    obtain ⟨v, e, rv⟩ := rr.atI h
    rcases hp with hp | hp
    · exact .inl ⟨p, vs, i, v, rfl, ry.1.inv_int, hp, e, g _ rv⟩
    · exact .inr ⟨p, vs, i, v, rfl, ry.1.inv_int, hp, e, g _ rv⟩
theorem ev_ixS {z : Str} {n : Nat} (ha : EvR K B bx ta ρ β f1 (.d (.str z)) β1) (hb : EvR K B bx tb ρ β1 f2 (.d (.int i)) β2) (h : L2.atI z.cps.toList i = some n) (hl : z.length ≤ sizeLine) : EvR K B bx (tOp rIxS ta tb) ρ β true (.d (.str ⟨#[n]⟩)) β2 :=
  ev_bin ha hb fun H vx vy Ax Ay rx ry Q g => ⟨z, i, n, rx.1.inv_str, ry.1.inv_int, hl, h, g _ (.str _)⟩
/-- the script's item -/
theorem ev_ixR {ns : List Int} {n : Int} (ha : EvR K B bx ta ρ β f1 (.s ns) β1) (hb : EvR K B bx tb ρ β1 f2 (.d (.int i)) β2) (h : L2.atI ns i = some n) : EvR K B bx (tOp (rSeq K) ta tb) ρ β true (.d (.int n)) β2 :=
  ev_bin ha hb fun H vx vy Ax Ay rx ry Q g => by
    obtain ⟨a, rfl, hs, _⟩ := rx
    refine .inl ⟨a, ns.map V.int, i, .int n, rfl, ry.1.inv_int, hs.sql, ?_, g _ (.int _)⟩
    unfold L2.atI at h ⊢
    rw [List.length_map]
    cases q : ixN ns.length i with
    | none => rw [q] at h; exact nomatch h
    | some k =>
      rw [q] at h
      show (ns.map V.int)[k]? = _
      rw [List.getElem?_map]
      rw [show ns[k]? = some n from h]; rfl
def cutG {α : Type} (xs : List α) (lo hi : Option Int) : List α := (xs.drop (HT.sIx xs.length 0 lo)).take (HT.sIx xs.length xs.length hi - HT.sIx xs.length 0 lo)
def EvO (K : PySem.W.Frag) (B : Hp) (bx : Option Addr) (to : TO) (ρ : Env) (β : Bx) (o : Option Int) : Prop := ∀ σ H, RS K B bx ρ β σ H → ∀ Q : Option Int → Hp → Prop, (∀ H', Kp bx H H' → BoxIs bx H' β → Q o H') → to σ H Q
theorem evo_none : EvO K B bx tNoPart ρ β none := fun σ H S Q g => g H Kp.refl S.bi
theorem evo_some (h : EvR K B bx te ρ β f1 (.d (.int i)) β) : EvO K B bx (tPart te) ρ β (some i) := fun σ H S Q g => h σ H S _ fun v H1 A k1 b1 r1 _ => ⟨i, r1.1.inv_int, g H1 k1 b1⟩
theorem Reps.cut {H : Hp} {vs : List V} {ds : List D} {lo hi : Option Int} (h : Reps K H vs ds) : Reps K H (cutV vs lo hi) (cutG ds lo hi) := by
  unfold cutV cutG
  rw [h.length]
  exact h.drop.take
theorem cut_all {α : Type} {xs : List α} {lo hi : Option Int} (h : HT.sIx xs.length 0 lo = 0 ∧ HT.sIx xs.length xs.length hi = xs.length) : cutG xs lo hi = xs := by
  unfold cutG
  rw [h.1, h.2]; simp
theorem ev_slT {ds : List D} {tl th : TO} {lo hi : Option Int} (ha : EvR K B bx ta ρ β f1 (.d (.tuple ds)) β) (hl : EvO K B bx tl ρ β lo) (hh : EvO K B bx th ρ β hi) : EvR K B bx (tSl (rSlA K) ta tl th) ρ β true (.d (.tuple (cutG ds lo hi))) β := fun σ H S Q g =>
  ha σ H S _ fun vx H1 A1 k1 b1 r1 _ => hl σ H1 (S.step k1 b1) _ fun H2 k2 b2 => hh σ H2 (S.step (k1.trans k2) b2) _ fun H3 k3 b3 => by
    obtain ⟨p, us, rfl, hp, ru⟩ := (r1.kp b1 (k2.trans k3)).1.inv_tup
    have g3 := g.behind ((k1.trans k2).trans k3) b3
    refine ⟨p, us, rfl, Rep.sqt hp, fun e => ?_, fun _ o ho => g3.tup b3 ru.cut ho⟩
    rw [ru.length] at e
    rw [cut_all e] at g3
    exact g3.d b3 (.tup hp ru)
theorem ev_slL {ds : List D} {tl th : TO} {lo hi : Option Int} (ha : EvR K B bx ta ρ β f1 (.l ds) β) (hl : EvO K B bx tl ρ β lo) (hh : EvO K B bx th ρ β hi) : EvR K B bx (tSl (rSlL K) ta tl th) ρ β true (.l (cutG ds lo hi)) β := fun σ H S Q g =>
  ha σ H S _ fun vx H1 A1 k1 b1 r1 _ => hl σ H1 (S.step k1 b1) _ fun H2 k2 b2 => hh σ H2 (S.step (k1.trans k2) b2) _ fun H3 k3 b3 => by
    obtain ⟨p, us, rfl, n, hp, ru, _⟩ := r1.kp b1 (k2.trans k3)
    exact ⟨p, us, rfl, .inl (.inl hp), fun o ho => (g.behind ((k1.trans k2).trans k3) b3).lst b3 ru.cut ho⟩
theorem ev_slS {z : Str} {tl th : TO} {lo hi : Option Int} (ha : EvR K B bx ta ρ β f1 (.d (.str z)) β) (hl : EvO K B bx tl ρ β lo) (hh : EvO K B bx th ρ β hi) (hz : z.length ≤ sizeLine) : EvR K B bx (tSl rSlS ta tl th) ρ β true (.d (.str (cutS z lo hi))) β := fun σ H S Q g =>
  ha σ H S _ fun vx H1 A1 k1 b1 r1 _ => hl σ H1 (S.step k1 b1) _ fun H2 k2 b2 => hh σ H2 (S.step (k1.trans k2) b2) _ fun H3 k3 b3 =>
    ⟨z, r1.1.inv_str, hz, (g.behind ((k1.trans k2).trans k3) b3).d b3 (.str _)⟩
theorem ev_call {R : List Res → Bx → Res → Bx → Prop} {tr : TA} {rs : List Res} (ha : EvA K B bx tr ρ β rs β1) (h : R rs β1 r β2) : EvR K B bx (tCall (spT K R) [] E0 tr) ρ β true r β2 := fun σ H S Q g =>
  ha σ H S _ fun vs H1 k1 b1 r1 => by
    show spT K R (vs ++ []) H1 Q E0
    rw [List.append_nil]
    refine ⟨rs, β1, r, β2, h, bx, fun b e => ?_, b1, r1, g.behind k1 b1⟩
    intro h0
    have := b1 b e
    rw [h0] at this; cases this
theorem ev_callD {R : List Res → Bx → Res → Bx → Prop} {tr : TA} {ds : List D} (ha : EvD K B bx tr ρ β ds β1) (h : R (ds.map Res.d) β1 r β2) : EvR K B bx (tCall (spT K R) [] E0 tr) ρ β true r β2 := ev_call ha h
theorem ev_lenS {z : Str} (ha : EvR K B bx te ρ β f1 (.d (.str z)) β1) (hz : z.length ≤ sizeLine) : EvR K B bx (tCB (rLenV K) (tCons te tNil)) ρ β true (.d (.int z.length)) β1 := evr_cb1 ha fun H v A bi rv Q g => by
  have e := rv.1.inv_str
  subst e
  exact ⟨_, _, rfl, ⟨hz, rfl⟩, g.d bi (.int _)⟩
theorem ev_len {ds : List D} (ha : EvR K B bx te ρ β f1 x β1) (hx : x.seq = some ds := by rfl) : EvR K B bx (tCB (rLenV K) (tCons te tNil)) ρ β true (.d (.int ds.length)) β1 := evr_cb1 ha fun H v A bi rv Q g => by
  obtain ⟨p, vs, rfl, hp, rr⟩ := rv.seq hx
  refine ⟨_, vs.length, rfl, ?_, ?_⟩
  · rcases hp with hp | hp
    · exact .inl ⟨vs, hp, rfl⟩
    · exact .inr ⟨vs, hp, rfl⟩
  · rw [rr.length]; exact g.d bi (.int _)
theorem ev_lenR {ns : List Int} (ha : EvR K B bx te ρ β f1 (.s ns) β1) : EvR K B bx (tCB (rLenV K) (tCons te tNil)) ρ β true (.d (.int ns.length)) β1 := evr_cb1 ha fun H v A bi rv Q g => by
  obtain ⟨a, rfl, hs, _⟩ := rv
  exact ⟨_, ns.length, rfl, .inl ⟨_, hs.sql, by rw [List.length_map]⟩, g.d bi (.int _)⟩
theorem ev_abs (ha : EvR K B bx te ρ β f1 (.d (.int i)) β1) : EvR K B bx (tCB rAbs (tCons te tNil)) ρ β true (.d (.int (if i < 0 then -i else i))) β1 := evr_cb1 ha fun H v A bi rv Q g => ⟨i, by rw [rv.1.inv_int], g.d bi (.int _)⟩
theorem ev_all {ds : List D} {bs : List Bool} (ha : EvR K B bx te ρ β f1 (.l ds) β1) (h : ds = bs.map PyData.bool) : EvR K B bx (tCB (rAll K) (tCons te tNil)) ρ β true (.d (.bool (bs.all id))) β1 := evr_cb1 ha fun H v A bi rv Q g => by
  subst h
  obtain ⟨p, vs, rfl, n, hp, rr, _⟩ := rv
  have e := rr.bools
  subst e
  exact ⟨p, bs, rfl, .inl (.inl hp), g.d bi (.bl _)⟩
theorem ev_any {ds : List D} {bs : List Bool} (ha : EvR K B bx te ρ β f1 (.l ds) β1) (h : ds = bs.map PyData.bool) : EvR K B bx (tCB (rAny K) (tCons te tNil)) ρ β true (.d (.bool (bs.any id))) β1 := evr_cb1 ha fun H v A bi rv Q g => by
  subst h
  obtain ⟨p, vs, rfl, n, hp, rr, _⟩ := rv
  have e := rr.bools
  subst e
  exact ⟨p, bs, rfl, .inl (.inl hp), g.d bi (.bl _)⟩
theorem ev_allM {α : Type} {xs : List α} {q : α → Bool} (ha : EvR K B bx te ρ β f1 (.l (xs.map fun y => PyData.bool (q y))) β1) : EvR K B bx (tCB (rAll K) (tCons te tNil)) ρ β true (.d (.bool (xs.all q))) β1 := by
  have := ev_all (bs := xs.map q) ha (by rw [List.map_map]; rfl)
  rw [List.all_map] at this
  exact this
theorem ev_anyM {α : Type} {xs : List α} {q : α → Bool} (ha : EvR K B bx te ρ β f1 (.l (xs.map fun y => PyData.bool (q y))) β1) : EvR K B bx (tCB (rAny K) (tCons te tNil)) ρ β true (.d (.bool (xs.any q))) β1 := by
  have := ev_any (bs := xs.map q) ha (by rw [List.map_map]; rfl)
  rw [List.any_map] at this
  exact this
theorem ev_sum {ds : List D} {ns : List Int} (ha : EvR K B bx te ρ β f1 (.l ds) β1) (h : ds = ns.map PyData.int) : EvR K B bx (tCB (rSum K) (tCons te tNil)) ρ β true (.d (.int ns.sum)) β1 := evr_cb1 ha fun H v A bi rv Q g => by
  subst h
  obtain ⟨p, vs, rfl, n, hp, rr, _⟩ := rv
  have e := rr.ints
  subst e
  exact ⟨p, ns, rfl, .inl (.inl hp), g.d bi (.int _)⟩
theorem ev_sumM {α : Type} {xs : List α} {q : α → Int} (ha : EvR K B bx te ρ β f1 (.l (xs.map fun y => PyData.int (q y))) β1) : EvR K B bx (tCB (rSum K) (tCons te tNil)) ρ β true (.d (.int (xs.map q).sum)) β1 := ev_sum ha (by rw [List.map_map]; rfl)
/-- the types asked here -/
def isTy : D → String → Option Bool
  | .tuple _, "tuple" => some true
  | .int _, "tuple" => some false
  | .int _, "int" => some true
  | .bool _, "int" => some true
  | .int _, "bool" => some false
  | .bool _, "bool" => some true
  | .str _, "str" => some true
  | .str _, "tuple" => some false
  | _, _ => none
theorem ev_isi {d : D} {n : String} {k : Bool} (ha : EvR K B bx te ρ β f1 (.d d) β1) (h : isTy d n = some k := by rfl) : EvR K B bx (tCB (rIsi K) (tCons te (tCons (tC (.ty n)) tNil))) ρ β true (.d (.bool k)) β1 := fun σ H S Q g =>
  ha σ H S _ fun v H1 A k1 b1 r1 _ => by
    have g1 := (g.behind k1 b1).d b1 (.bl _)
    show rIsi K [v, .ty n] H1 Q
    have hr := r1.1
    cases hr with
    | non => simp [isTy] at h
    | bl b =>
      unfold isTy at h
      split at h <;> try cases h
      all_goals (rename_i e; cases e)
      · exact ⟨_, _, _, _, _, rfl, .ty _, .base (.bl _), kit_ty (by decide +kernel), g1⟩
      · exact ⟨_, _, _, _, _, rfl, .ty _, .base (.bl _), kit_ty (by decide +kernel), g1⟩
    | int i =>
      unfold isTy at h
      split at h <;> try cases h
      all_goals (rename_i e; cases e)
      · exact ⟨_, _, _, _, _, rfl, .ty _, .base (.int _), kit_ty (by decide +kernel), g1⟩
      · exact ⟨_, _, _, _, _, rfl, .ty _, .base (.int _), kit_ty (by decide +kernel), g1⟩
      · exact ⟨_, _, _, _, _, rfl, .ty _, .base (.int _), kit_ty (by decide +kernel), g1⟩
    | str i =>
      unfold isTy at h
      split at h <;> try cases h
      all_goals (rename_i e; cases e)
      · exact ⟨_, _, _, _, _, rfl, .ty _, .base (.str _), kit_ty (by decide +kernel), g1⟩
      · exact ⟨_, _, _, _, _, rfl, .ty _, .base (.str _), kit_ty (by decide +kernel), g1⟩
    | tup hp rr =>
      unfold isTy at h
      split at h <;> try cases h
      all_goals (rename_i e; cases e)
      rcases hp with hp | hp
      · exact ⟨_, _, _, _, _, rfl, .ty _, .base (.tup hp), kit_ty (by decide +kernel), g1⟩
      · obtain ⟨o, e1, e2⟩ := hp.obj
        exact ⟨_, _, _, _, _, rfl, .ty _, .kTuple e1 e2, kit_ty (by decide +kernel), g1⟩
theorem ev_min (ha : EvR K B bx ta ρ β f1 (.d (.int i)) β1) (hb : EvR K B bx tb ρ β1 f2 (.d (.int j)) β2) : EvR K B bx (tCB rMin2 (tCons ta (tCons tb tNil))) ρ β true (.d (.int (if j < i then j else i))) β2 := evr_cb (eva_cons ha rfl (eva_cons hb rfl eva_nil)) fun H vs bi rv Q g => by
  have h := RVs.reps (ds := [.int i, .int j]) rv
  cases h with
  | cons a b => cases b with
    | cons b c => cases c; exact ⟨i, j, by rw [a.inv_int, b.inv_int], g.d bi (.int _)⟩
theorem ev_max (ha : EvR K B bx ta ρ β f1 (.d (.int i)) β1) (hb : EvR K B bx tb ρ β1 f2 (.d (.int j)) β2) : EvR K B bx (tCB rMax2 (tCons ta (tCons tb tNil))) ρ β true (.d (.int (if j > i then j else i))) β2 := evr_cb (eva_cons ha rfl (eva_cons hb rfl eva_nil)) fun H vs bi rv Q g => by
  have h := RVs.reps (ds := [.int i, .int j]) rv
  cases h with
  | cons a b => cases b with
    | cons b c => cases c; exact ⟨i, j, by rw [a.inv_int, b.inv_int], g.d bi (.int _)⟩
theorem ev_divmod (ha : EvR K B bx ta ρ β f1 (.d (.int i)) β1) (hb : EvR K B bx tb ρ β1 f2 (.d (.int j)) β2) (h : CDiv i j) : EvR K B bx (tCB rDivm (tCons ta (tCons tb tNil))) ρ β true (.d (.tuple [.int (i / j), .int (i % j)])) β2 := evr_cb (eva_cons ha rfl (eva_cons hb rfl eva_nil)) fun H vs bi rv Q g => by
  have hh := RVs.reps (ds := [.int i, .int j]) rv
  cases hh with
  | cons a b => cases b with
    | cons b c => cases c; exact ⟨i, j, by rw [a.inv_int, b.inv_int], h, fun p hp => g.tup bi (.cons (.int _) (.cons (.int _) .nil)) hp⟩
theorem ev_tupleL {ds : List D} (ha : EvR K B bx te ρ β f1 (.l ds) β1) : EvR K B bx (tThen te (kTup K)) ρ β true (.d (.tuple ds)) β1 := fun σ H S Q g => ha σ H S _ fun v H1 A k1 b1 r1 _ => by
  obtain ⟨p, vs, rfl, n, hp, rr, _⟩ := r1
  exact .inl ⟨p, vs, rfl, .inl (.inl hp), fun q hq => (g.behind k1 b1).tup b1 rr hq⟩
theorem ev_listT {ds : List D} (ha : EvR K B bx te ρ β f1 x β1) (hx : x.seq = some ds := by rfl) : EvR K B bx (tCB (rListOf K) (tCons te tNil)) ρ β true (.l ds) β1 := evr_cb1 ha fun H v A bi rv Q g => by
  obtain ⟨p, vs, rfl, hp, rr⟩ := rv.seq hx
  exact ⟨p, vs, rfl, hp, fun q hq => g.lst bi rr hq⟩
theorem ev_int1 {k : Bool} (ha : EvR K B bx te ρ β f1 (.d (.bool k)) β1) : EvR K B bx (tCB rInt1 (tCons te tNil)) ρ β true (.d (.int (if k then 1 else 0))) β1 := evr_cb1 ha fun H v A bi rv Q g => .inr ⟨k, by rw [rv.1.inv_bool], g.d bi (.int _)⟩
def rgD (n : Int) : List D := (List.range n.toNat).map fun i => PyData.int (i : Nat)
theorem ev_listRg (ha : EvR K B bx te ρ β f1 (.d (.int i)) β1) (h0 : 0 ≤ i) (h1 : i ≤ 100000) : EvR K B bx (tLstRg (tRg1 te)) ρ β true (.l (rgD i)) β1 := fun σ H S Q g => ha σ H S _ fun v H1 A k1 b1 r1 _ =>
  ⟨i, r1.1.inv_int, RgOk.of_le (Int.le_refl 0) (by omega) (by omega) h0, fun q hq => by
    have : rgV 0 i = ((List.range i.toNat).map fun n => ((n : Nat) : Int)).map V.int := by
      unfold rgV
      rw [List.map_map]
      simp
    rw [this]
    refine (g.behind k1 b1).lst b1 ?_ hq
    have e : rgD i = ((List.range i.toNat).map fun n => ((n : Nat) : Int)).map PyData.int := by
      unfold rgD
      rw [List.map_map]
      rfl
    rw [e]
    exact Reps.mkInts _⟩
theorem ev_lenSet {ds : List D} {ns : List Int} (ha : EvR K B bx te ρ β f1 (.l ds) β1) (h : ds = ns.map PyData.int) (nd : ns.Nodup) (hl : ns.length ≤ 4000) : EvR K B bx (RZ.tLenSetI K te) ρ β true (.d (.int ns.length)) β1 := fun σ H S Q g => ha σ H S _ fun v H1 A k1 b1 r1 _ => by
  subst h
  obtain ⟨p, vs, rfl, n, hp, rr, _⟩ := r1
  have e := rr.ints
  subst e
  exact ⟨p, ns, rfl, .inl (.inl hp), nd, hl, (g.behind k1 b1).d b1 (.int _)⟩
theorem ev_join {z : Str} {ds : List D} {ys : List Str} {to : TE} (ho : EvR K B bx to ρ β f1 (.d (.str z)) β1) (he : EvR K B bx te ρ β1 f2 x β2) (h : ds = ys.map PyData.str) (hl : (ys.map (·.length)).sum + ys.length * z.length ≤ 16777216) (hx : x.seq = some ds := by rfl) : EvR K B bx (tM1 (rJoin K) to te) ρ β true (.d (.str (Txt.join z ys))) β2 := fun σ H S Q g =>
  ho σ H S _ fun v H1 A k1 b1 r1 _ => ⟨⟨z, r1.1.inv_str⟩, he σ H1 (S.step k1 b1) _ fun w H2 A2 k2 b2 r2 _ => by
    subst h
    obtain ⟨p, vs, rfl, hp, rr⟩ := r2.seq hx
    have e := rr.strs'
    subst e
    exact ⟨z, p, ys, r1.1.inv_str, rfl, hp, hl, (g.behind (k1.trans k2) b2).d b2 (.str _)⟩⟩
end
end K20
set_option maxHeartbeats 4000000
namespace K20
open PySem PySem.Spec PyProof.Rows L2
abbrev Bnd := D → Env → Option Env
def bN (i : Nat) : Bnd := fun d ρ => some (ρ.set i (some (.d d)))
def bTs : List Bnd → List D → Env → Option Env
  | [], [], ρ => some ρ
  | b :: bs, d :: ds, ρ => match b d ρ with
    | some ρ' => bTs bs ds ρ'
    | none => none
  | _, _, _ => none
def bT (bs : List Bnd) : Bnd := fun d ρ => match d with
  | .tuple ds => bTs bs ds ρ
  | _ => none
section
variable {K : PySem.W.Frag} {B : Hp} {bx : Option Addr}
/-- a target's reading: what it binds, which slots -/
def TgR (K : PySem.W.Frag) (B : Hp) (bx : Option Addr) (g : TG) (bnd : Bnd) (sl : List Nat) : Prop := ∀ d ρ ρ', bnd d ρ = some ρ' → ∀ v σ H, Rep K H v d → ∀ Q : L2.St → Hp → Prop,
  (∀ σ', (∀ H' β, TK H H' → RS K B bx ρ β σ H' → RS K B bx ρ' β σ' H') → (∀ vs : List Nat, (∀ i ∈ sl, i ∈ vs) → wipe σ' vs = wipe σ vs) → Q σ' H) → g v σ H Q
def TgsR (K : PySem.W.Frag) (B : Hp) (bx : Option Addr) (g : TGs) (bs : List Bnd) (sl : List Nat) : Prop := ∀ ds ρ ρ', bTs bs ds ρ = some ρ' → ∀ vs σ H, Reps K H vs ds → ∀ Q : L2.St → Hp → Prop,
  (∀ σ', (∀ H' β, TK H H' → RS K B bx ρ β σ H' → RS K B bx ρ' β σ' H') → (∀ vs : List Nat, (∀ i ∈ sl, i ∈ vs) → wipe σ' vs = wipe σ vs) → Q σ' H) → g vs σ H Q
theorem RV.some {H : Hp} {v : V} {r : Res} {A : List Addr} {p : Addr} (h : RV K bx H v r A) (hp : p ∈ A) : H p ≠ none := by
  cases r with
  | d x => rw [h.2] at hp; cases hp
  | l ds =>
    obtain ⟨q, vs, _, _, hq, _, rfl⟩ := h
    simp at hp; subst hp; rw [hq]; simp
  | m kvs =>
    obtain ⟨q, _, _, hq, rfl⟩ := h
    simp at hp; subst hp; rw [hq]; simp
  | box => obtain ⟨_, _, _, rfl⟩ := h; cases hp
  | s ns => obtain ⟨_, _, _, rfl⟩ := h; cases hp
  | t ks =>
    obtain ⟨q, _, _, hq, rfl⟩ := h
    simp at hp; subst hp; rw [hq]; simp
  | ll dss =>
    obtain ⟨q, qs, _, _, hq, hl, _, rfl⟩ := h
    rcases List.mem_cons.1 hp with e | hp
    · rw [e, hq]; simp
    · obtain ⟨vs, e⟩ := hl.some hp
      rw [e]; simp
/-- a slot holds another thing, made since H0 -/
theorem RS.put {ρ : Env} {β β' : Bx} {σ : L2.St} {H0 H : Hp} {v : V} {r : Res} {A : List Addr} (i : Nat) (S : RS K B bx ρ β σ H0) (k : Kp bx H0 H) (b : BoxIs bx H β') (h : RV K bx H v r A) (hA : ∀ p ∈ A, H0 p = none) : RS K B bx (ρ.set i (some r)) β' (σ.set i (some v)) H := by
  classical
  have hB : ∀ p ∈ A, B p = none := fun p hp => S.freshB (hA p hp)
  obtain ⟨kp, bb, bi, len, fa, h1, h2, h3⟩ := S
  have hq : ∀ j q, (∃ r, ρ[j]? = some (some r)) → q ∈ fa j → q ∉ A := fun j q ⟨r', e⟩ hq hA' => by
    obtain ⟨w, _, e2⟩ := h1 j r' e
    exact e2.some hq (hA q hA')
  have key : ∀ j p, p ∈ (if j = i then A else if ∃ r, ρ[j]? = some (some r) then fa j else []) → (j = i ∧ p ∈ A) ∨ (j ≠ i ∧ (∃ r, ρ[j]? = some (some r)) ∧ p ∈ fa j) := fun j p hp => by
    by_cases hj : j = i
    · rw [if_pos hj] at hp; exact .inl ⟨hj, hp⟩
    · rw [if_neg hj] at hp
      split at hp
      · exact .inr ⟨hj, by assumption, hp⟩
      · cases hp
  refine ⟨kp.trans k, bb, b, by rw [List.length_set, List.length_set]; exact len, fun j => if j = i then A else if ∃ r, ρ[j]? = some (some r) then fa j else [], fun j r' e => ?_, fun j p hp => ?_, fun j l p hj hl => ?_⟩
  · by_cases hj : j = i
    · subst hj
      have hl : j < ρ.length := by
        have := (List.getElem?_eq_some_iff.mp e).1
        rw [List.length_set] at this; exact this
      rw [List.getElem?_set_self hl] at e
      cases e
      refine ⟨v, by rw [List.getElem?_set_self (by omega)], ?_⟩
      simp only [if_pos]
      exact h
    · rw [List.getElem?_set_ne (Ne.symm hj)] at e
      obtain ⟨w, e1, e2⟩ := h1 j r' e
      refine ⟨w, by rw [List.getElem?_set_ne (Ne.symm hj)]; exact e1, ?_⟩
      have ex : ∃ r, ρ[j]? = some (some r) := ⟨r', e⟩
      simp only [if_neg hj, if_pos ex]
      exact e2.kp bi k
  · rcases key j p hp with ⟨_, h⟩ | ⟨_, _, h⟩
    · exact hB p h
    · exact h2 j p h
  · rcases key j p hj with ⟨e1, g1⟩ | ⟨e1, x1, g1⟩
    · rcases key l p hl with ⟨e2, g2⟩ | ⟨e2, x2, g2⟩
      · rw [e1, e2]
      · exact absurd g1 (hq l p x2 g2)
    · rcases key l p hl with ⟨e2, g2⟩ | ⟨e2, x2, g2⟩
      · exact absurd g2 (hq j p x1 g1)
      · exact h3 j l p g1 g2
theorem wipe_set {σ : L2.St} {i : Nat} {x : Option V} : ∀ {vs : List Nat}, i ∈ vs → wipe (σ.set i x) vs = wipe σ vs
  | [], h => by cases h
  | w :: vs, h => by
    unfold wipe
    by_cases hi : i ∈ vs
    · rw [wipe_set hi]
    · have e : i = w := by
        rcases List.mem_cons.1 h with e | e
        · exact e
        · exact absurd e hi
      subst e
      have : ∀ {τ : L2.St} {us : List Nat}, i ∉ us → wipe (τ.set i x) us = (wipe τ us).set i x := by
        intro τ us
        induction us with
        | nil => intro _; rfl
        | cons u us ih =>
          intro hu
          simp only [List.mem_cons, not_or] at hu
          unfold wipe
          rw [ih hu.2, List.set_comm _ _ (Ne.symm hu.1)]
      rw [this hi, List.set_set]
theorem tg_name (i : Nat) : TgR K B bx (gName i) (bN i) [i] := fun d ρ ρ' e v σ H rv Q q => by
  cases e
  refine q _ (fun H' β k S => S.put i Kp.refl S.bi ⟨rv.tk k, rfl⟩ fun p hp => by cases hp) fun vs h => wipe_set (h i (by simp))
theorem tgs_nil : TgsR K B bx gNil [] [] := fun ds ρ ρ' e vs σ H rv Q q => by
  cases ds with
  | nil =>
    cases e
    cases rv
    exact ⟨rfl, q σ (fun _ _ _ S => S) fun _ _ => rfl⟩
  | cons d ds => cases e
theorem tgs_cons {g : TG} {gs : TGs} {b : Bnd} {bs : List Bnd} {s1 s2 : List Nat} (h : TgR K B bx g b s1) (h2 : TgsR K B bx gs bs s2) : TgsR K B bx (gCons g gs) (b :: bs) (s1 ++ s2) := fun ds ρ ρ' e vs σ H rv Q q => by
  cases ds with
  | nil => cases e
  | cons d ds =>
    cases rv with
    | cons a c =>
      have e2 : (match b d ρ with | some ρ' => bTs bs ds ρ' | none => none) = some ρ' := e
      cases h3 : b d ρ with
      | none => rw [h3] at e2; cases e2
      | some ρ1 =>
        rw [h3] at e2
        refine ⟨_, _, rfl, h d ρ ρ1 h3 _ σ H a _ fun σ1 S1 w1 => h2 ds ρ1 ρ' e2 _ σ1 H c _ fun σ2 S2 w2 => q σ2 (fun H' β k S => S2 H' β k (S1 H' β k S)) fun vs hv => ?_⟩
        rw [w2 vs fun i hi => hv i (List.mem_append_right _ hi), w1 vs fun i hi => hv i (List.mem_append_left _ hi)]
theorem bTs_length : ∀ {bs : List Bnd} {ds : List D} {ρ ρ' : Env}, bTs bs ds ρ = some ρ' → ds.length = bs.length
  | [], [], _, _, _ => rfl
  | b :: bs, d :: ds, ρ, ρ', e => by
    have e2 : (match b d ρ with | some ρ' => bTs bs ds ρ' | none => none) = some ρ' := e
    cases h3 : b d ρ with
    | none => rw [h3] at e2; cases e2
    | some ρ1 =>
      rw [h3] at e2
      simp [bTs_length e2]
  | [], _ :: _, _, _, e => by cases e
  | _ :: _, [], _, _, e => by cases e
theorem tg_tup {gs : TGs} {bs : List Bnd} {s1 : List Nat} {n : Nat} (h : TgsR K B bx gs bs s1) (hn : bs.length = n := by rfl) : TgR K B bx (gTup K n gs) (bT bs) s1 := fun d ρ ρ' e v σ H rv Q q => by
  cases d with
  | tuple ds =>
    have e2 : bTs bs ds ρ = some ρ' := e
    obtain ⟨a, xs, rfl, hx, rr⟩ := rv.inv_tup
    exact ⟨a, xs, rfl, Rep.sqt hx, by rw [rr.length, bTs_length e2, hn], h ds ρ ρ' e2 xs σ H rr Q q⟩
  | _ => cases e
/-- an item comes, a new pair perhaps -/
def YD (K : PySem.W.Frag) (ds : List D) : Nat → Hp → V → Hp → Prop := fun i H x H' => (H' = H ∨ ∃ T o, H T = none ∧ H' = upd H T o) ∧ ∃ d, ds[i]? = some d ∧ Rep K H' x d
/-- what is walked; tk: the walk leans on tuples alone -/
def WkR (K : PySem.W.Frag) (B : Hp) (bx : Option Addr) (wi : TI) (ρ : Env) (β : Bx) (tk : Bool) (ds : List D) (β' : Bx) : Prop := ∀ σ H, RS K B bx ρ β σ H → ∀ R : It → Hp → Prop,
  (∀ (J : It) (H1 : Hp) (G : Hp → Prop), Kp bx H H1 → BoxIs bx H1 β' → (∀ H', Kp bx H1 H' → G H') → (tk = true → ∀ H', TK H1 H' → G H') → Walk J ds.length G (YD K ds) → R J H1) → wi σ H R
variable {ρ ρ' : Env} {β β' β1 β2 : Bx} {ta tb te : TE} {f1 f2 fr : Bool} {x y : Res} {ds es : List D}
theorem wk_tup (h : EvR K B bx te ρ β f1 (.d (.tuple ds)) β1) : WkR K B bx (iTup K te) ρ β true ds β1 := fun σ H S R q => h σ H S _ fun v H1 A k1 b1 r1 _ => by
  obtain ⟨a, xs, rfl, hx, rr⟩ := r1.1.inv_tup
  refine ⟨a, rfl, ⟨xs, Rep.sqt hx⟩, q _ H1 (fun H' => TK H1 H') k1 b1 (fun H' k => k.tk b1) (fun _ H' k => k) ?_⟩
  rw [← rr.length]
  refine walk_tup.mono (fun H' k => Rep.sqt (hx.imp (k _ _) id)) fun i H' x H'' hi k ⟨e1, e2⟩ => ?_
  subst e1
  obtain ⟨d, e3, e4⟩ := rr.get' e2
  exact ⟨.inl rfl, d, e3, e4.tk k⟩
theorem wk_list (h : EvR K B bx te ρ β f1 (.l ds) β1) : WkR K B bx (iList K te) ρ β false ds β1 := fun σ H S R q => h σ H S _ fun v H1 A k1 b1 r1 _ => by
  obtain ⟨a, xs, rfl, n, hx, rr, _⟩ := r1
  refine ⟨a, rfl, ⟨xs, .inl (.inl hx)⟩, q _ H1 (fun H' => Kp bx H1 H') k1 b1 (fun H' k => k) (fun e => by cases e) ?_⟩
  rw [← rr.length]
  refine walk_list.mono (fun H' k => .inl (.inl (k _ _ hx n))) fun i H' x H'' hi k ⟨e1, e2⟩ => ?_
  subst e1
  obtain ⟨d, e3, e4⟩ := rr.get' e2
  exact ⟨.inl rfl, d, e3, e4.tk (k.tk b1)⟩
theorem rgD_length (n : Int) : (rgD n).length = n.toNat := by unfold rgD; rw [List.length_map, List.length_range]
theorem rgD_get {n : Int} {i : Nat} (h : i < n.toNat) : (rgD n)[i]? = some (.int (i : Nat)) := by
  unfold rgD
  rw [List.getElem?_map, List.getElem?_range h]; rfl
theorem wk_range {n : Int} (h : EvR K B bx te ρ β f1 (.d (.int n)) β1) (h0 : -100000 ≤ n) (hn : n ≤ 100000) : WkR K B bx (iRng1 (tCons te tNil)) ρ β true (rgD n) β1 := fun σ H S R q => h σ H S _ fun v H1 A k1 b1 r1 _ => by
  refine ⟨n, by rw [r1.1.inv_int], by omega, by omega, q _ H1 (fun _ => True) k1 b1 (fun H' k => True.intro) (fun _ H' k => True.intro) ?_⟩
  rw [rgD_length]
  refine walk_range.mono (fun H' k => True.intro) fun i H' x H'' hi k ⟨e1, e2⟩ => ?_
  subst e1 e2
  refine ⟨.inl rfl, _, rgD_get hi, ?_⟩
  show Rep K H'' (V.int (0 + (i : Int))) _
  rw [Int.zero_add]
  exact .int _
/-- a pair of two data -/
def prD (x y : D) : D := .tuple [x, y]
theorem wk_zipT (ha : EvR K B bx ta ρ β f1 (.d (.tuple ds)) β1) (hb : EvR K B bx tb ρ β1 f2 (.d (.tuple es)) β2) : WkR K B bx (RZ.iZipA K (tCons ta (tCons tb tNil))) ρ β true (List.zipWith prD ds es) β2 := fun σ H S R q => ha σ H S _ fun v H1 A k1 b1 r1 _ => hb σ H1 (S.step k1 b1) _ fun w H2 A2 k2 b2 r2 _ => by
  obtain ⟨a, xs, rfl, hx, rr⟩ := (r1.kp b1 k2).1.inv_tup
  obtain ⟨b, ys, rfl, hy, rs⟩ := r2.1.inv_tup
  refine ⟨a, b, xs, ys, rfl, .inr ⟨Rep.sqt hx, Rep.sqt hy, q _ H2 (fun H' => TK H2 H') (k1.trans k2) b2 (fun H' k => k.tk b2) (fun _ H' k => k) ⟨fun i H' hi k => ?_, fun H' k => ?_, fun i H' v H'' hi k yl => ?_⟩⟩⟩
  · rw [List.length_zipWith, ← rr.length, ← rs.length] at hi
    exact ⟨xs, ys, xs[i]'(by omega), ys[i]'(by omega), Rep.sqt (hx.imp (k _ _) id), Rep.sqt (hy.imp (k _ _) id), by simp, by simp⟩
  · refine ⟨xs, ys, Rep.sqt (hx.imp (k _ _) id), Rep.sqt (hy.imp (k _ _) id), ?_⟩
    rw [List.length_zipWith, ← rr.length, ← rs.length]
    omega
  · obtain ⟨T, x, y, rfl, nT, rfl, f1, f2⟩ := yl
    have ex := f1 xs (Rep.sqt (hx.imp (k _ _) id))
    have ey := f2 ys (Rep.sqt (hy.imp (k _ _) id))
    obtain ⟨d, hd1, hd2⟩ := rr.get' ex
    obtain ⟨e, he1, he2⟩ := rs.get' ey
    have kn : TK H' (upd H' T (.tup [x, y])) := fun c zs h => by rw [upd_ne (ne_of_none h nT)]; exact h
    refine ⟨.inr ⟨T, _, nT, rfl⟩, prD d e, ?_, .tup (.inl upd_same) (.cons ((hd2.tk k).tk kn) (.cons ((he2.tk k).tk kn) .nil))⟩
    rw [List.getElem?_zipWith, hd1, he1]
theorem wk_zipL (ha : EvR K B bx ta ρ β f1 (.l ds) β1) (hb : EvR K B bx tb ρ β1 f2 (.l es) β2) : WkR K B bx (RZ.iZipA K (tCons ta (tCons tb tNil))) ρ β false (List.zipWith prD ds es) β2 := fun σ H S R q => ha σ H S _ fun v H1 A k1 b1 r1 _ => hb σ H1 (S.step k1 b1) _ fun w H2 A2 k2 b2 r2 _ => by
  obtain ⟨a, xs, rfl, n1, hx, rr, _⟩ := r1.kp b1 k2
  obtain ⟨b, ys, rfl, n2, hy, rs, _⟩ := r2
  refine ⟨a, b, xs, ys, rfl, .inl ⟨.inl (.inl hx), .inl (.inl hy), q _ H2 (fun H' => Kp bx H2 H') (k1.trans k2) b2 (fun H' k => k) (fun e => by cases e) ?_⟩⟩
  refine (walk_zip (n := (List.zipWith prD ds es).length) (xs := xs) (ys := ys) (by rw [List.length_zipWith, rr.length, rs.length])).mono (fun H' k => ⟨.inl (.inl (k _ _ hx n1)), .inl (.inl (k _ _ hy n2))⟩) fun i H' v H'' hi k yl => ?_
  obtain ⟨T, x, y, rfl, nT, rfl, ex, ey⟩ := yl
  obtain ⟨d, hd1, hd2⟩ := rr.get' ex
  obtain ⟨e, he1, he2⟩ := rs.get' ey
  have kn : TK H' (upd H' T (.tup [x, y])) := fun c zs h => by rw [upd_ne (ne_of_none h nT)]; exact h
  refine ⟨.inr ⟨T, _, nT, rfl⟩, prD d e, ?_, .tup (.inl upd_same) (.cons ((hd2.tk (k.tk b2)).tk kn) (.cons ((he2.tk (k.tk b2)).tk kn) .nil))⟩
  rw [List.getElem?_zipWith, hd1, he1]
def enD (ds : List D) : List D := List.zipWith prD (rgD ds.length) ds
theorem wk_enumL (ha : EvR K B bx ta ρ β f1 (.l ds) β1) : WkR K B bx (iEnum K (tCons ta tNil)) ρ β false (enD ds) β1 := fun σ H S R q => ha σ H S _ fun v H1 A k1 b1 r1 _ => by
  obtain ⟨a, xs, rfl, n1, hx, rr, _⟩ := r1
  have el : (enD ds).length = xs.length := by unfold enD; rw [List.length_zipWith, rgD_length, rr.length]; simp
  refine ⟨a, xs, rfl, .inl (.inl hx), q _ H1 (fun H' => Kp bx H1 H') k1 b1 (fun H' k => k) (fun e => by cases e) ?_⟩
  rw [el]
  refine walk_enum.mono (fun H' k => .inl (.inl (k _ _ hx n1))) fun i H' v H'' hi k yl => ?_
  obtain ⟨T, x, y, rfl, nT, rfl, ex, ey⟩ := yl
  cases ex
  obtain ⟨e, he1, he2⟩ := rr.get' ey
  have kn : TK H' (upd H' T (.tup [V.int (i : Nat), y])) := fun c zs h => by rw [upd_ne (ne_of_none h nT)]; exact h
  refine ⟨.inr ⟨T, _, nT, rfl⟩, prD (.int (i : Nat)) e, ?_, .tup (.inl upd_same) (.cons (.int _) (.cons ((he2.tk (k.tk b1)).tk kn) .nil))⟩
  unfold enD
  rw [List.getElem?_zipWith, he1, rgD_get (by rw [rr.length] at hi; simpa using hi)]
def strD (z : Str) : List D := z.cps.toList.map fun c => PyData.str ⟨#[c]⟩
theorem wk_str {z : Str} (ha : EvR K B bx ta ρ β f1 (.d (.str z)) β1) : WkR K B bx (iStr ta) ρ β true (strD z) β1 := fun σ H S R q => ha σ H S _ fun v H1 A k1 b1 r1 _ => by
  have el : (strD z).length = z.cps.size := by unfold strD; simp
  refine ⟨z, r1.1.inv_str, q _ H1 (fun _ => True) k1 b1 (fun H' k => True.intro) (fun _ H' k => True.intro) ?_⟩
  rw [el]
  refine walk_str.mono (fun H' k => True.intro) fun i H' v H'' hi k ⟨e1, ch, e2, e3⟩ => ?_
  subst e1 e3
  refine ⟨.inl rfl, _, ?_, .str _⟩
  unfold strD
  rw [List.getElem?_map, Array.getElem?_toList, e2]; rfl
def wipeR (ρ : Env) : List Nat → Env
  | [] => ρ
  | v :: vs => (wipeR ρ vs).set v none
theorem RS.none {σ : L2.St} {H : Hp} (S : RS K B bx ρ β σ H) (i : Nat) : RS K B bx (ρ.set i none) β (σ.set i none) H := by
  obtain ⟨kp, bb, bi, len, fa, h1, h2, h3⟩ := S
  refine ⟨kp, bb, bi, by rw [List.length_set, List.length_set]; exact len, fa, fun j r' e => ?_, h2, h3⟩
  by_cases hj : j = i
  · subst hj
    have hl : j < ρ.length := by
      have := (List.getElem?_eq_some_iff.mp e).1
      rw [List.length_set] at this; exact this
    rw [List.getElem?_set_self hl] at e
    cases e
  · rw [List.getElem?_set_ne (Ne.symm hj)] at e
    obtain ⟨w, e1, e2⟩ := h1 j r' e
    exact ⟨w, by rw [List.getElem?_set_ne (Ne.symm hj)]; exact e1, e2⟩
theorem RS.wipe {σ : L2.St} {H : Hp} (S : RS K B bx ρ β σ H) : ∀ vs : List Nat, RS K B bx (wipeR ρ vs) β (wipe σ vs) H
  | [] => S
  | v :: vs => (RS.wipe S vs).none v
theorem wipe_wipe {σ : L2.St} (vs : List Nat) : wipe (wipe σ vs) vs = wipe σ vs := by
  have : ∀ us : List Nat, (∀ i ∈ us, i ∈ vs) → wipe (wipe σ us) vs = wipe σ vs := by
    intro us
    induction us with
    | nil => intro _; rfl
    | cons u us ih =>
      intro h
      show wipe ((wipe σ us).set u none) vs = _
      rw [wipe_set (h u (by simp)), ih fun i hi => h i (by simp [hi])]
  exact this vs fun _ h => h
/-- a comprehension, the box carried along: s i what the turn i starts at -/
theorem ev_lcG {wi : TI} {g : TG} {tt : TT} {te : TE} {vs sl : List Nat} {bnd : Bnd} {tk : Bool} {n : Nat} {ds : List D} (s : Nat → Bx) (p : Nat → Bool) (f : Nat → D) (hw : WkR K B bx wi ρ β tk ds (s 0)) (hg : TgR K B bx g bnd sl) (hsl : ∀ i ∈ sl, i ∈ vs) (hl : ds.length ≤ 100000)
    (he : ∀ i d, ds[i]? = some d → ∃ ρ', bnd d (wipeR ρ vs) = some ρ' ∧ ∃ βm, EvT K B bx tt ρ' (s i) (p i) βm ∧ (p i = true → EvR K B bx te ρ' βm true (.d (f i)) (s (i + 1))) ∧ (p i = false → βm = s (i + 1))) :
    EvR K B bx (tLc wi g tt te vs) ρ β true (.l (((List.range ds.length).filter p).map f)) (s ds.length) := fun σ H S Q q => hw σ H S _ fun J H1 G k1 b1 hG _ W D hD => by
  refine lc_it W (fun i H' => ∃ acc, H' D = some (.lst acc) ∧ Reps K H' acc (((List.range i).filter p).map f) ∧ Kp bx H1 H' ∧ BoxIs bx H' (s i)) ⟨[], upd_same, .nil, Kp.new hD, b1.new hD⟩ (fun i H' _ ⟨_, _, _, k, _⟩ => hG H' k) (fun i x H2 H3 hi hP y => ?_) (fun H' hP => ?_)
  · obtain ⟨acc, e1, e2, k2, b2⟩ := hP
    obtain ⟨hy, d, hd, hr⟩ := y
    have nD : bx ≠ some D := b1.ne hD
    have kb : Kp bx H2 H3 ∧ BoxIs bx H3 (s i) := by
      rcases hy with rfl | ⟨T, o, nT, rfl⟩
      · exact ⟨Kp.refl, b2⟩
      · exact ⟨Kp.new nT, b2.new nT⟩
    obtain ⟨ρ', hρ, βm, ht, hel, hno⟩ := he i d hd
    have S3 : RS K B bx (wipeR ρ vs) (s i) (wipe σ vs) H3 := (S.wipe vs).step ((k1.trans k2).trans kb.1) kb.2
    refine hg d _ ρ' hρ x _ H3 hr _ fun σ' hS4 hwp => ⟨by rw [hwp vs hsl, wipe_wipe], ?_⟩
    have S4 := hS4 H3 (s i) (fun _ _ h => h) S3
    refine ht σ' H3 S4 _ fun H4 k4 b4 => ?_
    have rstep : (List.range (i + 1)).filter p = (List.range i).filter p ++ (if p i = true then [i] else []) := by
      rw [List.range_succ, List.filter_append]
      by_cases hp : p i = true
      · rw [if_pos hp, List.filter_cons, if_pos hp]; rfl
      · rw [if_neg hp, List.filter_cons, if_neg hp]; rfl
    cases hp : p i with
    | true =>
      refine iteT (hel hp σ' H4 (S4.step k4 b4) _ fun v H5 A k5 b5 r5 _ => ?_)
      have k25 : Kp bx H2 H5 := (kb.1.trans k4).trans k5
      refine ⟨acc, k25 _ _ e1 nD, ?_, acc ++ [v], upd_same, ?_, ?_, ?_⟩
      · rw [e2.length, List.length_map]
        refine Nat.lt_of_le_of_lt (Nat.le_trans (List.length_filter_le _ _) ?_) (show 100000 < sizeLine by decide)
        rw [List.length_range]; omega
      · rw [rstep, if_pos hp, List.map_append]
        have tku : TK H5 (upd H5 D (.lst (acc ++ [v]))) := fun c zs h => by
          rw [upd_ne (fun e => by rw [e, k25 _ _ e1 nD] at h; cases h)]; exact h
        exact ((e2.tk (k25.tk b2)).tk tku).append (.cons (r5.1.tk tku) .nil)
      · intro c o h n
        rw [upd_ne (ne_of_none h hD)]
        exact (k2.trans k25) c o h n
      · intro b e
        rw [upd_ne (fun h => nD (by rw [← h]; exact e))]
        exact b5 b e
    | false =>
      have e0 := hno hp
      subst e0
      refine iteF ?_
      have k24 : Kp bx H2 H4 := kb.1.trans k4
      refine ⟨acc, k24 _ _ e1 nD, ?_, k2.trans k24, b4⟩
      rw [rstep, if_neg (by rw [hp]; exact Bool.false_ne_true), List.append_nil]
      exact e2.tk (k24.tk b2)
  · obtain ⟨acc, e1, e2, k2, b2⟩ := hP
    exact q _ H' [D] (k1.trans k2) b2 ⟨D, acc, rfl, b1.ne hD, e1, e2, rfl⟩ fun _ r hr => by
      simp at hr; subst hr
      exact k1.fresh b1 hD
end
end K20
set_option maxHeartbeats 4000000
namespace K20
open PySem PySem.Spec PyProof.Rows L2
section
variable {K : PySem.W.Frag} {B : Hp} {bx : Option Addr} {ρ ρ' : Env} {β β' β1 β2 : Bx} {ta tb te tv tk' : TE} {tt : TT} {f1 f2 fr : Bool} {x y : Res} {wi wi1 : TI} {g g1 : TG} {bnd bnd1 : Bnd} {sl sl1 vs : List Nat} {tk tk1 : Bool}
theorem pick_map {α γ : Type} (p : α → Bool) (f : α → γ) (z : γ) : ∀ xs : List α, ((List.range xs.length).filter fun i => (xs[i]?.map p).getD false).map (fun i => (xs[i]?.map f).getD z) = (xs.filter p).map f
  | [] => rfl
  | x :: xs => by
    have ih := pick_map p f z xs
    rw [List.length_cons, List.range_succ_eq_map, List.filter_cons, List.filter_map]
    have e1 : ((fun i => ((x :: xs)[i]?.map p).getD false) ∘ Nat.succ) = fun i => (xs[i]?.map p).getD false := by funext i; simp
    have e2 : ∀ l : List Nat, (l.map Nat.succ).map (fun i => ((x :: xs)[i]?.map f).getD z) = l.map fun i => (xs[i]?.map f).getD z := fun l => by rw [List.map_map]; congr 1
    rw [e1]
    by_cases hp : p x = true
    · simp only [List.getElem?_cons_zero, Option.map_some, Option.getD_some, hp, if_true]
      rw [List.map_cons, e2, ih, List.filter_cons, if_pos hp]
      rfl
    · simp only [List.getElem?_cons_zero, Option.map_some, Option.getD_some, hp]
      rw [List.filter_cons, if_neg hp]
      simp only [if_false, Bool.false_eq_true]
      rw [e2, ih]
theorem ev_lcIf {α : Type} {xs : List α} {enc f : α → D} (p : α → Bool) (hw : WkR K B bx wi ρ β tk (xs.map enc) β1) (hg : TgR K B bx g bnd sl) (hsl : ∀ i ∈ sl, i ∈ vs := by decide) (hl : xs.length ≤ 100000)
    (he : ∀ y ∈ xs, ∃ ρ', bnd (enc y) (wipeR ρ vs) = some ρ' ∧ EvT K B bx tt ρ' β1 (p y) β1 ∧ (p y = true → EvR K B bx te ρ' β1 true (.d (f y)) β1)) : EvR K B bx (tLc wi g tt te vs) ρ β true (.l ((xs.filter p).map f)) β1 := by
  have h := ev_lcG (K := K) (B := B) (bx := bx) (wi := wi) (g := g) (tt := tt) (te := te) (vs := vs) (sl := sl) (bnd := bnd) (tk := tk) (ρ := ρ) (β := β) (n := 0) (ds := xs.map enc) (fun _ => β1) (fun i => (xs[i]?.map p).getD false) (fun i => (xs[i]?.map f).getD .none) hw hg hsl (by rw [List.length_map]; exact hl)
    (fun i d hd => by
      rw [List.getElem?_map] at hd
      cases hx : xs[i]? with
      | none => rw [hx] at hd; cases hd
      | some y =>
        rw [hx] at hd
        cases hd
        obtain ⟨ρ', h1, h2, h3⟩ := he y (List.mem_of_getElem? hx)
        exact ⟨ρ', h1, β1, h2, fun e => h3 e, fun _ => rfl⟩)
  rw [List.length_map, pick_map] at h
  exact h
theorem ev_lc {α : Type} {xs : List α} {enc f : α → D} (hw : WkR K B bx wi ρ β tk (xs.map enc) β1) (hg : TgR K B bx g bnd sl) (hsl : ∀ i ∈ sl, i ∈ vs := by decide) (hl : xs.length ≤ 100000)
    (he : ∀ y ∈ xs, ∃ ρ', bnd (enc y) (wipeR ρ vs) = some ρ' ∧ EvR K B bx te ρ' β1 true (.d (f y)) β1) : EvR K B bx (tLc wi g tYes te vs) ρ β true (.l (xs.map f)) β1 := by
  have h := ev_lcIf (K := K) (B := B) (bx := bx) (tt := tYes) (te := te) (f := f) (enc := enc) (fun _ => true) hw hg hsl hl fun y hy => by
    obtain ⟨ρ', h1, h2⟩ := he y hy
    exact ⟨ρ', h1, fun σ H S Q q => q H Kp.refl S.bi, fun _ => h2⟩
  rw [List.filter_eq_self.mpr (fun _ _ => rfl)] at h
  exact h
theorem tYes_ite {σ : L2.St} {H : Hp} {P R : Hp → Prop} (h : P H) : tYes σ H (fun b H' => if b = true then P H' else R H') := by
  show (if true = true then P H else R H)
  rw [if_pos rfl]
  exact h
/-- two clauses, pure: a walk in a walk -/
theorem ev_lc2 {α γ : Type} {xs : List α} {enc : α → D} {inn : α → List γ} {enc1 f : γ → D} {vs1 : List Nat} (hw : WkR K B bx wi ρ β tk (xs.map enc) β1) (hg : TgR K B bx g bnd sl) (hsl : ∀ i ∈ sl, i ∈ vs := by decide) (hl : xs.length ≤ 10000)
    (hg1 : TgR K B bx g1 bnd1 sl1) (hsl1 : ∀ i ∈ sl1, i ∈ vs1 := by decide) (hi : ∀ y ∈ xs, (inn y).length ≤ 1000) (hv : ∀ i ∈ sl1, i ∈ vs := by decide)
    (he : ∀ y ∈ xs, ∃ ρ', bnd (enc y) (wipeR ρ vs) = some ρ' ∧ WkR K B bx wi1 ρ' β1 true ((inn y).map enc1) β1 ∧ ∀ z ∈ inn y, ∃ ρ2, bnd1 (enc1 z) (wipeR ρ' vs1) = some ρ2 ∧ EvR K B bx te ρ2 β1 true (.d (f z)) β1) :
    EvR K B bx (tLc2 wi g tYes wi1 g1 tYes te vs vs1) ρ β true (.l ((xs.flatMap inn).map f)) β1 := fun σ H S Q q => hw σ H S _ fun J H1 G k1 b1 hG _ W D hD => by
  have nD : bx ≠ some D := b1.ne hD
  have szb : ∀ i, ((xs.take i).flatMap inn).length ≤ i * 1000 := fun i => by
    induction i with
    | zero => simp
    | succ i ih =>
      rw [List.take_add_one, List.flatMap_append, List.length_append]
      cases e : xs[i]? with
      | none =>
        rw [show (none : Option α).toList.flatMap inn = [] from rfl, List.length_nil]
        omega
      | some y =>
        rw [show (some y).toList.flatMap inn = inn y from List.append_nil _]
        have := hi y (List.mem_of_getElem? e)
        omega
  -- one outer turn's pair
  let PV : List γ → Hp → Prop := fun l H' => ∃ acc, H' D = some (.lst acc) ∧ Reps K H' acc (l.map f) ∧ Kp bx H1 H' ∧ BoxIs bx H' β1
  have hPV : ∀ l H2 H3, PV l H2 → (H3 = H2 ∨ ∃ T o, H2 T = none ∧ H3 = upd H2 T o) → PV l H3 := fun l H2 H3 ⟨acc, e1, e2, k2, b2⟩ hy => by
    rcases hy with rfl | ⟨T, o, nT, rfl⟩
    · exact ⟨acc, e1, e2, k2, b2⟩
    · have kn : Kp bx H2 (upd H2 T o) := Kp.new nT
      exact ⟨acc, kn _ _ e1 nD, e2.tk (kn.tk b2), k2.trans kn, b2.new nT⟩
  have kPV : ∀ l H2 H3, PV l H2 → Kp bx H2 H3 → BoxIs bx H3 β1 → PV l H3 := fun l H2 H3 ⟨acc, e1, e2, k2, b2⟩ k b => ⟨acc, k _ _ e1 nD, e2.tk (k.tk b2), k2.trans k, b⟩
  have addPV : ∀ l z H2 v, PV l H2 → l.length < 100000 * 1000 → l.length < sizeLine → Rep K H2 v (f z) → ∃ acc, H2 D = some (.lst acc) ∧ acc.length < sizeLine ∧ PV (l ++ [z]) (upd H2 D (.lst (acc ++ [v]))) := fun l z H2 v ⟨acc, e1, e2, k2, b2⟩ _ hz rv => by
    have tku : TK H2 (upd H2 D (.lst (acc ++ [v]))) := fun c zs h => by
      rw [upd_ne (fun e => by rw [e, e1] at h; cases h)]; exact h
    refine ⟨acc, e1, by rw [e2.length, List.length_map]; exact hz, acc ++ [v], upd_same, ?_, fun c o h n => ?_, fun b e => ?_⟩
    · rw [List.map_append]
      exact (e2.tk tku).append (.cons (rv.tk tku) .nil)
    · rw [upd_ne (ne_of_none h hD)]; exact k2 c o h n
    · rw [upd_ne (fun h => nD (by rw [← h]; exact e))]; exact b2 b e
  have sz : (100000 : Nat) * 100 < sizeLine := by decide
  refine ⟨fun i m H' => m = xs.length - i ∧ i ≤ xs.length ∧ PV ((xs.take i).flatMap inn) H', ⟨xs.length, by simp, Nat.zero_le _, [], upd_same, .nil, Kp.new hD, b1.new hD⟩, ?_⟩
  rintro i m H2 ⟨rfl, hi', p⟩
  have hGH := hG H2 p.choose_spec.2.2.1
  have hlen : (xs.map enc).length = xs.length := List.length_map _
  by_cases hlt : i < xs.length
  · refine .inr ⟨W.goes i H2 (by rw [hlen]; exact hlt) hGH, PV ((xs.take (i + 1)).flatMap inn), fun H' p' => ⟨xs.length - (i + 1), by omega, rfl, hlt, p'⟩, fun x H3 yl => ?_⟩
    obtain ⟨hy, d, hd, hr⟩ := W.yields i H2 x H3 (by rw [hlen]; exact hlt) hGH yl
    have p3 := hPV _ _ _ p hy
    rw [List.getElem?_map, List.getElem?_eq_getElem hlt] at hd
    cases hd
    have hmem : xs[i] ∈ xs := List.getElem_mem hlt
    obtain ⟨ρ1, hρ1, hw1, hel⟩ := he xs[i] hmem
    obtain ⟨acc3, _, _, k3, b3⟩ := id p3
    have S3 : RS K B bx (wipeR ρ vs) β1 (wipe σ vs) H3 := (S.wipe vs).step (k1.trans k3) b3
    refine hg _ _ ρ1 hρ1 x _ H3 hr _ fun σ2 hS4 hwp => ⟨by rw [hwp vs hsl, wipe_wipe], ?_⟩
    refine tYes_ite ?_
    have S4 := hS4 H3 β1 (fun _ _ h => h) S3
    refine hw1 σ2 H3 S4 _ fun J1 H4 G1 k4 b4 _ hG1 W1 => ?_
    have tk1' : (xs.take (i + 1)).flatMap inn = (xs.take i).flatMap inn ++ inn xs[i] := by
      rw [List.take_add_one, List.getElem?_eq_getElem hlt, List.flatMap_append]; simp
    refine ⟨fun j k H' => k = (inn xs[i]).length - j ∧ j ≤ (inn xs[i]).length ∧ PV ((xs.take i).flatMap inn ++ (inn xs[i]).take j) H' ∧ TK H4 H', ⟨(inn xs[i]).length, by simp, Nat.zero_le _, by rw [List.take_zero, List.append_nil]; exact kPV _ _ _ p3 k4 b4, fun _ _ h => h⟩, ?_⟩
    rintro j k H5 ⟨rfl, hj, p5, k5⟩
    have hG5 := hG1 rfl H5 k5
    have k35 : Kp bx H1 H5 := p5.choose_spec.2.2.1
    have hlen1 : ((inn xs[i]).map enc1).length = (inn xs[i]).length := List.length_map _
    by_cases hjl : j < (inn xs[i]).length
    · refine .inr ⟨W1.goes j H5 (by rw [hlen1]; exact hjl) hG5, fun H' => PV ((xs.take i).flatMap inn ++ (inn xs[i]).take (j + 1)) H' ∧ TK H4 H', fun H' p' => ⟨(inn xs[i]).length - (j + 1), by omega, rfl, hjl, p'.1, p'.2⟩, fun x1 H6 yl1 => ?_⟩
      obtain ⟨hy1, d1, hd1, hr1⟩ := W1.yields j H5 x1 H6 (by rw [hlen1]; exact hjl) hG5 yl1
      rw [List.getElem?_map, List.getElem?_eq_getElem hjl] at hd1
      cases hd1
      have p6 := hPV _ _ _ p5 hy1
      have k56 : Kp bx H5 H6 := by
        rcases hy1 with rfl | ⟨T, o, nT, rfl⟩
        · exact Kp.refl
        · exact Kp.new nT
      obtain ⟨acc6, _, _, k6, b6⟩ := id p6
      obtain ⟨ρ2, hρ2, hte⟩ := hel _ (List.getElem_mem hjl)
      have S6 : RS K B bx (wipeR ρ1 vs1) β1 (wipe σ2 vs1) H6 := (hS4 H6 β1 (fun a zs h => k56.tk p5.choose_spec.2.2.2 a zs (k5 a zs ((k4.tk b3) a zs h))) ((S.wipe vs).step (k1.trans (k35.trans k56)) b6)).wipe vs1
      refine hg1 _ _ ρ2 hρ2 x1 _ H6 hr1 _ fun σ3 hS7 hwp1 => ⟨by rw [hwp1 vs1 hsl1, wipe_wipe], ?_⟩
      refine tYes_ite ?_
      have S7 := hS7 H6 β1 (fun _ _ h => h) S6
      refine hte σ3 H6 S7 _ fun v H7 A k7 b7 r7 _ => ?_
      have lb : ((xs.take i).flatMap inn ++ (inn xs[i]).take j).length ≤ 100000 * 100 := by
        rw [List.length_append]
        have h1 := szb i
        have h2 := hi _ hmem
        have h3 : ((inn xs[i]).take j).length ≤ (inn xs[i]).length := by rw [List.length_take]; omega
        have h4 : i * 1000 ≤ 9999 * 1000 := Nat.mul_le_mul_right _ (by omega)
        omega
      obtain ⟨acc, e1, e2, e3⟩ := addPV _ ((inn xs[i])[j]) H7 v (kPV _ _ _ p6 k7 b7) (by omega) (Nat.lt_of_le_of_lt lb sz) r7.1
      refine ⟨acc, e1, e2, ?_, fun c zs h => ?_⟩
      · rw [List.take_add_one, List.getElem?_eq_getElem hjl, ← List.append_assoc]
        exact e3
      · have hc : H7 c = some (.tup zs) := k7.tk b6 c zs (k56.tk p5.choose_spec.2.2.2 c zs (k5 c zs h))
        have ncD : c ≠ D := fun e => by
          rw [e, e1] at hc; cases hc
        rw [upd_ne ncD]; exact hc
    · have e : j = (inn xs[i]).length := by omega
      subst e
      refine .inl ⟨by rw [← hlen1]; exact W1.stops H5 hG5, ?_⟩
      rw [tk1']
      rw [List.take_length] at p5
      exact p5
  · have e : i = List.length xs := by omega
    subst e
    refine .inl ⟨by rw [← hlen]; exact W.stops H2 hGH, ?_⟩
    rw [List.take_length] at p
    obtain ⟨acc, e1, e2, k2, b2⟩ := p
    exact q _ H2 [D] (k1.trans k2) b2 ⟨D, acc, rfl, nD, e1, e2, rfl⟩ fun _ r hr => by
      simp at hr; subst hr
      exact k1.fresh b1 hD
end
end K20
set_option maxHeartbeats 4000000
namespace K20
open PySem PySem.Spec PyProof.Rows L2
section
variable {K : PySem.W.Frag} {B : Hp} {bx : Option Addr} {ρ ρ' ρ1 : Env} {β β' β1 β2 β3 : Bx} {ta tb te tv td : TE} {tt : TT} {f1 f2 fr : Bool} {r r1 r2 r3 x y : Res} {wi wi1 : TI} {g g1 : TG} {bnd bnd1 : Bnd} {sl sl1 vs : List Nat} {tk tk1 : Bool}
theorem putK_kvOf {kvs : List (Int × Int)} {k v : Int} (h : k ∉ kvs.map (·.1)) : putK (kvs.map kvOf) (Sum.inl k) (V.int v) = (kvs ++ [(k, v)]).map kvOf := by
  unfold putK
  rw [if_neg, List.map_append]
  · rfl
  · rw [List.any_eq_true]
    rintro ⟨q, hq, e⟩
    obtain ⟨p, hp, rfl⟩ := List.mem_map.1 hq
    have e2 := of_decide_eq_true e
    have e3 : p.1 = k := Sum.inl.inj e2
    exact h (List.mem_map.mpr ⟨p, hp, e3⟩)
/-- {k: v for ..}, the keys apart -/
theorem ev_dc {α : Type} {xs : List α} {enc : α → D} {fk fv : α → Int} (hw : WkR K B bx wi ρ β tk (xs.map enc) β1) (hg : TgR K B bx g bnd sl) (nd : (xs.map fk).Nodup) (hsl : ∀ i ∈ sl, i ∈ vs := by decide) (hl : xs.length ≤ 100000)
    (he : ∀ y ∈ xs, ∃ ρ', bnd (enc y) (wipeR ρ vs) = some ρ' ∧ EvR K B bx ta ρ' β1 true (.d (.int (fk y))) β1 ∧ EvR K B bx tb ρ' β1 true (.d (.int (fv y))) β1) : EvR K B bx (tDc wi g tYes ta tb vs) ρ β true (.m (xs.map fun y => (fk y, fv y))) β1 := fun σ H S Q q => hw σ H S _ fun J H1 G k1 b1 hG _ W D hD => by
  have nD : bx ≠ some D := b1.ne hD
  have hlen : (xs.map enc).length = xs.length := List.length_map _
  refine ⟨fun i m H' => m = xs.length - i ∧ i ≤ xs.length ∧ H' D = some (.dK (((xs.take i).map fun y => (fk y, fv y)).map kvOf)) ∧ Kp bx H1 H' ∧ BoxIs bx H' β1, ⟨xs.length, by simp, Nat.zero_le _, upd_same, Kp.new hD, b1.new hD⟩, ?_⟩
  rintro i m H2 ⟨rfl, hi, e2, k2, b2⟩
  by_cases hlt : i < xs.length
  · refine .inr ⟨W.goes i H2 (by rw [hlen]; exact hlt) (hG H2 k2), fun H' => H' D = some (.dK (((xs.take (i + 1)).map fun y => (fk y, fv y)).map kvOf)) ∧ Kp bx H1 H' ∧ BoxIs bx H' β1, fun H' p' => ⟨xs.length - (i + 1), by omega, rfl, hlt, p'⟩, fun x H3 yl => ?_⟩
    obtain ⟨hy, d, hd, hr⟩ := W.yields i H2 x H3 (by rw [hlen]; exact hlt) (hG H2 k2) yl
    rw [List.getElem?_map, List.getElem?_eq_getElem hlt] at hd
    cases hd
    have kb : Kp bx H2 H3 ∧ BoxIs bx H3 β1 := by
      rcases hy with rfl | ⟨T, o, nT, rfl⟩
      · exact ⟨Kp.refl, b2⟩
      · exact ⟨Kp.new nT, b2.new nT⟩
    obtain ⟨ρ1, hρ1, hk, hv⟩ := he xs[i] (List.getElem_mem hlt)
    have S3 : RS K B bx (wipeR ρ vs) β1 (wipe σ vs) H3 := (S.wipe vs).step ((k1.trans k2).trans kb.1) kb.2
    refine hg _ _ ρ1 hρ1 x _ H3 hr _ fun σ2 hS4 hwp => ⟨by rw [hwp vs hsl, wipe_wipe], ?_⟩
    have S4 := hS4 H3 β1 (fun _ _ h => h) S3
    refine tYes_ite ?_
    refine hk σ2 H3 S4 _ fun kv H4 A4 k4 b4 r4 _ => hv σ2 H4 (S4.step k4 b4) _ fun vv H5 A5 k5 b5 r5 _ => ?_
    have k35 : Kp bx H2 H5 := (kb.1.trans k4).trans k5
    have eD := k35 _ _ e2 nD
    refine ⟨_, Sum.inl (fk xs[i]), r4.1.inv_int, eD, ?_, ?_, fun c o h n => ?_, fun b e => ?_⟩
    · rw [List.length_map, List.length_map, List.length_take]
      exact Nat.lt_of_le_of_lt (by omega : min i xs.length ≤ 100000) (by decide)
    · rw [upd_same, r5.1.inv_int, putK_kvOf]
      · rw [List.take_add_one, List.getElem?_eq_getElem hlt, List.map_append, List.map_append, List.map_append]; rfl
      · rw [List.map_map]
        intro hm
        obtain ⟨y, hy, e⟩ := List.mem_map.mp hm
        obtain ⟨j, hj, e3⟩ := List.mem_iff_getElem.mp hy
        rw [List.length_take] at hj
        rw [List.getElem_take] at e3
        have : (xs.map fk)[j]'(by rw [List.length_map]; omega) = (xs.map fk)[i]'(by rw [List.length_map]; exact hlt) := by
          rw [List.getElem_map, List.getElem_map, e3]; exact e
        have := (List.getElem_inj nd).mp this
        omega
    · rw [upd_ne (ne_of_none h hD)]; exact (k2.trans k35) c o h n
    · rw [upd_ne (fun h => nD (by rw [← h]; exact e))]; exact b5 b e
  · have e : i = List.length xs := by omega
    subst e
    refine .inl ⟨by rw [← hlen]; exact W.stops H2 (hG H2 k2), ?_⟩
    rw [List.take_length] at e2
    exact q _ H2 [D] (k1.trans k2) b2 ⟨D, rfl, nD, e2, rfl⟩ fun _ r hr => by
      simp at hr; subst hr
      exact k1.fresh b1 hD
def GoR (K : PySem.W.Frag) (B : Hp) (bx : Option Addr) (ts : TS) (ρ : Env) (β : Bx) (N : Env → Bx → Prop) (R : Res → Bx → Prop) : Prop := ∀ σ H (D : Ends), RS K B bx ρ β σ H →
  (∀ ρ' β' σ' H', N ρ' β' → TK H H' → RS K B bx ρ' β' σ' H' → D.nx σ' H') → (∀ r β' v H' A, R r β' → Kp bx B H' → BoxIs bx H' β' → RV K bx H' v r A → (∀ p ∈ A, B p = Option.none) → D.rt v H') → ts D σ H
variable {N N1 : Env → Bx → Prop} {R : Res → Bx → Prop} {ts us : TS}
theorem go_next (h : N ρ β) : GoR K B bx tNext ρ β N R := fun σ H D S n _ => n ρ β σ H h (fun _ _ h => h) S
theorem go_never (h : False) : GoR K B bx tNever ρ β N R := h.elim
theorem go_mono (h : GoR K B bx ts ρ β N1 R) (hn : ∀ ρ' β', N1 ρ' β' → N ρ' β') : GoR K B bx ts ρ β N R := fun σ H D S n rt => h σ H D S (fun ρ' β' σ' H' h1 => n ρ' β' σ' H' (hn _ _ h1)) rt
theorem go_seq (h : GoR K B bx ts ρ β N1 R) (h2 : ∀ ρ' β', N1 ρ' β' → GoR K B bx us ρ' β' N R) : GoR K B bx (tSeq ts us) ρ β N R := fun σ H D S n rt =>
  h σ H { D with nx := us D } S (fun ρ' β' σ' H' h1 k S' => h2 ρ' β' h1 σ' H' D S' (fun ρ2 β2 σ2 H2 h3 k2 S2 => n ρ2 β2 σ2 H2 h3 (fun a xs e => k2 a xs (k a xs e)) S2) rt) rt
theorem go_seq1 (h : GoR K B bx ts ρ β (fun ρ' β' => ρ' = ρ1 ∧ β' = β1) R) (h2 : GoR K B bx us ρ1 β1 N R) : GoR K B bx (tSeq ts us) ρ β N R := go_seq h fun _ _ ⟨e1, e2⟩ => by rw [e1, e2]; exact h2
theorem go_asg {i : Nat} (h : EvR K B bx te ρ β true r β1) (hn : N (ρ.set i (some r)) β1) : GoR K B bx (tAsg te (gName i)) ρ β N R := fun σ H D S n rt =>
  h σ H S _ fun v H1 A k1 b1 rv f => n _ β1 _ H1 hn (k1.tk S.bi) (S.put i k1 b1 rv (f rfl))
theorem go_asgT {d : D} (h : EvR K B bx te ρ β fr (.d d) β1) (hg : TgR K B bx g bnd sl) (e : bnd d ρ = some ρ') (hn : N ρ' β1) : GoR K B bx (tAsg te g) ρ β N R := fun σ H D S n rt =>
  h σ H S _ fun v H1 A k1 b1 rv f => hg _ _ ρ' e v σ H1 rv.1 _ fun σ' hS _ => n ρ' β1 σ' H1 hn (k1.tk S.bi) (hS H1 β1 (fun _ _ h => h) (S.step k1 b1))
theorem go_drop (h : EvR K B bx te ρ β fr r β1) (hn : N ρ β1) : GoR K B bx (tDrop te) ρ β N R := fun σ H D S n rt =>
  h σ H S _ fun v H1 A k1 b1 rv f => n ρ β1 σ H1 hn (k1.tk S.bi) (S.step k1 b1)
theorem go_ret (h : EvR K B bx te ρ β true r β1) (hr : R r β1) : GoR K B bx (tRet te) ρ β N R := fun σ H D S n rt =>
  h σ H S _ fun v H1 A k1 b1 rv f => rt r β1 v H1 A hr (S.kp.trans k1) b1 rv fun p hp => S.freshB (f rfl p hp)
/-- an own variable handed back -/
theorem go_retV {i : Nat} (h : ρ[i]? = some (some r)) (hr : R r β) : GoR K B bx (tRet (tVar i)) ρ β N R := fun σ H D S n rt => by
  obtain ⟨fa, h1, h2, _⟩ := S.sl
  obtain ⟨v, e1, e2⟩ := h1 i r h
  exact ⟨v, e1, rt r β v H _ hr S.kp S.bi e2 (h2 i)⟩
theorem go_if {c : Bool} (h : EvT K B bx tt ρ β c β1) (h1 : c = true → GoR K B bx ts ρ β1 N R) (h2 : c = false → GoR K B bx us ρ β1 N R) : GoR K B bx (tIfS tt ts us) ρ β N R := fun σ H D S n rt =>
  h σ H S _ fun H1 k1 b1 => by
    cases c with
    | true => exact h1 rfl σ H1 D (S.step k1 b1) (fun ρ' β' σ' H' hn k S' => n ρ' β' σ' H' hn (fun a xs e => k a xs (k1.tk S.bi a xs e)) S') rt
    | false => exact h2 rfl σ H1 D (S.step k1 b1) (fun ρ' β' σ' H' hn k S' => n ρ' β' σ' H' hn (fun a xs e => k a xs (k1.tk S.bi a xs e)) S') rt
/-- if c: ..return.. ; rest -/
theorem go_ifr {c : Bool} (h : EvT K B bx tt ρ β c β1) (h1 : c = true → GoR K B bx ts ρ β1 (fun _ _ => False) R) (h2 : c = false → GoR K B bx us ρ β1 N R) : GoR K B bx (tSeq (tIfS tt ts tNext) us) ρ β N R :=
  go_seq (N1 := fun ρ' β' => c = false ∧ ρ' = ρ ∧ β' = β1) (go_if h (fun e => go_mono (h1 e) fun _ _ h => h.elim) fun e => go_next ⟨e, rfl, rfl⟩) fun ρ' β' ⟨e, e1, e2⟩ => by rw [e1, e2]; exact h2 e
theorem go_par {i j : Nat} (h : EvR K B bx ta ρ β true r1 β1) (h2 : EvR K B bx tb ρ β1 true r2 β2) (hn : N ((ρ.set i (some r1)).set j (some r2)) β2) : GoR K B bx (tPar i j (tCons ta (tCons tb tNil))) ρ β N R := fun σ H D S n rt =>
  h σ H S _ fun v H1 A k1 b1 rv f => h2 σ H1 (S.step k1 b1) _ fun w H2 A2 k2 b2 rw_ f2 => ⟨v, w, rfl, n _ β2 _ H2 hn ((k1.trans k2).tk S.bi) ((S.put i k1 b1 rv (f rfl)).put j k2 b2 rw_ (f2 rfl))⟩
theorem go_par3 {i j l : Nat} (h : EvR K B bx ta ρ β true r1 β1) (h2 : EvR K B bx tb ρ β1 true r2 β2) (h3 : EvR K B bx td ρ β2 true r3 β3) (hn : N (((ρ.set i (some r1)).set j (some r2)).set l (some r3)) β3) : GoR K B bx (tPar3 i j l (tCons ta (tCons tb (tCons td tNil)))) ρ β N R := fun σ H D S n rt =>
  h σ H S _ fun v H1 A k1 b1 rv f => h2 σ H1 (S.step k1 b1) _ fun w H2 A2 k2 b2 rw_ f2 => h3 σ H2 ((S.step k1 b1).step k2 b2) _ fun z H3 A3 k3 b3 rz f3 =>
    ⟨v, w, z, rfl, n _ β3 _ H3 hn (((k1.trans k2).trans k3).tk S.bi) (((S.put i k1 b1 rv (f rfl)).put j k2 b2 rw_ (f2 rfl)).put l k3 b3 rz (f3 rfl))⟩
/-- for over tuples, ranges, texts: Inv by the turn -/
theorem go_for {ds : List D} (Inv : Nat → Env → Bx → Prop) (hw : WkR K B bx wi ρ β true ds β1) (hg : TgR K B bx g bnd sl) (h0 : Inv 0 ρ β1)
    (hs : ∀ i d, ds[i]? = some d → ∀ ρi βi, Inv i ρi βi → ∃ ρ', bnd d ρi = some ρ' ∧ GoR K B bx ts ρ' βi (Inv (i + 1)) R) (hn : ∀ ρ' β', Inv ds.length ρ' β' → N ρ' β') : GoR K B bx (tFor wi g ts) ρ β N R := fun σ H D S n rt =>
  hw σ H S _ fun J H1 G k1 b1 _ hG W => by
    refine for_it W (fun i σ' H' => ∃ ρi βi, Inv i ρi βi ∧ TK H1 H' ∧ RS K B bx ρi βi σ' H') ⟨ρ, β1, h0, fun _ _ h => h, S.step k1 b1⟩ (fun i σ' H' _ ⟨_, _, _, k, _⟩ => hG rfl H' k) (fun i x σ' H2 H3 hi ⟨ρi, βi, hI, k, Si⟩ y => ?_) fun σ' H' ⟨ρi, βi, hI, k, Si⟩ => n ρi βi σ' H' (hn _ _ hI) (fun a xs e => k a xs (k1.tk S.bi a xs e)) Si
    obtain ⟨hy, d, hd, hr⟩ := y
    have kb : Kp bx H2 H3 ∧ BoxIs bx H3 βi := by
      rcases hy with rfl | ⟨T, o, nT, rfl⟩
      · exact ⟨Kp.refl, Si.bi⟩
      · exact ⟨Kp.new nT, Si.bi.new nT⟩
    obtain ⟨ρ', hρ, hb⟩ := hs i d hd ρi βi hI
    refine hg d _ ρ' hρ x _ H3 hr _ fun σ2 hS _ => hb σ2 H3 _ (hS H3 βi (fun _ _ h => h) (Si.step kb.1 kb.2)) (fun ρ2 β2 σ3 H4 hI2 k4 S4 => ⟨ρ2, β2, hI2, fun a xs e => k4 a xs (kb.1.tk Si.bi a xs (k a xs e)), S4⟩) rt
/-- own addresses may be written: what others hold stands -/
theorem rv_wr {H : Hp} {v : V} {r : Res} {A : List Addr} {p : Addr} {o : HO} (h : RV K bx H v r A) (np : p ∉ A) (nb : bx ≠ some p) (nt : ∀ xs, H p ≠ some (.tup xs)) (nf : ∀ o, H p ≠ some (.frz o (.lst []))  ∧ ∀ xs, H p ≠ some (.frz o (.lst xs))) : RV K bx (upd H p o) v r A := by
  have tku : TK H (upd H p o) := fun c zs h => by
    rw [upd_ne (fun q => by rw [q] at h; exact nt _ h)]; exact h
  cases r with
  | d x => exact ⟨h.1.tk tku, h.2⟩
  | l es =>
    obtain ⟨q, us, rfl, n2, hq, rs, hA2⟩ := h
    exact ⟨q, us, rfl, n2, by rw [upd_ne (fun h => np (by rw [hA2, h]; simp))]; exact hq, rs.tk tku, hA2⟩
  | m kvs =>
    obtain ⟨q, rfl, n2, hq, hA2⟩ := h
    exact ⟨q, rfl, n2, by rw [upd_ne (fun h => np (by rw [hA2, h]; simp))]; exact hq, hA2⟩
  | box => exact h
  | s ns =>
    obtain ⟨a, rfl, hs, hA2⟩ := h
    refine ⟨a, rfl, ?_, hA2⟩
    rcases hs with ⟨o', hs⟩ | hs
    · exact .inl ⟨o', by rw [upd_ne (fun h => by rw [h] at hs; exact (nf o').2 _ hs)]; exact hs⟩
    · exact .inr hs
  | t ks =>
    obtain ⟨q, rfl, n2, hq, hA2⟩ := h
    exact ⟨q, rfl, n2, by rw [upd_ne (fun h => np (by rw [hA2, h]; simp))]; exact hq, hA2⟩
  | ll dss =>
    obtain ⟨q, qs, rfl, n2, hq, hl, nd, hA2⟩ := h
    refine ⟨q, qs, rfl, n2, by rw [upd_ne (fun h => np (by rw [hA2, h]; simp))]; exact hq, ?_, nd, hA2⟩
    have hn : p ∉ qs := fun hm => np (by rw [hA2]; exact List.mem_cons_of_mem _ hm)
    clear hq nd hA2
    induction hl with
    | nil => exact .nil
    | cons n hq r t ih =>
      simp only [List.mem_cons, not_or] at hn
      exact .cons n (by rw [upd_ne (fun h => hn.1 h.symm)]; exact hq) (r.tk tku) (ih hn.2)
/-- an own thing is changed: at the address p of the slot i -/
theorem RS.mutA {σ : L2.St} {H : Hp} {i : Nat} {r r' : Res} {p : Addr} {o o' : HO} {v : V} (S : RS K B bx ρ β σ H) (e : ρ[i]? = some (some r)) (hp : H p = some o) (nb : bx ≠ some p) (nt : ∀ xs, o ≠ .tup xs) (nf : ∀ q xs, o ≠ .frz q (.lst xs))
    (hv : σ[i]? = some (some v)) (hA : ∀ A, RV K bx H v r A → p ∈ A ∧ RV K bx (upd H p o') v r' A) : RS K B bx (ρ.set i (some r')) β σ (upd H p o') ∧ TK H (upd H p o') := by
  obtain ⟨kp, bb, bi, len, fa, h1, h2, h3⟩ := id S
  obtain ⟨v', e1, rv⟩ := h1 i _ e
  rw [hv] at e1
  cases e1
  obtain ⟨pm, rv'⟩ := hA _ rv
  have tku : TK H (upd H p o') := fun c zs h => by
    rw [upd_ne (fun q => by rw [q, hp] at h; exact nt _ (Option.some.inj h))]; exact h
  have pB : B p = Option.none := h2 i p pm
  refine ⟨⟨fun a o h nb => ?_, bb, fun b q => ?_, by rw [List.length_set]; exact len, fa, fun j r q => ?_, h2, h3⟩, tku⟩
  · rw [upd_ne (ne_of_none h pB)]; exact kp a o h nb
  · rw [upd_ne (fun h => nb (by rw [← h]; exact q))]; exact bi b q
  · by_cases hj : j = i
    · subst hj
      have hl : j < ρ.length := (List.getElem?_eq_some_iff.mp e).1
      rw [List.getElem?_set_self hl] at q
      cases q
      exact ⟨_, hv, rv'⟩
    · rw [List.getElem?_set_ne (Ne.symm hj)] at q
      obtain ⟨w, e2, rw_⟩ := h1 j r q
      have np : p ∉ fa j := fun hm => hj (h3 j i p hm pm)
      exact ⟨w, e2, rv_wr rw_ np nb (fun xs h => by rw [hp] at h; exact nt _ (Option.some.inj h)) fun q => ⟨fun h => by rw [hp] at h; exact nf _ _ (Option.some.inj h), fun xs h => by rw [hp] at h; exact nf _ _ (Option.some.inj h)⟩⟩
/-- an own list is changed -/
theorem RS.mut {σ : L2.St} {H : Hp} {i : Nat} {ds ds' : List D} (S : RS K B bx ρ β σ H) (e : ρ[i]? = some (some (.l ds))) : ∃ p ws, σ[i]? = some (some (.ref p)) ∧ bx ≠ some p ∧ H p = some (.lst ws) ∧ Reps K H ws ds ∧ ∀ ws', Reps K H ws' ds' → RS K B bx (ρ.set i (some (.l ds'))) β σ (upd H p (.lst ws')) ∧ TK H (upd H p (.lst ws')) := by
  obtain ⟨kp, bb, bi, len, fa, h1, h2, h3⟩ := id S
  obtain ⟨v, e1, p, ws, rfl, n, hp, rr, hA⟩ := h1 i _ e
  refine ⟨p, ws, e1, n, hp, rr, fun ws' rr' => ?_⟩
  refine S.mutA e hp n (fun _ h => by cases h) (fun _ _ h => by cases h) e1 fun A ⟨q, us, eq_, n2, hq, rs, hA2⟩ => ?_
  cases eq_
  rw [hA2]
  have tku : TK H (upd H p (.lst ws')) := fun c zs h => by
    rw [upd_ne (fun q => by rw [q, hp] at h; cases h)]; exact h
  exact ⟨by simp, p, ws', rfl, n, upd_same, rr'.tk tku, rfl⟩
theorem go_append {i : Nat} {ds : List D} {z : D} (e : ρ[i]? = some (some (.l ds))) (h : EvR K B bx te ρ β fr (.d z) β1) (hl : ds.length < 100000) (hn : N (ρ.set i (some (.l (ds ++ [z])))) β1) : GoR K B bx (tDrop (tBM K "list" rAppend (tVar i) (tCons te tNil))) ρ β N R := fun σ H D S n rt => by
  obtain ⟨p, ws, e1, nb, hp, rr, _⟩ := S.mut (ds' := ds) e
  refine ⟨_, e1, .inl ⟨rfl, _, .inl (.inl hp)⟩, ?_⟩
  refine h σ H S _ fun v H1 A k1 b1 rv f => ?_
  obtain ⟨p', ws', e1', nb', hp', rr', hm⟩ := (S.step k1 b1).mut (ds' := ds ++ [z]) e
  rw [e1] at e1'
  cases e1'
  obtain ⟨S2, k2⟩ := hm (ws' ++ [v]) (rr'.append (.cons rv.1 .nil))
  refine ⟨p, ws', v, rfl, rfl, hp', ?_, n _ β1 σ _ hn (fun a xs q => k2 a xs (k1.tk S.bi a xs q)) S2⟩
  rw [rr'.length]
  exact Nat.lt_trans hl (by decide)
end
/-- THE RULE for a def -/
theorem fn_def {g : Gb} {x : Str} {params : Arguments} {body : List Stmt} {scope : Scope} {f : Addr} {fd : FuncData} {N ps : List Str} {k : Nat} {R : List Res → Bx → Res → Bx → Prop} (F : FunD g.K x x params body scope [] [] f fd) (S : FnScope N ps scope)
    (hlen : ∀ rs β r β', R rs β r β' → rs.length = ps.length)
    (h : ∃ t, PSsc ⟨g, N, scope, fun _ => true, k⟩ body t ∧ ∀ rs β r β', R rs β r β' → ∀ B bx, GoR g.K B bx t (rs.map some ++ List.replicate (N.length - rs.length) none) β (fun _ β2 => r = .d .none ∧ β2 = β') (fun r2 β2 => r2 = r ∧ β2 = β')) : Fn g f fd ps (k + 1) R := by
  obtain ⟨t, hpe, hev⟩ := h
  have lenV : ∀ {K : PySem.W.Frag} {bx : Option Addr} {H : Hp} {vs : List V} {rs : List Res}, RVs K bx H vs rs → vs.length = rs.length := by
    intro K bx H vs
    induction vs with
    | nil => intro rs h; cases rs with
      | nil => rfl
      | cons _ _ => exact h.elim
    | cons v vs ih => intro rs h; cases rs with
      | nil => exact h.elim
      | cons r rs => exact congrArg Nat.succ (ih h.2)
  have getV : ∀ {K : PySem.W.Frag} {bx : Option Addr} {H : Hp} {vs : List V} {rs : List Res} {i : Nat} {r : Res}, RVs K bx H vs rs → rs[i]? = some r → ∃ v, vs[i]? = some v ∧ RV K bx H v r [] := by
    intro K bx H vs
    induction vs with
    | nil => intro rs i r h e; cases rs with
      | nil => simp at e
      | cons _ _ => exact h.elim
    | cons v vs ih => intro rs i r h e; cases rs with
      | nil => exact h.elim
      | cons r' rs =>
        cases i with
        | zero => simp at e; subst e; exact ⟨v, rfl, h.1⟩
        | succ i => simpa using ih h.2 (by simpa using e)
  refine F.ok S (fun vs H Q E hs => ?_) (fun cdv A outer s H vs Q E hr hs => ?_)
  · obtain ⟨rs, β, r, β', hR, bx, _, _, hv, _⟩ := hs
    rw [lenV hv]
    exact hlen _ _ _ _ hR
  · obtain ⟨rs, β, r, β', hR, bx, hb, bi, hv, got⟩ := hs
    have hl := hlen _ _ _ _ hR
    refine ⟨t, PSs.nox (hpe _ ⟨rfl, rfl, rfl, rfl, rfl, rfl, rfl, rfl, rfl, rfl, hr⟩), ?_⟩
    refine hev rs β r β' hR H bx (L2.start N vs) H _ ⟨Kp.refl, hb, bi, ?_, fun _ => [], fun i r' e => ?_, fun _ _ h => (by cases h), fun _ _ _ h => by cases h⟩ (fun ρ' β2 σ' H' ⟨e1, e2⟩ k S' => ?_) (fun r2 β2 v H' A ⟨e1, e2⟩ k b rv f => ?_)
    · unfold L2.start
      rw [List.length_append, List.length_append, List.length_map, List.length_map, List.length_replicate, List.length_replicate, lenV hv]
    · by_cases hi : i < rs.length
      · rw [List.getElem?_append_left (by rw [List.length_map]; exact hi), List.getElem?_map] at e
        cases e2 : rs[i]? with
        | none => rw [e2] at e; cases e
        | some r'' =>
          rw [e2] at e
          cases e
          obtain ⟨v, e3, rv⟩ := getV hv e2
          refine ⟨v, ?_, rv⟩
          unfold L2.start
          rw [List.getElem?_append_left (by rw [List.length_map, lenV hv]; exact hi), List.getElem?_map, e3]; rfl
      · rw [List.getElem?_append_right (by rw [List.length_map]; omega), List.getElem?_replicate] at e
        split at e <;> cases e
    · subst e1 e2
      exact got .non H' [] S'.kp S'.bi ⟨.non, rfl⟩ fun _ p hp => by cases hp
    · subst e1 e2
      exact got v H' A k b rv fun _ p hp => f p hp
end K20
set_option maxHeartbeats 4000000
namespace K20
open PySem PySem.Spec PyProof.Rows L2
structure Txt (g : Gb) : Prop where
  kin : ∀ (i : Nat) (d : He.DefD), fn[i]? = some d → ∃ fd, FunD g.K d.name d.qual d.params d.body d.scope (d.dvs g.K) (d.kws g.K) (He.fAd g.K d.at_) fd
  glo : ∀ (i : Nat) (d : He.DefD), fn[i]? = some d → g.mg d.name = some (.ref (He.fAd g.K d.at_))
  b_abs : g.mg "abs" = none
  b_all : g.mg "all" = none
  b_any : g.mg "any" = none
  b_bool : g.mg "bool" = none
  b_dict : g.mg "dict" = none
  b_divmod : g.mg "divmod" = none
  b_enumerate : g.mg "enumerate" = none
  b_int : g.mg "int" = none
  b_isinstance : g.mg "isinstance" = none
  b_len : g.mg "len" = none
  b_list : g.mg "list" = none
  b_max : g.mg "max" = none
  b_min : g.mg "min" = none
  b_range : g.mg "range" = none
  b_set : g.mg "set" = none
  b_sorted : g.mg "sorted" = none
  b_str : g.mg "str" = none
  b_sum : g.mg "sum" = none
  b_tuple : g.mg "tuple" = none
  b_zip : g.mg "zip" = none
  MOST_FLOORS : ∃ t, g.mg "MOST_FLOORS" = some (.int 2 t)
  MOST_SIDE : ∃ t, g.mg "MOST_SIDE" = some (.int 5 t)
  MOST_CELLS : ∃ t, g.mg "MOST_CELLS" = some (.int 12 t)
  MOST_SHUTS : ∃ t, g.mg "MOST_SHUTS" = some (.int 4 t)
  LAST_SHUT : ∃ t, g.mg "LAST_SHUT" = some (.int 99 t)
  MOST_CARRIERS : ∃ t, g.mg "MOST_CARRIERS" = some (.int 3 t)
  MOST_SHELVES : ∃ t, g.mg "MOST_SHELVES" = some (.int 4 t)
  MOST_ORDERS : ∃ t, g.mg "MOST_ORDERS" = some (.int 4 t)
  MOST_GOODS : ∃ t, g.mg "MOST_GOODS" = some (.int 3 t)
  MOST_STOCK : ∃ t, g.mg "MOST_STOCK" = some (.int 99 t)
  MOST_NUMBER : ∃ t, g.mg "MOST_NUMBER" = some (.int 99 t)
  MOST_ROWS : ∃ t, g.mg "MOST_ROWS" = some (.int 24 t)
  WALL : ∃ t, g.mg "WALL" = some (.str "#" t)
  HOME : ∃ t, g.mg "HOME" = some (.str "S" t)
  LIFT : ∃ t, g.mg "LIFT" = some (.str "L" t)
  SIGNS : ∃ t, g.mg "SIGNS" = some (.str ".#SDPL" t)
  DESK : ∃ t, g.mg "DESK" = some (.str "D" t)
  POST : ∃ t, g.mg "POST" = some (.str "P" t)
  ALONE : g.mg "ALONE" = some (.ref (He.ga g.K "ALONE"))
  ALONEt : KT g.K (He.ga g.K "ALONE") [.str "bide", .str "fill", .str "lift", .str "set"]
  NUMBERED : g.mg "NUMBERED" = some (.ref (He.ga g.K "NUMBERED"))
  NUMBEREDt : KT g.K (He.ga g.K "NUMBERED") [.str "go", .str "hand"]
  FAULTS : g.mg "FAULTS" = some (.ref (He.ga g.K "FAULTS"))
  FAULTSt : ∃ es n, KDict g.K g.w (He.ga g.K "FAULTS") es n
  FAULTSv : ∀ x f, (x, f) ∈ ([("bide", "bide_fault"), ("fill", "fill_fault"), ("go", "go_fault"), ("lift", "lift_fault"), ("set", "set_fault"), ("hand", "hand_fault")] : List (Str × Str)) →
    PySem.W.nsIn g.K (He.ga g.K "FAULTS") x = some (some (.ref (He.ga g.K f)))
/-- THE RULE for a def of this text -/
theorem Txt.fnX {g : Gb} (T : Txt g) (i : Nat) {x : Str} {params : Arguments} {body : List Stmt} {scope : Scope} (hd : fn[i]? = some ⟨(x, none), x, x, params, body, scope, [], []⟩) {N ps : List Str} {k : Nat} {R : List Res → Bx → Res → Bx → Prop} (S : FnScope N ps scope)
    (hb : ∀ (kV doc pm : Value) (an : Option Addr) (cdv ct : Value) (us : List Value), us.length = ps.length → bindArgs (PySem.W.fnOf x x params body scope .none kV doc pm an cdv ct) ⟨us, []⟩ = pure (ps.zip us))
    (hlen : ∀ rs β r β', R rs β r β' → rs.length = ps.length)
    (h : ∃ t, PSsc ⟨g, N, scope, fun _ => true, k⟩ body t ∧ ∀ rs β r β', R rs β r β' → ∀ B bx, GoR g.K B bx t (rs.map some ++ List.replicate (N.length - rs.length) none) β (fun _ β2 => r = .d .none ∧ β2 = β') (fun r2 β2 => r2 = r ∧ β2 = β')) : FnX g x ps (k + 1) R := by
  obtain ⟨fd, F⟩ := T.kin i _ hd
  have F' : FunD g.K x x params body scope [] [] (He.fAd g.K (x, none)) fd := F
  exact ⟨_, fd, ⟨T.glo i _ hd, F'.kp, F'.bindsN hb⟩, fn_def F' S hlen h⟩
end K20
set_option maxHeartbeats 4000000
namespace K20
open PySem PySem.Spec PyProof.Rows L2
structure Yard where
  floors : List (List Str)
  bare : Int
  laden : Int
  gain : Int
  top : Int
  shuts : List (Int × Int × Int)
structure Car where
  cell : Int
  charge : Int
  load : Option Int
  broken : Bool
  deriving DecidableEq
structure Shelf where
  home : Int
  stock : List Int
  deriving DecidableEq
structure Order where
  good : Int
  many : Int
  given : Int
  hour : Int
  deriving DecidableEq
structure State where
  beat : Int
  cars : List Car
  shelves : List Shelf
  orders : List Order
  deriving DecidableEq
inductive Deed where
  | bide | fill | lift | set
  | go (n : Int)
  | hand (n : Int)
  deriving DecidableEq
abbrev st (s : Str) : D := .str s
def encO : Option Int → D
  | none => .none
  | some i => .int i
def encRows (r : List Str) : D := .tuple (r.map PyData.str)
def encFloors (f : List (List Str)) : D := .tuple (f.map encRows)
def encShut (s : Int × Int × Int) : D := .tuple [.int s.1, .int s.2.1, .int s.2.2]
def Yard.costs (y : Yard) : D := .tuple [.int y.bare, .int y.laden, .int y.gain, .int y.top]
def encYard (y : Yard) : D := .tuple [encFloors y.floors, y.costs, .tuple (y.shuts.map encShut)]
def encCar (c : Car) : D := .tuple [.int c.cell, .int c.charge, encO c.load, .bool c.broken]
def encInts (l : List Int) : D := .tuple (l.map PyData.int)
def encShelf (s : Shelf) : D := .tuple [.int s.home, encInts s.stock]
def encOrder (o : Order) : D := .tuple [.int o.good, .int o.many, .int o.given, .int o.hour]
def encState (s : State) : D := .tuple [.int s.beat, .tuple (s.cars.map encCar), .tuple (s.shelves.map encShelf), .tuple (s.orders.map encOrder)]
def encDeed : Deed → D
  | .bide => .tuple [.str "bide"]
  | .fill => .tuple [.str "fill"]
  | .lift => .tuple [.str "lift"]
  | .set => .tuple [.str "set"]
  | .go n => .tuple [.str "go", .int n]
  | .hand n => .tuple [.str "hand", .int n]
def encDeeds (l : List Deed) : D := .tuple (l.map encDeed)
def encRowsD (l : List (List Deed)) : D := .tuple (l.map encDeeds)
abbrev one (d : D) : List Res := [.d d]
/-- signs of all cells -/
def Yard.sg (y : Yard) : List Nat := (y.floors.flatten.map fun t => t.cps.toList).flatten
def Yard.sgS (y : Yard) : Str := ⟨y.sg.toArray⟩
def wallN : Nat := 35
def homeN : Nat := 83
def liftN : Nat := 76
def deskN : Nat := 68
def postN : Nat := 80
def signsN : List Nat := [46, 35, 83, 68, 80, 76]
/-- what a row of a floor is -/
structure Yard.Ok (y : Yard) : Prop where
  f1 : 1 ≤ y.floors.length
  f2 : y.floors.length ≤ 2
  d : ∃ down wide : Nat, 1 ≤ down ∧ down ≤ 5 ∧ 1 ≤ wide ∧ wide ≤ 5 ∧ (∀ fl ∈ y.floors, fl.length = down ∧ ∀ t ∈ fl, t.cps.size = wide)
  s : ∀ n ∈ y.sg, n ∈ signsN
  n : y.sg.length ≤ 12
  w : ∃ n ∈ y.sg, n ≠ wallN
  c1 : 0 ≤ y.bare
  c2 : y.bare ≤ 3
  c3 : y.bare ≤ y.laden
  c4 : y.laden ≤ 5
  c5 : 1 ≤ y.gain
  c6 : y.gain ≤ 9
  c7 : 1 ≤ y.top
  c8 : y.top ≤ 8
  u1 : y.shuts.length ≤ 4
  u2 : ∀ u ∈ y.shuts, 0 ≤ u.1 ∧ u.1 < y.sg.length ∧ y.sg[u.1.toNat]? ≠ some wallN ∧ 1 ≤ u.2.1 ∧ u.2.1 ≤ u.2.2 ∧ u.2.2 ≤ 99
  u3 : y.shuts.Pairwise fun a b => HT.lexLt [a.1, a.2.1, a.2.2] [b.1, b.2.1, b.2.2] = true
/-- a cell that is no wall -/
def Yard.cell (y : Yard) (c : Int) : Prop := 0 ≤ c ∧ c < y.sg.length ∧ y.sg[c.toNat]? ≠ some wallN
def Yard.cellB (y : Yard) (c : Int) : Bool := decide (0 ≤ c) && (decide (c < y.sg.length) && !decide (y.sg[c.toNat]? = some wallN))
end K20
set_option maxHeartbeats 4000000
namespace K20
open PySem PySem.Spec PyProof.Rows L2
theorem isTuple_at {h h' : Heap} {a : Addr} {items : Array Value} (x : h.IsTuple a items) (k : ∀ o, h.get? a = some o → h'.get? a = some o) : h'.IsTuple a items := by
  obtain ⟨o, ho, r⟩ := x
  exact ⟨o, k o ho, r⟩
theorem isTupleIter_at {h h' : Heap} {a t : Addr} {i : Nat} (x : h.IsTupleIter a t i) (k : ∀ o, h.get? a = some o → h'.get? a = some o) : h'.IsTupleIter a t i := by
  obtain ⟨o, ho, r⟩ := x
  exact ⟨o, k o ho, r⟩
theorem draws_tuple {prog : Program} {w : World} {A : Around} (hh : A.handled = none) (it l : Addr) (apart : l ≠ it) (items : Array Value) :
    Draws prog w A it [it, l] items.size (fun i v => items[i]? = some v) (fun i h => h.IsTupleIter it l i ∧ h.IsTuple l items) where
  live := fun _ _ st => let ⟨o, objA, _⟩ := st.1; ⟨o, objA⟩
  frame := fun _ _ _ st same => ⟨isTupleIter_at st.1 fun o e => same it (by simp) o e, isTuple_at st.2 fun o e => same l (by simp) o e⟩
  item := fun i s Q E hi st want => by
    refine RZ.nextOf_tuple_item st.1 st.2 (x := items[i]) (by simp [hi]) fun h' iAt' sAt' => ?_
    exact want _ h' s.toks (by simp [hi]) ⟨iAt', st.2.extBut sAt'.extBut apart⟩ sAt'
  done := fun s Q E st hE => RZ.nextOf_tuple_end hh st.1 st.2 (by simp) hE
abbrev enumO (n : Addr) : Obj := { cls := .type "enumerate", data := .fields #[.none, .bool false, .ref n, rawInt 0, .none, .none] }
theorem meets_enumT (l : Addr) (items : Array Value) :
    Meets (Builtin.«enumerate.__new__» ⟨[.type "enumerate", .ref l], []⟩) (fun _ R s => s.heap.IsTuple l items ∧
      R (.ok (.ret (.ref (s.heap.push { cls := .type "tuple_iterator", data := .fields #[.ref l, .int 0 0] }).objs.size)))
        { s with heap := (s.heap.push { cls := .type "tuple_iterator", data := .fields #[.ref l, .int 0 0] }).push (enumO s.heap.objs.size) }) :=
  .of_wp fun prog w A R ⟨hp, g, d, tk, os⟩ ⟨hl, h⟩ => by
    have sub0 := sub_enumerate
    have tupL : Heap.IsTuple (Shared.heap ⟨hp, g, d, tk, os⟩) l items := hl
    wp_walk
    refine wpAny_stack_any fun _ => wpAny_pure ?_
    split
    · rename_i c _ _ _ _ _
      cases c == Value.type "enumerate"
      · wp_walk using wpAny_pyIter_tuple tupL
        exact ⟨_, rfl, h⟩
      · wp_walk using wpAny_pyIter_tuple tupL
        exact ⟨_, rfl, h⟩
    · wp_walk using wpAny_pyIter_tuple tupL
      exact ⟨_, rfl, h⟩
theorem call_enumT {prog : Program} {w : World} {A : Around} {E : Value → Shared → Prop} {s : Shared} {l : Addr} {items : Array Value} {Q : Value → Shared → Prop} (tupL : s.heap.IsTuple l items)
    (h : ∀ h', IsEnum h' (s.heap.objs.size + 1) s.heap.objs.size 0 .none → h'.IsTupleIter s.heap.objs.size l 0 → (∀ b o, s.heap.get? b = some o → h'.get? b = some o) → Q (.ref (s.heap.objs.size + 1)) { s with heap := h' }) :
    wpAny (model prog w) A (call (Value.type "enumerate") [Value.ref l]) Q E s := by
  refine callType_new F.called_enumerate (by decide) (F.typeCall_enumerate_1 _) (F.newCall_enumerate_1 _) (fun x => F.args_object_init_2 x _) F.entry_enumerate_new (meets_enumT l items) ⟨tupL, ?_⟩
  have sizeE : (s.heap.push { cls := .type "tuple_iterator", data := .fields #[.ref l, .int 0 0] }).objs.size = s.heap.objs.size + 1 := Heap.size_push ..
  show _ ∧ _
  rw [sizeE]
  have eAt : IsEnum ((s.heap.push { cls := .type "tuple_iterator", data := .fields #[.ref l, .int 0 0] }).push
      (enumO s.heap.objs.size)) (s.heap.objs.size + 1) s.heap.objs.size 0 .none := by
    have := Heap.get?_push_size (s.heap.push { cls := .type "tuple_iterator", data := .fields #[.ref l, .int 0 0] })
      (o := (enumO s.heap.objs.size)) rfl
    rw [sizeE] at this; exact this
  exact ⟨⟨_, eAt, rfl⟩, h _ eAt ⟨_, Heap.get?_push_of_some _ (Heap.get?_push_size _ rfl), rfl, rfl⟩ fun b o x => Heap.get?_push_of_some _ (Heap.get?_push_of_some _ x)⟩
def IteT (K : PySem.W.Frag) (a : Addr) : It :=
  ⟨fun i H => ∃ (xs : List V) (x : V), SqT K H a xs ∧ xs[i]? = some x, fun i H v H' => ∃ T x, v = .ref T ∧ H T = none ∧ H' = upd H T (.tup [.int (i : Nat), x]) ∧ ∀ xs, SqT K H a xs → xs[i]? = some x, fun i H => ∃ xs : List V, SqT K H a xs ∧ xs.length ≤ i⟩
def IteS (z : Str) : It :=
  ⟨fun i _ => i < z.cps.size, fun i H v H' => ∃ T c, v = .ref T ∧ H T = none ∧ H' = upd H T (.tup [.int (i : Nat), .str ⟨#[c]⟩]) ∧ z.cps[i]? = some c, fun i _ => z.cps.size ≤ i⟩
theorem ne_of_data {h : Heap} {a b : Addr} {o : Obj} {it : Addr} {i : Int} {was : Value} (objA : h.get? b = some o) (eAt : IsEnum h a it i was) (quiet : o.cls ≠ .type "enumerate") : a ≠ b := fun e => by
  subst e
  rw [eAt] at objA
  cases objA
  exact quiet rfl
theorem enum_over {prog : Program} {w : World} {A : Around} {E : Value → Shared → Prop} {s : Shared} {e it : Addr} {i : Int} {was : Value} {Q : Option Value → Shared → Prop} (eAt : IsEnum s.heap e it i was)
    (ends : ∀ (Q : Value → Shared → Prop) (E : Value → Shared → Prop), (∀ h' e, Heap.ExtBut it s.heap h' → (∃ o, h'.get? e = some o ∧ o.cls = .type "StopIteration") → E (.ref e) { s with heap := h' }) → wpAny (model prog w) A.in1 (Builtin.SmallTypes.nextOf (.ref it)) Q E s)
    (want : ∀ h', Heap.ExtBut it s.heap h' → Q none { s with heap := h' }) : wpAny (model prog w) A (pyNext (.ref e)) Q E s := by
  have tupAt : s.TypeIs (.ref e) "enumerate" := ⟨_, eAt, rfl⟩
  unfold pyNext
  refine wpAny_bind (wpAny_attempt (wpAny_callSpecial?_slot (name := Str.ofString "__next__") tupAt F.slot_enumerate_next
    (wpAny_call_entry F.slot_enumerate_next tupAt F.entry_enumerate_next ?_ (F.args_enumerate_next_1 _))))
  show wpAny _ _ (field (Value.ref e) 2 >>= _) _ _ _
  refine wpAny_bind (wpAny_field eAt rfl (x := .ref it) rfl ?_)
  refine wpAny_bind (ends _ _ fun h' x eAt' hx' => ?_)
  obtain ⟨o, objA, quiet⟩ := hx'
  refine wpAny_bind (wpAny_isInstance (T := "StopIteration") (b := true) ⟨o, objA, quiet⟩ isSubtype_stop ?_)
  exact wpAny_pure (want _ eAt')
theorem turn_enumT {P : Program} {w : World} {K : PySem.W.Frag} {elts : List Expr} {kk : Nat} {tpos : Pos} (a e it : Addr) :
    Turn P w K (.Tuple elts kk tpos) (IteT K a) [e, it] e (fun i h => (∃ was, IsEnum h e it ((i : Nat) : Int) was) ∧ h.IsTupleIter it a i ∧ e ≠ it) where
  mem := by simp
  obj := fun i h st b hb => by
    obtain ⟨⟨was, eAt⟩, ⟨o, objA, quiet, ends⟩, _⟩ := st
    have which : b = e ∨ b = it := by simpa using hb
    rcases which with z | z
    · rw [z]; exact ⟨_, eAt, fun v q => nomatch q⟩
    · rw [z]; exact ⟨o, objA, fun v q => by rw [ends] at q; cases q⟩
  keep := fun i h h' st k => let ⟨⟨was, eAt⟩, hi, apart⟩ := st; ⟨⟨was, k e (by simp) _ eAt⟩, isTupleIter_at hi fun o q => k it (by simp) o q, apart⟩
  item := by
    intro X prE woE kE quiet i pins s σ H E I foot st goes
    subst prE woE kE
    obtain ⟨⟨was, eAt⟩, iAt, apart⟩ := st
    obtain ⟨xs, x, seqA, atx⟩ := goes
    obtain ⟨vals, rvals, p, sizeE⟩ := I.tuple seqA
    obtain ⟨u, atu, relu⟩ := rvals.get atx
    have eLow : e < s.heap.objs.size := Heap.lt_size eAt
    have iLow : it < s.heap.objs.size := by obtain ⟨_, q, _⟩ := iAt; exact Heap.lt_size q
    have eNa : e ≠ a := by obtain ⟨o, objA, clsL, _⟩ := id p; exact ne_of_data objA eAt (by rw [clsL]; simp)
    have aNi : a ≠ it := by
      rintro rfl
      obtain ⟨o, objA, clsL, _⟩ := id p
      obtain ⟨o2, ho2, hcl2, _⟩ := id iAt
      rw [objA] at ho2
      cases ho2
      rw [clsL] at hcl2
      simp at hcl2
    have iIn : i < vals.length := by
      have := (List.getElem?_eq_some_iff.mp atu).1
      exact this
    refine wpAny_pyNext_enum_itemD (draws_tuple (A := X.A.in1) (I.ok.hd quiet) it a aNi vals.toArray) eAt ⟨iAt, p⟩ (by simpa using iIn) apart (by simp [apart, eNa]) fun x' h' tk vAt objA sAt' tupAt grown same => ?_
    have ex : x' = u := by
      have h1 : vals[i]? = some x' := by simpa using vAt
      rw [atu] at h1
      exact Option.some.inj h1.symm
    subst ex
    refine ⟨_, rfl, wpAny_letOwnedTupleGo_enum (s := { s with heap := h', toks := tk + 1 }) objA fun h'' eAt' rest => ?_⟩
    have tupAt2 : h''.get? s.heap.objs.size = some { cls := .type "tuple", data := .seq #[.int i tk, x'] } := (rest.2 _ (Nat.ne_of_gt eLow)).trans tupAt
    have made : ObjOk X.prog X.w (upd H s.heap.objs.size (.tup [.int (i : Nat), x])) h'' s.heap.objs.size (.tup [.int (i : Nat), x]) :=
      ⟨by show 2 ≤ sizeLine; decide, [.int i tk, x'], .cons ⟨_, rfl⟩ (.cons relu .nil), ⟨_, tupAt2, rfl, _, rfl⟩⟩
    have inv1 : Inv X pins σ (upd H s.heap.objs.size (.tup [.int (i : Nat), x])) { s with heap := h'', toks := tk + 1 } :=
      I.turnedNew (ch := [e, it]) (fun b rec hb q => (rest.2 b (fun z => hb (by simp [z]))).trans (same b rec (fun z => hb (by simp [z])) (fun z => hb (by simp [z])) q)) foot (Nat.le_refl _) made
    refine ⟨.ref s.heap.objs.size, _, inv1, rfl, ⟨_, x, rfl, I.hok.fresh (Nat.le_refl _), rfl, fun ys hy => by rw [I.tuple_inj hy seqA]; exact atx⟩, ⟨⟨x', ?_⟩, isTupleIter_at sAt'.1 fun o q => (rest.2 it (Ne.symm apart)).trans q, apart⟩, fun b hb => ?_⟩
    · rw [show ((i + 1 : Nat) : Int) = (i : Int) + 1 from rfl]; exact eAt'
    · have bLow : b < s.heap.objs.size := by
        have which : b = e ∨ b = it := by simpa using hb
        rcases which with z | z
        · rw [z]; exact eLow
        · rw [z]; exact iLow
      rw [upd_ne (Nat.ne_of_lt bLow)]
      exact (foot b hb).1
  done := by
    intro X prE woE kE quiet i pins s σ H E I foot st goes
    subst prE woE kE
    obtain ⟨⟨was, eAt⟩, iAt, apart⟩ := st
    obtain ⟨xs, seqA, atx⟩ := goes
    obtain ⟨vals, rvals, p, sizeE⟩ := I.tuple seqA
    obtain ⟨f0, f1, f2, f3, f4, f5⟩ := foot it (by simp)
    have hl := rvals.length
    exact enum_over eAt (fun Q E hE => RZ.nextOf_tuple_end (A := X.A.in1) (I.ok.hd quiet) iAt p (by simp; omega) hE) fun h' eb => ⟨rfl, I.turned (t' := s.toks) (fun b o hb q => eb b o hb q) f0 f1 f3 f4 f5⟩
  self := fun A i s Q E st h => let ⟨⟨_, eAt⟩, _⟩ := st; wpAny_pyIter_enum eAt h
theorem turn_enumS {P : Program} {w : World} {K : PySem.W.Frag} {elts : List Expr} {kk : Nat} {tpos : Pos} (e it : Addr) (x : Str) (t : Tok) (ty : String) (hty : ty = "str_ascii_iterator" ∨ ty = "str_iterator") :
    Turn P w K (.Tuple elts kk tpos) (IteS x) [e, it] e (fun i h => (∃ was, IsEnum h e it ((i : Nat) : Int) was) ∧ h.IsStrIter it ty x t i ∧ e ≠ it) where
  mem := by simp
  obj := fun i h st b hb => by
    obtain ⟨⟨was, eAt⟩, ⟨o, objA, quiet, ends⟩, _⟩ := st
    have which : b = e ∨ b = it := by simpa using hb
    rcases which with z | z
    · rw [z]; exact ⟨_, eAt, fun v q => nomatch q⟩
    · rw [z]; exact ⟨o, objA, fun v q => by rw [ends] at q; cases q⟩
  keep := fun i h h' st k => let ⟨⟨was, eAt⟩, ⟨o, objA, r⟩, apart⟩ := st; ⟨⟨was, k e (by simp) _ eAt⟩, ⟨o, k it (by simp) o objA, r⟩, apart⟩
  item := by
    intro X prE woE kE quiet i pins s σ H E I foot st goes
    subst prE woE kE
    obtain ⟨⟨was, eAt⟩, iAt, apart⟩ := st
    have eLow : e < s.heap.objs.size := Heap.lt_size eAt
    have iLow : it < s.heap.objs.size := by obtain ⟨_, q, _⟩ := iAt; exact Heap.lt_size q
    have D : Draws X.prog X.w X.A.in1 it [it] x.cps.size (fun i v => ∃ c u, x.cps[i]? = some c ∧ v = .str ⟨#[c]⟩ u) (fun i h => h.IsStrIter it ty x t i) := by
      rcases hty with q | q
      · rw [q]; exact Draws.strAscii (A := X.A.in1) (I.ok.hd quiet) it x t
      · rw [q]; exact Draws.strWide (A := X.A.in1) (I.ok.hd quiet) it x t
    refine wpAny_pyNext_enum_itemD D eAt iAt goes apart (by simp [apart]) fun x' h' tk vAt objA sAt' tupAt grown same => ?_
    obtain ⟨c, u, hcx, ex⟩ := vAt
    subst ex
    refine ⟨_, rfl, wpAny_letOwnedTupleGo_enum (s := { s with heap := h', toks := tk + 1 }) objA fun h'' eAt' rest => ?_⟩
    have tupAt2 : h''.get? s.heap.objs.size = some { cls := .type "tuple", data := .seq #[.int i tk, .str ⟨#[c]⟩ u] } := (rest.2 _ (Nat.ne_of_gt eLow)).trans tupAt
    have made : ObjOk X.prog X.w (upd H s.heap.objs.size (.tup [.int (i : Nat), .str ⟨#[c]⟩])) h'' s.heap.objs.size (.tup [.int (i : Nat), .str ⟨#[c]⟩]) :=
      ⟨by show 2 ≤ sizeLine; decide, [.int i tk, .str ⟨#[c]⟩ u], .cons ⟨_, rfl⟩ (.cons ⟨_, rfl⟩ .nil), ⟨_, tupAt2, rfl, _, rfl⟩⟩
    have inv1 : Inv X pins σ (upd H s.heap.objs.size (.tup [.int (i : Nat), .str ⟨#[c]⟩])) { s with heap := h'', toks := tk + 1 } :=
      I.turnedNew (ch := [e, it]) (fun b rec hb q => (rest.2 b (fun z => hb (by simp [z]))).trans (same b rec (fun z => hb (by simp [z])) (fun z => hb (by simp [z])) q)) foot (Nat.le_refl _) made
    refine ⟨.ref s.heap.objs.size, _, inv1, rfl, ⟨_, c, rfl, I.hok.fresh (Nat.le_refl _), rfl, hcx⟩, ⟨⟨.str ⟨#[c]⟩ u, ?_⟩, ?_, apart⟩, fun b hb => ?_⟩
    · rw [show ((i + 1 : Nat) : Int) = (i : Int) + 1 from rfl]; exact eAt'
    · obtain ⟨o, objA, r⟩ := sAt'
      exact ⟨o, (rest.2 it (Ne.symm apart)).trans objA, r⟩
    · have bLow : b < s.heap.objs.size := by
        have which : b = e ∨ b = it := by simpa using hb
        rcases which with z | z
        · rw [z]; exact eLow
        · rw [z]; exact iLow
      rw [upd_ne (Nat.ne_of_lt bLow)]
      exact (foot b hb).1
  done := by
    intro X prE woE kE quiet i pins s σ H E I foot st goes
    subst prE woE kE
    obtain ⟨⟨was, eAt⟩, iAt, apart⟩ := st
    obtain ⟨f0, f1, f2, f3, f4, f5⟩ := foot it (by simp)
    have atx : x.cps[i]? = none := by
      have hg' : x.cps.size ≤ i := goes
      simp; exact hg'
    refine enum_over eAt (fun Q E hE => ?_) fun h' eb => ⟨rfl, I.turned (t' := s.toks) (fun b o hb q => eb b o hb q) f0 f1 f3 f4 f5⟩
    rcases hty with q | q
    · subst q; exact wpAny_nextOf_ascii_end (A := X.A.in1) (I.ok.hd quiet) iAt atx hE
    · subst q; exact wpAny_nextOf_wide_end (A := X.A.in1) (I.ok.hd quiet) iAt atx hE
  self := fun A i s Q E st h => let ⟨⟨_, eAt⟩, _⟩ := st; wpAny_pyIter_enum eAt h
def iEnumT (K : PySem.W.Frag) (ta : TA) : TI := fun σ H R => ta σ H fun vs H1 => ∃ a xs, vs = [.ref a] ∧ SqT K H1 a xs ∧ R (IteT K a) H1
def iEnumS (ta : TA) : TI := fun σ H R => ta σ H fun vs H1 => ∃ z, vs = [.str z] ∧ R (IteS z) H1
theorem pi_enumT {X : Cx} {e : Expr} {ta : TA} {p pos tpos : Pos} {elts : List Expr} {kk : Nat} (goes : Gl X "enumerate") (free0 : X.mg "enumerate" = none) (args0 : PA X [e] ta) (star0 : starEach [e] X.env = [(false, eval e X.env)] := by rfl) :
    PI X (.Tuple elts kk tpos) (.Call (.Name "enumerate" p) [e] [] pos) (iEnumT X.K ta) := by
  refine .mk fun pins s σ H R I h => ?_
  refine Call_ (ld_blt I goes free0 boot_enumerate (PyProof.Rows.callWith_type1 (thn (args0.run pos pins s σ H _ I h) fun us s1 ⟨vs, H1, inv1, rel1, got1⟩ => ?_) star0 rfl))
  obtain ⟨a, xs, ex, seqA, q⟩ := got1
  subst ex
  cases rel1 with
  | cons r rels =>
    cases rels
    cases r
    obtain ⟨vals, rvals, p', sizeE⟩ := inv1.tuple seqA
    refine call_enumT p' fun h' eAt iAt same => wpAny_pyIter_enum eAt ?_
    have inv2 : Inv X pins σ H1 { s1 with heap := h' } := inv1.kept (t' := s1.toks) same
    refine ⟨s1.heap.objs.size + 1, [s1.heap.objs.size + 1, s1.heap.objs.size], _, _, H1, rfl, inv2, turn_enumT a (s1.heap.objs.size + 1) s1.heap.objs.size, ⟨⟨.none, eAt⟩, iAt, Nat.succ_ne_self _⟩, fun b hb => ?_, q⟩
    have which : b = s1.heap.objs.size + 1 ∨ b = s1.heap.objs.size := by simpa using hb
    have low : s1.heap.objs.size ≤ b := by
      rcases which with z | z
      · rw [z]; exact Nat.le_succ _
      · exact Nat.le_of_eq z.symm
    exact inv1.fpOk low (inv1.hok.fresh low)
theorem strIter_ty (x : Str) : strIterType x = "str_ascii_iterator" ∨ strIterType x = "str_iterator" := by
  unfold strIterType
  split
  · exact .inl rfl
  · exact .inr rfl
theorem pi_enumS {X : Cx} {e : Expr} {ta : TA} {p pos tpos : Pos} {elts : List Expr} {kk : Nat} (goes : Gl X "enumerate") (free0 : X.mg "enumerate" = none) (args0 : PA X [e] ta) (star0 : starEach [e] X.env = [(false, eval e X.env)] := by rfl) :
    PI X (.Tuple elts kk tpos) (.Call (.Name "enumerate" p) [e] [] pos) (iEnumS ta) := by
  refine .mk fun pins s σ H R I h => ?_
  refine Call_ (ld_blt I goes free0 boot_enumerate (PyProof.Rows.callWith_type1 (thn (args0.run pos pins s σ H _ I h) fun us s1 ⟨vs, H1, inv1, rel1, got1⟩ => ?_) star0 rfl))
  obtain ⟨x, ex, q⟩ := got1
  subst ex
  cases rel1 with
  | cons r rels =>
    cases rels
    obtain ⟨t, rfl⟩ := r
    refine call_enumerate_str fun h' eAt iAt grown same => wpAny_pyIter_enum eAt ?_
    have inv2 : Inv X pins σ H1 { s1 with heap := h' } := inv1.kept (t' := s1.toks) same
    refine ⟨s1.heap.objs.size + 1, [s1.heap.objs.size + 1, s1.heap.objs.size], _, _, H1, rfl, inv2, turn_enumS (s1.heap.objs.size + 1) s1.heap.objs.size x t _ (strIter_ty x), ⟨⟨.none, eAt⟩, iAt, Nat.succ_ne_self _⟩, fun b hb => ?_, q⟩
    have which : b = s1.heap.objs.size + 1 ∨ b = s1.heap.objs.size := by simpa using hb
    have low : s1.heap.objs.size ≤ b := by
      rcases which with z | z
      · rw [z]; exact Nat.le_succ _
      · exact Nat.le_of_eq z.symm
    exact inv1.fpOk low (inv1.hok.fresh low)
theorem walk_enumT {K : PySem.W.Frag} {a : Addr} {xs : List V} : Walk (IteT K a) xs.length (fun H => SqT K H a xs) (YPair (fun i => some (.int (i : Nat))) (fun i => xs[i]?)) := by
  refine ⟨fun i _ il q => ⟨xs, xs[i], q, by simp [il]⟩, fun _ q => ⟨xs, q, Nat.le_refl _⟩, fun i H v H' _ q ⟨T, x, h1, h2, h3, h4⟩ => ?_⟩
  exact ⟨T, .int (i : Nat), x, h1, h2, h3, rfl, h4 _ q⟩
theorem walk_enumS {z : Str} : Walk (IteS z) z.cps.size (fun _ => True) (YPair (fun i => some (.int (i : Nat))) (fun i => (z.cps[i]?).map fun c => V.str ⟨#[c]⟩)) := by
  refine ⟨fun _ _ hi _ => hi, fun _ _ => Nat.le_refl _, fun i H v H' _ q y => ?_⟩
  obtain ⟨T, c, h1, h2, h3, h4⟩ := y
  exact ⟨T, .int (i : Nat), .str ⟨#[c]⟩, h1, h2, h3, rfl, by show (z.cps[i]?).map _ = _; rw [h4]; rfl⟩
section
variable {c : Ct} {e : Expr} {te : TE} {p pos : Pos} {tgs : List Expr}
theorem pic_enumT {k : Nat} {tpos : Pos} (hm : c.g.mg "enumerate" = none) (h : PEc c e te) (hg : GlS c.sc "enumerate" := by rfl) (hs : ∀ env, starEach [e] env = [(false, eval e env)] := by intro _; rfl) : PIc c (.Tuple tgs k tpos) (.Call (.Name "enumerate" p) [e] [] pos) (iEnumT c.g.K (tCons te tNil)) := fun X hX => by
  rw [← hX.hK]; exact pi_enumT (hX.gl hg) (hX.mg0 hm) (pa_cons (h X hX) pa_nil (hs _)) (hs _)
theorem pic_enumS {k : Nat} {tpos : Pos} (hm : c.g.mg "enumerate" = none) (h : PEc c e te) (hg : GlS c.sc "enumerate" := by rfl) (hs : ∀ env, starEach [e] env = [(false, eval e env)] := by intro _; rfl) : PIc c (.Tuple tgs k tpos) (.Call (.Name "enumerate" p) [e] [] pos) (iEnumS (tCons te tNil)) := fun X hX =>
  pi_enumS (hX.gl hg) (hX.mg0 hm) (pa_cons (h X hX) pa_nil (hs _)) (hs _)
end
section
variable {K : PySem.W.Frag} {B : Hp} {bx : Option Addr} {ρ : Env} {β β1 : Bx} {ta : TE} {f1 : Bool} {ds : List D}
theorem wk_enumT (ha : EvR K B bx ta ρ β f1 (.d (.tuple ds)) β1) : WkR K B bx (iEnumT K (tCons ta tNil)) ρ β true (enD ds) β1 := fun σ H S R q => ha σ H S _ fun v H1 A k1 b1 r1 _ => by
  obtain ⟨a, xs, rfl, hx, rr⟩ := r1.1.inv_tup
  have el : (enD ds).length = xs.length := by unfold enD; rw [List.length_zipWith, rgD_length, rr.length]; simp
  refine ⟨a, xs, rfl, Rep.sqt hx, q _ H1 (fun H' => TK H1 H') k1 b1 (fun H' k => k.tk b1) (fun _ H' k => k) ?_⟩
  rw [el]
  refine walk_enumT.mono (fun H' k => Rep.sqt (hx.imp (k _ _) id)) fun i H' v H'' hi k yl => ?_
  obtain ⟨T, x, y, rfl, nT, rfl, ex, ey⟩ := yl
  cases ex
  obtain ⟨e, he1, he2⟩ := rr.get' ey
  have kn : TK H' (upd H' T (.tup [V.int (i : Nat), y])) := fun c zs h => by rw [upd_ne (ne_of_none h nT)]; exact h
  refine ⟨.inr ⟨T, _, nT, rfl⟩, prD (.int (i : Nat)) e, ?_, .tup (.inl upd_same) (.cons (.int _) (.cons ((he2.tk k).tk kn) .nil))⟩
  unfold enD
  rw [List.getElem?_zipWith, he1, rgD_get (by rw [rr.length] at hi; simpa using hi)]
theorem wk_enumS {z : Str} (ha : EvR K B bx ta ρ β f1 (.d (.str z)) β1) : WkR K B bx (iEnumS (tCons ta tNil)) ρ β true (enD (strD z)) β1 := fun σ H S R q => ha σ H S _ fun v H1 A k1 b1 r1 _ => by
  have el : (enD (strD z)).length = z.cps.size := by unfold enD strD; rw [List.length_zipWith, rgD_length]; simp
  refine ⟨z, by rw [r1.1.inv_str], q _ H1 (fun _ => True) k1 b1 (fun H' k => True.intro) (fun _ H' k => True.intro) ?_⟩
  rw [el]
  refine walk_enumS.mono (fun H' k => True.intro) fun i H' v H'' hi k yl => ?_
  obtain ⟨T, x, y, rfl, nT, rfl, ex, ey⟩ := yl
  cases ex
  replace ey : (z.cps[i]?).map (fun c => V.str ⟨#[c]⟩) = some y := ey
  cases hc : z.cps[i]? with
  | none => rw [hc] at ey; cases ey
  | some c =>
    rw [hc] at ey
    cases ey
    refine ⟨.inr ⟨T, _, nT, rfl⟩, prD (.int (i : Nat)) (.str ⟨#[c]⟩), ?_, .tup (.inl upd_same) (.cons (.int _) (.cons (.str _) .nil))⟩
    have hs : (strD z)[i]? = some (.str ⟨#[c]⟩) := by
      unfold strD
      rw [List.getElem?_map, Array.getElem?_toList, hc]; rfl
    unfold enD
    rw [List.getElem?_zipWith, hs, rgD_get (by unfold strD; simpa using hi)]
end
end K20
set_option maxHeartbeats 4000000
namespace K20
open PySem PySem.Spec PyProof.Rows L2
abbrev Post := Res → Bx → Prop
def EvP (K : PySem.W.Frag) (B : Hp) (bx : Option Addr) (te : TE) (ρ : Env) (β : Bx) (fr : Bool) (C : Post) : Prop :=
  ∀ σ H, RS K B bx ρ β σ H → ∀ Q : VK, (∀ r β', C r β' → Got K bx H fr r β' Q) → te σ H Q
def EvTP (K : PySem.W.Frag) (B : Hp) (bx : Option Addr) (tt : TT) (ρ : Env) (β : Bx) (C : Bool → Bx → Prop) : Prop :=
  ∀ σ H, RS K B bx ρ β σ H → ∀ Q : Bool → Hp → Prop, (∀ c β' H', C c β' → Kp bx H H' → BoxIs bx H' β' → Q c H') → tt σ H Q
def EvAP (K : PySem.W.Frag) (B : Hp) (bx : Option Addr) (ta : TA) (ρ : Env) (β : Bx) (C : List Res → Bx → Prop) : Prop :=
  ∀ σ H, RS K B bx ρ β σ H → ∀ Q : List V → Hp → Prop, (∀ rs β' vs H', C rs β' → Kp bx H H' → BoxIs bx H' β' → RVs K bx H' vs rs → Q vs H') → ta σ H Q
/-- a callee's promise: T tells, by the arguments, what then holds of the result -/
def spP (K : PySem.W.Frag) (T : List Res → Bx → Post → Prop) : Sp := fun vs H Q _ => ∃ rs β P, T rs β P ∧ ∃ bx, (∀ b, bx = some b → H b ≠ none) ∧ BoxIs bx H β ∧ RVs K bx H vs rs ∧ ∀ r β', P r β' → Got K bx H true r β' Q
def FnP (g : Gb) (x : Str) (ps : List Str) (k : Nat) (T : List Res → Bx → Post → Prop) : Prop := ∃ f fd, Df g x f fd ps ∧ FnOk g.P g.w g.K g.mg g.base CX0 k f fd ps (spP g.K T)
/-- what an operator makes of two results -/
def B2 (K : PySem.W.Frag) (rr : R2) (x y : Res) (z : D) : Prop := ∀ (bx : Option Addr) (H : Hp) vx vy Ax Ay, RV K bx H vx x Ax → RV K bx H vy y Ay → ∀ Q : VK, (∀ v, Rep K H v z → Q v H) → rr vx vy H Q
section
variable {c : Ct} {e : Expr} {es : List Expr} {t : TA} {pos p : Pos} {x : Str}
theorem pec_fnP {ps : List Str} {k : Nat} {T : List Res → Bx → Post → Prop} (F : FnP c.g x ps k T) (ha : PAc c (e :: es) t) (hk : Nat.ble k c.k = true := by rfl) (hg : GlS c.sc x := by rfl)
    (hdb : (x == ("__debug__" : Str)) = false := by decide) (he : ∀ env, starEach (e :: es) env = (false, eval e env) :: starEach es env := by intro _; rfl) (hpl : ∀ env, (backTo pos (starEach es env)).any (·.1) = false := by intro _; rfl) :
    PEc c (.Call (.Name x p) (e :: es) [] pos) (tCall (spP c.g.K T) [] E0 t) := by
  obtain ⟨f, fd, D, F⟩ := F
  refine fun X h => ?_
  have F' : FnOk X.prog X.w X.K X.mg X.base CX0 k f fd ps (spP c.g.K T) := by
    rw [h.hP, h.hw, h.hK, h.hm, h.hb]; exact F
  exact pe_call F' (h.hr.mono (Nat.le_of_ble_eq_true hk)) (h.gl hg) (h.mg0 D.mg) (by rw [h.hK]; exact D.kp) (by rw [h.hK]; exact D.bd) .nil pass0 (ha X h) hdb (he _) (hpl _)
end
section
variable {K : PySem.W.Frag} {B : Hp} {bx : Option Addr} {ρ ρ' : Env} {β β' β1 β2 : Bx} {r : Res} {f1 f2 f3 fr : Bool} {ta tb td te : TE} {tt tu : TT} {tr : TA} {C C' : Post} {CA : List Res → Bx → Prop} {CT : Bool → Bx → Prop} {x y : Res}
theorem evp_of (h : EvR K B bx te ρ β fr r β1) (c : C r β1) : EvP K B bx te ρ β fr C := fun σ H S Q g => h σ H S Q (g r β1 c)
theorem evp_mono (h : EvP K B bx te ρ β fr C') (c : ∀ r β', C' r β' → C r β') : EvP K B bx te ρ β fr C := fun σ H S Q g => h σ H S Q fun r β' h => g r β' (c r β' h)
theorem eap_nil (c : CA [] β) : EvAP K B bx tNil ρ β CA := fun σ H S Q g => g [] β [] H c Kp.refl S.bi True.intro
theorem eap_cons (h : EvP K B bx te ρ β fr (fun r β1 => isD r = true ∧ EvAP K B bx tr ρ β1 fun rs β2 => CA (r :: rs) β2)) : EvAP K B bx (tCons te tr) ρ β CA := fun σ H S Q g =>
  h σ H S _ fun r β1 ⟨hd, ha⟩ v H1 A k1 b1 r1 _ => ha σ H1 (S.step k1 b1) _ fun rs β2 vs H2 c k2 b2 r2 => g (r :: rs) β2 (v :: vs) H2 c (k1.trans k2) b2 ⟨by
    have e := r1.nil hd
    subst e
    exact r1.kp b1 k2, r2⟩
theorem evp_call {T : List Res → Bx → Post → Prop} (ha : EvAP K B bx tr ρ β fun rs β1 => ∃ P, T rs β1 P ∧ ∀ r β', P r β' → C r β') : EvP K B bx (tCall (spP K T) [] E0 tr) ρ β true C := fun σ H S Q g =>
  ha σ H S _ fun rs β1 vs H1 ⟨P, hT, hP⟩ k1 b1 r1 => by
    show spP K T (vs ++ []) H1 Q E0
    rw [List.append_nil]
    refine ⟨rs, β1, P, hT, bx, fun b e => ?_, b1, r1, fun r β' h => (g r β' (hP r β' h)).behind k1 b1⟩
    intro h0
    have := b1 b e
    rw [h0] at this; cases this
/-- a call that tells its result, its arguments carried -/
theorem evp_callR {R : List Res → Bx → Res → Bx → Prop} (ha : EvAP K B bx tr ρ β fun rs β1 => ∃ r β', R rs β1 r β' ∧ C r β') : EvP K B bx (tCall (spT K R) [] E0 tr) ρ β true C := fun σ H S Q g =>
  ha σ H S _ fun rs β1 vs H1 ⟨r, β', hT, hP⟩ k1 b1 r1 => by
    show spT K R (vs ++ []) H1 Q E0
    rw [List.append_nil]
    refine ⟨rs, β1, r, β', hT, bx, fun b e => ?_, b1, r1, (g r β' hP).behind k1 b1⟩
    intro h0
    have := b1 b e
    rw [h0] at this; cases this
theorem evp_bin {rr : R2} (h : EvP K B bx ta ρ β f1 (fun x β1 => EvP K B bx tb ρ β1 f2 (fun y β2 => ∃ z, B2 K rr x y z ∧ C (.d z) β2))) : EvP K B bx (tOp rr ta tb) ρ β fr C := fun σ H S Q g =>
  h σ H S _ fun x β1 hx vx H1 Ax k1 b1 r1 _ => hx σ H1 (S.step k1 b1) _ fun y β2 ⟨z, hz, c⟩ vy H2 Ay k2 b2 r2 _ =>
    hz bx H2 vx vy Ax Ay (r1.kp b1 k2) r2 Q fun v rv => ((g _ _ c).behind (k1.trans k2) b2).d b2 rv
/-- either reading carries no lists -/
theorem evp_fr (h : EvP K B bx te ρ β f1 (fun r β1 => isD r = true ∧ C r β1)) : EvP K B bx te ρ β fr C := fun σ H S Q g =>
  h σ H S Q fun r β' ⟨hd, c⟩ v H' A k b rv _ => g r β' c v H' A k b rv fun _ p hp => by rw [rv.nil hd] at hp; cases hp
theorem evp_tup (h : EvAP K B bx tr ρ β fun rs β1 => ∃ ds, rs = ds.map Res.d ∧ ds.length ≤ 100000 ∧ C (.d (.tuple ds)) β1) : EvP K B bx (tTup tr) ρ β fr C := fun σ H S Q g =>
  h σ H S _ fun rs β1 vs H1 ⟨ds, e, hl, c⟩ k1 b1 r1 => by
    subst e
    exact ⟨by rw [r1.reps.length]; exact Nat.le_trans hl (by decide), fun p hp => ((g _ _ c).behind k1 b1).tup b1 r1.reps hp⟩
theorem evp_lst (h : EvAP K B bx tr ρ β fun rs β1 => ∃ ds, rs = ds.map Res.d ∧ ds.length ≤ 100000 ∧ C (.l ds) β1) : EvP K B bx (tLst tr) ρ β fr C := fun σ H S Q g =>
  h σ H S _ fun rs β1 vs H1 ⟨ds, e, hl, c⟩ k1 b1 r1 => by
    subst e
    exact ⟨by rw [r1.reps.length]; exact Nat.le_trans hl (by decide), fun p hp => ((g _ _ c).behind k1 b1).lst b1 r1.reps hp⟩
theorem etp_of (h : EvP K B bx te ρ β fr (fun r β1 => ∃ c, r = .d (.bool c) ∧ CT c β1)) : EvTP K B bx (tB te) ρ β CT := fun σ H S Q g =>
  h σ H S _ fun r β1 ⟨c, e, hc⟩ v H1 A k1 b1 r1 _ => by
    subst e
    exact ⟨c, r1.1.inv_bool, g c β1 H1 hc k1 b1⟩
theorem etp_t {a : Bool} (h : EvT K B bx tt ρ β a β1) (c : CT a β1) : EvTP K B bx tt ρ β CT := fun σ H S Q g => h σ H S _ fun H1 k1 b1 => g a β1 H1 c k1 b1
theorem etp_not (h : EvTP K B bx tt ρ β fun c β1 => CT (!c) β1) : EvTP K B bx (tNot tt) ρ β CT := fun σ H S Q g => h σ H S _ fun c β1 H1 hc k1 b1 => g (!c) β1 H1 hc k1 b1
theorem etp_and (h : EvTP K B bx tt ρ β fun a β1 => (a = true → EvTP K B bx tu ρ β1 CT) ∧ (a = false → CT false β1)) : EvTP K B bx (tAnd tt tu) ρ β CT := fun σ H S Q g =>
  h σ H S _ fun a β1 H1 ha k1 b1 => by
    cases a with
    | true => exact ha.1 rfl σ H1 (S.step k1 b1) Q fun c β2 H2 hc k2 b2 => g c β2 H2 hc (k1.trans k2) b2
    | false => exact g false β1 H1 (ha.2 rfl) k1 b1
theorem etp_or (h : EvTP K B bx tt ρ β fun a β1 => (a = false → EvTP K B bx tu ρ β1 CT) ∧ (a = true → CT true β1)) : EvTP K B bx (tOr tt tu) ρ β CT := fun σ H S Q g =>
  h σ H S _ fun a β1 H1 ha k1 b1 => by
    cases a with
    | false => exact ha.1 rfl σ H1 (S.step k1 b1) Q fun c β2 H2 hc k2 b2 => g c β2 H2 hc (k1.trans k2) b2
    | true => exact g true β1 H1 (ha.2 rfl) k1 b1
theorem evp_if (h : EvTP K B bx tt ρ β fun a β1 => (a = true → EvP K B bx ta ρ β1 fr C) ∧ (a = false → EvP K B bx tb ρ β1 fr C)) : EvP K B bx (tIf tt ta tb) ρ β fr C := fun σ H S Q g =>
  h σ H S _ fun a β1 H1 ha k1 b1 => by
    cases a with
    | true => exact ha.1 rfl σ H1 (S.step k1 b1) Q fun r β' c => (g r β' c).behind k1 b1
    | false => exact ha.2 rfl σ H1 (S.step k1 b1) Q fun r β' c => (g r β' c).behind k1 b1
theorem evp_and (h : EvP K B bx ta ρ β f1 fun x β1 => ∃ a, x = .d (.bool a) ∧ (a = true → EvP K B bx tb ρ β1 f2 fun y β2 => ∃ k, y = .d (.bool k) ∧ C y β2) ∧ (a = false → C (.d (.bool false)) β1)) : EvP K B bx (tAndV ta tb) ρ β fr C := fun σ H S Q g =>
  h σ H S _ fun x β1 ⟨a, e, ht, hf⟩ v H1 A k1 b1 r1 _ => by
    subst e
    refine ⟨a, r1.1.inv_bool, ?_⟩
    cases a with
    | true =>
      exact ht rfl σ H1 (S.step k1 b1) Q fun y β2 ⟨k, e, c⟩ w H2 A2 k2 b2 r2 _ => by
        subst e
        exact (g _ _ c) w H2 A2 (k1.trans k2) b2 r2 fun _ p hp => by rw [r2.2] at hp; cases hp
    | false => exact ((g _ _ (hf rfl)).behind k1 b1).d b1 (.bl false)
theorem evp_or (h : EvP K B bx ta ρ β f1 fun x β1 => ∃ a, x = .d (.bool a) ∧ (a = false → EvP K B bx tb ρ β1 f2 fun y β2 => ∃ k, y = .d (.bool k) ∧ C y β2) ∧ (a = true → C (.d (.bool true)) β1)) : EvP K B bx (tOrV ta tb) ρ β fr C := fun σ H S Q g =>
  h σ H S _ fun x β1 ⟨a, e, ht, hf⟩ v H1 A k1 b1 r1 _ => by
    subst e
    refine ⟨a, r1.1.inv_bool, ?_⟩
    cases a with
    | false =>
      exact ht rfl σ H1 (S.step k1 b1) Q fun y β2 ⟨k, e, c⟩ w H2 A2 k2 b2 r2 _ => by
        subst e
        exact (g _ _ c) w H2 A2 (k1.trans k2) b2 r2 fun _ p hp => by rw [r2.2] at hp; cases hp
    | true => exact ((g _ _ (hf rfl)).behind k1 b1).d b1 (.bl true)
theorem evp_tupleL (h : EvP K B bx te ρ β f1 fun x β1 => ∃ ds, x = .l ds ∧ C (.d (.tuple ds)) β1) : EvP K B bx (tThen te (kTup K)) ρ β fr C := fun σ H S Q g => h σ H S _ fun x β1 ⟨ds, e, c⟩ v H1 A k1 b1 r1 _ => by
  subst e
  obtain ⟨p, vs, rfl, n, hp, rr, _⟩ := r1
  exact .inl ⟨p, vs, rfl, .inl (.inl hp), fun q hq => ((g _ _ c).behind k1 b1).tup b1 rr hq⟩
theorem evp_min (h : EvP K B bx ta ρ β f1 fun x β1 => EvP K B bx tb ρ β1 f2 fun y β2 => ∃ i j, x = .d (.int i) ∧ y = .d (.int j) ∧ C (.d (.int (if j < i then j else i))) β2) : EvP K B bx (tCB rMin2 (tCons ta (tCons tb tNil))) ρ β fr C := fun σ H S Q g =>
  h σ H S _ fun x β1 hx vx H1 A1 k1 b1 r1 _ => hx σ H1 (S.step k1 b1) _ fun y β2 ⟨i, j, e1, e2, c⟩ vy H2 A2 k2 b2 r2 _ => by
    subst e1 e2
    exact ⟨i, j, by rw [r1.1.inv_int, r2.1.inv_int], ((g _ _ c).behind (k1.trans k2) b2).d b2 (.int _)⟩
theorem evp_join {z : Str} {to : TE} (ho : EvR K B bx to ρ β f1 (.d (.str z)) β) (h : EvP K B bx te ρ β f2 fun x β1 => ∃ ys : List Str, x.seq = some (ys.map PyData.str) ∧ (ys.map (·.length)).sum + ys.length * z.length ≤ 16777216 ∧ C (.d (.str (Txt.join z ys))) β1) : EvP K B bx (tM1 (rJoin K) to te) ρ β fr C := fun σ H S Q g =>
  ho σ H S _ fun v H1 A k1 b1 r1 _ => ⟨⟨z, r1.1.inv_str⟩, h σ H1 (S.step k1 b1) _ fun x β1 ⟨ys, e, hl, c⟩ w H2 A2 k2 b2 r2 _ => by
    obtain ⟨p, vs, rfl, hp, rr⟩ := r2.seq e
    have e2 := rr.strs'
    subst e2
    exact ⟨z, p, ys, r1.1.inv_str, rfl, hp, hl, ((g _ _ c).behind (k1.trans k2) b2).d b2 (.str _)⟩⟩
def WkP (K : PySem.W.Frag) (B : Hp) (bx : Option Addr) (wi : TI) (ρ : Env) (β : Bx) (tk : Bool) (CW : List D → Bx → Prop) : Prop := ∀ σ H, RS K B bx ρ β σ H → ∀ R : It → Hp → Prop,
  (∀ (ds : List D) (β' : Bx) (J : It) (H1 : Hp) (G : Hp → Prop), CW ds β' → Kp bx H H1 → BoxIs bx H1 β' → (∀ H', Kp bx H1 H' → G H') → (tk = true → ∀ H', TK H1 H' → G H') → Walk J ds.length G (YD K ds) → R J H1) → wi σ H R
variable {wi : TI} {tk : Bool} {CW : List D → Bx → Prop} {g : TG} {bnd : Bnd} {sl vs : List Nat} {ds : List D}
theorem wkp_of (h : WkR K B bx wi ρ β tk ds β1) (c : CW ds β1) : WkP K B bx wi ρ β tk CW := fun σ H S R q => h σ H S R fun J H1 G k1 b1 g1 g2 W => q ds β1 J H1 G c k1 b1 g1 g2 W
theorem wkp_range (h : EvP K B bx te ρ β f1 fun r β1 => ∃ n : Int, r = .d (.int n) ∧ -100000 ≤ n ∧ n ≤ 100000 ∧ CW (rgD n) β1) : WkP K B bx (iRng1 (tCons te tNil)) ρ β true CW := fun σ H S R q => h σ H S _ fun r β1 ⟨n, e, h0, hn, c⟩ v H1 A k1 b1 r1 _ => by
  subst e
  refine ⟨n, by rw [r1.1.inv_int], by omega, by omega, q _ _ _ H1 (fun _ => True) c k1 b1 (fun H' k => True.intro) (fun _ H' k => True.intro) ?_⟩
  rw [rgD_length]
  refine walk_range.mono (fun H' k => True.intro) fun i H' x H'' hi k ⟨e1, e2⟩ => ?_
  subst e1 e2
  refine ⟨.inl rfl, _, rgD_get hi, ?_⟩
  show Rep K H'' (V.int (0 + (i : Int))) _
  rw [Int.zero_add]
  exact .int _
/-- a comprehension: J tells of the box and what is gathered at the turn's start -/
theorem evp_lc (J : Nat → Bx → List D → Prop) (hw : WkR K B bx wi ρ β tk ds β1) (hg : TgR K B bx g bnd sl) (hsl : ∀ i ∈ sl, i ∈ vs := by decide) (hl : ds.length ≤ 100000) (h0 : J 0 β1 [])
    (hs : ∀ i d, ds[i]? = some d → ∀ βi acc, J i βi acc → ∃ ρ', bnd d (wipeR ρ vs) = some ρ' ∧ EvTP K B bx tt ρ' βi fun c βm => (c = true → EvP K B bx te ρ' βm true fun r β2 => ∃ z, r = .d z ∧ J (i + 1) β2 (acc ++ [z])) ∧ (c = false → J (i + 1) βm acc))
    (hn : ∀ β' acc, J ds.length β' acc → C (.l acc) β') : EvP K B bx (tLc wi g tt te vs) ρ β fr C := fun σ H S Q q => hw σ H S _ fun It0 H1 G k1 b1 hG _ W D hD => by
  have nD : bx ≠ some D := b1.ne hD
  refine lc_it W (fun i H' => ∃ acc zs βi, J i βi zs ∧ zs.length ≤ i ∧ H' D = some (.lst acc) ∧ Reps K H' acc zs ∧ Kp bx H1 H' ∧ BoxIs bx H' βi) ⟨[], [], β1, h0, Nat.le_refl _, upd_same, .nil, Kp.new hD, b1.new hD⟩ (fun i H' _ ⟨_, _, _, _, _, _, _, k, _⟩ => hG H' k) (fun i x H2 H3 hi hP y => ?_) (fun H' hP => ?_)
  · obtain ⟨acc, zs, βi, hJ, hz, e1, e2, k2, b2⟩ := hP
    obtain ⟨hy, d, hd, hr⟩ := y
    have kb : Kp bx H2 H3 ∧ BoxIs bx H3 βi := by
      rcases hy with rfl | ⟨T, o, nT, rfl⟩
      · exact ⟨Kp.refl, b2⟩
      · exact ⟨Kp.new nT, b2.new nT⟩
    obtain ⟨ρ', hρ, ht⟩ := hs i d hd βi zs hJ
    have S3 : RS K B bx (wipeR ρ vs) βi (L2.wipe σ vs) H3 := (S.wipe vs).step ((k1.trans k2).trans kb.1) kb.2
    refine hg d _ ρ' hρ x _ H3 hr _ fun σ' hS4 hwp => ⟨by rw [hwp vs hsl, wipe_wipe], ?_⟩
    have S4 := hS4 H3 βi (fun _ _ h => h) S3
    refine ht σ' H3 S4 _ fun c βm H4 hc k4 b4 => ?_
    cases c with
    | true =>
      refine iteT (hc.1 rfl σ' H4 (S4.step k4 b4) _ fun r β2 ⟨z, er, hJ2⟩ v H5 A k5 b5 r5 _ => ?_)
      subst er
      have k25 : Kp bx H2 H5 := (kb.1.trans k4).trans k5
      have tku : TK H5 (upd H5 D (.lst (acc ++ [v]))) := fun c zs h => by
        rw [upd_ne (fun e => by rw [e, k25 _ _ e1 nD] at h; cases h)]; exact h
      refine ⟨acc, k25 _ _ e1 nD, ?_, acc ++ [v], zs ++ [z], β2, hJ2, by rw [List.length_append]; exact Nat.succ_le_succ hz, upd_same, ((e2.tk (k25.tk b2)).tk tku).append (.cons (r5.1.tk tku) .nil), ?_, ?_⟩
      · rw [e2.length]
        exact Nat.lt_of_le_of_lt (Nat.le_trans hz (Nat.le_trans (Nat.le_of_lt hi) hl)) (by decide)
      · intro c o h n
        rw [upd_ne (ne_of_none h hD)]
        exact (k2.trans k25) c o h n
      · intro b e
        rw [upd_ne (fun h => nD (by rw [← h]; exact e))]
        exact b5 b e
    | false =>
      refine iteF ?_
      have k24 : Kp bx H2 H4 := kb.1.trans k4
      exact ⟨acc, zs, βm, hc.2 rfl, Nat.le_succ_of_le hz, k24 _ _ e1 nD, e2.tk (k24.tk b2), k2.trans k24, b4⟩
  · obtain ⟨acc, zs, βi, hJ, hz, e1, e2, k2, b2⟩ := hP
    exact q _ _ (hn _ _ hJ) _ H' [D] (k1.trans k2) b2 ⟨D, acc, rfl, b1.ne hD, e1, e2, rfl⟩ fun _ r hr => by
      simp at hr; subst hr
      exact k1.fresh b1 hD
theorem etp_yes (c : CT true β) : EvTP K B bx tYes ρ β CT := fun σ H S Q g => g true β H c Kp.refl S.bi
variable {N N1 : Env → Bx → Prop} {R : Res → Bx → Prop} {ts us : TS}
theorem go_seqW (h : GoR K B bx ts ρ β (fun ρ' β' => GoR K B bx us ρ' β' N R) R) : GoR K B bx (tSeq ts us) ρ β N R := go_seq h fun _ _ h => h
theorem go_retP (h : EvP K B bx te ρ β true R) : GoR K B bx (tRet te) ρ β N R := fun σ H D S n rt =>
  h σ H S _ fun r β1 hr v H1 A k1 b1 rv f => rt r β1 v H1 A hr (S.kp.trans k1) b1 rv fun p hp => S.freshB (f rfl p hp)
theorem go_asgP {i : Nat} (h : EvP K B bx te ρ β true fun r β1 => N (ρ.set i (some r)) β1) : GoR K B bx (tAsg te (gName i)) ρ β N R := fun σ H D S n rt =>
  h σ H S _ fun r β1 hn v H1 A k1 b1 rv f => n _ β1 _ H1 hn (k1.tk S.bi) (S.put i k1 b1 rv (f rfl))
theorem go_asgTP (hg : TgR K B bx g bnd sl) (h : EvP K B bx te ρ β fr fun r β1 => ∃ d ρ', r = .d d ∧ bnd d ρ = some ρ' ∧ N ρ' β1) : GoR K B bx (tAsg te g) ρ β N R := fun σ H D S n rt =>
  h σ H S _ fun r β1 ⟨d, ρ', er, e, hn⟩ v H1 A k1 b1 rv f => by
    subst er
    exact hg _ _ ρ' e v σ H1 rv.1 _ fun σ' hS _ => n ρ' β1 σ' H1 hn (k1.tk S.bi) (hS H1 β1 (fun _ _ h => h) (S.step k1 b1))
theorem go_parP {i j : Nat} (h : EvP K B bx ta ρ β true fun r1 β1 => EvP K B bx tb ρ β1 true fun r2 β2 => N ((ρ.set i (some r1)).set j (some r2)) β2) : GoR K B bx (tPar i j (tCons ta (tCons tb tNil))) ρ β N R := fun σ H D S n rt =>
  h σ H S _ fun r1 β1 h2 v H1 A k1 b1 rv f => h2 σ H1 (S.step k1 b1) _ fun r2 β2 hn w H2 A2 k2 b2 rw_ f2 => ⟨v, w, rfl, n _ β2 _ H2 hn ((k1.trans k2).tk S.bi) ((S.put i k1 b1 rv (f rfl)).put j k2 b2 rw_ (f2 rfl))⟩
theorem go_par3P {i j l : Nat} (h : EvP K B bx ta ρ β true fun r1 β1 => EvP K B bx tb ρ β1 true fun r2 β2 => EvP K B bx td ρ β2 true fun r3 β3 => N (((ρ.set i (some r1)).set j (some r2)).set l (some r3)) β3) : GoR K B bx (tPar3 i j l (tCons ta (tCons tb (tCons td tNil)))) ρ β N R := fun σ H D S n rt =>
  h σ H S _ fun r1 β1 h2 v H1 A k1 b1 rv f => h2 σ H1 (S.step k1 b1) _ fun r2 β2 h3 w H2 A2 k2 b2 rw_ f2 => h3 σ H2 ((S.step k1 b1).step k2 b2) _ fun r3 β3 hn z H3 A3 k3 b3 rz f3 =>
    ⟨v, w, z, rfl, n _ β3 _ H3 hn (((k1.trans k2).trans k3).tk S.bi) (((S.put i k1 b1 rv (f rfl)).put j k2 b2 rw_ (f2 rfl)).put l k3 b3 rz (f3 rfl))⟩
theorem go_dropP (h : EvP K B bx te ρ β fr fun r β1 => N ρ β1) : GoR K B bx (tDrop te) ρ β N R := fun σ H D S n rt =>
  h σ H S _ fun r β1 hn v H1 A k1 b1 rv f => n ρ β1 σ H1 hn (k1.tk S.bi) (S.step k1 b1)
theorem go_ifP (h : EvTP K B bx tt ρ β fun c β1 => (c = true → GoR K B bx ts ρ β1 N R) ∧ (c = false → GoR K B bx us ρ β1 N R)) : GoR K B bx (tIfS tt ts us) ρ β N R := fun σ H D S n rt =>
  h σ H S _ fun c β1 H1 hc k1 b1 => by
    cases c with
    | true => exact hc.1 rfl σ H1 D (S.step k1 b1) (fun ρ' β' σ' H' hn k S' => n ρ' β' σ' H' hn (fun a xs e => k a xs (k1.tk S.bi a xs e)) S') rt
    | false => exact hc.2 rfl σ H1 D (S.step k1 b1) (fun ρ' β' σ' H' hn k S' => n ρ' β' σ' H' hn (fun a xs e => k a xs (k1.tk S.bi a xs e)) S') rt
theorem go_forP (hg : TgR K B bx g bnd sl) (hw : WkP K B bx wi ρ β true fun ds β1 => ∃ P : Nat → Env → Bx → Prop, P 0 ρ β1 ∧ (∀ i d, ds[i]? = some d → ∀ ρi βi, P i ρi βi → ∃ ρ', bnd d ρi = some ρ' ∧ GoR K B bx ts ρ' βi (P (i + 1)) R) ∧ ∀ ρ' β', P ds.length ρ' β' → N ρ' β') :
    GoR K B bx (tFor wi g ts) ρ β N R := fun σ H D S n rt =>
  hw σ H S _ fun ds β1 J H1 G ⟨P, h0, hs, hn⟩ k1 b1 _ hG W => by
    refine for_it W (fun i σ' H' => ∃ ρi βi, P i ρi βi ∧ TK H1 H' ∧ RS K B bx ρi βi σ' H') ⟨ρ, β1, h0, fun _ _ h => h, S.step k1 b1⟩ (fun i σ' H' _ ⟨_, _, _, k, _⟩ => hG rfl H' k) (fun i x σ' H2 H3 hi ⟨ρi, βi, hI, k, Si⟩ y => ?_) fun σ' H' ⟨ρi, βi, hI, k, Si⟩ => n ρi βi σ' H' (hn _ _ hI) (fun a xs e => k a xs (k1.tk S.bi a xs e)) Si
    obtain ⟨hy, d, hd, hr⟩ := y
    have kb : Kp bx H2 H3 ∧ BoxIs bx H3 βi := by
      rcases hy with rfl | ⟨T, o, nT, rfl⟩
      · exact ⟨Kp.refl, Si.bi⟩
      · exact ⟨Kp.new nT, Si.bi.new nT⟩
    obtain ⟨ρ', hρ, hb⟩ := hs i d hd ρi βi hI
    refine hg d _ ρ' hρ x _ H3 hr _ fun σ2 hS _ => hb σ2 H3 _ (hS H3 βi (fun _ _ h => h) (Si.step kb.1 kb.2)) (fun ρ2 β2 σ3 H4 hI2 k4 S4 => ⟨ρ2, β2, hI2, fun a xs e => k4 a xs (kb.1.tk Si.bi a xs (k a xs e)), S4⟩) rt
theorem go_appendP {i : Nat} {zs : List D} (e : ρ[i]? = some (some (.l zs))) (hl : zs.length < 100000) (h : EvP K B bx te ρ β fr fun r β1 => ∃ z, r = .d z ∧ N (ρ.set i (some (.l (zs ++ [z])))) β1) : GoR K B bx (tDrop (tBM K "list" rAppend (tVar i) (tCons te tNil))) ρ β N R := fun σ H D S n rt => by
  obtain ⟨p, ws, e1, nb, hp, rr, _⟩ := S.mut (ds' := zs) e
  refine ⟨_, e1, .inl ⟨rfl, _, .inl (.inl hp)⟩, ?_⟩
  refine h σ H S _ fun r β1 ⟨z, er, hn⟩ v H1 A k1 b1 rv f => ?_
  subst er
  obtain ⟨p', ws', e1', nb', hp', rr', hm⟩ := (S.step k1 b1).mut (ds' := zs ++ [z]) e
  rw [e1] at e1'
  cases e1'
  obtain ⟨S2, k2⟩ := hm (ws' ++ [v]) (rr'.append (.cons rv.1 .nil))
  refine ⟨p, ws', v, rfl, rfl, hp', ?_, n _ β1 σ _ hn (fun a xs q => k2 a xs (k1.tk S.bi a xs q)) S2⟩
  rw [rr'.length]
  exact Nat.lt_trans hl (by decide)
/-- x = list.pop(n) -/
theorem go_pop {i j : Nat} {zs : List D} (e : ρ[j]? = some (some (.l zs))) (hl : zs.length < 100000) (h : EvP K B bx te ρ β fr fun r β1 => ∃ (n : Nat) (d : D), r = .d (.int n) ∧ zs[n]? = some d ∧ N ((ρ.set j (some (.l (zs.eraseIdx n)))).set i (some (.d d))) β1) : GoR K B bx (tAsg (tBM K "list" rPopAt (tVar j) (tCons te tNil)) (gName i)) ρ β N R := fun σ H D S n rt => by
  obtain ⟨p, ws, e1, nb, hp, rr, _⟩ := S.mut (ds' := zs) e
  refine ⟨_, e1, .inl ⟨rfl, _, .inl (.inl hp)⟩, ?_⟩
  refine h σ H S _ fun r β1 ⟨m, d, er, hd, hn⟩ v H1 A k1 b1 rv f => ?_
  subst er
  obtain ⟨p', ws', e1', nb', hp', rr', hm⟩ := (S.step k1 b1).mut (ds' := zs.eraseIdx m) e
  rw [e1] at e1'
  cases e1'
  obtain ⟨S2, k2⟩ := hm (ws'.eraseIdx m) rr'.eraseIdx
  obtain ⟨y, ey, ry⟩ := rr'.get hd
  have hlt : m < ws'.length := (List.getElem?_eq_some_iff.mp ey).1
  have hz := rr'.length
  have big : (100000 : Int) < 2 ^ 63 := by decide
  have ryk : RV K bx (upd H1 p (.lst (ws'.eraseIdx m))) y (.d d) [] := ⟨ry.tk k2, rfl⟩
  refine ⟨p, ws', (m : Int), m, y, rfl, by rw [rv.1.inv_int], hp', by omega, by omega, ?_, ey, n _ β1 _ _ hn (fun a xs q => k2 a xs (k1.tk S.bi a xs q)) (S2.put i Kp.refl S2.bi ryk fun _ hp => by cases hp)⟩
  unfold seqIndex?
  simp
  omega
theorem go_popPar {i j l : Nat} {zs : List D} (e : ρ[j]? = some (some (.l zs))) (hl : zs.length < 100000) (h : EvP K B bx te ρ β fr fun r β1 => ∃ (n : Nat) (d : D), r = .d (.int n) ∧ zs[n]? = some d ∧ N (((ρ.set j (some (.l (zs.eraseIdx n)))).set i (some (.d d))).set l (some (.d .none))) β1) :
    GoR K B bx (tPar i l (tCons (tBM K "list" rPopAt (tVar j) (tCons te tNil)) (tCons (tC .non) tNil))) ρ β N R := fun σ H D S n rt => by
  obtain ⟨p, ws, e1, nb, hp, rr, _⟩ := S.mut (ds' := zs) e
  refine ⟨_, e1, .inl ⟨rfl, _, .inl (.inl hp)⟩, ?_⟩
  refine h σ H S _ fun r β1 ⟨m, d, er, hd, hn⟩ v H1 A k1 b1 rv f => ?_
  subst er
  obtain ⟨p', ws', e1', nb', hp', rr', hm⟩ := (S.step k1 b1).mut (ds' := zs.eraseIdx m) e
  rw [e1] at e1'
  cases e1'
  obtain ⟨S2, k2⟩ := hm (ws'.eraseIdx m) rr'.eraseIdx
  obtain ⟨y, ey, ry⟩ := rr'.get hd
  have hlt : m < ws'.length := (List.getElem?_eq_some_iff.mp ey).1
  have hz := rr'.length
  have big : (100000 : Int) < 2 ^ 63 := by decide
  have ryk : RV K bx (upd H1 p (.lst (ws'.eraseIdx m))) y (.d d) [] := ⟨ry.tk k2, rfl⟩
  refine ⟨p, ws', (m : Int), m, y, rfl, by rw [rv.1.inv_int], hp', by omega, by omega, ?_, ey, y, .non, rfl, n _ β1 _ _ hn (fun a xs q => k2 a xs (k1.tk S.bi a xs q)) ((S2.put i Kp.refl S2.bi ryk fun _ hp => by cases hp).put (r := .d .none) (A := []) l Kp.refl S2.bi ⟨.non, rfl⟩ fun _ hp => by cases hp)⟩
  unfold seqIndex?
  simp
  omega
end
/-- the rule for a def told so -/
theorem fn_defP {g : Gb} {x : Str} {params : Arguments} {body : List Stmt} {scope : Scope} {f : Addr} {fd : FuncData} {N ps : List Str} {k : Nat} {T : List Res → Bx → Post → Prop} (F : FunD g.K x x params body scope [] [] f fd) (S : FnScope N ps scope)
    (hlen : ∀ rs β P, T rs β P → rs.length = ps.length)
    (h : ∃ t, PSsc ⟨g, N, scope, fun _ => true, k⟩ body t ∧ ∀ rs β P, T rs β P → ∀ B bx, GoR g.K B bx t (rs.map some ++ List.replicate (N.length - rs.length) none) β (fun _ β2 => P (.d .none) β2) P) : FnOk g.P g.w g.K g.mg g.base CX0 (k + 1) f fd ps (spP g.K T) := by
  obtain ⟨t, hpe, hev⟩ := h
  have lenV : ∀ {K : PySem.W.Frag} {bx : Option Addr} {H : Hp} {vs : List V} {rs : List Res}, RVs K bx H vs rs → vs.length = rs.length := by
    intro K bx H vs
    induction vs with
    | nil => intro rs h; cases rs with
      | nil => rfl
      | cons _ _ => exact h.elim
    | cons v vs ih => intro rs h; cases rs with
      | nil => exact h.elim
      | cons r rs => exact congrArg Nat.succ (ih h.2)
  have getV : ∀ {K : PySem.W.Frag} {bx : Option Addr} {H : Hp} {vs : List V} {rs : List Res} {i : Nat} {r : Res}, RVs K bx H vs rs → rs[i]? = some r → ∃ v, vs[i]? = some v ∧ RV K bx H v r [] := by
    intro K bx H vs
    induction vs with
    | nil => intro rs i r h e; cases rs with
      | nil => simp at e
      | cons _ _ => exact h.elim
    | cons v vs ih => intro rs i r h e; cases rs with
      | nil => exact h.elim
      | cons r' rs =>
        cases i with
        | zero => simp at e; subst e; exact ⟨v, rfl, h.1⟩
        | succ i => simpa using ih h.2 (by simpa using e)
  refine F.ok S (fun vs H Q E hs => ?_) (fun cdv A outer s H vs Q E hr hs => ?_)
  · obtain ⟨rs, β, P, hR, bx, _, _, hv, _⟩ := hs
    rw [lenV hv]
    exact hlen _ _ _ hR
  · obtain ⟨rs, β, P, hR, bx, hb, bi, hv, got⟩ := hs
    have hl := hlen _ _ _ hR
    refine ⟨t, PSs.nox (hpe _ ⟨rfl, rfl, rfl, rfl, rfl, rfl, rfl, rfl, rfl, rfl, hr⟩), ?_⟩
    refine hev rs β P hR H bx (L2.start N vs) H _ ⟨Kp.refl, hb, bi, ?_, fun _ => [], fun i r' e => ?_, fun _ _ h => (by cases h), fun _ _ _ h => by cases h⟩ (fun ρ' β2 σ' H' e2 k S' => ?_) (fun r2 β2 v H' A e2 k b rv f => ?_)
    · unfold L2.start
      rw [List.length_append, List.length_append, List.length_map, List.length_map, List.length_replicate, List.length_replicate, lenV hv]
    · by_cases hi : i < rs.length
      · rw [List.getElem?_append_left (by rw [List.length_map]; exact hi), List.getElem?_map] at e
        cases e2 : rs[i]? with
        | none => rw [e2] at e; cases e
        | some r'' =>
          rw [e2] at e
          cases e
          obtain ⟨v, e3, rv⟩ := getV hv e2
          refine ⟨v, ?_, rv⟩
          unfold L2.start
          rw [List.getElem?_append_left (by rw [List.length_map, lenV hv]; exact hi), List.getElem?_map, e3]; rfl
      · rw [List.getElem?_append_right (by rw [List.length_map]; omega), List.getElem?_replicate] at e
        split at e <;> cases e
    · exact (got _ _ e2) .non H' [] S'.kp S'.bi ⟨.non, rfl⟩ fun _ p hp => by cases hp
    · exact (got _ _ e2) v H' A k b rv fun _ p hp => f p hp
theorem Txt.fnP {g : Gb} (T : Txt g) (i : Nat) {x : Str} {params : Arguments} {body : List Stmt} {scope : Scope} (hd : fn[i]? = some ⟨(x, none), x, x, params, body, scope, [], []⟩) {N ps : List Str} {k : Nat} {TT : List Res → Bx → Post → Prop} (S : FnScope N ps scope)
    (hb : ∀ (kV doc pm : Value) (an : Option Addr) (cdv ct : Value) (us : List Value), us.length = ps.length → bindArgs (PySem.W.fnOf x x params body scope .none kV doc pm an cdv ct) ⟨us, []⟩ = pure (ps.zip us))
    (hlen : ∀ rs β P, TT rs β P → rs.length = ps.length)
    (h : ∃ t, PSsc ⟨g, N, scope, fun _ => true, k⟩ body t ∧ ∀ rs β P, TT rs β P → ∀ B bx, GoR g.K B bx t (rs.map some ++ List.replicate (N.length - rs.length) none) β (fun _ β2 => P (.d .none) β2) P) : FnP g x ps (k + 1) TT := by
  obtain ⟨fd, F⟩ := T.kin i _ hd
  have F' : FunD g.K x x params body scope [] [] (He.fAd g.K (x, none)) fd := F
  exact ⟨_, fd, ⟨T.glo i _ hd, F'.kp, F'.bindsN hb⟩, fn_defP F' S hlen h⟩
end K20
set_option maxHeartbeats 4000000
namespace K20
open PySem
abbrev hsz (s : Shared) : Nat := s.heap.objs.size
theorem runs_hsz {M : Model} {Γ : PySem.Ctx} {p : Pos} {t : Sem Fin} {fs : List Frame} {s s' : Shared} {e : End} (h : Runs M Γ p t fs s e s') : hsz s ≤ hsz s' := by
  induction h <;> (try simp only [hsz, Shared.setGen, Heap.size_push, Heap.size_update] at *) <;> first | omega | skip

theorem wakes_hsz {M : Model} {Γ : PySem.Ctx} {p : Pos} {g : Nat} {r : Resume} {s s' : Shared} {res : GenResult} (h : Wakes M Γ p g r s res s') : hsz s ≤ hsz s' := by
  have one : ∀ {Γ : PySem.Ctx} {p : Pos} {t : Sem Fin} {fs : List Frame} {s2 : Shared} {e : End} {st : GenState}, Runs M Γ p t fs (s.setGen g st) e s2 → hsz s ≤ hsz s2 := fun {_ _ _ _ s2 _ st} h => show hsz (s.setGen g st) ≤ hsz s2 from runs_hsz h
  unfold Wakes at h
  split at h
  · exact h.elim
  · split at h
    · obtain ⟨_, _, hr, _, _, rfl⟩ := h; exact Nat.le_trans (one hr) (Nat.le_refl (hsz _))
    all_goals (rw [h.2]; exact Nat.le_refl _)
  · obtain ⟨_, _, hr, _, _, rfl⟩ := h; exact Nat.le_trans (one hr) (Nat.le_refl (hsz _))
  all_goals (rw [h.2]; exact Nat.le_refl _)
theorem wp_hsz {α : Type} (M : Model) (Γ : PySem.Ctx) (n : Nat) (t : Sem α) : ∀ (Q : α → Pos → Shared → Prop) (E : Value → Pos → Shared → Prop) (p : Pos) (s : Shared), n ≤ hsz s → Sem.wp M Γ t Q E p s →
    Sem.wp M Γ t (fun a q z => n ≤ hsz z ∧ Q a q z) (fun a q z => n ≤ hsz z ∧ E a q z) p s := by
  have up : ∀ {s : Shared} {o : Obj}, n ≤ hsz s → n ≤ (s.heap.push o).objs.size := fun h => by rw [Heap.size_push]; exact Nat.le_succ_of_le h
  have wr : ∀ {s : Shared} {a : Addr} {f : Obj → Obj}, n ≤ hsz s → n ≤ (s.heap.update a f).objs.size := fun h => by rw [Heap.size_update]; exact h
  induction t with
  | pure | raise => exact fun Q E p s l h => ⟨l, h⟩
  | unsupported | finish | register | yield | fork | await => exact fun Q E p s l h => h
  | «at» q k ih => exact fun Q E p s l h => ih () Q E q s l h
  | rule _ k ih | point _ k ih => exact fun Q E p s l h => ih () Q E p s l h
  | loadIfAlive _ k ih | ask k ih | handled _ k ih | stack k ih | thread k ih => exact fun Q E p s l h => ih _ Q E p s l h
  | load a _ k ih => exact fun Q E p s l ⟨o, ho, h⟩ => ⟨o, ho, ih o Q E p s l h⟩
  | update a _ f k ih => exact fun Q E p s l h => ⟨h.1, ih () Q E p _ (wr l) h.2⟩
  | alloc o k ih => exact fun Q E p s l h => ih _ Q E p _ (up l) h
  | fresh k ih | os q _ k ih | newGen c k ih => exact fun Q E p s l h => ih _ Q E p _ l h
  | choose src m k ih => exact fun Q E p s l h => ⟨h.1, ih _ Q E p _ l h.2⟩
  | call c hd _ _ k ih => exact fun Q E p s l ⟨r, z, hr, h⟩ => ⟨r, z, hr, ih r Q E p z (Nat.le_trans l (runs_hsz hr)) h⟩
  | genState g k ih => exact fun Q E p s l ⟨r, hr, h⟩ => ⟨r, hr, ih _ Q E p s l h⟩
  | resume g r _ k ih => exact fun Q E p s l ⟨r, z, hr, h⟩ => ⟨r, z, hr, ih r Q E p z (Nat.le_trans l (wakes_hsz hr)) h⟩
theorem wpAny_hsz {α : Type} {M : Model} {A : Around} {s : Shared} {t : Sem α} {Q : α → Shared → Prop} {E : Value → Shared → Prop} (h : wpAny M A t Q E s) :
    wpAny M A t (fun a z => hsz s ≤ hsz z ∧ Q a z) (fun a z => hsz s ≤ hsz z ∧ E a z) s := fun Γ p hΓ => wp_hsz M Γ _ t _ _ p s (Nat.le_refl _) (h Γ p hΓ)
end K20
set_option maxHeartbeats 4000000
namespace K20
open PySem PySem.Spec PyProof.Rows L2
section
variable {c : Ct} {a b d' e f' o : Expr} {es : List Expr} {ta tb td tf te to : TE} {t : TA} {pos p p2 apos : Pos}
def tCh3 (ta tb td tf : TE) : TE := fun σ H Q => ta σ H fun x H1 => tb σ H1 fun y H2 => rLeI x y H2 fun z H3 => ∃ k, z = .bl k ∧
  (if k = true then td σ H3 fun u H4 => rLeI y u H4 fun z2 H5 => ∃ k2, z2 = .bl k2 ∧ (if k2 = true then tf σ H5 fun w H6 => rLeI u w H6 Q else Q (.bl false) H5) else Q (.bl false) H3)
theorem pec_ch3 (ha : PEc c a ta) (hb : PEc c b tb) (hd : PEc c d' td) (hf : PEc c f' tf) (hm : lastMarks [.LtE, .LtE, .LtE] [b, d', f'] = false := by with_unfolding_all rfl) : PEc c (.Compare a [.LtE, .LtE, .LtE] [b, d', f'] pos) (tCh3 ta tb td tf) := fun X h => by
  refine ⟨fun pins s σ H Q I g => Compare_chain ?_ hm⟩
  refine thn ((ha X h).run pins s σ H _ I g) fun v1 s1 ⟨x, H1, I1, r1, q1⟩ => chain_link (thn ((hb X h).run pins s1 σ H1 _ I1 q1) fun v2 s2 ⟨y, H2, I2, r2, q2⟩ => ?_)
  refine thn (op_le pins s2 σ H2 x y v1 v2 _ I2 r1 r2 q2) fun v3 s3 ⟨z, H3, I3, r3, k, ek, q3⟩ => ?_
  subst ek
  cases r3
  refine wpAny_truthy_bool ?_
  cases k with
  | false => exact ite_ff ⟨V.bl false, H3, I3, rfl, q3⟩
  | true =>
    refine ite_tt (chain_link (thn ((hd X h).run pins s3 σ H3 _ I3 q3) fun v4 s4 ⟨u, H4, I4, r4, q4⟩ => thn (op_le pins s4 σ H4 y u v2 v4 _ I4 r2 r4 q4) fun v5 s5 ⟨z2, H5, I5, r5, k2, ek2, q5⟩ => ?_))
    subst ek2
    cases r5
    refine wpAny_truthy_bool ?_
    cases k2 with
    | false => exact ite_ff ⟨.bl false, H5, I5, rfl, q5⟩
    | true => exact ite_tt (chain_last (thn ((hf X h).run pins s5 σ H5 _ I5 q5) fun v6 s6 ⟨w, H6, I6, r6, q6⟩ => op_le pins s6 σ H6 u w v4 v6 Q I6 r4 r6 q6))
def rMulS : R2 := fun x y H Q => ∃ (s : Nat) (n : Int), x = .str ⟨#[s]⟩ ∧ y = .int n ∧ 0 ≤ n ∧ n ≤ 1000 ∧ Q (.str ⟨(List.replicate n.toNat s).toArray⟩) H
theorem fold_rep (s : Nat) : ∀ (n : Nat) (acc : Array Nat), (List.replicate n #[s]).foldl (· ++ ·) acc = acc ++ (List.replicate n s).toArray
  | 0, acc => by simp
  | n + 1, acc => by
    rw [List.replicate_succ, List.foldl_cons, fold_rep s n, List.replicate_succ]
    apply Array.toList_inj.mp
    simp [-List.toArray_replicate]
theorem op_mulS {X : Cx} : OpR X (binaryOp .Mult) rMulS := by
  intro pins st σ H x y v u Q I rx ry h
  obtain ⟨s, n, rfl, rfl, h0, h1, q⟩ := h
  obtain ⟨t, rfl⟩ := rx
  obtain ⟨t2, rfl⟩ := ry
  have big : (1000 : Int) < 2 ^ 63 := by decide
  refine PySem.P.mul_str (by simp; omega) (fun h1 h2 => ?_) (fun h1 h2 => ?_) ?_
  · show ¬ ((1 : Nat) : Int) > _
    have : (1 : Int) ≤ (2 ^ 63 - 1) / n := Int.le_ediv_of_mul_le (by omega) (by omega)
    omega
  · show Builtin.Str.tooLong (1 * n.toNat) = false
    unfold Builtin.Str.tooLong
    simp
    have : (1000 : Nat) ≤ sizeLine := by decide
    omega
  · by_cases hn : n < 1
    · rw [if_pos hn]
      have e : n = 0 := by omega
      subst e
      exact ⟨by decide, .str ⟨#[]⟩, H, I.tok _, ⟨_, rfl⟩, q⟩
    · rw [if_neg hn]
      by_cases e : n = 1
      · subst e
        exact ⟨.str ⟨#[s]⟩, H, I, ⟨_, rfl⟩, q⟩
      · have hb : (n == 1 || (⟨#[s]⟩ : Str).length == 0) = false := by
          simp [e, Str.length]
        rw [if_neg (by rw [hb]; decide)]
        have ef : (List.replicate n.toNat (⟨#[s]⟩ : Str).cps).foldl (· ++ ·) #[] = (List.replicate n.toNat s).toArray := by
          have := fold_rep s n.toNat #[]
          rw [this]; simp
        rw [ef]
        refine ⟨?_, .str ⟨(List.replicate n.toNat s).toArray⟩, H, I.tok _, ⟨_, rfl⟩, q⟩
        have : (1000 : Nat) ≤ sizeLine := by decide
        show (List.replicate n.toNat s).toArray.size ≤ _
        simp
        omega
theorem pec_mulS (ha : PEc c a ta) (hb : PEc c b tb) : PEc c (.BinOp a .Mult b pos) (tOp rMulS ta tb) := pec_op (fun _ => op_mulS) ha hb
theorem pec_replace {y z w : Str} {j k l : Nat} {c0 c1 c2 jpos p3 : Pos} (he : PEc c e te) (hyz : (y == z) = false := by decide) (hs1 : ∀ env, starEach [e] env = [(false, eval e env)] := by intro _; rfl) (hb1 : ∀ env, attributeBase (.Constant (.str w) l c2) "join" env (eval (.Constant (.str w) l c2) env) = eval (.Constant (.str w) l c2) env := by intro _; rfl) (hl1 : (jpos.endLine == p3.line) = true := by rfl)
    (hst : ∀ env, starEach [.Constant (.str y) j c0, .Constant (.str z) k c1] env = [(false, eval (.Constant (.str y) j c0) env), (false, eval (.Constant (.str z) k c1) env)] := by intro _; rfl)
    (hbase : ∀ env, attributeBase (.Call (.Attribute (.Constant (.str w) l c2) "join" jpos) [e] [] p3) "replace" env (eval (.Call (.Attribute (.Constant (.str w) l c2) "join" jpos) [e] [] p3) env) = eval (.Call (.Attribute (.Constant (.str w) l c2) "join" jpos) [e] [] p3) env := by intro _; rfl) (hline : (apos.endLine == pos.line) = true := by rfl) :
    PEc c (.Call (.Attribute (.Call (.Attribute (.Constant (.str w) l c2) "join" jpos) [e] [] p3) "replace" apos) [.Constant (.str y) j c0, .Constant (.str z) k c1] [] pos) (CwR.tReplC (tM1 (rJoin c.g.K) (tC (.str w)) te) y z) := fun X hX => by
  refine .mk fun pins s σ H Q I h => ?_
  have first : wpAny (model X.prog X.w) X.A (eval (.Call (.Attribute (.Constant (.str w) l c2) "join" jpos) [e] [] p3) X.env) (fun v s1 => 1 ≤ s1.toks ∧ EP X pins σ (fun v H1 => ∃ x, v = .str x ∧ x.length + (x.length + 1) * z.length ≤ 16777216 ∧ Q (.str (Txt.replace x y z)) H1) v s1) X.xe s := by
    refine PySem.Call_method1 (hb1 _) (hs1 _) hl1 (Calls.Constant_str ?_)
    obtain ⟨_, h⟩ := h
    refine ⟨"str", _, PySem.F.plainAttrs_str, PySem.F.slot_str_join, PySem.F.type_str_join, typeIs_str _ _ _, (fun _ q => nomatch q), ?_⟩
    refine wpAny_mono (PySem.wpAny_toks_of (n := 1) (show 1 ≤ s.toks + 1 by omega) ?_) (fun _ _ q => q) fun _ _ q => q.2
    refine Calls.callWith_builtin rfl (Calls.evalArgs_plain (Calls.spliced_cons (thn ((he X hX).run pins _ σ H _ (I.tok (s.toks + 1)) h) fun u s2 ⟨y2, H2, I2, r2, q2⟩ => Calls.spliced_nil ?_)))
    rw [← hX.hK] at q2
    exact mt_join pins s2 σ H2 (.str w) [y2] (.str w s.toks) [u] _ I2 ⟨s.toks, rfl⟩ (.cons r2 .nil) q2
  refine PySem.Call_method2 (hbase _) (hst _) hline (wpAny_mono first (fun v s1 q => ?_) fun _ _ q => q)
  obtain ⟨hk, v1, H1, I1, r1, x, e1, hb, q⟩ := q
  subst e1
  obtain ⟨tx, e2⟩ := r1
  subst e2
  refine ⟨"str", _, PySem.F.plainAttrs_str, PySem.F.slot_str_replace, PySem.F.type_str_replace, typeIs_str _ _ _, (fun _ q => nomatch q), Calls.callWith_builtin rfl (Calls.evalArgs_plain (Calls.spliced_cons (Calls.Constant_str (Calls.spliced_cons (Calls.Constant_str (Calls.spliced_nil ?_))))))⟩
  refine PySem.SC.replace (show s1.toks ≠ 0 by omega) (show s1.toks + 1 ≠ 0 by omega) (show s1.toks ≠ s1.toks + 1 by omega) hyz hb fun t' k => ?_
  exact ⟨.str (Txt.replace x y z), H1, I1.tok k, ⟨t', rfl⟩, q⟩
theorem pgc_sub (ho : PEc c o to) (hi : PEc c e te) (ha : ∀ (env : PySem.Env) v, assign (.Subscript o e pos) env v = (do
      let ob ← holding [v] (eval o env)
      let ix ← holding [v, ob] (eval e env)
      standAt pos
      holding [v, ob, ix] (setItem ob ix v)
      release [v, ob, ix] []) := by intro _ _; rfl) : PGc c (.Subscript o e pos) (gSub to te rSetL) := fun X h => pg_sub (ho X h) (hi X h) set_list (ha _)
theorem psc_sub (ho : PEc c o to) (hi : PEc c e te) (hv : PEc c a ta) {sp : Pos} (hs : swapsWithSole [.Subscript o e pos] a sp.line (env0 c.sc) = pure false := by rfl) (hw : swappedStores [.Subscript o e pos] a (env0 c.sc) = pure none := by rfl) (h1 : ∀ env, (assignEach [.Subscript o e pos] env).map (·.2) = [assign (.Subscript o e pos) env] := by intro _; rfl)
    (ha : ∀ (env : PySem.Env) v, assign (.Subscript o e pos) env v = (do
      let ob ← holding [v] (eval o env)
      let ix ← holding [v, ob] (eval e env)
      standAt pos
      holding [v, ob, ix] (setItem ob ix v)
      release [v, ob, ix] []) := by intro _ _; rfl) : PSc c (.Assign [.Subscript o e pos] a sp) (tAsg ta (gSub to te rSetL)) := psc_asg hv (pgc_sub ho hi ha) hs hw h1
theorem psc_dput (ho : PEc c o to) (hi : PEc c e te) (hv : PEc c a ta) {sp : Pos} (hs : ∀ env, swapsWith a (some (.Subscript o e pos)) sp.line env = pure false := by intro _; rfl) : PSc c (.Assign [.Subscript o e pos] a sp) (sDPut to te ta) := fun X h =>
  ps_dput h.u1 (ho X h) (hi X h) (hv X h) (hs _)
theorem pec_dnewT : PEc c (.Dict [] [] pos) tDNewT := fun _ _ => pe_dnewT
abbrev rDictP (K : PySem.W.Frag) : List V → Hp → VK → Prop := fun xs H Q => ∃ (a : Addr) (ps : List Addr) (kvs : List (Key × V)), xs = [.ref a] ∧ SqL K H a (ps.map V.ref) ∧ Paired (fun p kv => SqT K H p [kV kv.1, kv.2]) ps kvs ∧ ∀ p, H p = none → Q (.ref p) (upd H p (.dK (mergeK [] kvs)))
theorem pec_dictP (hm : c.g.mg "dict" = none) (ha : PEc c e te) (hs : ∀ env, starEach [e] env = (false, eval e env) :: starEach [] env := by intro _; rfl) (hg : GlS c.sc "dict" := by rfl) : PEc c (.Call (.Name "dict" p) [e] [] pos) (tCB (rDictP c.g.K) (tCons te tNil)) :=
  pec_cty (id := "dict") (fun X h => by rw [← h.hK]; exact call_dictP h.hc) hm (by decide +kernel) (pac_cons ha pac_nil hs) hg (by decide) (by decide) hs (by intro _; rfl)
theorem kt_addrs {H : Hp} : ∀ {ks : List (List Int)} {xs : List (List Key × Addr × Value)}, L2.KT H (ks.map ktOf) xs → ∃ L : List (Addr × List Int), xs.map (fun x => Value.ref x.2.1) = L.map (fun q => Value.ref q.1) ∧ L.map (·.2) = ks ∧ ∀ q ∈ L, H q.1 = some (.tup (q.2.map V.int))
  | [], xs, r => by
    cases r
    exact ⟨[], rfl, rfl, fun q h => by cases h⟩
  | k :: ks, xs, r => by
    rw [List.map_cons] at r
    cases r with
    | @cons _ x _ xs' h t =>
      obtain ⟨L, e1, e2, e3⟩ := kt_addrs t
      obtain ⟨h1, h2, h3⟩ := h
      refine ⟨(x.2.1, k) :: L, by rw [List.map_cons, List.map_cons, e1], by rw [List.map_cons, e2], fun q hq => ?_⟩
      rcases List.mem_cons.mp hq with e | hq
      · rw [e]
        have : ((ktOf k).1.map kV) = k.map V.int := by
          show (k.map Sum.inl).map kV = _
          rw [List.map_map]; rfl
        rw [this] at h2
        exact h2
      · exact e3 q hq
def rSortD (d : Nat) (m : Int) : List V → Hp → VK → Prop := fun vs H Q => ∃ (p : Addr) (ks : List (List Int)), vs = [.ref p] ∧ H p = some (.dT (ks.map ktOf)) ∧ ks.length < 64 ∧ (∀ k ∈ ks, k.length = d ∧ TS.Bd m k) ∧
  ∀ (l : Addr) (L : List (Addr × List Int)), H l = none → (L.map (·.2)).Perm ks → ks.Nodup → L.Pairwise (fun q r => TS.code m q.2 ≤ TS.code m r.2) → (∀ q ∈ L, H q.1 = some (.tup (q.2.map V.int))) → Q (.ref l) (upd H l (.lst (L.map fun q => V.ref q.1)))
theorem cr_sortD {X : Cx} {d : Nat} {m : Int} (hd1 : 1 ≤ d) (hc : X.calm = true) : CallR X (.builtin "sorted") (rSortD d m) := by
  intro pins s σ H vs us Q I rel h
  obtain ⟨p, ks, rfl, hp, h64, hB, q⟩ := h
  obtain ⟨u, rfl, rx⟩ := rel.one
  cases rx
  obtain ⟨z, hs, xs, kt, o, es, ep, ho, hx, hdt, he, his, hnd⟩ := dt_of I.hok hp
  obtain ⟨L0, eL, eK, hL⟩ := kt_addrs kt
  have l1 : es.size = xs.length := size_of_entries he
  have l2 : ks.length = xs.length := by
    have := Paired.length kt
    rw [List.length_map] at this
    exact this
  have big : (64 : Nat) ≤ sizeLine := by decide
  have hh := I.ok.hd hc
  have ndk : ks.Nodup := by
    have e : ∀ {ks : List (List Int)} {xs : List (List Key × Addr × Value)}, L2.KT H (ks.map ktOf) xs → xs.map (·.1) = ks.map fun k => k.map Sum.inl := by
      intro ks
      induction ks with
      | nil => intro xs r; cases r; rfl
      | cons k ks ih =>
        intro xs r
        rw [List.map_cons] at r
        cases r with
        | cons h t => rw [List.map_cons, List.map_cons, ih t, ← h.1]; rfl
    rw [e kt] at hnd
    exact (List.pairwise_map.mp hnd).imp fun h q => h (by rw [q])
  apply Calls.call_function_entry kind_sorted plain_sorted entry_sorted (args_sorted1 _)
  unfold Builtin.«sorted»
  refine wpAny_bind (m := checkCount "sorted" 1 1 _) (wpAny_pure (wpAny_bind (wpAny_mono (wpAny_hsz (PySem.W.kdu_collect (A := X.A.in1) (R := fun r z => ∃ h' tk acc, (∀ b o, s.heap.get? b = some o → h'.get? b = some o) ∧ ItemsOf (fun i v => ∃ en : DictEntry, es[i]? = some en ∧ v = en.key) acc es.size ∧ r = acc.toList ∧ z = { s with heap := h', toks := tk }) (kdl_raw hs hx hdt) hh ho (by omega) fun h' tk acc hk hacc => ⟨h', tk, acc, hk, hacc, rfl, rfl⟩)) (fun _ _ ⟨le, h', tk, acc, hk, hacc, er, ez⟩ => ?_) fun _ _ q => q.2)))
  subst er ez
  have ea : acc.toList = xs.map fun x => Value.ref x.2.1 := by
    apply List.ext_getElem?; intro j
    rw [List.getElem?_map]
    have hl : acc.toList.length = xs.length := by rw [Array.length_toList, hacc.1]; exact l1
    have hj2 := entry_at he j
    cases hj : acc.toList[j]? with
    | none =>
      have h1 := List.getElem?_eq_none_iff.1 hj
      rw [List.getElem?_eq_none (show xs.length ≤ j by omega)]; rfl
    | some v =>
      obtain ⟨en, hen, hv⟩ := hacc.2 j v (by rw [← Array.getElem?_toList]; exact hj)
      rw [hen] at hj2
      cases hb : xs[j]? with
      | none => rw [hb] at hj2; cases hj2
      | some b =>
        rw [hb] at hj2
        cases hj2
        rw [hv]; rfl
  rw [ea, eL]
  have hlen : (L0.map fun q => Value.ref q.1).length < 64 := by
    rw [List.length_map, ← List.length_map (f := Prod.snd), eK]; exact h64
  refine wpAny_bind (wpAny_newList ?_ (by omega))
  have hoL : (h'.push (seqObj "list" (L0.map fun q => Value.ref q.1).toArray 0)).get? h'.objs.size = some (seqObj "list" (L0.map fun q => Value.ref q.1).toArray 0) := Heap.get?_push_size _ rfl
  have ti : ∀ q ∈ L0, TS.TupInts (h'.push (seqObj "list" (L0.map fun q => Value.ref q.1).toArray 0)) (.ref q.1) q.2 := fun q hq =>
    tupInts_of (P := X.prog) (w := X.w) (isT_keep (I.isT (.inl (.inl (hL q hq)))) fun b o e => Heap.get?_push_of_some _ (hk b o e))
  have tok : TS.TupsOk (h'.push (seqObj "list" (L0.map fun q => Value.ref q.1).toArray 0)) d m (L0.map fun q => Value.ref q.1) := fun v hv => by
    obtain ⟨q, hq, rfl⟩ := List.mem_map.mp hv
    have hk2 : q.2 ∈ ks := by rw [← eK]; exact List.mem_map_of_mem hq
    exact ⟨q.2, ti q hq, hB _ hk2⟩
  refine wpAny_bind (wpAny_holding (TS.call_sort_tups (s := { s with heap := h'.push (seqObj "list" (L0.map fun q => Value.ref q.1).toArray 0), toks := tk }) hoL hlen hd1 tok fun out pm ord => wpAny_pure ⟨_, rfl, ?_⟩))
  obtain ⟨L', pL, eL'⟩ := perm_lift (fun q : Addr × List Int => Value.ref q.1) pm L0 rfl
  obtain ⟨n2, hn2⟩ := sortedHeap_at (vs := L0.map fun q => Value.ref q.1) (out := out) hoL
  have kp : ∀ b o, s.heap.get? b = some o → (sortedHeap (h'.push (seqObj "list" (L0.map fun q => Value.ref q.1).toArray 0)) h'.objs.size (L0.map fun q => Value.ref q.1) out).get? b = some o := fun b o e => by
    have e2 := hk b o e
    have blo := Heap.lt_size e2
    rw [sortedHeap_old (Nat.ne_of_lt blo) (by rw [size_push']; exact Nat.lt_succ_of_lt blo)]
    exact Heap.get?_push_of_some _ e2
  have hn : H h'.objs.size = none := I.hok.fresh (show s.heap.objs.size ≤ h'.objs.size from le)
  have hl2 : L'.length < 64 := by rw [pL.length_eq]; simpa using hlen
  have rv : Vals (L'.map fun q => V.ref q.1) out.toList := by
    rw [← eL']
    exact vals_of_refs L'
  have J : L2.Inv X pins σ (upd H h'.objs.size (.lst (L'.map fun q => V.ref q.1))) { s with heap := sortedHeap (h'.push (seqObj "list" (L0.map fun q => Value.ref q.1).toArray 0)) h'.objs.size (L0.map fun q => Value.ref q.1) out, toks := tk } :=
    I.laid kp (show s.heap.objs.size ≤ h'.objs.size from le) ⟨by rw [List.length_map]; omega, out.toList, n2, rv, hn2⟩
  refine ⟨.ref h'.objs.size, _, J, rfl, q _ L' hn ?_ ndk ?_ fun z hz => hL z (pL.mem_iff.mp hz)⟩
  · rw [← eK]; exact pL.map _
  · rw [← eL', List.pairwise_map] at ord
    refine List.Pairwise.imp_of_mem (fun {x y} hx hy h => ?_) ord
    have e1 := (ti x (pL.mem_iff.mp hx)).ints
    have e2 := (ti y (pL.mem_iff.mp hy)).ints
    rw [← e1, ← e2]
    exact h
theorem pec_sortedD (hm : c.g.mg "sorted" = none) (ha : PEc c e te) (hs : ∀ env, starEach [e] env = (false, eval e env) :: starEach [] env := by intro _; rfl) (hg : GlS c.sc "sorted" := by rfl) : PEc c (.Call (.Name "sorted" p) [e] [] pos) (tCB (rSortD 3 100) (tCons te tNil)) :=
  pec_cb (id := "sorted") (fun X h => cr_sortD (by decide) h.hc) hm (by decide +kernel) (pac_cons ha pac_nil hs) hg (by decide) (by decide) hs (by intro _; rfl)
end
def keysF : List (Str × Str) := [("bide", "bide_fault"), ("fill", "fill_fault"), ("go", "go_fault"), ("lift", "lift_fault"), ("set", "set_fault"), ("hand", "hand_fault")]
def tFaults (K : PySem.W.Frag) (w : World) (R : Str → List Res → Bx → Post → Prop) (te : TE) (t : TA) : TE := fun σ H Q => tOp (rIxD K w) (tC (.ref (He.ga K "FAULTS"))) te σ H fun v H1 => ∃ f, v = .ref (He.ga K f) ∧ (∃ x, (x, f) ∈ keysF) ∧ t σ H1 fun vs H2 => spP K (R f) vs H2 Q E0
theorem Txt.gaF {g : Gb} (T : Txt g) {x f : Str} (h : (x, f) ∈ keysF) : g.mg f = some (.ref (He.ga g.K f)) := by
  simp only [keysF, List.mem_cons, Prod.mk.injEq, List.not_mem_nil, or_false] at h
  rcases h with ⟨_, rfl⟩ | ⟨_, rfl⟩ | ⟨_, rfl⟩ | ⟨_, rfl⟩ | ⟨_, rfl⟩ | ⟨_, rfl⟩
  · exact T.glo 44 _ rfl
  · exact T.glo 43 _ rfl
  · exact T.glo 39 _ rfl
  · exact T.glo 40 _ rfl
  · exact T.glo 41 _ rfl
  · exact T.glo 42 _ rfl
section
variable {c : Ct} {e f' : Expr} {es : List Expr} {te : TE} {t : TA} {pos p p2 p3 : Pos}
theorem arm_sub (v i : Expr) (p : Pos) (args : List Expr) (pos : Pos) (env : PySem.Env) : eval (.Call (.Subscript v i p) args [] pos) env = (do
    callWith pos (← eval (.Subscript v i p) env) [] (backTo pos (starEach args env)) (backToKw pos (keywordEach [] env))) := rfl
theorem pec_faults (T : Txt c.g) {R : Str → List Res → Bx → Post → Prop} {ps : List Str} {k : Nat} (F : ∀ x f, (x, f) ∈ keysF → FnP c.g f ps k (R f)) (hi : PEc c f' te) (ha : PAc c (e :: es) t) (hk : Nat.ble k c.k = true := by rfl) (hg : GlS c.sc "FAULTS" := by rfl) (hp : PlainIx f' := by exact fun _ _ => rfl)
    (he : ∀ env, starEach (e :: es) env = (false, eval e env) :: starEach es env := by intro _; rfl) (hpl : ∀ env, (backTo pos (starEach es env)).any (·.1) = false := by intro _; rfl) :
    PEc c (.Call (.Subscript (.Name "FAULTS" p) f' p2) (e :: es) [] pos) (tFaults c.g.K c.g.w R te t) := fun X h => by
  refine .mk fun pins s σ H Q I q => ?_
  rw [arm_sub]
  refine wpAny_bind ?_
  obtain ⟨ds, n, hd⟩ := T.FAULTSt
  have pix : PE X (.Subscript (.Name "FAULTS" p) f' p2) (tOp (rIxD X.K X.w) (tC (.ref (He.ga c.g.K "FAULTS"))) te) := pe_ix ix_kdict (pec_gref (pos := p) T.FAULTS hg (by decide) X h) (hi X h) hp
  rw [h.hK, h.hw] at pix
  refine thn (pix.run pins s σ H _ I q) fun v s1 ⟨y, H1, I1, r1, f, ey, ⟨x, hx⟩, q1⟩ => ?_
  subst ey
  obtain rfl : v = Value.ref (He.ga c.g.K f) := r1
  obtain ⟨fa, fd, D, Fn⟩ := F x f hx
  have ef : He.ga c.g.K f = fa := by
    have := T.gaF hx
    rw [D.mg] at this
    cases this
    rfl
  rw [ef]
  refine PySem.W.callWith_K (h₀ := X.base) I1.ok.mod.kin (by rw [h.hK]; exact D.kp) (thn ((ha X h).run pos pins s1 σ H1 _ I1 q1) fun us s2 ⟨vs, H2, I2, r, q2⟩ => ⟨I2.kIn, ?_⟩) (he _) (hpl _)
  have Fn' : FnOk X.prog X.w X.K X.mg X.base CX0 k fa fd ps (spP c.g.K (R f)) := by
    rw [h.hP, h.hw, h.hK, h.hm, h.hb]; exact Fn
  exact run_fn (dvs := []) (ds := []) Fn' (h.hr.mono (Nat.le_of_ble_eq_true hk)) (by rw [h.hK]; exact D.bd) .nil pass0 I2 r (by rw [List.append_nil]; exact q2)
end
section
variable {K : PySem.W.Frag} {B : Hp} {bx : Option Addr} {ρ : Env} {β β' β1 β2 : Bx} {r : Res} {f1 f2 f3 f4 fr : Bool} {ta tb td tf te : TE} {tr : TA} {C : Post} {x y : Res} {i j m n : Int}
theorem evp_faults {w : World} {R : Str → List Res → Bx → Post → Prop} {z f : Str} (hk : ∃ es n, KDict K w (He.ga K "FAULTS") es n) (hv : PySem.W.nsIn K (He.ga K "FAULTS") z = some (some (.ref (He.ga K f)))) (hm : (z, f) ∈ keysF) (hi : EvR K B bx te ρ β f1 (.d (.str z)) β)
    (ha : EvAP K B bx tr ρ β fun rs β1 => ∃ P, R f rs β1 P ∧ ∀ r β', P r β' → C r β') : EvP K B bx (tFaults K w R te tr) ρ β true C := fun σ H S Q g =>
  hi σ H S _ fun v H1 A k1 b1 r1 _ => by
    obtain ⟨es, n, hd⟩ := hk
    refine ⟨_, z, .ref (He.ga K f), rfl, r1.1.inv_str, ⟨es, n, .ref (He.ga K f), hd.at_, hd.lit, hv, rfl⟩, f, rfl, ⟨z, hm⟩, ?_⟩
    refine ha σ H1 (S.step k1 b1) _ fun rs β1 vs H2 ⟨P, hT, hP⟩ k2 b2 r2 => ⟨rs, β1, P, hT, bx, fun b e h0 => ?_, b2, r2, fun r β' h => (g r β' (hP r β' h)).behind (k1.trans k2) b2⟩
    have := b2 b e
    rw [h0] at this; cases this
theorem ev_mulS {s : Nat} (ha : EvR K B bx ta ρ β f1 (.d (.str ⟨#[s]⟩)) β1) (hb : EvR K B bx tb ρ β1 f2 (.d (.int n)) β2) (h0 : 0 ≤ n) (h1 : n ≤ 1000) : EvR K B bx (tOp rMulS ta tb) ρ β true (.d (.str ⟨(List.replicate n.toNat s).toArray⟩)) β2 :=
  ev_bin ha hb fun H vx vy Ax Ay rx ry Q g => ⟨s, n, rx.1.inv_str, ry.1.inv_int, h0, h1, g _ (.str _)⟩
theorem ev_ch3 (ha : EvR K B bx ta ρ β f1 (.d (.int i)) β) (hb : EvR K B bx tb ρ β f2 (.d (.int j)) β) (hd : EvR K B bx td ρ β f3 (.d (.int m)) β) (hf : EvR K B bx tf ρ β f4 (.d (.int n)) β) :
    EvR K B bx (tCh3 ta tb td tf) ρ β true (.d (.bool (decide (i ≤ j) && (decide (j ≤ m) && decide (m ≤ n))))) β := fun σ H S Q g =>
  ha σ H S _ fun v1 H1 A1 k1 b1 r1 _ => hb σ H1 (S.step k1 b1) _ fun v2 H2 A2 k2 b2 r2 _ => ⟨i, j, (r1.kp b1 k2).1.inv_int, r2.1.inv_int, _, rfl, by
    cases e : decide (i ≤ j) with
    | false => exact iteF ((g.behind (k1.trans k2) b2).d b2 (by rw [e]; exact .bl _))
    | true =>
      refine iteT (hd σ H2 (S.step (k1.trans k2) b2) _ fun v3 H3 A3 k3 b3 r3 _ => ⟨j, m, (r2.kp b2 k3).1.inv_int, r3.1.inv_int, _, rfl, ?_⟩)
      cases e2 : decide (j ≤ m) with
      | false => exact iteF ((g.behind ((k1.trans k2).trans k3) b3).d b3 (by rw [e, e2]; exact .bl _))
      | true =>
        refine iteT (hf σ H3 (S.step ((k1.trans k2).trans k3) b3) _ fun v4 H4 A4 k4 b4 r4 _ => ⟨m, n, (r3.kp b3 k4).1.inv_int, r4.1.inv_int, ?_⟩)
        exact (g.behind (((k1.trans k2).trans k3).trans k4) b4).d b4 (by rw [e, e2]; exact .bl _)⟩
/-- the box's places -/
theorem ev_box0 (ha : EvR K B bx ta ρ β f1 .box β1) (hb : EvR K B bx tb ρ β1 f2 (.d (.int 0)) β2) : EvR K B bx (tOp (rSeq K) ta tb) ρ β true (.d (.int β2.1)) β2 :=
  evr_op ha hb fun H vx vy Ax Ay bi rx ry Q g => by
    obtain ⟨b, rfl, eb, _⟩ := rx
    exact .inl ⟨b, _, 0, .int β2.1, rfl, ry.1.inv_int, .inl (.inl (bi b eb)), rfl, g.d bi (.int _)⟩
theorem ev_box1 (ha : EvR K B bx ta ρ β f1 .box β1) (hb : EvR K B bx tb ρ β1 f2 (.d (.int 1)) β2) : EvR K B bx (tOp (rSeq K) ta tb) ρ β true (.d (.int β2.2)) β2 :=
  evr_op ha hb fun H vx vy Ax Ay bi rx ry Q g => by
    obtain ⟨b, rfl, eb, _⟩ := rx
    exact .inl ⟨b, _, 1, .int β2.2, rfl, ry.1.inv_int, .inl (.inl (bi b eb)), rfl, g.d bi (.int _)⟩
variable {N : Env → Bx → Prop} {R : Res → Bx → Prop} {to ti : TE}
/-- box[k] = v: the box moves -/
theorem go_box {k : Int} (ho : ∀ β, EvR K B bx to ρ β f1 .box β) (hi : ∀ β, EvR K B bx ti ρ β f2 (.d (.int k)) β) (hk : k = 0 ∨ k = 1) (h : EvP K B bx te ρ β fr fun r β1 => ∃ v, r = .d (.int v) ∧ N ρ (if k = 0 then (v, β1.2) else (β1.1, v))) : GoR K B bx (tAsg te (gSub to ti rSetL)) ρ β N R := fun σ H D S n rt =>
  h σ H S _ fun r β1 ⟨v, er, hn⟩ w H1 A k1 b1 rv f => by
    subst er
    have S1 := S.step k1 b1
    refine ho β1 σ H1 S1 _ fun o H2 A2 k2 b2 r2 _ => hi β1 σ H2 (S1.step k2 b2) _ fun iv H3 A3 k3 b3 r3 _ => ?_
    obtain ⟨b, rfl, eb, _⟩ := r2
    have S3 := (S1.step k2 b2).step k3 b3
    have hb3 := b3 b eb
    have key : ∀ β' : Bx, (∀ c, (some c : Option Addr) = some b → c = b) → ∀ xs, xs = [V.int β'.1, V.int β'.2] → RS K B bx ρ β' σ (upd H3 b (.lst xs)) ∧ TK H3 (upd H3 b (.lst xs)) := fun β' _ xs ex => by
      subst ex
      have kk : Kp bx H3 (upd H3 b (.lst [V.int β'.1, V.int β'.2])) := fun a o h nb => by
        rw [upd_ne (fun q => nb (by rw [q]; exact eb))]; exact h
      refine ⟨S3.step kk fun c hc => ?_, kk.tk b3⟩
      rw [eb] at hc
      cases hc
      exact upd_same
    have ew : w = .int v := rv.1.inv_int
    subst ew
    have tk0 : TK H H3 := ((k1.trans k2).trans k3).tk S.bi
    rcases hk with rfl | rfl
    · obtain ⟨S4, t4⟩ := key (v, β1.2) (fun c h => by cases h; rfl) _ rfl
      exact ⟨b, _, 0, 0, rfl, r3.1.inv_int, hb3, rfl, n ρ _ σ _ (by simpa using hn) (fun a xs q => t4 a xs (tk0 a xs q)) S4⟩
    · obtain ⟨S4, t4⟩ := key (β1.1, v) (fun c h => by cases h; rfl) _ rfl
      exact ⟨b, _, 1, 1, rfl, r3.1.inv_int, hb3, rfl, n ρ _ σ _ (by simpa using hn) (fun a xs q => t4 a xs (tk0 a xs q)) S4⟩
/-- an own list's place -/
theorem go_setL {i : Nat} {zs : List D} {kn : Nat} (e : ρ[i]? = some (some (.l zs))) (hk : kn < zs.length) (hi : ∀ β, EvR K B bx ti ρ β f2 (.d (.int (kn : Int))) β) (h : EvP K B bx te ρ β fr fun r β1 => ∃ z, r = .d z ∧ N (ρ.set i (some (.l (zs.set kn z)))) β1) : GoR K B bx (tAsg te (gSub (tVar i) ti rSetL)) ρ β N R := fun σ H D S n rt =>
  h σ H S _ fun r β1 ⟨z, er, hn⟩ w H1 A k1 b1 rv f => by
    subst er
    have S1 := S.step k1 b1
    obtain ⟨p0, _, e1, _⟩ := S1.mut (ds' := zs) e
    refine ⟨_, e1, hi β1 σ H1 S1 _ fun iv H2 A2 k2 b2 r2 _ => ?_⟩
    have S2 := S1.step k2 b2
    obtain ⟨p, ws, e2, nb, hp, rr, hm⟩ := S2.mut (ds' := zs.set kn z) e
    rw [e1] at e2
    cases e2
    obtain ⟨S3, t3⟩ := hm (ws.set kn w) (rr.set (rv.1.tk (k2.tk b1)))
    have tk0 : TK H H2 := (k1.trans k2).tk S.bi
    refine ⟨p0, ws, (kn : Int), kn, rfl, r2.1.inv_int, hp, ?_, n _ β1 σ _ hn (fun a xs q => t3 a xs (tk0 a xs q)) S3⟩
    unfold ixN
    have := rr.length
    simp
    omega
theorem ev_dnewT : EvR K B bx tDNewT ρ β true (.t []) β := fun σ H S Q g p hp =>
  g _ _ [p] (Kp.new hp) (S.bi.new hp) ⟨p, rfl, S.bi.ne hp, upd_same, rfl⟩ fun _ q hq => by
    simp at hq; subst hq; exact hp
def putT (ks : List (List Int)) (k : List Int) : List (List Int) := if k ∈ ks then ks else ks ++ [k]
theorem inl_inj : ∀ {a b : List Int}, (a.map Sum.inl : List Key) = b.map Sum.inl → a = b
  | [], [], _ => rfl
  | x :: a, y :: b, h => by
    rw [List.map_cons] at h; rw [List.map_cons] at h
    injection h with h1 h2
    rw [Sum.inl.inj h1, inl_inj h2]
  | [], _ :: _, h => by cases h
  | _ :: _, [], h => by cases h
theorem kt_any (k : List Int) : ∀ ks : List (List Int), (ks.map ktOf).any (fun q => decide (q.1 = (k.map Sum.inl : List Key))) = decide (k ∈ ks)
  | [] => by simp
  | q :: ks => by
    rw [List.map_cons, List.any_cons, kt_any k ks]
    show (decide ((q.map Sum.inl : List Key) = k.map Sum.inl) || _) = _
    by_cases h : q = k
    · rw [h]; simp
    · rw [decide_eq_false (fun e => h (inl_inj e)), Bool.false_or]
      by_cases h2 : k ∈ ks
      · rw [decide_eq_true h2, decide_eq_true (List.mem_cons_of_mem _ h2)]
      · rw [decide_eq_false h2, decide_eq_false]
        intro h3
        rcases List.mem_cons.mp h3 with e | e
        · exact h e.symm
        · exact h2 e
theorem putK_kt (ks : List (List Int)) (k : List Int) : putK (ks.map ktOf) (k.map Sum.inl) (V.bl true) = (putT ks k).map ktOf := by
  unfold putK putT
  rw [kt_any]
  by_cases h : k ∈ ks
  · rw [if_pos (decide_eq_true h), if_pos h, List.map_map]
    refine List.map_congr_left fun q _ => ?_
    show (if (q.map Sum.inl : List Key) = k.map Sum.inl then ((q.map Sum.inl : List Key), V.bl true) else ktOf q) = ktOf q
    split
    · rfl
    · rfl
  · rw [if_neg (by rw [decide_eq_false h]; exact Bool.false_ne_true), if_neg h, List.map_append]; rfl
theorem go_dput {i : Nat} {ks : List (List Int)} (e : ρ[i]? = some (some (.t ks))) (hl : ks.length < 60) (h : EvAP K B bx tr ρ β fun rs β1 => ∃ k : List Int, rs = k.map (fun i => Res.d (.int i)) ∧ k.length ≤ 1000 ∧ N (ρ.set i (some (.t (putT ks k)))) β1) : GoR K B bx (sDPut (tVar i) (tTup tr) (tC (.bl true))) ρ β N R := fun σ H D S n rt => by
  obtain ⟨kp, bb, bi, len, fa, h1, h2, h3⟩ := id S
  obtain ⟨v, ev, rv0⟩ := h1 i _ e
  refine ⟨v, ev, h σ H S _ fun rs β1 vs H1 ⟨k, er, hk, hn⟩ k1 b1 rw_ => ?_⟩
  subst er
  have rr : Reps K H1 vs (k.map PyData.int) := RVs.reps (bx := bx) (by rw [List.map_map]; exact rw_)
  have ex := rr.ints
  subst ex
  refine ⟨by rw [List.length_map]; exact Nat.le_trans hk (by decide), fun b hb => ?_⟩
  have kn : Kp bx H1 (upd H1 b (.tup (k.map V.int))) := Kp.new hb
  have S1 := S.step (k1.trans kn) (b1.new hb)
  obtain ⟨p, rfl, nb, hp, eA⟩ := rv0.kp bi (k1.trans kn)
  have hb' : upd H1 b (.tup (k.map V.int)) b = some (.tup ((k.map Sum.inl : List Key).map kV)) := by
    rw [upd_same, List.map_map]; rfl
  refine ⟨p, _, rfl, DPut.t hp hb' (by rw [List.length_map]; exact Nat.lt_trans hl (by decide)), ?_⟩
  rw [putK_kt]
  obtain ⟨S2, t2⟩ := S1.mutA (r' := .t (putT ks k)) (o' := .dT ((putT ks k).map ktOf)) e hp nb (fun _ h => by cases h) (fun _ _ h => by cases h) ev fun A ⟨q, eq_, n2, hq, hA⟩ => by
    cases eq_
    rw [hA]
    exact ⟨by simp, p, rfl, n2, upd_same, rfl⟩
  exact n _ β1 σ _ hn (fun a xs q => t2 a xs ((k1.trans kn).tk S.bi a xs q)) S2
/-- tuple(sorted(dict)) -/
theorem evr_sortD {i : Nat} {ks : List (List Int)} (e : ρ[i]? = some (some (.t ks))) (h64 : ks.length < 64) (hb : ∀ k ∈ ks, k.length = 3 ∧ TS.Bd 100 k) (c : ∀ L : List (List Int), L.Perm ks → L.Nodup → L.Pairwise (fun a b => TS.code 100 a ≤ TS.code 100 b) → C (.d (.tuple (L.map fun k => .tuple (k.map PyData.int)))) β) :
    EvP K B bx (tThen (tCB (rSortD 3 100) (tCons (tVar i) tNil)) (kTup K)) ρ β fr C := fun σ H S Q g => by
  obtain ⟨kp, bb, bi, len, fa, h1, h2, h3⟩ := id S
  obtain ⟨v, ev, p, rfl, nb, hp, eA⟩ := h1 i _ e
  refine ⟨_, ev, p, ks, rfl, hp, h64, hb, fun l L hl pm nd ord ht => ?_⟩
  have kn : Kp bx H (upd H l (.lst (L.map fun q => V.ref q.1))) := Kp.new hl
  have rr : ∀ L : List (Addr × List Int), (∀ q ∈ L, H q.1 = some (.tup (q.2.map V.int))) → Reps K (upd H l (.lst (L.map fun q => V.ref q.1))) (L.map fun q => V.ref q.1) (L.map fun q => PyData.tuple (q.2.map PyData.int)) → True := fun _ _ _ => trivial
  have rs : ∀ (M : List (Addr × List Int)), (∀ q ∈ M, q ∈ L) → Reps K (upd H l (.lst (L.map fun q => V.ref q.1))) (M.map fun q => V.ref q.1) (M.map fun q => PyData.tuple (q.2.map PyData.int)) := by
    intro M
    induction M with
    | nil => intro _; exact .nil
    | cons q M ih =>
      intro hM
      refine .cons (.tup (.inl ?_) (Reps.mkInts _)) (ih fun z hz => hM z (List.mem_cons_of_mem _ hz))
      have := ht q (hM q List.mem_cons_self)
      rw [upd_ne (ne_of_none this hl)]
      exact this
  have c' := c (L.map (·.2)) pm (pm.nodup_iff.mpr nd) (List.pairwise_map.mpr ord)
  rw [List.map_map] at c'
  exact .inl ⟨l, _, rfl, .inl (.inl upd_same), fun q hq => ((g _ _ c').behind kn (S.bi.new hl)).tup (S.bi.new hl) (rs L fun _ h => h) hq⟩
end
end K20
set_option maxHeartbeats 4000000
namespace K20
open PySem PySem.Spec PyProof.Rows L2
/-- one more member -/
def oneMore (w : World) (p : Addr) (M : Int → Bool) (n : Nat) (k : Int) : HO := SetO w p (fun j => M j || decide (j = k)) (if M k = true then n else n + 1)
/-- the heap with the new set -/
abbrev bareS (w : World) (H : Hp) (p : Addr) : Hp := upd H p (SetO w p (fun _ => false) 0)
def tScI (w : World) (wi : TI) (g : TG) (te : TE) (vs : List Nat) : TE := fun σ H Q => wi σ H fun J H1 => ∀ p, H1 p = none → ∃ P : Nat → Nat → Hp → Prop, (∃ m, P 0 m (bareS w H1 p)) ∧
  ∀ i m H', P i m H' → (J.stop i H' ∧ Q (.ref p) H') ∨ (J.go i H' ∧ ∃ Z : Hp → Prop, (∀ H2, Z H2 → ∃ l, l < m ∧ P (i + 1) l H2) ∧
    ∀ x H2, J.yld i H' x H2 → g x (wipe σ vs) H2 fun τ H3 => wipe τ vs = wipe σ vs ∧ te τ H3 fun y H4 => ∃ (k : Int) (M : Int → Bool) (n : Nat), y = .int k ∧ H4 p = some (SetO w p M n) ∧ n + 1 < scanBound ∧ Z (upd H4 p (oneMore w p M n k)))
theorem addI_ok {X : Cx} {pins : List (Addr × Obj)} {σ : L2.St} {H : Hp} {s : Shared} {E : Value → Shared → Prop} {p : Addr} {M : Int → Bool} {n : Nat} {k : Int} {t : Tok} {Q : Value → Shared → Prop} (I : L2.Inv X pins σ H s) (hp : H p = some (SetO X.w p M n)) (room : n + 1 < scanBound)
    (h : ∀ s', L2.Inv X pins σ (upd H p (oneMore X.w p M n k)) s' → Q .none s') : wpAny (model X.prog X.w) X.A (call (.builtin "set.add") [.ref p, .int k t]) Q E s :=
  setR_add (setO_get I hp) room fun h' sb new => h _ (I.write (e := p) (t' := s.toks + 1) (by rw [hp]; trivial) (.inl rfl) (fun b u hb hu => (sb.2 b hb).trans hu) (let ⟨o, _, _, _, ho, _⟩ := new; ⟨o, ho⟩) (setO_new new))
section
variable {X : Cx} {elt tg iter : Expr} {scope : Scope} {own : List (Str × Nat)} {pos : Pos} {wi : TI} {g : TG} {te : TE}
/-- the block's context -/
abbrev bk (X : Cx) (s : Shared) (H : Hp) (scope : Scope) (fp : List Addr) : Cx := X.blk s H scope (compEnvC scope (cellsFrom (s.heap.objs.size + 1) scope.names (cloFrom X.env.cells scope.names [])) s.heap.objs.size X.env) fp
abbrev bkE (X : Cx) (s : Shared) (scope : Scope) : PySem.Env := compEnvC scope (cellsFrom (s.heap.objs.size + 1) scope.names (cloFrom X.env.cells scope.names [])) s.heap.objs.size X.env
theorem pe_scI (calm : X.calm = true) (nd : X.N.Nodup) (hi : PI X tg iter wi) (ok : BlkOk X.N X.env.scope scope own)
    (hg : ∀ s H C cl fp, PG (X.blk s H scope (compEnvC scope cl C X.env) fp) tg g) (he : ∀ s H C cl fp, PE (X.blk s H scope (compEnvC scope cl C X.env) fp) elt te) (hs : ∀ x, foldedSetIterable iter X.env x = pure x) :
    PE X (.SetComp elt [⟨tg, iter, [], 0⟩] scope pos) (tScI X.w wi g te (own.map (·.2))) := by
  refine ⟨fun pins s σ H Q I0 want => ?_⟩
  rw [PpSet.eval_SetComp]
  have fr : ∀ y ∈ scope.names, y.2 = .free → ∃ c, X.env.cells.lookup y.1 = some c := fun y hy e => (ok.free y hy e).elim (fun k => I0.ok.has _ (.inl k)) fun k => I0.ok.has _ (.inr k)
  refine wpAny_comprehension_free (use := none) rfl hs (closure_ok fr) ok.kind (fun y hy e => by rw [ok.uniq y hy, e]) ?_
  refine thn (hi.run pins s σ H _ I0 want) fun xv sa hx => thn hx fun itv sb ⟨it, fp, tn, J, Hb, e, Ib, T, stb, fpb, wantb⟩ => ?_
  subst e
  refine PpSet.newSet_ok (newEnv_comp ?_)
  have fz : Hb sb.heap.objs.size = none := Ib.hok.fresh (Nat.le_refl _)
  obtain ⟨P, ⟨m0, p0⟩, turn⟩ := wantb _ fz
  -- sc: with the set; sd: in the block
  obtain ⟨sc, esc⟩ : ∃ sc : Shared, sc = { sb with heap := sb.heap.push { cls := .type "set", dict := none, data := .set #[] 0 (.fresh 0 0 (!X.w.params.followText "set-order")) } } := ⟨_, rfl⟩
  rw [← esc]
  have hsc : sc.heap = sb.heap.push { cls := .type "set", dict := none, data := .set #[] 0 (.fresh 0 0 (!X.w.params.followText "set-order")) } := by rw [esc]
  have Ic : L2.Inv X pins σ (bareS X.w Hb sb.heap.objs.size) sc := by
    rw [esc]
    exact Ib.laid (t' := sb.toks) (fun b o e => Heap.get?_push_of_some _ e) (Nat.le_refl _) (setO_new (setR_fresh X.w))
  have lt : ∀ b ∈ fp, b < sb.heap.objs.size := fun b hb => let ⟨o, e, _⟩ := T.obj _ _ stb b hb; Heap.lt_size e
  have fpc : ∀ b ∈ fp, FpOk X pins (bareS X.w Hb sb.heap.objs.size) b ∧ b < sc.heap.objs.size := fun b hb => by
    refine ⟨⟨?_, (fpb b hb).2⟩, by rw [hsc, Heap.size_push]; exact Nat.lt_succ_of_lt (lt b hb)⟩
    show upd Hb sb.heap.objs.size _ b = none
    rw [upd_ne (Nat.ne_of_lt (lt b hb))]
    exact (fpb b hb).1
  have Id := block_start Ic ok nd fpc
  obtain ⟨pg, pe⟩ : PG (bk X sc (bareS X.w Hb sb.heap.objs.size) scope fp) tg g ∧ PE (bk X sc (bareS X.w Hb sb.heap.objs.size) scope fp) elt te := ⟨hg _ _ _ _ _, he _ _ _ _ _⟩
  have std : tn 0 (pushCells (sc.heap.push { cls := .type "dict", data := .dict #[] }) scope.names) := T.keep _ _ _ stb fun b _ o e => pushCells_keeps _ _ _ _ (Heap.get?_push_of_some _ (by rw [hsc]; exact Heap.get?_push_of_some _ e))
  have none0 : ∀ b ∈ fp, (bareS X.w Hb sb.heap.objs.size) b = none := fun b hb => (fpc b hb).1.1
  show codeAny _ _ (.compStart (.SetComp elt [⟨tg, iter, [], 0⟩] scope pos) 0 (.ref it) (.ref sb.heap.objs.size) (bkE X sc scope)) (compPost (model X.prog X.w) X.A X.xe none _ (.ref sb.heap.objs.size) sc.heap.objs.size) { sc with heap := pushCells (sc.heap.push { cls := .type "dict", data := .dict #[] }) scope.names }
  generalize sb.heap.objs.size = p at *
  generalize bareS X.w Hb p = Hc at *
  have fpk : ∀ {τ : L2.St} {H' : Hp} {z : Shared}, L2.Inv (bk X sc Hc scope fp) [] τ H' z → (∀ b ∈ fp, H' b = none) → ∀ b ∈ fp, FpOk (bk X sc Hc scope fp) [] H' b := fun I n b hb =>
    ⟨n b hb, (I.ok.exf b hb).1, I.ok.exfs b hb, .inl hb, (I.ok.exf b hb).2, fun q hq => absurd (show q ∈ ([] : List (Addr × Obj)) ++ [] from hq) (by simp)⟩
  have loop : codeAny (model X.prog X.w) X.A (.compLoop (.SetComp elt [⟨tg, iter, [], 0⟩] scope pos) 0 (.ref it) (.ref p) (bkE X sc scope)) (compPost (model X.prog X.w) X.A X.xe none (EP X pins σ Q) (.ref p) sc.heap.objs.size) { sc with heap := pushCells (sc.heap.push { cls := .type "dict", data := .dict #[] }) scope.names } := by
    refine PpSet.compLoopS_any (fun m z => ∃ i H', L2.Inv (bk X sc Hc scope fp) [] (wipe σ (own.map (·.2))) H' z ∧ tn i z.heap ∧ (∀ b ∈ fp, H' b = none) ∧ P i m H') ?_ m0 ⟨0, Hc, Id, std, none0, p0⟩
    rintro m z ⟨i, H1, I1, st1, n1, p1⟩
    rcases turn i m H1 p1 with ⟨stop, fin⟩ | ⟨go, Z, hZ, step⟩
    · refine thnF (T.done (bk X sc Hc scope fp) rfl rfl rfl calm i [] z _ H1 (fun _ _ => False) I1 (fpk I1 n1) st1 stop) fun r z2 ⟨hr, I2⟩ => ?_
      subst hr
      have back : L2.Inv X pins σ H1 z2 := Ic.call' (ch := fp) I2.os I2.base I2.hok I2.bare fun b hb => let q := (fpc b hb).1.2; ⟨q.2.2.1, q.1, q.2.2.2.1, q.2.2.2.2⟩
      have nC : H1 sc.heap.objs.size = none := I2.free
      obtain ⟨m', hn, _⟩ := I2.loc
      obtain ⟨f0, f1, f2, f3, f4, f5⟩ := Ic.fpOk (Nat.le_refl _) nC
      exact ⟨m', hn, fun h'' same => ⟨.ref p, H1, back.turned (t' := z2.toks) (fun b o hb e => (same.2 b hb).trans e) f0 f1 f3 f4 f5, rfl, fin⟩⟩
    · refine thnF (T.item (bk X sc Hc scope fp) rfl rfl rfl calm i [] z _ H1 (fun _ _ => False) I1 (fpk I1 n1) st1 go) fun r z2 ⟨u, hr, h2⟩ => ?_
      subst hr
      refine thnF h2 fun _ z3 ⟨x, H3, I3, r3, y3, st3, n3⟩ => ?_
      refine thnF (pg.run _ z3 _ H3 x u _ (I3.pinned (fpk I3 n3) (T.obj _ _ st3)) r3 (step x H3 y3)) fun _ z4 ⟨τ, H4, I4, wp, q4⟩ => ?_
      refine wpAny_pure ?_
      rw [if_pos rfl]
      refine thnF (pe.run _ z4 τ H4 _ I4 q4) fun v z5 ⟨y, H5, I5, r5, k, M, n, ey, hp5, room, hz⟩ => ?_
      subst ey
      obtain ⟨t, rfl⟩ := r5
      refine addI_ok (X := bk X sc Hc scope fp) I5 hp5 room fun z6 I6 => ?_
      obtain ⟨l, hl, pl⟩ := hZ _ hz
      have pin : ∀ b ∈ fp, ∀ o, z3.heap.get? b = some o → z6.heap.get? b = some o ∧ (upd H5 p (oneMore X.w p M n k)) b = none := fun b hb o e => let q := I6.pin (b, o) (List.mem_append_right _ (List.mem_append_right _ (mem_pinsAt hb e))); ⟨q.1, q.2.1⟩
      refine ⟨l, hl, i + 1, _, (I6.unpinned (pins := [])).weak (by rw [← wp, wipe_length]) (fun j v e => ?_), T.keep _ _ _ st3 fun b hb o e => (pin b hb o e).1, fun b hb => ?_, pl⟩
      · rw [← wp] at e
        exact (wipe_some e).1
      · obtain ⟨o, e, _⟩ := T.obj _ _ st3 b hb
        exact (pin b hb o e).2
  exact PpSet.codeAny_compStart_set loop (T.self X.A 0 _ _ _ std loop)
end
def tLenSc (w : World) (wi : TI) (g : TG) (te : TE) (vs : List Nat) : TE := fun σ H Q => tScI w wi g te vs σ H fun v H1 => ∃ p M n, v = .ref p ∧ H1 p = some (SetO w p M n) ∧ n < 100000 ∧ Q (.int (n : Nat)) H1
section
variable {c : Ct} {elt tg iter : Expr} {scope : Scope} {pos p p2 : Pos} {wi : TI} {g : TG} {te : TE}
theorem pec_lenSc (hm : c.g.mg "len" = none) (own : List (Str × Nat)) (nd : c.N.Nodup) (hi : PIc c tg iter wi) (hg : PGc (c.blk scope) tg g) (he : PEc (c.blk scope) elt te) (ok : blkC c.N c.sc scope own = true := by first | decide +kernel | (dsimp only [Ct.blk]; decide +kernel))
    (hs : ∀ env x, foldedSetIterable iter env x = pure x := by intro _ _; rfl) (hgl : GlS c.sc "len" := by rfl) : PEc c (.Call (.Name "len" p) [.SetComp elt [⟨tg, iter, [], 0⟩] scope p2] [] pos) (tLenSc c.g.w wi g te (own.map (·.2))) := fun X hX => by
  rw [← hX.hw]
  refine .mk fun pins s σ H Q I h => ?_
  refine Call_ (ld_blt I (hX.gl hgl) (hX.mg0 hm) boot_len ?_)
  refine PyProof.Rows.callWith_builtin1 (PyProof.Rows.args_cons ?_ (by rfl)) rfl rfl
  have pe := pe_scI (pos := p2) hX.hc (by rw [hX.hN]; exact nd) (hi X hX) (by rw [hX.hN, hX.hs]; exact blkOk_by ok) (fun s H C cl fp => hg _ (hX.blk scope s H C cl fp)) (fun s H C cl fp => he _ (hX.blk scope s H C cl fp)) (hs _)
  refine thn (pe.run pins s σ H _ I h) fun v s1 ⟨x, H1, I1, r1, q, M, n, ex, hq, hn, q1⟩ => PyProof.Rows.args_nil ?_
  subst ex
  cases r1
  obtain ⟨o, es, ep, t, ho, hex, hd, _, _, _, _, hf, en, _⟩ := setO_get I1 hq
  have big : (100000 : Int) < 2 ^ 63 := by decide
  exact call_len_set ho hex hd hf (by rw [en]; omega) ⟨.int (n : Nat), H1, I1.tok _, ⟨_, by rw [en]⟩, q1⟩
end
section
variable {K : PySem.W.Frag} {B : Hp} {bx : Option Addr} {ρ : Env} {β β1 : Bx} {te : TE} {wi : TI} {g : TG} {bnd : Bnd} {sl vs : List Nat} {tk : Bool} {w : World}
theorem ev_lenSc {α : Type} {xs : List α} {enc : α → D} {fk : α → Int} (hw : WkR K B bx wi ρ β tk (xs.map enc) β1) (hg : TgR K B bx g bnd sl) (nd : (xs.map fk).Nodup) (hsl : ∀ i ∈ sl, i ∈ vs := by decide) (hl : xs.length ≤ 4000)
    (he : ∀ y ∈ xs, ∃ ρ', bnd (enc y) (wipeR ρ vs) = some ρ' ∧ EvR K B bx te ρ' β1 true (.d (.int (fk y))) β1) : EvR K B bx (tLenSc w wi g te vs) ρ β true (.d (.int xs.length)) β1 := fun σ H S Q q => hw σ H S _ fun J H1 G k1 b1 hG _ W p hp => by
  have np : bx ≠ some p := b1.ne hp
  have hlen : (xs.map enc).length = xs.length := List.length_map _
  have scan : (4001 : Nat) ≤ scanBound := by decide
  refine ⟨fun i m H' => m = xs.length - i ∧ i ≤ xs.length ∧ (∃ M : Int → Bool, H' p = some (SetO w p M i) ∧ ∀ k, M k = true ↔ k ∈ (xs.take i).map fk) ∧ Kp bx H1 H' ∧ BoxIs bx H' β1, ⟨xs.length, by simp, Nat.zero_le _, ⟨_, upd_same, by simp⟩, Kp.new hp, b1.new hp⟩, ?_⟩
  rintro i m H2 ⟨rfl, hi, ⟨M, e2, hM⟩, k2, b2⟩
  by_cases hlt : i < xs.length
  · refine .inr ⟨W.goes i H2 (by rw [hlen]; exact hlt) (hG H2 k2), fun H' => (∃ M : Int → Bool, H' p = some (SetO w p M (i + 1)) ∧ ∀ k, M k = true ↔ k ∈ (xs.take (i + 1)).map fk) ∧ Kp bx H1 H' ∧ BoxIs bx H' β1, fun H' z => ⟨xs.length - (i + 1), by omega, rfl, hlt, z⟩, fun x H3 yl => ?_⟩
    obtain ⟨hy, d, hd, hr⟩ := W.yields i H2 x H3 (by rw [hlen]; exact hlt) (hG H2 k2) yl
    rw [List.getElem?_map, List.getElem?_eq_getElem hlt] at hd
    cases hd
    have kb : Kp bx H2 H3 ∧ BoxIs bx H3 β1 := by
      rcases hy with rfl | ⟨T, o, nT, rfl⟩
      · exact ⟨Kp.refl, b2⟩
      · exact ⟨Kp.new nT, b2.new nT⟩
    obtain ⟨ρ1, hρ1, hk⟩ := he xs[i] (List.getElem_mem hlt)
    have S3 : RS K B bx (wipeR ρ vs) β1 (L2.wipe σ vs) H3 := (S.wipe vs).step ((k1.trans k2).trans kb.1) kb.2
    refine hg _ _ ρ1 hρ1 x _ H3 hr _ fun σ2 hS4 hwp => ⟨by rw [hwp vs hsl, wipe_wipe], ?_⟩
    refine hk σ2 H3 (hS4 H3 β1 (fun _ _ h => h) S3) _ fun v H4 A4 k4 b4 r4 _ => ?_
    have k24 : Kp bx H2 H4 := kb.1.trans k4
    have new : M (fk xs[i]) ≠ true := fun h => by
      obtain ⟨y, hy, e⟩ := List.mem_map.mp ((hM _).mp h)
      obtain ⟨j, hj, ej⟩ := List.mem_iff_getElem.mp hy
      rw [List.length_take] at hj
      rw [List.getElem_take] at ej
      have : (xs.map fk)[j]'(by rw [List.length_map]; omega) = (xs.map fk)[i]'(by rw [List.length_map]; exact hlt) := by
        rw [List.getElem_map, List.getElem_map, ej]; exact e
      have := (List.getElem_inj nd).mp this
      omega
    refine ⟨fk xs[i], M, i, r4.1.inv_int, k24 _ _ e2 np, by omega, ⟨_, by rw [upd_same]; unfold oneMore; rw [if_neg new], fun k => ?_⟩, fun c o h n => ?_, fun b e => ?_⟩
    · rw [List.take_add_one, List.getElem?_eq_getElem hlt, List.map_append, Bool.or_eq_true, hM, List.mem_append]
      simp
    · rw [upd_ne (ne_of_none h hp)]; exact (k2.trans k24) c o h n
    · rw [upd_ne (fun h => np (by rw [← h]; exact e))]; exact b4 b e
  · have e : i = List.length xs := by omega
    subst e
    exact .inl ⟨by rw [← hlen]; exact W.stops H2 (hG H2 k2), p, M, xs.length, rfl, e2, by omega, (q.behind (k1.trans k2) b2).d b2 (.int _)⟩
end
end K20
set_option maxHeartbeats 4000000
namespace K20
open PySem PySem.Spec PyProof.Rows L2
theorem atN {α : Type} {ds : List α} {d : α} {i : Int} {n : Nat} (e : i = (n : Int)) (h : ds[n]? = some d) : L2.atI ds i = some d := by
  subst e
  have hl := (List.getElem?_eq_some_iff.mp h).1
  unfold L2.atI
  have q : ixN ds.length (n : Int) = some n := by
    unfold ixN
    simp
    omega
  rw [q]
  exact h
theorem at0 {α : Type} {d : α} {ds : List α} : L2.atI (d :: ds) 0 = some d := atN (n := 0) rfl rfl
theorem joinL0 : ∀ l : List (List Nat), TL.joinL [] l = l.flatten
  | [] => rfl
  | [p] => (List.append_nil p).symm
  | p :: q :: r => by
    show p ++ ([] ++ TL.joinL [] (q :: r)) = _
    rw [joinL0 (q :: r)]; rfl
theorem join0 (ys : List Str) : Txt.join "" ys = ⟨((ys.map fun t => t.cps.toList).flatten).toArray⟩ := by
  have h := SX.join_S [] (ys.map fun t => t.cps.toList)
  rw [joinL0, List.map_map] at h
  have e : (SX.S ∘ fun t : Str => t.cps.toList) = id := by
    funext t
    show (⟨t.cps.toList.toArray⟩ : Str) = t
    rw [Array.toArray_toList]
  rw [e, List.map_id] at h
  exact h
theorem sum_len (ys : List Str) : (ys.map (·.length)).sum = ((ys.map fun t => t.cps.toList).flatten).length := by
  induction ys with
  | nil => rfl
  | cons t ys ih =>
    rw [List.map_cons, List.sum_cons, ih, List.map_cons, List.flatten_cons, List.length_append]
    rfl
theorem Str.ext_cps {a b : Str} (h : a.cps.toList = b.cps.toList) : a = b := by
  cases a; cases b
  simp at h
  simpa using h
theorem one_sign {n m : Nat} : ((⟨#[n]⟩ : Str) = ⟨#[m]⟩) ↔ n = m := ⟨fun h => by
  have := congrArg (fun s : Str => s.cps) h
  simpa using this, fun h => by rw [h]⟩
namespace Yard
variable {y : Yard}
theorem cnt (y : Yard) : y.sg.length = (y.floors.flatten.map (·.length)).sum := (sum_len _).symm
theorem sgS_len (y : Yard) : y.sgS.length = y.sg.length := by
  show y.sg.toArray.size = _
  simp
end Yard
end K20
set_option maxHeartbeats 4000000
namespace K20
open PySem PySem.Spec PyProof.Rows L2
theorem wkr_cast {K : PySem.W.Frag} {B : Hp} {bx : Option Addr} {wi : TI} {ρ : Env} {β β1 : Bx} {tk : Bool} {ds es : List D} (h : WkR K B bx wi ρ β tk ds β1) (e : ds = es) : WkR K B bx wi ρ β tk es β1 := e ▸ h
theorem cut_init {α : Type} (xs : List α) : cutG xs none (some (-1)) = xs.dropLast := by
  unfold cutG
  show (xs.drop 0).take ((if (-1 : Int) < 0 then (-1 + (xs.length : Int)).toNat else min (-1 : Int).toNat xs.length) - 0) = _
  rw [if_pos (by decide), List.drop_zero, Nat.sub_zero, List.dropLast_eq_take]
  congr 1
  omega
theorem cut_tail {α : Type} (xs : List α) : cutG xs (some 1) none = xs.tail := by
  unfold cutG
  show (xs.drop (if (1 : Int) < 0 then (1 + (xs.length : Int)).toNat else min (1 : Int).toNat xs.length)).take (xs.length - (if (1 : Int) < 0 then (1 + (xs.length : Int)).toNat else min (1 : Int).toNat xs.length)) = _
  rw [if_neg (by decide)]
  cases xs with
  | nil => rfl
  | cons a l =>
    have e : min (1 : Int).toNat (a :: l).length = 1 := by simp
    rw [e]
    simp
inductive R_is_whole : List Res → Bx → Res → Bx → Prop
  | mk {i : Int} {β : Bx} : R_is_whole (one (.int i)) β (.d (.bool true)) β
theorem sc_is_whole : FnScope ["thing"] ["thing"] (defScope s_is_whole) := ⟨rfl, rfl, rfl, by decide +kernel, rfl, by decide +kernel, by decide +kernel⟩
theorem fn_is_whole {g : Gb} (T : Txt g) : FnX g "is_whole" ["thing"] 1 R_is_whole := by
  have nd := sc_is_whole.nd
  refine T.fnX 0 rfl sc_is_whole (fun _ _ _ _ _ _ us hl => match us, hl with | [_], _ => rfl) (by intro rs β r β' h; cases h <;> rfl) ⟨_, (pssc_one (psc_ret (pec_and (pec_isi (n := "int") T.b_isinstance T.b_int (by decide +kernel) (pec_var 0)) (pec_one (pec_not (pec_isi (n := "bool") T.b_isinstance T.b_bool (by decide +kernel) (pec_var 0))))))), ?_⟩
  intro rs β r β' h B bx
  rcases h with @⟨i, β⟩
  change GoR g.K B bx _ [some _] _ _ _
  exact go_ret (ev_vand (ev_isi (evr_var rfl)) fun _ => (ev_vnot (ev_isi (evr_var rfl)))) ⟨rfl, rfl⟩
inductive R_is_among : List Res → Bx → Res → Bx → Prop
  | mk {i lo hi : Int} {β : Bx} : R_is_among [.d (.int i), .d (.int lo), .d (.int hi)] β (.d (.bool (decide (lo ≤ i) && decide (i ≤ hi)))) β
theorem sc_is_among : FnScope ["thing", "low", "high"] ["thing", "low", "high"] (defScope s_is_among) := ⟨rfl, rfl, rfl, by decide +kernel, rfl, by decide +kernel, by decide +kernel⟩
theorem fn_is_among {g : Gb} (T : Txt g) : FnX g "is_among" ["thing", "low", "high"] 2 R_is_among := by
  have nd := sc_is_among.nd
  have c_is_whole := fn_is_whole T
  refine T.fnX 1 rfl sc_is_among (fun _ _ _ _ _ _ us hl => match us, hl with | [_, _, _], _ => rfl) (by intro rs β r β' h; cases h <;> rfl) ⟨_, (pssc_one (psc_ret (pec_and (pec_fn c_is_whole (pac_cons (pec_var 0) pac_nil)) (pec_one (pec_leLe (pec_var 1) (pec_var 0) (pec_var 2)))))), ?_⟩
  intro rs β r β' h B bx
  clear c_is_whole
  rcases h with @⟨i, lo, hi, β⟩
  change GoR g.K B bx _ [some _, some _, some _] _ _ _
  exact go_ret (ev_vand (ev_callD (dv_cons (evr_var rfl) dv_nil) .mk) fun _ => (ev_leLe (evr_var rfl) (evr_var rfl) (evr_var rfl))) ⟨rfl, rfl⟩
abbrev tri (u : Int × Int × Int) : List Int := [u.1, u.2.1, u.2.2]
inductive R_rises : List Res → Bx → Res → Bx → Prop
  | mk {l : List (Int × Int × Int)} {β : Bx} (h : l.Pairwise fun a b => HT.lexLt (tri a) (tri b) = true) (h2 : l.length ≤ 100) : R_rises (one (.tuple (l.map encShut))) β (.d (.bool true)) β
theorem zip_pw {α : Type} {P : α → α → Prop} : ∀ {l : List α}, l.Pairwise P → ∀ p ∈ l.dropLast.zip l.tail, P p.1 p.2
  | [], _, p, h => by cases h
  | [a], _, p, h => by cases h
  | a :: b :: l, hp, p, h => by
    rw [List.dropLast_cons₂, List.tail_cons, List.zip_cons_cons] at h
    rcases List.mem_cons.1 h with e | h
    · rw [e]; exact (List.pairwise_cons.mp hp).1 b (by simp)
    · exact zip_pw (List.pairwise_cons.mp hp).2 p h
theorem sc_rises : FnScope ["row", "one", "other"] ["row"] (defScope s_rises) := ⟨rfl, rfl, rfl, by decide +kernel, rfl, by decide +kernel, by decide +kernel⟩
theorem fn_rises {g : Gb} (T : Txt g) : FnX g "rises" ["row"] 1 R_rises := by
  have nd := sc_rises.nd
  refine T.fnX 2 rfl sc_rises (fun _ _ _ _ _ _ us hl => match us, hl with | [_], _ => rfl) (by intro rs β r β' h; cases h <;> rfl) ⟨_, (pssc_one (psc_ret (pec_all T.b_all (pec_lc [("one", 1), ("other", 2)] nd (pic_zip T.b_zip (pec_slT (pec_var 0) poc_none (poc_some (pec_neg pec_int))) (pec_slT (pec_var 0) (poc_some pec_int) poc_none)) (pgc_tup (n := 2) (pgsc_cons (pgc_name 1 nd) (pgsc_cons (pgc_name 2 nd) pgsc_nil))) ptsc_nil (pec_ltT (pec_var 1) (pec_var 2)))))), ?_⟩
  intro rs β r β' h B bx
  rcases h with @⟨l, β, h, h2⟩
  change GoR g.K B bx _ [some _, none, none] _ _ _
  refine go_ret (ev_cast (ev_allM (ev_lc (xs := l.dropLast.zip l.tail) (enc := fun p => prD (encShut p.1) (encShut p.2)) (f := fun p => .bool (HT.lexLt (tri p.1) (tri p.2))) (wkr_cast (wk_zipT (ev_slT (evr_var rfl) evo_none (evo_some (ev_neg (evr_c fun _ => .int _)))) (ev_slT (evr_var rfl) (evo_some (evr_c fun _ => .int _)) evo_none)) ?_) (tg_tup (tgs_cons (tg_name _) (tgs_cons (tg_name _) tgs_nil))) (by decide) ?_ fun y hy => ⟨_, rfl, (ev_ltT (ns := tri y.1) (ms := tri y.2) (evr_var rfl) (evr_var rfl))⟩)) ?_) ⟨rfl, rfl⟩
  · rw [cut_init, cut_tail, ← List.map_dropLast, ← List.map_tail, List.zip_eq_zipWith, List.map_zipWith, List.zipWith_map]
  · rw [List.length_zip, List.length_dropLast]; omega
  · rw [List.all_eq_true.mpr fun p hp => zip_pw h p hp]
inductive R_is_text : List Res → Bx → Res → Bx → Prop
  | mk {t : Str} {β : Bx} (h1 : 1 ≤ t.length) (h2 : t.length ≤ 5) (h3 : ∀ n ∈ t.cps.toList, n ∈ signsN) : R_is_text (one (.str t)) β (.d (.bool true)) β
theorem line5 : (100000 : Nat) ≤ sizeLine := by decide
theorem sc_is_text : FnScope ["thing", "sign"] ["thing"] (defScope s_is_text) := ⟨rfl, rfl, rfl, by decide +kernel, rfl, by decide +kernel, by decide +kernel⟩
theorem fn_is_text {g : Gb} (T : Txt g) : FnX g "is_text" ["thing"] 1 R_is_text := by
  have nd := sc_is_text.nd
  refine T.fnX 3 rfl sc_is_text (fun _ _ _ _ _ _ us hl => match us, hl with | [_], _ => rfl) (by intro rs β r β' h; cases h <;> rfl) ⟨_, (pssc_one (psc_ret (pec_and (pec_isi (n := "str") T.b_isinstance T.b_str (by decide +kernel) (pec_var 0)) (pec_and (pec_leLe pec_int (pec_len T.b_len (pec_var 0)) (pec_gint T.MOST_SIDE)) (pec_one (pec_all T.b_all (pec_lc [("sign", 1)] nd (pic_str (pec_var 0)) (pgc_name 1 nd) ptsc_nil (pec_inS (pec_var 1) (pec_gstr T.SIGNS))))))))), ?_⟩
  intro rs β r β' h B bx
  rcases h with @⟨t, β, h1, h2, h3⟩
  change GoR g.K B bx _ [some _, none] _ _ _
  refine go_ret (ev_cast (ev_vand (ev_isi (evr_var rfl)) fun _ => (ev_vand (ev_leLe (evr_c fun _ => .int _) (ev_lenS (evr_var rfl) (by have := line5; omega)) (evr_c fun _ => .int _)) fun _ => (ev_allM (ev_lc (xs := t.cps.toList) (enc := fun c => .str ⟨#[c]⟩) (wk_str (evr_var rfl)) (tg_name _) (by decide) ?_ fun y hy => ⟨_, rfl, (ev_inS (evr_var rfl) (evr_c fun _ => .str _))⟩)))) ?_) ⟨rfl, rfl⟩
  · show t.length ≤ _; omega
  · have q : (t.cps.toList.all fun n => decide (n ∈ (Str.ofString ".#SDPL").cps.toList)) = true := List.all_eq_true.mpr fun n hn => decide_eq_true (show n ∈ signsN from h3 n hn)
    rw [q]
    simp; omega
/-- a floor's rows -/
structure FloorOk (f : List Str) (down wide : Nat) : Prop where
  d : f.length = down
  w : ∀ t ∈ f, t.length = wide
  s : ∀ t ∈ f, ∀ n ∈ t.cps.toList, n ∈ signsN
inductive R_is_floor : List Res → Bx → Res → Bx → Prop
  | mk {f : List Str} {down wide : Nat} {β : Bx} (h : FloorOk f down wide) (h1 : 1 ≤ down) (h2 : down ≤ 5) (h3 : 1 ≤ wide) (h4 : wide ≤ 5) : R_is_floor (one (encRows f)) β (.d (.bool true)) β
theorem all_true {α : Type} {xs : List α} : (xs.all fun _ => true) = true := List.all_eq_true.mpr fun _ _ => rfl
theorem sc_is_floor : FnScope ["thing", "text"] ["thing"] (defScope s_is_floor) := ⟨rfl, rfl, rfl, by decide +kernel, rfl, by decide +kernel, by decide +kernel⟩
theorem fn_is_floor {g : Gb} (T : Txt g) : FnX g "is_floor" ["thing"] 2 R_is_floor := by
  have nd := sc_is_floor.nd
  have c_is_text := fn_is_text T
  refine T.fnX 4 rfl sc_is_floor (fun _ _ _ _ _ _ us hl => match us, hl with | [_], _ => rfl) (by intro rs β r β' h; cases h <;> rfl) ⟨_, (pssc_cons (psc_if (ptc_w (pwc_or (ptc_not (ptc_of (pec_isi (n := "tuple") T.b_isinstance T.b_tuple (by decide +kernel) (pec_var 0)))) (pwc_or (ptc_not (ptc_leLe pec_int (pec_len T.b_len (pec_var 0)) (pec_gint T.MOST_SIDE))) (pwc_or1 (ptc_not (ptc_of (pec_all T.b_all (pec_lc [("text", 1)] nd (pic_tup (pec_var 0)) (pgc_name 1 nd) ptsc_nil (pec_fn c_is_text (pac_cons (pec_var 1) pac_nil)))))))))) (pssc_one (psc_ret pec_bl)) pssc_nil)
    (pssc_one (psc_ret (pec_all T.b_all (pec_lc [("text", 1)] nd (pic_tup (pec_var 0)) (pgc_name 1 nd) ptsc_nil (pec_eq (pec_len T.b_len (pec_var 1)) (pec_len T.b_len (pec_ix (pec_var 0) pec_int)))))))), ?_⟩
  intro rs β r β' h B bx
  clear c_is_text
  rcases h with @⟨f, down, wide, β, h, h1, h2, h3, h4⟩
  change GoR g.K B bx _ [some _, none] _ _ _
  have hd := h.d
  refine go_ifr (ev_tcast (c := false) (ev_tor (evt_not (evt_of (ev_isi (evr_var rfl)))) fun _ => (ev_tor (evt_not (evt_of (ev_leLe (evr_c fun _ => .int _) (ev_len (evr_var rfl)) (evr_c fun _ => .int _)))) fun _ => (evt_not (evt_of (ev_allM (q := fun _ => true) (ev_lc (xs := f) (enc := PyData.str) (wk_tup (evr_var rfl)) (tg_name _) (by decide) ?_ fun y hy => ⟨_, rfl, (ev_callD (dv_cons (evr_var rfl) dv_nil) (.mk ?_ ?_ (h.s y hy)))⟩)))))) ?_) (fun h => by cases h) (fun _ => ?_)
  · omega
  · rw [h.w y hy]; exact h3
  · rw [h.w y hy]; exact h4
  · rw [all_true]; simp; omega
  · obtain ⟨t0, f', rfl⟩ : ∃ t0 f', f = t0 :: f' := by
      cases f with
      | nil => simp at hd; omega
      | cons a l => exact ⟨a, l, rfl⟩
    have w0 := h.w t0 (by simp)
    have big := line5
    refine go_ret (ev_cast (ev_allM (q := fun t => decide ((t.length : Int) = t0.length)) (ev_lc (xs := t0 :: f') (enc := PyData.str) (wk_tup (evr_var rfl)) (tg_name _) (by decide) (by omega) fun y hy => ⟨_, rfl, (ev_eq (ev_lenS (evr_var rfl) ?_) (ev_lenS (ev_ix (evr_var rfl) (evr_c fun _ => .int _) at0) ?_))⟩)) ?_) ⟨rfl, rfl⟩
    · have := h.w y hy; omega
    · omega
    · rw [List.all_eq_true.mpr fun t ht => by rw [h.w t ht, w0]; simp]
inductive R_are_floors : List Res → Bx → Res → Bx → Prop
  | mk {y : Yard} {β : Bx} (h : y.Ok) : R_are_floors (one (encFloors y.floors)) β (.d (.bool true)) β
theorem Yard.Ok.floor {y : Yard} (h : y.Ok) : ∃ down wide : Nat, 1 ≤ down ∧ down ≤ 5 ∧ 1 ≤ wide ∧ wide ≤ 5 ∧ ∀ f ∈ y.floors, FloorOk f down wide := by
  obtain ⟨down, wide, a, b, c, d, e⟩ := h.d
  refine ⟨down, wide, a, b, c, d, fun f hf => ⟨(e f hf).1, (e f hf).2, fun t ht n hn => h.s n ?_⟩⟩
  unfold Yard.sg
  exact List.mem_flatten.mpr ⟨_, List.mem_map.mpr ⟨t, List.mem_flatten.mpr ⟨f, hf, ht⟩, rfl⟩, hn⟩
theorem Yard.Ok.first {y : Yard} (h : y.Ok) : ∃ (t0 : Str) (f0 : List Str) (fs : List (List Str)), y.floors = (t0 :: f0) :: fs := by
  obtain ⟨down, wide, a, b, c, d, e⟩ := h.floor
  have h1 := h.f1
  cases hf : y.floors with
  | nil => rw [hf] at h1; simp at h1
  | cons f fs =>
    have := (e f (by rw [hf]; simp)).d
    cases f with
    | nil => simp at this; omega
    | cons t f0 => exact ⟨t, f0, fs, rfl⟩
theorem enc_flat (fs : List (List Str)) : fs.flatMap (fun r => r) = fs.flatten := by simp
theorem Yard.Ok.big {y : Yard} (h : y.Ok) : (y.floors.flatten.map (·.length)).sum + y.floors.flatten.length * (0 : Nat) ≤ 16777216 := by
  rw [← y.cnt]; have := h.n; omega
theorem ev_signs {K : PySem.W.Frag} {B : Hp} {bx : Option Addr} {ρ : Env} {β : Bx} {te to : TE} {y : Yard} {x : Res} (h : y.Ok) {f1 f2 : Bool} (ho : EvR K B bx to ρ β f1 (.d (.str "")) β) (he : EvR K B bx te ρ β f2 x β) (hx : x.seq = some (y.floors.flatten.map PyData.str)) : EvR K B bx (tM1 (rJoin K) to te) ρ β true (.d (.str y.sgS)) β :=
  ev_cast (ev_join ho he rfl h.big hx) (by rw [join0]; rfl)
inductive R_signs_of : List Res → Bx → Res → Bx → Prop
  | mk {y : Yard} {β : Bx} (h : y.Ok) : R_signs_of (one (encFloors y.floors)) β (.d (.str y.sgS)) β
theorem sc_are_floors : FnScope ["thing", "one", "first", "signs", "text"] ["thing"] (defScope s_are_floors) := ⟨rfl, rfl, rfl, by decide +kernel, rfl, by decide +kernel, by decide +kernel⟩
theorem fn_are_floors {g : Gb} (T : Txt g) : FnX g "are_floors" ["thing"] 3 R_are_floors := by
  have nd := sc_are_floors.nd
  have c_is_floor := fn_is_floor T
  refine T.fnX 5 rfl sc_are_floors (fun _ _ _ _ _ _ us hl => match us, hl with | [_], _ => rfl) (by intro rs β r β' h; cases h <;> rfl) ⟨_, (pssc_cons (psc_if (ptc_w (pwc_or (ptc_not (ptc_of (pec_isi (n := "tuple") T.b_isinstance T.b_tuple (by decide +kernel) (pec_var 0)))) (pwc_or (ptc_not (ptc_leLe pec_int (pec_len T.b_len (pec_var 0)) (pec_gint T.MOST_FLOORS))) (pwc_or1 (ptc_not (ptc_of (pec_all T.b_all (pec_lc [("one", 1)] nd (pic_tup (pec_var 0)) (pgc_name 1 nd) ptsc_nil (pec_fn c_is_floor (pac_cons (pec_var 1) pac_nil)))))))))) (pssc_one (psc_ret pec_bl)) pssc_nil)
    (pssc_cons (psc_asg (pec_ix (pec_var 0) pec_int) (pgc_name 2 nd))
    (pssc_cons (psc_if (ptc_not (ptc_of (pec_all T.b_all (pec_lc [("one", 1)] nd (pic_tup (pec_var 0)) (pgc_name 1 nd) ptsc_nil (pec_and (pec_eq (pec_len T.b_len (pec_var 1)) (pec_len T.b_len (pec_var 2))) (pec_one (pec_eq (pec_len T.b_len (pec_ix (pec_var 1) pec_int)) (pec_len T.b_len (pec_ix (pec_var 2) pec_int))))))))) (pssc_one (psc_ret pec_bl)) pssc_nil)
    (pssc_cons (psc_asg (pec_join pec_str (pec_lc2 [("one", 1), ("text", 4)] [4] nd (pic_tup (pec_var 0)) (pgc_name 1 nd) ptsc_nil (pic_tup (pec_var 1)) (pgc_name 4 nd) ptsc_nil (pec_var 4))) (pgc_name 3 nd))
    (pssc_one (psc_ret (pec_and (pec_le (pec_len T.b_len (pec_var 3)) (pec_gint T.MOST_CELLS)) (pec_one (pec_ne (pec_var 3) (pec_mulS (pec_gstr T.WALL) (pec_len T.b_len (pec_var 3)))))))))))), ?_⟩
  intro rs β r β' h B bx
  clear c_is_floor
  rcases h with @⟨y, β, h⟩
  change GoR g.K B bx _ [some _, none, none, none, none] _ _ _
  obtain ⟨down, wide, a1, a2, a3, a4, hf⟩ := h.floor
  obtain ⟨t0, f0, fs, e⟩ := h.first
  have l2 := h.f2
  have l1 := h.f1
  have big := line5
  refine go_ifr (ev_tcast (c := false) (ev_tor (evt_not (evt_of (ev_isi (evr_var rfl)))) fun _ => (ev_tor (evt_not (evt_of (ev_leLe (evr_c fun _ => .int _) (ev_len (evr_var rfl)) (evr_c fun _ => .int _)))) fun _ => (evt_not (evt_of (ev_allM (q := fun _ => true) (ev_lc (xs := y.floors) (enc := encRows) (wk_tup (evr_var rfl)) (tg_name _) (by decide) (by omega) fun f hm => ⟨_, rfl, (ev_callD (dv_cons (evr_var rfl) dv_nil) (.mk (hf f hm) a1 a2 a3 a4))⟩)))))) ?_) (fun h => by cases h) (fun _ => ?_)
  · rw [all_true]; simp; omega
  · refine go_seq1 (go_asg (ev_ix (d := encRows (t0 :: f0)) (evr_var rfl) (evr_c fun _ => .int _) ?_) ⟨rfl, rfl⟩) ?_
    · show L2.atI (y.floors.map encRows) 0 = _
      rw [e]; exact at0
    have w0 := (hf _ (show (t0 :: f0) ∈ y.floors by rw [e]; simp)).w t0 (by simp)
    have d0 := (hf _ (show (t0 :: f0) ∈ y.floors by rw [e]; simp)).d
    have row : ∀ f ∈ y.floors, ∃ t r, f = t :: r ∧ t.length = wide ∧ f.length = down := fun f hm => by
      have q := hf f hm
      cases f with
      | nil => have := q.d; simp at this; omega
      | cons t r => exact ⟨t, r, rfl, q.w t (by simp), q.d⟩
    refine go_ifr (ev_tcast (c := false) (evt_not (evt_of (ev_allM (q := fun _ => true) (ev_lc (xs := y.floors) (enc := encRows) (wk_tup (evr_var rfl)) (tg_name _) (by decide) (by omega) fun f hm => ?_)))) ?_) (fun h => by cases h) (fun _ => ?_)
    · obtain ⟨t, r, rfl, ht, hr⟩ := row f hm
      refine ⟨_, rfl, ev_cast (ev_vand (ev_eq (ev_len (evr_var rfl)) (ev_len (evr_var rfl))) fun _ => (ev_eq (ev_lenS (ev_ix (evr_var rfl) (evr_c fun _ => .int _) at0) ?_) (ev_lenS (ev_ix (evr_var rfl) (evr_c fun _ => .int _) at0) ?_))) ?_⟩
      · omega
      · omega
      · rw [List.length_map, List.length_map, hr, d0, ht, w0]; simp
    · rw [all_true]; rfl
    · refine go_seq1 (go_asg (ev_signs h (evr_c fun _ => .str _) (ev_lc2 (xs := y.floors) (enc := encRows) (inn := fun r => r) (enc1 := PyData.str) (f := PyData.str) (wk_tup (evr_var rfl)) (tg_name _) (by decide) (by omega) (tg_name _) (by decide) ?_ (by decide) fun y hy => ⟨_, rfl, (wk_tup (evr_var rfl)), fun z hz => ⟨_, rfl, (evr_var rfl)⟩⟩) ?_) ⟨rfl, rfl⟩) ?_
      · exact fun f hm => by have := (hf f hm).d; omega
      · rw [enc_flat]; rfl
      · have sl := y.sgS_len
        have n12 := h.n
        refine go_ret (ev_cast (ev_vand (ev_le (ev_lenS (evr_var rfl) ?_) (evr_c fun _ => .int _)) fun _ => (ev_ne (evr_var rfl) (ev_mulS (s := 35) (evr_c fun _ => .str _) (ev_lenS (evr_var rfl) ?_) ?_ ?_))) ?_) ⟨rfl, rfl⟩
        · omega
        · omega
        · omega
        · omega
        · obtain ⟨n, hn, hw⟩ := h.w
          have ne : y.sgS ≠ ⟨(List.replicate (y.sgS.length : Int).toNat 35).toArray⟩ := fun q => by
            have q2 : y.sg = List.replicate (y.sgS.length : Int).toNat 35 := by
              have := congrArg (fun s : Str => s.cps.toList) q
              simpa [Yard.sgS] using this
            rw [q2] at hn
            exact hw (List.eq_of_mem_replicate hn)
          have e2 : decide (y.sgS = ⟨(List.replicate (y.sgS.length : Int).toNat 35).toArray⟩) = false := decide_eq_false ne
          show PyData.bool (_ && !decide (y.sgS = _)) = _
          rw [e2]
          simp; omega
theorem sc_signs_of : FnScope ["floors", "floor", "text"] ["floors"] (defScope s_signs_of) := ⟨rfl, rfl, rfl, by decide +kernel, rfl, by decide +kernel, by decide +kernel⟩
theorem fn_signs_of {g : Gb} (T : Txt g) : FnX g "signs_of" ["floors"] 1 R_signs_of := by
  have nd := sc_signs_of.nd
  refine T.fnX 7 rfl sc_signs_of (fun _ _ _ _ _ _ us hl => match us, hl with | [_], _ => rfl) (by intro rs β r β' h; cases h <;> rfl) ⟨_, (pssc_one (psc_ret (pec_join pec_str (pec_lc2 [("floor", 1), ("text", 2)] [2] nd (pic_tup (pec_var 0)) (pgc_name 1 nd) ptsc_nil (pic_tup (pec_var 1)) (pgc_name 2 nd) ptsc_nil (pec_var 2))))), ?_⟩
  intro rs β r β' h B bx
  rcases h with @⟨y, β, h⟩
  change GoR g.K B bx _ [some _, none, none] _ _ _
  obtain ⟨down, wide, a1, a2, a3, a4, hf⟩ := h.floor
  have l2 := h.f2
  refine go_ret (ev_signs h (evr_c fun _ => .str _) (ev_lc2 (xs := y.floors) (enc := encRows) (inn := fun r => r) (enc1 := PyData.str) (f := PyData.str) (wk_tup (evr_var rfl)) (tg_name _) (by decide) (by omega) (tg_name _) (by decide) ?_ (by decide) fun y hy => ⟨_, rfl, (wk_tup (evr_var rfl)), fun z hz => ⟨_, rfl, (evr_var rfl)⟩⟩) ?_) ⟨rfl, rfl⟩
  · exact fun f hm => by have := (hf f hm).d; omega
  · rw [enc_flat]; rfl
inductive R_are_costs : List Res → Bx → Res → Bx → Prop
  | mk {y : Yard} {β : Bx} (h : y.Ok) : R_are_costs (one y.costs) β (.d (.bool true)) β
theorem sc_are_costs : FnScope ["thing", "one", "bare", "laden", "gain", "top"] ["thing"] (defScope s_are_costs) := ⟨rfl, rfl, rfl, by decide +kernel, rfl, by decide +kernel, by decide +kernel⟩
theorem fn_are_costs {g : Gb} (T : Txt g) : FnX g "are_costs" ["thing"] 2 R_are_costs := by
  have nd := sc_are_costs.nd
  have c_is_whole := fn_is_whole T
  refine T.fnX 6 rfl sc_are_costs (fun _ _ _ _ _ _ us hl => match us, hl with | [_], _ => rfl) (by intro rs β r β' h; cases h <;> rfl) ⟨_, (pssc_cons (psc_if (ptc_w (pwc_or (ptc_not (ptc_of (pec_isi (n := "tuple") T.b_isinstance T.b_tuple (by decide +kernel) (pec_var 0)))) (pwc_or (ptc_ne (pec_len T.b_len (pec_var 0)) pec_int) (pwc_or1 (ptc_not (ptc_of (pec_all T.b_all (pec_lc [("one", 1)] nd (pic_tup (pec_var 0)) (pgc_name 1 nd) ptsc_nil (pec_fn c_is_whole (pac_cons (pec_var 1) pac_nil)))))))))) (pssc_one (psc_ret pec_bl)) pssc_nil)
    (pssc_cons (psc_asg (pec_var 0) (pgc_tup (n := 4) (pgsc_cons (pgc_name 2 nd) (pgsc_cons (pgc_name 3 nd) (pgsc_cons (pgc_name 4 nd) (pgsc_cons (pgc_name 5 nd) pgsc_nil))))))
    (pssc_one (psc_ret (pec_and (pec_leLe pec_int (pec_var 2) pec_int) (pec_and (pec_leLe (pec_var 2) (pec_var 3) pec_int) (pec_and (pec_leLe pec_int (pec_var 4) pec_int) (pec_one (pec_leLe pec_int (pec_var 5) pec_int))))))))), ?_⟩
  intro rs β r β' h B bx
  clear c_is_whole
  rcases h with @⟨y, β, h⟩
  change GoR g.K B bx _ [some _, none, none, none, none, none] _ _ _
  refine go_ifr (ev_tcast (c := false) (ev_tor (evt_not (evt_of (ev_isi (evr_var rfl)))) fun _ => (ev_tor (evt_of (ev_ne (ev_len (evr_var rfl)) (evr_c fun _ => .int _))) fun _ => (evt_not (evt_of (ev_allM (q := fun _ => true) (ev_lc (xs := [y.bare, y.laden, y.gain, y.top]) (enc := PyData.int) (wk_tup (evr_var rfl)) (tg_name _) (by decide) (by simp) fun y hy => ⟨_, rfl, (ev_callD (dv_cons (evr_var rfl) dv_nil) .mk)⟩)))))) rfl) (fun h => by cases h) (fun _ => ?_)
  refine go_seq1 (go_asgT (evr_var rfl) (tg_tup (tgs_cons (tg_name _) (tgs_cons (tg_name _) (tgs_cons (tg_name _) (tgs_cons (tg_name _) tgs_nil))))) rfl ⟨rfl, rfl⟩) ?_
  refine go_ret (ev_cast (ev_vand (ev_leLe (evr_c fun _ => .int _) (evr_var rfl) (evr_c fun _ => .int _)) fun _ => (ev_vand (ev_leLe (evr_var rfl) (evr_var rfl) (evr_c fun _ => .int _)) fun _ => (ev_vand (ev_leLe (evr_c fun _ => .int _) (evr_var rfl) (evr_c fun _ => .int _)) fun _ => (ev_leLe (evr_c fun _ => .int _) (evr_var rfl) (evr_c fun _ => .int _))))) ?_) ⟨rfl, rfl⟩
  have := h.c1; have := h.c2; have := h.c3; have := h.c4; have := h.c5; have := h.c6; have := h.c7; have := h.c8
  simp; omega
theorem Yard.cell_at {y : Yard} {c : Int} (h : y.cell c) : ∃ n, y.sg[c.toNat]? = some n ∧ n ≠ wallN ∧ L2.atI y.sgS.cps.toList c = some n := by
  obtain ⟨h0, h1, h2⟩ := h
  have hl : c.toNat < y.sg.length := by omega
  refine ⟨y.sg[c.toNat], List.getElem?_eq_getElem hl, fun e => h2 (by rw [List.getElem?_eq_getElem hl, e]), atN (n := c.toNat) (by omega) ?_⟩
  show (y.sg.toArray.toList)[c.toNat]? = _
  simp [hl]
inductive R_is_shut_row : List Res → Bx → Res → Bx → Prop
  | mk {y : Yard} {u : Int × Int × Int} {β : Bx} (h : y.Ok) (hu : u ∈ y.shuts) : R_is_shut_row [.d (.str y.sgS), .d (encShut u)] β (.d (.bool true)) β
theorem sc_is_shut_row : FnScope ["signs", "thing", "one", "cell", "first", "last"] ["signs", "thing"] (defScope s_is_shut_row) := ⟨rfl, rfl, rfl, by decide +kernel, rfl, by decide +kernel, by decide +kernel⟩
theorem fn_is_shut_row {g : Gb} (T : Txt g) : FnX g "is_shut_row" ["signs", "thing"] 2 R_is_shut_row := by
  have nd := sc_is_shut_row.nd
  have c_is_whole := fn_is_whole T
  refine T.fnX 8 rfl sc_is_shut_row (fun _ _ _ _ _ _ us hl => match us, hl with | [_, _], _ => rfl) (by intro rs β r β' h; cases h <;> rfl) ⟨_, (pssc_cons (psc_if (ptc_w (pwc_or (ptc_not (ptc_of (pec_isi (n := "tuple") T.b_isinstance T.b_tuple (by decide +kernel) (pec_var 1)))) (pwc_or (ptc_ne (pec_len T.b_len (pec_var 1)) pec_int) (pwc_or1 (ptc_not (ptc_of (pec_all T.b_all (pec_lc [("one", 2)] nd (pic_tup (pec_var 1)) (pgc_name 2 nd) ptsc_nil (pec_fn c_is_whole (pac_cons (pec_var 2) pac_nil)))))))))) (pssc_one (psc_ret pec_bl)) pssc_nil)
    (pssc_cons (psc_asg (pec_var 1) (pgc_tup (n := 3) (pgsc_cons (pgc_name 3 nd) (pgsc_cons (pgc_name 4 nd) (pgsc_cons (pgc_name 5 nd) pgsc_nil)))))
    (pssc_one (psc_ret (pec_and (pec_leLt pec_int (pec_var 3) (pec_len T.b_len (pec_var 0))) (pec_and (pec_ne (pec_ixS (pec_var 0) (pec_var 3)) (pec_gstr T.WALL)) (pec_one (pec_ch3 pec_int (pec_var 4) (pec_var 5) (pec_gint T.LAST_SHUT))))))))), ?_⟩
  intro rs β r β' h B bx
  clear c_is_whole
  rcases h with @⟨y, u, β, h, hu⟩
  change GoR g.K B bx _ [some _, some _, none, none, none, none] _ _ _
  have sl := y.sgS_len
  have n12 := h.n
  have big := line5
  obtain ⟨b1, b2, b3, b4, b5, b6⟩ := h.u2 u hu
  obtain ⟨n, e1, e2, e3⟩ := y.cell_at ⟨b1, b2, b3⟩
  refine go_ifr (ev_tcast (c := false) (ev_tor (evt_not (evt_of (ev_isi (evr_var rfl)))) fun _ => (ev_tor (evt_of (ev_ne (ev_len (evr_var rfl)) (evr_c fun _ => .int _))) fun _ => (evt_not (evt_of (ev_allM (q := fun _ => true) (ev_lc (xs := tri u) (enc := PyData.int) (wk_tup (evr_var rfl)) (tg_name _) (by decide) (by simp) fun y hy => ⟨_, rfl, (ev_callD (dv_cons (evr_var rfl) dv_nil) .mk)⟩)))))) rfl) (fun h => by cases h) (fun _ => ?_)
  refine go_seq1 (go_asgT (evr_var rfl) (tg_tup (tgs_cons (tg_name _) (tgs_cons (tg_name _) (tgs_cons (tg_name _) tgs_nil)))) rfl ⟨rfl, rfl⟩) ?_
  refine go_ret (ev_cast (ev_vand (ev_leLt (evr_c fun _ => .int _) (evr_var rfl) (ev_lenS (evr_var rfl) (by omega))) fun _ => (ev_vand (ev_ne (ev_ixS (evr_var rfl) (evr_var rfl) e3 (by omega)) (evr_c fun _ => .str _)) fun _ => (ev_ch3 (evr_c fun _ => .int _) (evr_var rfl) (evr_var rfl) (evr_c fun _ => .int _)))) ?_) ⟨rfl, rfl⟩
  have q : decide ((⟨#[n]⟩ : Str) = ⟨#[35]⟩) = false := decide_eq_false fun q => e2 (one_sign.mp q)
  show PyData.bool (_ && (!decide ((⟨#[n]⟩ : Str) = ⟨#[35]⟩) && _)) = _
  rw [q]
  simp; omega
inductive R_is_yard : List Res → Bx → Res → Bx → Prop
  | mk {y : Yard} {β : Bx} (h : y.Ok) : R_is_yard (one (encYard y)) β (.d (.bool true)) β
theorem sc_is_yard : FnScope ["thing", "signs", "shuts", "one"] ["thing"] (defScope s_is_yard) := ⟨rfl, rfl, rfl, by decide +kernel, rfl, by decide +kernel, by decide +kernel⟩
theorem fn_is_yard {g : Gb} (T : Txt g) : FnX g "is_yard" ["thing"] 4 R_is_yard := by
  have nd := sc_is_yard.nd
  have c_rises := fn_rises T
  have c_signs_of := fn_signs_of T
  have c_are_floors := fn_are_floors T
  have c_are_costs := fn_are_costs T
  have c_is_shut_row := fn_is_shut_row T
  refine T.fnX 9 rfl sc_is_yard (fun _ _ _ _ _ _ us hl => match us, hl with | [_], _ => rfl) (by intro rs β r β' h; cases h <;> rfl) ⟨_, (pssc_cons (psc_if (ptc_w (pwc_or (ptc_not (ptc_of (pec_isi (n := "tuple") T.b_isinstance T.b_tuple (by decide +kernel) (pec_var 0)))) (pwc_or (ptc_ne (pec_len T.b_len (pec_var 0)) pec_int) (pwc_or (ptc_not (ptc_of (pec_fn c_are_floors (pac_cons (pec_ix (pec_var 0) pec_int) pac_nil)))) (pwc_or1 (ptc_not (ptc_of (pec_fn c_are_costs (pac_cons (pec_ix (pec_var 0) pec_int) pac_nil))))))))) (pssc_one (psc_ret pec_bl)) pssc_nil)
    (pssc_cons (psc_asg (pec_tup (pac_cons (pec_fn c_signs_of (pac_cons (pec_ix (pec_var 0) pec_int) pac_nil)) (pac_cons (pec_ix (pec_var 0) pec_int) pac_nil))) (pgc_tup (n := 2) (pgsc_cons (pgc_name 1 nd) (pgsc_cons (pgc_name 2 nd) pgsc_nil))))
    (pssc_cons (psc_if (ptc_w (pwc_or (ptc_not (ptc_of (pec_isi (n := "tuple") T.b_isinstance T.b_tuple (by decide +kernel) (pec_var 2)))) (pwc_or (ptc_gt (pec_len T.b_len (pec_var 2)) (pec_gint T.MOST_SHUTS)) (pwc_or1 (ptc_not (ptc_of (pec_all T.b_all (pec_lc [("one", 3)] nd (pic_tup (pec_var 2)) (pgc_name 3 nd) ptsc_nil (pec_fn c_is_shut_row (pac_cons (pec_var 1) (pac_cons (pec_var 3) pac_nil))))))))))) (pssc_one (psc_ret pec_bl)) pssc_nil)
    (pssc_one (psc_ret (pec_fn c_rises (pac_cons (pec_var 2) pac_nil))))))), ?_⟩
  intro rs β r β' h B bx
  clear c_rises
  clear c_signs_of
  clear c_are_floors
  clear c_are_costs
  clear c_is_shut_row
  rcases h with @⟨y, β, h⟩
  change GoR g.K B bx _ [some _, none, none, none] _ _ _
  have l4 := h.u1
  refine go_ifr (ev_tcast (c := false) (ev_tor (evt_not (evt_of (ev_isi (evr_var rfl)))) fun _ => (ev_tor (evt_of (ev_ne (ev_len (evr_var rfl)) (evr_c fun _ => .int _))) fun _ => (ev_tor (evt_not (evt_of (ev_callD (dv_cons (ev_ix (evr_var rfl) (evr_c fun _ => .int _) rfl) dv_nil) (.mk h)))) fun _ => (evt_not (evt_of (ev_callD (dv_cons (ev_ix (evr_var rfl) (evr_c fun _ => .int _) rfl) dv_nil) (.mk h))))))) rfl) (fun h => by cases h) (fun _ => ?_)
  refine go_seq1 (go_asgT (ev_tup (dv_cons (ev_callD (dv_cons (ev_ix (evr_var rfl) (evr_c fun _ => .int _) rfl) dv_nil) (.mk h)) (dv_cons (ev_ix (evr_var rfl) (evr_c fun _ => .int _) rfl) dv_nil))) (tg_tup (tgs_cons (tg_name _) (tgs_cons (tg_name _) tgs_nil))) rfl ⟨rfl, rfl⟩) ?_
  refine go_ifr (ev_tcast (c := false) (ev_tor (evt_not (evt_of (ev_isi (evr_var rfl)))) fun _ => (ev_tor (evt_of (ev_gt (ev_len (evr_var rfl)) (evr_c fun _ => .int _))) fun _ => (evt_not (evt_of (ev_allM (q := fun _ => true) (ev_lc (xs := y.shuts) (enc := encShut) (wk_tup (evr_var rfl)) (tg_name _) (by decide) (by omega) fun u hu => ⟨_, rfl, (ev_callD (dv_cons (evr_var rfl) (dv_cons (evr_var rfl) dv_nil)) (.mk h hu))⟩)))))) ?_) (fun h => by cases h) (fun _ => ?_)
  · rw [all_true]; simp; omega
  · exact go_ret (ev_callD (dv_cons (evr_var rfl) dv_nil) (.mk h.u3 (by omega))) ⟨rfl, rfl⟩
inductive R_need_yard : List Res → Bx → Res → Bx → Prop
  | mk {y : Yard} {β : Bx} (h : y.Ok) : R_need_yard (one (encYard y)) β (.d .none) β
theorem sc_need_yard : FnScope ["thing"] ["thing"] (defScope s_need_yard) := ⟨rfl, rfl, rfl, by decide +kernel, rfl, by decide +kernel, by decide +kernel⟩
theorem fn_need_yard {g : Gb} (T : Txt g) : FnX g "need_yard" ["thing"] 5 R_need_yard := by
  have nd := sc_need_yard.nd
  have c_is_yard := fn_is_yard T
  refine T.fnX 10 rfl sc_need_yard (fun _ _ _ _ _ _ us hl => match us, hl with | [_], _ => rfl) (by intro rs β r β' h; cases h <;> rfl) ⟨_, (pssc_one (psc_if (ptc_not (ptc_of (pec_fn c_is_yard (pac_cons (pec_var 0) pac_nil)))) (pssc_one psc_never) pssc_nil)), ?_⟩
  intro rs β r β' h B bx
  clear c_is_yard
  rcases h with @⟨y, β, h⟩
  change GoR g.K B bx _ [some _] _ _ _
  refine go_if (evt_not (evt_of (ev_callD (dv_cons (evr_var rfl) dv_nil) (.mk h)))) (fun h1 => ?_) (fun h1 => ?_)
  · exact go_never (by cases h1)
  · exact go_next ⟨rfl, rfl⟩
inductive R_cells_of : List Res → Bx → Res → Bx → Prop
  | mk {y : Yard} {β : Bx} (h : y.Ok) : R_cells_of (one (encYard y)) β (.l (rgD y.sg.length)) β
theorem sc_cells_of : FnScope ["yard"] ["yard"] (defScope s_cells_of) := ⟨rfl, rfl, rfl, by decide +kernel, rfl, by decide +kernel, by decide +kernel⟩
theorem fn_cells_of {g : Gb} (T : Txt g) : FnX g "cells_of" ["yard"] 2 R_cells_of := by
  have nd := sc_cells_of.nd
  have c_signs_of := fn_signs_of T
  refine T.fnX 11 rfl sc_cells_of (fun _ _ _ _ _ _ us hl => match us, hl with | [_], _ => rfl) (by intro rs β r β' h; cases h <;> rfl) ⟨_, (pssc_one (psc_ret (pec_listRg T.b_list T.b_range (pec_len T.b_len (pec_fn c_signs_of (pac_cons (pec_ix (pec_var 0) pec_int) pac_nil)))))), ?_⟩
  intro rs β r β' h B bx
  clear c_signs_of
  rcases h with @⟨y, β, h⟩
  change GoR g.K B bx _ [some _] _ _ _
  have sl := y.sgS_len
  have n12 := h.n
  have big := line5
  refine go_ret (ev_castR (ev_listRg (ev_lenS (ev_callD (dv_cons (ev_ix (evr_var rfl) (evr_c fun _ => .int _) rfl) dv_nil) (.mk h)) (by omega)) (by omega) (by omega)) (by rw [sl])) ⟨rfl, rfl⟩
inductive R_sign_at : List Res → Bx → Res → Bx → Prop
  | mk {y : Yard} {c : Int} {n : Nat} {β : Bx} (h : y.Ok) (h0 : 0 ≤ c) (h1 : y.sg[c.toNat]? = some n) : R_sign_at [.d (encYard y), .d (.int c)] β (.d (.str ⟨#[n]⟩)) β
theorem sc_sign_at : FnScope ["yard", "cell"] ["yard", "cell"] (defScope s_sign_at) := ⟨rfl, rfl, rfl, by decide +kernel, rfl, by decide +kernel, by decide +kernel⟩
theorem fn_sign_at {g : Gb} (T : Txt g) : FnX g "sign_at" ["yard", "cell"] 2 R_sign_at := by
  have nd := sc_sign_at.nd
  have c_signs_of := fn_signs_of T
  refine T.fnX 12 rfl sc_sign_at (fun _ _ _ _ _ _ us hl => match us, hl with | [_, _], _ => rfl) (by intro rs β r β' h; cases h <;> rfl) ⟨_, (pssc_one (psc_ret (pec_ixS (pec_fn c_signs_of (pac_cons (pec_ix (pec_var 0) pec_int) pac_nil)) (pec_var 1)))), ?_⟩
  intro rs β r β' h B bx
  clear c_signs_of
  rcases h with @⟨y, c, n, β, h, h0, h1⟩
  change GoR g.K B bx _ [some _, some _] _ _ _
  have sl := y.sgS_len
  have n12 := h.n
  have big := line5
  refine go_ret (ev_ixS (ev_callD (dv_cons (ev_ix (evr_var rfl) (evr_c fun _ => .int _) rfl) dv_nil) (.mk h)) (evr_var rfl) (atN (n := c.toNat) (by omega) ?_) (by omega)) ⟨rfl, rfl⟩
  show (y.sg.toArray.toList)[c.toNat]? = _
  rw [List.toList_toArray]; exact h1
inductive R_is_cell : List Res → Bx → Res → Bx → Prop
  | mk {y : Yard} {c : Int} {β : Bx} (h : y.Ok) (h0 : y.cell c) : R_is_cell [.d (encYard y), .d (.int c)] β (.d (.bool true)) β
theorem sc_is_cell : FnScope ["yard", "thing"] ["yard", "thing"] (defScope s_is_cell) := ⟨rfl, rfl, rfl, by decide +kernel, rfl, by decide +kernel, by decide +kernel⟩
theorem fn_is_cell {g : Gb} (T : Txt g) : FnX g "is_cell" ["yard", "thing"] 3 R_is_cell := by
  have nd := sc_is_cell.nd
  have c_is_among := fn_is_among T
  have c_sign_at := fn_sign_at T
  have c_cells_of := fn_cells_of T
  refine T.fnX 13 rfl sc_is_cell (fun _ _ _ _ _ _ us hl => match us, hl with | [_, _], _ => rfl) (by intro rs β r β' h; cases h <;> rfl) ⟨_, (pssc_one (psc_ret (pec_and (pec_fn c_is_among (pac_cons (pec_var 1) (pac_cons pec_int (pac_cons (pec_sub (pec_len T.b_len (pec_fn c_cells_of (pac_cons (pec_var 0) pac_nil))) pec_int) pac_nil)))) (pec_one (pec_ne (pec_fn c_sign_at (pac_cons (pec_var 0) (pac_cons (pec_var 1) pac_nil))) (pec_gstr T.WALL)))))), ?_⟩
  intro rs β r β' h B bx
  clear c_is_among
  clear c_sign_at
  clear c_cells_of
  rcases h with @⟨y, c, β, h, h0⟩
  change GoR g.K B bx _ [some _, some _] _ _ _
  obtain ⟨n, e1, e2, e3⟩ := y.cell_at h0
  refine go_ret (ev_cast (ev_vand (ev_callD (dv_cons (evr_var rfl) (dv_cons (evr_c fun _ => .int _) (dv_cons (ev_sub (ev_len (ev_callD (dv_cons (evr_var rfl) dv_nil) (.mk h))) (evr_c fun _ => .int _)) dv_nil))) .mk) fun _ => (ev_ne (ev_callD (dv_cons (evr_var rfl) (dv_cons (evr_var rfl) dv_nil)) (.mk h h0.1 e1)) (evr_c fun _ => .str _))) ?_) ⟨rfl, rfl⟩
  have q : decide ((⟨#[n]⟩ : Str) = ⟨#[35]⟩) = false := decide_eq_false fun q => e2 (one_sign.mp q)
  show PyData.bool (_ && !decide ((⟨#[n]⟩ : Str) = ⟨#[35]⟩)) = _
  rw [q, rgD_length]
  have := h0.1; have := h0.2.1
  simp; omega
inductive R_need_cell : List Res → Bx → Res → Bx → Prop
  | mk {y : Yard} {c : Int} {β : Bx} (h : y.Ok) (h0 : y.cell c) : R_need_cell [.d (encYard y), .d (.int c)] β (.d .none) β
theorem sc_need_cell : FnScope ["yard", "thing"] ["yard", "thing"] (defScope s_need_cell) := ⟨rfl, rfl, rfl, by decide +kernel, rfl, by decide +kernel, by decide +kernel⟩
theorem fn_need_cell {g : Gb} (T : Txt g) : FnX g "need_cell" ["yard", "thing"] 4 R_need_cell := by
  have nd := sc_need_cell.nd
  have c_is_cell := fn_is_cell T
  refine T.fnX 14 rfl sc_need_cell (fun _ _ _ _ _ _ us hl => match us, hl with | [_, _], _ => rfl) (by intro rs β r β' h; cases h <;> rfl) ⟨_, (pssc_one (psc_if (ptc_not (ptc_of (pec_fn c_is_cell (pac_cons (pec_var 0) (pac_cons (pec_var 1) pac_nil))))) (pssc_one psc_never) pssc_nil)), ?_⟩
  intro rs β r β' h B bx
  clear c_is_cell
  rcases h with @⟨y, c, β, h, h0⟩
  change GoR g.K B bx _ [some _, some _] _ _ _
  refine go_if (evt_not (evt_of (ev_callD (dv_cons (evr_var rfl) (dv_cons (evr_var rfl) dv_nil)) (.mk h h0)))) (fun h1 => ?_) (fun h1 => ?_)
  · exact go_never (by cases h1)
  · exact go_next ⟨rfl, rfl⟩
end K20
set_option maxHeartbeats 4000000
namespace K20
open PySem PySem.Spec PyProof.Rows L2
def loadsL (cs : List Car) : List Int := cs.filterMap (·.load)
def goodsL (sh : List Shelf) : Nat := match sh with
  | [] => 1
  | s :: _ => s.stock.length
def standL (n : Nat) (ls : List Int) : List Nat := (List.range n).filter fun i => !decide ((i : Int) ∈ ls)
def zipN {α : Type} (l : List α) : List (Nat × α) := (List.range l.length).zip l
def openH (sh : List Shelf) (ls : List Int) : List Int := ((zipN sh).filter fun p => !decide ((p.1 : Int) ∈ ls)).map (·.2.home)
structure CarOk (y : Yard) (n : Nat) (c : Car) : Prop where
  cell : y.cell c.cell
  c0 : 0 ≤ c.charge
  c1 : c.charge ≤ y.top
  l : ∀ l, c.load = some l → 0 ≤ l ∧ l < n
structure ShelfOk (y : Yard) (g : Nat) (b : Shelf) : Prop where
  cell : y.cell b.home
  s : y.sg[b.home.toNat]? = some homeN
  g : b.stock.length = g
  n : ∀ v ∈ b.stock, 0 ≤ v ∧ v ≤ 99
structure OrderOk (g : Nat) (o : Order) : Prop where
  g0 : 0 ≤ o.good
  g1 : o.good < g
  m0 : 1 ≤ o.many
  m1 : o.many ≤ 99
  v0 : 0 ≤ o.given
  v1 : o.given ≤ o.many
  h : 0 ≤ o.hour
structure State.Ok (y : Yard) (s : State) : Prop where
  b : 0 ≤ s.beat
  c1 : 1 ≤ s.cars.length
  c3 : s.cars.length ≤ 3
  cars : ∀ c ∈ s.cars, CarOk y s.shelves.length c
  cn : (s.cars.map (·.cell)).Nodup
  ln : (loadsL s.cars).Nodup
  hm : ∀ c ∈ s.cars, c.load = none ∨ c.cell ∉ openH s.shelves (loadsL s.cars)
  sn : s.shelves.length ≤ 4
  sh : ∀ h ∈ s.shelves, ShelfOk y (goodsL s.shelves) h
  g1 : 1 ≤ goodsL s.shelves
  g3 : goodsL s.shelves ≤ 3
  hn : (s.shelves.map (·.home)).Nodup
  on : s.orders.length ≤ 4
  os : ∀ o ∈ s.orders, OrderOk (goodsL s.shelves) o
theorem isNo_encO (l : Option Int) : isNo (encO l) = l.isNone := by cases l <;> rfl
theorem inD_ints (i : Int) : ∀ l : List Int, inD (.int i) (l.map PyData.int) = decide (i ∈ l)
  | [] => by simp [inD]
  | a :: l => by
    have h := inD_ints i l
    unfold inD at h ⊢
    rw [List.map_cons, List.any_cons, h]
    have e : PyData.eqv (.int a) (.int i) = decide (i = a) := by
      show (a == i) = _
      by_cases h : a = i
      · simp [h]
      · rw [decide_eq_false (Ne.symm h)]; simpa using h
    rw [e, Bool.eq_iff_iff]
    simp
theorem fl_ints (l : List Int) : (l.map PyData.int).all fl1 = true := by
  induction l with
  | nil => rfl
  | cons a l ih => rw [List.map_cons, List.all_cons, ih]; rfl
theorem loads_enc (cs : List Car) : (cs.filter fun c => !isNo (encO c.load)).map (fun c => encO c.load) = (loadsL cs).map PyData.int := by
  induction cs with
  | nil => rfl
  | cons c cs ih =>
    unfold loadsL at ih ⊢
    rw [List.filter_cons, List.filterMap_cons]
    cases h : c.load with
    | none =>
      rw [if_neg (by simp [encO, isNo])]
      exact ih
    | some l =>
      rw [if_pos (by simp [encO, isNo]), List.map_cons, ih, h]
      rfl
theorem zipN_enc {α : Type} (l : List α) (f : α → D) : enD (l.map f) = (zipN l).map fun p => prD (.int p.1) (f p.2) := by
  unfold enD rgD zipN
  rw [List.length_map]
  show List.zipWith prD ((List.range l.length).map _) _ = _
  rw [List.zipWith_map, List.zip_eq_zipWith, List.map_zipWith]
theorem zipN_len {α : Type} (l : List α) : (zipN l).length = l.length := by unfold zipN; simp
theorem zipN_get {α : Type} {l : List α} {p : Nat × α} (h : p ∈ zipN l) : l[p.1]? = some p.2 := by
  unfold zipN at h
  obtain ⟨i, hi⟩ := List.mem_iff_getElem?.mp h
  obtain ⟨h1, h2⟩ := List.getElem?_zip_eq_some.mp hi
  have h3 := (List.getElem?_eq_some_iff.mp h1).1
  rw [List.length_range] at h3
  rw [List.getElem?_range h3] at h1
  cases h1
  exact h2
theorem zipN_mem {α : Type} {l : List α} {i : Nat} {x : α} (h : l[i]? = some x) : (i, x) ∈ zipN l := by
  have hl := (List.getElem?_eq_some_iff.mp h).1
  exact List.mem_of_getElem? (i := i) (List.getElem?_zip_eq_some.mpr ⟨List.getElem?_range hl, h⟩)
theorem wk_enumZ {K : PySem.W.Frag} {B : Hp} {bx : Option Addr} {ρ : Env} {β β1 : Bx} {ta : TE} {f1 : Bool} {α : Type} {l : List α} {f : α → D} (ha : EvR K B bx ta ρ β f1 (.d (.tuple (l.map f))) β1) : WkR K B bx (iEnumT K (tCons ta tNil)) ρ β true ((zipN l).map fun p => prD (.int p.1) (f p.2)) β1 := wkr_cast (wk_enumT ha) (zipN_enc l f)
/-- sorted, of ints -/
def srt (l : List Int) : List Int := l.mergeSort fun x y => decide (x ≤ y)
theorem ev_sorted {K : PySem.W.Frag} {B : Hp} {bx : Option Addr} {ρ : Env} {β β1 : Bx} {te : TE} {f1 : Bool} {ds : List D} {ns : List Int} (ha : EvR K B bx te ρ β f1 (.l ds) β1) (h : ds = ns.map PyData.int) : EvR K B bx (tCB (rSortedI K) (tCons te tNil)) ρ β true (.l ((srt ns).map PyData.int)) β1 := evr_cb1 ha fun H v A bi rv Q g => by
  subst h
  obtain ⟨p, vs, rfl, n, hp, rr, _⟩ := rv
  have e := rr.ints
  subst e
  refine ⟨p, ns, rfl, .inl (.inl hp), fun ns' q pm ord hq => ?_⟩
  have : ns' = srt ns := PySem.W.os_sorted_mergeSort pm ord
  rw [this]
  exact g.lst bi (Reps.mkInts _) hq
theorem mem_srt {l : List Int} {x : Int} : x ∈ srt l ↔ x ∈ l := List.mem_mergeSort
section
variable {K : PySem.W.Frag} {B : Hp} {bx : Option Addr} {ρ : Env} {β β1 β2 : Bx} {ta tb : TE} {f1 f2 : Bool} {ds : List D} {d : D} {i : Int}
theorem ev_ixT (ha : EvR K B bx ta ρ β f1 (.d (.tuple ds)) β1) (hb : EvR K B bx tb ρ β1 f2 (.d (.int i)) β2) (h : L2.atI ds i = some d) : EvR K B bx (tOp (rSeq K) ta tb) ρ β true (.d d) β2 := ev_ix ha hb h rfl
theorem ev_ixL (ha : EvR K B bx ta ρ β f1 (.l ds) β1) (hb : EvR K B bx tb ρ β1 f2 (.d (.int i)) β2) (h : L2.atI ds i = some d) : EvR K B bx (tOp (rSeq K) ta tb) ρ β true (.d d) β2 := ev_ix ha hb h rfl
theorem ev_lenT (ha : EvR K B bx ta ρ β f1 (.d (.tuple ds)) β1) : EvR K B bx (tCB (rLenV K) (tCons ta tNil)) ρ β true (.d (.int ds.length)) β1 := ev_len ha rfl
theorem ev_lenL (ha : EvR K B bx ta ρ β f1 (.l ds) β1) : EvR K B bx (tCB (rLenV K) (tCons ta tNil)) ρ β true (.d (.int ds.length)) β1 := ev_len ha rfl
end
/-- data of small depth -/
structure Sh (n : Nat) (d : D) : Prop where
  can : d.canLay0 = true
  dep : d.depth ≤ n
theorem Sh.int {n : Nat} {i : Int} : Sh n (.int i) := ⟨rfl, Nat.zero_le _⟩
theorem Sh.str {n : Nat} {i : Str} (h : PyData.canLay0 (.str i) = true := by decide +kernel) : Sh n (.str i) := ⟨h, Nat.zero_le _⟩
theorem Sh.bool {n : Nat} {i : Bool} : Sh n (.bool i) := ⟨rfl, Nat.zero_le _⟩
theorem Sh.none {n : Nat} : Sh n .none := ⟨rfl, Nat.zero_le _⟩
theorem sh_all {n : Nat} : ∀ {ds : List D}, (∀ d ∈ ds, Sh n d) → PyData.canLayAll0 ds = true ∧ PyData.depthAll ds ≤ n
  | [], _ => ⟨rfl, Nat.zero_le _⟩
  | d :: ds, h => by
    obtain ⟨a, b⟩ := sh_all (ds := ds) fun x hx => h x (List.mem_cons_of_mem _ hx)
    have c := h d List.mem_cons_self
    exact ⟨by simp [PyData.canLayAll0, a, c.can], Nat.max_le.mpr ⟨c.dep, b⟩⟩
theorem Sh.tup {n : Nat} {ds : List D} (h : ∀ d ∈ ds, Sh n d) : Sh (n + 1) (.tuple ds) := by
  obtain ⟨a, b⟩ := sh_all h
  exact ⟨by simpa [PyData.canLay0] using a, by simpa [PyData.depth] using b⟩
theorem Sh.lst {n : Nat} {ds : List D} (h : ∀ d ∈ ds, Sh n d) : Sh (n + 1) (.list ds) := by
  obtain ⟨a, b⟩ := sh_all h
  exact ⟨by simpa [PyData.canLay0] using a, by simpa [PyData.depth] using b⟩
theorem Sh.ok {n : Nat} {d : D} (h : Sh n d) (hn : n ≤ 64 := by decide) : SeqAt.shaped d = true := by
  unfold SeqAt.shaped
  rw [h.can, decide_eq_true (Nat.le_trans h.dep hn)]; rfl
theorem Sh.refl {n : Nat} {d : D} (h : Sh n d) : PyData.eqv d d = true := SeqAt.eqv_refl d h.can
theorem Sh.tmap {n : Nat} {α : Type} {xs : List α} {f : α → D} (h : ∀ x, Sh n (f x)) : Sh (n + 1) (.tuple (xs.map f)) := Sh.tup fun d hd => by
  obtain ⟨x, _, rfl⟩ := List.mem_map.mp hd
  exact h x
theorem Sh.lmap {n : Nat} {α : Type} {xs : List α} {f : α → D} (h : ∀ x, Sh n (f x)) : Sh (n + 1) (.list (xs.map f)) := Sh.lst fun d hd => by
  obtain ⟨x, _, rfl⟩ := List.mem_map.mp hd
  exact h x
theorem sh_encO {n : Nat} (l : Option Int) : Sh n (encO l) := by cases l; exact .none; exact .int
theorem sh_ints (l : List Int) : Sh 1 (encInts l) := Sh.tmap fun _ => .int
theorem sh_car (c : Car) : Sh 1 (encCar c) := Sh.tup fun d hd => by
  simp only [List.mem_cons, List.not_mem_nil, or_false] at hd
  rcases hd with rfl | rfl | rfl | rfl
  · exact .int
  · exact .int
  · exact sh_encO _
  · exact .bool
theorem sh_shelf (s : Shelf) : Sh 2 (encShelf s) := Sh.tup fun d hd => by
  simp only [List.mem_cons, List.not_mem_nil, or_false] at hd
  rcases hd with rfl | rfl
  · exact .int
  · exact sh_ints _
theorem sh_order (o : Order) : Sh 1 (encOrder o) := Sh.tup fun d hd => by
  simp only [List.mem_cons, List.not_mem_nil, or_false] at hd
  rcases hd with rfl | rfl | rfl | rfl <;> exact .int
theorem Sh.up {n m : Nat} {d : D} (h : Sh n d) (l : n ≤ m) : Sh m d := ⟨h.can, Nat.le_trans h.dep l⟩
theorem sh_state (s : State) : Sh 4 (encState s) := Sh.tup fun d hd => by
  simp only [List.mem_cons, List.not_mem_nil, or_false] at hd
  rcases hd with rfl | rfl | rfl | rfl
  · exact .int
  · exact (Sh.tmap sh_car).up (by decide)
  · exact Sh.tmap sh_shelf
  · exact (Sh.tmap sh_order).up (by decide)
theorem sh_deed (d : Deed) : Sh 1 (encDeed d) := by
  cases d <;> refine Sh.tup fun d hd => ?_ <;> simp only [List.mem_cons, List.not_mem_nil, or_false] at hd
  all_goals first | (subst hd; exact .str) | (rcases hd with rfl | rfl; exact .str; exact .int)
theorem eqv_nil (ds : List D) : PyData.eqv (.tuple ds) (.tuple []) = ds.isEmpty := by cases ds <;> rfl
theorem eqv_nilL (ds : List D) : PyData.eqv (.list ds) (.list []) = ds.isEmpty := by cases ds <;> rfl
end K20
set_option maxHeartbeats 4000000
namespace K20
open PySem PySem.Spec PyProof.Rows L2
inductive R_is_carrier : List Res → Bx → Res → Bx → Prop
  | mk {y : Yard} {n : Nat} {c : Car} {β : Bx} (hy : y.Ok) (h : CarOk y n c) : R_is_carrier [.d (encYard y), .d (.int n), .d (encCar c)] β (.d (.bool true)) β
theorem sc_is_carrier : FnScope ["yard", "shelves", "thing", "cell", "charge", "load", "broken"] ["yard", "shelves", "thing"] (defScope s_is_carrier) := ⟨rfl, rfl, rfl, by decide +kernel, rfl, by decide +kernel, by decide +kernel⟩
theorem fn_is_carrier {g : Gb} (T : Txt g) : FnX g "is_carrier" ["yard", "shelves", "thing"] 4 R_is_carrier := by
  have nd := sc_is_carrier.nd
  have c_is_among := fn_is_among T
  have c_is_cell := fn_is_cell T
  refine T.fnX 18 rfl sc_is_carrier (fun _ _ _ _ _ _ us hl => match us, hl with | [_, _, _], _ => rfl) (by intro rs β r β' h; cases h <;> rfl) ⟨_, (pssc_cons (psc_if (ptc_w (pwc_or (ptc_not (ptc_of (pec_isi (n := "tuple") T.b_isinstance T.b_tuple (by decide +kernel) (pec_var 2)))) (pwc_or (ptc_ne (pec_len T.b_len (pec_var 2)) pec_int) (pwc_or1 (ptc_not (ptc_of (pec_fn c_is_cell (pac_cons (pec_var 0) (pac_cons (pec_ix (pec_var 2) pec_int) pac_nil))))))))) (pssc_one (psc_ret pec_bl)) pssc_nil)
    (pssc_cons (psc_asg (pec_var 2) (pgc_tup (n := 4) (pgsc_cons (pgc_name 3 nd) (pgsc_cons (pgc_name 4 nd) (pgsc_cons (pgc_name 5 nd) (pgsc_cons (pgc_name 6 nd) pgsc_nil))))))
    (pssc_cons (psc_if (ptc_w (pwc_or (ptc_not (ptc_of (pec_fn c_is_among (pac_cons (pec_var 4) (pac_cons pec_int (pac_cons (pec_ix (pec_ix (pec_var 0) pec_int) pec_int) pac_nil)))))) (pwc_or1 (ptc_not (ptc_of (pec_isi (n := "bool") T.b_isinstance T.b_bool (by decide +kernel) (pec_var 6))))))) (pssc_one (psc_ret pec_bl)) pssc_nil)
    (pssc_one (psc_ret (pec_or (pec_isN (pec_var 5)) (pec_one (pec_fn c_is_among (pac_cons (pec_var 5) (pac_cons pec_int (pac_cons (pec_sub (pec_var 1) pec_int) pac_nil))))))))))), ?_⟩
  intro rs β r β' h B bx
  clear c_is_among
  clear c_is_cell
  rcases h with @⟨y, n, c, β, hy, h⟩
  change GoR g.K B bx _ [some _, some _, some _, none, none, none, none] _ _ _
  have := h.c0; have := h.c1
  refine go_ifr (ev_tcast (c := false) (ev_tor (evt_not (evt_of (ev_isi (evr_var rfl)))) fun _ => (ev_tor (evt_of (ev_ne (ev_len (evr_var rfl)) (evr_c fun _ => .int _))) fun _ => (evt_not (evt_of (ev_callD (dv_cons (evr_var rfl) (dv_cons (ev_ixT (evr_var rfl) (evr_c fun _ => .int _) rfl) dv_nil)) (.mk hy h.cell)))))) rfl) (fun h => by cases h) (fun _ => ?_)
  refine go_seq1 (go_asgT (evr_var rfl) (tg_tup (tgs_cons (tg_name _) (tgs_cons (tg_name _) (tgs_cons (tg_name _) (tgs_cons (tg_name _) tgs_nil))))) rfl ⟨rfl, rfl⟩) ?_
  refine go_ifr (ev_tcast (c := false) (ev_tor (evt_not (evt_of (ev_callD (dv_cons (evr_var rfl) (dv_cons (evr_c fun _ => .int _) (dv_cons (ev_ixT (ev_ixT (evr_var rfl) (evr_c fun _ => .int _) rfl) (evr_c fun _ => .int _) rfl) dv_nil))) .mk))) fun _ => (evt_not (evt_of (ev_isi (evr_var rfl))))) ?_) (fun h => by cases h) (fun _ => ?_)
  · simp; omega
  · cases hl : c.load with
    | none => exact go_ret (ev_vor (a := true) (c := true) (f2 := true) (ev_isN (d := .none) (evr_var rfl)) fun h => by cases h) ⟨rfl, rfl⟩
    | some l =>
      have := h.l l hl
      refine go_ret (ev_cast (ev_vor (a := false) (ev_isN (d := .int l) (evr_var rfl)) fun _ => (ev_callD (dv_cons (evr_var rfl) (dv_cons (evr_c fun _ => .int _) (dv_cons (ev_sub (evr_var rfl) (evr_c fun _ => .int _)) dv_nil))) .mk)) ?_) ⟨rfl, rfl⟩
      simp; omega
inductive R_is_stock : List Res → Bx → Res → Bx → Prop
  | mk {l : List Int} {β : Bx} (h1 : 1 ≤ l.length) (h3 : l.length ≤ 3) (h : ∀ v ∈ l, 0 ≤ v ∧ v ≤ 99) : R_is_stock [.d (encInts l)] β (.d (.bool true)) β
theorem sc_is_stock : FnScope ["thing", "one"] ["thing"] (defScope s_is_stock) := ⟨rfl, rfl, rfl, by decide +kernel, rfl, by decide +kernel, by decide +kernel⟩
theorem fn_is_stock {g : Gb} (T : Txt g) : FnX g "is_stock" ["thing"] 3 R_is_stock := by
  have nd := sc_is_stock.nd
  have c_is_among := fn_is_among T
  refine T.fnX 19 rfl sc_is_stock (fun _ _ _ _ _ _ us hl => match us, hl with | [_], _ => rfl) (by intro rs β r β' h; cases h <;> rfl) ⟨_, (pssc_cons (psc_if (ptc_w (pwc_or (ptc_not (ptc_of (pec_isi (n := "tuple") T.b_isinstance T.b_tuple (by decide +kernel) (pec_var 0)))) (pwc_or1 (ptc_not (ptc_leLe pec_int (pec_len T.b_len (pec_var 0)) (pec_gint T.MOST_GOODS)))))) (pssc_one (psc_ret pec_bl)) pssc_nil)
    (pssc_one (psc_ret (pec_all T.b_all (pec_lc [("one", 1)] nd (pic_tup (pec_var 0)) (pgc_name 1 nd) ptsc_nil (pec_fn c_is_among (pac_cons (pec_var 1) (pac_cons pec_int (pac_cons (pec_gint T.MOST_STOCK) pac_nil))))))))), ?_⟩
  intro rs β r β' h B bx
  clear c_is_among
  rcases h with @⟨l, β, h1, h3, h⟩
  change GoR g.K B bx _ [some _, none] _ _ _
  refine go_ifr (ev_tcast (c := false) (ev_tor (evt_not (evt_of (ev_isi (evr_var rfl)))) fun _ => (evt_not (evt_of (ev_leLe (evr_c fun _ => .int _) (ev_len (evr_var rfl)) (evr_c fun _ => .int _))))) ?_) (fun h => by cases h) (fun _ => ?_)
  · simp; omega
  · refine go_ret (ev_cast (ev_allM (q := fun v => decide ((0 : Int) ≤ v) && decide (v ≤ 99)) (ev_lc (xs := l) (enc := PyData.int) (wk_tup (evr_var rfl)) (tg_name _) (by decide) (by omega) fun y hy => ⟨_, rfl, (ev_callD (dv_cons (evr_var rfl) (dv_cons (evr_c fun _ => .int _) (dv_cons (evr_c fun _ => .int _) dv_nil))) .mk)⟩)) ?_) ⟨rfl, rfl⟩
    rw [List.all_eq_true.mpr fun v hv => by have := h v hv; simp; omega]
inductive R_is_shelf : List Res → Bx → Res → Bx → Prop
  | mk {y : Yard} {g : Nat} {s : Shelf} {β : Bx} (hy : y.Ok) (h : ShelfOk y g s) (g1 : 1 ≤ g) (g3 : g ≤ 3) : R_is_shelf [.d (encYard y), .d (encShelf s)] β (.d (.bool true)) β
theorem sc_is_shelf : FnScope ["yard", "thing"] ["yard", "thing"] (defScope s_is_shelf) := ⟨rfl, rfl, rfl, by decide +kernel, rfl, by decide +kernel, by decide +kernel⟩
theorem fn_is_shelf {g : Gb} (T : Txt g) : FnX g "is_shelf" ["yard", "thing"] 4 R_is_shelf := by
  have nd := sc_is_shelf.nd
  have c_is_stock := fn_is_stock T
  have c_is_cell := fn_is_cell T
  have c_sign_at := fn_sign_at T
  refine T.fnX 20 rfl sc_is_shelf (fun _ _ _ _ _ _ us hl => match us, hl with | [_, _], _ => rfl) (by intro rs β r β' h; cases h <;> rfl) ⟨_, (pssc_cons (psc_if (ptc_w (pwc_or (ptc_not (ptc_of (pec_isi (n := "tuple") T.b_isinstance T.b_tuple (by decide +kernel) (pec_var 1)))) (pwc_or (ptc_ne (pec_len T.b_len (pec_var 1)) pec_int) (pwc_or1 (ptc_not (ptc_of (pec_fn c_is_cell (pac_cons (pec_var 0) (pac_cons (pec_ix (pec_var 1) pec_int) pac_nil))))))))) (pssc_one (psc_ret pec_bl)) pssc_nil)
    (pssc_one (psc_ret (pec_and (pec_eq (pec_fn c_sign_at (pac_cons (pec_var 0) (pac_cons (pec_ix (pec_var 1) pec_int) pac_nil))) (pec_gstr T.HOME)) (pec_one (pec_fn c_is_stock (pac_cons (pec_ix (pec_var 1) pec_int) pac_nil))))))), ?_⟩
  intro rs β r β' h B bx
  clear c_is_stock
  clear c_is_cell
  clear c_sign_at
  rcases h with @⟨y, gd, s, β, hy, h, g1, g3⟩
  change GoR g.K B bx _ [some _, some _] _ _ _
  have hg := h.g
  refine go_ifr (ev_tcast (c := false) (ev_tor (evt_not (evt_of (ev_isi (evr_var rfl)))) fun _ => (ev_tor (evt_of (ev_ne (ev_len (evr_var rfl)) (evr_c fun _ => .int _))) fun _ => (evt_not (evt_of (ev_callD (dv_cons (evr_var rfl) (dv_cons (ev_ixT (evr_var rfl) (evr_c fun _ => .int _) rfl) dv_nil)) (.mk hy h.cell)))))) rfl) (fun h => by cases h) (fun _ => ?_)
  exact go_ret (ev_vand (ev_eq (ev_callD (dv_cons (evr_var rfl) (dv_cons (ev_ixT (evr_var rfl) (evr_c fun _ => .int _) rfl) dv_nil)) (.mk hy h.cell.1 h.s)) (evr_c fun _ => .str _)) fun _ => (ev_callD (dv_cons (ev_ixT (evr_var rfl) (evr_c fun _ => .int _) rfl) dv_nil) (.mk (by omega) (by omega) h.n))) ⟨rfl, rfl⟩
/-- shelves as wanted -/
structure ShOk (y : Yard) (l : List Shelf) : Prop where
  sn : l.length ≤ 4
  sh : ∀ h ∈ l, ShelfOk y (goodsL l) h
  g1 : 1 ≤ goodsL l
  g3 : goodsL l ≤ 3
  hn : (l.map (·.home)).Nodup
inductive R_are_shelves : List Res → Bx → Res → Bx → Prop
  | mk {y : Yard} {sh : List Shelf} {β : Bx} (hy : y.Ok) (h : ShOk y sh) : R_are_shelves [.d (encYard y), .d (.tuple (sh.map encShelf))] β (.d (.bool true)) β
theorem sc_are_shelves : FnScope ["yard", "thing", "one", "homes", "home", "stock"] ["yard", "thing"] (defScope s_are_shelves) := ⟨rfl, rfl, rfl, by decide +kernel, rfl, by decide +kernel, by decide +kernel⟩
theorem fn_are_shelves {g : Gb} (T : Txt g) : FnX g "are_shelves" ["yard", "thing"] 5 R_are_shelves := by
  have nd := sc_are_shelves.nd
  have c_is_shelf := fn_is_shelf T
  refine T.fnX 21 rfl sc_are_shelves (fun _ _ _ _ _ _ us hl => match us, hl with | [_, _], _ => rfl) (by intro rs β r β' h; cases h <;> rfl) ⟨_, (pssc_cons (psc_if (ptc_w (pwc_or (ptc_not (ptc_of (pec_isi (n := "tuple") T.b_isinstance T.b_tuple (by decide +kernel) (pec_var 1)))) (pwc_or (ptc_gt (pec_len T.b_len (pec_var 1)) (pec_gint T.MOST_SHELVES)) (pwc_or1 (ptc_not (ptc_of (pec_all T.b_all (pec_lc [("one", 2)] nd (pic_tup (pec_var 1)) (pgc_name 2 nd) ptsc_nil (pec_fn c_is_shelf (pac_cons (pec_var 0) (pac_cons (pec_var 2) pac_nil))))))))))) (pssc_one (psc_ret pec_bl)) pssc_nil)
    (pssc_cons (psc_setLc 3 [("home", 4), ("stock", 5)] nd (pic_tup (pec_var 1)) (pgc_tup (n := 2) (pgsc_cons (pgc_name 4 nd) (pgsc_cons (pgc_name 5 nd) pgsc_nil))) ptsc_nil (pec_var 4))
    (pssc_one (psc_ret (pec_and (pec_eq (pec_lenSet T.b_len T.b_set (pec_var 3)) (pec_len T.b_len (pec_var 3))) (pec_one (pec_all T.b_all (pec_lc [("home", 4), ("stock", 5)] nd (pic_tup (pec_var 1)) (pgc_tup (n := 2) (pgsc_cons (pgc_name 4 nd) (pgsc_cons (pgc_name 5 nd) pgsc_nil))) ptsc_nil (pec_eq (pec_len T.b_len (pec_var 5)) (pec_len T.b_len (pec_ix (pec_ix (pec_var 1) pec_int) pec_int))))))))))), ?_⟩
  intro rs β r β' h B bx
  clear c_is_shelf
  rcases h with @⟨y, sh, β, hy, h⟩
  change GoR g.K B bx _ [some _, some _, none, none, none, none] _ _ _
  have := h.sn
  refine go_ifr (ev_tcast (c := false) (ev_tor (evt_not (evt_of (ev_isi (evr_var rfl)))) fun _ => (ev_tor (evt_of (ev_gt (ev_len (evr_var rfl)) (evr_c fun _ => .int _))) fun _ => (evt_not (evt_of (ev_allM (q := fun _ => true) (ev_lc (xs := sh) (enc := encShelf) (wk_tup (evr_var rfl)) (tg_name _) (by decide) (by omega) fun s hs => ⟨_, rfl, (ev_callD (dv_cons (evr_var rfl) (dv_cons (evr_var rfl) dv_nil)) (.mk hy (h.sh s hs) h.g1 h.g3))⟩)))))) ?_) (fun h => by cases h) (fun _ => ?_)
  · rw [all_true]; simp; omega
  · refine go_seq1 (go_asg (ev_lc (xs := sh) (enc := encShelf) (f := fun s => .int s.home) (wk_tup (evr_var rfl)) (tg_tup (tgs_cons (tg_name _) (tgs_cons (tg_name _) tgs_nil))) (by decide) (by omega) fun y hy => ⟨_, rfl, (evr_var rfl)⟩) ⟨rfl, rfl⟩) ?_
    refine go_ret (ev_cast (ev_vand (ev_eq (ev_lenSet (ns := sh.map (·.home)) (evr_var rfl) (by rw [List.map_map]; rfl) h.hn (by rw [List.length_map]; omega)) (ev_len (evr_var rfl))) fun _ => (ev_allM (q := fun _ => true) (ev_lc (xs := sh) (enc := encShelf) (wk_tup (evr_var rfl)) (tg_tup (tgs_cons (tg_name _) (tgs_cons (tg_name _) tgs_nil))) (by decide) (by omega) fun s hs => ⟨_, rfl, ?_⟩))) ?_) ⟨rfl, rfl⟩
    · cases hsh : sh with
      | nil => rw [hsh] at hs; cases hs
      | cons s0 sh' =>
        have e0 : s0.stock.length = s.stock.length := by
          have q := (h.sh s hs).g
          rw [hsh] at q
          exact q.symm
        refine ev_cast (ev_eq (ev_len (ds := s.stock.map PyData.int) (evr_var rfl)) (ev_len (ds := s0.stock.map PyData.int) (ev_ixT (ev_ixT (d := encShelf s0) (evr_var rfl) (evr_c fun _ => .int _) at0) (evr_c fun _ => .int _) rfl))) ?_
        rw [List.length_map, List.length_map, e0]; simp
    · rw [all_true]; simp
inductive R_is_order : List Res → Bx → Res → Bx → Prop
  | mk {g : Nat} {o : Order} {β : Bx} (h : OrderOk g o) : R_is_order [.d (.int g), .d (encOrder o)] β (.d (.bool true)) β
theorem sc_is_order : FnScope ["goods", "thing", "one", "good", "many", "given", "hour"] ["goods", "thing"] (defScope s_is_order) := ⟨rfl, rfl, rfl, by decide +kernel, rfl, by decide +kernel, by decide +kernel⟩
theorem fn_is_order {g : Gb} (T : Txt g) : FnX g "is_order" ["goods", "thing"] 2 R_is_order := by
  have nd := sc_is_order.nd
  have c_is_whole := fn_is_whole T
  refine T.fnX 22 rfl sc_is_order (fun _ _ _ _ _ _ us hl => match us, hl with | [_, _], _ => rfl) (by intro rs β r β' h; cases h <;> rfl) ⟨_, (pssc_cons (psc_if (ptc_w (pwc_or (ptc_not (ptc_of (pec_isi (n := "tuple") T.b_isinstance T.b_tuple (by decide +kernel) (pec_var 1)))) (pwc_or (ptc_ne (pec_len T.b_len (pec_var 1)) pec_int) (pwc_or1 (ptc_not (ptc_of (pec_all T.b_all (pec_lc [("one", 2)] nd (pic_tup (pec_var 1)) (pgc_name 2 nd) ptsc_nil (pec_fn c_is_whole (pac_cons (pec_var 2) pac_nil)))))))))) (pssc_one (psc_ret pec_bl)) pssc_nil)
    (pssc_cons (psc_asg (pec_var 1) (pgc_tup (n := 4) (pgsc_cons (pgc_name 3 nd) (pgsc_cons (pgc_name 4 nd) (pgsc_cons (pgc_name 5 nd) (pgsc_cons (pgc_name 6 nd) pgsc_nil))))))
    (pssc_one (psc_ret (pec_and (pec_leLt pec_int (pec_var 3) (pec_var 0)) (pec_and (pec_leLe pec_int (pec_var 4) (pec_gint T.MOST_STOCK)) (pec_and (pec_leLe pec_int (pec_var 5) (pec_var 4)) (pec_one (pec_ge (pec_var 6) pec_int))))))))), ?_⟩
  intro rs β r β' h B bx
  clear c_is_whole
  rcases h with @⟨gd, o, β, h⟩
  change GoR g.K B bx _ [some _, some _, none, none, none, none, none] _ _ _
  have := h.g0; have := h.g1; have := h.m0; have := h.m1; have := h.v0; have := h.v1; have := h.h
  refine go_ifr (ev_tcast (c := false) (ev_tor (evt_not (evt_of (ev_isi (evr_var rfl)))) fun _ => (ev_tor (evt_of (ev_ne (ev_len (evr_var rfl)) (evr_c fun _ => .int _))) fun _ => (evt_not (evt_of (ev_allM (q := fun _ => true) (ev_lc (xs := [o.good, o.many, o.given, o.hour]) (enc := PyData.int) (wk_tup (evr_var rfl)) (tg_name _) (by decide) (by simp) fun y hy => ⟨_, rfl, (ev_callD (dv_cons (evr_var rfl) dv_nil) .mk)⟩)))))) rfl) (fun h => by cases h) (fun _ => ?_)
  refine go_seq1 (go_asgT (evr_var rfl) (tg_tup (tgs_cons (tg_name _) (tgs_cons (tg_name _) (tgs_cons (tg_name _) (tgs_cons (tg_name _) tgs_nil))))) rfl ⟨rfl, rfl⟩) ?_
  refine go_ret (ev_cast (ev_vand (ev_leLt (evr_c fun _ => .int _) (evr_var rfl) (evr_var rfl)) fun _ => (ev_vand (ev_leLe (evr_c fun _ => .int _) (evr_var rfl) (evr_c fun _ => .int _)) fun _ => (ev_vand (ev_leLe (evr_c fun _ => .int _) (evr_var rfl) (evr_var rfl)) fun _ => (ev_ge (evr_var rfl) (evr_c fun _ => .int _))))) ?_) ⟨rfl, rfl⟩
  simp; omega
/-- carriers as wanted -/
structure CsOk (y : Yard) (sh : List Shelf) (cs : List Car) : Prop where
  c1 : 1 ≤ cs.length
  c3 : cs.length ≤ 3
  cars : ∀ c ∈ cs, CarOk y sh.length c
  cn : (cs.map (·.cell)).Nodup
  ln : (loadsL cs).Nodup
  hm : ∀ c ∈ cs, c.load = none ∨ c.cell ∉ openH sh (loadsL cs)
theorem load_le (cs : List Car) : (loadsL cs).length ≤ cs.length := List.length_filterMap_le _ _
inductive R_are_carriers : List Res → Bx → Res → Bx → Prop
  | mk {y : Yard} {sh : List Shelf} {cs : List Car} {β : Bx} (hy : y.Ok) (hs : sh.length ≤ 4) (h : CsOk y sh cs) : R_are_carriers [.d (encYard y), .d (.tuple (sh.map encShelf)), .d (.tuple (cs.map encCar))] β (.d (.bool true)) β
theorem sc_are_carriers : FnScope ["yard", "shelves", "thing", "one", "loads", "homes", "number", "home", "stock"] ["yard", "shelves", "thing"] (defScope s_are_carriers) := ⟨rfl, rfl, rfl, by decide +kernel, rfl, by decide +kernel, by decide +kernel⟩
theorem fn_are_carriers {g : Gb} (T : Txt g) : FnX g "are_carriers" ["yard", "shelves", "thing"] 5 R_are_carriers := by
  have nd := sc_are_carriers.nd
  have c_is_carrier := fn_is_carrier T
  refine T.fnX 23 rfl sc_are_carriers (fun _ _ _ _ _ _ us hl => match us, hl with | [_, _, _], _ => rfl) (by intro rs β r β' h; cases h <;> rfl) ⟨_, (pssc_cons (psc_if (ptc_w (pwc_or (ptc_not (ptc_of (pec_isi (n := "tuple") T.b_isinstance T.b_tuple (by decide +kernel) (pec_var 2)))) (pwc_or1 (ptc_not (ptc_leLe pec_int (pec_len T.b_len (pec_var 2)) (pec_gint T.MOST_CARRIERS)))))) (pssc_one (psc_ret pec_bl)) pssc_nil)
    (pssc_cons (psc_if (ptc_not (ptc_of (pec_all T.b_all (pec_lc [("one", 3)] nd (pic_tup (pec_var 2)) (pgc_name 3 nd) ptsc_nil (pec_fn c_is_carrier (pac_cons (pec_var 0) (pac_cons (pec_len T.b_len (pec_var 1)) (pac_cons (pec_var 3) pac_nil)))))))) (pssc_one (psc_ret pec_bl)) pssc_nil)
    (pssc_cons (psc_asg (pec_lc [("one", 3)] nd (pic_tup (pec_var 2)) (pgc_name 3 nd) (ptsc_one (ptc_notN (pec_ix (pec_var 3) pec_int))) (pec_ix (pec_var 3) pec_int)) (pgc_name 4 nd))
    (pssc_cons (psc_if (ptc_w (pwc_or (ptc_lt (pec_lenSc T.b_len [("one", 3)] nd (pic_tup (pec_var 2)) (pgc_name 3 nd) (pec_ix (pec_var 3) pec_int)) (pec_len T.b_len (pec_var 2))) (pwc_or1 (ptc_lt (pec_lenSet T.b_len T.b_set (pec_var 4)) (pec_len T.b_len (pec_var 4)))))) (pssc_one (psc_ret pec_bl)) pssc_nil)
    (pssc_cons (psc_asg (pec_lc [("number", 6), ("home", 7), ("stock", 8)] nd (pic_enumT T.b_enumerate (pec_var 1)) (pgc_tup (n := 2) (pgsc_cons (pgc_name 6 nd) (pgsc_cons (pgc_tup (n := 2) (pgsc_cons (pgc_name 7 nd) (pgsc_cons (pgc_name 8 nd) pgsc_nil))) pgsc_nil))) (ptsc_one (ptc_nin (pec_var 6) (pec_var 4))) (pec_var 7)) (pgc_name 5 nd))
    (pssc_one (psc_ret (pec_all T.b_all (pec_lc [("one", 3)] nd (pic_tup (pec_var 2)) (pgc_name 3 nd) ptsc_nil (pec_or (pec_isN (pec_ix (pec_var 3) pec_int)) (pec_one (pec_nin (pec_ix (pec_var 3) pec_int) (pec_var 5))))))))))))), ?_⟩
  intro rs β r β' h B bx
  clear c_is_carrier
  rcases h with @⟨y, sh, cs, β, hy, hs, h⟩
  change GoR g.K B bx _ [some _, some _, some _, none, none, none, none, none, none] _ _ _
  have := h.c1; have := h.c3; have ll := load_le cs
  refine go_ifr (ev_tcast (c := false) (ev_tor (evt_not (evt_of (ev_isi (evr_var rfl)))) fun _ => (evt_not (evt_of (ev_leLe (evr_c fun _ => .int _) (ev_len (evr_var rfl)) (evr_c fun _ => .int _))))) ?_) (fun h => by cases h) (fun _ => ?_)
  · simp; omega
  · refine go_ifr (ev_tcast (c := false) (evt_not (evt_of (ev_allM (q := fun _ => true) (ev_lc (xs := cs) (enc := encCar) (wk_tup (evr_var rfl)) (tg_name _) (by decide) (by omega) fun c hc => ⟨_, rfl, (ev_callD (dv_cons (evr_var rfl) (dv_cons (ev_cast (ev_len (evr_var rfl)) (by rw [List.length_map])) (dv_cons (evr_var rfl) dv_nil))) (.mk hy (h.cars c hc)))⟩)))) ?_) (fun h => by cases h) (fun _ => ?_)
    · rw [all_true]; rfl
    · refine go_seq1 (go_asg (ev_castR (ev_lcIf (xs := cs) (enc := encCar) (f := fun c => encO c.load) (fun c => !isNo (encO c.load)) (wk_tup (evr_var rfl)) (tg_name _) (by decide) (by omega) fun y hy => ⟨_, rfl, (evt_of (ev_notN (ev_ixT (evr_var rfl) (evr_c fun _ => .int _) rfl))), fun hp => (ev_ixT (evr_var rfl) (evr_c fun _ => .int _) rfl)⟩) (congrArg Res.l (loads_enc cs))) ⟨rfl, rfl⟩) ?_
      refine go_ifr (ev_tcast (c := false) (ev_tor (evt_of (ev_lt (ev_lenSc (xs := cs) (enc := encCar) (wk_tup (evr_var rfl)) (tg_name _) h.cn (by decide) (by omega) fun y hy => ⟨_, rfl, (ev_ixT (evr_var rfl) (evr_c fun _ => .int _) rfl)⟩) (ev_len (evr_var rfl)))) fun _ => (evt_of (ev_lt (ev_lenSet (evr_var rfl) rfl h.ln (by omega)) (ev_len (evr_var rfl))))) ?_) (fun h => by cases h) (fun _ => ?_)
      · simp
      · refine go_seq1 (go_asg (ev_lcIf (xs := zipN sh) (enc := fun p => prD (.int p.1) (encShelf p.2)) (f := fun p => .int p.2.home) (fun p => !decide ((p.1 : Int) ∈ loadsL cs)) (wk_enumZ (evr_var rfl)) (tg_tup (tgs_cons (tg_name _) (tgs_cons (tg_tup (tgs_cons (tg_name _) (tgs_cons (tg_name _) tgs_nil))) tgs_nil))) (by decide) (by rw [zipN_len]; omega) fun p hp => ⟨_, rfl, ev_tcast (evt_of (ev_nin (evr_var rfl) (evr_var rfl) rfl (fl_ints _))) (by rw [inD_ints]), fun hp => (evr_var rfl)⟩) ⟨rfl, rfl⟩) ?_
        have eo : ((zipN sh).filter fun p => !decide ((p.1 : Int) ∈ loadsL cs)).map (fun p => PyData.int p.2.home) = (openH sh (loadsL cs)).map PyData.int := by
          unfold openH
          rw [List.map_map]; rfl
        rw [eo]
        refine go_ret (ev_cast (ev_allM (q := fun _ => true) (ev_lc (xs := cs) (enc := encCar) (wk_tup (evr_var rfl)) (tg_name _) (by decide) (by omega) fun c hc => ⟨_, rfl, ?_⟩)) (by rw [all_true])) ⟨rfl, rfl⟩
        refine ev_cast (ev_vor (ev_isN (ev_ixT (evr_var rfl) (evr_c fun _ => .int _) rfl)) fun _ => (ev_nin (ev_ixT (evr_var rfl) (evr_c fun _ => .int _) rfl) (evr_var rfl) rfl (fl_ints _))) ?_
        rw [inD_ints, isNo_encO]
        rcases h.hm c hc with e | e
        · rw [e]; rfl
        · simp [e]
inductive R_goods_in : List Res → Bx → Res → Bx → Prop
  | mk {sh : List Shelf} {β : Bx} (h : sh.length ≤ 100) : R_goods_in [.d (.tuple (sh.map encShelf))] β (.d (.int (goodsL sh))) β
theorem sc_goods_in : FnScope ["shelves"] ["shelves"] (defScope s_goods_in) := ⟨rfl, rfl, rfl, by decide +kernel, rfl, by decide +kernel, by decide +kernel⟩
theorem fn_goods_in {g : Gb} (T : Txt g) : FnX g "goods_in" ["shelves"] 1 R_goods_in := by
  have nd := sc_goods_in.nd
  refine T.fnX 24 rfl sc_goods_in (fun _ _ _ _ _ _ us hl => match us, hl with | [_], _ => rfl) (by intro rs β r β' h; cases h <;> rfl) ⟨_, (pssc_one (psc_ret (pec_if (ptc_neD (pec_var 0) (pec_tup pac_nil)) (pec_len T.b_len (pec_ix (pec_ix (pec_var 0) pec_int) pec_int)) pec_int))), ?_⟩
  intro rs β r β' h B bx
  rcases h with @⟨sh, β, h⟩
  change GoR g.K B bx _ [some _] _ _ _
  cases sh with
  | nil => exact go_ret (evr_if (c := false) (ev_tcast (evt_of (ev_neD (evr_var rfl) (ev_tup dv_nil) (Sh.tmap sh_shelf).ok (Sh.ok (n := 1) (Sh.tup (ds := []) fun _ h => by cases h)))) rfl) (fun h => by cases h) (fun _ => (evr_c fun _ => .int _))) ⟨rfl, rfl⟩
  | cons s sh =>
    refine go_ret (evr_if (c := true) (ev_tcast (evt_of (ev_neD (evr_var rfl) (ev_tup dv_nil) (Sh.tmap sh_shelf).ok (Sh.ok (n := 1) (Sh.tup (ds := []) fun _ h => by cases h)))) rfl) (fun _ => ev_cast (ev_lenT (ds := s.stock.map PyData.int) (ev_ixT (d := encInts s.stock) (ev_ixT (d := encShelf s) (evr_var rfl) (evr_c fun _ => .int _) at0) (evr_c fun _ => .int _) rfl)) (by rw [List.length_map]; rfl)) (fun h => by cases h)) ⟨rfl, rfl⟩
theorem State.Ok.shOk {y : Yard} {s : State} (h : s.Ok y) : ShOk y s.shelves := ⟨h.sn, h.sh, h.g1, h.g3, h.hn⟩
theorem State.Ok.csOk {y : Yard} {s : State} (h : s.Ok y) : CsOk y s.shelves s.cars := ⟨h.c1, h.c3, h.cars, h.cn, h.ln, h.hm⟩
inductive R_is_state_of : List Res → Bx → Res → Bx → Prop
  | mk {y : Yard} {s : State} {β : Bx} (hy : y.Ok) (h : s.Ok y) : R_is_state_of [.d (encYard y), .d (encState s)] β (.d (.bool true)) β
theorem sc_is_state_of : FnScope ["yard", "thing", "beat", "carriers", "shelves", "orders", "one"] ["yard", "thing"] (defScope s_is_state_of) := ⟨rfl, rfl, rfl, by decide +kernel, rfl, by decide +kernel, by decide +kernel⟩
theorem fn_is_state_of {g : Gb} (T : Txt g) : FnX g "is_state_of" ["yard", "thing"] 6 R_is_state_of := by
  have nd := sc_is_state_of.nd
  have c_is_whole := fn_is_whole T
  have c_are_shelves := fn_are_shelves T
  have c_are_carriers := fn_are_carriers T
  have c_is_order := fn_is_order T
  have c_goods_in := fn_goods_in T
  refine T.fnX 25 rfl sc_is_state_of (fun _ _ _ _ _ _ us hl => match us, hl with | [_, _], _ => rfl) (by intro rs β r β' h; cases h <;> rfl) ⟨_, (pssc_cons (psc_if (ptc_w (pwc_or (ptc_not (ptc_of (pec_isi (n := "tuple") T.b_isinstance T.b_tuple (by decide +kernel) (pec_var 1)))) (pwc_or (ptc_ne (pec_len T.b_len (pec_var 1)) pec_int) (pwc_or (ptc_not (ptc_of (pec_fn c_is_whole (pac_cons (pec_ix (pec_var 1) pec_int) pac_nil)))) (pwc_or1 (ptc_lt (pec_ix (pec_var 1) pec_int) pec_int)))))) (pssc_one (psc_ret pec_bl)) pssc_nil)
    (pssc_cons (psc_asg (pec_var 1) (pgc_tup (n := 4) (pgsc_cons (pgc_name 2 nd) (pgsc_cons (pgc_name 3 nd) (pgsc_cons (pgc_name 4 nd) (pgsc_cons (pgc_name 5 nd) pgsc_nil))))))
    (pssc_cons (psc_if (ptc_w (pwc_or (ptc_not (ptc_of (pec_fn c_are_shelves (pac_cons (pec_var 0) (pac_cons (pec_var 4) pac_nil))))) (pwc_or1 (ptc_not (ptc_of (pec_fn c_are_carriers (pac_cons (pec_var 0) (pac_cons (pec_var 4) (pac_cons (pec_var 3) pac_nil))))))))) (pssc_one (psc_ret pec_bl)) pssc_nil)
    (pssc_cons (psc_if (ptc_w (pwc_or (ptc_not (ptc_of (pec_isi (n := "tuple") T.b_isinstance T.b_tuple (by decide +kernel) (pec_var 5)))) (pwc_or1 (ptc_gt (pec_len T.b_len (pec_var 5)) (pec_gint T.MOST_ORDERS))))) (pssc_one (psc_ret pec_bl)) pssc_nil)
    (pssc_one (psc_ret (pec_all T.b_all (pec_lc [("one", 6)] nd (pic_tup (pec_var 5)) (pgc_name 6 nd) ptsc_nil (pec_fn c_is_order (pac_cons (pec_fn c_goods_in (pac_cons (pec_var 4) pac_nil)) (pac_cons (pec_var 6) pac_nil))))))))))), ?_⟩
  intro rs β r β' h B bx
  clear c_is_whole
  clear c_are_shelves
  clear c_are_carriers
  clear c_is_order
  clear c_goods_in
  rcases h with @⟨y, s, β, hy, h⟩
  change GoR g.K B bx _ [some _, some _, none, none, none, none, none] _ _ _
  have := h.b; have := h.on; have := h.sn
  refine go_ifr (ev_tcast (c := false) (ev_tor (evt_not (evt_of (ev_isi (evr_var rfl)))) fun _ => (ev_tor (evt_of (ev_ne (ev_len (evr_var rfl)) (evr_c fun _ => .int _))) fun _ => (ev_tor (evt_not (evt_of (ev_callD (dv_cons (ev_ixT (evr_var rfl) (evr_c fun _ => .int _) rfl) dv_nil) .mk))) fun _ => (evt_of (ev_lt (ev_ixT (evr_var rfl) (evr_c fun _ => .int _) rfl) (evr_c fun _ => .int _)))))) ?_) (fun h => by cases h) (fun _ => ?_)
  · simp; omega
  · refine go_seq1 (go_asgT (evr_var rfl) (tg_tup (tgs_cons (tg_name _) (tgs_cons (tg_name _) (tgs_cons (tg_name _) (tgs_cons (tg_name _) tgs_nil))))) rfl ⟨rfl, rfl⟩) ?_
    refine go_ifr (ev_tcast (c := false) (ev_tor (evt_not (evt_of (ev_callD (dv_cons (evr_var rfl) (dv_cons (evr_var rfl) dv_nil)) (.mk hy h.shOk)))) fun _ => (evt_not (evt_of (ev_callD (dv_cons (evr_var rfl) (dv_cons (evr_var rfl) (dv_cons (evr_var rfl) dv_nil))) (.mk hy h.sn h.csOk))))) rfl) (fun h => by cases h) (fun _ => ?_)
    refine go_ifr (ev_tcast (c := false) (ev_tor (evt_not (evt_of (ev_isi (evr_var rfl)))) fun _ => (evt_of (ev_gt (ev_len (evr_var rfl)) (evr_c fun _ => .int _)))) ?_) (fun h => by cases h) (fun _ => ?_)
    · simp; omega
    · refine go_ret (ev_cast (ev_allM (q := fun _ => true) (ev_lc (xs := s.orders) (enc := encOrder) (wk_tup (evr_var rfl)) (tg_name _) (by decide) (by omega) fun o ho => ⟨_, rfl, (ev_callD (dv_cons (ev_callD (dv_cons (evr_var rfl) dv_nil) (.mk (by omega))) (dv_cons (evr_var rfl) dv_nil)) (.mk (h.os o ho)))⟩)) (by rw [all_true])) ⟨rfl, rfl⟩
inductive R_is_state : List Res → Bx → Res → Bx → Prop
  | mk {y : Yard} {s : State} {β : Bx} (hy : y.Ok) (h : s.Ok y) : R_is_state [.d (encYard y), .d (encState s)] β (.d (.bool true)) β
theorem sc_is_state : FnScope ["yard", "thing"] ["yard", "thing"] (defScope s_is_state) := ⟨rfl, rfl, rfl, by decide +kernel, rfl, by decide +kernel, by decide +kernel⟩
theorem fn_is_state {g : Gb} (T : Txt g) : FnX g "is_state" ["yard", "thing"] 7 R_is_state := by
  have nd := sc_is_state.nd
  have c_need_yard := fn_need_yard T
  have c_is_state_of := fn_is_state_of T
  refine T.fnX 26 rfl sc_is_state (fun _ _ _ _ _ _ us hl => match us, hl with | [_, _], _ => rfl) (by intro rs β r β' h; cases h <;> rfl) ⟨_, (pssc_cons (psc_expr (pec_fn c_need_yard (pac_cons (pec_var 0) pac_nil)))
    (pssc_one (psc_ret (pec_fn c_is_state_of (pac_cons (pec_var 0) (pac_cons (pec_var 1) pac_nil)))))), ?_⟩
  intro rs β r β' h B bx
  clear c_need_yard
  clear c_is_state_of
  rcases h with @⟨y, s, β, hy, h⟩
  change GoR g.K B bx _ [some _, some _] _ _ _
  refine go_seq1 (go_drop (ev_callD (dv_cons (evr_var rfl) dv_nil) (.mk hy)) ⟨rfl, rfl⟩) ?_
  exact go_ret (ev_callD (dv_cons (evr_var rfl) (dv_cons (evr_var rfl) dv_nil)) (.mk hy h)) ⟨rfl, rfl⟩
inductive R_need_state : List Res → Bx → Res → Bx → Prop
  | mk {y : Yard} {s : State} {β : Bx} (hy : y.Ok) (h : s.Ok y) : R_need_state [.d (encYard y), .d (encState s)] β (.d .none) β
theorem sc_need_state : FnScope ["yard", "thing"] ["yard", "thing"] (defScope s_need_state) := ⟨rfl, rfl, rfl, by decide +kernel, rfl, by decide +kernel, by decide +kernel⟩
theorem fn_need_state {g : Gb} (T : Txt g) : FnX g "need_state" ["yard", "thing"] 7 R_need_state := by
  have nd := sc_need_state.nd
  have c_need_yard := fn_need_yard T
  have c_is_state_of := fn_is_state_of T
  refine T.fnX 27 rfl sc_need_state (fun _ _ _ _ _ _ us hl => match us, hl with | [_, _], _ => rfl) (by intro rs β r β' h; cases h <;> rfl) ⟨_, (pssc_cons (psc_expr (pec_fn c_need_yard (pac_cons (pec_var 0) pac_nil)))
    (pssc_one (psc_if (ptc_not (ptc_of (pec_fn c_is_state_of (pac_cons (pec_var 0) (pac_cons (pec_var 1) pac_nil))))) (pssc_one psc_never) pssc_nil))), ?_⟩
  intro rs β r β' h B bx
  clear c_need_yard
  clear c_is_state_of
  rcases h with @⟨y, s, β, hy, h⟩
  change GoR g.K B bx _ [some _, some _] _ _ _
  refine go_seq1 (go_drop (ev_callD (dv_cons (evr_var rfl) dv_nil) (.mk hy)) ⟨rfl, rfl⟩) ?_
  refine go_if (evt_not (evt_of (ev_callD (dv_cons (evr_var rfl) (dv_cons (evr_var rfl) dv_nil)) (.mk hy h)))) (fun h1 => ?_) (fun h1 => ?_)
  · exact go_never (by cases h1)
  · exact go_next ⟨rfl, rfl⟩
end K20
set_option maxHeartbeats 4000000
namespace K20
open PySem PySem.Spec PyProof.Rows L2
inductive R_loads_of : List Res → Bx → Res → Bx → Prop
  | mk {s : State} {β : Bx} (h : s.cars.length ≤ 100) : R_loads_of [.d (encState s)] β (.l ((loadsL s.cars).map PyData.int)) β
theorem sc_loads_of : FnScope ["state", "cell", "charge", "load", "broken"] ["state"] (defScope s_loads_of) := ⟨rfl, rfl, rfl, by decide +kernel, rfl, by decide +kernel, by decide +kernel⟩
theorem fn_loads_of {g : Gb} (T : Txt g) : FnX g "loads_of" ["state"] 1 R_loads_of := by
  have nd := sc_loads_of.nd
  refine T.fnX 28 rfl sc_loads_of (fun _ _ _ _ _ _ us hl => match us, hl with | [_], _ => rfl) (by intro rs β r β' h; cases h <;> rfl) ⟨_, (pssc_one (psc_ret (pec_lc [("cell", 1), ("charge", 2), ("load", 3), ("broken", 4)] nd (pic_tup (pec_ix (pec_var 0) pec_int)) (pgc_tup (n := 4) (pgsc_cons (pgc_name 1 nd) (pgsc_cons (pgc_name 2 nd) (pgsc_cons (pgc_name 3 nd) (pgsc_cons (pgc_name 4 nd) pgsc_nil))))) (ptsc_one (ptc_notN (pec_var 3))) (pec_var 3)))), ?_⟩
  intro rs β r β' h B bx
  rcases h with @⟨s, β, h⟩
  change GoR g.K B bx _ [some _, none, none, none, none] _ _ _
  exact go_ret (ev_castR (ev_lcIf (xs := s.cars) (enc := encCar) (f := fun c => encO c.load) (fun c => !isNo (encO c.load)) (wk_tup (ev_ixT (evr_var rfl) (evr_c fun _ => .int _) rfl)) (tg_tup (tgs_cons (tg_name _) (tgs_cons (tg_name _) (tgs_cons (tg_name _) (tgs_cons (tg_name _) tgs_nil))))) (by decide) (by omega) fun y hy => ⟨_, rfl, (evt_of (ev_notN (evr_var rfl))), fun hp => (evr_var rfl)⟩) (congrArg Res.l (loads_enc s.cars))) ⟨rfl, rfl⟩
def State.stand (s : State) : List Nat := standL s.shelves.length (loadsL s.cars)
inductive R_standing_by : List Res → Bx → Res → Bx → Prop
  | mk {s : State} {β : Bx} (h : s.cars.length ≤ 100) (h2 : s.shelves.length ≤ 100) : R_standing_by [.d (encState s)] β (.l (s.stand.map fun i => .int (i : Nat))) β
theorem sc_standing_by : FnScope ["state", "loads", "number"] ["state"] (defScope s_standing_by) := ⟨rfl, rfl, rfl, by decide +kernel, rfl, by decide +kernel, by decide +kernel⟩
theorem fn_standing_by {g : Gb} (T : Txt g) : FnX g "standing_by" ["state"] 2 R_standing_by := by
  have nd := sc_standing_by.nd
  have c_loads_of := fn_loads_of T
  refine T.fnX 29 rfl sc_standing_by (fun _ _ _ _ _ _ us hl => match us, hl with | [_], _ => rfl) (by intro rs β r β' h; cases h <;> rfl) ⟨_, (pssc_cons (psc_asg (pec_fn c_loads_of (pac_cons (pec_var 0) pac_nil)) (pgc_name 1 nd))
    (pssc_one (psc_ret (pec_lc [("number", 2)] nd (pic_range T.b_range (pec_len T.b_len (pec_ix (pec_var 0) pec_int))) (pgc_name 2 nd) (ptsc_one (ptc_nin (pec_var 2) (pec_var 1))) (pec_var 2))))), ?_⟩
  intro rs β r β' h B bx
  clear c_loads_of
  rcases h with @⟨s, β, h, h2⟩
  change GoR g.K B bx _ [some _, none, none] _ _ _
  refine go_seq1 (go_asg (ev_callD (dv_cons (evr_var rfl) dv_nil) (.mk h)) ⟨rfl, rfl⟩) ?_
  refine go_ret (ev_lcIf (xs := List.range s.shelves.length) (enc := fun i => .int (i : Nat)) (f := fun i => .int (i : Nat)) (fun i => !decide ((i : Int) ∈ loadsL s.cars)) (wkr_cast (wk_range (ev_lenT (ds := s.shelves.map encShelf) (ev_ixT (evr_var rfl) (evr_c fun _ => .int _) rfl)) (by omega) (by rw [List.length_map]; omega)) (by unfold rgD; rw [List.length_map]; rfl)) (tg_name _) (by decide) (by rw [List.length_range]; omega) fun y hy => ⟨_, rfl, ev_tcast (evt_of (ev_nin (evr_var rfl) (evr_var rfl) rfl (fl_ints _))) (by rw [inD_ints]), fun hp => (evr_var rfl)⟩) ⟨rfl, rfl⟩
inductive R_lacking : List Res → Bx → Res → Bx → Prop
  | mk {o : Order} {β : Bx} : R_lacking [.d (encOrder o)] β (.d (.int (o.many - o.given))) β
theorem sc_lacking : FnScope ["order", "good", "many", "given", "hour"] ["order"] (defScope s_lacking) := ⟨rfl, rfl, rfl, by decide +kernel, rfl, by decide +kernel, by decide +kernel⟩
theorem fn_lacking {g : Gb} (T : Txt g) : FnX g "lacking" ["order"] 1 R_lacking := by
  have nd := sc_lacking.nd
  refine T.fnX 30 rfl sc_lacking (fun _ _ _ _ _ _ us hl => match us, hl with | [_], _ => rfl) (by intro rs β r β' h; cases h <;> rfl) ⟨_, (pssc_cons (psc_asg (pec_var 0) (pgc_tup (n := 4) (pgsc_cons (pgc_name 1 nd) (pgsc_cons (pgc_name 2 nd) (pgsc_cons (pgc_name 3 nd) (pgsc_cons (pgc_name 4 nd) pgsc_nil))))))
    (pssc_one (psc_ret (pec_sub (pec_var 2) (pec_var 3))))), ?_⟩
  intro rs β r β' h B bx
  rcases h with @⟨o, β⟩
  change GoR g.K B bx _ [some _, none, none, none, none] _ _ _
  refine go_seq1 (go_asgT (evr_var rfl) (tg_tup (tgs_cons (tg_name _) (tgs_cons (tg_name _) (tgs_cons (tg_name _) (tgs_cons (tg_name _) tgs_nil))))) rfl ⟨rfl, rfl⟩) ?_
  exact go_ret (ev_sub (evr_var rfl) (evr_var rfl)) ⟨rfl, rfl⟩
/-- what stands in the shelves, by good; what is given -/
def thereOf (sh : List Shelf) (g : Nat) : Int := (sh.map fun s => s.stock.getD g 0).sum
def givenOf (os : List Order) (g : Nat) : Int := ((os.filter fun o => decide (o.good = (g : Int))).map (·.given)).sum
def State.there (s : State) : List Int := (List.range (goodsL s.shelves)).map (thereOf s.shelves)
def State.givenL (s : State) : List Int := (List.range (goodsL s.shelves)).map (givenOf s.orders)
inductive R_sums_by : List Res → Bx → Res → Bx → Prop
  | mk {y : Yard} {s : State} {β : Bx} (h : s.Ok y) : R_sums_by [.d (encState s)] β (.d (.tuple [encInts s.there, encInts s.givenL])) β
theorem sc_sums_by : FnScope ["state", "goods", "there", "home", "stock", "number", "given", "order"] ["state"] (defScope s_sums_by) := ⟨rfl, rfl, rfl, by decide +kernel, rfl, by decide +kernel, by decide +kernel⟩
theorem fn_sums_by {g : Gb} (T : Txt g) : FnX g "sums_by" ["state"] 2 R_sums_by := by
  have nd := sc_sums_by.nd
  have c_goods_in := fn_goods_in T
  refine T.fnX 31 rfl sc_sums_by (fun _ _ _ _ _ _ us hl => match us, hl with | [_], _ => rfl) (by intro rs β r β' h; cases h <;> rfl) ⟨_, (pssc_cons (psc_asg (pec_listRg T.b_list T.b_range (pec_fn c_goods_in (pac_cons (pec_ix (pec_var 0) pec_int) pac_nil))) (pgc_name 1 nd))
    (pssc_cons (psc_setLc 2 [("number", 5)] nd (pic_list (pec_var 1)) (pgc_name 5 nd) ptsc_nil (pec_sum T.b_sum (pec_lc [("home", 3), ("stock", 4)] nd (pic_tup (pec_ix (pec_var 0) pec_int)) (pgc_tup (n := 2) (pgsc_cons (pgc_name 3 nd) (pgsc_cons (pgc_name 4 nd) pgsc_nil))) ptsc_nil (pec_ix (pec_var 4) (pec_var 5)))))
    (pssc_cons (psc_setLc 6 [("number", 5)] nd (pic_list (pec_var 1)) (pgc_name 5 nd) ptsc_nil (pec_sum T.b_sum (pec_lc [("order", 7)] nd (pic_tup (pec_ix (pec_var 0) pec_int)) (pgc_name 7 nd) (ptsc_one (ptc_eq (pec_ix (pec_var 7) pec_int) (pec_var 5))) (pec_ix (pec_var 7) pec_int))))
    (pssc_one (psc_ret (pec_tup (pac_cons (pec_tuple T.b_tuple (pec_var 2)) (pac_cons (pec_tuple T.b_tuple (pec_var 6)) pac_nil)))))))), ?_⟩
  intro rs β r β' h B bx
  clear c_goods_in
  rcases h with @⟨y, s, β, h⟩
  change GoR g.K B bx _ [some _, none, none, none, none, none, none, none] _ _ _
  have h4 := h.sn; have g3 := h.g3; have o4 := h.on
  refine go_seq1 (go_asg (ev_listRg (ev_callD (dv_cons (ev_ixT (evr_var rfl) (evr_c fun _ => .int _) rfl) dv_nil) (.mk (by omega))) (by omega) (by omega)) ⟨rfl, rfl⟩) ?_
  refine go_seq1 (go_asg (ev_lc (xs := List.range (goodsL s.shelves)) (enc := fun i => .int (i : Nat)) (f := fun g => .int (thereOf s.shelves g)) (wk_list (evr_var rfl)) (tg_name _) (by decide) (by rw [List.length_range]; omega) fun gd hg => ⟨_, rfl, (ev_sumM (q := fun b : Shelf => b.stock.getD gd 0) (ev_lc (xs := s.shelves) (enc := encShelf) (wk_tup (ev_ixT (evr_var rfl) (evr_c fun _ => .int _) rfl)) (tg_tup (tgs_cons (tg_name _) (tgs_cons (tg_name _) tgs_nil))) (by decide) (by omega) fun b hb => ⟨_, rfl, (ev_ixT (ds := b.stock.map PyData.int) (evr_var rfl) (evr_var rfl) ?_)⟩))⟩) ⟨rfl, rfl⟩) ?_
  · have hl := (h.sh b hb).g
    rw [List.mem_range] at hg
    have hlt : gd < b.stock.length := by omega
    refine atN (n := gd) rfl ?_
    rw [List.getElem?_map, List.getElem?_eq_getElem hlt, List.getD_eq_getElem?_getD, List.getElem?_eq_getElem hlt]
    rfl
  refine go_seq1 (go_asg (ev_lc (xs := List.range (goodsL s.shelves)) (enc := fun i => .int (i : Nat)) (f := fun g => .int (givenOf s.orders g)) (wk_list (evr_var rfl)) (tg_name _) (by decide) (by rw [List.length_range]; omega) fun gd hg => ⟨_, rfl, ev_cast (ev_sumM (xs := s.orders.filter fun o => decide (o.good = (gd : Int))) (q := fun o : Order => o.given) (ev_lcIf (xs := s.orders) (enc := encOrder) (fun o => decide (o.good = (gd : Int))) (wk_tup (ev_ixT (evr_var rfl) (evr_c fun _ => .int _) rfl)) (tg_name _) (by decide) (by omega) fun o ho => ⟨_, rfl, (evt_of (ev_eq (ev_ixT (evr_var rfl) (evr_c fun _ => .int _) rfl) (evr_var rfl))), fun hp => (ev_ixT (evr_var rfl) (evr_c fun _ => .int _) rfl)⟩)) rfl⟩) ⟨rfl, rfl⟩) ?_
  refine go_ret (ev_cast (ev_tup (dv_cons (ev_tupleL (evr_var rfl)) (dv_cons (ev_tupleL (evr_var rfl)) dv_nil))) ?_) ⟨rfl, rfl⟩
  unfold State.there State.givenL encInts
  rw [List.map_map, List.map_map]; rfl
inductive R_sums : List Res → Bx → Res → Bx → Prop
  | mk {y : Yard} {s : State} {β : Bx} (hy : y.Ok) (h : s.Ok y) : R_sums [.d (encYard y), .d (encState s)] β (.d (.tuple [encInts s.there, encInts s.givenL])) β
theorem sc_sums : FnScope ["yard", "state"] ["yard", "state"] (defScope s_sums) := ⟨rfl, rfl, rfl, by decide +kernel, rfl, by decide +kernel, by decide +kernel⟩
theorem fn_sums {g : Gb} (T : Txt g) : FnX g "sums" ["yard", "state"] 8 R_sums := by
  have nd := sc_sums.nd
  have c_need_state := fn_need_state T
  have c_sums_by := fn_sums_by T
  refine T.fnX 32 rfl sc_sums (fun _ _ _ _ _ _ us hl => match us, hl with | [_, _], _ => rfl) (by intro rs β r β' h; cases h <;> rfl) ⟨_, (pssc_cons (psc_expr (pec_fn c_need_state (pac_cons (pec_var 0) (pac_cons (pec_var 1) pac_nil))))
    (pssc_one (psc_ret (pec_fn c_sums_by (pac_cons (pec_var 1) pac_nil))))), ?_⟩
  intro rs β r β' h B bx
  clear c_need_state
  clear c_sums_by
  rcases h with @⟨y, s, β, hy, h⟩
  change GoR g.K B bx _ [some _, some _] _ _ _
  refine go_seq1 (go_drop (ev_callD (dv_cons (evr_var rfl) (dv_cons (evr_var rfl) dv_nil)) (.mk hy h)) ⟨rfl, rfl⟩) ?_
  exact go_ret (ev_callD (dv_cons (evr_var rfl) dv_nil) (.mk h)) ⟨rfl, rfl⟩
def State.total (s : State) : List Int := (List.range (goodsL s.shelves)).map fun g => thereOf s.shelves g + givenOf s.orders g
theorem zip_tot (s : State) : List.zipWith prD (s.there.map PyData.int) (s.givenL.map PyData.int) = (List.range (goodsL s.shelves)).map fun g => prD (.int (thereOf s.shelves g)) (.int (givenOf s.orders g)) := by
  unfold State.there State.givenL
  rw [List.map_map, List.map_map, List.zipWith_map]
  rw [List.zipWith_self]; rfl
inductive R_totals_of : List Res → Bx → Res → Bx → Prop
  | mk {y : Yard} {s : State} {β : Bx} (h : s.Ok y) : R_totals_of [.d (encState s)] β (.l (s.total.map PyData.int)) β
theorem sc_totals_of : FnScope ["state", "there", "given", "here", "got"] ["state"] (defScope s_totals_of) := ⟨rfl, rfl, rfl, by decide +kernel, rfl, by decide +kernel, by decide +kernel⟩
theorem fn_totals_of {g : Gb} (T : Txt g) : FnX g "totals_of" ["state"] 3 R_totals_of := by
  have nd := sc_totals_of.nd
  have c_sums_by := fn_sums_by T
  refine T.fnX 33 rfl sc_totals_of (fun _ _ _ _ _ _ us hl => match us, hl with | [_], _ => rfl) (by intro rs β r β' h; cases h <;> rfl) ⟨_, (pssc_cons (psc_asg (pec_fn c_sums_by (pac_cons (pec_var 0) pac_nil)) (pgc_tup (n := 2) (pgsc_cons (pgc_name 1 nd) (pgsc_cons (pgc_name 2 nd) pgsc_nil))))
    (pssc_one (psc_ret (pec_lc [("here", 3), ("got", 4)] nd (pic_zip T.b_zip (pec_var 1) (pec_var 2)) (pgc_tup (n := 2) (pgsc_cons (pgc_name 3 nd) (pgsc_cons (pgc_name 4 nd) pgsc_nil))) ptsc_nil (pec_add (pec_var 3) (pec_var 4)))))), ?_⟩
  intro rs β r β' h B bx
  clear c_sums_by
  rcases h with @⟨y, s, β, h⟩
  change GoR g.K B bx _ [some _, none, none, none, none] _ _ _
  have g3 := h.g3
  refine go_seq1 (go_asgT (ev_callD (dv_cons (evr_var rfl) dv_nil) (.mk h)) (tg_tup (tgs_cons (tg_name _) (tgs_cons (tg_name _) tgs_nil))) rfl ⟨rfl, rfl⟩) ?_
  refine go_ret (ev_castR (ev_lc (xs := List.range (goodsL s.shelves)) (enc := fun g => prD (.int (thereOf s.shelves g)) (.int (givenOf s.orders g))) (wkr_cast (wk_zipT (evr_var rfl) (evr_var rfl)) (zip_tot s)) (tg_tup (tgs_cons (tg_name _) (tgs_cons (tg_name _) tgs_nil))) (by decide) (by rw [List.length_range]; omega) fun y hy => ⟨_, rfl, (ev_add (evr_var rfl) (evr_var rfl))⟩) ?_) ⟨rfl, rfl⟩
  unfold State.total
  rw [List.map_map]; rfl
inductive R_alike : List Res → Bx → Res → Bx → Prop
  | mk {y : Yard} {s t : State} {β : Bx} (hy : y.Ok) (h : s.Ok y) (h2 : t.Ok y) (e : s.total = t.total) : R_alike [.d (encYard y), .d (encState s), .d (encState t)] β (.d (.bool true)) β
theorem sc_alike : FnScope ["yard", "one", "other"] ["yard", "one", "other"] (defScope s_alike) := ⟨rfl, rfl, rfl, by decide +kernel, rfl, by decide +kernel, by decide +kernel⟩
theorem fn_alike {g : Gb} (T : Txt g) : FnX g "alike" ["yard", "one", "other"] 8 R_alike := by
  have nd := sc_alike.nd
  have c_need_state := fn_need_state T
  have c_totals_of := fn_totals_of T
  refine T.fnX 34 rfl sc_alike (fun _ _ _ _ _ _ us hl => match us, hl with | [_, _, _], _ => rfl) (by intro rs β r β' h; cases h <;> rfl) ⟨_, (pssc_cons (psc_expr (pec_fn c_need_state (pac_cons (pec_var 0) (pac_cons (pec_var 1) pac_nil))))
    (pssc_cons (psc_expr (pec_fn c_need_state (pac_cons (pec_var 0) (pac_cons (pec_var 2) pac_nil))))
    (pssc_one (psc_ret (pec_eqD (pec_fn c_totals_of (pac_cons (pec_var 1) pac_nil)) (pec_fn c_totals_of (pac_cons (pec_var 2) pac_nil))))))), ?_⟩
  intro rs β r β' h B bx
  clear c_need_state
  clear c_totals_of
  rcases h with @⟨y, s, t, β, hy, h, h2, e⟩
  change GoR g.K B bx _ [some _, some _, some _] _ _ _
  refine go_seq1 (go_drop (ev_callD (dv_cons (evr_var rfl) (dv_cons (evr_var rfl) dv_nil)) (.mk hy h)) ⟨rfl, rfl⟩) ?_
  refine go_seq1 (go_drop (ev_callD (dv_cons (evr_var rfl) (dv_cons (evr_var rfl) dv_nil)) (.mk hy h2)) ⟨rfl, rfl⟩) ?_
  refine go_ret (ev_cast (ev_eqD (ev_callD (dv_cons (evr_var rfl) dv_nil) (.mk h)) (ev_callD (dv_cons (evr_var rfl) dv_nil) (.mk h2)) (Sh.lmap (n := 0) fun _ => .int).ok (Sh.lmap (n := 0) fun _ => .int).ok) ?_) ⟨rfl, rfl⟩
  rw [e, (Sh.lmap (n := 0) (xs := t.total) (f := PyData.int) fun _ => .int).refl]
inductive T_is_shut : List Res → Bx → Post → Prop
  | mk {y : Yard} {c b : Int} {β : Bx} (h : y.Ok) : T_is_shut [.d (encYard y), .d (.int c), .d (.int b)] β fun r β' => (∃ k, r = .d (.bool k)) ∧ β' = β
theorem sc_is_shut : FnScope ["yard", "cell", "beat", "one", "first", "last"] ["yard", "cell", "beat"] (defScope s_is_shut) := ⟨rfl, rfl, rfl, by decide +kernel, rfl, by decide +kernel, by decide +kernel⟩
theorem fn_is_shut {g : Gb} (T : Txt g) : FnP g "is_shut" ["yard", "cell", "beat"] 1 T_is_shut := by
  have nd := sc_is_shut.nd
  refine T.fnP 17 rfl sc_is_shut (fun _ _ _ _ _ _ us hl => match us, hl with | [_, _, _], _ => rfl) (by intro rs β P h; cases h <;> rfl) ⟨_, (pssc_one (psc_ret (pec_any T.b_any (pec_lc [("one", 3), ("first", 4), ("last", 5)] nd (pic_tup (pec_ix (pec_var 0) pec_int)) (pgc_tup (n := 3) (pgsc_cons (pgc_name 3 nd) (pgsc_cons (pgc_name 4 nd) (pgsc_cons (pgc_name 5 nd) pgsc_nil)))) ptsc_nil (pec_and (pec_eq (pec_var 1) (pec_var 3)) (pec_one (pec_leLe (pec_var 4) (pec_var 2) (pec_var 5)))))))), ?_⟩
  intro rs β P h B bx
  rcases h with @⟨y, c, b, β, h⟩
  change GoR g.K B bx _ [some _, some _, some _, none, none, none] _ _ _
  have := h.u1
  exact go_ret (ev_anyM (q := fun u : Int × Int × Int => decide (c = u.1) && (decide (u.2.1 ≤ b) && decide (b ≤ u.2.2))) (ev_lc (xs := y.shuts) (enc := encShut) (wk_tup (ev_ixT (evr_var rfl) (evr_c fun _ => .int _) rfl)) (tg_tup (tgs_cons (tg_name _) (tgs_cons (tg_name _) (tgs_cons (tg_name _) tgs_nil)))) (by decide) (by omega) fun y hy => ⟨_, rfl, (ev_vand (ev_eq (evr_var rfl) (evr_var rfl)) fun _ => (ev_leLe (evr_var rfl) (evr_var rfl) (evr_var rfl)))⟩)) ⟨⟨_, rfl⟩, rfl⟩
end K20
set_option maxHeartbeats 4000000
namespace K20
open PySem PySem.Spec PyProof.Rows L2
def Yard.row0 (y : Yard) : List Str := y.floors.headD []
def Yard.wide (y : Yard) : Int := (y.row0.headD ⟨#[]⟩).length
def Yard.area (y : Yard) : Int := y.row0.length * y.wide
def Yard.sgn (y : Yard) (c : Int) (n : Nat) : Bool := decide (y.sg[c.toNat]? = some n)
theorem flat_len {α : Type} {d w : Nat} (f : α → Nat) : ∀ fs : List (List α), (∀ l ∈ fs, l.length = d ∧ ∀ t ∈ l, f t = w) → (fs.flatten.map f).sum = fs.length * (d * w)
  | [], _ => by simp
  | l :: fs, h => by
    have ih := flat_len f fs fun l hl => h l (List.mem_cons_of_mem _ hl)
    obtain ⟨a, b⟩ := h l List.mem_cons_self
    have e : (l.map f).sum = l.length * w := by
      clear h a
      induction l with
      | nil => simp
      | cons t l ih2 =>
        rw [List.map_cons, List.sum_cons, ih2 fun t ht => b t (List.mem_cons_of_mem _ ht), b t List.mem_cons_self, List.length_cons, Nat.succ_mul, Nat.add_comm]
    rw [List.flatten_cons, List.map_append, List.sum_append, ih, e, a, List.length_cons, Nat.succ_mul, Nat.add_comm]
structure Dims (y : Yard) (d w k : Nat) : Prop where
  d1 : 1 ≤ d
  d5 : d ≤ 5
  w1 : 1 ≤ w
  w5 : w ≤ 5
  k1 : 1 ≤ k
  k2 : k ≤ 2
  wide : y.wide = w
  area : y.area = (d * w : Nat)
  len : y.sg.length = k * (d * w)
  fl : y.floors.length = k
theorem Yard.Ok.dims {y : Yard} (h : y.Ok) : ∃ d w k, Dims y d w k := by
  obtain ⟨d, w, a1, a2, a3, a4, hf⟩ := h.floor
  obtain ⟨t0, f0, fs, e⟩ := h.first
  have e0 := hf (t0 :: f0) (by rw [e]; simp)
  have er : y.row0 = t0 :: f0 := by unfold Yard.row0; rw [e]; rfl
  have ew : y.wide = w := by unfold Yard.wide; rw [er]; show ((t0.length : Nat) : Int) = w; rw [e0.w t0 (by simp)]
  refine ⟨d, w, y.floors.length, a1, a2, a3, a4, h.f1, h.f2, ew, ?_, ?_, rfl⟩
  · unfold Yard.area
    rw [ew, er, e0.d, Int.natCast_mul]
  · rw [y.cnt, flat_len (d := d) (w := w) (fun t => t.length) y.floors fun l hl => ⟨(hf l hl).d, (hf l hl).w⟩]
def rawB (y : Yard) (c : Int) : List Int :=
  (((((if decide (y.wide ≤ c % y.area) then [c - y.wide] else []) ++ (if decide (0 < c % y.wide) then [c - 1] else [])) ++ (if decide (c % y.wide < y.wide - 1) then [c + 1] else [])) ++ (if decide (c % y.area < y.area - y.wide) then [c + y.wide] else [])) ++
    (if (decide ((1 : Int) < y.floors.length) && (y.sgn c liftN && y.sgn ((c + y.area) % y.sg.length) liftN)) then [(c + y.area) % y.sg.length] else []))
def besideL (y : Yard) (c : Int) : List Int := srt ((rawB y c).filter fun x => !y.sgn x wallN)
theorem below {n m q c k : Int} (hm : 0 < m) (hn : n = q * m) (hc : c < n) (h : c % m + k < m) : c + k < n := by
  have e := Int.mul_ediv_add_emod c m
  have l : c / m < q := (Int.ediv_lt_iff_lt_mul hm).mpr (by rw [← hn]; exact hc)
  have h2 : m * (c / m + 1) ≤ m * q := Int.mul_le_mul_of_nonneg_left (by omega) (by omega)
  rw [Int.mul_add, Int.mul_one, Int.mul_comm m q] at h2
  omega
theorem mem_if {α : Type} {b : Bool} {x y : α} (h : x ∈ (if b then [y] else [])) : b = true ∧ x = y := by
  cases b
  · cases h
  · simpa using h
theorem raw_in {y : Yard} {c x : Int} (h : y.Ok) (c0 : 0 ≤ c) (c1 : c < y.sg.length) (hx : x ∈ rawB y c) : 0 ≤ x ∧ x < y.sg.length := by
  obtain ⟨d, w, k, q⟩ := h.dims
  have hd := q.d1; have hw := q.w1; have hk := q.k1
  have p1 : 1 ≤ d * w := Nat.mul_le_mul hd hw
  have hl : (y.sg.length : Int) = (k : Int) * y.area := by rw [q.len, q.area, Int.natCast_mul]
  have ha : 0 < y.area := by rw [q.area]; omega
  have hww : 0 < y.wide := by rw [q.wide]; omega
  have hl2 : (y.sg.length : Int) = ((k * d : Nat) : Int) * y.wide := by rw [q.len, q.wide, ← Int.natCast_mul, Nat.mul_assoc]
  have m1 := Int.emod_nonneg c (show y.area ≠ 0 by omega)
  have m2 := Int.emod_nonneg c (show y.wide ≠ 0 by omega)
  have e1 : c % y.area ≤ c := by
    have := Int.mul_ediv_add_emod c y.area
    have : 0 ≤ y.area * (c / y.area) := Int.mul_nonneg (by omega) (Int.ediv_nonneg c0 (by omega))
    omega
  have e2 : c % y.wide ≤ c := by
    have := Int.mul_ediv_add_emod c y.wide
    have : 0 ≤ y.wide * (c / y.wide) := Int.mul_nonneg (by omega) (Int.ediv_nonneg c0 (by omega))
    omega
  unfold rawB at hx
  simp only [List.mem_append] at hx
  rcases hx with (((hx | hx) | hx) | hx) | hx <;> obtain ⟨b, rfl⟩ := mem_if hx
  · have := of_decide_eq_true b; omega
  · have := of_decide_eq_true b; omega
  · have := of_decide_eq_true b
    exact ⟨by omega, below hww hl2 c1 (by omega)⟩
  · have := of_decide_eq_true b
    exact ⟨by omega, below ha hl c1 (by omega)⟩
  · have : 0 < (y.sg.length : Int) := by omega
    exact ⟨Int.emod_nonneg _ (by omega), Int.emod_lt_of_pos _ this⟩
theorem mem_beside {y : Yard} {c x : Int} (h : y.Ok) (hc : y.cell c) (hx : x ∈ besideL y c) : y.cell x := by
  unfold besideL at hx
  rw [mem_srt, List.mem_filter] at hx
  obtain ⟨a, b⟩ := raw_in h hc.1 hc.2.1 hx.1
  refine ⟨a, b, fun e => ?_⟩
  have := hx.2
  unfold Yard.sgn at this
  rw [e] at this
  simp at this
theorem go_apIf {K : PySem.W.Frag} {B : Hp} {bx : Option Addr} {ρ : Env} {β : Bx} {te : TE} {tt : TT} {fr c : Bool} {z : D} {zs : List D} {i : Nat} {N : Env → Bx → Prop} {R : Res → Bx → Prop} (e : ρ[i]? = some (some (.l zs))) (hl : zs.length < 100000) (h : EvT K B bx tt ρ β c β) (hz : c = true → EvR K B bx te ρ β fr (.d z) β)
    (hn : N (ρ.set i (some (.l (zs ++ (if c then [z] else []))))) β) : GoR K B bx (tIfS tt (tDrop (tBM K "list" rAppend (tVar i) (tCons te tNil))) tNext) ρ β N R := by
  refine go_if h (fun hc => ?_) (fun hc => ?_)
  · subst hc
    exact go_append e (hz rfl) hl hn
  · subst hc
    refine go_next ?_
    have e2 : ρ.set i (some (.l (zs ++ (if false = true then [z] else [])))) = ρ := by
      rw [if_neg Bool.false_ne_true, List.append_nil]
      apply List.ext_getElem?; intro j
      by_cases hj : i = j
      · subst hj
        rw [List.getElem?_set_self (List.getElem?_eq_some_iff.mp e).1, e]
      · rw [List.getElem?_set_ne hj]
    rw [e2] at hn
    exact hn
theorem ev_signAt {K : PySem.W.Frag} {B : Hp} {bx : Option Addr} {ρ : Env} {β : Bx} {ta tb tw : TE} {f1 f2 f3 : Bool} {y : Yard} {c : Int} {m : Nat} (h : y.Ok) (c0 : 0 ≤ c) (c1 : c < y.sg.length) (ha : EvR K B bx ta ρ β f1 (.d (.str y.sgS)) β) (hb : EvR K B bx tb ρ β f2 (.d (.int c)) β) (hw : EvR K B bx tw ρ β f3 (.d (.str ⟨#[m]⟩)) β) :
    EvR K B bx (tOp rEq (tOp rIxS ta tb) tw) ρ β true (.d (.bool (y.sgn c m))) β ∧ EvR K B bx (tOp rNe (tOp rIxS ta tb) tw) ρ β true (.d (.bool (!y.sgn c m))) β := by
  have sl := y.sgS_len
  have n12 := h.n
  have big := line5
  have hl : c.toNat < y.sg.length := by omega
  have at_ : L2.atI y.sgS.cps.toList c = some y.sg[c.toNat] := atN (n := c.toNat) (by omega) (by
    show (y.sg.toArray.toList)[c.toNat]? = _
    rw [List.toList_toArray, List.getElem?_eq_getElem hl])
  have e : decide ((⟨#[y.sg[c.toNat]]⟩ : Str) = ⟨#[m]⟩) = y.sgn c m := by
    unfold Yard.sgn
    rw [List.getElem?_eq_getElem hl]
    simp [one_sign]
  have ix := ev_ixS ha hb at_ (by omega)
  exact ⟨ev_cast (ev_eq ix hw) (by rw [e]), ev_cast (ev_ne ix hw) (by rw [e])⟩
inductive R_beside_by : List Res → Bx → Res → Bx → Prop
  | mk {y : Yard} {c : Int} {β : Bx} (h : y.Ok) (c0 : 0 ≤ c) (c1 : c < y.sg.length) : R_beside_by [.d (encYard y), .d (.int c)] β (.l ((besideL y c).map PyData.int)) β
theorem map_if {b : Bool} {x : Int} : (if b then [PyData.int x] else []) = (if b then [x] else []).map PyData.int := by cases b <;> rfl
theorem sc_beside_by : FnScope ["yard", "cell", "signs", "wide", "area", "found", "other", "one"] ["yard", "cell"] (defScope s_beside_by) := ⟨rfl, rfl, rfl, by decide +kernel, rfl, by decide +kernel, by decide +kernel⟩
theorem fn_beside_by {g : Gb} (T : Txt g) : FnX g "beside_by" ["yard", "cell"] 2 R_beside_by := by
  have nd := sc_beside_by.nd
  have c_signs_of := fn_signs_of T
  refine T.fnX 15 rfl sc_beside_by (fun _ _ _ _ _ _ us hl => match us, hl with | [_, _], _ => rfl) (by intro rs β r β' h; cases h <;> rfl) ⟨_, (pssc_cons (psc_asg (pec_tup (pac_cons (pec_fn c_signs_of (pac_cons (pec_ix (pec_var 0) pec_int) pac_nil)) (pac_cons (pec_len T.b_len (pec_ix (pec_ix (pec_ix (pec_var 0) pec_int) pec_int) pec_int)) pac_nil))) (pgc_tup (n := 2) (pgsc_cons (pgc_name 2 nd) (pgsc_cons (pgc_name 3 nd) pgsc_nil))))
    (pssc_cons (psc_asg (pec_mul (pec_len T.b_len (pec_ix (pec_ix (pec_var 0) pec_int) pec_int)) (pec_var 3)) (pgc_name 4 nd))
    (pssc_cons (psc_asg (pec_if (ptc_ge (pec_mod (pec_var 1) (pec_var 4)) (pec_var 3)) (pec_lst (pac_cons (pec_sub (pec_var 1) (pec_var 3)) pac_nil)) (pec_lst pac_nil)) (pgc_name 5 nd))
    (pssc_cons (psc_if (ptc_gt (pec_mod (pec_var 1) (pec_var 3)) pec_int) (pssc_one (psc_expr (pec_append (pec_var 5) (pec_sub (pec_var 1) pec_int)))) pssc_nil)
    (pssc_cons (psc_if (ptc_lt (pec_mod (pec_var 1) (pec_var 3)) (pec_sub (pec_var 3) pec_int)) (pssc_one (psc_expr (pec_append (pec_var 5) (pec_add (pec_var 1) pec_int)))) pssc_nil)
    (pssc_cons (psc_if (ptc_lt (pec_mod (pec_var 1) (pec_var 4)) (pec_sub (pec_var 4) (pec_var 3))) (pssc_one (psc_expr (pec_append (pec_var 5) (pec_add (pec_var 1) (pec_var 3))))) pssc_nil)
    (pssc_cons (psc_asg (pec_mod (pec_add (pec_var 1) (pec_var 4)) (pec_len T.b_len (pec_var 2))) (pgc_name 6 nd))
    (pssc_cons (psc_if (ptc_w (pwc_and (ptc_gt (pec_len T.b_len (pec_ix (pec_var 0) pec_int)) pec_int) (pwc_and (ptc_eq (pec_ixS (pec_var 2) (pec_var 1)) (pec_gstr T.LIFT)) (pwc_and1 (ptc_eq (pec_ixS (pec_var 2) (pec_var 6)) (pec_gstr T.LIFT)))))) (pssc_one (psc_expr (pec_append (pec_var 5) (pec_var 6)))) pssc_nil)
    (pssc_one (psc_ret (pec_sorted T.b_sorted (pec_lc [("one", 7)] nd (pic_list (pec_var 5)) (pgc_name 7 nd) (ptsc_one (ptc_ne (pec_ixS (pec_var 2) (pec_var 7)) (pec_gstr T.WALL))) (pec_var 7))))))))))))), ?_⟩
  intro rs β r β' h B bx
  clear c_signs_of
  rcases h with @⟨y, c, β, h, c0, c1⟩
  change GoR g.K B bx _ [some _, some _, none, none, none, none, none, none] _ _ _
  obtain ⟨d, w, k, q⟩ := h.dims
  have hd := q.d1; have hw := q.w1; have hk := q.k1; have hd5 := q.d5; have hw5 := q.w5; have hk2 := q.k2
  have sl := y.sgS_len
  have n12 := h.n
  have big := line5
  have p1 : 1 ≤ d * w := Nat.mul_le_mul hd hw
  have ha : 0 < y.area := by rw [q.area]; omega
  have hww : 0 < y.wide := by rw [q.wide]; omega
  have hw5' : y.wide ≤ 5 := by rw [q.wide]; omega
  obtain ⟨t0, f0, fs, e⟩ := h.first
  have er : y.row0 = t0 :: f0 := by unfold Yard.row0; rw [e]; rfl
  have ew : ((t0.length : Nat) : Int) = y.wide := by unfold Yard.wide; rw [er]; rfl
  have fl0 : L2.atI (y.floors.map encRows) 0 = some (encRows (t0 :: f0)) := by rw [e]; exact at0
  refine go_seq1 (go_asgT (ev_tup (ds := [.str y.sgS, .int y.wide]) (dv_cons (ev_callD (dv_cons (ev_ixT (evr_var rfl) (evr_c fun _ => .int _) rfl) dv_nil) (.mk h)) (dv_cons (ev_cast (ev_lenS (z := t0) (ev_ixT (ds := (t0 :: f0).map PyData.str) (ev_ixT (ds := y.floors.map encRows) (ev_ixT (evr_var rfl) (evr_c fun _ => .int _) rfl) (evr_c fun _ => .int _) fl0) (evr_c fun _ => .int _) at0) (by omega)) (by rw [ew])) dv_nil))) (tg_tup (tgs_cons (tg_name _) (tgs_cons (tg_name _) tgs_nil))) rfl ⟨rfl, rfl⟩) ?_
  refine go_seq1 (go_asg (ev_cast (z' := .int y.area) (ev_mul (ev_lenT (ds := (t0 :: f0).map PyData.str) (ev_ixT (ds := y.floors.map encRows) (ev_ixT (evr_var rfl) (evr_c fun _ => .int _) rfl) (evr_c fun _ => .int _) fl0)) (evr_var rfl) (.inr ⟨by omega, by omega⟩)) (by unfold Yard.area; rw [er, List.length_map])) ⟨rfl, rfl⟩) ?_
  refine go_seq1 (go_asg (r := .l (if decide (y.wide ≤ c % y.area) then [.int (c - y.wide)] else [])) (evr_if (evt_of (ev_ge (ev_mod (evr_var rfl) (evr_var rfl) ha) (evr_var rfl))) (fun hc => ev_castR (ev_lst (dv_cons (ev_sub (evr_var rfl) (evr_var rfl)) dv_nil)) (by rw [if_pos hc])) (fun hc => ev_castR (ev_lst dv_nil) (by rw [hc]; rfl))) ⟨rfl, rfl⟩) ?_
  refine go_seq1 (go_apIf rfl (by split <;> simp) (evt_of (ev_gt (ev_mod (evr_var rfl) (evr_var rfl) hww) (evr_c fun _ => .int _))) (fun _ => ev_sub (evr_var rfl) (evr_c fun _ => .int _)) ⟨rfl, rfl⟩) ?_
  refine go_seq1 (go_apIf rfl (by simp only [List.length_append]; repeat' split <;> simp) (evt_of (ev_lt (ev_mod (evr_var rfl) (evr_var rfl) hww) (ev_sub (evr_var rfl) (evr_c fun _ => .int _)))) (fun _ => ev_add (evr_var rfl) (evr_c fun _ => .int _)) ⟨rfl, rfl⟩) ?_
  refine go_seq1 (go_apIf rfl (by simp only [List.length_append]; repeat' split <;> simp) (evt_of (ev_lt (ev_mod (evr_var rfl) (evr_var rfl) ha) (ev_sub (evr_var rfl) (evr_var rfl)))) (fun _ => ev_add (evr_var rfl) (evr_var rfl)) ⟨rfl, rfl⟩) ?_
  have hn0 : 0 < (y.sg.length : Int) := by omega
  refine go_seq1 (go_asg (ev_cast (ev_mod (ev_add (evr_var rfl) (evr_var rfl)) (ev_lenS (evr_var rfl) (by omega)) (by rw [sl]; exact hn0)) (by rw [sl])) ⟨rfl, rfl⟩) ?_
  have o1 := Int.emod_nonneg (c + y.area) (show (y.sg.length : Int) ≠ 0 by omega)
  have o2 := Int.emod_lt_of_pos (c + y.area) hn0
  refine go_seq1 (go_apIf (c := decide ((1 : Int) < y.floors.length) && (y.sgn c liftN && y.sgn ((c + y.area) % y.sg.length) liftN)) rfl (by simp only [List.length_append]; repeat' split <;> simp) (ev_tcast (ev_tand (evt_of (ev_gt (ev_lenT (ds := y.floors.map encRows) (ev_ixT (evr_var rfl) (evr_c fun _ => .int _) rfl)) (evr_c fun _ => .int _))) fun _ => (ev_tand (evt_of (ev_signAt h c0 c1 (evr_var rfl) (evr_var rfl) (evr_c fun _ => .str _)).1) fun _ => (evt_of (ev_signAt h o1 o2 (evr_var rfl) (evr_var rfl) (evr_c fun _ => .str _)).1))) (by rw [List.length_map]; rfl)) (fun _ => evr_var rfl) ⟨rfl, rfl⟩) ?_
  have eraw : (((((if decide (y.wide ≤ c % y.area) then [PyData.int (c - y.wide)] else []) ++ (if decide (0 < c % y.wide) then [PyData.int (c - 1)] else [])) ++ (if decide (c % y.wide < y.wide - 1) then [PyData.int (c + 1)] else [])) ++ (if decide (c % y.area < y.area - y.wide) then [PyData.int (c + y.wide)] else [])) ++
    (if (decide ((1 : Int) < y.floors.length) && (y.sgn c liftN && y.sgn ((c + y.area) % y.sg.length) liftN)) then [PyData.int ((c + y.area) % y.sg.length)] else [])) = (rawB y c).map PyData.int := by
    unfold rawB
    simp only [List.map_append, map_if]
  have lraw : (rawB y c).length ≤ 5 := by
    unfold rawB
    simp only [List.length_append]
    repeat' split
    all_goals simp
  refine go_ret (ev_sorted (ns := (rawB y c).filter fun x => !y.sgn x wallN) (ev_lcIf (xs := rawB y c) (enc := PyData.int) (f := PyData.int) (fun x => !y.sgn x wallN) (wkr_cast (wk_list (evr_var rfl)) eraw) (tg_name _) (by decide) (by omega) fun x hx => ⟨_, rfl, (evt_of (ev_signAt h (raw_in h c0 c1 hx).1 (raw_in h c0 c1 hx).2 (evr_var rfl) (evr_var rfl) (evr_c fun _ => .str _)).2), fun hp => (evr_var rfl)⟩) rfl) ⟨rfl, rfl⟩
inductive R_beside : List Res → Bx → Res → Bx → Prop
  | mk {y : Yard} {c : Int} {β : Bx} (h : y.Ok) (hc : y.cell c) : R_beside [.d (encYard y), .d (.int c)] β (.d (encInts (besideL y c))) β
theorem sc_beside : FnScope ["yard", "cell"] ["yard", "cell"] (defScope s_beside) := ⟨rfl, rfl, rfl, by decide +kernel, rfl, by decide +kernel, by decide +kernel⟩
theorem fn_beside {g : Gb} (T : Txt g) : FnX g "beside" ["yard", "cell"] 6 R_beside := by
  have nd := sc_beside.nd
  have c_need_yard := fn_need_yard T
  have c_need_cell := fn_need_cell T
  have c_beside_by := fn_beside_by T
  refine T.fnX 16 rfl sc_beside (fun _ _ _ _ _ _ us hl => match us, hl with | [_, _], _ => rfl) (by intro rs β r β' h; cases h <;> rfl) ⟨_, (pssc_cons (psc_expr (pec_fn c_need_yard (pac_cons (pec_var 0) pac_nil)))
    (pssc_cons (psc_expr (pec_fn c_need_cell (pac_cons (pec_var 0) (pac_cons (pec_var 1) pac_nil))))
    (pssc_one (psc_ret (pec_tuple T.b_tuple (pec_fn c_beside_by (pac_cons (pec_var 0) (pac_cons (pec_var 1) pac_nil)))))))), ?_⟩
  intro rs β r β' h B bx
  clear c_need_yard
  clear c_need_cell
  clear c_beside_by
  rcases h with @⟨y, c, β, h, hc⟩
  change GoR g.K B bx _ [some _, some _] _ _ _
  refine go_seq1 (go_drop (ev_callD (dv_cons (evr_var rfl) dv_nil) (.mk h)) ⟨rfl, rfl⟩) ?_
  refine go_seq1 (go_drop (ev_callD (dv_cons (evr_var rfl) (dv_cons (evr_var rfl) dv_nil)) (.mk h hc)) ⟨rfl, rfl⟩) ?_
  exact go_ret (ev_tupleL (ev_callD (dv_cons (evr_var rfl) (dv_cons (evr_var rfl) dv_nil)) (.mk h hc.1 hc.2.1))) ⟨rfl, rfl⟩
end K20
set_option maxHeartbeats 4000000
namespace K20
open PySem PySem.Spec PyProof.Rows L2
def Deed.num : Deed → Prop
  | .go n => 0 ≤ n ∧ n ≤ 99
  | .hand n => 0 ≤ n ∧ n ≤ 99
  | _ => True
inductive R_is_deed : List Res → Bx → Res → Bx → Prop
  | mk {d : Deed} {β : Bx} (h : d.num) : R_is_deed [.d (encDeed d)] β (.d (.bool true)) β
theorem sh_nil {n : Nat} : Sh (n + 1) (.tuple []) := Sh.tup fun _ h => by cases h
theorem sc_is_deed : FnScope ["thing"] ["thing"] (defScope s_is_deed) := ⟨rfl, rfl, rfl, by decide +kernel, rfl, by decide +kernel, by decide +kernel⟩
theorem fn_is_deed {g : Gb} (T : Txt g) : FnX g "is_deed" ["thing"] 3 R_is_deed := by
  have nd := sc_is_deed.nd
  have c_is_among := fn_is_among T
  refine T.fnX 35 rfl sc_is_deed (fun _ _ _ _ _ _ us hl => match us, hl with | [_], _ => rfl) (by intro rs β r β' h; cases h <;> rfl) ⟨_, (pssc_cons (psc_if (ptc_w (pwc_or (ptc_not (ptc_of (pec_isi (n := "tuple") T.b_isinstance T.b_tuple (by decide +kernel) (pec_var 0)))) (pwc_or (ptc_eqD (pec_var 0) (pec_tup pac_nil)) (pwc_or1 (ptc_not (ptc_of (pec_isi (n := "str") T.b_isinstance T.b_str (by decide +kernel) (pec_ix (pec_var 0) pec_int)))))))) (pssc_one (psc_ret pec_bl)) pssc_nil)
    (pssc_cons (psc_if (ptc_in (pec_ix (pec_var 0) pec_int) (pec_gref T.ALONE)) (pssc_one (psc_ret (pec_eq (pec_len T.b_len (pec_var 0)) pec_int))) pssc_nil)
    (pssc_one (psc_ret (pec_and (pec_in (pec_ix (pec_var 0) pec_int) (pec_gref T.NUMBERED)) (pec_and (pec_eq (pec_len T.b_len (pec_var 0)) pec_int) (pec_one (pec_fn c_is_among (pac_cons (pec_ix (pec_var 0) pec_int) (pac_cons pec_int (pac_cons (pec_gint T.MOST_NUMBER) pac_nil))))))))))), ?_⟩
  intro rs β r β' h B bx
  clear c_is_among
  rcases h with @⟨d, β, h⟩
  change GoR g.K B bx _ [some _] _ _ _
  have num : ∀ n : Int, 0 ≤ n ∧ n ≤ 99 → (decide ((0 : Int) ≤ n) && decide (n ≤ 99)) = true := fun n h => by simp; omega
  refine go_ifr (ev_tcast (c := false) (ev_tor (evt_not (evt_of (ev_isi (k := true) (evr_var rfl) (by cases d <;> rfl)))) fun _ => (ev_tor (evt_of (ev_eqD (evr_var rfl) (ev_tup dv_nil) (sh_deed d).ok (sh_nil (n := 0)).ok)) fun _ => (evt_not (evt_of (ev_isi (k := true) (d := .str (match d with | .bide => "bide" | .fill => "fill" | .lift => "lift" | .set => "set" | .go _ => "go" | .hand _ => "hand")) (ev_ix (ds := match encDeed d with | .tuple ds => ds | _ => []) (evr_var rfl) (evr_c fun _ => .int _) (by cases d <;> rfl) (by cases d <;> rfl))))))) (by cases d <;> rfl)) (fun h => by cases h) (fun _ => ?_)
  cases d with
  | bide | fill | lift | set =>
    refine go_ifr (c := true) (ev_tcast (evt_of (ev_in (ev_ixT (evr_var rfl) (evr_c fun _ => .int _) rfl) (evr_c fun _ => .tup (.inr T.ALONEt) (.cons (.str _) (.cons (.str _) (.cons (.str _) (.cons (.str _) .nil))))) rfl rfl)) (by decide +kernel)) (fun _ => ?_) (fun h => by cases h)
    exact go_ret (ev_eq (ev_lenT (evr_var rfl)) (evr_c fun _ => .int _)) ⟨rfl, rfl⟩
  | go n | hand n =>
    refine go_ifr (c := false) (ev_tcast (evt_of (ev_in (ev_ixT (evr_var rfl) (evr_c fun _ => .int _) rfl) (evr_c fun _ => .tup (.inr T.ALONEt) (.cons (.str _) (.cons (.str _) (.cons (.str _) (.cons (.str _) .nil))))) rfl rfl)) (by decide +kernel)) (fun h => by cases h) (fun _ => ?_)
    refine go_ret (ev_cast (ev_vand (ev_cast (z' := .bool true) (ev_in (ev_ixT (evr_var rfl) (evr_c fun _ => .int _) rfl) (evr_c fun _ => .tup (.inr T.NUMBEREDt) (.cons (.str _) (.cons (.str _) .nil))) rfl rfl) (congrArg PyData.bool (by decide +kernel))) fun _ => (ev_vand (ev_eq (ev_lenT (evr_var rfl)) (evr_c fun _ => .int _)) fun _ => (ev_callD (dv_cons (ev_ixT (evr_var rfl) (evr_c fun _ => .int _) rfl) (dv_cons (evr_c fun _ => .int _) (dv_cons (evr_c fun _ => .int _) dv_nil))) .mk))) ?_) ⟨rfl, rfl⟩
    rw [num n h]; rfl
inductive R_are_deeds : List Res → Bx → Res → Bx → Prop
  | mk {n : Nat} {ds : List Deed} {β : Bx} (h : ds.length = n) (h2 : ∀ d ∈ ds, d.num) (h3 : n ≤ 100) : R_are_deeds [.d (.int n), .d (encDeeds ds)] β (.d (.bool true)) β
theorem sc_are_deeds : FnScope ["many", "thing", "one"] ["many", "thing"] (defScope s_are_deeds) := ⟨rfl, rfl, rfl, by decide +kernel, rfl, by decide +kernel, by decide +kernel⟩
theorem fn_are_deeds {g : Gb} (T : Txt g) : FnX g "are_deeds" ["many", "thing"] 4 R_are_deeds := by
  have nd := sc_are_deeds.nd
  have c_is_deed := fn_is_deed T
  refine T.fnX 36 rfl sc_are_deeds (fun _ _ _ _ _ _ us hl => match us, hl with | [_, _], _ => rfl) (by intro rs β r β' h; cases h <;> rfl) ⟨_, (pssc_one (psc_ret (pec_and (pec_isi (n := "tuple") T.b_isinstance T.b_tuple (by decide +kernel) (pec_var 1)) (pec_and (pec_eq (pec_len T.b_len (pec_var 1)) (pec_var 0)) (pec_one (pec_all T.b_all (pec_lc [("one", 2)] nd (pic_tup (pec_var 1)) (pgc_name 2 nd) ptsc_nil (pec_fn c_is_deed (pac_cons (pec_var 2) pac_nil))))))))), ?_⟩
  intro rs β r β' h B bx
  clear c_is_deed
  rcases h with @⟨n, ds, β, h, h2, h3⟩
  change GoR g.K B bx _ [some _, some _, none] _ _ _
  refine go_ret (ev_cast (ev_vand (ev_isi (evr_var rfl)) fun _ => (ev_vand (ev_eq (ev_lenT (ds := ds.map encDeed) (evr_var rfl)) (evr_var rfl)) fun _ => (ev_allM (q := fun _ => true) (ev_lc (xs := ds) (enc := encDeed) (wk_tup (evr_var rfl)) (tg_name _) (by decide) (by omega) fun d hd => ⟨_, rfl, (ev_callD (dv_cons (evr_var rfl) dv_nil) (.mk (h2 d hd)))⟩)))) ?_) ⟨rfl, rfl⟩
  rw [all_true, List.length_map, h]; simp
def homeAt (sh : List Shelf) (n : Nat) : Int := match sh[n]? with
  | some b => b.home
  | none => 0
def homesKV (s : State) : List (Int × Int) := s.stand.map fun n => (homeAt s.shelves n, (n : Int))
theorem mem_stand {s : State} {n : Nat} : n ∈ s.stand ↔ n < s.shelves.length ∧ (n : Int) ∉ loadsL s.cars := by
  unfold State.stand standL
  rw [List.mem_filter, List.mem_range]
  simp
theorem homeAt_get {sh : List Shelf} {n : Nat} (h : n < sh.length) : homeAt sh n = sh[n].home := by
  unfold homeAt
  rw [List.getElem?_eq_getElem h]
theorem homes_nd {s : State} (hn : (s.shelves.map (·.home)).Nodup) : (s.stand.map (homeAt s.shelves)).Nodup := by
  have nd : s.stand.Nodup := List.Nodup.sublist List.filter_sublist List.nodup_range
  refine List.pairwise_map.mpr (nd.imp_of_mem fun {a b} ha hb hne he => ?_)
  have la := (mem_stand.mp ha).1
  have lb := (mem_stand.mp hb).1
  rw [homeAt_get la, homeAt_get lb] at he
  have : (s.shelves.map (·.home))[a]'(by rw [List.length_map]; exact la) = (s.shelves.map (·.home))[b]'(by rw [List.length_map]; exact lb) := by
    rw [List.getElem_map, List.getElem_map]; exact he
  exact hne ((List.getElem_inj hn).mp this)
inductive R_homes_by : List Res → Bx → Res → Bx → Prop
  | mk {s : State} {β : Bx} (h : s.cars.length ≤ 100) (h2 : s.shelves.length ≤ 100) (hn : (s.shelves.map (·.home)).Nodup) : R_homes_by [.d (encState s)] β (.m (homesKV s)) β
theorem stand_len (s : State) : s.stand.length ≤ s.shelves.length := by
  have := List.length_filter_le (fun i : Nat => !decide ((i : Int) ∈ loadsL s.cars)) (List.range s.shelves.length)
  rw [List.length_range] at this
  exact this
theorem sc_homes_by : FnScope ["state", "shelf"] ["state"] (defScope s_homes_by) := ⟨rfl, rfl, rfl, by decide +kernel, rfl, by decide +kernel, by decide +kernel⟩
theorem fn_homes_by {g : Gb} (T : Txt g) : FnX g "homes_by" ["state"] 3 R_homes_by := by
  have nd := sc_homes_by.nd
  have c_standing_by := fn_standing_by T
  refine T.fnX 37 rfl sc_homes_by (fun _ _ _ _ _ _ us hl => match us, hl with | [_], _ => rfl) (by intro rs β r β' h; cases h <;> rfl) ⟨_, (pssc_one (psc_ret (pec_dc [("shelf", 1)] nd (pic_list (pec_fn c_standing_by (pac_cons (pec_var 0) pac_nil))) (pgc_name 1 nd) ptsc_nil (pec_ix (pec_ix (pec_ix (pec_var 0) pec_int) (pec_var 1)) pec_int) (pec_var 1)))), ?_⟩
  intro rs β r β' h B bx
  clear c_standing_by
  rcases h with @⟨s, β, h, h2, hn⟩
  change GoR g.K B bx _ [some _, none] _ _ _
  have sl := stand_len s
  refine go_ret (ev_dc (xs := s.stand) (enc := fun n => .int (n : Nat)) (fk := homeAt s.shelves) (fv := fun n => (n : Int)) (wk_list (ev_callD (dv_cons (evr_var rfl) dv_nil) (.mk h h2))) (tg_name _) (homes_nd hn) (by decide) (by omega) fun n hm => ⟨_, rfl, ?_, (evr_var rfl)⟩) ⟨rfl, rfl⟩
  have hl := (mem_stand.mp hm).1
  refine ev_ixT (ds := [.int (homeAt s.shelves n), encInts s.shelves[n].stock]) (ev_ixT (ds := s.shelves.map encShelf) (ev_ixT (evr_var rfl) (evr_c fun _ => .int _) rfl) (evr_var rfl) (atN (n := n) rfl ?_)) (evr_c fun _ => .int _) rfl
  rw [List.getElem?_map, List.getElem?_eq_getElem hl, homeAt_get hl]; rfl
theorem mem_openH {sh : List Shelf} {ls : List Int} {c : Int} : c ∈ openH sh ls ↔ ∃ n : Nat, ∃ b, sh[n]? = some b ∧ (n : Int) ∉ ls ∧ b.home = c := by
  unfold openH
  rw [List.mem_map]
  constructor
  · rintro ⟨p, hp, e⟩
    rw [List.mem_filter] at hp
    exact ⟨p.1, p.2, zipN_get hp.1, by simpa using hp.2, e⟩
  · rintro ⟨n, b, h1, h2, h3⟩
    exact ⟨(n, b), List.mem_filter.mpr ⟨zipN_mem h1, by simpa using h2⟩, h3⟩
theorem lk_some {s : State} {c m : Int} (h : lkM (homesKV s) c = some m) : ∃ (n : Nat) (b : Shelf), m = n ∧ s.shelves[n]? = some b ∧ (n : Int) ∉ loadsL s.cars ∧ b.home = c := by
  unfold lkM homesKV at h
  cases hf : (s.stand.map fun n => (homeAt s.shelves n, (n : Int))).find? (fun p => decide (p.1 = c)) with
  | none => rw [hf] at h; exact nomatch h
  | some p =>
    rw [hf] at h
    cases h
    have hm : _ ∈ _ := List.mem_of_find?_eq_some hf
    have hc := List.find?_some hf
    obtain ⟨n, hn, rfl⟩ := List.mem_map.mp hm
    obtain ⟨l1, l2⟩ := mem_stand.mp hn
    refine ⟨n, s.shelves[n], rfl, List.getElem?_eq_getElem l1, l2, ?_⟩
    have := of_decide_eq_true hc
    rw [homeAt_get l1] at this
    exact this
theorem lk_open {s : State} {c : Int} : (lkM (homesKV s) c).isSome = true ↔ c ∈ openH s.shelves (loadsL s.cars) := by
  constructor
  · intro h
    obtain ⟨m, hm⟩ := Option.isSome_iff_exists.mp h
    obtain ⟨n, b, _, h1, h2, h3⟩ := lk_some hm
    exact mem_openH.mpr ⟨n, b, h1, h2, h3⟩
  · intro h
    obtain ⟨n, b, h1, h2, h3⟩ := mem_openH.mp h
    have hl := (List.getElem?_eq_some_iff.mp h1).1
    unfold lkM homesKV
    rw [Option.isSome_map, List.find?_isSome]
    refine ⟨(homeAt s.shelves n, (n : Int)), List.mem_map.mpr ⟨n, mem_stand.mpr ⟨hl, h2⟩, rfl⟩, ?_⟩
    have := (List.getElem?_eq_some_iff.mp h1).2
    simp [homeAt_get hl, this, h3]
def price (y : Yard) (l : Option Int) : Int := match l with
  | none => y.bare
  | some _ => y.laden
inductive R_price_of : List Res → Bx → Res → Bx → Prop
  | mk {y : Yard} {l : Option Int} {β : Bx} : R_price_of [.d (encYard y), .d (encO l)] β (.d (.int (price y l))) β
theorem sc_price_of : FnScope ["yard", "load"] ["yard", "load"] (defScope s_price_of) := ⟨rfl, rfl, rfl, by decide +kernel, rfl, by decide +kernel, by decide +kernel⟩
theorem fn_price_of {g : Gb} (T : Txt g) : FnX g "price_of" ["yard", "load"] 1 R_price_of := by
  have nd := sc_price_of.nd
  refine T.fnX 38 rfl sc_price_of (fun _ _ _ _ _ _ us hl => match us, hl with | [_, _], _ => rfl) (by intro rs β r β' h; cases h <;> rfl) ⟨_, (pssc_one (psc_ret (pec_if (ptc_isN (pec_var 1)) (pec_ix (pec_ix (pec_var 0) pec_int) pec_int) (pec_ix (pec_ix (pec_var 0) pec_int) pec_int)))), ?_⟩
  intro rs β r β' h B bx
  rcases h with @⟨y, l, β⟩
  change GoR g.K B bx _ [some _, some _] _ _ _
  cases l with
  | none => exact go_ret (evr_if (c := true) (evt_of (ev_isN (d := .none) (evr_var rfl))) (fun _ => (ev_ixT (ds := [.int y.bare, .int y.laden, .int y.gain, .int y.top]) (ev_ixT (evr_var rfl) (evr_c fun _ => .int _) rfl) (evr_c fun _ => .int _) rfl)) (fun h => by cases h)) ⟨rfl, rfl⟩
  | some l => exact go_ret (evr_if (c := false) (evt_of (ev_isN (d := .int l) (evr_var rfl))) (fun h => by cases h) (fun _ => (ev_ixT (ds := [.int y.bare, .int y.laden, .int y.gain, .int y.top]) (ev_ixT (evr_var rfl) (evr_c fun _ => .int _) rfl) (evr_c fun _ => .int _) rfl))) ⟨rfl, rfl⟩
/-- nothing hinders this carrier's deed -/
def OwnOk (y : Yard) (s : State) (c : Car) : Deed → Prop
  | .bide => True
  | .fill => y.sgn c.cell postN = true
  | .go n => n ∈ besideL y c.cell ∧ (c.load = none ∨ n ∉ openH s.shelves (loadsL s.cars)) ∧ price y c.load ≤ c.charge
  | .lift => c.load = none ∧ c.cell ∈ openH s.shelves (loadsL s.cars) ∧ y.laden ≤ c.charge
  | .set => ∃ (l : Nat) (b : Shelf), c.load = some (l : Int) ∧ s.shelves[l]? = some b ∧ b.home = c.cell
  | .hand n => (∃ l, c.load = some l) ∧ y.sgn c.cell deskN = true ∧ n.toNat < s.orders.length
def faultName : Deed → Str
  | .bide => "bide_fault"
  | .fill => "fill_fault"
  | .lift => "lift_fault"
  | .set => "set_fault"
  | .go _ => "go_fault"
  | .hand _ => "hand_fault"
inductive T_fault (f : Str) : List Res → Bx → Post → Prop
  | mk {y : Yard} {s : State} {c : Car} {d : Deed} {β : Bx} (hf : faultName d = f) (hy : y.Ok) (h : s.Ok y) (hc : c ∈ s.cars) (hd : d.num) :
    T_fault f [.d (encYard y), .d (encState s), .d (encCar c), .d (encDeed d)] β fun r β' => ((r = .d .none ∧ OwnOk y s c d) ∨ ∃ w, r = .d (.str w)) ∧ β' = β
abbrev T_go_fault := T_fault "go_fault"
abbrev T_lift_fault := T_fault "lift_fault"
abbrev T_set_fault := T_fault "set_fault"
abbrev T_hand_fault := T_fault "hand_fault"
abbrev T_fill_fault := T_fault "fill_fault"
abbrev T_bide_fault := T_fault "bide_fault"
theorem sc_bide_fault : FnScope ["yard", "state", "carrier", "deed"] ["yard", "state", "carrier", "deed"] (defScope s_bide_fault) := ⟨rfl, rfl, rfl, by decide +kernel, rfl, by decide +kernel, by decide +kernel⟩
theorem fn_bide_fault {g : Gb} (T : Txt g) : FnP g "bide_fault" ["yard", "state", "carrier", "deed"] 1 T_bide_fault := by
  have nd := sc_bide_fault.nd
  refine T.fnP 44 rfl sc_bide_fault (fun _ _ _ _ _ _ us hl => match us, hl with | [_, _, _, _], _ => rfl) (by intro rs β P h; cases h <;> rfl) ⟨_, (pssc_one (psc_ret pec_non)), ?_⟩
  intro rs β P h B bx
  rcases h with @⟨y, s, c, d, β, hf, hy, h, hc, hd⟩
  change GoR g.K B bx _ [some _, some _, some _, some _] _ _ _
  cases d <;> first | exact absurd hf (by decide +kernel) | exact absurd (show ("go_fault" : Str) = _ from hf) (by decide +kernel) | exact absurd (show ("hand_fault" : Str) = _ from hf) (by decide +kernel) | skip
  exact go_ret (evr_c fun _ => .non) ⟨.inl ⟨rfl, trivial⟩, rfl⟩
theorem sc_fill_fault : FnScope ["yard", "state", "carrier", "deed"] ["yard", "state", "carrier", "deed"] (defScope s_fill_fault) := ⟨rfl, rfl, rfl, by decide +kernel, rfl, by decide +kernel, by decide +kernel⟩
theorem fn_fill_fault {g : Gb} (T : Txt g) : FnP g "fill_fault" ["yard", "state", "carrier", "deed"] 3 T_fill_fault := by
  have nd := sc_fill_fault.nd
  have c_sign_at := fn_sign_at T
  refine T.fnP 43 rfl sc_fill_fault (fun _ _ _ _ _ _ us hl => match us, hl with | [_, _, _, _], _ => rfl) (by intro rs β P h; cases h <;> rfl) ⟨_, (pssc_one (psc_ret (pec_if (ptc_eq (pec_fn c_sign_at (pac_cons (pec_var 0) (pac_cons (pec_ix (pec_var 2) pec_int) pac_nil))) (pec_gstr T.POST)) pec_non pec_str))), ?_⟩
  intro rs β P h B bx
  clear c_sign_at
  rcases h with @⟨y, s, c, d, β, hf, hy, h, hc, hd⟩
  change GoR g.K B bx _ [some _, some _, some _, some _] _ _ _
  cases d <;> first | exact absurd hf (by decide +kernel) | exact absurd (show ("go_fault" : Str) = _ from hf) (by decide +kernel) | exact absurd (show ("hand_fault" : Str) = _ from hf) (by decide +kernel) | skip
  have hcell := (h.cars c hc).cell
  obtain ⟨n, e1, e2, e3⟩ := y.cell_at hcell
  refine go_retP (evp_if (etp_t (evt_of (ev_eq (ev_callD (dv_cons (evr_var rfl) (dv_cons (ev_ixT (evr_var rfl) (evr_c fun _ => .int _) rfl) dv_nil)) (.mk hy hcell.1 e1)) (evr_c fun _ => .str _))) ⟨fun hk => evp_of (evr_c fun _ => .non) ⟨.inl ⟨rfl, ?_⟩, rfl⟩, fun _ => evp_of (evr_c fun _ => .str _) ⟨.inr ⟨_, rfl⟩, rfl⟩⟩))
  have : n = postN := one_sign.mp (of_decide_eq_true hk)
  show decide (y.sg[c.cell.toNat]? = some postN) = true
  rw [e1, this]; simp
theorem sc_go_fault : FnScope ["yard", "state", "carrier", "deed", "cell", "charge", "load", "broken"] ["yard", "state", "carrier", "deed"] (defScope s_go_fault) := ⟨rfl, rfl, rfl, by decide +kernel, rfl, by decide +kernel, by decide +kernel⟩
theorem fn_go_fault {g : Gb} (T : Txt g) : FnP g "go_fault" ["yard", "state", "carrier", "deed"] 4 T_go_fault := by
  have nd := sc_go_fault.nd
  have c_beside_by := fn_beside_by T
  have c_homes_by := fn_homes_by T
  have c_price_of := fn_price_of T
  refine T.fnP 39 rfl sc_go_fault (fun _ _ _ _ _ _ us hl => match us, hl with | [_, _, _, _], _ => rfl) (by intro rs β P h; cases h <;> rfl) ⟨_, (pssc_cons (psc_asg (pec_var 2) (pgc_tup (n := 4) (pgsc_cons (pgc_name 4 nd) (pgsc_cons (pgc_name 5 nd) (pgsc_cons (pgc_name 6 nd) (pgsc_cons (pgc_name 7 nd) pgsc_nil))))))
    (pssc_cons (psc_if (ptc_nin (pec_ix (pec_var 3) pec_int) (pec_fn c_beside_by (pac_cons (pec_var 0) (pac_cons (pec_var 4) pac_nil)))) (pssc_one (psc_ret pec_str)) pssc_nil)
    (pssc_cons (psc_if (ptc_w (pwc_and (ptc_notN (pec_var 6)) (pwc_and1 (ptc_inM (pec_ix (pec_var 3) pec_int) (pec_fn c_homes_by (pac_cons (pec_var 1) pac_nil)))))) (pssc_one (psc_ret pec_str)) pssc_nil)
    (pssc_one (psc_ret (pec_if (ptc_lt (pec_var 5) (pec_fn c_price_of (pac_cons (pec_var 0) (pac_cons (pec_var 6) pac_nil)))) pec_str pec_non)))))), ?_⟩
  intro rs β P h B bx
  clear c_beside_by
  clear c_homes_by
  clear c_price_of
  rcases h with @⟨y, s, c, d, β, hf, hy, h, hc, hd⟩
  change GoR g.K B bx _ [some _, some _, some _, some _, none, none, none, none] _ _ _
  cases d <;> first | exact absurd hf (by decide +kernel) | exact absurd (show ("go_fault" : Str) = _ from hf) (by decide +kernel) | exact absurd (show ("hand_fault" : Str) = _ from hf) (by decide +kernel) | skip
  rename_i n
  have ck := h.cars c hc
  have h3 := h.c3; have h4 := h.sn
  refine go_seq1 (go_asgT (evr_var rfl) (tg_tup (tgs_cons (tg_name _) (tgs_cons (tg_name _) (tgs_cons (tg_name _) (tgs_cons (tg_name _) tgs_nil))))) rfl ⟨rfl, rfl⟩) ?_
  refine go_ifr (evt_of (ev_nin (ev_ixT (evr_var rfl) (evr_c fun _ => .int _) rfl) (ev_callD (dv_cons (evr_var rfl) (dv_cons (evr_var rfl) dv_nil)) (.mk hy ck.cell.1 ck.cell.2.1)) rfl (fl_ints _))) (fun h1 => ?_) (fun h1 => ?_)
  · exact go_ret (evr_c fun _ => .str _) ⟨.inr ⟨_, rfl⟩, rfl⟩
  · rw [inD_ints] at h1
    refine go_ifr (ev_tand (evt_of (ev_notN (evr_var rfl))) fun _ => (evt_of (ev_inM (ev_ixT (evr_var rfl) (evr_c fun _ => .int _) rfl) (ev_callD (dv_cons (evr_var rfl) dv_nil) (.mk (by omega) (by omega) h.hn))))) (fun h2 => ?_) (fun h2 => ?_)
    · exact go_ret (evr_c fun _ => .str _) ⟨.inr ⟨_, rfl⟩, rfl⟩
    · refine go_retP (evp_if (etp_t (evt_of (ev_lt (evr_var rfl) (ev_callD (dv_cons (evr_var rfl) (dv_cons (evr_var rfl) dv_nil)) .mk))) ⟨fun _ => evp_of (evr_c fun _ => .str _) ⟨.inr ⟨_, rfl⟩, rfl⟩, fun hk => evp_of (evr_c fun _ => .non) ⟨.inl ⟨rfl, ?_, ?_, ?_⟩, rfl⟩⟩))
      · simpa using h1
      · rw [isNo_encO] at h2
        cases hl : c.load with
        | none => exact .inl rfl
        | some l =>
          refine .inr fun ho => ?_
          rw [hl, lk_open.mpr ho] at h2
          cases h2
      · have := of_decide_eq_false hk; omega
theorem sc_lift_fault : FnScope ["yard", "state", "carrier", "deed", "cell", "charge", "load", "broken"] ["yard", "state", "carrier", "deed"] (defScope s_lift_fault) := ⟨rfl, rfl, rfl, by decide +kernel, rfl, by decide +kernel, by decide +kernel⟩
theorem fn_lift_fault {g : Gb} (T : Txt g) : FnP g "lift_fault" ["yard", "state", "carrier", "deed"] 4 T_lift_fault := by
  have nd := sc_lift_fault.nd
  have c_homes_by := fn_homes_by T
  refine T.fnP 40 rfl sc_lift_fault (fun _ _ _ _ _ _ us hl => match us, hl with | [_, _, _, _], _ => rfl) (by intro rs β P h; cases h <;> rfl) ⟨_, (pssc_cons (psc_asg (pec_var 2) (pgc_tup (n := 4) (pgsc_cons (pgc_name 4 nd) (pgsc_cons (pgc_name 5 nd) (pgsc_cons (pgc_name 6 nd) (pgsc_cons (pgc_name 7 nd) pgsc_nil))))))
    (pssc_cons (psc_if (ptc_notN (pec_var 6)) (pssc_one (psc_ret pec_str)) pssc_nil)
    (pssc_cons (psc_if (ptc_ninM (pec_var 4) (pec_fn c_homes_by (pac_cons (pec_var 1) pac_nil))) (pssc_one (psc_ret pec_str)) pssc_nil)
    (pssc_one (psc_ret (pec_if (ptc_lt (pec_var 5) (pec_ix (pec_ix (pec_var 0) pec_int) pec_int)) pec_str pec_non)))))), ?_⟩
  intro rs β P h B bx
  clear c_homes_by
  rcases h with @⟨y, s, c, d, β, hf, hy, h, hc, hd⟩
  change GoR g.K B bx _ [some _, some _, some _, some _, none, none, none, none] _ _ _
  cases d <;> first | exact absurd hf (by decide +kernel) | exact absurd (show ("go_fault" : Str) = _ from hf) (by decide +kernel) | exact absurd (show ("hand_fault" : Str) = _ from hf) (by decide +kernel) | skip
  have h3 := h.c3; have h4 := h.sn
  refine go_seq1 (go_asgT (evr_var rfl) (tg_tup (tgs_cons (tg_name _) (tgs_cons (tg_name _) (tgs_cons (tg_name _) (tgs_cons (tg_name _) tgs_nil))))) rfl ⟨rfl, rfl⟩) ?_
  refine go_ifr (evt_of (ev_notN (evr_var rfl))) (fun h1 => ?_) (fun h1 => ?_)
  · exact go_ret (evr_c fun _ => .str _) ⟨.inr ⟨_, rfl⟩, rfl⟩
  · refine go_ifr (evt_of (ev_ninM (evr_var rfl) (ev_callD (dv_cons (evr_var rfl) dv_nil) (.mk (by omega) (by omega) h.hn)))) (fun h2 => ?_) (fun h2 => ?_)
    · exact go_ret (evr_c fun _ => .str _) ⟨.inr ⟨_, rfl⟩, rfl⟩
    · refine go_retP (evp_if (etp_t (evt_of (ev_lt (evr_var rfl) (ev_ixT (ds := [.int y.bare, .int y.laden, .int y.gain, .int y.top]) (ev_ixT (evr_var rfl) (evr_c fun _ => .int _) rfl) (evr_c fun _ => .int _) rfl))) ⟨fun _ => evp_of (evr_c fun _ => .str _) ⟨.inr ⟨_, rfl⟩, rfl⟩, fun hk => evp_of (evr_c fun _ => .non) ⟨.inl ⟨rfl, ?_, ?_, ?_⟩, rfl⟩⟩))
      · rw [isNo_encO] at h1
        simpa using h1
      · rw [Bool.not_eq_false'] at h2
        exact lk_open.mp h2
      · have := of_decide_eq_false hk; omega
theorem sc_set_fault : FnScope ["yard", "state", "carrier", "deed", "cell", "charge", "load", "broken"] ["yard", "state", "carrier", "deed"] (defScope s_set_fault) := ⟨rfl, rfl, rfl, by decide +kernel, rfl, by decide +kernel, by decide +kernel⟩
theorem fn_set_fault {g : Gb} (T : Txt g) : FnP g "set_fault" ["yard", "state", "carrier", "deed"] 1 T_set_fault := by
  have nd := sc_set_fault.nd
  refine T.fnP 41 rfl sc_set_fault (fun _ _ _ _ _ _ us hl => match us, hl with | [_, _, _, _], _ => rfl) (by intro rs β P h; cases h <;> rfl) ⟨_, (pssc_cons (psc_asg (pec_var 2) (pgc_tup (n := 4) (pgsc_cons (pgc_name 4 nd) (pgsc_cons (pgc_name 5 nd) (pgsc_cons (pgc_name 6 nd) (pgsc_cons (pgc_name 7 nd) pgsc_nil))))))
    (pssc_cons (psc_if (ptc_isN (pec_var 6)) (pssc_one (psc_ret pec_str)) pssc_nil)
    (pssc_one (psc_ret (pec_if (ptc_eq (pec_ix (pec_ix (pec_ix (pec_var 1) pec_int) (pec_var 6)) pec_int) (pec_var 4)) pec_non pec_str))))), ?_⟩
  intro rs β P h B bx
  rcases h with @⟨y, s, c, d, β, hf, hy, h, hc, hd⟩
  change GoR g.K B bx _ [some _, some _, some _, some _, none, none, none, none] _ _ _
  cases d <;> first | exact absurd hf (by decide +kernel) | exact absurd (show ("go_fault" : Str) = _ from hf) (by decide +kernel) | exact absurd (show ("hand_fault" : Str) = _ from hf) (by decide +kernel) | skip
  refine go_seq1 (go_asgT (evr_var rfl) (tg_tup (tgs_cons (tg_name _) (tgs_cons (tg_name _) (tgs_cons (tg_name _) (tgs_cons (tg_name _) tgs_nil))))) rfl ⟨rfl, rfl⟩) ?_
  cases hl : c.load with
  | none => exact go_ifr (c := true) (evt_of (ev_isN (d := .none) (evr_var rfl))) (fun h1 => go_ret (evr_c fun _ => .str _) ⟨.inr ⟨_, rfl⟩, rfl⟩) (fun h => by cases h)
  | some l =>
    obtain ⟨l0, l1⟩ := (h.cars c hc).l l hl
    have hlt : l.toNat < s.shelves.length := by omega
    refine go_ifr (c := false) (evt_of (ev_isN (d := .int l) (evr_var rfl))) (fun h => by cases h) (fun h1 => ?_)
    refine go_retP (evp_if (etp_t (evt_of (ev_eq (ev_ixT (ds := [.int s.shelves[l.toNat].home, encInts s.shelves[l.toNat].stock]) (ev_ixT (ds := s.shelves.map encShelf) (ev_ixT (evr_var rfl) (evr_c fun _ => .int _) rfl) (evr_var rfl) (atN (n := l.toNat) (by omega) (by rw [List.getElem?_map, List.getElem?_eq_getElem hlt]; rfl))) (evr_c fun _ => .int _) rfl) (evr_var rfl))) ⟨fun hk => evp_of (evr_c fun _ => .non) ⟨.inl ⟨rfl, l.toNat, s.shelves[l.toNat], ?_, List.getElem?_eq_getElem hlt, of_decide_eq_true hk⟩, rfl⟩, fun _ => evp_of (evr_c fun _ => .str _) ⟨.inr ⟨_, rfl⟩, rfl⟩⟩))
    rw [hl]; congr 1; omega
theorem sc_hand_fault : FnScope ["yard", "state", "carrier", "deed", "cell", "charge", "load", "broken"] ["yard", "state", "carrier", "deed"] (defScope s_hand_fault) := ⟨rfl, rfl, rfl, by decide +kernel, rfl, by decide +kernel, by decide +kernel⟩
theorem fn_hand_fault {g : Gb} (T : Txt g) : FnP g "hand_fault" ["yard", "state", "carrier", "deed"] 3 T_hand_fault := by
  have nd := sc_hand_fault.nd
  have c_sign_at := fn_sign_at T
  have c_lacking := fn_lacking T
  refine T.fnP 42 rfl sc_hand_fault (fun _ _ _ _ _ _ us hl => match us, hl with | [_, _, _, _], _ => rfl) (by intro rs β P h; cases h <;> rfl) ⟨_, (pssc_cons (psc_asg (pec_var 2) (pgc_tup (n := 4) (pgsc_cons (pgc_name 4 nd) (pgsc_cons (pgc_name 5 nd) (pgsc_cons (pgc_name 6 nd) (pgsc_cons (pgc_name 7 nd) pgsc_nil))))))
    (pssc_cons (psc_if (ptc_isN (pec_var 6)) (pssc_one (psc_ret pec_str)) pssc_nil)
    (pssc_cons (psc_if (ptc_ne (pec_fn c_sign_at (pac_cons (pec_var 0) (pac_cons (pec_var 4) pac_nil))) (pec_gstr T.DESK)) (pssc_one (psc_ret pec_str)) pssc_nil)
    (pssc_cons (psc_if (ptc_w (pwc_or (ptc_ge (pec_ix (pec_var 3) pec_int) (pec_len T.b_len (pec_ix (pec_var 1) pec_int))) (pwc_or1 (ptc_eq (pec_fn c_lacking (pac_cons (pec_ix (pec_ix (pec_var 1) pec_int) (pec_ix (pec_var 3) pec_int)) pac_nil)) pec_int)))) (pssc_one (psc_ret pec_str)) pssc_nil)
    (pssc_one (psc_ret (pec_if (ptc_eq (pec_ix (pec_ix (pec_ix (pec_ix (pec_var 1) pec_int) (pec_var 6)) pec_int) (pec_ix (pec_ix (pec_ix (pec_var 1) pec_int) (pec_ix (pec_var 3) pec_int)) pec_int)) pec_int) pec_str pec_non))))))), ?_⟩
  intro rs β P h B bx
  clear c_sign_at
  clear c_lacking
  rcases h with @⟨y, s, c, d, β, hf, hy, h, hc, hd⟩
  change GoR g.K B bx _ [some _, some _, some _, some _, none, none, none, none] _ _ _
  cases d <;> first | exact absurd hf (by decide +kernel) | exact absurd (show ("go_fault" : Str) = _ from hf) (by decide +kernel) | exact absurd (show ("hand_fault" : Str) = _ from hf) (by decide +kernel) | skip
  rename_i n
  have hcell := (h.cars c hc).cell
  obtain ⟨m, e1, e2, e3⟩ := y.cell_at hcell
  have hn0 : 0 ≤ n := hd.1
  refine go_seq1 (go_asgT (evr_var rfl) (tg_tup (tgs_cons (tg_name _) (tgs_cons (tg_name _) (tgs_cons (tg_name _) (tgs_cons (tg_name _) tgs_nil))))) rfl ⟨rfl, rfl⟩) ?_
  cases hl : c.load with
  | none => exact go_ifr (c := true) (evt_of (ev_isN (d := .none) (evr_var rfl))) (fun h1 => go_ret (evr_c fun _ => .str _) ⟨.inr ⟨_, rfl⟩, rfl⟩) (fun h => by cases h)
  | some l =>
    obtain ⟨l0, l1⟩ := (h.cars c hc).l l hl
    have hlt : l.toNat < s.shelves.length := by omega
    refine go_ifr (c := false) (evt_of (ev_isN (d := .int l) (evr_var rfl))) (fun h => by cases h) (fun h1 => ?_)
    refine go_ifr (evt_of (ev_ne (ev_callD (dv_cons (evr_var rfl) (dv_cons (evr_var rfl) dv_nil)) (.mk hy hcell.1 e1)) (evr_c fun _ => .str _))) (fun h2 => ?_) (fun h2 => ?_)
    · exact go_ret (evr_c fun _ => .str _) ⟨.inr ⟨_, rfl⟩, rfl⟩
    · have hdesk : y.sgn c.cell deskN = true := by
        rw [Bool.not_eq_false'] at h2
        have q : m = deskN := one_sign.mp (of_decide_eq_true h2)
        show decide (y.sg[c.cell.toNat]? = some deskN) = true
        rw [e1, q]; simp
      by_cases hord : n.toNat < s.orders.length
      · have at_ : L2.atI (s.orders.map encOrder) n = some (encOrder s.orders[n.toNat]) := atN (n := n.toNat) (by omega) (by rw [List.getElem?_map, List.getElem?_eq_getElem hord]; rfl)
        have oo := h.os _ (List.getElem_mem hord)
        have bb := h.sh _ (List.getElem_mem hlt)
        have glt : s.orders[n.toNat].good.toNat < s.shelves[l.toNat].stock.length := by rw [bb.g]; have := oo.g0; have := oo.g1; omega
        refine go_ifr (ev_tor (evt_of (ev_ge (ev_ixT (evr_var rfl) (evr_c fun _ => .int _) rfl) (ev_lenT (ds := s.orders.map encOrder) (ev_ixT (evr_var rfl) (evr_c fun _ => .int _) rfl)))) fun _ => (evt_of (ev_eq (ev_callD (dv_cons (ev_ixT (ds := s.orders.map encOrder) (ev_ixT (evr_var rfl) (evr_c fun _ => .int _) rfl) (ev_ixT (evr_var rfl) (evr_c fun _ => .int _) rfl) at_) dv_nil) .mk) (evr_c fun _ => .int _)))) (fun h3 => ?_) (fun h3 => ?_)
        · exact go_ret (evr_c fun _ => .str _) ⟨.inr ⟨_, rfl⟩, rfl⟩
        · refine go_retP (evp_if (etp_t (evt_of (ev_eq (d := .int s.shelves[l.toNat].stock[s.orders[n.toNat].good.toNat]) (ev_ixT (ds := s.shelves[l.toNat].stock.map PyData.int) (ev_ixT (ds := [.int s.shelves[l.toNat].home, encInts s.shelves[l.toNat].stock]) (ev_ixT (ds := s.shelves.map encShelf) (ev_ixT (evr_var rfl) (evr_c fun _ => .int _) rfl) (evr_var rfl) (atN (n := l.toNat) (by omega) (by rw [List.getElem?_map, List.getElem?_eq_getElem hlt]; rfl))) (evr_c fun _ => .int _) rfl) (ev_ixT (ds := [.int s.orders[n.toNat].good, .int s.orders[n.toNat].many, .int s.orders[n.toNat].given, .int s.orders[n.toNat].hour]) (ev_ixT (ds := s.orders.map encOrder) (ev_ixT (evr_var rfl) (evr_c fun _ => .int _) rfl) (ev_ixT (evr_var rfl) (evr_c fun _ => .int _) rfl) at_) (evr_c fun _ => .int _) rfl) (atN (n := s.orders[n.toNat].good.toNat) (by have := oo.g0; omega) (by rw [List.getElem?_map, List.getElem?_eq_getElem glt]; rfl))) (evr_c fun _ => .int _))) ⟨fun _ => evp_of (evr_c fun _ => .str _) ⟨.inr ⟨_, rfl⟩, rfl⟩, fun hk => evp_of (evr_c fun _ => .non) ⟨.inl ⟨rfl, ⟨l, hl⟩, hdesk, hord⟩, rfl⟩⟩))
      · refine go_ifr (c := true) (ev_tcast (ev_tor (c := false) (evt_of (ev_ge (ev_ixT (evr_var rfl) (evr_c fun _ => .int _) rfl) (ev_lenT (ds := s.orders.map encOrder) (ev_ixT (evr_var rfl) (evr_c fun _ => .int _) rfl)))) fun h => ?_) ?_) (fun h3 => go_ret (evr_c fun _ => .str _) ⟨.inr ⟨_, rfl⟩, rfl⟩) (fun h => by cases h)
        · exfalso
          have := of_decide_eq_false h
          rw [List.length_map] at this
          omega
        · rw [List.length_map, decide_eq_true (by omega)]; rfl
end K20
set_option maxHeartbeats 4000000
namespace K20
open PySem PySem.Spec PyProof.Rows L2
theorem FnP.mono {g : Gb} {x : Str} {ps : List Str} {k j : Nat} {T : List Res → Bx → Post → Prop} (h : FnP g x ps k T) (hk : k ≤ j) : FnP g x ps j T := by
  obtain ⟨f, fd, D, F⟩ := h
  exact ⟨f, fd, D, FnOk.mono F hk⟩
theorem cF {g : Gb} (T : Txt g) : ∀ x f, (x, f) ∈ keysF → FnP g f ["yard", "state", "carrier", "deed"] 4 (T_fault f) := by
  intro x f h
  simp only [keysF, List.mem_cons, Prod.mk.injEq, List.not_mem_nil, or_false] at h
  rcases h with ⟨_, rfl⟩ | ⟨_, rfl⟩ | ⟨_, rfl⟩ | ⟨_, rfl⟩ | ⟨_, rfl⟩ | ⟨_, rfl⟩
  · exact (fn_bide_fault T).mono (by decide)
  · exact (fn_fill_fault T).mono (by decide)
  · exact fn_go_fault T
  · exact fn_lift_fault T
  · exact (fn_set_fault T).mono (by decide)
  · exact (fn_hand_fault T).mono (by decide)
def deedName : Deed → Str
  | .bide => "bide"
  | .fill => "fill"
  | .lift => "lift"
  | .set => "set"
  | .go _ => "go"
  | .hand _ => "hand"
theorem deed_keys (d : Deed) : (deedName d, faultName d) ∈ keysF := by
  cases d <;> simp [deedName, faultName, keysF]
section
variable {K : PySem.W.Frag} {B : Hp} {bx : Option Addr} {ρ : Env} {β β1 β2 : Bx} {ta tb : TE} {f1 f2 : Bool} {d : Deed}
theorem ev_deed0 (ha : EvR K B bx ta ρ β f1 (.d (encDeed d)) β1) (hb : EvR K B bx tb ρ β1 f2 (.d (.int 0)) β2) : EvR K B bx (tOp (rSeq K) ta tb) ρ β true (.d (.str (deedName d))) β2 := by
  cases d <;> exact ev_ixT ha hb at0
theorem ev_deedIs {w : Str} {tw : TE} {f3 : Bool} {β3 : Bx} (ha : EvR K B bx ta ρ β f1 (.d (encDeed d)) β1) (hb : EvR K B bx tb ρ β1 f2 (.d (.int 0)) β2) (hw : EvR K B bx tw ρ β2 f3 (.d (.str w)) β3) : EvR K B bx (tOp rEq (tOp (rSeq K) ta tb) tw) ρ β true (.d (.bool (decide (deedName d = w)))) β3 := ev_eq (ev_deed0 ha hb) hw
theorem ev_carAt {s : State} {k : Nat} {c : Car} {tx : TE} {f3 : Bool} {β3 : Bx} (hk : s.cars[k]? = some c) (ha : EvR K B bx ta ρ β f1 (.d (encState s)) β1) (hb : EvR K B bx tb ρ β1 f2 (.d (.int 1)) β2) (hx : EvR K B bx tx ρ β2 f3 (.d (.int (k : Int))) β3) : EvR K B bx (tOp (rSeq K) (tOp (rSeq K) ta tb) tx) ρ β true (.d (encCar c)) β3 :=
  ev_ixT (ds := s.cars.map encCar) (ev_ixT ha hb rfl) hx (atN (n := k) rfl (by rw [List.getElem?_map, hk]; rfl))
end
inductive T_own_fault : List Res → Bx → Post → Prop
  | mk {y : Yard} {s : State} {k : Nat} {c : Car} {d : Deed} {β : Bx} (hy : y.Ok) (h : s.Ok y) (hk : s.cars[k]? = some c) (hd : d.num) :
    T_own_fault [.d (encYard y), .d (encState s), .d (.int k), .d (encDeed d)] β fun r β' => ((r = .d .none ∧ OwnOk y s c d ∧ (c.broken = true → d = .bide)) ∨ ∃ w, r = .d (.str w)) ∧ β' = β
theorem sc_own_fault : FnScope ["yard", "state", "number", "deed", "carrier"] ["yard", "state", "number", "deed"] (defScope s_own_fault) := ⟨rfl, rfl, rfl, by decide +kernel, rfl, by decide +kernel, by decide +kernel⟩
theorem fn_own_fault {g : Gb} (T : Txt g) : FnP g "own_fault" ["yard", "state", "number", "deed"] 5 T_own_fault := by
  have nd := sc_own_fault.nd
  have c_bide_fault := fn_bide_fault T
  have c_fill_fault := fn_fill_fault T
  have c_go_fault := fn_go_fault T
  have c_lift_fault := fn_lift_fault T
  have c_set_fault := fn_set_fault T
  have c_hand_fault := fn_hand_fault T
  have cF := cF T
  refine T.fnP 45 rfl sc_own_fault (fun _ _ _ _ _ _ us hl => match us, hl with | [_, _, _, _], _ => rfl) (by intro rs β P h; cases h <;> rfl) ⟨_, (pssc_cons (psc_asg (pec_ix (pec_ix (pec_var 1) pec_int) (pec_var 2)) (pgc_name 4 nd))
    (pssc_cons (psc_if (ptc_w (pwc_and (ptc_of (pec_ix (pec_var 4) pec_int)) (pwc_and1 (ptc_ne (pec_ix (pec_var 3) pec_int) pec_str)))) (pssc_one (psc_ret pec_str)) pssc_nil)
    (pssc_one (psc_ret (pec_faults T cF (pec_ix (pec_var 3) pec_int) (pac_cons (pec_var 0) (pac_cons (pec_var 1) (pac_cons (pec_var 4) (pac_cons (pec_var 3) pac_nil))))))))), ?_⟩
  intro rs β P h B bx
  clear c_bide_fault
  clear c_fill_fault
  clear c_go_fault
  clear c_lift_fault
  clear c_set_fault
  clear c_hand_fault
  rcases h with @⟨y, s, k, c, d, β, hy, h, hk, hd⟩
  change GoR g.K B bx _ [some _, some _, some _, some _, none] _ _ _
  refine go_seq1 (go_asg (ev_carAt hk (evr_var rfl) (evr_c fun _ => .int _) (evr_var rfl)) ⟨rfl, rfl⟩) ?_
  refine go_ifr (ev_tand (evt_of (c := c.broken) (ev_ixT (evr_var rfl) (evr_c fun _ => .int _) rfl)) fun _ => (evt_of (ev_ne (ev_deed0 (evr_var rfl) (evr_c fun _ => .int _)) (evr_c fun _ => .str _)))) (fun h1 => ?_) (fun h1 => ?_)
  · exact go_ret (evr_c fun _ => .str _) ⟨.inr ⟨_, rfl⟩, rfl⟩
  · refine go_retP (evp_faults T.FAULTSt (T.FAULTSv _ _ (deed_keys d)) (deed_keys d) (ev_deed0 (evr_var rfl) (evr_c fun _ => .int _)) (eap_cons (evp_of (evr_var rfl) ⟨rfl, eap_cons (evp_of (evr_var rfl) ⟨rfl, eap_cons (evp_of (evr_var rfl) ⟨rfl, eap_cons (evp_of (evr_var rfl) ⟨rfl, eap_nil ⟨_, .mk rfl hy h (List.mem_of_getElem? hk) hd, ?_⟩⟩)⟩)⟩)⟩)))
    rintro r β' ⟨hr, e⟩
    refine ⟨?_, e⟩
    rcases hr with ⟨e2, ok⟩ | hw
    · refine .inl ⟨e2, ok, fun hb => ?_⟩
      rw [hb, Bool.true_and, Bool.not_eq_false'] at h1
      have q := of_decide_eq_true h1
      cases d with
      | bide => rfl
      | fill | lift | set => exact absurd q (by decide +kernel)
      | go n => exact absurd (show ("go" : Str) = _ from q) (by decide +kernel)
      | hand n => exact absurd (show ("hand" : Str) = _ from q) (by decide +kernel)
    · exact .inr hw
def cellB (c : Car) : Deed → Int
  | .go n => n
  | _ => c.cell
def later (s : State) (ds : List Deed) : List Int := (s.cars.zip ds).map fun p => cellB p.1 p.2
theorem zip_enc {α γ : Type} (f : α → D) (f2 : γ → D) (l : List α) (m : List γ) : List.zipWith prD (l.map f) (m.map f2) = (l.zip m).map fun p => prD (f p.1) (f2 p.2) := by
  rw [List.zipWith_map, List.zip_eq_zipWith, List.map_zipWith]
inductive R_cells_behind : List Res → Bx → Res → Bx → Prop
  | mk {s : State} {ds : List Deed} {β : Bx} (h : s.cars.length ≤ 100) : R_cells_behind [.d (encState s), .d (encDeeds ds)] β (.l ((later s ds).map PyData.int)) β
theorem sc_cells_behind : FnScope ["state", "deeds", "carrier", "deed"] ["state", "deeds"] (defScope s_cells_behind) := ⟨rfl, rfl, rfl, by decide +kernel, rfl, by decide +kernel, by decide +kernel⟩
theorem fn_cells_behind {g : Gb} (T : Txt g) : FnX g "cells_behind" ["state", "deeds"] 1 R_cells_behind := by
  have nd := sc_cells_behind.nd
  refine T.fnX 46 rfl sc_cells_behind (fun _ _ _ _ _ _ us hl => match us, hl with | [_, _], _ => rfl) (by intro rs β r β' h; cases h <;> rfl) ⟨_, (pssc_one (psc_ret (pec_lc [("carrier", 2), ("deed", 3)] nd (pic_zip T.b_zip (pec_ix (pec_var 0) pec_int) (pec_var 1)) (pgc_tup (n := 2) (pgsc_cons (pgc_name 2 nd) (pgsc_cons (pgc_name 3 nd) pgsc_nil))) ptsc_nil (pec_if (ptc_eq (pec_ix (pec_var 3) pec_int) pec_str) (pec_ix (pec_var 3) pec_int) (pec_ix (pec_var 2) pec_int))))), ?_⟩
  intro rs β r β' h B bx
  rcases h with @⟨s, ds, β, h⟩
  change GoR g.K B bx _ [some _, some _, none, none] _ _ _
  refine go_ret (ev_castR (ev_lc (xs := s.cars.zip ds) (enc := fun p => prD (encCar p.1) (encDeed p.2)) (f := fun p => .int (cellB p.1 p.2)) (wkr_cast (wk_zipT (ev_ixT (evr_var rfl) (evr_c fun _ => .int _) rfl) (evr_var rfl)) (zip_enc _ _ _ _)) (tg_tup (tgs_cons (tg_name _) (tgs_cons (tg_name _) tgs_nil))) (by decide) (by rw [List.length_zip]; omega) fun p hp => ⟨_, rfl, ?_⟩) ?_) ⟨rfl, rfl⟩
  · obtain ⟨c, d⟩ := p
    cases d with
    | go n => exact evr_if (c := true) (ev_tcast (evt_of (ev_deedIs (d := .go n) (evr_var rfl) (evr_c fun _ => .int _) (evr_c fun _ => .str _))) (decide_eq_true rfl)) (fun _ => (ev_ixT (evr_var rfl) (evr_c fun _ => .int _) rfl)) (fun h => by cases h)
    | bide => exact evr_if (c := false) (ev_tcast (evt_of (ev_deedIs (d := .bide) (evr_var rfl) (evr_c fun _ => .int _) (evr_c fun _ => .str _))) (by decide +kernel)) (fun h => by cases h) (fun _ => (ev_ixT (evr_var rfl) (evr_c fun _ => .int _) rfl))
    | fill => exact evr_if (c := false) (ev_tcast (evt_of (ev_deedIs (d := .fill) (evr_var rfl) (evr_c fun _ => .int _) (evr_c fun _ => .str _))) (by decide +kernel)) (fun h => by cases h) (fun _ => (ev_ixT (evr_var rfl) (evr_c fun _ => .int _) rfl))
    | lift => exact evr_if (c := false) (ev_tcast (evt_of (ev_deedIs (d := .lift) (evr_var rfl) (evr_c fun _ => .int _) (evr_c fun _ => .str _))) (by decide +kernel)) (fun h => by cases h) (fun _ => (ev_ixT (evr_var rfl) (evr_c fun _ => .int _) rfl))
    | set => exact evr_if (c := false) (ev_tcast (evt_of (ev_deedIs (d := .set) (evr_var rfl) (evr_c fun _ => .int _) (evr_c fun _ => .str _))) (by decide +kernel)) (fun h => by cases h) (fun _ => (ev_ixT (evr_var rfl) (evr_c fun _ => .int _) rfl))
    | hand n => exact evr_if (c := false) (ev_tcast (evt_of (ev_deedIs (d := .hand n) (evr_var rfl) (evr_c fun _ => .int _) (evr_c fun _ => .str _))) (show decide (("hand" : Str) = "go") = false by decide +kernel)) (fun h => by cases h) (fun _ => (ev_ixT (evr_var rfl) (evr_c fun _ => .int _) rfl))
  · unfold later
    rw [List.map_map]; rfl
theorem cut_take {α : Type} (xs : List α) (k : Nat) : cutG xs none (some (k : Int)) = xs.take k := by
  unfold cutG
  show (xs.drop 0).take (HT.sIx xs.length xs.length (some (k : Int)) - 0) = _
  rw [HT.sIx_nat, List.drop_zero, Nat.sub_zero]
  by_cases h : k ≤ xs.length
  · rw [Nat.min_eq_left h]
  · rw [Nat.min_eq_right (by omega)]; rw [List.take_of_length_le (Nat.le_refl _), List.take_of_length_le (by omega)]
/-- no two come to one cell -/
def MetOk (s : State) (ds : List Deed) (k : Nat) : Prop := ∀ x, (later s ds)[k]? = some x → x ∉ (later s ds).take k
theorem later_len {s : State} {ds : List Deed} (h : ds.length = s.cars.length) : (later s ds).length = s.cars.length := by
  unfold later
  rw [List.length_map, List.length_zip]; omega
inductive T_met_fault : List Res → Bx → Post → Prop
  | mk {y : Yard} {s : State} {ds : List Deed} {k : Nat} {β : Bx} (hy : y.Ok) (h : s.Ok y) (hl : ds.length = s.cars.length) (hk : k < s.cars.length) :
    T_met_fault [.d (encYard y), .d (encState s), .d (encDeeds ds), .d (.int k)] β fun r β' => ((r = .d .none ∧ MetOk s ds k) ∨ ∃ w, r = .d (.str w)) ∧ β' = β
theorem sc_met_fault : FnScope ["yard", "state", "deeds", "number", "ahead", "later", "carrier", "other"] ["yard", "state", "deeds", "number"] (defScope s_met_fault) := ⟨rfl, rfl, rfl, by decide +kernel, rfl, by decide +kernel, by decide +kernel⟩
theorem fn_met_fault {g : Gb} (T : Txt g) : FnP g "met_fault" ["yard", "state", "deeds", "number"] 2 T_met_fault := by
  have nd := sc_met_fault.nd
  have c_cells_behind := fn_cells_behind T
  have c_is_shut := fn_is_shut T
  refine T.fnP 47 rfl sc_met_fault (fun _ _ _ _ _ _ us hl => match us, hl with | [_, _, _, _], _ => rfl) (by intro rs β P h; cases h <;> rfl) ⟨_, (pssc_cons (psc_par (i := 4) (j := 5) nd (pac_cons (pec_lc [("carrier", 6)] nd (pic_tup (pec_ix (pec_var 1) pec_int)) (pgc_name 6 nd) ptsc_nil (pec_ix (pec_var 6) pec_int)) (pac_cons (pec_fn c_cells_behind (pac_cons (pec_var 1) (pac_cons (pec_var 2) pac_nil))) pac_nil)))
    (pssc_cons (psc_if (ptc_in (pec_ix (pec_var 5) (pec_var 3)) (pec_slL (pec_var 5) poc_none (poc_some (pec_var 3)))) (pssc_one (psc_ret pec_str)) pssc_nil)
    (pssc_cons (psc_for (pic_range T.b_range (pec_var 3)) (pgc_name 7 nd) (pssc_one (psc_if (ptc_w (pwc_and (ptc_eq (pec_ix (pec_var 5) (pec_var 3)) (pec_ix (pec_var 4) (pec_var 7))) (pwc_and1 (ptc_eq (pec_ix (pec_var 5) (pec_var 7)) (pec_ix (pec_var 4) (pec_var 3)))))) (pssc_one (psc_ret pec_str)) pssc_nil)))
    (pssc_cons (psc_if (ptc_w (pwc_and (ptc_eq (pec_ix (pec_ix (pec_var 2) (pec_var 3)) pec_int) pec_str) (pwc_and1 (ptc_of (pec_fnP c_is_shut (pac_cons (pec_var 0) (pac_cons (pec_ix (pec_var 5) (pec_var 3)) (pac_cons (pec_add (pec_ix (pec_var 1) pec_int) pec_int) pac_nil)))))))) (pssc_one (psc_ret pec_str)) pssc_nil)
    (pssc_one (psc_ret pec_non)))))), ?_⟩
  intro rs β P h B bx
  clear c_cells_behind
  clear c_is_shut
  rcases h with @⟨y, s, ds, k, β, hy, h, hl, hk⟩
  change GoR g.K B bx _ [some _, some _, some _, some _, none, none, none, none] _ _ _
  have h3 := h.c3
  have ll := later_len hl
  have hk2 : k < (later s ds).length := by omega
  have lat : ∀ j : Nat, (hj : j < s.cars.length) → L2.atI ((later s ds).map PyData.int) (j : Int) = some (.int ((later s ds)[j]'(by omega))) := fun j hj => atN (n := j) rfl (by rw [List.getElem?_map, List.getElem?_eq_getElem (by omega)]; rfl)
  have ah : ∀ j : Nat, (hj : j < s.cars.length) → L2.atI (s.cars.map fun c => PyData.int c.cell) (j : Int) = some (.int s.cars[j].cell) := fun j hj => atN (n := j) rfl (by rw [List.getElem?_map, List.getElem?_eq_getElem hj]; rfl)
  refine go_seq1 (go_par (r1 := .l (s.cars.map fun c => PyData.int c.cell)) (ev_lc (xs := s.cars) (enc := encCar) (f := fun c => .int c.cell) (wk_tup (ev_ixT (evr_var rfl) (evr_c fun _ => .int _) rfl)) (tg_name _) (by decide) (by omega) fun y hy => ⟨_, rfl, (ev_ixT (evr_var rfl) (evr_c fun _ => .int _) rfl)⟩) (ev_callD (dv_cons (evr_var rfl) (dv_cons (evr_var rfl) dv_nil)) (.mk (by omega))) ⟨rfl, rfl⟩) ?_
  refine go_ifr (evt_of (ev_in (ds := ((later s ds).take k).map PyData.int) (ev_ixL (evr_var rfl) (evr_var rfl) (lat k hk)) (ev_castR (z' := .l (((later s ds).take k).map PyData.int)) (ev_slL (evr_var rfl) evo_none (evo_some (evr_var rfl))) (by rw [cut_take, List.map_take])) rfl (fl_ints _))) (fun h1 => ?_) (fun h1 => ?_)
  · exact go_ret (evr_c fun _ => .str _) ⟨.inr ⟨_, rfl⟩, rfl⟩
  · rw [inD_ints] at h1
    have ok : MetOk s ds k := fun x hx => by
      rw [List.getElem?_eq_getElem hk2] at hx
      cases hx
      exact of_decide_eq_false h1
    refine go_seqW (go_for (fun i ρ' β' => (∃ o, ρ' = [some (.d (encYard y)), some (.d (encState s)), some (.d (encDeeds ds)), some (.d (.int k)), some (.l (s.cars.map fun c => PyData.int c.cell)), some (.l ((later s ds).map PyData.int)), none, o]) ∧ β' = β) (wk_range (evr_var rfl) (by omega) (by omega)) (tg_name _) ⟨⟨_, rfl⟩, rfl⟩ (fun i d hd ρi βi hI => ?_) ?_)
    · obtain ⟨⟨o, rfl⟩, rfl⟩ := hI
      have hi : i < k := by
        have := (List.getElem?_eq_some_iff.mp hd).1
        rw [rgD_length] at this
        omega
      rw [rgD_get (by omega)] at hd
      cases hd
      refine ⟨_, rfl, ?_⟩
      refine go_if (ev_tand (evt_of (ev_eq (ev_ixL (evr_var rfl) (evr_var rfl) (lat k hk)) (ev_ixL (evr_var rfl) (evr_var rfl) (ah i (by omega))))) fun _ => (evt_of (ev_eq (ev_ixL (evr_var rfl) (evr_var rfl) (lat i (by omega))) (ev_ixL (evr_var rfl) (evr_var rfl) (ah k hk))))) (fun h2 => ?_) (fun h2 => ?_)
      · exact go_ret (evr_c fun _ => .str _) ⟨.inr ⟨_, rfl⟩, rfl⟩
      · exact go_next ⟨⟨_, rfl⟩, rfl⟩
    · rintro ρ' β' ⟨⟨o, rfl⟩, rfl⟩
      have hkd : k < ds.length := by omega
      have fin1 : GoR g.K B bx (tRet (tC .non)) [some (.d (encYard y)), some (.d (encState s)), some (.d (encDeeds ds)), some (.d (.int k)), some (.l (s.cars.map fun c => PyData.int c.cell)), some (.l ((later s ds).map PyData.int)), none, o] β' (fun _ β2 => (((Res.d .none : Res) = .d .none ∧ MetOk s ds k) ∨ ∃ w, (Res.d .none : Res) = .d (.str w)) ∧ β2 = β') (fun r β2 => ((r = .d .none ∧ MetOk s ds k) ∨ ∃ w, r = .d (.str w)) ∧ β2 = β') := go_ret (evr_c fun _ => .non) ⟨.inl ⟨rfl, ok⟩, rfl⟩
      have fin2 : ∀ w, GoR g.K B bx (tRet (tC (.str w))) [some (.d (encYard y)), some (.d (encState s)), some (.d (encDeeds ds)), some (.d (.int k)), some (.l (s.cars.map fun c => PyData.int c.cell)), some (.l ((later s ds).map PyData.int)), none, o] β' (fun ρ' β2 => GoR g.K B bx (tRet (tC .non)) ρ' β2 (fun _ β2 => (((Res.d .none : Res) = .d .none ∧ MetOk s ds k) ∨ ∃ w, (Res.d .none : Res) = .d (.str w)) ∧ β2 = β') (fun r β2 => ((r = .d .none ∧ MetOk s ds k) ∨ ∃ w, r = .d (.str w)) ∧ β2 = β')) (fun r β2 => ((r = .d .none ∧ MetOk s ds k) ∨ ∃ w, r = .d (.str w)) ∧ β2 = β') := fun w => go_ret (evr_c fun _ => .str _) ⟨.inr ⟨_, rfl⟩, rfl⟩
      refine go_seqW (go_ifP (etp_and (etp_t (evt_of (ev_deedIs (d := ds[k]) (ev_ixT (ds := ds.map encDeed) (evr_var rfl) (evr_var rfl) (atN (n := k) rfl (by rw [List.getElem?_map, List.getElem?_eq_getElem hkd]; rfl))) (evr_c fun _ => .int _) (evr_c fun _ => .str _))) ?_)))
      refine ⟨fun _ => ?_, fun _ => ⟨(fun h => by cases h), fun _ => go_next fin1⟩⟩
      refine etp_of (evp_call (eap_cons (evp_of (evr_var rfl) ⟨rfl, eap_cons (evp_of (ev_ixL (evr_var rfl) (evr_var rfl) (lat k hk)) ⟨rfl, eap_cons (evp_of (ev_add (ev_ixT (evr_var rfl) (evr_c fun _ => .int _) rfl) (evr_c fun _ => .int _)) ⟨rfl, eap_nil ⟨_, .mk hy, ?_⟩⟩)⟩)⟩)))
      rintro r β2 ⟨⟨b, rfl⟩, rfl⟩
      exact ⟨b, rfl, fun _ => fin2 _, fun _ => go_next fin1⟩
structure Free (y : Yard) (s : State) (ds : List Deed) : Prop where
  own : ∀ (k : Nat) c d, s.cars[k]? = some c → ds[k]? = some d → OwnOk y s c d ∧ (c.broken = true → d = .bide)
  met : ∀ k : Nat, k < s.cars.length → MetOk s ds k
inductive T_fault_by : List Res → Bx → Post → Prop
  | mk {y : Yard} {s : State} {ds : List Deed} {β : Bx} (hy : y.Ok) (h : s.Ok y) (hl : ds.length = s.cars.length) (hd : ∀ d ∈ ds, d.num) :
    T_fault_by [.d (encYard y), .d (encState s), .d (encDeeds ds)] β fun r β' => ((r = .d .none ∧ Free y s ds) ∨ ∃ k w, r = .d (.tuple [.int k, .str w])) ∧ β' = β
theorem sc_fault_by : FnScope ["yard", "state", "deeds", "number", "deed", "word"] ["yard", "state", "deeds"] (defScope s_fault_by) := ⟨rfl, rfl, rfl, by decide +kernel, rfl, by decide +kernel, by decide +kernel⟩
theorem fn_fault_by {g : Gb} (T : Txt g) : FnP g "fault_by" ["yard", "state", "deeds"] 6 T_fault_by := by
  have nd := sc_fault_by.nd
  have c_own_fault := fn_own_fault T
  have c_met_fault := fn_met_fault T
  refine T.fnP 48 rfl sc_fault_by (fun _ _ _ _ _ _ us hl => match us, hl with | [_, _, _], _ => rfl) (by intro rs β P h; cases h <;> rfl) ⟨_, (pssc_cons (psc_for (pic_enumT T.b_enumerate (pec_var 2)) (pgc_tup (n := 2) (pgsc_cons (pgc_name 3 nd) (pgsc_cons (pgc_name 4 nd) pgsc_nil))) (pssc_cons (psc_asg (pec_fnP c_own_fault (pac_cons (pec_var 0) (pac_cons (pec_var 1) (pac_cons (pec_var 3) (pac_cons (pec_var 4) pac_nil))))) (pgc_name 5 nd))
    (pssc_one (psc_if (ptc_notN (pec_var 5)) (pssc_one (psc_ret (pec_tup (pac_cons (pec_var 3) (pac_cons (pec_var 5) pac_nil))))) pssc_nil))))
    (pssc_cons (psc_for (pic_range T.b_range (pec_len T.b_len (pec_var 2))) (pgc_name 3 nd) (pssc_cons (psc_asg (pec_fnP c_met_fault (pac_cons (pec_var 0) (pac_cons (pec_var 1) (pac_cons (pec_var 2) (pac_cons (pec_var 3) pac_nil))))) (pgc_name 5 nd))
    (pssc_one (psc_if (ptc_notN (pec_var 5)) (pssc_one (psc_ret (pec_tup (pac_cons (pec_var 3) (pac_cons (pec_var 5) pac_nil))))) pssc_nil))))
    (pssc_one (psc_ret pec_non)))), ?_⟩
  intro rs β P h B bx
  clear c_own_fault
  clear c_met_fault
  rcases h with @⟨y, s, ds, β, hy, h, hl, hd⟩
  change GoR g.K B bx _ [some _, some _, some _, none, none, none] _ _ _
  have h3 := h.c3
  refine go_seqW (go_for (fun i ρ' β' => (∃ o1 o2 o3, ρ' = [some (.d (encYard y)), some (.d (encState s)), some (.d (encDeeds ds)), o1, o2, o3]) ∧ β' = β ∧ ∀ k : Nat, k < i → ∀ c d, s.cars[k]? = some c → ds[k]? = some d → OwnOk y s c d ∧ (c.broken = true → d = .bide)) (wk_enumZ (f := encDeed) (l := ds) (evr_var rfl)) (tg_tup (tgs_cons (tg_name _) (tgs_cons (tg_name _) tgs_nil))) ⟨⟨_, _, _, rfl⟩, rfl, fun k hk => by omega⟩ (fun i d hdi ρi βi hI => ?_) ?_)
  · obtain ⟨⟨o1, o2, o3, rfl⟩, rfl, hok⟩ := hI
    have hi : i < ds.length := by
      have := (List.getElem?_eq_some_iff.mp hdi).1
      rw [List.length_map, zipN_len] at this
      exact this
    have ed : d = prD (.int i) (encDeed ds[i]) := by
      rw [List.getElem?_map] at hdi
      have : (zipN ds)[i]? = some (i, ds[i]) := by
        unfold zipN
        exact List.getElem?_zip_eq_some.mpr ⟨List.getElem?_range hi, List.getElem?_eq_getElem hi⟩
      rw [this] at hdi
      cases hdi; rfl
    subst ed
    have hic : i < s.cars.length := by omega
    refine ⟨_, rfl, ?_⟩
    refine go_seqW (go_asgP (evp_call (eap_cons (evp_of (evr_var rfl) ⟨rfl, eap_cons (evp_of (evr_var rfl) ⟨rfl, eap_cons (evp_of (evr_var rfl) ⟨rfl, eap_cons (evp_of (evr_var rfl) ⟨rfl, eap_nil ⟨_, .mk hy h (List.getElem?_eq_getElem hic) (hd _ (List.getElem_mem hi)), ?_⟩⟩)⟩)⟩)⟩))))
    rintro r β2 ⟨hr, rfl⟩
    rcases hr with ⟨rfl, ok⟩ | ⟨w, rfl⟩
    · refine go_if (c := false) (evt_of (ev_notN (d := .none) (evr_var rfl))) (fun h => by cases h) (fun _ => go_next ⟨⟨_, _, _, rfl⟩, rfl, fun k hk c d h1 h2 => ?_⟩)
      by_cases hki : k = i
      · subst hki
        rw [List.getElem?_eq_getElem hic] at h1
        rw [List.getElem?_eq_getElem hi] at h2
        cases h1; cases h2
        exact ok
      · exact hok k (by omega) c d h1 h2
    · exact go_if (c := true) (evt_of (ev_notN (d := .str w) (evr_var rfl))) (fun _ => go_ret (ev_tup (dv_cons (evr_var rfl) (dv_cons (evr_var rfl) dv_nil))) ⟨.inr ⟨_, _, rfl⟩, rfl⟩) (fun h => by cases h)
  · rintro ρ' β' ⟨⟨o1, o2, o3, rfl⟩, rfl, hok⟩
    have own : ∀ (k : Nat) c d, s.cars[k]? = some c → ds[k]? = some d → OwnOk y s c d ∧ (c.broken = true → d = .bide) := fun k c d h1 h2 => hok k (by
      have := (List.getElem?_eq_some_iff.mp h2).1
      rw [List.length_map, zipN_len]; exact this) c d h1 h2
    refine go_seqW (go_for (fun i ρ2 β2 => (∃ o1 o2 o3, ρ2 = [some (.d (encYard y)), some (.d (encState s)), some (.d (encDeeds ds)), o1, o2, o3]) ∧ β2 = β' ∧ ∀ k : Nat, k < i → MetOk s ds k) (wk_range (ev_lenT (ds := ds.map encDeed) (evr_var rfl)) (by omega) (by rw [List.length_map]; omega)) (tg_name _) ⟨⟨_, _, _, rfl⟩, rfl, fun k hk => by omega⟩ (fun i d hdi ρi βi hI => ?_) ?_)
    · obtain ⟨⟨o1, o2, o3, rfl⟩, rfl, hm⟩ := hI
      have hi : i < ds.length := by
        have := (List.getElem?_eq_some_iff.mp hdi).1
        rw [rgD_length, List.length_map] at this
        omega
      rw [rgD_get (by rw [List.length_map]; omega)] at hdi
      cases hdi
      refine ⟨_, rfl, ?_⟩
      refine go_seqW (go_asgP (evp_call (eap_cons (evp_of (evr_var rfl) ⟨rfl, eap_cons (evp_of (evr_var rfl) ⟨rfl, eap_cons (evp_of (evr_var rfl) ⟨rfl, eap_cons (evp_of (evr_var rfl) ⟨rfl, eap_nil ⟨_, .mk hy h hl (by omega), ?_⟩⟩)⟩)⟩)⟩))))
      rintro r β2 ⟨hr, rfl⟩
      rcases hr with ⟨rfl, ok⟩ | ⟨w, rfl⟩
      · refine go_if (c := false) (evt_of (ev_notN (d := .none) (evr_var rfl))) (fun h => by cases h) (fun _ => go_next ⟨⟨_, _, _, rfl⟩, rfl, fun k hk => ?_⟩)
        by_cases hki : k = i
        · rw [hki]; exact ok
        · exact hm k (by omega)
      · exact go_if (c := true) (evt_of (ev_notN (d := .str w) (evr_var rfl))) (fun _ => go_ret (ev_tup (dv_cons (evr_var rfl) (dv_cons (evr_var rfl) dv_nil))) ⟨.inr ⟨_, _, rfl⟩, rfl⟩) (fun h => by cases h)
    · rintro ρ2 β2 ⟨⟨o1, o2, o3, rfl⟩, rfl, hm⟩
      exact go_ret (evr_c fun _ => .non) ⟨.inl ⟨rfl, own, fun k hk => hm k (by rw [rgD_length, List.length_map]; omega)⟩, rfl⟩
end K20
set_option maxHeartbeats 4000000
namespace K20
open PySem PySem.Spec PyProof.Rows L2
def isFill : Deed → Bool | .fill => true | _ => false
def isGo : Deed → Bool | .go _ => true | _ => false
def isLift : Deed → Bool | .lift => true | _ => false
def isSet : Deed → Bool | .set => true | _ => false
def isHand : Deed → Bool | .hand _ => true | _ => false
theorem dq_fill (d : Deed) : decide (deedName d = "fill") = isFill d := by
  cases d <;> first | decide +kernel | exact (show decide (("go" : Str) = _) = false by decide +kernel) | exact (show decide (("hand" : Str) = _) = false by decide +kernel)
theorem dq_go (d : Deed) : decide (deedName d = "go") = isGo d := by
  cases d <;> first | decide +kernel | exact (show decide (("go" : Str) = _) = true by decide +kernel) | exact (show decide (("hand" : Str) = _) = false by decide +kernel)
theorem dq_lift (d : Deed) : decide (deedName d = "lift") = isLift d := by
  cases d <;> first | decide +kernel | exact (show decide (("go" : Str) = _) = false by decide +kernel) | exact (show decide (("hand" : Str) = _) = false by decide +kernel)
theorem dq_set (d : Deed) : decide (deedName d = "set") = isSet d := by
  cases d <;> first | decide +kernel | exact (show decide (("go" : Str) = _) = false by decide +kernel) | exact (show decide (("hand" : Str) = _) = false by decide +kernel)
theorem dq_hand (d : Deed) : decide (deedName d = "hand") = isHand d := by
  cases d <;> first | decide +kernel | exact (show decide (("go" : Str) = _) = false by decide +kernel) | exact (show decide (("hand" : Str) = _) = true by decide +kernel)
def carB (y : Yard) (s : State) (c : Car) : Deed → Car
  | .fill => { c with charge := if c.charge + y.gain < y.top then c.charge + y.gain else y.top }
  | .go n => { c with cell := n, charge := c.charge - price y c.load }
  | .lift => { c with load := lkM (homesKV s) c.cell, charge := c.charge - y.laden }
  | .set => { c with load := none }
  | _ => c
inductive R_carrier_behind : List Res → Bx → Res → Bx → Prop
  | mk {y : Yard} {s : State} {k : Nat} {c : Car} {d : Deed} {β : Bx} (h : s.Ok y) (hk : s.cars[k]? = some c) (ho : OwnOk y s c d) :
    R_carrier_behind [.d (encYard y), .d (encState s), .d (.int k), .d (encDeed d)] β (.d (encCar (carB y s c d))) β
theorem sc_carrier_behind : FnScope ["yard", "state", "number", "deed", "cell", "charge", "load", "broken", "bare", "laden", "gain", "top"] ["yard", "state", "number", "deed"] (defScope s_carrier_behind) := ⟨rfl, rfl, rfl, by decide +kernel, rfl, by decide +kernel, by decide +kernel⟩
theorem fn_carrier_behind {g : Gb} (T : Txt g) : FnX g "carrier_behind" ["yard", "state", "number", "deed"] 4 R_carrier_behind := by
  have nd := sc_carrier_behind.nd
  have c_price_of := fn_price_of T
  have c_homes_by := fn_homes_by T
  refine T.fnX 49 rfl sc_carrier_behind (fun _ _ _ _ _ _ us hl => match us, hl with | [_, _, _, _], _ => rfl) (by intro rs β r β' h; cases h <;> rfl) ⟨_, (pssc_cons (psc_asg (pec_ix (pec_ix (pec_var 1) pec_int) (pec_var 2)) (pgc_tup (n := 4) (pgsc_cons (pgc_name 4 nd) (pgsc_cons (pgc_name 5 nd) (pgsc_cons (pgc_name 6 nd) (pgsc_cons (pgc_name 7 nd) pgsc_nil))))))
    (pssc_cons (psc_asg (pec_ix (pec_var 0) pec_int) (pgc_tup (n := 4) (pgsc_cons (pgc_name 8 nd) (pgsc_cons (pgc_name 9 nd) (pgsc_cons (pgc_name 10 nd) (pgsc_cons (pgc_name 11 nd) pgsc_nil))))))
    (pssc_cons (psc_if (ptc_eq (pec_ix (pec_var 3) pec_int) pec_str) (pssc_one (psc_asg (pec_min T.b_min (pec_var 11) (pec_add (pec_var 5) (pec_var 10))) (pgc_name 5 nd))) (pssc_one (psc_if (ptc_eq (pec_ix (pec_var 3) pec_int) pec_str) (pssc_one (psc_par (i := 4) (j := 5) nd (pac_cons (pec_ix (pec_var 3) pec_int) (pac_cons (pec_sub (pec_var 5) (pec_fn c_price_of (pac_cons (pec_var 0) (pac_cons (pec_var 6) pac_nil)))) pac_nil)))) (pssc_one (psc_if (ptc_eq (pec_ix (pec_var 3) pec_int) pec_str) (pssc_one (psc_par (i := 6) (j := 5) nd (pac_cons (pec_ixM (pec_fn c_homes_by (pac_cons (pec_var 1) pac_nil)) (pec_var 4)) (pac_cons (pec_sub (pec_var 5) (pec_var 9)) pac_nil)))) (pssc_one (psc_if (ptc_eq (pec_ix (pec_var 3) pec_int) pec_str) (pssc_one (psc_asg pec_non (pgc_name 6 nd))) pssc_nil)))))))
    (pssc_one (psc_ret (pec_tup (pac_cons (pec_var 4) (pac_cons (pec_var 5) (pac_cons (pec_var 6) (pac_cons (pec_var 7) pac_nil)))))))))), ?_⟩
  intro rs β r β' h B bx
  clear c_price_of
  clear c_homes_by
  rcases h with @⟨y, s, k, c, d, β, h, hk, ho⟩
  change GoR g.K B bx _ [some _, some _, some _, some _, none, none, none, none, none, none, none, none] _ _ _
  have h3 := h.c3; have h4 := h.sn
  refine go_seq1 (go_asgT (ev_carAt hk (evr_var rfl) (evr_c fun _ => .int _) (evr_var rfl)) (tg_tup (tgs_cons (tg_name _) (tgs_cons (tg_name _) (tgs_cons (tg_name _) (tgs_cons (tg_name _) tgs_nil))))) rfl ⟨rfl, rfl⟩) ?_
  refine go_seq1 (go_asgT (d := y.costs) (ev_ixT (evr_var rfl) (evr_c fun _ => .int _) rfl) (tg_tup (tgs_cons (tg_name _) (tgs_cons (tg_name _) (tgs_cons (tg_name _) (tgs_cons (tg_name _) tgs_nil))))) rfl ⟨rfl, rfl⟩) ?_
  cases d with
  | fill =>
    refine go_seq1 (go_if (c := true) (ev_tcast (evt_of (ev_deedIs (d := .fill) (evr_var rfl) (evr_c fun _ => .int _) (evr_c fun _ => .str _))) (dq_fill _)) (fun _ => go_asg (ev_min (evr_var rfl) (ev_add (evr_var rfl) (evr_var rfl))) ⟨rfl, rfl⟩) (fun h => by cases h)) ?_
    exact go_ret (ev_tup (dv_cons (evr_var rfl) (dv_cons (evr_var rfl) (dv_cons (evr_var rfl) (dv_cons (evr_var rfl) dv_nil))))) ⟨rfl, rfl⟩
  | go n =>
    refine go_seq1 (go_if (c := false) (ev_tcast (evt_of (ev_deedIs (d := .go n) (evr_var rfl) (evr_c fun _ => .int _) (evr_c fun _ => .str _))) (dq_fill _)) (fun h => by cases h) (fun _ => go_if (c := true) (ev_tcast (evt_of (ev_deedIs (d := .go n) (evr_var rfl) (evr_c fun _ => .int _) (evr_c fun _ => .str _))) (dq_go _)) (fun _ => go_par (ev_ixT (evr_var rfl) (evr_c fun _ => .int _) rfl) (ev_sub (evr_var rfl) (ev_callD (dv_cons (evr_var rfl) (dv_cons (evr_var rfl) dv_nil)) .mk)) ⟨rfl, rfl⟩) (fun h => by cases h))) ?_
    exact go_ret (ev_tup (dv_cons (evr_var rfl) (dv_cons (evr_var rfl) (dv_cons (evr_var rfl) (dv_cons (evr_var rfl) dv_nil))))) ⟨rfl, rfl⟩
  | lift =>
    obtain ⟨_, hop, _⟩ := ho
    obtain ⟨m, hm⟩ := Option.isSome_iff_exists.mp (lk_open.mpr hop)
    refine go_seq1 (go_if (c := false) (ev_tcast (evt_of (ev_deedIs (d := .lift) (evr_var rfl) (evr_c fun _ => .int _) (evr_c fun _ => .str _))) (dq_fill _)) (fun h => by cases h) (fun _ => go_if (c := false) (ev_tcast (evt_of (ev_deedIs (d := .lift) (evr_var rfl) (evr_c fun _ => .int _) (evr_c fun _ => .str _))) (dq_go _)) (fun h => by cases h) (fun _ => go_if (c := true) (ev_tcast (evt_of (ev_deedIs (d := .lift) (evr_var rfl) (evr_c fun _ => .int _) (evr_c fun _ => .str _))) (dq_lift _)) (fun _ => go_par (ev_ixM (ev_callD (dv_cons (evr_var rfl) dv_nil) (.mk (by omega) (by omega) h.hn)) (evr_var rfl) hm) (ev_sub (evr_var rfl) (evr_var rfl)) ⟨rfl, rfl⟩) (fun h => by cases h)))) ?_
    refine go_ret (ev_cast (ev_tup (dv_cons (evr_var rfl) (dv_cons (evr_var rfl) (dv_cons (evr_var rfl) (dv_cons (evr_var rfl) dv_nil))))) ?_) ⟨rfl, rfl⟩
    show _ = encCar { c with load := lkM (homesKV s) c.cell, charge := c.charge - y.laden }
    rw [hm]; rfl
  | set =>
    refine go_seq1 (go_if (c := false) (ev_tcast (evt_of (ev_deedIs (d := .set) (evr_var rfl) (evr_c fun _ => .int _) (evr_c fun _ => .str _))) (dq_fill _)) (fun h => by cases h) (fun _ => go_if (c := false) (ev_tcast (evt_of (ev_deedIs (d := .set) (evr_var rfl) (evr_c fun _ => .int _) (evr_c fun _ => .str _))) (dq_go _)) (fun h => by cases h) (fun _ => go_if (c := false) (ev_tcast (evt_of (ev_deedIs (d := .set) (evr_var rfl) (evr_c fun _ => .int _) (evr_c fun _ => .str _))) (dq_lift _)) (fun h => by cases h) (fun _ => go_if (c := true) (ev_tcast (evt_of (ev_deedIs (d := .set) (evr_var rfl) (evr_c fun _ => .int _) (evr_c fun _ => .str _))) (dq_set _)) (fun _ => go_asg (evr_c fun _ => .non) ⟨rfl, rfl⟩) (fun h => by cases h))))) ?_
    exact go_ret (ev_tup (dv_cons (evr_var rfl) (dv_cons (evr_var rfl) (dv_cons (evr_var rfl) (dv_cons (evr_var rfl) dv_nil))))) ⟨rfl, rfl⟩
  | bide =>
    refine go_seq1 (go_if (c := false) (ev_tcast (evt_of (ev_deedIs (d := .bide) (evr_var rfl) (evr_c fun _ => .int _) (evr_c fun _ => .str _))) (dq_fill _)) (fun h => by cases h) (fun _ => go_if (c := false) (ev_tcast (evt_of (ev_deedIs (d := .bide) (evr_var rfl) (evr_c fun _ => .int _) (evr_c fun _ => .str _))) (dq_go _)) (fun h => by cases h) (fun _ => go_if (c := false) (ev_tcast (evt_of (ev_deedIs (d := .bide) (evr_var rfl) (evr_c fun _ => .int _) (evr_c fun _ => .str _))) (dq_lift _)) (fun h => by cases h) (fun _ => go_if (c := false) (ev_tcast (evt_of (ev_deedIs (d := .bide) (evr_var rfl) (evr_c fun _ => .int _) (evr_c fun _ => .str _))) (dq_set _)) (fun h => by cases h) (fun _ => go_next ⟨rfl, rfl⟩))))) ?_
    exact go_ret (ev_tup (dv_cons (evr_var rfl) (dv_cons (evr_var rfl) (dv_cons (evr_var rfl) (dv_cons (evr_var rfl) dv_nil))))) ⟨rfl, rfl⟩
  | hand n =>
    refine go_seq1 (go_if (c := false) (ev_tcast (evt_of (ev_deedIs (d := .hand n) (evr_var rfl) (evr_c fun _ => .int _) (evr_c fun _ => .str _))) (dq_fill _)) (fun h => by cases h) (fun _ => go_if (c := false) (ev_tcast (evt_of (ev_deedIs (d := .hand n) (evr_var rfl) (evr_c fun _ => .int _) (evr_c fun _ => .str _))) (dq_go _)) (fun h => by cases h) (fun _ => go_if (c := false) (ev_tcast (evt_of (ev_deedIs (d := .hand n) (evr_var rfl) (evr_c fun _ => .int _) (evr_c fun _ => .str _))) (dq_lift _)) (fun h => by cases h) (fun _ => go_if (c := false) (ev_tcast (evt_of (ev_deedIs (d := .hand n) (evr_var rfl) (evr_c fun _ => .int _) (evr_c fun _ => .str _))) (dq_set _)) (fun h => by cases h) (fun _ => go_next ⟨rfl, rfl⟩))))) ?_
    exact go_ret (ev_tup (dv_cons (evr_var rfl) (dv_cons (evr_var rfl) (dv_cons (evr_var rfl) (dv_cons (evr_var rfl) dv_nil))))) ⟨rfl, rfl⟩
theorem cut_drop {α : Type} (xs : List α) (k : Nat) (h : k ≤ xs.length) : cutG xs (some (k : Int)) none = xs.drop k := by
  unfold cutG
  show (xs.drop (HT.sIx xs.length 0 (some (k : Int)))).take (xs.length - HT.sIx xs.length 0 (some (k : Int))) = _
  rw [HT.sIx_nat, Nat.min_eq_left h, List.take_of_length_le (by rw [List.length_drop]; omega)]
theorem set_cut {α : Type} (xs : List α) (i : Nat) (x : α) (h : i < xs.length) : (cutG xs none (some (i : Int)) ++ [x]) ++ cutG xs (some ((i : Int) + 1)) none = xs.set i x := by
  rw [cut_take, show ((i : Int) + 1) = ((i + 1 : Nat) : Int) by omega, cut_drop xs (i + 1) h, List.set_eq_take_append_cons_drop, if_pos h, List.append_assoc]
  rfl
def movedOf (o : Order) (v : Int) : Int := if v < o.many - o.given then v else o.many - o.given
inductive R_handed : List Res → Bx → Res → Bx → Prop
  | mk {sh : List Shelf} {os : List Order} {l k gn : Nat} {b : Shelf} {o : Order} {v : Int} {β : Bx} (hb : sh[l]? = some b) (ho : os[k]? = some o) (hg : o.good = gn) (hv : b.stock[gn]? = some v) (z1 : sh.length ≤ 100) (z2 : os.length ≤ 100) (z3 : b.stock.length ≤ 100) :
    R_handed [.d (.tuple (sh.map encShelf)), .d (.tuple (os.map encOrder)), .d (.int l), .d (.int k)] β
      (.d (.tuple [.tuple ((sh.set l { b with stock := b.stock.set gn (v - movedOf o v) }).map encShelf), .tuple ((os.set k { o with given := o.given + movedOf o v }).map encOrder)])) β
theorem set_map {α : Type} (f : α → D) (xs : List α) (i : Nat) (x : α) : (xs.map f).set i (f x) = (xs.set i x).map f := by rw [List.map_set]
theorem cut_len {α : Type} (xs : List α) (lo hi : Option Int) : (cutG xs lo hi).length ≤ xs.length := by
  unfold cutG
  rw [List.length_take, List.length_drop]; omega
theorem sc_handed : FnScope ["shelves", "orders", "load", "number", "good", "many", "given", "hour", "home", "stock", "moved"] ["shelves", "orders", "load", "number"] (defScope s_handed) := ⟨rfl, rfl, rfl, by decide +kernel, rfl, by decide +kernel, by decide +kernel⟩
theorem fn_handed {g : Gb} (T : Txt g) : FnX g "handed" ["shelves", "orders", "load", "number"] 1 R_handed := by
  have nd := sc_handed.nd
  refine T.fnX 50 rfl sc_handed (fun _ _ _ _ _ _ us hl => match us, hl with | [_, _, _, _], _ => rfl) (by intro rs β r β' h; cases h <;> rfl) ⟨_, (pssc_cons (psc_asg (pec_ix (pec_var 1) (pec_var 3)) (pgc_tup (n := 4) (pgsc_cons (pgc_name 4 nd) (pgsc_cons (pgc_name 5 nd) (pgsc_cons (pgc_name 6 nd) (pgsc_cons (pgc_name 7 nd) pgsc_nil))))))
    (pssc_cons (psc_asg (pec_ix (pec_var 0) (pec_var 2)) (pgc_tup (n := 2) (pgsc_cons (pgc_name 8 nd) (pgsc_cons (pgc_name 9 nd) pgsc_nil))))
    (pssc_cons (psc_asg (pec_min T.b_min (pec_sub (pec_var 5) (pec_var 6)) (pec_ix (pec_var 9) (pec_var 4))) (pgc_name 10 nd))
    (pssc_cons (psc_asg (pec_addT (pec_addT (pec_slT (pec_var 9) poc_none (poc_some (pec_var 4))) (pec_tup (pac_cons (pec_sub (pec_ix (pec_var 9) (pec_var 4)) (pec_var 10)) pac_nil))) (pec_slT (pec_var 9) (poc_some (pec_add (pec_var 4) pec_int)) poc_none)) (pgc_name 9 nd))
    (pssc_cons (psc_asg (pec_addT (pec_addT (pec_slT (pec_var 1) poc_none (poc_some (pec_var 3))) (pec_tup (pac_cons (pec_tup (pac_cons (pec_var 4) (pac_cons (pec_var 5) (pac_cons (pec_add (pec_var 6) (pec_var 10)) (pac_cons (pec_var 7) pac_nil))))) pac_nil))) (pec_slT (pec_var 1) (poc_some (pec_add (pec_var 3) pec_int)) poc_none)) (pgc_name 1 nd))
    (pssc_one (psc_ret (pec_tup (pac_cons (pec_addT (pec_addT (pec_slT (pec_var 0) poc_none (poc_some (pec_var 2))) (pec_tup (pac_cons (pec_tup (pac_cons (pec_var 8) (pac_cons (pec_var 9) pac_nil))) pac_nil))) (pec_slT (pec_var 0) (poc_some (pec_add (pec_var 2) pec_int)) poc_none)) (pac_cons (pec_var 1) pac_nil)))))))))), ?_⟩
  intro rs β r β' h B bx
  rcases h with @⟨sh, os, l, k, gn, b, o, v, β, hb, ho, hg, hv, z1, z2, z3⟩
  change GoR g.K B bx _ [some _, some _, some _, some _, none, none, none, none, none, none, none] _ _ _
  obtain ⟨good, many, given, hour⟩ := o
  obtain ⟨home, stock⟩ := b
  replace hg : good = (gn : Int) := hg
  subst hg
  have lb := (List.getElem?_eq_some_iff.mp hb).1
  have lo := (List.getElem?_eq_some_iff.mp ho).1
  have lv := (List.getElem?_eq_some_iff.mp hv).1
  replace lv : gn < stock.length := lv
  replace z3 : stock.length ≤ 100 := z3
  have c1 := cut_len (stock.map PyData.int) none (some (gn : Int))
  have c2 := cut_len (stock.map PyData.int) (some ((gn : Int) + 1)) none
  have c3 := cut_len (os.map encOrder) none (some (k : Int))
  have c4 := cut_len (os.map encOrder) (some ((k : Int) + 1)) none
  have c5 := cut_len (sh.map encShelf) none (some (l : Int))
  have c6 := cut_len (sh.map encShelf) (some ((l : Int) + 1)) none
  rw [List.length_map] at c1 c2 c3 c4 c5 c6
  have at_v : L2.atI (stock.map PyData.int) (gn : Int) = some (.int v) := atN (n := gn) rfl (by rw [List.getElem?_map, hv]; rfl)
  refine go_seq1 (go_asgT (d := encOrder ⟨gn, many, given, hour⟩) (ev_ixT (evr_var rfl) (evr_var rfl) (atN (n := k) rfl (by rw [List.getElem?_map, ho]; rfl))) (tg_tup (tgs_cons (tg_name _) (tgs_cons (tg_name _) (tgs_cons (tg_name _) (tgs_cons (tg_name _) tgs_nil))))) rfl ⟨rfl, rfl⟩) ?_
  refine go_seq1 (go_asgT (d := encShelf ⟨home, stock⟩) (ev_ixT (evr_var rfl) (evr_var rfl) (atN (n := l) rfl (by rw [List.getElem?_map, hb]; rfl))) (tg_tup (tgs_cons (tg_name _) (tgs_cons (tg_name _) tgs_nil))) rfl ⟨rfl, rfl⟩) ?_
  refine go_seq1 (go_asg (ev_min (ev_sub (evr_var rfl) (evr_var rfl)) (ev_ixT (ds := stock.map PyData.int) (evr_var rfl) (evr_var rfl) at_v)) ⟨rfl, rfl⟩) ?_
  refine go_seq1 (go_asg (r := .d (encInts (stock.set gn (v - movedOf ⟨gn, many, given, hour⟩ v)))) (ev_cast (ev_addT (ev_addT (ev_slT (ds := stock.map PyData.int) (evr_var rfl) evo_none (evo_some (evr_var rfl))) (ev_tup (dv_cons (ev_sub (ev_ixT (ds := stock.map PyData.int) (evr_var rfl) (evr_var rfl) at_v) (evr_var rfl)) dv_nil)) (by simp; omega)) (ev_slT (ds := stock.map PyData.int) (evr_var rfl) (evo_some (ev_add (evr_var rfl) (evr_c fun _ => .int _))) evo_none) (by simp; omega)) ?_) ⟨rfl, rfl⟩) ?_
  · rw [set_cut _ _ _ (by rw [List.length_map]; exact lv)]
    unfold encInts
    rw [List.map_set]; rfl
  refine go_seq1 (go_asg (r := .d (.tuple ((os.set k ⟨gn, many, given + movedOf ⟨gn, many, given, hour⟩ v, hour⟩).map encOrder))) (ev_cast (ev_addT (ev_addT (ev_slT (ds := os.map encOrder) (evr_var rfl) evo_none (evo_some (evr_var rfl))) (ev_tup (dv_cons (ev_tup (dv_cons (evr_var rfl) (dv_cons (evr_var rfl) (dv_cons (ev_add (evr_var rfl) (evr_var rfl)) (dv_cons (evr_var rfl) dv_nil))))) dv_nil)) (by simp; omega)) (ev_slT (ds := os.map encOrder) (evr_var rfl) (evo_some (ev_add (evr_var rfl) (evr_c fun _ => .int _))) evo_none) (by simp; omega)) ?_) ⟨rfl, rfl⟩) ?_
  · rw [set_cut _ _ _ (by rw [List.length_map]; exact lo), List.map_set]; rfl
  refine go_ret (ev_tup (dv_cons (ev_cast (z' := .tuple ((sh.set l ⟨home, stock.set gn (v - movedOf ⟨gn, many, given, hour⟩ v)⟩).map encShelf)) (ev_addT (ev_addT (ev_slT (ds := sh.map encShelf) (evr_var rfl) evo_none (evo_some (evr_var rfl))) (ev_tup (dv_cons (ev_tup (dv_cons (evr_var rfl) (dv_cons (evr_var rfl) dv_nil))) dv_nil)) (by simp; omega)) (ev_slT (ds := sh.map encShelf) (evr_var rfl) (evo_some (ev_add (evr_var rfl) (evr_c fun _ => .int _))) evo_none) (by simp; omega)) ?_) (dv_cons (evr_var rfl) dv_nil))) ⟨rfl, rfl⟩
  rw [set_cut _ _ _ (by rw [List.length_map]; exact lb), List.map_set]; rfl
end K20
set_option maxHeartbeats 4000000
namespace K20
open PySem PySem.Spec PyProof.Rows L2
def handF (sh : List Shelf) (os : List Order) (l k : Nat) : List Shelf × List Order :=
  match sh[l]?, os[k]? with
  | some b, some o => (match b.stock[o.good.toNat]? with
    | some v => (sh.set l { b with stock := b.stock.set o.good.toNat (v - movedOf o v) }, os.set k { o with given := o.given + movedOf o v })
    | none => (sh, os))
  | _, _ => (sh, os)
def hstep (acc : List Shelf × List Order) (p : Car × Deed) : List Shelf × List Order := match p.2 with
  | .hand n => handF acc.1 acc.2 (p.1.load.getD 0).toNat n.toNat
  | _ => acc
structure HI (s : State) (acc : List Shelf × List Order) : Prop where
  homes : acc.1.map (·.home) = s.shelves.map (·.home)
  sh : ∀ b ∈ acc.1, b.stock.length = goodsL s.shelves ∧ ∀ v ∈ b.stock, 0 ≤ v ∧ v ≤ 99
  ol : acc.2.length = s.orders.length
  os : ∀ o ∈ acc.2, OrderOk (goodsL s.shelves) o
  tot : ∀ g, g < goodsL s.shelves → thereOf acc.1 g + givenOf acc.2 g = thereOf s.shelves g + givenOf s.orders g
theorem HI.len {s : State} {acc : List Shelf × List Order} (h : HI s acc) : acc.1.length = s.shelves.length := by
  have := congrArg List.length h.homes
  rw [List.length_map, List.length_map] at this
  exact this
theorem State.Ok.hi {y : Yard} {s : State} (h : s.Ok y) : HI s (s.shelves, s.orders) := ⟨rfl, fun b hb => ⟨(h.sh b hb).g, (h.sh b hb).n⟩, rfl, h.os, fun _ _ => rfl⟩
theorem sum_set {α : Type} (f : α → Int) : ∀ (xs : List α) (i : Nat) (x a : α), xs[i]? = some x → ((xs.set i a).map f).sum = (xs.map f).sum - f x + f a
  | [], i, x, a, h => by simp at h
  | z :: xs, 0, x, a, h => by
    simp at h
    subst h
    simp only [List.set_cons_zero, List.map_cons, List.sum_cons]
    omega
  | z :: xs, i + 1, x, a, h => by
    have := sum_set f xs i x a (by simpa using h)
    simp only [List.set_cons_succ, List.map_cons, List.sum_cons]
    omega
theorem given_sum (os : List Order) (g : Nat) : givenOf os g = (os.map fun o => if o.good = (g : Int) then o.given else 0).sum := by
  unfold givenOf
  induction os with
  | nil => rfl
  | cons o os ih =>
    rw [List.filter_cons, List.map_cons, List.sum_cons, ← ih]
    by_cases h : o.good = (g : Int)
    · rw [if_pos (by simpa using h), if_pos h, List.map_cons, List.sum_cons]
    · rw [if_neg (by simpa using h), if_neg h, Int.zero_add]
theorem getD_set {xs : List Int} {i g : Nat} {w : Int} (h : i < xs.length) : (xs.set i w).getD g 0 = if g = i then w else xs.getD g 0 := by
  rw [List.getD_eq_getElem?_getD, List.getD_eq_getElem?_getD]
  by_cases e : g = i
  · subst e
    rw [if_pos rfl, List.getElem?_set_self h]; rfl
  · rw [if_neg e, List.getElem?_set_ne (Ne.symm e)]
theorem moved_bd {g : Nat} {o : Order} {v : Int} (h : OrderOk g o) (hv : 0 ≤ v) : 0 ≤ movedOf o v ∧ movedOf o v ≤ v ∧ movedOf o v ≤ o.many - o.given := by
  unfold movedOf
  have := h.v1
  split <;> omega
theorem mem_set {α : Type} {xs : List α} {i : Nat} {a x : α} (h : x ∈ xs.set i a) : x = a ∨ x ∈ xs := by
  rcases List.mem_or_eq_of_mem_set h with e | e
  · exact .inr e
  · exact .inl e
theorem hi_hand {s : State} {acc : List Shelf × List Order} (H : HI s acc) {l k : Nat} (hl : l < s.shelves.length) (hk : k < s.orders.length) :
    ∃ b o v, acc.1[l]? = some b ∧ acc.2[k]? = some o ∧ o.good = (o.good.toNat : Int) ∧ b.stock[o.good.toNat]? = some v ∧ b.stock.length = goodsL s.shelves ∧
      handF acc.1 acc.2 l k = (acc.1.set l { b with stock := b.stock.set o.good.toNat (v - movedOf o v) }, acc.2.set k { o with given := o.given + movedOf o v }) ∧ HI s (handF acc.1 acc.2 l k) := by
  have l1 : l < acc.1.length := by rw [H.len]; exact hl
  have k1 : k < acc.2.length := by rw [H.ol]; exact hk
  obtain ⟨b, hb⟩ : ∃ b, acc.1[l]? = some b := ⟨_, List.getElem?_eq_getElem l1⟩
  obtain ⟨o, ho⟩ : ∃ o, acc.2[k]? = some o := ⟨_, List.getElem?_eq_getElem k1⟩
  have ob := H.os o (List.mem_of_getElem? ho)
  obtain ⟨bl, bv⟩ := H.sh b (List.mem_of_getElem? hb)
  have g0 := ob.g0
  have g1 := ob.g1
  have gl : o.good.toNat < b.stock.length := by omega
  obtain ⟨v, hv⟩ : ∃ v, b.stock[o.good.toNat]? = some v := ⟨_, List.getElem?_eq_getElem gl⟩
  have vb := bv v (List.mem_of_getElem? hv)
  obtain ⟨m0, m1, m2⟩ := moved_bd ob vb.1
  have e : handF acc.1 acc.2 l k = (acc.1.set l { b with stock := b.stock.set o.good.toNat (v - movedOf o v) }, acc.2.set k { o with given := o.given + movedOf o v }) := by
    unfold handF
    rw [hb, ho]
    show (match b.stock[o.good.toNat]? with | some v => _ | none => _) = _
    rw [hv]
  refine ⟨b, o, v, hb, ho, by omega, hv, bl, e, ?_⟩
  rw [e]
  refine ⟨?_, fun b' hb' => ?_, by simpa using H.ol, fun o' ho' => ?_, fun g hg => ?_⟩
  · rw [← H.homes]
    show (acc.1.set l _).map (·.home) = _
    rw [List.map_set]
    apply List.ext_getElem?; intro j
    by_cases hj : l = j
    · subst hj
      rw [List.getElem?_set_self (by rw [List.length_map]; exact l1), List.getElem?_map, hb]; rfl
    · rw [List.getElem?_set_ne hj]
  · rcases mem_set hb' with rfl | h
    · refine ⟨by simpa using bl, fun w hw => ?_⟩
      rcases mem_set hw with rfl | h
      · omega
      · exact bv w h
    · exact H.sh b' h
  · rcases mem_set ho' with rfl | h
    · exact ⟨ob.g0, ob.g1, ob.m0, ob.m1, by have := ob.v0; show 0 ≤ o.given + _; omega, by show o.given + _ ≤ o.many; omega, ob.h⟩
    · exact H.os o' h
  · have t := H.tot g hg
    have a1 := sum_set (fun b : Shelf => b.stock.getD g 0) acc.1 l b { b with stock := b.stock.set o.good.toNat (v - movedOf o v) } hb
    have a2 := sum_set (fun o : Order => if o.good = (g : Int) then o.given else 0) acc.2 k o { o with given := o.given + movedOf o v } ho
    rw [given_sum] at t
    show thereOf (acc.1.set l _) g + givenOf (acc.2.set k _) g = _
    rw [given_sum, ← t]
    unfold thereOf at t ⊢
    rw [a1, a2]
    show _ - b.stock.getD g 0 + (b.stock.set o.good.toNat (v - movedOf o v)).getD g 0 + (_ - (if o.good = (g : Int) then o.given else 0) + (if o.good = (g : Int) then o.given + movedOf o v else 0)) = _
    rw [getD_set gl]
    by_cases hg2 : g = o.good.toNat
    · have hg3 : o.good = (g : Int) := by omega
      rw [if_pos hg2, if_pos hg3, if_pos hg3]
      have : b.stock.getD g 0 = v := by
        rw [hg2, List.getD_eq_getElem?_getD, hv]; rfl
      rw [this]
      omega
    · have hg3 : ¬ o.good = (g : Int) := by omega
      rw [if_neg hg2, if_neg hg3, if_neg hg3]
      omega
/-- what the deeds of the first carriers hand on -/
def handN (s : State) (ds : List Deed) (i : Nat) : List Shelf × List Order := ((s.cars.zip ds).take i).foldl hstep (s.shelves, s.orders)
theorem handN_succ {s : State} {ds : List Deed} {i : Nat} {c : Car} {d : Deed} (hc : s.cars[i]? = some c) (hd : ds[i]? = some d) : handN s ds (i + 1) = hstep (handN s ds i) (c, d) := by
  unfold handN
  have : (s.cars.zip ds)[i]? = some (c, d) := List.getElem?_zip_eq_some.mpr ⟨hc, hd⟩
  rw [List.take_add_one, this, List.foldl_append]; rfl
theorem handN_hi {y : Yard} {s : State} {ds : List Deed} (h : s.Ok y) (hf : Free y s ds) (hn : ∀ d ∈ ds, d.num) : ∀ i : Nat, HI s (handN s ds i)
  | 0 => h.hi
  | i + 1 => by
    have ih := handN_hi h hf hn i
    cases hz : (s.cars.zip ds)[i]? with
    | none =>
      have e : handN s ds (i + 1) = handN s ds i := by
        unfold handN
        rw [List.take_add_one, hz]; simp
      rw [e]; exact ih
    | some p =>
      obtain ⟨c, d⟩ := p
      obtain ⟨h1, h2⟩ := List.getElem?_zip_eq_some.mp hz
      rw [handN_succ h1 h2]
      cases d with
      | hand n =>
        obtain ⟨⟨l, hl⟩, _, hk⟩ := (hf.own i c _ h1 h2).1
        have lo := (h.cars c (List.mem_of_getElem? h1)).l l hl
        obtain ⟨_, _, _, _, _, _, _, _, _, H⟩ := hi_hand ih (l := (c.load.getD 0).toNat) (k := n.toNat) (by rw [hl]; show l.toNat < _; omega) hk
        exact H
      | _ => exact ih
def behind (y : Yard) (s : State) (ds : List Deed) : State :=
  { beat := s.beat + 1, cars := (s.cars.zip ds).map fun p => carB y s p.1 p.2, shelves := (handN s ds s.cars.length).1, orders := (handN s ds s.cars.length).2 }
theorem goods_hi {s : State} {acc : List Shelf × List Order} (H : HI s acc) : goodsL acc.1 = goodsL s.shelves := by
  have hl := H.len
  cases h1 : acc.1 with
  | nil =>
    rw [h1] at hl
    cases h2 : s.shelves with
    | nil => rfl
    | cons _ _ => rw [h2] at hl; cases hl
  | cons b l =>
    have := (H.sh b (by rw [h1]; simp)).1
    exact this
section
variable {y : Yard} {s : State} {ds : List Deed}
theorem car_at (hl : ds.length = s.cars.length) {i : Nat} {c' : Car} (h : (behind y s ds).cars[i]? = some c') : ∃ c d, s.cars[i]? = some c ∧ ds[i]? = some d ∧ c' = carB y s c d := by
  unfold behind at h
  rw [List.getElem?_map] at h
  cases hz : (s.cars.zip ds)[i]? with
  | none => rw [hz] at h; cases h
  | some p =>
    rw [hz] at h
    cases h
    obtain ⟨h1, h2⟩ := List.getElem?_zip_eq_some.mp hz
    exact ⟨p.1, p.2, h1, h2, rfl⟩
theorem at_car {i : Nat} {c : Car} {d : Deed} (hc : s.cars[i]? = some c) (hd : ds[i]? = some d) : (behind y s ds).cars[i]? = some (carB y s c d) := by
  have q : (s.cars.zip ds)[i]? = some (c, d) := List.getElem?_zip_eq_some.mpr ⟨hc, hd⟩
  unfold behind
  rw [List.getElem?_map, q]; rfl
theorem carB_cell (c : Car) (d : Deed) : (carB y s c d).cell = cellB c d := by cases d <;> rfl
theorem carB_broken (c : Car) (d : Deed) : (carB y s c d).broken = c.broken := by cases d <;> rfl
theorem later_eq : (behind y s ds).cars.map (·.cell) = later s ds := by
  unfold behind later
  rw [List.map_map]
  exact List.map_congr_left fun p _ => carB_cell _ _
theorem later_nd (hl : ds.length = s.cars.length) (hf : Free y s ds) : (later s ds).Nodup := by
  have ll := later_len hl
  rw [List.nodup_iff_pairwise_ne, List.pairwise_iff_getElem]
  intro i j hi hj hij e
  have := hf.met j (by omega) ((later s ds)[j]) (List.getElem?_eq_getElem hj)
  refine this (List.mem_iff_getElem.mpr ⟨i, by rw [List.length_take]; omega, ?_⟩)
  rw [List.getElem_take]
  exact e
theorem mem_loads {cs : List Car} {a : Int} : a ∈ loadsL cs ↔ ∃ i : Nat, ∃ c, cs[i]? = some c ∧ c.load = some a := by
  unfold loadsL
  rw [List.mem_filterMap]
  constructor
  · rintro ⟨c, hc, e⟩
    obtain ⟨i, hi⟩ := List.mem_iff_getElem?.mp hc
    exact ⟨i, c, hi, e⟩
  · rintro ⟨i, c, hi, e⟩
    exact ⟨c, List.mem_of_getElem? hi, e⟩
theorem loads_nd {cs : List Car} : (loadsL cs).Nodup ↔ ∀ (i j : Nat) c c' a, cs[i]? = some c → cs[j]? = some c' → c.load = some a → c'.load = some a → i = j := by
  unfold loadsL
  rw [List.nodup_iff_pairwise_ne, List.pairwise_filterMap, List.pairwise_iff_getElem]
  constructor
  · intro h i j c c' a hi hj ha hb
    obtain ⟨li, ei⟩ := List.getElem?_eq_some_iff.1 hi
    obtain ⟨lj, ej⟩ := List.getElem?_eq_some_iff.1 hj
    rcases Nat.lt_trichotomy i j with q | q | q
    · exact absurd rfl (h i j li lj q a (by rw [ei]; exact ha) a (by rw [ej]; exact hb))
    · exact q
    · exact absurd rfl (h j i lj li q a (by rw [ej]; exact hb) a (by rw [ei]; exact ha))
  · intro h i j hi hj hij a ha b hb e
    subst e
    have := h i j _ _ a (List.getElem?_eq_getElem hi) (List.getElem?_eq_getElem hj) ha hb
    omega
theorem cells_inj {cs : List Car} (h : (cs.map (·.cell)).Nodup) {i j : Nat} {c c' : Car} (hi : cs[i]? = some c) (hj : cs[j]? = some c') (e : c.cell = c'.cell) : i = j := by
  have h1 : (cs.map (·.cell))[i]? = some c.cell := by rw [List.getElem?_map, hi]; rfl
  have h2 : (cs.map (·.cell))[j]? = some c.cell := by rw [List.getElem?_map, hj, e]; rfl
  exact (List.getElem?_inj (List.getElem?_eq_some_iff.mp h1).1 h).mp (h1.trans h2.symm)
theorem homes_inj {l : List Shelf} (h : (l.map (·.home)).Nodup) {i j : Nat} {b b' : Shelf} (hi : l[i]? = some b) (hj : l[j]? = some b') (e : b.home = b'.home) : i = j := by
  have h1 : (l.map (·.home))[i]? = some b.home := by rw [List.getElem?_map, hi]; rfl
  have h2 : (l.map (·.home))[j]? = some b.home := by rw [List.getElem?_map, hj, e]; rfl
  exact (List.getElem?_inj (List.getElem?_eq_some_iff.mp h1).1 h).mp (h1.trans h2.symm)
/-- what is carried behind the row: kept, or lifted -/
theorem carB_load {c : Car} {d : Deed} {a : Int} (ho : OwnOk y s c d) (h : (carB y s c d).load = some a) : (c.load = some a ∧ d ≠ .set ∧ d ≠ .lift) ∨ (d = .lift ∧ c.load = none ∧ ∃ n b, a = (n : Nat) ∧ s.shelves[n]? = some b ∧ (n : Int) ∉ loadsL s.cars ∧ b.home = c.cell) := by
  cases d with
  | lift => exact .inr ⟨rfl, ho.1, lk_some h⟩
  | set => cases h
  | _ => exact .inl ⟨h, by simp, by simp⟩
theorem load_keeps {c : Car} {d : Deed} {a : Int} (ho : OwnOk y s c d) (h : c.load = some a) : (carB y s c d).load = some a ∨ d = .set := by
  cases d with
  | lift => rw [ho.1] at h; cases h
  | set => exact .inr rfl
  | _ => exact .inl h
theorem behind_ok (hy : y.Ok) (h : s.Ok y) (hl : ds.length = s.cars.length) (hn : ∀ d ∈ ds, d.num) (hf : Free y s ds) : (behind y s ds).Ok y := by
  have H := handN_hi h hf hn s.cars.length
  have gl : goodsL (behind y s ds).shelves = goodsL s.shelves := goods_hi H
  have slen : (behind y s ds).shelves.length = s.shelves.length := H.len
  have clen : (behind y s ds).cars.length = s.cars.length := by
    unfold behind
    rw [List.length_map, List.length_zip]; omega
  have hcn : ((behind y s ds).cars.map (·.cell)).Nodup := by rw [later_eq]; exact later_nd hl hf
  have sh_at : ∀ {n : Nat} {b : Shelf}, (behind y s ds).shelves[n]? = some b → ∃ b', s.shelves[n]? = some b' ∧ b'.home = b.home := fun {n b} hb => by
    have e : ((behind y s ds).shelves.map (·.home))[n]? = some b.home := by rw [List.getElem?_map, hb]; rfl
    rw [show (behind y s ds).shelves.map (·.home) = s.shelves.map (·.home) from H.homes, List.getElem?_map] at e
    cases hs : s.shelves[n]? with
    | none => rw [hs] at e; cases e
    | some b' => rw [hs] at e; exact ⟨b', rfl, Option.some.inj e⟩
  have hln : (loadsL (behind y s ds).cars).Nodup := loads_nd.mpr fun i j c1 c2 a hi hj h1 h2 => by
    obtain ⟨c, d, ec, ed, rfl⟩ := car_at hl hi
    obtain ⟨c', d', ec', ed', rfl⟩ := car_at hl hj
    have o1 := (hf.own i c d ec ed).1
    have o2 := (hf.own j c' d' ec' ed').1
    rcases carB_load o1 h1 with ⟨k1, _⟩ | ⟨_, _, n, b, rfl, hb, hnl, hh⟩
    · rcases carB_load o2 h2 with ⟨k2, _⟩ | ⟨_, _, n, b, rfl, hb, hnl, hh⟩
      · exact loads_nd.mp h.ln i j c c' a ec ec' k1 k2
      · exact absurd (mem_loads.mpr ⟨i, c, ec, k1⟩) hnl
    · rcases carB_load o2 h2 with ⟨k2, _⟩ | ⟨_, _, n2, b2, e2, hb2, hnl2, hh2⟩
      · exact absurd (mem_loads.mpr ⟨j, c', ec', k2⟩) hnl
      · have en : n = n2 := by omega
        subst en
        rw [hb] at hb2
        cases hb2
        exact cells_inj h.cn ec ec' (by rw [← hh, hh2])
  refine ⟨by have := h.b; show 0 ≤ s.beat + 1; omega, by rw [clen]; exact h.c1, by rw [clen]; exact h.c3, fun c' hc' => ?_, hcn, hln, fun c' hc' => ?_, by rw [slen]; exact h.sn, fun b hb => ?_, by rw [gl]; exact h.g1, by rw [gl]; exact h.g3, ?_, ?_, ?_⟩
  · obtain ⟨i, hi⟩ := List.mem_iff_getElem?.mp hc'
    obtain ⟨c, d, ec, ed, rfl⟩ := car_at hl hi
    have ck := h.cars c (List.mem_of_getElem? ec)
    have own := (hf.own i c d ec ed).1
    have := hy.c1; have := hy.c3; have := hy.c5; have := hy.c7; have := ck.c0; have := ck.c1
    have ld : ∀ l, (carB y s c d).load = some l → 0 ≤ l ∧ l < (behind y s ds).shelves.length := fun l e => by
      rw [slen]
      rcases carB_load own e with ⟨k1, _⟩ | ⟨_, _, n, b, rfl, hb, _⟩
      · exact ck.l l k1
      · have := (List.getElem?_eq_some_iff.mp hb).1
        omega
    cases d with
    | fill => exact ⟨ck.cell, by show 0 ≤ (if c.charge + y.gain < y.top then c.charge + y.gain else y.top); split <;> omega, by show (if c.charge + y.gain < y.top then c.charge + y.gain else y.top) ≤ y.top; split <;> omega, ld⟩
    | go n =>
      obtain ⟨b1, _, b3⟩ := own
      refine ⟨mem_beside hy ck.cell b1, by show 0 ≤ c.charge - price y c.load; omega, ?_, ld⟩
      show c.charge - price y c.load ≤ y.top
      have : 0 ≤ price y c.load := by
        unfold price
        split <;> omega
      omega
    | lift =>
      obtain ⟨_, _, b3⟩ := own
      exact ⟨ck.cell, by show 0 ≤ c.charge - y.laden; omega, by show c.charge - y.laden ≤ _; omega, ld⟩
    | set | bide | hand n => exact ⟨ck.cell, ck.c0, ck.c1, ld⟩
  · obtain ⟨i, hi⟩ := List.mem_iff_getElem?.mp hc'
    obtain ⟨c, d, ec, ed, rfl⟩ := car_at hl hi
    have own := (hf.own i c d ec ed).1
    cases hld : (carB y s c d).load with
    | none => exact .inl rfl
    | some a =>
      refine .inr fun ho => ?_
      obtain ⟨n, b, hb, hnl, hh⟩ := mem_openH.mp ho
      obtain ⟨b0, hb0, e0⟩ := sh_at hb
      rw [carB_cell] at hh
      -- shelf n stands at the cell; was it carried before?
      have set_down : (n : Int) ∈ loadsL s.cars → False := fun hm => by
        obtain ⟨j, cj, ej, lj⟩ := mem_loads.mp hm
        have hj : j < ds.length := by have := (List.getElem?_eq_some_iff.mp ej).1; omega
        have own2 := (hf.own j cj ds[j] ej (List.getElem?_eq_getElem hj)).1
        rcases load_keeps own2 lj with q | q
        · exact hnl (mem_loads.mpr ⟨j, _, at_car ej (List.getElem?_eq_getElem hj), q⟩)
        · rw [q] at own2
          obtain ⟨l, b2, e1, e2, e3⟩ := own2
          rw [lj] at e1
          cases e1
          rw [hb0] at e2
          cases e2
          have hat := at_car (y := y) ej (List.getElem?_eq_getElem hj)
          have same : (carB y s cj ds[j]).cell = (carB y s c d).cell := by
            rw [carB_cell, carB_cell, ← hh, ← e0, q]
            exact e3.symm
          have ij := cells_inj hcn hat hi same
          subst ij
          rw [ec] at ej
          cases ej
          rw [List.getElem?_eq_getElem hj] at ed
          have : d = .set := by rw [← Option.some.inj ed]; exact q
          subst this
          cases hld
      by_cases hm : (n : Int) ∈ loadsL s.cars
      · exact set_down hm
      · have was : b0.home ∈ openH s.shelves (loadsL s.cars) := mem_openH.mpr ⟨n, b0, hb0, hm, rfl⟩
        rw [e0, hh] at was
        rcases carB_load own hld with ⟨k1, n1, n2⟩ | ⟨rfl, _, n2, b2, e2, hb2, hnl2, hh2⟩
        · cases d with
          | go m =>
            rcases own.2.1 with q | q
            · rw [k1] at q; cases q
            · exact q was
          | lift => exact n2 rfl
          | set => exact n1 rfl
          | bide | fill | hand m =>
            rcases h.hm c (List.mem_of_getElem? ec) with q | q
            · rw [k1] at q; cases q
            · exact q was
        · have hc2 : b0.home = b2.home := by rw [e0, hh, hh2]; rfl
          have := homes_inj h.hn hb0 hb2 hc2
          subst this
          exact hnl (mem_loads.mpr ⟨i, _, hi, by rw [hld, e2]⟩)
  · have bs := H.sh b hb
    obtain ⟨n, hn2⟩ := List.mem_iff_getElem?.mp hb
    obtain ⟨b', hb', e⟩ := sh_at hn2
    have old := h.sh b' (List.mem_of_getElem? hb')
    exact ⟨by rw [← e]; exact old.cell, by rw [← e]; exact old.s, by rw [gl]; exact bs.1, bs.2⟩
  · rw [show (behind y s ds).shelves.map (·.home) = s.shelves.map (·.home) from H.homes]; exact h.hn
  · rw [show (behind y s ds).orders.length = s.orders.length from H.ol]; exact h.on
  · intro o ho
    rw [gl]
    exact H.os o ho
theorem behind_total (h : s.Ok y) (hn : ∀ d ∈ ds, d.num) (hf : Free y s ds) : (behind y s ds).total = s.total := by
  have H := handN_hi h hf hn s.cars.length
  have gl : goodsL (behind y s ds).shelves = goodsL s.shelves := goods_hi H
  unfold State.total
  rw [gl]
  exact List.map_congr_left fun g hg => H.tot g (List.mem_range.mp hg)
end
end K20
set_option maxHeartbeats 4000000
namespace K20
open PySem PySem.Spec PyProof.Rows L2
inductive R_behind_by : List Res → Bx → Res → Bx → Prop
  | mk {y : Yard} {s : State} {ds : List Deed} {β : Bx} (h : s.Ok y) (hl : ds.length = s.cars.length) (hn : ∀ d ∈ ds, d.num) (hf : Free y s ds) :
    R_behind_by [.d (encYard y), .d (encState s), .d (encDeeds ds)] β (.d (encState (behind y s ds))) β
def carD (y : Yard) (s : State) (p : Nat × Deed) : D := match s.cars[p.1]? with
  | some c => encCar (carB y s c p.2)
  | none => .none
theorem carD_all {y : Yard} {s : State} {ds : List Deed} (hl : ds.length = s.cars.length) : (zipN ds).map (carD y s) = (behind y s ds).cars.map encCar := by
  unfold behind
  rw [List.map_map]
  refine List.ext_getElem? fun i => ?_
  rw [List.getElem?_map]; rw [List.getElem?_map]
  by_cases hi : i < ds.length
  · have q1 : (zipN ds)[i]? = some (i, ds[i]) := List.getElem?_zip_eq_some.mpr ⟨List.getElem?_range hi, List.getElem?_eq_getElem hi⟩
    have q2 : (s.cars.zip ds)[i]? = some (s.cars[i], ds[i]) := List.getElem?_zip_eq_some.mpr ⟨List.getElem?_eq_getElem (by omega), List.getElem?_eq_getElem hi⟩
    rw [q1, q2]
    show some (carD y s (i, ds[i])) = _
    unfold carD
    rw [List.getElem?_eq_getElem (show i < s.cars.length by omega)]; rfl
  · rw [List.getElem?_eq_none (by rw [zipN_len]; omega), List.getElem?_eq_none (by rw [List.length_zip]; omega)]; rfl
theorem sc_behind_by : FnScope ["yard", "state", "deeds", "beat", "carriers", "shelves", "orders", "carrier", "deed", "later", "number"] ["yard", "state", "deeds"] (defScope s_behind_by) := ⟨rfl, rfl, rfl, by decide +kernel, rfl, by decide +kernel, by decide +kernel⟩
theorem fn_behind_by {g : Gb} (T : Txt g) : FnX g "behind_by" ["yard", "state", "deeds"] 5 R_behind_by := by
  have nd := sc_behind_by.nd
  have c_carrier_behind := fn_carrier_behind T
  have c_handed := fn_handed T
  refine T.fnX 51 rfl sc_behind_by (fun _ _ _ _ _ _ us hl => match us, hl with | [_, _, _], _ => rfl) (by intro rs β r β' h; cases h <;> rfl) ⟨_, (pssc_cons (psc_asg (pec_var 1) (pgc_tup (n := 4) (pgsc_cons (pgc_name 3 nd) (pgsc_cons (pgc_name 4 nd) (pgsc_cons (pgc_name 5 nd) (pgsc_cons (pgc_name 6 nd) pgsc_nil))))))
    (pssc_cons (psc_for (pic_zip T.b_zip (pec_var 4) (pec_var 2)) (pgc_tup (n := 2) (pgsc_cons (pgc_name 7 nd) (pgsc_cons (pgc_name 8 nd) pgsc_nil))) (pssc_one (psc_if (ptc_eq (pec_ix (pec_var 8) pec_int) pec_str) (pssc_one (psc_asg (pec_fn c_handed (pac_cons (pec_var 5) (pac_cons (pec_var 6) (pac_cons (pec_ix (pec_var 7) pec_int) (pac_cons (pec_ix (pec_var 8) pec_int) pac_nil))))) (pgc_tup (n := 2) (pgsc_cons (pgc_name 5 nd) (pgsc_cons (pgc_name 6 nd) pgsc_nil))))) pssc_nil)))
    (pssc_cons (psc_setLc 9 [("number", 10), ("deed", 8)] nd (pic_enumT T.b_enumerate (pec_var 2)) (pgc_tup (n := 2) (pgsc_cons (pgc_name 10 nd) (pgsc_cons (pgc_name 8 nd) pgsc_nil))) ptsc_nil (pec_fn c_carrier_behind (pac_cons (pec_var 0) (pac_cons (pec_var 1) (pac_cons (pec_var 10) (pac_cons (pec_var 8) pac_nil))))))
    (pssc_one (psc_ret (pec_tup (pac_cons (pec_add (pec_var 3) pec_int) (pac_cons (pec_tuple T.b_tuple (pec_var 9)) (pac_cons (pec_var 5) (pac_cons (pec_var 6) pac_nil)))))))))), ?_⟩
  intro rs β r β' h B bx
  clear c_carrier_behind
  clear c_handed
  rcases h with @⟨y, s, ds, β, h, hl, hn, hf⟩
  change GoR g.K B bx _ [some _, some _, some _, none, none, none, none, none, none, none, none] _ _ _
  have h3 := h.c3; have h4 := h.sn; have o4 := h.on
  have g3 := h.g3
  refine go_seq1 (go_asgT (d := encState s) (evr_var rfl) (tg_tup (tgs_cons (tg_name _) (tgs_cons (tg_name _) (tgs_cons (tg_name _) (tgs_cons (tg_name _) tgs_nil))))) rfl ⟨rfl, rfl⟩) ?_
  refine go_seqW (go_for (fun i ρ' β' => (∃ o1 o2 a1 a2, ρ' = [some (.d (encYard y)), some (.d (encState s)), some (.d (encDeeds ds)), some (.d (.int s.beat)), some (.d (.tuple (s.cars.map encCar))), a1, a2, o1, o2, none, none] ∧ a1 = some (.d (.tuple ((handN s ds i).1.map encShelf))) ∧ a2 = some (.d (.tuple ((handN s ds i).2.map encOrder)))) ∧ β' = β) (wkr_cast (wk_zipT (evr_var rfl) (evr_var rfl)) (zip_enc encCar encDeed s.cars ds)) (tg_tup (tgs_cons (tg_name _) (tgs_cons (tg_name _) tgs_nil))) ⟨⟨_, _, _, _, rfl, rfl, rfl⟩, rfl⟩ (fun i d hdi ρi βi hI => ?_) ?_)
  · obtain ⟨⟨o1, o2, a1, a2, rfl, rfl, rfl⟩, rfl⟩ := hI
    rw [List.getElem?_map] at hdi
    cases hz : (s.cars.zip ds)[i]? with
    | none => rw [hz] at hdi; cases hdi
    | some p =>
      rw [hz] at hdi
      cases hdi
      obtain ⟨c, d⟩ := p
      obtain ⟨ec, ed⟩ := List.getElem?_zip_eq_some.mp hz
      replace ec : s.cars[i]? = some c := ec
      replace ed : ds[i]? = some d := ed
      have hs := handN_succ ec ed
      refine ⟨_, rfl, ?_⟩
      by_cases hh : isHand d = true
      · cases d with
        | hand n =>
          obtain ⟨⟨l, hld⟩, _, hk⟩ := (hf.own i c _ ec ed).1
          have lb := (h.cars c (List.mem_of_getElem? ec)).l l hld
          have nb := hn _ (List.mem_of_getElem? ed)
          obtain ⟨ln, rfl⟩ : ∃ ln : Nat, l = ln := ⟨l.toNat, by omega⟩
          obtain ⟨m, rfl⟩ : ∃ m : Nat, n = m := ⟨n.toNat, by have := nb.1; omega⟩
          have H0 := handN_hi h hf hn i
          obtain ⟨b, o, v, hb, ho, hg, hv, bl, e, _⟩ := hi_hand H0 (l := ln) (k := m) (by omega) (by simpa using hk)
          have e2 : handN s ds (i + 1) = handF (handN s ds i).1 (handN s ds i).2 ln m := by
            rw [hs]
            show handF _ _ ((c.load.getD 0).toNat) ((m : Int).toNat) = _
            rw [hld]; rfl
          rw [e] at e2
          have z1 := H0.len
          have z2 := H0.ol
          refine go_if (c := true) (ev_tcast (evt_of (ev_deedIs (d := .hand m) (evr_var rfl) (evr_c fun _ => .int _) (evr_c fun _ => .str _))) (dq_hand _)) (fun _ => go_asgT (ev_callD (dv_cons (evr_var rfl) (dv_cons (evr_var rfl) (dv_cons (ev_ixT (ds := [.int c.cell, .int c.charge, encO c.load, .bool c.broken]) (d := .int (ln : Int)) (evr_var rfl) (evr_c fun _ => .int _) (by rw [hld]; rfl)) (dv_cons (ev_ixT (evr_var rfl) (evr_c fun _ => .int _) rfl) dv_nil)))) (.mk hb ho hg hv (by omega) (by omega) (by omega))) (tg_tup (tgs_cons (tg_name _) (tgs_cons (tg_name _) tgs_nil))) rfl ⟨⟨_, _, _, _, rfl, ?_, ?_⟩, rfl⟩) (fun h => by cases h)
          · rw [e2]
          · rw [e2]
        | _ => cases hh
      · have hh' : isHand d = false := by simpa using hh
        have e2 : handN s ds (i + 1) = handN s ds i := by
          rw [hs]
          cases d <;> first | rfl | cases hh'
        refine go_if (c := false) (ev_tcast (evt_of (ev_deedIs (d := d) (evr_var rfl) (evr_c fun _ => .int _) (evr_c fun _ => .str _))) ((dq_hand _).trans hh')) (fun h => by cases h) (fun _ => go_next ⟨⟨_, _, _, _, rfl, ?_, ?_⟩, rfl⟩)
        · rw [e2]
        · rw [e2]
  · rintro ρ' β' ⟨⟨o1, o2, a1, a2, rfl, rfl, rfl⟩, rfl⟩
    refine go_seq1 (go_asg (ev_castR (z' := .l ((behind y s ds).cars.map encCar)) (ev_lc (xs := zipN ds) (enc := fun p => prD (.int p.1) (encDeed p.2)) (f := carD y s) (wk_enumZ (evr_var rfl)) (tg_tup (tgs_cons (tg_name _) (tgs_cons (tg_name _) tgs_nil))) (by decide) (by rw [zipN_len]; omega) fun p hp => ⟨_, rfl, ?_⟩) (congrArg Res.l (carD_all hl))) ⟨rfl, rfl⟩) ?_
    · have q := zipN_get hp
      have hi := (List.getElem?_eq_some_iff.mp q).1
      have hc : s.cars[p.1]? = some (s.cars[p.1]'(by omega)) := List.getElem?_eq_getElem (by omega)
      refine ev_cast (ev_callD (dv_cons (evr_var rfl) (dv_cons (evr_var rfl) (dv_cons (evr_var rfl) (dv_cons (evr_var rfl) dv_nil)))) (.mk h hc (hf.own _ _ _ hc q).1)) ?_
      unfold carD
      rw [hc]
    · have el : ((s.cars.zip ds).map fun p => prD (encCar p.1) (encDeed p.2)).length = s.cars.length := by rw [List.length_map, List.length_zip]; omega
      rw [el]
      exact go_ret (ev_tup (dv_cons (ev_add (evr_var rfl) (evr_c fun _ => .int _)) (dv_cons (ev_tupleL (evr_var rfl)) (dv_cons (evr_var rfl) (dv_cons (evr_var rfl) dv_nil))))) ⟨rfl, rfl⟩
structure RowsOk (n : Nat) (rows : List (List Deed)) : Prop where
  l : rows.length ≤ 24
  r : ∀ ds ∈ rows, ds.length = n ∧ ∀ d ∈ ds, d.num
inductive R_are_rows : List Res → Bx → Res → Bx → Prop
  | mk {s : State} {rows : List (List Deed)} {β : Bx} (h : RowsOk s.cars.length rows) (hc : s.cars.length ≤ 100) : R_are_rows [.d (encState s), .d (encRowsD rows)] β (.d (.bool true)) β
theorem sc_are_rows : FnScope ["state", "thing", "one"] ["state", "thing"] (defScope s_are_rows) := ⟨rfl, rfl, rfl, by decide +kernel, rfl, by decide +kernel, by decide +kernel⟩
theorem fn_are_rows {g : Gb} (T : Txt g) : FnX g "are_rows" ["state", "thing"] 5 R_are_rows := by
  have nd := sc_are_rows.nd
  have c_are_deeds := fn_are_deeds T
  refine T.fnX 52 rfl sc_are_rows (fun _ _ _ _ _ _ us hl => match us, hl with | [_, _], _ => rfl) (by intro rs β r β' h; cases h <;> rfl) ⟨_, (pssc_cons (psc_if (ptc_w (pwc_or (ptc_not (ptc_of (pec_isi (n := "tuple") T.b_isinstance T.b_tuple (by decide +kernel) (pec_var 1)))) (pwc_or1 (ptc_gt (pec_len T.b_len (pec_var 1)) (pec_gint T.MOST_ROWS))))) (pssc_one (psc_ret pec_bl)) pssc_nil)
    (pssc_one (psc_ret (pec_all T.b_all (pec_lc [("one", 2)] nd (pic_tup (pec_var 1)) (pgc_name 2 nd) ptsc_nil (pec_fn c_are_deeds (pac_cons (pec_len T.b_len (pec_ix (pec_var 0) pec_int)) (pac_cons (pec_var 2) pac_nil)))))))), ?_⟩
  intro rs β r β' h B bx
  clear c_are_deeds
  rcases h with @⟨s, rows, β, h, hc⟩
  change GoR g.K B bx _ [some _, some _, none] _ _ _
  have := h.l
  refine go_ifr (ev_tcast (c := false) (ev_tor (evt_not (evt_of (ev_isi (evr_var rfl)))) fun _ => (evt_of (ev_gt (ev_lenT (ds := rows.map encDeeds) (evr_var rfl)) (evr_c fun _ => .int _)))) ?_) (fun h => by cases h) (fun _ => ?_)
  · rw [List.length_map]; simp; omega
  · exact go_ret (ev_cast (ev_allM (q := fun _ => true) (ev_lc (xs := rows) (enc := encDeeds) (wk_tup (evr_var rfl)) (tg_name _) (by decide) (by omega) fun ds hd => ⟨_, rfl, (ev_callD (dv_cons (ev_cast (z' := .int s.cars.length) (ev_lenT (ds := s.cars.map encCar) (ev_ixT (evr_var rfl) (evr_c fun _ => .int _) rfl)) (by rw [List.length_map])) (dv_cons (evr_var rfl) dv_nil)) (.mk (h.r ds hd).1 (h.r ds hd).2 hc))⟩)) (by rw [all_true])) ⟨rfl, rfl⟩
inductive R_need_rows : List Res → Bx → Res → Bx → Prop
  | mk {s : State} {rows : List (List Deed)} {β : Bx} (h : RowsOk s.cars.length rows) (hc : s.cars.length ≤ 100) : R_need_rows [.d (encState s), .d (encRowsD rows)] β (.d .none) β
theorem sc_need_rows : FnScope ["state", "thing"] ["state", "thing"] (defScope s_need_rows) := ⟨rfl, rfl, rfl, by decide +kernel, rfl, by decide +kernel, by decide +kernel⟩
theorem fn_need_rows {g : Gb} (T : Txt g) : FnX g "need_rows" ["state", "thing"] 6 R_need_rows := by
  have nd := sc_need_rows.nd
  have c_are_rows := fn_are_rows T
  refine T.fnX 53 rfl sc_need_rows (fun _ _ _ _ _ _ us hl => match us, hl with | [_, _], _ => rfl) (by intro rs β r β' h; cases h <;> rfl) ⟨_, (pssc_one (psc_if (ptc_not (ptc_of (pec_fn c_are_rows (pac_cons (pec_var 0) (pac_cons (pec_var 1) pac_nil))))) (pssc_one psc_never) pssc_nil)), ?_⟩
  intro rs β r β' h B bx
  clear c_are_rows
  rcases h with @⟨s, rows, β, h, hc⟩
  change GoR g.K B bx _ [some _, some _] _ _ _
  refine go_if (evt_not (evt_of (ev_callD (dv_cons (evr_var rfl) (dv_cons (evr_var rfl) dv_nil)) (.mk h hc)))) (fun h1 => ?_) (fun h1 => ?_)
  · exact go_never (by cases h1)
  · exact go_next ⟨rfl, rfl⟩
/-- one step of a run -/
structure Step (y : Yard) (a b : State) : Prop where
  ok : a.Ok y
  ex : ∃ ds, b = behind y a ds ∧ ds.length = a.cars.length ∧ (∀ d ∈ ds, d.num) ∧ Free y a ds
structure RunOk (y : Yard) (s : State) (sts : List State) : Prop where
  hd : sts.head? = some s
  ok : ∀ t ∈ sts, t.Ok y
  st : ∀ (i : Nat) a b, sts[i]? = some a → sts[i + 1]? = some b → Step y a b
inductive T_run_by : List Res → Bx → Post → Prop
  | mk {y : Yard} {s : State} {rows : List (List Deed)} {β : Bx} (hy : y.Ok) (h : s.Ok y) (hr : RowsOk s.cars.length rows) :
    T_run_by [.d (encYard y), .d (encState s), .d (encRowsD rows)] β fun r β' => (∃ sts f, r = .d (.tuple [.tuple (sts.map encState), f]) ∧ RunOk y s sts ∧ sts.length ≤ 25) ∧ β' = β
theorem sc_run_by : FnScope ["yard", "state", "rows", "states", "deeds", "found"] ["yard", "state", "rows"] (defScope s_run_by) := ⟨rfl, rfl, rfl, by decide +kernel, rfl, by decide +kernel, by decide +kernel⟩
theorem fn_run_by {g : Gb} (T : Txt g) : FnP g "run_by" ["yard", "state", "rows"] 7 T_run_by := by
  have nd := sc_run_by.nd
  have c_fault_by := fn_fault_by T
  have c_behind_by := fn_behind_by T
  refine T.fnP 54 rfl sc_run_by (fun _ _ _ _ _ _ us hl => match us, hl with | [_, _, _], _ => rfl) (by intro rs β P h; cases h <;> rfl) ⟨_, (pssc_cons (psc_asg (pec_lst (pac_cons (pec_var 1) pac_nil)) (pgc_name 3 nd))
    (pssc_cons (psc_for (pic_tup (pec_var 2)) (pgc_name 4 nd) (pssc_cons (psc_asg (pec_fnP c_fault_by (pac_cons (pec_var 0) (pac_cons (pec_var 1) (pac_cons (pec_var 4) pac_nil)))) (pgc_name 5 nd))
    (pssc_cons (psc_if (ptc_notN (pec_var 5)) (pssc_one (psc_ret (pec_tup (pac_cons (pec_tuple T.b_tuple (pec_var 3)) (pac_cons (pec_addT (pec_tup (pac_cons (pec_ix (pec_var 1) pec_int) pac_nil)) (pec_var 5)) pac_nil))))) pssc_nil)
    (pssc_cons (psc_asg (pec_fn c_behind_by (pac_cons (pec_var 0) (pac_cons (pec_var 1) (pac_cons (pec_var 4) pac_nil)))) (pgc_name 1 nd))
    (pssc_one (psc_expr (pec_append (pec_var 3) (pec_var 1))))))))
    (pssc_one (psc_ret (pec_tup (pac_cons (pec_tuple T.b_tuple (pec_var 3)) (pac_cons pec_non pac_nil))))))), ?_⟩
  intro rs β P h B bx
  clear c_fault_by
  clear c_behind_by
  rcases h with @⟨y, s, rows, β, hy, h, hr⟩
  change GoR g.K B bx _ [some _, some _, some _, none, none, none] _ _ _
  have h24 := hr.l
  refine go_seq1 (go_asg (ev_lst (dv_cons (evr_var rfl) dv_nil)) ⟨rfl, rfl⟩) ?_
  refine go_seqW (go_for (fun i ρ' β' => (∃ sts st o1 o2, ρ' = [some (.d (encYard y)), some (.d (encState st)), some (.d (encRowsD rows)), some (.l (sts.map encState)), o1, o2] ∧ RunOk y s sts ∧ sts.length = i + 1 ∧ sts[i]? = some st ∧ st.cars.length = s.cars.length) ∧ β' = β) (wk_tup (ds := rows.map encDeeds) (evr_var rfl)) (tg_name _) ⟨⟨[s], s, _, _, rfl, ⟨rfl, fun t ht => by simp at ht; rw [ht]; exact h, fun i a b h1 h2 => by simp at h2⟩, rfl, rfl, rfl⟩, rfl⟩ (fun i d hdi ρi βi hI => ?_) ?_)
  · obtain ⟨⟨sts, st, o1, o2, rfl, R, len, last, cl⟩, rfl⟩ := hI
    rw [List.getElem?_map] at hdi
    cases hz : rows[i]? with
    | none => rw [hz] at hdi; cases hdi
    | some ds =>
      rw [hz] at hdi
      cases hdi
      have hi := (List.getElem?_eq_some_iff.mp hz).1
      obtain ⟨dl, dn⟩ := hr.r ds (List.mem_of_getElem? hz)
      have sok := R.ok st (List.mem_of_getElem? last)
      have dl2 : ds.length = st.cars.length := by rw [dl, cl]
      refine ⟨_, rfl, ?_⟩
      refine go_seqW (go_asgP (evp_call (eap_cons (evp_of (evr_var rfl) ⟨rfl, eap_cons (evp_of (evr_var rfl) ⟨rfl, eap_cons (evp_of (evr_var rfl) ⟨rfl, eap_nil ⟨_, .mk hy sok dl2 dn, ?_⟩⟩)⟩)⟩))))
      rintro r β2 ⟨hres, rfl⟩
      rcases hres with ⟨rfl, fr⟩ | ⟨k, w, rfl⟩
      · refine go_ifr (c := false) (evt_of (ev_notN (d := .none) (evr_var rfl))) (fun h => by cases h) (fun _ => ?_)
        refine go_seq1 (go_asg (ev_callD (dv_cons (evr_var rfl) (dv_cons (evr_var rfl) (dv_cons (evr_var rfl) dv_nil))) (.mk sok dl2 dn fr)) ⟨rfl, rfl⟩) ?_
        refine go_append (i := 3) (ds := sts.map encState) rfl (evr_var rfl) (by rw [List.length_map]; omega) ⟨⟨sts ++ [behind y st ds], behind y st ds, _, _, by rw [List.map_append]; rfl, ⟨?_, fun t ht => ?_, fun j a b h1 h2 => ?_⟩, by simp [len], by rw [List.getElem?_append_right (by omega), len]; simp, ?_⟩, rfl⟩
        · have := R.hd
          cases sts with
          | nil => cases this
          | cons a l => exact this
        · rcases List.mem_append.mp ht with ht | ht
          · exact R.ok t ht
          · simp at ht
            rw [ht]
            exact behind_ok hy sok dl2 dn fr
        · by_cases hj : j + 1 < sts.length
          · rw [List.getElem?_append_left (by omega)] at h1
            rw [List.getElem?_append_left hj] at h2
            exact R.st j a b h1 h2
          · have hb := (List.getElem?_eq_some_iff.mp h2).1
            rw [List.length_append, List.length_singleton] at hb
            have ej : j = i := by omega
            subst ej
            rw [List.getElem?_append_left (by omega), last] at h1
            rw [List.getElem?_append_right (by omega), len] at h2
            simp at h2
            cases h1
            subst h2
            exact ⟨sok, ds, rfl, dl2, dn, fr⟩
        · show ((st.cars.zip ds).map _).length = _
          rw [List.length_map, List.length_zip]; omega
      · refine go_ifr (c := true) (evt_of (ev_notN (d := .tuple [.int k, .str w]) (evr_var rfl))) (fun _ => ?_) (fun h => by cases h)
        exact go_ret (ev_tup (dv_cons (ev_tupleL (evr_var rfl)) (dv_cons (ev_addT (ev_tup (dv_cons (ev_ixT (evr_var rfl) (evr_c fun _ => .int _) rfl) dv_nil)) (evr_var rfl) (by simp)) dv_nil))) ⟨⟨sts, _, rfl, R, by omega⟩, rfl⟩
  · rintro ρ' β' ⟨⟨sts, st, o1, o2, rfl, R, len, last, cl⟩, rfl⟩
    rw [List.length_map] at len
    exact go_ret (ev_tup (dv_cons (ev_tupleL (evr_var rfl)) (dv_cons (evr_c fun _ => .non) dv_nil))) ⟨⟨sts, _, rfl, R, by omega⟩, rfl⟩
inductive T_run : List Res → Bx → Post → Prop
  | mk {y : Yard} {s : State} {rows : List (List Deed)} {β : Bx} (hy : y.Ok) (h : s.Ok y) (hr : RowsOk s.cars.length rows) :
    T_run [.d (encYard y), .d (encState s), .d (encRowsD rows)] β fun r β' => (∃ sts f, r = .d (.tuple [.tuple (sts.map encState), f]) ∧ RunOk y s sts ∧ sts.length ≤ 25) ∧ β' = β
theorem sc_run : FnScope ["yard", "state", "rows"] ["yard", "state", "rows"] (defScope s_run) := ⟨rfl, rfl, rfl, by decide +kernel, rfl, by decide +kernel, by decide +kernel⟩
theorem fn_run {g : Gb} (T : Txt g) : FnP g "run" ["yard", "state", "rows"] 8 T_run := by
  have nd := sc_run.nd
  have c_need_yard := fn_need_yard T
  have c_need_state := fn_need_state T
  have c_need_rows := fn_need_rows T
  have c_run_by := fn_run_by T
  refine T.fnP 55 rfl sc_run (fun _ _ _ _ _ _ us hl => match us, hl with | [_, _, _], _ => rfl) (by intro rs β P h; cases h <;> rfl) ⟨_, (pssc_cons (psc_expr (pec_fn c_need_yard (pac_cons (pec_var 0) pac_nil)))
    (pssc_cons (psc_expr (pec_fn c_need_state (pac_cons (pec_var 0) (pac_cons (pec_var 1) pac_nil))))
    (pssc_cons (psc_expr (pec_fn c_need_rows (pac_cons (pec_var 1) (pac_cons (pec_var 2) pac_nil))))
    (pssc_one (psc_ret (pec_fnP c_run_by (pac_cons (pec_var 0) (pac_cons (pec_var 1) (pac_cons (pec_var 2) pac_nil))))))))), ?_⟩
  intro rs β P h B bx
  clear c_need_yard
  clear c_need_state
  clear c_need_rows
  clear c_run_by
  rcases h with @⟨y, s, rows, β, hy, h, hr⟩
  change GoR g.K B bx _ [some _, some _, some _] _ _ _
  have h3 := h.c3
  refine go_seq1 (go_drop (ev_callD (dv_cons (evr_var rfl) dv_nil) (.mk hy)) ⟨rfl, rfl⟩) ?_
  refine go_seq1 (go_drop (ev_callD (dv_cons (evr_var rfl) (dv_cons (evr_var rfl) dv_nil)) (.mk hy h)) ⟨rfl, rfl⟩) ?_
  refine go_seq1 (go_drop (ev_callD (dv_cons (evr_var rfl) (dv_cons (evr_var rfl) dv_nil)) (.mk hr (by omega))) ⟨rfl, rfl⟩) ?_
  exact go_retP (evp_call (eap_cons (evp_of (evr_var rfl) ⟨rfl, eap_cons (evp_of (evr_var rfl) ⟨rfl, eap_cons (evp_of (evr_var rfl) ⟨rfl, eap_nil ⟨_, .mk hy h hr, fun r β' h => h⟩⟩)⟩)⟩)))
end K20
set_option maxHeartbeats 4000000
namespace K20
open PySem PySem.Spec PyProof.Rows L2
inductive R__law_signs : List Res → Bx → Res → Bx → Prop
  | mk {y : Yard} {rest : List D} {β : Bx} (h : y.Ok) : R__law_signs [.d (.tuple (encFloors y.floors :: rest))] β (.d (.str y.sgS)) β
theorem join_join (fs : List (List Str)) : Txt.join "" (fs.map fun r => Txt.join "" r) = Txt.join "" fs.flatten := by
  rw [join0, join0, List.map_map]
  congr 2
  induction fs with
  | nil => rfl
  | cons f fs ih =>
    rw [List.map_cons, List.flatten_cons, ih, List.flatten_cons, List.map_append, List.flatten_append]
    congr 1
    show (Txt.join "" f).cps.toList = _
    rw [join0, List.toList_toArray]
theorem Yard.Ok.rowLen {y : Yard} (h : y.Ok) {r : List Str} (hr : r ∈ y.floors) : (r.map (·.length)).sum ≤ 12 := by
  have n12 := h.n
  rw [y.cnt] at n12
  refine Nat.le_trans ?_ n12
  have : ∀ fs : List (List Str), r ∈ fs → (r.map (·.length)).sum ≤ (fs.flatten.map (·.length)).sum := by
    intro fs
    induction fs with
    | nil => intro h; cases h
    | cons f fs ih =>
      intro h
      rw [List.flatten_cons, List.map_append, List.sum_append]
      rcases List.mem_cons.1 h with e | h
      · rw [e]; omega
      · have := ih h; omega
  exact this _ hr
theorem sc__law_signs : FnScope ["_law_yard_here", "_law_texts"] ["_law_yard_here"] (defScope s__law_signs) := ⟨rfl, rfl, rfl, by decide +kernel, rfl, by decide +kernel, by decide +kernel⟩
theorem fn__law_signs {g : Gb} (T : Txt g) : FnX g "_law_signs" ["_law_yard_here"] 1 R__law_signs := by
  have nd := sc__law_signs.nd
  refine T.fnX 60 rfl sc__law_signs (fun _ _ _ _ _ _ us hl => match us, hl with | [_], _ => rfl) (by intro rs β r β' h; cases h <;> rfl) ⟨_, (pssc_one (psc_ret (pec_join pec_str (pec_lc [("_law_texts", 1)] nd (pic_tup (pec_ix (pec_var 0) pec_int)) (pgc_name 1 nd) ptsc_nil (pec_join pec_str (pec_var 1)))))), ?_⟩
  intro rs β r β' h B bx
  rcases h with @⟨y, rest, β, h⟩
  change GoR g.K B bx _ [some _, none] _ _ _
  have l2 := h.f2
  refine go_ret (ev_cast (ev_join (ys := y.floors.map fun r => Txt.join "" r) (evr_c fun _ => .str _) (ev_lc (xs := y.floors) (enc := encRows) (f := fun r => .str (Txt.join "" r)) (wk_tup (ev_ixT (evr_var rfl) (evr_c fun _ => .int _) at0)) (tg_name _) (by decide) (by omega) fun r hr => ⟨_, rfl, ev_join (ys := r) (x := .d (encRows r)) (evr_c fun _ => .str _) (evr_var rfl) rfl (Nat.le_trans (show _ ≤ 12 from h.rowLen hr) (by decide))⟩) (by first | (rw [List.map_map]; done) | (rw [List.map_map]; rfl)) ?_) ?_) ⟨rfl, rfl⟩
  · show ((y.floors.map fun r => Txt.join "" r).map (·.length)).sum + _ * 0 ≤ _
    rw [Nat.mul_zero, Nat.add_zero, List.map_map]
    have n12 := h.n
    have e : (y.floors.map ((fun t : Str => t.length) ∘ fun r => Txt.join "" r)).sum = y.sg.length := by
      unfold Yard.sg
      generalize y.floors = fs
      induction fs with
      | nil => rfl
      | cons f fs ih =>
        rw [List.map_cons, List.sum_cons, ih, List.flatten_cons, List.map_append, List.flatten_append, List.length_append]
        congr 1
        show (Txt.join "" f).cps.size = _
        rw [join0]; simp
    rw [e]; omega
  · rw [join_join, join0]; rfl
structure CarR (y : Yard) (c c' : Car) : Prop where
  cell : y.cell c.cell
  mv : c'.cell = c.cell ∨ c'.cell ∈ besideL y c.cell
  br : c.broken = true → c' = c
  b2 : c'.broken = c.broken
  ch : c'.charge ≤ c.charge ∨ (y.sgn c.cell postN = true ∧ c'.cell = c.cell)
  ld : c'.load = c.load ∨ (c'.cell = c.cell ∧ (c.load = none ∨ c'.load = none))
theorem scD_encO (a b : Option Int) : scD (encO a) (encO b) = some (decide (a = b)) := by
  cases a <;> cases b <;> simp [encO, scD]
theorem inD_none (a b : Option Int) : inD .none [encO a, encO b] = (a.isNone || b.isNone) := by
  cases a <;> cases b <;> rfl
inductive R__law_carrier_right : List Res → Bx → Res → Bx → Prop
  | mk {y : Yard} {c c' : Car} {β : Bx} (hy : y.Ok) (h : CarR y c c') : R__law_carrier_right [.d (encYard y), .d (encCar c), .d (encCar c')] β (.d (.bool true)) β
theorem sc__law_carrier_right : FnScope ["_law_yard_here", "_law_one", "_law_later"] ["_law_yard_here", "_law_one", "_law_later"] (defScope s__law_carrier_right) := ⟨rfl, rfl, rfl, by decide +kernel, rfl, by decide +kernel, by decide +kernel⟩
theorem fn__law_carrier_right {g : Gb} (T : Txt g) : FnX g "_law_carrier_right" ["_law_yard_here", "_law_one", "_law_later"] 7 R__law_carrier_right := by
  have nd := sc__law_carrier_right.nd
  have c_beside := fn_beside T
  have c__law_signs := fn__law_signs T
  refine T.fnX 77 rfl sc__law_carrier_right (fun _ _ _ _ _ _ us hl => match us, hl with | [_, _, _], _ => rfl) (by intro rs β r β' h; cases h <;> rfl) ⟨_, (pssc_cons (psc_if (ptc_w (pwc_and (ptc_ne (pec_ix (pec_var 2) pec_int) (pec_ix (pec_var 1) pec_int)) (pwc_and1 (ptc_nin (pec_ix (pec_var 2) pec_int) (pec_fn c_beside (pac_cons (pec_var 0) (pac_cons (pec_ix (pec_var 1) pec_int) pac_nil))))))) (pssc_one (psc_ret pec_bl)) pssc_nil)
    (pssc_cons (psc_if (ptc_w (pwc_or (ptc_w (pwc_and (ptc_of (pec_ix (pec_var 1) pec_int)) (pwc_and1 (ptc_neD (pec_var 2) (pec_var 1))))) (pwc_or1 (ptc_ne (pec_ix (pec_var 2) pec_int) (pec_ix (pec_var 1) pec_int))))) (pssc_one (psc_ret pec_bl)) pssc_nil)
    (pssc_cons (psc_if (ptc_w (pwc_and (ptc_gt (pec_ix (pec_var 2) pec_int) (pec_ix (pec_var 1) pec_int)) (pwc_and1 (ptc_w (pwc_or (ptc_ne (pec_ixS (pec_fn c__law_signs (pac_cons (pec_var 0) pac_nil)) (pec_ix (pec_var 1) pec_int)) pec_str) (pwc_or1 (ptc_ne (pec_ix (pec_var 2) pec_int) (pec_ix (pec_var 1) pec_int)))))))) (pssc_one (psc_ret pec_bl)) pssc_nil)
    (pssc_one (psc_ret (pec_or (pec_eq (pec_ix (pec_var 2) pec_int) (pec_ix (pec_var 1) pec_int)) (pec_one (pec_and (pec_eq (pec_ix (pec_var 2) pec_int) (pec_ix (pec_var 1) pec_int)) (pec_one (pec_in pec_non (pec_tup (pac_cons (pec_ix (pec_var 1) pec_int) (pac_cons (pec_ix (pec_var 2) pec_int) pac_nil))))))))))))), ?_⟩
  intro rs β r β' h B bx
  clear c_beside
  clear c__law_signs
  rcases h with @⟨y, c, c', β, hy, h⟩
  change GoR g.K B bx _ [some _, some _, some _] _ _ _
  have cd : encCar c = .tuple [.int c.cell, .int c.charge, encO c.load, .bool c.broken] := rfl
  refine go_ifr (ev_tcast (c := false) (ev_tand (evt_of (ev_ne (d := .int c'.cell) (e := .int c.cell) (ev_ixT (evr_var rfl) (evr_c fun _ => .int _) rfl) (ev_ixT (evr_var rfl) (evr_c fun _ => .int _) rfl))) fun _ => (evt_of (ev_nin (ds := (besideL y c.cell).map PyData.int) (ev_ixT (d := .int c'.cell) (evr_var rfl) (evr_c fun _ => .int _) rfl) (ev_callD (dv_cons (evr_var rfl) (dv_cons (ev_ixT (d := .int c.cell) (evr_var rfl) (evr_c fun _ => .int _) rfl) dv_nil)) (.mk hy h.cell)) rfl (fl_ints _)))) ?_) (fun h => by cases h) (fun _ => ?_)
  · rw [inD_ints]
    rcases h.mv with e | e
    · simp [e]
    · simp [e]
  refine go_ifr (ev_tcast (c := false) (ev_tor (ev_tand (evt_of (c := c.broken) (ev_ixT (evr_var rfl) (evr_c fun _ => .int _) rfl)) fun _ => (evt_of (ev_neD (evr_var rfl) (evr_var rfl) (sh_car c').ok (sh_car c).ok))) fun _ => (evt_of (ev_ne (d := .bool c'.broken) (e := .bool c.broken) (ev_ixT (evr_var rfl) (evr_c fun _ => .int _) rfl) (ev_ixT (evr_var rfl) (evr_c fun _ => .int _) rfl)))) ?_) (fun h => by cases h) (fun _ => ?_)
  · rw [h.b2]
    cases hb : c.broken with
    | false => simp
    | true => rw [h.br hb, (sh_car c).refl]; simp
  obtain ⟨c0, c1, _⟩ := h.cell
  refine go_ifr (ev_tcast (c := false) (ev_tand (evt_of (ev_gt (i := c'.charge) (j := c.charge) (ev_ixT (evr_var rfl) (evr_c fun _ => .int _) rfl) (ev_ixT (evr_var rfl) (evr_c fun _ => .int _) rfl))) fun _ => (ev_tor (evt_of (ev_signAt (m := postN) hy c0 c1 (ev_callD (dv_cons (evr_var rfl) dv_nil) (.mk hy)) (ev_ixT (evr_var rfl) (evr_c fun _ => .int _) rfl) (evr_c fun _ => .str _)).2) fun _ => (evt_of (ev_ne (d := .int c'.cell) (e := .int c.cell) (ev_ixT (evr_var rfl) (evr_c fun _ => .int _) rfl) (ev_ixT (evr_var rfl) (evr_c fun _ => .int _) rfl))))) ?_) (fun h => by cases h) (fun _ => ?_)
  · rcases h.ch with e | ⟨e1, e2⟩
    · rw [decide_eq_false (by omega)]; rfl
    · rw [e1, e2]; simp
  refine go_ret (ev_cast (ev_vor (ev_eq (d := encO c'.load) (e := encO c.load) (ev_ixT (evr_var rfl) (evr_c fun _ => .int _) rfl) (ev_ixT (evr_var rfl) (evr_c fun _ => .int _) rfl) (scD_encO _ _)) fun _ => (ev_vand (ev_eq (d := .int c'.cell) (e := .int c.cell) (ev_ixT (evr_var rfl) (evr_c fun _ => .int _) rfl) (ev_ixT (evr_var rfl) (evr_c fun _ => .int _) rfl)) fun _ => (ev_in (ds := [encO c.load, encO c'.load]) (evr_c fun _ => .non) (ev_tup (dv_cons (ev_ixT (d := encO c.load) (evr_var rfl) (evr_c fun _ => .int _) rfl) (dv_cons (ev_ixT (d := encO c'.load) (evr_var rfl) (evr_c fun _ => .int _) rfl) dv_nil))) rfl (by cases c.load <;> cases c'.load <;> rfl)))) ?_) ⟨rfl, rfl⟩
  rw [inD_none]
  rcases h.ld with e | ⟨e1, e2 | e2⟩
  · simp [e]
  · simp [e1, e2]
  · simp [e1, e2]
theorem carR_of {y : Yard} {s : State} {c : Car} {d : Deed} (hy : y.Ok) (h : s.Ok y) (hc : c ∈ s.cars) (ho : OwnOk y s c d) (hb : c.broken = true → d = .bide) : CarR y c (carB y s c d) := by
  have ck := h.cars c hc
  have := hy.c1; have := hy.c3; have := hy.c5
  refine ⟨ck.cell, ?_, fun b => by rw [hb b]; rfl, carB_broken c d, ?_, ?_⟩
  · cases d with
    | go n => exact .inr ho.1
    | _ => exact .inl rfl
  · cases d with
    | fill => exact .inr ⟨ho, rfl⟩
    | go n =>
      refine .inl ?_
      show c.charge - price y c.load ≤ c.charge
      unfold price
      split <;> omega
    | lift => exact .inl (by show c.charge - y.laden ≤ c.charge; omega)
    | set | bide | hand n => exact .inl (Int.le_refl _)
  · cases d with
    | lift => exact .inr ⟨rfl, .inl ho.1⟩
    | set => exact .inr ⟨rfl, .inr rfl⟩
    | _ => exact .inl rfl
theorem hand_none {s : State} {ds : List Deed} (h : ∀ (i : Nat) c d, s.cars[i]? = some c → ds[i]? = some d → isHand d = false) : ∀ k : Nat, handN s ds k = (s.shelves, s.orders)
  | 0 => rfl
  | k + 1 => by
    have ih := hand_none h k
    cases hz : (s.cars.zip ds)[k]? with
    | none =>
      unfold handN at ih ⊢
      rw [List.take_add_one, hz]
      simpa using ih
    | some p =>
      obtain ⟨c, d⟩ := p
      obtain ⟨h1, h2⟩ := List.getElem?_zip_eq_some.mp hz
      rw [handN_succ h1 h2, ih]
      have := h k c d h1 h2
      cases d <;> first | rfl | cases this
theorem given_or {y : Yard} {s : State} {ds : List Deed} (hf : Free y s ds) : (behind y s ds).orders.map (·.given) = s.orders.map (·.given) ∨ ∃ c ∈ s.cars, y.sgn c.cell deskN = true ∧ c.load.isSome = true := by
  by_cases h : ∀ (i : Nat) c d, s.cars[i]? = some c → ds[i]? = some d → isHand d = false
  · left
    show (handN s ds s.cars.length).2.map _ = _
    rw [hand_none h]
  · right
    simp only [Classical.not_forall] at h
    obtain ⟨i, c, d, h1, h2, h3⟩ := h
    have := (hf.own i c d h1 h2).1
    cases d with
    | hand n =>
      obtain ⟨⟨l, hl⟩, hd, _⟩ := this
      exact ⟨c, List.mem_of_getElem? h1, hd, by rw [hl]; rfl⟩
    | _ => exact absurd rfl h3
inductive R__law_step_right : List Res → Bx → Res → Bx → Prop
  | mk {y : Yard} {a b : State} {β : Bx} (hy : y.Ok) (S : Step y a b) (hb : b.Ok y) : R__law_step_right [.d (encYard y), .d (encState a), .d (encState b)] β (.d (.bool true)) β
theorem sums_zip (s : State) : List.zipWith prD (s.there.map PyData.int) (s.givenL.map PyData.int) = (List.range (goodsL s.shelves)).map fun g => prD (.int (thereOf s.shelves g)) (.int (givenOf s.orders g)) := zip_tot s
theorem ev_totals {K : PySem.W.Frag} {B : Hp} {bx : Option Addr} {ρ : Env} {β : Bx} {ta tb : TE} {f1 f2 : Bool} {s : State} {i j : Nat} {vs : List Nat} (hg : goodsL s.shelves ≤ 3) (ha : EvR K B bx ta ρ β f1 (.d (encInts s.there)) β) (hb : EvR K B bx tb ρ β f2 (.d (encInts s.givenL)) β)
    (hs : ∀ k ∈ [i, j], k ∈ vs) (he : ∀ x z : Int, ∃ ρ', bT [bN i, bN j] (prD (.int x) (.int z)) (wipeR ρ vs) = some ρ' ∧ ρ'[i]? = some (some (.d (.int x))) ∧ ρ'[j]? = some (some (.d (.int z)))) :
    EvR K B bx (tLc (RZ.iZipA K (tCons ta (tCons tb tNil))) (gTup K 2 (gCons (gName i) (gCons (gName j) gNil))) tYes (tOp rAddI (tVar i) (tVar j)) vs) ρ β true (.l (s.total.map PyData.int)) β := by
  refine ev_castR (ev_lc (xs := List.range (goodsL s.shelves)) (enc := fun g => prD (.int (thereOf s.shelves g)) (.int (givenOf s.orders g))) (f := fun g => .int (thereOf s.shelves g + givenOf s.orders g)) (wkr_cast (wk_zipT (ds := s.there.map PyData.int) (es := s.givenL.map PyData.int) ha hb) (sums_zip s)) (tg_tup (tgs_cons (tg_name _) (tgs_cons (tg_name _) tgs_nil))) hs (by rw [List.length_range]; omega) fun g hg => ?_) ?_
  · obtain ⟨ρ', e, h1, h2⟩ := he (thereOf s.shelves g) (givenOf s.orders g)
    exact ⟨ρ', e, ev_add (evr_var h1) (evr_var h2)⟩
  · unfold State.total
    rw [List.map_map]; rfl
theorem sc__law_step_right : FnScope ["_law_yard_here", "_law_one", "_law_later", "_law_first", "_law_last", "_law_desks", "_law_order", "_law_there", "_law_given", "_law_here", "_law_told", "_law_left", "_law_more_here"] ["_law_yard_here", "_law_one", "_law_later"] (defScope s__law_step_right) := ⟨rfl, rfl, rfl, by decide +kernel, rfl, by decide +kernel, by decide +kernel⟩
theorem fn__law_step_right {g : Gb} (T : Txt g) : FnX g "_law_step_right" ["_law_yard_here", "_law_one", "_law_later"] 9 R__law_step_right := by
  have nd := sc__law_step_right.nd
  have c_sums := fn_sums T
  have c_is_state := fn_is_state T
  have c_alike := fn_alike T
  have c__law_carrier_right := fn__law_carrier_right T
  have c__law_signs := fn__law_signs T
  refine T.fnX 78 rfl sc__law_step_right (fun _ _ _ _ _ _ us hl => match us, hl with | [_, _, _], _ => rfl) (by intro rs β r β' h; cases h <;> rfl) ⟨_, (pssc_cons (psc_if (ptc_w (pwc_or (ptc_notBl (pec_fn c_is_state (pac_cons (pec_var 0) (pac_cons (pec_var 2) pac_nil))) pec_bl) (pwc_or (ptc_ne (pec_ix (pec_var 2) pec_int) (pec_add (pec_ix (pec_var 1) pec_int) pec_int)) (pwc_or1 (ptc_notBl (pec_fn c_alike (pac_cons (pec_var 0) (pac_cons (pec_var 1) (pac_cons (pec_var 2) pac_nil)))) pec_bl))))) (pssc_one (psc_ret pec_bl)) pssc_nil)
    (pssc_cons (psc_if (ptc_not (ptc_of (pec_all T.b_all (pec_lc [("_law_first", 3), ("_law_last", 4)] nd (pic_zip T.b_zip (pec_ix (pec_var 1) pec_int) (pec_ix (pec_var 2) pec_int)) (pgc_tup (n := 2) (pgsc_cons (pgc_name 3 nd) (pgsc_cons (pgc_name 4 nd) pgsc_nil))) ptsc_nil (pec_fn c__law_carrier_right (pac_cons (pec_var 0) (pac_cons (pec_var 3) (pac_cons (pec_var 4) pac_nil)))))))) (pssc_one (psc_ret pec_bl)) pssc_nil)
    (pssc_cons (psc_setLc 5 [("_law_first", 3)] nd (pic_tup (pec_ix (pec_var 1) pec_int)) (pgc_name 3 nd) (ptsc_one (ptc_w (pwc_and (ptc_eq (pec_ixS (pec_fn c__law_signs (pac_cons (pec_var 0) pac_nil)) (pec_ix (pec_var 3) pec_int)) pec_str) (pwc_and1 (ptc_notN (pec_ix (pec_var 3) pec_int)))))) (pec_ix (pec_var 3) pec_int))
    (pssc_cons (psc_if (ptc_w (pwc_and (ptc_neD (pec_lc [("_law_order", 6)] nd (pic_tup (pec_ix (pec_var 2) pec_int)) (pgc_name 6 nd) ptsc_nil (pec_ix (pec_var 6) pec_int)) (pec_lc [("_law_order", 6)] nd (pic_tup (pec_ix (pec_var 1) pec_int)) (pgc_name 6 nd) ptsc_nil (pec_ix (pec_var 6) pec_int))) (pwc_and1 (ptc_eqD (pec_var 5) (pec_lst pac_nil))))) (pssc_one (psc_ret pec_bl)) pssc_nil)
    (pssc_cons (psc_asg (pec_tup (pac_cons (pec_fn c_sums (pac_cons (pec_var 0) (pac_cons (pec_var 2) pac_nil))) (pac_cons (pec_fn c_sums (pac_cons (pec_var 0) (pac_cons (pec_var 1) pac_nil))) pac_nil))) (pgc_tup (n := 2) (pgsc_cons (pgc_tup (n := 2) (pgsc_cons (pgc_name 7 nd) (pgsc_cons (pgc_name 8 nd) pgsc_nil))) (pgsc_cons (pgc_tup (n := 2) (pgsc_cons (pgc_name 9 nd) (pgsc_cons (pgc_name 10 nd) pgsc_nil))) pgsc_nil))))
    (pssc_one (psc_ret (pec_eqD (pec_lc [("_law_left", 11), ("_law_more_here", 12)] nd (pic_zip T.b_zip (pec_var 7) (pec_var 8)) (pgc_tup (n := 2) (pgsc_cons (pgc_name 11 nd) (pgsc_cons (pgc_name 12 nd) pgsc_nil))) ptsc_nil (pec_add (pec_var 11) (pec_var 12))) (pec_lc [("_law_left", 11), ("_law_more_here", 12)] nd (pic_zip T.b_zip (pec_var 9) (pec_var 10)) (pgc_tup (n := 2) (pgsc_cons (pgc_name 11 nd) (pgsc_cons (pgc_name 12 nd) pgsc_nil))) ptsc_nil (pec_add (pec_var 11) (pec_var 12))))))))))), ?_⟩
  intro rs β r β' h B bx
  clear c_sums
  clear c_is_state
  clear c_alike
  clear c__law_carrier_right
  clear c__law_signs
  rcases h with @⟨y, a, b, β, hy, S, hb⟩
  change GoR g.K B bx _ [some _, some _, some _, none, none, none, none, none, none, none, none, none, none] _ _ _
  have ha := S.ok
  obtain ⟨ds, eb, hl, hn, hf⟩ := S.ex
  have tot : b.total = a.total := by rw [eb]; exact behind_total ha hn hf
  have a3 := ha.c3; have b3 := hb.c3; have a4 := ha.on; have b4 := hb.on; have g3 := ha.g3; have g3' := hb.g3
  have hbeat : b.beat = a.beat + 1 := by rw [eb]; rfl
  refine go_ifr (ev_tcast (c := false) (ev_tor (evt_of (ev_notBl (ev_callD (dv_cons (evr_var rfl) (dv_cons (evr_var rfl) dv_nil)) (.mk hy hb)) (evr_c fun _ => .bl _))) fun _ => (ev_tor (evt_of (ev_ne (d := .int b.beat) (e := .int (a.beat + 1)) (ev_ixT (evr_var rfl) (evr_c fun _ => .int _) rfl) (ev_add (i := a.beat) (ev_ixT (evr_var rfl) (evr_c fun _ => .int _) rfl) (evr_c fun _ => .int _)))) fun _ => (evt_of (ev_notBl (ev_callD (dv_cons (evr_var rfl) (dv_cons (evr_var rfl) (dv_cons (evr_var rfl) dv_nil))) (.mk hy ha hb tot.symm)) (evr_c fun _ => .bl _))))) (by rw [hbeat]; simp)) (fun h => by cases h) (fun _ => ?_)
  refine go_ifr (ev_tcast (c := false) (evt_not (evt_of (ev_allM (q := fun _ => true) (ev_lc (xs := a.cars.zip b.cars) (enc := fun p => prD (encCar p.1) (encCar p.2)) (wkr_cast (wk_zipT (ds := a.cars.map encCar) (es := b.cars.map encCar) (ev_ixT (evr_var rfl) (evr_c fun _ => .int _) rfl) (ev_ixT (evr_var rfl) (evr_c fun _ => .int _) rfl)) (zip_enc _ _ _ _)) (tg_tup (tgs_cons (tg_name _) (tgs_cons (tg_name _) tgs_nil))) (by decide) (by rw [List.length_zip]; omega) fun p hp => ⟨_, rfl, (ev_callD (dv_cons (evr_var rfl) (dv_cons (evr_var rfl) (dv_cons (evr_var rfl) dv_nil))) (.mk hy ?_))⟩)))) (by rw [all_true]; rfl)) (fun h => by cases h) (fun _ => ?_)
  · obtain ⟨i, hi⟩ := List.mem_iff_getElem?.mp hp
    obtain ⟨h1, h2⟩ := List.getElem?_zip_eq_some.mp hi
    rw [eb] at h2
    obtain ⟨c, d, ec, ed, e⟩ := car_at hl h2
    rw [ec] at h1
    have e1 := Option.some.inj h1
    obtain ⟨o1, o2⟩ := hf.own i c d ec ed
    rw [e, ← e1]
    exact carR_of hy ha (List.mem_of_getElem? ec) o1 o2
  · refine go_seq1 (go_asg (ev_lcIf (xs := a.cars) (enc := encCar) (f := fun c => .int c.cell) (fun c => y.sgn c.cell deskN && !isNo (encO c.load)) (wk_tup (ds := a.cars.map encCar) (ev_ixT (evr_var rfl) (evr_c fun _ => .int _) rfl)) (tg_name _) (by decide) (by omega) fun c hc => ⟨_, rfl, (ev_tand (evt_of (ev_signAt (m := deskN) hy (ha.cars c hc).cell.1 (ha.cars c hc).cell.2.1 (ev_callD (dv_cons (evr_var rfl) dv_nil) (.mk hy)) (ev_ixT (evr_var rfl) (evr_c fun _ => .int _) rfl) (evr_c fun _ => .str _)).1) fun _ => (evt_of (ev_notN (d := encO c.load) (ev_ixT (evr_var rfl) (evr_c fun _ => .int _) rfl)))), fun hp => (ev_ixT (evr_var rfl) (evr_c fun _ => .int _) rfl)⟩) ⟨rfl, rfl⟩) ?_
    refine go_ifr (ev_tcast (c := false) (ev_tand (evt_of (ev_neD (ev_lc (xs := b.orders) (enc := encOrder) (f := fun o => .int o.given) (wk_tup (ds := b.orders.map encOrder) (ev_ixT (evr_var rfl) (evr_c fun _ => .int _) rfl)) (tg_name _) (by decide) (by omega) fun y hy => ⟨_, rfl, (ev_ixT (evr_var rfl) (evr_c fun _ => .int _) rfl)⟩) (ev_lc (xs := a.orders) (enc := encOrder) (f := fun o => .int o.given) (wk_tup (ds := a.orders.map encOrder) (ev_ixT (evr_var rfl) (evr_c fun _ => .int _) rfl)) (tg_name _) (by decide) (by omega) fun y hy => ⟨_, rfl, (ev_ixT (evr_var rfl) (evr_c fun _ => .int _) rfl)⟩) (Sh.lmap (n := 0) fun _ => .int).ok (Sh.lmap (n := 0) fun _ => .int).ok)) fun _ => (evt_of (ev_eqD (evr_var rfl) (ev_lst dv_nil) (Sh.lmap (n := 0) fun _ => .int).ok (Sh.ok (n := 1) (Sh.lst (ds := []) fun _ h => by cases h))))) ?_) (fun h => by cases h) (fun _ => ?_)
    · rw [eqv_nilL]
      rcases given_or hf with e | ⟨c, hc, e1, e2⟩
      · have e3 : b.orders.map (fun o => PyData.int o.given) = a.orders.map (fun o => PyData.int o.given) := by
          have := congrArg (List.map PyData.int) e
          rw [← eb, List.map_map, List.map_map] at this
          exact this
        rw [e3, (Sh.lmap (n := 0) (xs := a.orders) (f := fun o => PyData.int o.given) fun _ => .int).refl]
        rfl
      · have : (((a.cars.filter fun c => y.sgn c.cell deskN && !isNo (encO c.load)).map fun c => PyData.int c.cell)).isEmpty = false := by
          cases hq : ((a.cars.filter fun c => y.sgn c.cell deskN && !isNo (encO c.load)).map fun c => PyData.int c.cell) with
          | nil =>
            rw [List.map_eq_nil_iff, List.filter_eq_nil_iff] at hq
            refine absurd ?_ (hq c hc)
            rw [isNo_encO, e1]
            cases hl2 : c.load with
            | none => rw [hl2] at e2; cases e2
            | some l => rfl
          | cons _ _ => rfl
        rw [this, Bool.and_false]
    · refine go_seq1 (go_asgT (ev_tup (dv_cons (ev_callD (dv_cons (evr_var rfl) (dv_cons (evr_var rfl) dv_nil)) (.mk hy hb)) (dv_cons (ev_callD (dv_cons (evr_var rfl) (dv_cons (evr_var rfl) dv_nil)) (.mk hy ha)) dv_nil))) (tg_tup (tgs_cons (tg_tup (tgs_cons (tg_name _) (tgs_cons (tg_name _) tgs_nil))) (tgs_cons (tg_tup (tgs_cons (tg_name _) (tgs_cons (tg_name _) tgs_nil))) tgs_nil))) rfl ⟨rfl, rfl⟩) ?_
      refine go_ret (ev_cast (ev_eqD (ev_totals (s := b) g3' (evr_var rfl) (evr_var rfl) (by decide) fun x z => ⟨_, rfl, rfl, rfl⟩) (ev_totals (s := a) g3 (evr_var rfl) (evr_var rfl) (by decide) fun x z => ⟨_, rfl, rfl, rfl⟩) (Sh.lmap (n := 0) fun _ => .int).ok (Sh.lmap (n := 0) fun _ => .int).ok) ?_) ⟨rfl, rfl⟩
      rw [tot, (Sh.lmap (n := 0) (xs := a.total) (f := PyData.int) fun _ => .int).refl]
end K20
set_option maxHeartbeats 4000000
namespace K20
open PySem PySem.Spec PyProof.Rows L2
section
variable {K : PySem.W.Frag} {B : Hp} {bx : Option Addr} {ρ : Env} {β β1 β2 : Bx} {f1 f2 f3 fr : Bool} {ta tb te : TE} {C : Post} {i j : Int} {x y : Res}
theorem b2_add : B2 K rAddI (.d (.int i)) (.d (.int j)) (.int (i + j)) := fun bx H vx vy Ax Ay rx ry Q g => ⟨i, j, rx.1.inv_int, ry.1.inv_int, g _ (.int _)⟩
theorem b2_sub : B2 K rSubI (.d (.int i)) (.d (.int j)) (.int (i - j)) := fun bx H vx vy Ax Ay rx ry Q g => ⟨i, j, rx.1.inv_int, ry.1.inv_int, g _ (.int _)⟩
theorem b2_mul (h : CMul i j) : B2 K rMulI (.d (.int i)) (.d (.int j)) (.int (i * j)) := fun bx H vx vy Ax Ay rx ry Q g => ⟨i, j, rx.1.inv_int, ry.1.inv_int, h, g _ (.int _)⟩
theorem b2_mod (h : 0 < j) : B2 K rModI (.d (.int i)) (.d (.int j)) (.int (i % j)) := fun bx H vx vy Ax Ay rx ry Q g => ⟨i, j, rx.1.inv_int, ry.1.inv_int, h, g _ (.int _)⟩
theorem b2_fdiv (h : CDiv i j) : B2 K rDivI (.d (.int i)) (.d (.int j)) (.int (i / j)) := fun bx H vx vy Ax Ay rx ry Q g => ⟨i, j, rx.1.inv_int, ry.1.inv_int, h, g _ (.int _)⟩
theorem b2_lt : B2 K rLtI (.d (.int i)) (.d (.int j)) (.bool (decide (i < j))) := fun bx H vx vy Ax Ay rx ry Q g => ⟨i, j, rx.1.inv_int, ry.1.inv_int, g _ (.bl _)⟩
theorem b2_gt : B2 K rGtI (.d (.int i)) (.d (.int j)) (.bool (decide (j < i))) := fun bx H vx vy Ax Ay rx ry Q g => ⟨i, j, rx.1.inv_int, ry.1.inv_int, g _ (.bl _)⟩
theorem b2_eq {d e : D} {k : Bool} (h : scD d e = some k) : B2 K rEq (.d d) (.d e) (.bool k) := fun bx H vx vy Ax Ay rx ry Q g => by
  obtain ⟨h1, h2⟩ := scD_ok h rx.1 ry.1
  refine ⟨h1, ?_⟩
  rw [h2]; exact g _ (.bl _)
theorem b2_ne {d e : D} {k : Bool} (h : scD d e = some k) : B2 K rNe (.d d) (.d e) (.bool (!k)) := fun bx H vx vy Ax Ay rx ry Q g => by
  obtain ⟨h1, h2⟩ := scD_ok h rx.1 ry.1
  refine ⟨h1, ?_⟩
  rw [h2]; exact g _ (.bl _)
theorem b2_ix {ds : List D} {d : D} (hx : x.seq = some ds) (h : L2.atI ds i = some d) : B2 K (rSeq K) x (.d (.int i)) d := fun bx H vx vy Ax Ay rx ry Q g => by
  obtain ⟨p, vs, rfl, hp, rr⟩ := rx.seq hx
  obtain ⟨v, e, rv⟩ := rr.atI h
  rcases hp with hp | hp
  · exact .inl ⟨p, vs, i, v, rfl, ry.1.inv_int, hp, e, g _ rv⟩
  · exact .inr ⟨p, vs, i, v, rfl, ry.1.inv_int, hp, e, g _ rv⟩
theorem b2_ixS {z : Str} {n : Nat} (h : L2.atI z.cps.toList i = some n) (hl : z.length ≤ sizeLine) : B2 K rIxS (.d (.str z)) (.d (.int i)) (.str ⟨#[n]⟩) := fun bx H vx vy Ax Ay rx ry Q g => ⟨z, i, n, rx.1.inv_str, ry.1.inv_int, hl, h, g _ (.str _)⟩
end
theorem evr_vd {K : PySem.W.Frag} {B : Hp} {bx : Option Addr} {ρ : Env} {β : Bx} {i : Nat} {d : D} (h : ρ[i]? = some (some (.d d))) : EvR K B bx (tVar i) ρ β true (.d d) β := evr_var h
theorem evr_vl {K : PySem.W.Frag} {B : Hp} {bx : Option Addr} {ρ : Env} {β : Bx} {i : Nat} {ds : List D} (h : ρ[i]? = some (some (.l ds))) : EvR K B bx (tVar i) ρ β false (.l ds) β := evr_var h
section
variable {K : PySem.W.Frag} {B : Hp} {bx : Option Addr} {ρ : Env} {β β1 : Bx} {f1 f2 : Bool} {ta tb te : TE} {tr : TA} {C : Post}
theorem pbin {rr : R2} (h : EvP K B bx ta ρ β f1 (fun x β1 => EvP K B bx tb ρ β1 f2 (fun y β2 => ∃ z, B2 K rr x y z ∧ C (.d z) β2))) : EvP K B bx (tOp rr ta tb) ρ β true C := evp_bin h
theorem pmin (h : EvP K B bx ta ρ β f1 fun x β1 => EvP K B bx tb ρ β1 f2 fun y β2 => ∃ i j, x = .d (.int i) ∧ y = .d (.int j) ∧ C (.d (.int (if j < i then j else i))) β2) : EvP K B bx (tCB rMin2 (tCons ta (tCons tb tNil))) ρ β true C := evp_min h
theorem ptup (h : EvAP K B bx tr ρ β fun rs β1 => ∃ ds, rs = ds.map Res.d ∧ ds.length ≤ 100000 ∧ C (.d (.tuple ds)) β1) : EvP K B bx (tTup tr) ρ β true C := evp_tup h
theorem plst (h : EvAP K B bx tr ρ β fun rs β1 => ∃ ds, rs = ds.map Res.d ∧ ds.length ≤ 100000 ∧ C (.l ds) β1) : EvP K B bx (tLst tr) ρ β true C := evp_lst h
theorem ptupL (h : EvP K B bx te ρ β f1 fun x β1 => ∃ ds, x = .l ds ∧ C (.d (.tuple ds)) β1) : EvP K B bx (tThen te (kTup K)) ρ β true C := evp_tupleL h
end
def ints2 (r : Res) : Prop := ∃ x y : Int, r = .l [.int x, .int y]
inductive T__law_box : List Res → Bx → Post → Prop
  | mk {ns : List Int} {k : Nat} {β : Bx} : T__law_box [.s ns, .d (.int k)] β fun r β' => ints2 r ∧ β' = β
theorem sc__law_box : FnScope ["_law_script", "_law_k", "_law_here", "_law_number", "_law_j", "_law_piece"] ["_law_script", "_law_k"] (defScope s__law_box) := ⟨rfl, rfl, rfl, by decide +kernel, rfl, by decide +kernel, by decide +kernel⟩
theorem fn__law_box {g : Gb} (T : Txt g) : FnP g "_law_box" ["_law_script", "_law_k"] 1 T__law_box := by
  have nd := sc__law_box.nd
  refine T.fnP 56 rfl sc__law_box (fun _ _ _ _ _ _ us hl => match us, hl with | [_, _], _ => rfl) (by intro rs β P h; cases h <;> rfl) ⟨_, (pssc_cons (psc_asg (pec_add (pec_mul pec_int (pec_var 1)) pec_int) (pgc_name 2 nd))
    (pssc_cons (psc_if (ptc_lt (pec_var 1) (pec_len T.b_len (pec_var 0))) (pssc_one (psc_asg (pec_ix (pec_var 0) (pec_var 1)) (pgc_name 2 nd))) pssc_nil)
    (pssc_cons (psc_if (ptc_eq (pec_mod (pec_var 2) pec_int) pec_int) (pssc_one (psc_ret (pec_lst (pac_cons (pec_fdiv (pec_var 2) pec_int) (pac_cons (pec_mod (pec_abs T.b_abs (pec_var 2)) pec_int) pac_nil))))) pssc_nil)
    (pssc_cons (psc_asg pec_int (pgc_name 3 nd))
    (pssc_cons (psc_for (pic_range T.b_range pec_int) (pgc_name 4 nd) (pssc_cons (psc_asg (pec_mod (pec_add (pec_add (pec_mul (pec_mod (pec_var 2) pec_int) pec_int) (pec_mul pec_int (pec_var 4))) pec_int) pec_int) (pgc_name 5 nd))
    (pssc_cons (psc_asg (pec_mod (pec_mul (pec_var 5) (pec_var 5)) pec_int) (pgc_name 5 nd))
    (pssc_one (psc_asg (pec_add (pec_mul (pec_var 3) pec_int) (pec_mod (pec_mul (pec_var 5) (pec_add (pec_var 5) pec_int)) pec_int)) (pgc_name 3 nd))))))
    (pssc_one (psc_ret (pec_lst (pac_cons (pec_var 3) (pac_cons (pec_mod (pec_abs T.b_abs (pec_var 2)) pec_int) pac_nil)))))))))), ?_⟩
  intro rs β P h B bx
  rcases h with @⟨ns, k, β⟩
  change GoR g.K B bx _ [some _, some _, none, none, none, none] _ _ _
  refine go_seq1 (go_asg (ev_add (ev_mul (evr_c fun _ => .int _) (evr_var rfl) (.inl ⟨by decide, by decide⟩)) (evr_c fun _ => .int _)) ⟨rfl, rfl⟩) ?_
  refine go_seqW (go_mono (N1 := fun ρ' β' => (∃ v : Int, ρ' = [some (.s ns), some (.d (.int k)), some (.d (.int v)), none, none, none]) ∧ β' = β) (go_if (evt_of (ev_lt (evr_var rfl) (ev_lenR (evr_var rfl)))) (fun h1 => ?_) (fun h1 => go_next ⟨⟨_, rfl⟩, rfl⟩)) ?_)
  · have hk : k < ns.length := by have := of_decide_eq_true h1; omega
    exact go_asg (ev_ixR (evr_var rfl) (evr_var rfl) (atN (n := k) rfl (List.getElem?_eq_getElem hk))) ⟨⟨_, rfl⟩, rfl⟩
  rintro ρ' β' ⟨⟨v, rfl⟩, rfl⟩
  refine go_ifr (evt_of (ev_eq (ev_mod (evr_var rfl) (evr_c fun _ => .int _) (by decide)) (evr_c fun _ => .int _))) (fun h2 => ?_) (fun h2 => ?_)
  · exact go_ret (ev_lst (dv_cons (ev_fdiv (evr_var rfl) (evr_c fun _ => .int _) ⟨by decide, by decide⟩) (dv_cons (ev_mod (ev_abs (evr_var rfl)) (evr_c fun _ => .int _) (by decide)) dv_nil))) ⟨⟨_, _, rfl⟩, rfl⟩
  · refine go_seq1 (go_asg (evr_c fun _ => .int _) ⟨rfl, rfl⟩) ?_
    refine go_seqW (go_for (fun i ρ' β2 => (∃ (n : Int) (o1 o2 : Option Res), ρ' = [some (.s ns), some (.d (.int k)), some (.d (.int v)), some (.d (.int n)), o1, o2]) ∧ β2 = β') (wk_range (evr_c fun _ => .int _) (by decide) (by decide)) (tg_name _) ⟨⟨_, _, _, rfl⟩, rfl⟩ (fun i d hd ρi βi hI => ?_) ?_)
    · obtain ⟨⟨n, o1, o2, rfl⟩, rfl⟩ := hI
      have hi : i < 16 := by
        have := (List.getElem?_eq_some_iff.mp hd).1
        rw [rgD_length] at this
        exact this
      rw [rgD_get (by omega)] at hd
      cases hd
      refine ⟨_, rfl, ?_⟩
      refine go_seq1 (go_asg (ev_mod (ev_add (ev_add (ev_mul (ev_mod (evr_var rfl) (evr_c fun _ => .int _) (by decide)) (evr_c fun _ => .int _) (.inr ⟨by decide, by decide⟩)) (ev_mul (evr_c fun _ => .int _) (evr_var rfl) (.inl ⟨by decide, by decide⟩))) (evr_c fun _ => .int _)) (evr_c fun _ => .int _) (by decide)) ⟨rfl, rfl⟩) ?_
      have bd : ∀ a m : Int, 0 < m → m < 2147483648 → -(2 ^ 64) < a % m ∧ a % m < 2 ^ 64 := fun a m h1 h2 => by
        have := Int.emod_nonneg a (show m ≠ 0 by omega)
        have := Int.emod_lt_of_pos a h1
        omega
      refine go_seq1 (go_asg (ev_mod (ev_mul (evr_var rfl) (evr_var rfl) (.inl (bd _ _ (by decide) (by decide)))) (evr_c fun _ => .int _) (by decide)) ⟨rfl, rfl⟩) ?_
      exact go_asg (ev_add (ev_mul (evr_var rfl) (evr_c fun _ => .int _) (.inr ⟨by decide, by decide⟩)) (ev_mod (ev_mul (evr_var rfl) (ev_add (evr_var rfl) (evr_c fun _ => .int _)) (.inl (bd _ _ (by decide) (by decide)))) (evr_c fun _ => .int _) (by decide))) ⟨⟨_, _, _, rfl⟩, rfl⟩
    · rintro ρ' β2 ⟨⟨n, o1, o2, rfl⟩, rfl⟩
      exact go_ret (ev_lst (dv_cons (evr_var rfl) (dv_cons (ev_mod (ev_abs (evr_var rfl)) (evr_c fun _ => .int _) (by decide)) dv_nil))) ⟨⟨_, _, rfl⟩, rfl⟩
inductive T__law_more : List Res → Bx → Post → Prop
  | mk {β : Bx} : T__law_more [.box] β fun r _ => ∃ m : Int, r = .d (.int m)
theorem sc__law_more : FnScope ["_law_box_here", "_law_number", "_law_j"] ["_law_box_here"] (defScope s__law_more) := ⟨rfl, rfl, rfl, by decide +kernel, rfl, by decide +kernel, by decide +kernel⟩
theorem fn__law_more {g : Gb} (T : Txt g) : FnP g "_law_more" ["_law_box_here"] 1 T__law_more := by
  have nd := sc__law_more.nd
  refine T.fnP 57 rfl sc__law_more (fun _ _ _ _ _ _ us hl => match us, hl with | [_], _ => rfl) (by intro rs β P h; cases h <;> rfl) ⟨_, (pssc_cons (psc_asg pec_int (pgc_name 1 nd))
    (pssc_cons (psc_for (pic_range T.b_range pec_int) (pgc_name 2 nd) (pssc_cons (psc_sub (pec_var 0) pec_int (pec_mod (pec_add (pec_mul (pec_ix (pec_var 0) pec_int) pec_int) pec_int) pec_int))
    (pssc_one (psc_asg (pec_add (pec_mul (pec_var 1) pec_int) (pec_mod (pec_fdiv (pec_ix (pec_var 0) pec_int) pec_int) pec_int)) (pgc_name 1 nd)))))
    (pssc_one (psc_ret (pec_var 1))))), ?_⟩
  intro rs β P h B bx
  rcases h with @⟨β⟩
  change GoR g.K B bx _ [some _, none, none] _ _ _
  refine go_seq1 (go_asg (evr_c fun _ => .int _) ⟨rfl, rfl⟩) ?_
  refine go_seqW (go_for (fun i ρ' β2 => ∃ (n : Int) (o1 : Option Res), ρ' = [some .box, some (.d (.int n)), o1]) (wk_range (evr_c fun _ => .int _) (by decide) (by decide)) (tg_name _) ⟨_, _, rfl⟩ (fun i d hd ρi βi hI => ?_) ?_)
  · obtain ⟨n, o1, rfl⟩ := hI
    have hi : i < 12 := by
      have := (List.getElem?_eq_some_iff.mp hd).1
      rw [rgD_length] at this
      exact this
    rw [rgD_get (by omega)] at hd
    cases hd
    refine ⟨_, rfl, ?_⟩
    refine go_seqW (go_box (k := 1) (fun β => evr_var rfl) (fun β => evr_c fun _ => .int _) (.inr rfl) (evp_of (ev_mod (ev_add (ev_mul (ev_box1 (evr_var rfl) (evr_c fun _ => .int _)) (evr_c fun _ => .int _) (.inr ⟨by decide, by decide⟩)) (evr_c fun _ => .int _)) (evr_c fun _ => .int _) (by decide)) ⟨_, rfl, ?_⟩))
    exact go_asg (ev_add (ev_mul (evr_var rfl) (evr_c fun _ => .int _) (.inr ⟨by decide, by decide⟩)) (ev_mod (ev_fdiv (ev_box1 (evr_var rfl) (evr_c fun _ => .int _)) (evr_c fun _ => .int _) ⟨by decide, by decide⟩) (evr_c fun _ => .int _) (by decide))) ⟨_, _, rfl⟩
  · rintro ρ' β2 ⟨n, o1, rfl⟩
    exact go_ret (evr_var rfl) ⟨_, rfl⟩
inductive T__law_take : List Res → Bx → Post → Prop
  | mk {n : Int} {β : Bx} (h0 : 0 < n) (h1 : n < 1073741824) : T__law_take [.box, .d (.int n)] β fun r _ => ∃ d : Int, r = .d (.int d) ∧ 0 ≤ d ∧ d < n
theorem sc__law_take : FnScope ["_law_box_here", "_law_count", "_law_rest_of", "_law_digit"] ["_law_box_here", "_law_count"] (defScope s__law_take) := ⟨rfl, rfl, rfl, by decide +kernel, rfl, by decide +kernel, by decide +kernel⟩
theorem fn__law_take {g : Gb} (T : Txt g) : FnP g "_law_take" ["_law_box_here", "_law_count"] 2 T__law_take := by
  have nd := sc__law_take.nd
  have c__law_more := fn__law_more T
  refine T.fnP 58 rfl sc__law_take (fun _ _ _ _ _ _ us hl => match us, hl with | [_, _], _ => rfl) (by intro rs β P h; cases h <;> rfl) ⟨_, (pssc_cons (psc_if (ptc_leLt pec_int (pec_ix (pec_var 0) pec_int) (pec_var 1)) (pssc_one (psc_sub (pec_var 0) pec_int (pec_add (pec_ix (pec_var 0) pec_int) (pec_mul (pec_var 1) (pec_fnP c__law_more (pac_cons (pec_var 0) pac_nil)))))) pssc_nil)
    (pssc_cons (psc_asg (pec_divmod T.b_divmod (pec_ix (pec_var 0) pec_int) (pec_var 1)) (pgc_tup (n := 2) (pgsc_cons (pgc_name 2 nd) (pgsc_cons (pgc_name 3 nd) pgsc_nil))))
    (pssc_cons (psc_sub (pec_var 0) pec_int (pec_var 2))
    (pssc_one (psc_ret (pec_var 3)))))), ?_⟩
  intro rs β P h B bx
  clear c__law_more
  rcases h with @⟨n, β, h0, h1⟩
  change GoR g.K B bx _ [some _, some _, none, none] _ _ _
  refine go_seqW (go_mono (N1 := fun ρ' β' => ρ' = [some .box, some (.d (.int n)), none, none]) (go_if (evt_of (ev_leLt (evr_c fun _ => .int _) (ev_box0 (evr_var rfl) (evr_c fun _ => .int _)) (evr_var rfl))) (fun _ => ?_) (fun _ => go_next rfl)) ?_)
  · refine go_box (k := 0) (fun β => evr_var rfl) (fun β => evr_c fun _ => .int _) (.inl rfl) (pbin (evp_of (ev_box0 (evr_var rfl) (evr_c fun _ => .int _)) (pbin (evp_of (evr_vd rfl) (evp_call (eap_cons (evp_of (evr_var rfl) ⟨rfl, eap_nil ⟨_, .mk, ?_⟩⟩)))))))
    rintro r β' ⟨m, rfl⟩
    exact ⟨_, b2_mul (.inl ⟨by omega, by omega⟩), _, b2_add, _, rfl, rfl⟩
  · rintro ρ' β' rfl
    refine go_seq1 (go_asgT (ev_divmod (ev_box0 (evr_var rfl) (evr_c fun _ => .int _)) (evr_var rfl) ⟨h0, h1⟩) (tg_tup (tgs_cons (tg_name _) (tgs_cons (tg_name _) tgs_nil))) rfl ⟨rfl, rfl⟩) ?_
    refine go_seqW (go_box (k := 0) (fun β => evr_var rfl) (fun β => evr_c fun _ => .int _) (.inl rfl) (evp_of (evr_var rfl) ⟨_, rfl, ?_⟩))
    exact go_ret (evr_var rfl) ⟨_, rfl, Int.emod_nonneg _ (by omega), Int.emod_lt_of_pos _ h0⟩
/-- a digit is drawn -/
theorem evp_take {K : PySem.W.Frag} {B : Hp} {bx : Option Addr} {ρ : Env} {β : Bx} {te : TE} {f1 : Bool} {C : Post} {i : Nat} (hb : ρ[i]? = some (some .box)) (h : EvP K B bx te ρ β f1 fun r β1 => ∃ n : Int, r = .d (.int n) ∧ 0 < n ∧ n < 1073741824 ∧ ∀ d : Int, 0 ≤ d → d < n → ∀ β2, C (.d (.int d)) β2) :
    EvP K B bx (tCall (spP K T__law_take) [] E0 (tCons (tVar i) (tCons te tNil))) ρ β true C :=
  evp_call (eap_cons (evp_of (evr_var hb) ⟨rfl, eap_cons (evp_mono h fun r β1 ⟨n, e, h0, h1, g⟩ => by
    subst e
    exact ⟨rfl, eap_nil ⟨_, .mk h0 h1, fun r β' ⟨d, e, d0, d1⟩ => by
      subst e
      exact g d d0 d1 β'⟩⟩)⟩))
/-- .. below a written number -/
theorem evp_takeC {K : PySem.W.Frag} {B : Hp} {bx : Option Addr} {ρ : Env} {β : Bx} {C : Post} {i : Nat} {n : Int} (hb : ρ[i]? = some (some .box)) (h0 : 0 < n) (h1 : n < 1073741824) (g : ∀ d : Int, 0 ≤ d → d < n → ∀ β2, C (.d (.int d)) β2) :
    EvP K B bx (tCall (spP K T__law_take) [] E0 (tCons (tVar i) (tCons (tC (.int n)) tNil))) ρ β true C := evp_take hb (evp_of (evr_c fun _ => .int _) ⟨n, rfl, h0, h1, g⟩)
end K20
set_option maxHeartbeats 4000000
namespace K20
open PySem PySem.Spec PyProof.Rows L2
def sel (y : Yard) (p : Nat → Bool) : List Int := ((zipN y.sg).filter fun q => p q.2).map fun q => (q.1 : Int)
theorem mem_sel {y : Yard} {p : Nat → Bool} {c : Int} (h : c ∈ sel y p) : 0 ≤ c ∧ c < y.sg.length ∧ ∃ m, y.sg[c.toNat]? = some m ∧ p m = true := by
  obtain ⟨q, hq, rfl⟩ := List.mem_map.mp h
  rw [List.mem_filter] at hq
  have e := zipN_get hq.1
  have := (List.getElem?_eq_some_iff.mp e).1
  exact ⟨by omega, by omega, q.2, by simpa using e, hq.2⟩
theorem sel_mem {y : Yard} {p : Nat → Bool} {n m : Nat} (h : y.sg[n]? = some m) (hp : p m = true) : (n : Int) ∈ sel y p :=
  List.mem_map.mpr ⟨(n, m), List.mem_filter.mpr ⟨zipN_mem h, hp⟩, rfl⟩
theorem sel_nd (y : Yard) (p : Nat → Bool) : (sel y p).Nodup := by
  unfold sel
  have h1 : ((zipN y.sg).map (·.1)).Nodup := by
    unfold zipN
    rw [List.map_fst_zip (by rw [List.length_range]; exact Nat.le_refl _)]
    exact List.nodup_range
  have h2 : (zipN y.sg).Pairwise fun a b => a.1 ≠ b.1 := List.pairwise_map.mp h1
  exact List.pairwise_map.mpr ((h2.sublist List.filter_sublist).imp fun h e => h (by omega))
theorem sel_len (y : Yard) (p : Nat → Bool) : (sel y p).length ≤ y.sg.length := by
  unfold sel
  rw [List.length_map]
  exact Nat.le_trans (List.length_filter_le _ _) (by rw [zipN_len]; exact Nat.le_refl _)
theorem wk_signs {K : PySem.W.Frag} {B : Hp} {bx : Option Addr} {ρ : Env} {β : Bx} {ta : TE} {f1 : Bool} {y : Yard} (h : EvR K B bx ta ρ β f1 (.d (.str y.sgS)) β) : WkR K B bx (iEnumS (tCons ta tNil)) ρ β true ((zipN y.sg).map fun p => prD (.int p.1) (.str ⟨#[p.2]⟩)) β :=
  wkr_cast (wk_enumS h) (by
    have : strD y.sgS = y.sg.map fun c => PyData.str ⟨#[c]⟩ := by
      unfold strD Yard.sgS
      rw [List.toList_toArray]
    rw [this]
    exact zipN_enc _ _)
def wallP (m : Nat) : Bool := !decide (m = wallN)
def homeP (m : Nat) : Bool := decide (m = homeN)
theorem sel_wall {y : Yard} {c : Int} (h : c ∈ sel y wallP) : y.cell c := by
  obtain ⟨a, b, m, e, hm⟩ := mem_sel h
  refine ⟨a, b, fun q => ?_⟩
  rw [e] at q
  cases q
  simp [wallP] at hm
theorem wall_ne {y : Yard} (h : y.Ok) : 1 ≤ (sel y wallP).length := by
  obtain ⟨n, hn, hw⟩ := h.w
  obtain ⟨i, hi⟩ := List.mem_iff_getElem?.mp hn
  exact List.length_pos_of_mem (sel_mem hi (by simp [wallP, hw]))
theorem dec_sign (n m : Nat) : decide ((⟨#[n]⟩ : Str) = ⟨#[m]⟩) = decide (n = m) := by
  by_cases h : n = m
  · rw [h]; simp
  · rw [decide_eq_false h, decide_eq_false (fun e => h (one_sign.mp e))]
structure ShutOk (y : Yard) (u : Int × Int × Int) : Prop where
  c : y.cell u.1
  a : 1 ≤ u.2.1
  b : u.2.1 ≤ u.2.2
  l : u.2.2 ≤ 99
theorem code3 (a b c : Int) : TS.code 100 [a, b, c] = a * 10000 + (b * 100 + c) := by
  show a * 100 ^ 2 + (b * 100 ^ 1 + (c * 100 ^ 0 + 0)) = _
  simp
theorem lex3 {a b c a' b' c' : Int} (h : TS.code 100 [a, b, c] ≤ TS.code 100 [a', b', c']) (ne : ([a, b, c] : List Int) ≠ [a', b', c']) (h1 : 0 ≤ b ∧ b < 100) (h2 : 0 ≤ c ∧ c < 100) (h3 : 0 ≤ b' ∧ b' < 100) (h4 : 0 ≤ c' ∧ c' < 100) : HT.lexLt [a, b, c] [a', b', c'] = true := by
  rw [code3, code3] at h
  rw [HT.lexLt_cons, HT.lexLt_cons, HT.lexLt_cons]
  by_cases e1 : a = a'
  · rw [if_pos e1]
    by_cases e2 : b = b'
    · rw [if_pos e2]
      by_cases e3 : c = c'
      · exact absurd (by rw [e1, e2, e3]) ne
      · rw [if_neg e3]; simp; omega
    · rw [if_neg e2]; simp; omega
  · rw [if_neg e1]; simp; omega
theorem putT_len (ks : List (List Int)) (k : List Int) : (putT ks k).length ≤ ks.length + 1 := by
  unfold putT
  split
  · omega
  · rw [List.length_append] <;> simp
theorem putT_mem {ks : List (List Int)} {k k' : List Int} (h : k' ∈ putT ks k) : k' ∈ ks ∨ k' = k := by
  unfold putT at h
  split at h
  · exact .inl h
  · simpa using h
inductive T__law_shuts : List Res → Bx → Post → Prop
  | mk {y : Yard} {β : Bx} (h : y.Ok) : T__law_shuts [.box, .d (encFloors y.floors)] β fun r _ => ∃ us : List (Int × Int × Int), r = .d (.tuple (us.map encShut)) ∧ us.length ≤ 4 ∧ (∀ u ∈ us, ShutOk y u) ∧ us.Pairwise fun a b => HT.lexLt (tri a) (tri b) = true
theorem ints_map (k : List Int) : (k.map PyData.int).map Res.d = k.map fun i => Res.d (.int i) := by rw [List.map_map]; rfl
theorem sc__law_shuts : FnScope ["_law_box_here", "_law_floors", "_law_cells", "_law_at", "_law_sign", "_law_found", "_law_turn", "_law_first"] ["_law_box_here", "_law_floors"] (defScope s__law_shuts) := ⟨rfl, rfl, rfl, by decide +kernel, rfl, by decide +kernel, by decide +kernel⟩
theorem fn__law_shuts {g : Gb} (T : Txt g) : FnP g "_law_shuts" ["_law_box_here", "_law_floors"] 3 T__law_shuts := by
  have nd := sc__law_shuts.nd
  have c__law_take := fn__law_take T
  have c__law_signs := fn__law_signs T
  refine T.fnP 61 rfl sc__law_shuts (fun _ _ _ _ _ _ us hl => match us, hl with | [_, _], _ => rfl) (by intro rs β P h; cases h <;> rfl) ⟨_, (pssc_cons (psc_setLc 2 [("_law_at", 3), ("_law_sign", 4)] nd (pic_enumS T.b_enumerate (pec_fn c__law_signs (pac_cons (pec_tup (pac_cons (pec_var 1) pac_nil)) pac_nil))) (pgc_tup (n := 2) (pgsc_cons (pgc_name 3 nd) (pgsc_cons (pgc_name 4 nd) pgsc_nil))) (ptsc_one (ptc_ne (pec_var 4) pec_str)) (pec_var 3))
    (pssc_cons (psc_asg pec_dnewT (pgc_name 5 nd))
    (pssc_cons (psc_for (pic_range T.b_range (pec_fnP c__law_take (pac_cons (pec_var 0) (pac_cons pec_int pac_nil)))) (pgc_name 6 nd) (pssc_cons (psc_asg (pec_add pec_int (pec_fnP c__law_take (pac_cons (pec_var 0) (pac_cons pec_int pac_nil)))) (pgc_name 7 nd))
    (pssc_one (psc_dput (pec_var 5) (pec_tup (pac_cons (pec_ix (pec_var 2) (pec_fnP c__law_take (pac_cons (pec_var 0) (pac_cons (pec_len T.b_len (pec_var 2)) pac_nil)))) (pac_cons (pec_var 7) (pac_cons (pec_min T.b_min pec_int (pec_add (pec_var 7) (pec_fnP c__law_take (pac_cons (pec_var 0) (pac_cons pec_int pac_nil))))) pac_nil)))) pec_bl))))
    (pssc_one (psc_ret (pec_tuple T.b_tuple (pec_sortedD T.b_sorted (pec_var 5)))))))), ?_⟩
  intro rs β P h B bx
  clear c__law_take
  clear c__law_signs
  rcases h with @⟨y, β, h⟩
  change GoR g.K B bx _ [some _, some _, none, none, none, none, none, none] _ _ _
  have n12 := h.n
  have sl := sel_len y wallP
  have s1 := wall_ne h
  refine go_seq1 (go_asg (r := .l ((sel y wallP).map PyData.int)) (ev_castR (ev_lcIf (xs := zipN y.sg) (enc := fun p => prD (.int p.1) (.str ⟨#[p.2]⟩)) (f := fun p => .int p.1) (fun p => wallP p.2) (wk_signs (ev_callD (dv_cons (ev_tup (dv_cons (evr_var rfl) dv_nil)) dv_nil) (.mk h))) (tg_tup (tgs_cons (tg_name _) (tgs_cons (tg_name _) tgs_nil))) (by decide) (by rw [zipN_len]; omega) fun p hp => ⟨_, rfl, ev_tcast (evt_of (ev_ne (evr_var rfl) (evr_c fun _ => .str _))) (congrArg not (dec_sign p.2 wallN)), fun hp => (evr_var rfl)⟩) (by unfold sel; rw [List.map_map]; rfl)) ⟨rfl, rfl⟩) ?_
  refine go_seq1 (go_asg ev_dnewT ⟨rfl, rfl⟩) ?_
  refine go_seqW (go_forP (tg_name _) (wkp_range (evp_takeC (i := 0) rfl (by decide) (by decide) fun d d0 d1 β2 => ⟨d, rfl, by omega, by omega, fun i ρ' β' => (∃ (ks : List (List Int)) (o1 o2 : Option Res), ρ' = [some .box, some (.d (encFloors y.floors)), some (.l ((sel y wallP).map PyData.int)), none, none, some (.t ks), o1, o2] ∧ ks.length ≤ i ∧ ∀ k ∈ ks, ∃ u, ShutOk y u ∧ k = tri u), ⟨[], _, _, rfl, Nat.le_refl _, fun k h => by cases h⟩, fun i d2 hd ρi βi hI => ?_, ?_⟩)))
  · obtain ⟨ks, o1, o2, rfl, kl, hk⟩ := hI
    have hi : i < 4 := by
      have := (List.getElem?_eq_some_iff.mp hd).1
      rw [rgD_length] at this
      omega
    rw [rgD_get (by have := (List.getElem?_eq_some_iff.mp hd).1; rw [rgD_length] at this; exact this)] at hd
    cases hd
    refine ⟨_, rfl, ?_⟩
    refine go_seqW (go_asgP (pbin (evp_of (evr_c fun _ => .int _) (evp_takeC (i := 0) rfl (by decide) (by decide) fun a a0 a1 β3 => ⟨_, b2_add, ?_⟩))))
    refine go_dput (i := 5) rfl (by omega) (eap_cons (pbin (evp_of (evr_vl rfl) (evp_take (i := 0) rfl (evp_of (ev_lenL (evr_var rfl)) ⟨_, rfl, by rw [List.length_map]; omega, by rw [List.length_map]; omega, fun c c0 c1 β4 => ?_⟩)))))
    rw [List.length_map] at c1
    have hc : c.toNat < (sel y wallP).length := by omega
    refine ⟨.int (sel y wallP)[c.toNat], b2_ix (ds := (sel y wallP).map PyData.int) rfl (atN (n := c.toNat) (by omega) (by rw [List.getElem?_map, List.getElem?_eq_getElem hc]; rfl)), rfl, ?_⟩
    refine eap_cons (evp_of (evr_var rfl) ⟨rfl, eap_cons (pmin (evp_of (evr_c fun _ => .int _) (pbin (evp_of (evr_vd rfl) (evp_takeC (i := 0) rfl (by decide) (by decide) fun b b0 b1 β5 => ⟨_, b2_add, _, _, rfl, rfl, rfl, eap_nil ⟨tri ((sel y wallP)[c.toNat], 1 + a, if 1 + a + b < 99 then 1 + a + b else 99), rfl, by simp, ?_⟩⟩)))))⟩)
    refine ⟨_, _, _, rfl, ?_, fun k hk2 => ?_⟩
    · have := putT_len ks (tri ((sel y wallP)[c.toNat], 1 + a, if 1 + a + b < 99 then 1 + a + b else 99))
      omega
    · rcases putT_mem hk2 with q | q
      · exact hk k q
      · exact ⟨_, ⟨sel_wall (List.getElem_mem hc), by show 1 ≤ 1 + a; omega, by show 1 + a ≤ (if 1 + a + b < 99 then 1 + a + b else 99); split <;> omega, by show (if 1 + a + b < 99 then 1 + a + b else 99) ≤ 99; split <;> omega⟩, q⟩
  · rintro ρ' β' ⟨ks, o1, o2, rfl, kl, hk⟩
    rw [rgD_length] at kl
    refine go_retP (evr_sortD (i := 5) rfl (by omega) (fun k hk2 => ?_) fun L pm nd ord => ?_)
    · obtain ⟨u, hu, rfl⟩ := hk k hk2
      refine ⟨rfl, fun m hm => ?_⟩
      have := hu.a; have := hu.b; have := hu.l; have := hu.c.1; have := hu.c.2.1
      simp only [List.mem_cons, or_false, List.not_mem_nil] at hm
      rcases hm with rfl | rfl | rfl <;> omega
    · have hL : ∀ k ∈ L, ∃ u, ShutOk y u ∧ k = tri u := fun k hk2 => hk k (pm.mem_iff.mp hk2)
      have : ∀ M : List (List Int), (∀ k ∈ M, ∃ u, ShutOk y u ∧ k = tri u) → ∃ us : List (Int × Int × Int), M = us.map tri ∧ ∀ u ∈ us, ShutOk y u := by
        intro M
        induction M with
        | nil => intro _; exact ⟨[], rfl, fun u h => by cases h⟩
        | cons k M ih =>
          intro hM
          obtain ⟨u, hu, e⟩ := hM k List.mem_cons_self
          obtain ⟨us, e2, h2⟩ := ih fun z hz => hM z (List.mem_cons_of_mem _ hz)
          refine ⟨u :: us, by rw [e, e2]; rfl, fun z hz => ?_⟩
          rcases List.mem_cons.mp hz with q | q
          · rw [q]; exact hu
          · exact h2 z q
      obtain ⟨us, rfl, hus⟩ := this L hL
      refine ⟨us, by rw [List.map_map]; rfl, ?_, hus, ?_⟩
      · have := pm.length_eq
        rw [List.length_map] at this
        omega
      · have o2 := List.pairwise_map.mp ord
        have n2 : us.Pairwise fun a b => tri a ≠ tri b := List.pairwise_map.mp nd
        refine (List.Pairwise.and o2 n2).imp_of_mem fun {a b} ha hb ⟨q1, q2⟩ => ?_
        have p := hus a ha; have q := hus b hb
        have := p.a; have := p.b; have := p.l; have := q.a; have := q.b; have := q.l
        exact lex3 q1 q2 (by omega) (by omega) (by omega) (by omega)
end K20
set_option maxHeartbeats 4000000
namespace K20
open PySem PySem.Spec PyProof.Rows L2
theorem perm_pop {α : Type} : ∀ {l : List α} {n : Nat} (h : n < l.length), (l[n] :: l.eraseIdx n).Perm l
  | [], n, h => absurd h (by simp)
  | a :: l, 0, h => List.Perm.refl _
  | a :: l, n + 1, h => by
    rw [List.eraseIdx_cons_succ, List.getElem_cons_succ]
    exact (List.Perm.swap _ _ _).trans ((perm_pop (by simpa using h)).cons a)
theorem nd_pop {hs fs : List Int} {n : Nat} (h : n < hs.length) (nd : (hs ++ fs).Nodup) : (hs.eraseIdx n ++ (fs ++ [hs[n]])).Nodup := by
  have p1 : (hs.eraseIdx n ++ (fs ++ [hs[n]])).Perm (hs ++ fs) := by
    refine List.Perm.trans ?_ ((perm_pop h).append_right fs)
    rw [← List.append_assoc, List.cons_append]
    exact List.perm_append_singleton _ _
  exact p1.nodup_iff.mpr nd
theorem erase_map {α : Type} (f : α → D) (l : List α) (n : Nat) : (l.map f).eraseIdx n = (l.eraseIdx n).map f := by
  induction l generalizing n with
  | nil => rfl
  | cons a l ih =>
    cases n with
    | zero => rfl
    | succ n => rw [List.map_cons, List.eraseIdx_cons_succ, ih, List.eraseIdx_cons_succ, List.map_cons]
inductive T__law_shelves : List Res → Bx → Post → Prop
  | mk {y : Yard} {β : Bx} (h : y.Ok) : T__law_shelves [.box, .d (encYard y)] β fun r _ => ∃ sh : List Shelf, r = .d (.tuple (sh.map encShelf)) ∧ ShOk y sh
theorem sc__law_shelves : FnScope ["_law_box_here", "_law_yard_here", "_law_homes_here", "_law_at", "_law_sign", "_law_goods", "_law_found", "_law_turn", "_law_home", "_law_stock", "_law_good"] ["_law_box_here", "_law_yard_here"] (defScope s__law_shelves) := ⟨rfl, rfl, rfl, by decide +kernel, rfl, by decide +kernel, by decide +kernel⟩
theorem fn__law_shelves {g : Gb} (T : Txt g) : FnP g "_law_shelves" ["_law_box_here", "_law_yard_here"] 3 T__law_shelves := by
  have nd := sc__law_shelves.nd
  have c__law_take := fn__law_take T
  have c__law_signs := fn__law_signs T
  refine T.fnP 62 rfl sc__law_shelves (fun _ _ _ _ _ _ us hl => match us, hl with | [_, _], _ => rfl) (by intro rs β P h; cases h <;> rfl) ⟨_, (pssc_cons (psc_setLc 2 [("_law_at", 3), ("_law_sign", 4)] nd (pic_enumS T.b_enumerate (pec_fn c__law_signs (pac_cons (pec_var 1) pac_nil))) (pgc_tup (n := 2) (pgsc_cons (pgc_name 3 nd) (pgsc_cons (pgc_name 4 nd) pgsc_nil))) (ptsc_one (ptc_eq (pec_var 4) pec_str)) (pec_var 3))
    (pssc_cons (psc_par (i := 5) (j := 6) nd (pac_cons (pec_add pec_int (pec_fnP c__law_take (pac_cons (pec_var 0) (pac_cons pec_int pac_nil)))) (pac_cons (pec_lst pac_nil) pac_nil)))
    (pssc_cons (psc_for (pic_range T.b_range (pec_min T.b_min (pec_len T.b_len (pec_var 2)) (pec_fnP c__law_take (pac_cons (pec_var 0) (pac_cons pec_int pac_nil))))) (pgc_name 7 nd) (pssc_cons (psc_asg (pec_popAt (pec_var 2) (pec_fnP c__law_take (pac_cons (pec_var 0) (pac_cons (pec_len T.b_len (pec_var 2)) pac_nil)))) (pgc_name 8 nd))
    (pssc_cons (psc_asg (pec_tuple T.b_tuple (pec_lc [("_law_good", 10)] nd (pic_range T.b_range (pec_var 5)) (pgc_name 10 nd) ptsc_nil (pec_ix (pec_lst (pac_cons pec_int (pac_cons (pec_fnP c__law_take (pac_cons (pec_var 0) (pac_cons pec_int pac_nil))) (pac_cons (pec_fnP c__law_take (pac_cons (pec_var 0) (pac_cons pec_int pac_nil))) pac_nil)))) (pec_fnP c__law_take (pac_cons (pec_var 0) (pac_cons pec_int pac_nil)))))) (pgc_name 9 nd))
    (pssc_one (psc_expr (pec_append (pec_var 6) (pec_tup (pac_cons (pec_var 8) (pac_cons (pec_var 9) pac_nil)))))))))
    (pssc_one (psc_ret (pec_tuple T.b_tuple (pec_var 6))))))), ?_⟩
  intro rs β P h B bx
  clear c__law_take
  clear c__law_signs
  rcases h with @⟨y, β, h⟩
  change GoR g.K B bx _ [some _, some _, none, none, none, none, none, none, none, none, none] _ _ _
  have n12 := h.n
  have sl := sel_len y homeP
  refine go_seq1 (go_asg (r := .l ((sel y homeP).map PyData.int)) (ev_castR (ev_lcIf (xs := zipN y.sg) (enc := fun p => prD (.int p.1) (.str ⟨#[p.2]⟩)) (f := fun p => .int p.1) (fun p => homeP p.2) (wk_signs (ev_callD (dv_cons (evr_var rfl) dv_nil) (.mk h))) (tg_tup (tgs_cons (tg_name _) (tgs_cons (tg_name _) tgs_nil))) (by decide) (by rw [zipN_len]; omega) fun p hp => ⟨_, rfl, ev_tcast (evt_of (ev_eq (evr_var rfl) (evr_c fun _ => .str _))) (dec_sign p.2 homeN), fun hp => (evr_var rfl)⟩) (by unfold sel; rw [List.map_map]; rfl)) ⟨rfl, rfl⟩) ?_
  refine go_seqW (go_parP (pbin (evp_of (evr_c fun _ => .int _) (evp_takeC (i := 0) rfl (by decide) (by decide) fun g0 a0 a1 β2 => ⟨_, b2_add, evp_of (ev_lst dv_nil) ?_⟩))))
  obtain ⟨gn, hg⟩ : ∃ gn : Nat, 1 + g0 = gn := ⟨(1 + g0).toNat, by omega⟩
  rw [hg]
  have gb : 1 ≤ gn ∧ gn ≤ 3 := by omega
  refine go_seqW (go_forP (tg_name _) (wkp_range (pmin (evp_of (ev_lenL (evr_vl rfl)) (evp_takeC (i := 0) rfl (by decide) (by decide) fun d d0 d1 β3 => ⟨_, _, rfl, rfl, _, rfl, ?_, ?_, fun i ρ' β' => (∃ (hs : List Int) (fs : List Shelf) (o7 o8 o9 : Option Res), ρ' = [some .box, some (.d (encYard y)), some (.l (hs.map PyData.int)), none, none, some (.d (.int gn)), some (.l (fs.map encShelf)), o7, o8, o9, none] ∧ hs.length + i = (sel y homeP).length ∧ (hs ++ fs.map (·.home)).Nodup ∧ (∀ c ∈ hs, c ∈ sel y homeP) ∧ fs.length = i ∧ ∀ b ∈ fs, ShelfOk y gn b), ⟨sel y homeP, [], _, _, _, rfl, rfl, by simpa using sel_nd y homeP, fun c h => h, rfl, fun b h => by cases h⟩, fun i d2 hd ρi βi hI => ?_, ?_⟩)))))
  · rw [List.length_map]; split <;> omega
  · rw [List.length_map]; split <;> omega
  · obtain ⟨hs, fs, o7, o8, o9, rfl, hl, nd, hm, fl, hf⟩ := hI
    have hi0 := (List.getElem?_eq_some_iff.mp hd).1
    rw [rgD_length] at hi0
    have hi : i < (sel y homeP).length ∧ i < 4 := by
      rw [List.length_map] at hi0
      split at hi0 <;> omega
    rw [rgD_get hi0] at hd
    cases hd
    refine ⟨_, rfl, ?_⟩
    refine go_seqW (go_pop (j := 2) rfl (by rw [List.length_map]; omega) (evp_take (i := 0) rfl (evp_of (ev_lenL (evr_vl rfl)) ⟨_, rfl, by rw [List.length_map]; omega, by rw [List.length_map]; omega, fun c c0 c1 β4 => ?_⟩)))
    rw [List.length_map] at c1
    obtain ⟨cn, rfl⟩ : ∃ cn : Nat, c = cn := ⟨c.toNat, by omega⟩
    have hc : cn < hs.length := by omega
    refine ⟨cn, .int hs[cn], rfl, by rw [List.getElem?_map, List.getElem?_eq_getElem hc]; rfl, ?_⟩
    rw [erase_map]
    refine go_seqW (go_asgP (ptupL (evp_lc (fr := true) (fun i β acc => ∃ vs : List Int, acc = vs.map PyData.int ∧ vs.length = i ∧ ∀ v ∈ vs, 0 ≤ v ∧ v ≤ 99) (wk_range (evr_vd rfl) (by omega) (by omega)) (tg_name _) (by decide) (by rw [rgD_length]; omega) ⟨[], rfl, rfl, fun v h => by cases h⟩ (fun j d3 hd3 βj acc hJ => ?_) ?_)))
    · obtain ⟨vs, rfl, vl, hv⟩ := hJ
      refine ⟨_, rfl, etp_yes ⟨fun _ => ?_, (fun h => by cases h)⟩⟩
      refine pbin (plst (eap_cons (evp_of (evr_c fun _ => .int _) ⟨rfl, eap_cons (evp_takeC (i := 0) rfl (by decide) (by decide) fun a a0 a1 β5 => ⟨rfl, eap_cons (evp_takeC (i := 0) rfl (by decide) (by decide) fun b b0 b1 β6 => ⟨rfl, eap_nil ⟨[.int 0, .int a, .int b], rfl, by simp, evp_takeC (i := 0) rfl (by decide) (by decide) fun e e0 e1 β7 => ?_⟩⟩)⟩)⟩)))
      have new : ∀ v : Int, 0 ≤ v → v ≤ 99 → ∃ z, Res.d (.int v) = .d z ∧ ∃ ws : List Int, vs.map PyData.int ++ [z] = ws.map PyData.int ∧ ws.length = j + 1 ∧ ∀ v ∈ ws, 0 ≤ v ∧ v ≤ 99 := fun v v0 v1 => ⟨_, rfl, vs ++ [v], by rw [List.map_append]; rfl, by simp [vl], fun w hw => by
        rcases List.mem_append.mp hw with q | q
        · exact hv w q
        · simp only [List.mem_singleton] at q
          rw [q]; exact ⟨v0, v1⟩⟩
      have : e = 0 ∨ e = 1 ∨ e = 2 := by omega
      rcases this with rfl | rfl | rfl
      · exact ⟨_, b2_ix rfl at0, new 0 (by omega) (by omega)⟩
      · exact ⟨_, b2_ix rfl (atN (n := 1) rfl rfl), new a (by omega) (by omega)⟩
      · exact ⟨_, b2_ix rfl (atN (n := 2) rfl rfl), new b (by omega) (by omega)⟩
    · rintro β5 acc ⟨vs, rfl, vl, hv⟩
      rw [rgD_length] at vl
      refine ⟨_, rfl, ?_⟩
      refine go_appendP (i := 6) rfl (by rw [List.length_map]; omega) (evp_of (ev_tup (dv_cons (evr_var rfl) (dv_cons (evr_var rfl) dv_nil))) ⟨_, rfl, hs.eraseIdx cn, fs ++ [⟨hs[cn], vs⟩], _, _, _, by rw [List.map_append]; rfl, ?_, ?_, fun c hc2 => hm c (List.mem_of_mem_eraseIdx hc2), by simp [fl], fun b hb => ?_⟩)
      · rw [List.length_eraseIdx, if_pos hc]; omega
      · rw [List.map_append]
        exact nd_pop hc nd
      · rcases List.mem_append.mp hb with q | q
        · exact hf b q
        · simp only [List.mem_singleton] at q
          subst q
          obtain ⟨p0, p1, m, em, hm2⟩ := mem_sel (hm _ (List.getElem_mem hc))
          have em2 : m = homeN := by simpa [homeP] using hm2
          subst em2
          exact ⟨⟨p0, p1, by show y.sg[hs[cn].toNat]? ≠ _; rw [em]; decide⟩, em, by show vs.length = gn; omega, hv⟩
  · rintro ρ' β' ⟨hs, fs, o7, o8, o9, rfl, hl, nd, hm, fl, hf⟩
    have f4 : fs.length ≤ 4 := by
      rw [rgD_length, List.length_map] at fl
      split at fl <;> omega
    have ge : fs ≠ [] → goodsL fs = gn := fun hne => by
      cases fs with
      | nil => exact absurd rfl hne
      | cons b l => exact (hf b (by simp)).g
    have g1 : 1 ≤ goodsL fs ∧ goodsL fs ≤ 3 := by
      by_cases hne : fs = []
      · rw [hne]; exact ⟨Nat.le_refl 1, by decide⟩
      · rw [ge hne]; exact gb
    exact go_ret (ev_tupleL (evr_var rfl)) ⟨fs, rfl, f4, fun b hb => by rw [ge (fun e => by rw [e] at hb; cases hb)]; exact hf b hb, g1.1, g1.2, (List.nodup_append.mp nd).2.1⟩
def calm1 (sh : List Shelf) (cs : List Car) : List Car := cs.map fun c => if c.cell ∈ openH sh (loadsL cs) then { c with load := none } else c
inductive R__law_calmed : List Res → Bx → Res → Bx → Prop
  | mk {sh : List Shelf} {cs : List Car} {β : Bx} (h1 : sh.length ≤ 100) (h2 : cs.length ≤ 100) : R__law_calmed [.d (.tuple (sh.map encShelf)), .d (.tuple (cs.map encCar))] β (.d (.tuple ((calm1 sh (calm1 sh (calm1 sh (calm1 sh cs)))).map encCar))) β
theorem inD_loads (n : Int) (cs : List Car) : inD (.int n) (cs.map fun c => encO c.load) = decide (n ∈ loadsL cs) := by
  induction cs with
  | nil => simp [inD, loadsL]
  | cons c cs ih =>
    unfold inD at ih ⊢
    rw [List.map_cons, List.any_cons, ih]
    unfold loadsL
    rw [List.filterMap_cons]
    cases hl : c.load with
    | none => rfl
    | some l =>
      show ((l == n) || _) = decide (n ∈ l :: _)
      by_cases e : l = n
      · subst e; simp
      · have e1 : (l == n) = false := by simpa using e
        rw [e1, Bool.false_or]
        by_cases e2 : n ∈ cs.filterMap (·.load)
        · rw [decide_eq_true e2, decide_eq_true (List.mem_cons_of_mem _ e2)]
        · rw [decide_eq_false e2, decide_eq_false]
          intro q
          rcases List.mem_cons.mp q with q | q
          · exact e q.symm
          · exact e2 q
theorem fl_loads (cs : List Car) : (cs.map fun c => encO c.load).all fl1 = true := by
  rw [List.all_eq_true]
  intro d hd
  obtain ⟨c, _, rfl⟩ := List.mem_map.mp hd
  cases c.load <;> rfl
def calmN (sh : List Shelf) (cs : List Car) : Nat → List Car
  | 0 => cs
  | n + 1 => calm1 sh (calmN sh cs n)
theorem calmN_len (sh : List Shelf) (cs : List Car) : ∀ n : Nat, (calmN sh cs n).length = cs.length
  | 0 => rfl
  | n + 1 => by
    show (calm1 sh (calmN sh cs n)).length = _
    unfold calm1
    rw [List.length_map, calmN_len sh cs n]
theorem sc__law_calmed : FnScope ["_law_shelves_here", "_law_carriers_here", "_law_lap", "_law_loads", "_law_one", "_law_homes_here", "_law_shelf", "_law_home", "_law_stock"] ["_law_shelves_here", "_law_carriers_here"] (defScope s__law_calmed) := ⟨rfl, rfl, rfl, by decide +kernel, rfl, by decide +kernel, by decide +kernel⟩
theorem fn__law_calmed {g : Gb} (T : Txt g) : FnX g "_law_calmed" ["_law_shelves_here", "_law_carriers_here"] 1 R__law_calmed := by
  have nd := sc__law_calmed.nd
  refine T.fnX 64 rfl sc__law_calmed (fun _ _ _ _ _ _ us hl => match us, hl with | [_, _], _ => rfl) (by intro rs β r β' h; cases h <;> rfl) ⟨_, (pssc_cons (psc_for (pic_range T.b_range pec_int) (pgc_name 2 nd) (pssc_cons (psc_asg (pec_lc [("_law_one", 4)] nd (pic_tup (pec_var 1)) (pgc_name 4 nd) ptsc_nil (pec_ix (pec_var 4) pec_int)) (pgc_name 3 nd))
    (pssc_cons (psc_asg (pec_lc [("_law_shelf", 6), ("_law_home", 7), ("_law_stock", 8)] nd (pic_enumT T.b_enumerate (pec_var 0)) (pgc_tup (n := 2) (pgsc_cons (pgc_name 6 nd) (pgsc_cons (pgc_tup (n := 2) (pgsc_cons (pgc_name 7 nd) (pgsc_cons (pgc_name 8 nd) pgsc_nil))) pgsc_nil))) (ptsc_one (ptc_nin (pec_var 6) (pec_var 3))) (pec_var 7)) (pgc_name 5 nd))
    (pssc_one (psc_asg (pec_tuple T.b_tuple (pec_lc [("_law_one", 4)] nd (pic_tup (pec_var 1)) (pgc_name 4 nd) ptsc_nil (pec_if (ptc_nin (pec_ix (pec_var 4) pec_int) (pec_var 5)) (pec_var 4) (pec_tup (pac_cons (pec_ix (pec_var 4) pec_int) (pac_cons (pec_ix (pec_var 4) pec_int) (pac_cons pec_non (pac_cons (pec_ix (pec_var 4) pec_int) pac_nil)))))))) (pgc_name 1 nd))))))
    (pssc_one (psc_ret (pec_var 1)))), ?_⟩
  intro rs β r β' h B bx
  rcases h with @⟨sh, cs, β, h1, h2⟩
  change GoR g.K B bx _ [some _, some _, none, none, none, none, none, none, none] _ _ _
  refine go_seqW (go_for (fun i ρ' β' => (∃ (o1 o2 o3 : Option Res), ρ' = [some (.d (.tuple (sh.map encShelf))), some (.d (.tuple ((calmN sh cs i).map encCar))), o1, o2, none, o3, none, none, none]) ∧ β' = β) (wk_range (evr_c fun _ => .int _) (by decide) (by decide)) (tg_name _) ⟨⟨_, _, _, rfl⟩, rfl⟩ (fun i d hd ρi βi hI => ?_) ?_)
  · obtain ⟨⟨o1, o2, o3, rfl⟩, rfl⟩ := hI
    have hi : i < 4 := by
      have := (List.getElem?_eq_some_iff.mp hd).1
      rw [rgD_length] at this
      exact this
    rw [rgD_get (by omega)] at hd
    cases hd
    have cl := calmN_len sh cs i
    refine ⟨_, rfl, ?_⟩
    refine go_seq1 (go_asg (ev_lc (xs := calmN sh cs i) (enc := encCar) (f := fun c => encO c.load) (wk_tup (evr_var rfl)) (tg_name _) (by decide) (by omega) fun y hy => ⟨_, rfl, (ev_ixT (evr_var rfl) (evr_c fun _ => .int _) rfl)⟩) ⟨rfl, rfl⟩) ?_
    refine go_seq1 (go_asg (r := .l ((openH sh (loadsL (calmN sh cs i))).map PyData.int)) (ev_castR (ev_lcIf (xs := zipN sh) (enc := fun p => prD (.int p.1) (encShelf p.2)) (f := fun p => .int p.2.home) (fun p => !decide ((p.1 : Int) ∈ loadsL (calmN sh cs i))) (wk_enumZ (evr_var rfl)) (tg_tup (tgs_cons (tg_name _) (tgs_cons (tg_tup (tgs_cons (tg_name _) (tgs_cons (tg_name _) tgs_nil))) tgs_nil))) (by decide) (by rw [zipN_len]; omega) fun p hp => ⟨_, rfl, ev_tcast (evt_of (ev_nin (evr_var rfl) (evr_var rfl) rfl (fl_loads _))) (by rw [inD_loads]), fun hp => (evr_var rfl)⟩) (by unfold openH; rw [List.map_map]; rfl)) ⟨rfl, rfl⟩) ?_
    refine go_asg (ev_cast (ev_tupleL (ev_lc (xs := calmN sh cs i) (enc := encCar) (f := fun c => encCar (if c.cell ∈ openH sh (loadsL (calmN sh cs i)) then { c with load := none } else c)) (wk_tup (evr_var rfl)) (tg_name _) (by decide) (by omega) fun c hc => ⟨_, rfl, ?_⟩)) ?_) ⟨⟨_, _, _, rfl⟩, rfl⟩
    · by_cases hin : c.cell ∈ openH sh (loadsL (calmN sh cs i))
      · refine evr_if (c := false) (ev_tcast (evt_of (ev_nin (ds := (openH sh (loadsL (calmN sh cs i))).map PyData.int) (ev_ixT (d := .int c.cell) (evr_var rfl) (evr_c fun _ => .int _) rfl) (evr_var rfl) rfl (fl_ints _))) (by rw [inD_ints]; simp [hin])) (fun h => by cases h) (fun _ => ev_cast (ev_tup (dv_cons (ev_ixT (d := .int c.cell) (evr_var rfl) (evr_c fun _ => .int _) rfl) (dv_cons (ev_ixT (d := .int c.charge) (evr_var rfl) (evr_c fun _ => .int _) rfl) (dv_cons (evr_c fun _ => .non) (dv_cons (ev_ixT (d := .bool c.broken) (evr_var rfl) (evr_c fun _ => .int _) rfl) dv_nil))))) (by rw [if_pos hin]; rfl))
      · refine evr_if (c := true) (ev_tcast (evt_of (ev_nin (ds := (openH sh (loadsL (calmN sh cs i))).map PyData.int) (ev_ixT (d := .int c.cell) (evr_var rfl) (evr_c fun _ => .int _) rfl) (evr_var rfl) rfl (fl_ints _))) (by rw [inD_ints]; simp [hin])) (fun _ => ev_cast (evr_vd rfl) (by rw [if_neg hin])) (fun h => by cases h)
    · show _ = PyData.tuple ((calm1 sh (calmN sh cs i)).map encCar)
      unfold calm1
      rw [List.map_map]; rfl
  · rintro ρ' β' ⟨⟨o1, o2, o3, rfl⟩, rfl⟩
    exact go_retV rfl ⟨rfl, rfl⟩
end K20
set_option maxHeartbeats 4000000
namespace K20
open PySem PySem.Spec PyProof.Rows L2
def wipeS (S : List Int) (cs : List Car) : List Car := cs.map fun c => if c.cell ∈ S then { c with load := none } else c
theorem wipeS_sub (S : List Int) : ∀ cs : List Car, (loadsL (wipeS S cs)).Sublist (loadsL cs)
  | [] => List.Sublist.refl _
  | c :: cs => by
    have ih := wipeS_sub S cs
    unfold loadsL wipeS at ih ⊢
    rw [List.map_cons, List.filterMap_cons, List.filterMap_cons]
    by_cases h : c.cell ∈ S
    · rw [if_pos h]
      show List.Sublist (List.filterMap _ _) _
      cases c.load with
      | none => exact ih
      | some l => exact ih.cons _
    · rw [if_neg h]
      cases c.load with
      | none => exact ih
      | some l => exact ih.cons_cons _
theorem wipeS_or (S : List Int) : ∀ cs : List Car, wipeS S cs = cs ∨ (loadsL (wipeS S cs)).length < (loadsL cs).length
  | [] => .inl rfl
  | c :: cs => by
    have ih := wipeS_or S cs
    have sub := (wipeS_sub S cs).length_le
    unfold loadsL wipeS at ih sub ⊢
    rw [List.map_cons, List.filterMap_cons, List.filterMap_cons]
    by_cases h : c.cell ∈ S
    · rw [if_pos h]
      obtain ⟨cell, charge, load, broken⟩ := c
      cases load with
      | none =>
        rcases ih with e | e
        · left; rw [e]
        · right; exact e
      | some l =>
        right
        show (List.filterMap _ _).length < (l :: List.filterMap _ _).length
        rw [List.length_cons]
        omega
    · rw [if_neg h]
      rcases ih with e | e
      · left; rw [e]
      · right
        cases c.load with
        | none => exact e
        | some l =>
          show (l :: List.filterMap _ _).length < (l :: List.filterMap _ _).length
          rw [List.length_cons]; rw [List.length_cons]
          omega
theorem calm1_eq (sh : List Shelf) (cs : List Car) : calm1 sh cs = wipeS (openH sh (loadsL cs)) cs := rfl
theorem calmN_comm (sh : List Shelf) (cs : List Car) : ∀ n : Nat, calmN sh (calm1 sh cs) n = calmN sh cs (n + 1)
  | 0 => rfl
  | n + 1 => by
    show calm1 sh (calmN sh (calm1 sh cs) n) = _
    rw [calmN_comm sh cs n]; rfl
theorem calm_fix (sh : List Shelf) : ∀ (n : Nat) (cs : List Car), (loadsL cs).length ≤ n → calm1 sh (calmN sh cs n) = calmN sh cs n
  | 0, cs, h => by
    rcases wipeS_or (openH sh (loadsL cs)) cs with e | e
    · exact e
    · omega
  | n + 1, cs, h => by
    rcases wipeS_or (openH sh (loadsL cs)) cs with e | e
    · have e' : calm1 sh cs = cs := e
      have all : ∀ k : Nat, calmN sh cs k = cs := fun k => by
        induction k with
        | zero => rfl
        | succ k ih => show calm1 sh (calmN sh cs k) = cs; rw [ih, e']
      rw [all, e']
    · have e' : (loadsL (calm1 sh cs)).length < (loadsL cs).length := e
      have := calm_fix sh n (calm1 sh cs) (by omega)
      rw [calmN_comm] at this
      exact this
structure Pre (y : Yard) (n : Nat) (cs : List Car) : Prop where
  cars : ∀ c ∈ cs, CarOk y n c
  cn : (cs.map (·.cell)).Nodup
  ln : (loadsL cs).Nodup
theorem Pre.calm {y : Yard} {n : Nat} {cs : List Car} {sh : List Shelf} (h : Pre y n cs) : Pre y n (calm1 sh cs) := by
  refine ⟨fun c' hc' => ?_, ?_, h.ln.sublist (wipeS_sub _ _)⟩
  · obtain ⟨c, hc, rfl⟩ := List.mem_map.mp hc'
    have k := h.cars c hc
    show CarOk y n (if _ then _ else _)
    split
    · exact ⟨k.cell, k.c0, k.c1, fun l e => by cases e⟩
    · exact k
  · have : (calm1 sh cs).map (·.cell) = cs.map (·.cell) := by
      unfold calm1
      rw [List.map_map]
      refine List.map_congr_left fun c _ => ?_
      show (if _ then _ else _ : Car).cell = _
      split <;> rfl
    rw [this]; exact h.cn
theorem calm_ok {y : Yard} {sh : List Shelf} {cs : List Car} (h : Pre y sh.length cs) (h1 : 1 ≤ cs.length) (h3 : cs.length ≤ 3) : CsOk y sh (calm1 sh (calm1 sh (calm1 sh (calm1 sh cs)))) := by
  have ll := load_le cs
  have f : calm1 sh (calmN sh cs 3) = calmN sh cs 3 := calm_fix sh 3 cs (by omega)
  have e : calm1 sh (calm1 sh (calm1 sh (calm1 sh cs))) = calmN sh cs 3 := f
  have len := calmN_len sh cs 3
  have p : Pre y sh.length (calmN sh cs 3) := h.calm.calm.calm
  rw [e]
  refine ⟨by omega, by omega, p.cars, p.cn, p.ln, fun c hc => ?_⟩
  by_cases ho : c.cell ∈ openH sh (loadsL (calmN sh cs 3))
  · left
    obtain ⟨i, hi⟩ := List.mem_iff_getElem?.mp hc
    have q : (calm1 sh (calmN sh cs 3))[i]? = some c := by rw [f]; exact hi
    unfold calm1 at q
    rw [List.getElem?_map, hi] at q
    have q2 : (if c.cell ∈ openH sh (loadsL (calmN sh cs 3)) then { c with load := none } else c) = c := Option.some.inj q
    rw [if_pos ho] at q2
    rw [← q2]
  · exact .inr ho
def encCarL (c : Car) : List D := [.int c.cell, .int c.charge, encO c.load, .bool c.broken]
inductive T__law_carriers : List Res → Bx → Post → Prop
  | mk {y : Yard} {sh : List Shelf} {β : Bx} (h : y.Ok) (hs : ShOk y sh) : T__law_carriers [.box, .d (encYard y), .d (.tuple (sh.map encShelf))] β fun r _ => ∃ cs : List Car, r = .d (.tuple (cs.map encCar)) ∧ CsOk y sh cs
theorem sc__law_carriers : FnScope ["_law_box_here", "_law_yard_here", "_law_shelves_here", "_law_cells", "_law_at", "_law_sign", "_law_free", "_law_found", "_law_turn", "_law_cell", "_law_load", "_law_top"] ["_law_box_here", "_law_yard_here", "_law_shelves_here"] (defScope s__law_carriers) := ⟨rfl, rfl, rfl, by decide +kernel, rfl, by decide +kernel, by decide +kernel⟩
theorem fn__law_carriers {g : Gb} (T : Txt g) : FnP g "_law_carriers" ["_law_box_here", "_law_yard_here", "_law_shelves_here"] 3 T__law_carriers := by
  have nd := sc__law_carriers.nd
  have c__law_calmed := fn__law_calmed T
  have c__law_signs := fn__law_signs T
  have c__law_take := fn__law_take T
  refine T.fnP 63 rfl sc__law_carriers (fun _ _ _ _ _ _ us hl => match us, hl with | [_, _, _], _ => rfl) (by intro rs β P h; cases h <;> rfl) ⟨_, (pssc_cons (psc_setLc 3 [("_law_at", 4), ("_law_sign", 5)] nd (pic_enumS T.b_enumerate (pec_fn c__law_signs (pac_cons (pec_var 1) pac_nil))) (pgc_tup (n := 2) (pgsc_cons (pgc_name 4 nd) (pgsc_cons (pgc_name 5 nd) pgsc_nil))) (ptsc_one (ptc_ne (pec_var 5) pec_str)) (pec_var 4))
    (pssc_cons (psc_par (i := 6) (j := 7) nd (pac_cons (pec_listRg T.b_list T.b_range (pec_len T.b_len (pec_var 2))) (pac_cons (pec_lst pac_nil) pac_nil)))
    (pssc_cons (psc_for (pic_range T.b_range (pec_min T.b_min (pec_len T.b_len (pec_var 3)) (pec_add pec_int (pec_fnP c__law_take (pac_cons (pec_var 0) (pac_cons pec_int pac_nil)))))) (pgc_name 8 nd) (pssc_cons (psc_par (i := 9) (j := 10) nd (pac_cons (pec_popAt (pec_var 3) (pec_fnP c__law_take (pac_cons (pec_var 0) (pac_cons (pec_len T.b_len (pec_var 3)) pac_nil)))) (pac_cons pec_non pac_nil)))
    (pssc_cons (psc_if (ptc_w (pwc_and (ptc_neD (pec_var 6) (pec_lst pac_nil)) (pwc_and1 (ptc_eq (pec_fnP c__law_take (pac_cons (pec_var 0) (pac_cons pec_int pac_nil))) pec_int)))) (pssc_one (psc_asg (pec_popAt (pec_var 6) (pec_fnP c__law_take (pac_cons (pec_var 0) (pac_cons (pec_len T.b_len (pec_var 6)) pac_nil)))) (pgc_name 10 nd))) pssc_nil)
    (pssc_cons (psc_asg (pec_ix (pec_ix (pec_var 1) pec_int) pec_int) (pgc_name 11 nd))
    (pssc_one (psc_expr (pec_append (pec_var 7) (pec_tup (pac_cons (pec_var 9) (pac_cons (pec_ix (pec_lst (pac_cons (pec_var 11) (pac_cons (pec_fnP c__law_take (pac_cons (pec_var 0) (pac_cons (pec_add (pec_var 11) pec_int) pac_nil))) pac_nil))) (pec_fnP c__law_take (pac_cons (pec_var 0) (pac_cons pec_int pac_nil)))) (pac_cons (pec_var 10) (pac_cons (pec_eq (pec_fnP c__law_take (pac_cons (pec_var 0) (pac_cons pec_int pac_nil))) pec_int) pac_nil))))))))))))
    (pssc_one (psc_ret (pec_fn c__law_calmed (pac_cons (pec_var 2) (pac_cons (pec_tuple T.b_tuple (pec_var 7)) pac_nil)))))))), ?_⟩
  intro rs β P h B bx
  clear c__law_calmed
  clear c__law_signs
  clear c__law_take
  rcases h with @⟨y, sh, β, h, hs⟩
  change GoR g.K B bx _ [some _, some _, some _, none, none, none, none, none, none, none, none, none] _ _ _
  have n12 := h.n
  have sl := sel_len y wallP
  have s1 := wall_ne h
  have sn := hs.sn
  have c7 := h.c7; have c8 := h.c8
  refine go_seq1 (go_asg (r := .l ((sel y wallP).map PyData.int)) (ev_castR (ev_lcIf (xs := zipN y.sg) (enc := fun p => prD (.int p.1) (.str ⟨#[p.2]⟩)) (f := fun p => .int p.1) (fun p => wallP p.2) (wk_signs (ev_callD (dv_cons (evr_var rfl) dv_nil) (.mk h))) (tg_tup (tgs_cons (tg_name _) (tgs_cons (tg_name _) tgs_nil))) (by decide) (by rw [zipN_len]; omega) fun p hp => ⟨_, rfl, ev_tcast (evt_of (ev_ne (evr_var rfl) (evr_c fun _ => .str _))) (congrArg not (dec_sign p.2 wallN)), fun hp => (evr_var rfl)⟩) (by unfold sel; rw [List.map_map]; rfl)) ⟨rfl, rfl⟩) ?_
  refine go_seq1 (go_par (r1 := .l (((List.range sh.length).map fun i => ((i : Nat) : Int)).map PyData.int)) (ev_castR (ev_listRg (ev_lenT (evr_vd rfl)) (by omega) (by rw [List.length_map]; omega)) (by unfold rgD; rw [List.length_map, List.map_map]; rfl)) (ev_lst dv_nil) ⟨rfl, rfl⟩) ?_
  refine go_seqW (go_forP (tg_name _) (wkp_range (pmin (evp_of (ev_lenL (evr_vl rfl)) (pbin (evp_of (evr_c fun _ => .int _) (evp_takeC (i := 0) rfl (by decide) (by decide) fun d d0 d1 β3 => ⟨_, b2_add, _, _, rfl, rfl, _, rfl, ?_, ?_, fun i ρ' β' => (∃ (cl fl : List Int) (fs : List Car) (o8 o9 o10 o11 : Option Res), ρ' = [some .box, some (.d (encYard y)), some (.d (.tuple (sh.map encShelf))), some (.l (cl.map PyData.int)), none, none, some (.l (fl.map PyData.int)), some (.l (fs.map encCar)), o8, o9, o10, o11] ∧ cl.length + i = (sel y wallP).length ∧ (cl ++ fs.map (·.cell)).Nodup ∧ (∀ c ∈ cl, c ∈ sel y wallP) ∧ fs.length = i ∧ (fl ++ loadsL fs).Nodup ∧ (∀ l ∈ fl, 0 ≤ l ∧ l < sh.length) ∧ (∀ c ∈ fs, CarOk y sh.length c) ∧ fl.length ≤ 4), ⟨sel y wallP, _, [], _, _, _, _, rfl, rfl, by simpa using sel_nd y wallP, fun c h => h, rfl, ?_, ?_, (fun c h => by cases h), by rw [List.length_map, List.length_range]; omega⟩, fun i d2 hd ρi βi hI => ?_, ?_⟩)))))))
  · rw [List.length_map]; split <;> omega
  · rw [List.length_map]; split <;> omega
  · show (_ ++ []).Nodup
    rw [List.append_nil]
    exact List.pairwise_map.mpr (List.nodup_range.imp fun h e => h (by omega))
  · intro l hl
    obtain ⟨i, hi, rfl⟩ := List.mem_map.mp hl
    rw [List.mem_range] at hi
    omega
  · obtain ⟨cl, fl, fs, o8, o9, o10, o11, rfl, hl, nd, hm, fsl, lnd, hfl, hcs, fl4⟩ := hI
    have hi0 := (List.getElem?_eq_some_iff.mp hd).1
    rw [rgD_length] at hi0
    have hi : i < (sel y wallP).length ∧ i < 3 := by
      rw [List.length_map] at hi0
      split at hi0 <;> omega
    rw [rgD_get hi0] at hd
    cases hd
    refine ⟨_, rfl, ?_⟩
    refine go_seqW (go_popPar (j := 3) rfl (by rw [List.length_map]; omega) (evp_take (i := 0) rfl (evp_of (ev_lenL (evr_vl rfl)) ⟨_, rfl, by rw [List.length_map]; omega, by rw [List.length_map]; omega, fun c c0 c1 β4 => ?_⟩)))
    rw [List.length_map] at c1
    obtain ⟨cn, rfl⟩ : ∃ cn : Nat, c = cn := ⟨c.toNat, by omega⟩
    have hc : cn < cl.length := by omega
    refine ⟨cn, .int cl[cn], rfl, by rw [List.getElem?_map, List.getElem?_eq_getElem hc]; rfl, ?_⟩
    rw [erase_map]
    refine go_seqW (go_mono (N1 := fun ρ' β' => ∃ (fl' : List Int) (ld : Option Int), ρ' = [some .box, some (.d (encYard y)), some (.d (.tuple (sh.map encShelf))), some (.l ((cl.eraseIdx cn).map PyData.int)), none, none, some (.l (fl'.map PyData.int)), some (.l (fs.map encCar)), some (.d (.int i)), some (.d (.int cl[cn])), some (.d (encO ld)), o11] ∧ (fl' ++ (loadsL fs ++ ld.toList)).Nodup ∧ (∀ l ∈ fl', 0 ≤ l ∧ l < sh.length) ∧ (∀ l, ld = some l → 0 ≤ l ∧ l < sh.length) ∧ fl'.length ≤ 4) (go_ifP (etp_and (etp_t (evt_of (ev_neD (evr_var rfl) (ev_lst dv_nil) (Sh.lmap (n := 0) fun _ => .int).ok (Sh.ok (n := 1) (Sh.lst (ds := []) fun _ h => by cases h)))) ?_))) ?_)
    · have stay : ∀ β', GoR g.K B bx tNext [some .box, some (.d (encYard y)), some (.d (.tuple (sh.map encShelf))), some (.l ((cl.eraseIdx cn).map PyData.int)), none, none, some (.l (fl.map PyData.int)), some (.l (fs.map encCar)), some (.d (.int i)), some (.d (.int cl[cn])), some (.d .none), o11] β' (fun ρ' β' => ∃ (fl' : List Int) (ld : Option Int), ρ' = [some .box, some (.d (encYard y)), some (.d (.tuple (sh.map encShelf))), some (.l ((cl.eraseIdx cn).map PyData.int)), none, none, some (.l (fl'.map PyData.int)), some (.l (fs.map encCar)), some (.d (.int i)), some (.d (.int cl[cn])), some (.d (encO ld)), o11] ∧ (fl' ++ (loadsL fs ++ ld.toList)).Nodup ∧ (∀ l ∈ fl', 0 ≤ l ∧ l < sh.length) ∧ (∀ l, ld = some l → 0 ≤ l ∧ l < sh.length) ∧ fl'.length ≤ 4) (fun r _ => ∃ cs : List Car, r = .d (.tuple (cs.map encCar)) ∧ CsOk y sh cs) := fun β' => go_next ⟨fl, none, rfl, by simpa using lnd, hfl, (fun l e => by cases e), fl4⟩
      refine ⟨fun hfree => ?_, fun _ => ⟨(fun h => by cases h), fun _ => stay _⟩⟩
      rw [eqv_nilL] at hfree
      have fpos : 1 ≤ fl.length := by
        cases fl with
        | nil => cases hfree
        | cons _ _ => simp
      refine etp_of (pbin (evp_takeC (i := 0) rfl (by decide) (by decide) fun e e0 e1 β5 => evp_of (evr_c fun _ => .int _) ⟨_, b2_eq rfl, _, rfl, fun _ => ?_, fun _ => stay _⟩))
      refine go_pop (j := 6) rfl (by rw [List.length_map]; omega) (evp_take (i := 0) rfl (evp_of (ev_lenL (evr_vl rfl)) ⟨_, rfl, by rw [List.length_map]; omega, by rw [List.length_map]; omega, fun c c0 c1 β6 => ?_⟩))
      rw [List.length_map] at c1
      obtain ⟨fn, rfl⟩ : ∃ fn : Nat, c = fn := ⟨c.toNat, by omega⟩
      have hf : fn < fl.length := by omega
      refine ⟨fn, .int fl[fn], rfl, by rw [List.getElem?_map, List.getElem?_eq_getElem hf]; rfl, fl.eraseIdx fn, some fl[fn], by rw [erase_map]; rfl, nd_pop hf lnd, fun l hl2 => hfl l (List.mem_of_mem_eraseIdx hl2), (fun l e => by cases e; exact hfl _ (List.getElem_mem hf)), ?_⟩
      rw [List.length_eraseIdx]
      split <;> omega
    · rintro ρ' β' ⟨fl', ld, rfl, lnd', hfl', hld, fl4'⟩
      refine go_seq1 (go_asg (r := .d (.int y.top)) (ev_ixT (ds := [.int y.bare, .int y.laden, .int y.gain, .int y.top]) (ev_ixT (evr_var rfl) (evr_c fun _ => .int _) rfl) (evr_c fun _ => .int _) rfl) ⟨rfl, rfl⟩) ?_
      refine go_appendP (i := 7) rfl (by rw [List.length_map]; omega) (ptup (eap_cons (evp_of (evr_vd rfl) ⟨rfl, eap_cons (pbin (plst (eap_cons (evp_of (evr_vd rfl) ⟨rfl, eap_cons (evp_take (i := 0) rfl (evp_of (ev_add (evr_vd rfl) (evr_c fun _ => .int _)) ⟨_, rfl, by omega, by omega, fun a a0 a1 β5 => ⟨rfl, eap_nil ⟨[.int y.top, .int a], rfl, by simp, evp_takeC (i := 0) rfl (by decide) (by decide) fun e e0 e1 β6 => ?_⟩⟩⟩))⟩))))⟩)))
      obtain ⟨ch, hch, ch0, ch1⟩ : ∃ ch : Int, L2.atI [PyData.int y.top, .int a] e = some (.int ch) ∧ 0 ≤ ch ∧ ch ≤ y.top := by
        have : e = 0 ∨ e = 1 := by omega
        rcases this with rfl | rfl
        · exact ⟨y.top, at0, by omega, by omega⟩
        · exact ⟨a, atN (n := 1) rfl rfl, a0, by omega⟩
      refine ⟨_, b2_ix rfl hch, rfl, eap_cons (evp_of (evr_vd rfl) ⟨rfl, eap_cons (pbin (evp_takeC (i := 0) rfl (by decide) (by decide) fun q q0 q1 β7 => evp_of (evr_c fun _ => .int _) ⟨_, b2_eq rfl, rfl, eap_nil ⟨encCarL ⟨cl[cn], ch, ld, decide (q = 0)⟩, rfl, by simp [encCarL], _, rfl, cl.eraseIdx cn, fl', fs ++ [⟨cl[cn], ch, ld, decide (q = 0)⟩], _, _, _, _, by rw [List.map_append]; rfl, ?_, ?_, fun c hc2 => hm c (List.mem_of_mem_eraseIdx hc2), by simp [fsl], ?_, hfl', ?_, fl4'⟩⟩))⟩)⟩
      · rw [List.length_eraseIdx, if_pos hc]; omega
      · rw [List.map_append]
        exact nd_pop hc nd
      · have : loadsL (fs ++ [⟨cl[cn], ch, ld, decide (q = 0)⟩]) = loadsL fs ++ ld.toList := by
          unfold loadsL
          rw [List.filterMap_append]
          cases ld <;> rfl
        rw [this]; exact lnd'
      · intro c hc2
        rcases List.mem_append.mp hc2 with q2 | q2
        · exact hcs c q2
        · simp only [List.mem_singleton] at q2
          subst q2
          exact ⟨sel_wall (hm _ (List.getElem_mem hc)), ch0, ch1, hld⟩
  · rintro ρ' β' ⟨cl, fl, fs, o8, o9, o10, o11, rfl, hl, nd, hm, fsl, lnd, hfl, hcs, fl4⟩
    rw [rgD_length, List.length_map] at fsl
    have f13 : 1 ≤ fs.length ∧ fs.length ≤ 3 := by
      split at fsl <;> omega
    exact go_ret (ev_callD (dv_cons (evr_vd rfl) (dv_cons (ev_tupleL (evr_vl rfl)) dv_nil)) (.mk (by omega) (by omega))) ⟨_, rfl, calm_ok ⟨hcs, (List.nodup_append.mp nd).2.1, (List.nodup_append.mp lnd).2.1⟩ f13.1 f13.2⟩
end K20
set_option maxHeartbeats 4000000
namespace K20
open PySem PySem.Spec PyProof.Rows L2
inductive T__law_state : List Res → Bx → Post → Prop
  | mk {y : Yard} {β : Bx} (h : y.Ok) : T__law_state [.box, .d (encYard y)] β fun r _ => ∃ s : State, r = .d (encState s) ∧ s.Ok y
def encOrderL (o : Order) : List D := [.int o.good, .int o.many, .int o.given, .int o.hour]
theorem sc__law_state : FnScope ["_law_box_here", "_law_yard_here", "_law_shelves_here", "_law_orders", "_law_goods", "_law_turn", "_law_many", "_law_given"] ["_law_box_here", "_law_yard_here"] (defScope s__law_state) := ⟨rfl, rfl, rfl, by decide +kernel, rfl, by decide +kernel, by decide +kernel⟩
theorem fn__law_state {g : Gb} (T : Txt g) : FnP g "_law_state" ["_law_box_here", "_law_yard_here"] 4 T__law_state := by
  have nd := sc__law_state.nd
  have c__law_shelves := fn__law_shelves T
  have c__law_take := fn__law_take T
  have c__law_carriers := fn__law_carriers T
  refine T.fnP 65 rfl sc__law_state (fun _ _ _ _ _ _ us hl => match us, hl with | [_, _], _ => rfl) (by intro rs β P h; cases h <;> rfl) ⟨_, (pssc_cons (psc_par (i := 2) (j := 3) nd (pac_cons (pec_fnP c__law_shelves (pac_cons (pec_var 0) (pac_cons (pec_var 1) pac_nil))) (pac_cons (pec_lst pac_nil) pac_nil)))
    (pssc_cons (psc_asg (pec_if (ptc_neD (pec_var 2) (pec_tup pac_nil)) (pec_len T.b_len (pec_ix (pec_ix (pec_var 2) pec_int) pec_int)) pec_int) (pgc_name 4 nd))
    (pssc_cons (psc_for (pic_range T.b_range (pec_fnP c__law_take (pac_cons (pec_var 0) (pac_cons pec_int pac_nil)))) (pgc_name 5 nd) (pssc_cons (psc_asg (pec_add pec_int (pec_fnP c__law_take (pac_cons (pec_var 0) (pac_cons (pec_ix (pec_lst (pac_cons pec_int (pac_cons pec_int pac_nil))) (pec_fnP c__law_take (pac_cons (pec_var 0) (pac_cons pec_int pac_nil)))) pac_nil)))) (pgc_name 6 nd))
    (pssc_cons (psc_asg (pec_ix (pec_lst (pac_cons pec_int (pac_cons (pec_fnP c__law_take (pac_cons (pec_var 0) (pac_cons (pec_add (pec_var 6) pec_int) pac_nil))) pac_nil))) (pec_fnP c__law_take (pac_cons (pec_var 0) (pac_cons pec_int pac_nil)))) (pgc_name 7 nd))
    (pssc_one (psc_expr (pec_append (pec_var 3) (pec_tup (pac_cons (pec_fnP c__law_take (pac_cons (pec_var 0) (pac_cons (pec_var 4) pac_nil))) (pac_cons (pec_var 6) (pac_cons (pec_var 7) (pac_cons (pec_fnP c__law_take (pac_cons (pec_var 0) (pac_cons pec_int pac_nil))) pac_nil)))))))))))
    (pssc_one (psc_ret (pec_tup (pac_cons (pec_fnP c__law_take (pac_cons (pec_var 0) (pac_cons pec_int pac_nil))) (pac_cons (pec_fnP c__law_carriers (pac_cons (pec_var 0) (pac_cons (pec_var 1) (pac_cons (pec_var 2) pac_nil)))) (pac_cons (pec_var 2) (pac_cons (pec_tuple T.b_tuple (pec_var 3)) pac_nil)))))))))), ?_⟩
  intro rs β P h B bx
  clear c__law_shelves
  clear c__law_take
  clear c__law_carriers
  rcases h with @⟨y, β, h⟩
  change GoR g.K B bx _ [some _, some _, none, none, none, none, none, none] _ _ _
  refine go_seqW (go_parP (evp_call (eap_cons (evp_of (evr_var rfl) ⟨rfl, eap_cons (evp_of (evr_vd rfl) ⟨rfl, eap_nil ⟨_, .mk h, ?_⟩⟩)⟩))))
  rintro r β2 ⟨sh, rfl, hs⟩
  have sn := hs.sn; have g1 := hs.g1; have g3 := hs.g3
  refine evp_of (ev_lst dv_nil) ?_
  refine go_seq1 (go_asg (β1 := β2) (r := .d (.int (goodsL sh))) ?_ ⟨rfl, rfl⟩) ?_
  · cases sh with
    | nil => exact evr_if (c := false) (ev_tcast (evt_of (ev_neD (evr_var rfl) (ev_tup dv_nil) (Sh.tmap sh_shelf).ok (Sh.ok (n := 1) (Sh.tup (ds := []) fun _ h => by cases h)))) rfl) (fun h => by cases h) (fun _ => (evr_c fun _ => .int _))
    | cons s sh => exact evr_if (c := true) (ev_tcast (evt_of (ev_neD (evr_var rfl) (ev_tup dv_nil) (Sh.tmap sh_shelf).ok (Sh.ok (n := 1) (Sh.tup (ds := []) fun _ h => by cases h)))) rfl) (fun _ => ev_cast (ev_lenT (ds := s.stock.map PyData.int) (ev_ixT (d := encInts s.stock) (ev_ixT (d := encShelf s) (evr_var rfl) (evr_c fun _ => .int _) at0) (evr_c fun _ => .int _) rfl)) (by rw [List.length_map]; rfl)) (fun h => by cases h)
  refine go_seqW (go_forP (tg_name _) (wkp_range (evp_takeC (i := 0) rfl (by decide) (by decide) fun d d0 d1 β2 => ⟨d, rfl, by omega, by omega, fun i ρ' β' => (∃ (os : List Order) (o5 o6 o7 : Option Res), ρ' = [some .box, some (.d (encYard y)), some (.d (.tuple (sh.map encShelf))), some (.l (os.map encOrder)), some (.d (.int (goodsL sh))), o5, o6, o7] ∧ os.length = i ∧ ∀ o ∈ os, OrderOk (goodsL sh) o), ⟨[], _, _, _, rfl, rfl, fun o h => by cases h⟩, fun i d2 hd ρi βi hI => ?_, ?_⟩)))
  · obtain ⟨os, o5, o6, o7, rfl, ol, hos⟩ := hI
    have hi0 := (List.getElem?_eq_some_iff.mp hd).1
    rw [rgD_length] at hi0
    rw [rgD_get hi0] at hd
    cases hd
    refine ⟨_, rfl, ?_⟩
    have pick : ∀ {a b : Int} {e : Int}, 0 ≤ e → e < 2 → ∃ v : Int, L2.atI [PyData.int a, .int b] e = some (.int v) ∧ (v = a ∨ v = b) := fun {a b e} e0 e1 => by
      have : e = 0 ∨ e = 1 := by omega
      rcases this with rfl | rfl
      · exact ⟨a, at0, .inl rfl⟩
      · exact ⟨b, atN (n := 1) rfl rfl, .inr rfl⟩
    refine go_seqW (go_asgP (pbin (evp_of (evr_c fun _ => .int _) (evp_take (i := 0) rfl (pbin (evp_of (ev_lst (dv_cons (evr_c fun _ => .int _) (dv_cons (evr_c fun _ => .int _) dv_nil))) (evp_takeC (i := 0) rfl (by decide) (by decide) fun e e0 e1 β5 => ?_)))))))
    obtain ⟨v, hv, hv2⟩ := pick (a := 6) (b := 99) e0 e1
    refine ⟨_, b2_ix rfl hv, v, rfl, by omega, by omega, fun m m0 m1 β6 => ⟨_, b2_add, ?_⟩⟩
    refine go_seqW (go_asgP (pbin (plst (eap_cons (evp_of (evr_c fun _ => .int _) ⟨rfl, eap_cons (evp_take (i := 0) rfl (evp_of (ev_add (evr_vd rfl) (evr_c fun _ => .int _)) ⟨_, rfl, by omega, by omega, fun a a0 a1 β7 => ⟨rfl, eap_nil ⟨[.int 0, .int a], rfl, by simp, evp_takeC (i := 0) rfl (by decide) (by decide) fun e2 f0 f1 β8 => ?_⟩⟩⟩))⟩)))))
    obtain ⟨w, hw, hw2⟩ := pick (a := 0) (b := a) f0 f1
    refine ⟨_, b2_ix rfl hw, ?_⟩
    refine go_appendP (i := 3) rfl (by rw [List.length_map]; omega) (ptup (eap_cons (evp_take (i := 0) rfl (evp_of (evr_vd rfl) ⟨_, rfl, by omega, by omega, fun q q0 q1 β9 => ⟨rfl, eap_cons (evp_of (evr_vd rfl) ⟨rfl, eap_cons (evp_of (evr_vd rfl) ⟨rfl, eap_cons (evp_takeC (i := 0) rfl (by decide) (by decide) fun t t0 t1 β10 => ⟨rfl, eap_nil ⟨encOrderL ⟨q, 1 + m, w, t⟩, rfl, by simp [encOrderL], _, rfl, os ++ [⟨q, 1 + m, w, t⟩], _, _, _, by rw [List.map_append]; rfl, by simp [ol], fun o ho => ?_⟩⟩)⟩)⟩)⟩⟩))))
    rcases List.mem_append.mp ho with z | z
    · exact hos o z
    · simp only [List.mem_singleton] at z
      subst z
      exact ⟨q0, q1, by show 1 ≤ 1 + m; omega, by show 1 + m ≤ 99; omega, by show 0 ≤ w; omega, by show w ≤ 1 + m; omega, t0⟩
  · rintro ρ' β' ⟨os, o5, o6, o7, rfl, ol, hos⟩
    rw [rgD_length] at ol
    refine go_retP (ptup (eap_cons (evp_takeC (i := 0) rfl (by decide) (by decide) fun b b0 b1 β5 => ⟨rfl, eap_cons (evp_call (eap_cons (evp_of (evr_var rfl) ⟨rfl, eap_cons (evp_of (evr_vd rfl) ⟨rfl, eap_cons (evp_of (evr_vd rfl) ⟨rfl, eap_nil ⟨_, .mk h hs, ?_⟩⟩)⟩)⟩)))⟩)))
    rintro r β6 ⟨cs, rfl, hcs⟩
    refine ⟨rfl, eap_cons (evp_of (evr_vd rfl) ⟨rfl, eap_cons (evp_of (ev_tupleL (evr_vl rfl)) ⟨rfl, eap_nil ⟨[.int b, .tuple (cs.map encCar), .tuple (sh.map encShelf), .tuple (os.map encOrder)], rfl, by simp, ⟨b, cs, sh, os⟩, rfl, ?_⟩⟩)⟩)⟩
    exact ⟨b0, hcs.c1, hcs.c3, hcs.cars, hcs.cn, hcs.ln, hcs.hm, hs.sn, hs.sh, hs.g1, hs.g3, hs.hn, by show os.length ≤ 4; omega, hos⟩
end K20
set_option maxHeartbeats 4000000
namespace K20
open PySem PySem.Spec PyProof.Rows L2
theorem Yard.Ok.texts {y : Yard} (h : y.Ok) : ∃ t0 f0 fs, y.floors = (t0 :: f0) :: fs ∧ ((t0.length : Nat) : Int) = y.wide ∧ y.area = ((t0 :: f0).length : Nat) * y.wide ∧ t0.length ≤ 5 ∧ 0 < y.wide ∧ y.wide ≤ 5 ∧ 0 < y.area ∧ y.area ≤ 25 := by
  obtain ⟨d, w, k, q⟩ := h.dims
  have hd := q.d1; have hw := q.w1; have hd5 := q.d5; have hw5 := q.w5
  obtain ⟨t0, f0, fs, e⟩ := h.first
  have er : y.row0 = t0 :: f0 := by unfold Yard.row0; rw [e]; rfl
  have ew : ((t0.length : Nat) : Int) = y.wide := by unfold Yard.wide; rw [er]; rfl
  have p1 : 1 ≤ d * w := Nat.mul_le_mul hd hw
  have p2 : d * w ≤ 5 * 5 := Nat.mul_le_mul hd5 hw5
  have qw := q.wide; have qa := q.area
  exact ⟨t0, f0, fs, e, ew, by unfold Yard.area; rw [er], by omega, by omega, by omega, by omega, by omega⟩
inductive T__law_spot : List Res → Bx → Post → Prop
  | mk {y : Yard} {c : Int} {β : Bx} (h : y.Ok) : T__law_spot [.d (encYard y), .d (.int c)] β fun r β' => (∃ a b e : Int, r = .d (.tuple [.int a, .int b, .int e])) ∧ β' = β
theorem sc__law_spot : FnScope ["_law_yard_here", "_law_cell", "_law_wide", "_law_area"] ["_law_yard_here", "_law_cell"] (defScope s__law_spot) := ⟨rfl, rfl, rfl, by decide +kernel, rfl, by decide +kernel, by decide +kernel⟩
theorem fn__law_spot {g : Gb} (T : Txt g) : FnP g "_law_spot" ["_law_yard_here", "_law_cell"] 1 T__law_spot := by
  have nd := sc__law_spot.nd
  refine T.fnP 66 rfl sc__law_spot (fun _ _ _ _ _ _ us hl => match us, hl with | [_, _], _ => rfl) (by intro rs β P h; cases h <;> rfl) ⟨_, (pssc_cons (psc_par (i := 2) (j := 3) nd (pac_cons (pec_len T.b_len (pec_ix (pec_ix (pec_ix (pec_var 0) pec_int) pec_int) pec_int)) (pac_cons (pec_mul (pec_len T.b_len (pec_ix (pec_ix (pec_var 0) pec_int) pec_int)) (pec_len T.b_len (pec_ix (pec_ix (pec_ix (pec_var 0) pec_int) pec_int) pec_int))) pac_nil)))
    (pssc_one (psc_ret (pec_tup (pac_cons (pec_fdiv (pec_var 1) (pec_var 3)) (pac_cons (pec_fdiv (pec_mod (pec_var 1) (pec_var 3)) (pec_var 2)) (pac_cons (pec_mod (pec_var 1) (pec_var 2)) pac_nil))))))), ?_⟩
  intro rs β P h B bx
  rcases h with @⟨y, c, β, h⟩
  change GoR g.K B bx _ [some _, some _, none, none] _ _ _
  obtain ⟨t0, f0, fs, e, ew, ea, l5, w0, w5, a0, a25⟩ := h.texts
  have big := line5
  have fl0 : L2.atI (y.floors.map encRows) 0 = some (encRows (t0 :: f0)) := by rw [e]; exact at0
  refine go_seq1 (go_par (r1 := .d (.int y.wide)) (r2 := .d (.int y.area)) (ev_cast (ev_lenS (z := t0) (ev_ixT (ds := (t0 :: f0).map PyData.str) (ev_ixT (ds := y.floors.map encRows) (ev_ixT (evr_vd rfl) (evr_c fun _ => .int _) rfl) (evr_c fun _ => .int _) fl0) (evr_c fun _ => .int _) at0) (by omega)) (by rw [ew])) (ev_cast (ev_mul (ev_lenT (ds := (t0 :: f0).map PyData.str) (ev_ixT (ds := y.floors.map encRows) (ev_ixT (evr_vd rfl) (evr_c fun _ => .int _) rfl) (evr_c fun _ => .int _) fl0)) (ev_lenS (z := t0) (ev_ixT (ds := (t0 :: f0).map PyData.str) (ev_ixT (ds := y.floors.map encRows) (ev_ixT (evr_vd rfl) (evr_c fun _ => .int _) rfl) (evr_c fun _ => .int _) fl0) (evr_c fun _ => .int _) at0) (by omega)) (.inr ⟨by omega, by omega⟩)) (by rw [ew, ea, List.length_map])) ⟨rfl, rfl⟩) ?_
  exact go_ret (ev_tup (dv_cons (ev_fdiv (evr_vd rfl) (evr_vd rfl) ⟨a0, by omega⟩) (dv_cons (ev_fdiv (ev_mod (evr_vd rfl) (evr_vd rfl) a0) (evr_vd rfl) ⟨w0, by omega⟩) (dv_cons (ev_mod (evr_vd rfl) (evr_vd rfl) w0) dv_nil)))) ⟨⟨_, _, _, rfl⟩, rfl⟩
inductive T__law_near : List Res → Bx → Post → Prop
  | mk {y : Yard} {c : Int} {β : Bx} (h : y.Ok) (c0 : 0 ≤ c) (c1 : c < y.sg.length) : T__law_near [.d (encYard y), .d (.int c)] β fun r β' => (∃ l : List Int, r = .l (l.map PyData.int) ∧ (∀ x ∈ l, y.cell x) ∧ l.length ≤ 12) ∧ β' = β
theorem ev_sgnS {K : PySem.W.Frag} {B : Hp} {bx : Option Addr} {ρ : Env} {β : Bx} {ta tb : TE} {f1 f2 : Bool} {y : Yard} {c : Int} (h : y.Ok) (c0 : 0 ≤ c) (c1 : c < y.sg.length) (ha : EvR K B bx ta ρ β f1 (.d (.str y.sgS)) β) (hb : EvR K B bx tb ρ β f2 (.d (.int c)) β) : ∃ m, EvR K B bx (tOp rIxS ta tb) ρ β true (.d (.str ⟨#[m]⟩)) β := by
  have sl := y.sgS_len
  have n12 := h.n
  have big := line5
  have hl : c.toNat < y.sg.length := by omega
  exact ⟨y.sg[c.toNat], ev_ixS ha hb (atN (n := c.toNat) (by omega) (by
    show (y.sg.toArray.toList)[c.toNat]? = _
    rw [List.toList_toArray, List.getElem?_eq_getElem hl])) (by omega)⟩
theorem sc__law_near : FnScope ["_law_yard_here", "_law_cell", "_law_signs_here", "_law_found", "_law_floor", "_law_row", "_law_place", "_law_other", "_law_storey", "_law_line", "_law_spot_here", "_law_is_side", "_law_is_lift"] ["_law_yard_here", "_law_cell"] (defScope s__law_near) := ⟨rfl, rfl, rfl, by decide +kernel, rfl, by decide +kernel, by decide +kernel⟩
theorem fn__law_near {g : Gb} (T : Txt g) : FnP g "_law_near" ["_law_yard_here", "_law_cell"] 2 T__law_near := by
  have nd := sc__law_near.nd
  have c__law_spot := fn__law_spot T
  have c__law_signs := fn__law_signs T
  refine T.fnP 67 rfl sc__law_near (fun _ _ _ _ _ _ us hl => match us, hl with | [_, _], _ => rfl) (by intro rs β P h; cases h <;> rfl) ⟨_, (pssc_cons (psc_par (i := 2) (j := 3) nd (pac_cons (pec_fn c__law_signs (pac_cons (pec_var 0) pac_nil)) (pac_cons (pec_lst pac_nil) pac_nil)))
    (pssc_cons (psc_asg (pec_fnP c__law_spot (pac_cons (pec_var 0) (pac_cons (pec_var 1) pac_nil))) (pgc_tup (n := 3) (pgsc_cons (pgc_name 4 nd) (pgsc_cons (pgc_name 5 nd) (pgsc_cons (pgc_name 6 nd) pgsc_nil)))))
    (pssc_cons (psc_for (pic_range T.b_range (pec_len T.b_len (pec_var 2))) (pgc_name 7 nd) (pssc_cons (psc_asg (pec_fnP c__law_spot (pac_cons (pec_var 0) (pac_cons (pec_var 7) pac_nil))) (pgc_tup (n := 3) (pgsc_cons (pgc_name 8 nd) (pgsc_cons (pgc_name 9 nd) (pgsc_cons (pgc_name 10 nd) pgsc_nil)))))
    (pssc_cons (psc_asg (pec_and (pec_eq (pec_var 8) (pec_var 4)) (pec_one (pec_eq (pec_add (pec_abs T.b_abs (pec_sub (pec_var 9) (pec_var 5))) (pec_abs T.b_abs (pec_sub (pec_var 10) (pec_var 6)))) pec_int))) (pgc_name 11 nd))
    (pssc_cons (psc_asg (pec_and (pec_ne (pec_var 8) (pec_var 4)) (pec_and (pec_eqD (pec_tup (pac_cons (pec_var 9) (pac_cons (pec_var 10) pac_nil))) (pec_tup (pac_cons (pec_var 5) (pac_cons (pec_var 6) pac_nil)))) (pec_one (pec_eq (pec_addS (pec_ixS (pec_var 2) (pec_var 1)) (pec_ixS (pec_var 2) (pec_var 7))) pec_str)))) (pgc_name 12 nd))
    (pssc_one (psc_if (ptc_w (pwc_and (ptc_ne (pec_ixS (pec_var 2) (pec_var 7)) pec_str) (pwc_and1 (ptc_w (pwc_or (ptc_of (pec_var 11)) (pwc_or1 (ptc_of (pec_var 12)))))))) (pssc_one (psc_expr (pec_append (pec_var 3) (pec_var 7)))) pssc_nil))))))
    (pssc_one (psc_ret (pec_var 3)))))), ?_⟩
  intro rs β P h B bx
  clear c__law_spot
  clear c__law_signs
  rcases h with @⟨y, c, β, h, c0, c1⟩
  change GoR g.K B bx _ [some _, some _, none, none, none, none, none, none, none, none, none, none, none] _ _ _
  have sl := y.sgS_len
  have n12 := h.n
  have big := line5
  refine go_seq1 (go_par (ev_callD (dv_cons (evr_vd rfl) dv_nil) (.mk h)) (ev_lst dv_nil) ⟨rfl, rfl⟩) ?_
  refine go_seqW (go_asgTP (tg_tup (tgs_cons (tg_name _) (tgs_cons (tg_name _) (tgs_cons (tg_name _) tgs_nil)))) (evp_call (eap_cons (evp_of (evr_vd rfl) ⟨rfl, eap_cons (evp_of (evr_vd rfl) ⟨rfl, eap_nil ⟨_, .mk h, ?_⟩⟩)⟩))))
  rintro r β2 ⟨⟨p1, p2, p3, rfl⟩, rfl⟩
  refine ⟨_, _, rfl, rfl, ?_⟩
  refine go_seqW (go_for (fun i ρ' β' => (∃ (l : List Int) (o7 o8 o9 o10 o11 o12 : Option Res), ρ' = [some (.d (encYard y)), some (.d (.int c)), some (.d (.str y.sgS)), some (.l (l.map PyData.int)), some (.d (.int p1)), some (.d (.int p2)), some (.d (.int p3)), o7, o8, o9, o10, o11, o12] ∧ (∀ x ∈ l, y.cell x) ∧ l.length ≤ i) ∧ β' = β2) (wk_range (ev_lenS (evr_vd rfl) (by omega)) (by omega) (by omega)) (tg_name _) ⟨⟨[], _, _, _, _, _, _, rfl, (fun x h => by cases h), Nat.le_refl _⟩, rfl⟩ (fun i d hd ρi βi hI => ?_) ?_)
  · obtain ⟨⟨l, o7, o8, o9, o10, o11, o12, rfl, hl, ll⟩, rfl⟩ := hI
    have hi0 := (List.getElem?_eq_some_iff.mp hd).1
    rw [rgD_length] at hi0
    rw [rgD_get hi0] at hd
    cases hd
    have hi : i < y.sg.length := by omega
    refine ⟨_, rfl, ?_⟩
    refine go_seqW (go_asgTP (tg_tup (tgs_cons (tg_name _) (tgs_cons (tg_name _) (tgs_cons (tg_name _) tgs_nil)))) (evp_call (eap_cons (evp_of (evr_vd rfl) ⟨rfl, eap_cons (evp_of (evr_vd rfl) ⟨rfl, eap_nil ⟨_, .mk h, ?_⟩⟩)⟩))))
    rintro r β3 ⟨⟨q1, q2, q3, rfl⟩, rfl⟩
    refine ⟨_, _, rfl, rfl, ?_⟩
    refine go_seq1 (go_asg (ev_vand (ev_eq (d := .int q1) (e := .int p1) (evr_vd rfl) (evr_vd rfl)) fun _ => (ev_eq (ev_add (ev_abs (ev_sub (i := q2) (j := p2) (evr_vd rfl) (evr_vd rfl))) (ev_abs (ev_sub (i := q3) (j := p3) (evr_vd rfl) (evr_vd rfl)))) (evr_c fun _ => .int _))) ⟨rfl, rfl⟩) ?_
    have sh2 : ∀ a b : Int, SeqAt.shaped (.tuple [.int a, .int b]) = true := fun a b => (Sh.tup (n := 0) (ds := [.int a, .int b]) fun d hd => by
      simp only [List.mem_cons, List.not_mem_nil, or_false] at hd
      rcases hd with rfl | rfl <;> exact .int).ok
    obtain ⟨m1, e1⟩ := ev_sgnS (K := g.K) (B := B) (bx := bx) (β := β3) (ta := tVar 2) (tb := tVar 1) (f1 := true) (f2 := true) (ρ := [some (.d (encYard y)), some (.d (.int c)), some (.d (.str y.sgS)), some (.l (l.map PyData.int)), some (.d (.int p1)), some (.d (.int p2)), some (.d (.int p3)), some (.d (.int i)), some (.d (.int q1)), some (.d (.int q2)), some (.d (.int q3)), some (.d (.bool (decide (q1 = p1) && decide ((if q2 - p2 < 0 then -(q2 - p2) else q2 - p2) + (if q3 - p3 < 0 then -(q3 - p3) else q3 - p3) = 1)))), o12]) h c0 c1 (evr_vd rfl) (evr_vd rfl)
    obtain ⟨m2, e2⟩ := ev_sgnS (K := g.K) (B := B) (bx := bx) (β := β3) (ta := tVar 2) (tb := tVar 7) (f1 := true) (f2 := true) (ρ := [some (.d (encYard y)), some (.d (.int c)), some (.d (.str y.sgS)), some (.l (l.map PyData.int)), some (.d (.int p1)), some (.d (.int p2)), some (.d (.int p3)), some (.d (.int i)), some (.d (.int q1)), some (.d (.int q2)), some (.d (.int q3)), some (.d (.bool (decide (q1 = p1) && decide ((if q2 - p2 < 0 then -(q2 - p2) else q2 - p2) + (if q3 - p3 < 0 then -(q3 - p3) else q3 - p3) = 1)))), o12]) h (c := (i : Int)) (by omega) (by omega) (evr_vd rfl) (evr_vd rfl)
    refine go_seq1 (go_asg (ev_vand (ev_ne (d := .int q1) (e := .int p1) (evr_vd rfl) (evr_vd rfl)) fun _ => (ev_vand (ev_eqD (d := .tuple [.int q2, .int q3]) (e := .tuple [.int p2, .int p3]) (ev_tup (dv_cons (evr_vd rfl) (dv_cons (evr_vd rfl) dv_nil))) (ev_tup (dv_cons (evr_vd rfl) (dv_cons (evr_vd rfl) dv_nil))) (sh2 _ _) (sh2 _ _)) fun _ => (ev_eq (ev_addS e1 e2 (show 1 + 1 ≤ sizeLine by omega)) (evr_c fun _ => .str _)))) ⟨rfl, rfl⟩) ?_
    refine go_if (ev_tand (evt_of (ev_signAt (m := wallN) h (c := (i : Int)) (by omega) (by omega) (evr_vd rfl) (evr_vd rfl) (evr_c fun _ => .str _)).2) fun _ => (ev_tor (evt_of (evr_vd rfl)) fun _ => (evt_of (evr_vd rfl)))) (fun h1 => ?_) (fun h1 => ?_)
    · rw [Bool.and_eq_true] at h1
      refine go_append (i := 3) rfl (evr_vd rfl) (by rw [List.length_map]; omega) ⟨⟨l ++ [(i : Int)], _, _, _, _, _, _, by rw [List.map_append]; rfl, fun x hx => ?_, by simp; omega⟩, rfl⟩
      rcases List.mem_append.mp hx with z | z
      · exact hl x z
      · simp only [List.mem_singleton] at z
        subst z
        refine ⟨by omega, by omega, fun q => ?_⟩
        have := h1.1
        unfold Yard.sgn at this
        rw [q] at this
        simp at this
    · exact go_next ⟨⟨l, _, _, _, _, _, _, rfl, hl, by omega⟩, rfl⟩
  · rintro ρ' β' ⟨⟨l, o7, o8, o9, o10, o11, o12, rfl, hl, ll⟩, rfl⟩
    rw [rgD_length] at ll
    exact go_retV rfl ⟨⟨l, rfl, hl, by omega⟩, rfl⟩
end K20
set_option maxHeartbeats 4000000
namespace K20
open PySem PySem.Spec PyProof.Rows L2
/-- the shape that the law's own walk keeps -/
structure LS (y : Yard) (s : State) : Prop where
  cars : ∀ c ∈ s.cars, y.cell c.cell ∧ ∀ l, c.load = some l → 0 ≤ l ∧ l < s.shelves.length
  sh : ∀ b ∈ s.shelves, b.stock.length = goodsL s.shelves
  os : ∀ o ∈ s.orders, 0 ≤ o.good ∧ o.good < goodsL s.shelves
  c3 : s.cars.length ≤ 3
  s4 : s.shelves.length ≤ 4
  o4 : s.orders.length ≤ 4
  g3 : goodsL s.shelves ≤ 3
  hn : (s.shelves.map (·.home)).Nodup
theorem State.Ok.ls {y : Yard} {s : State} (h : s.Ok y) : LS y s := ⟨fun c hc => ⟨(h.cars c hc).cell, (h.cars c hc).l⟩, fun b hb => (h.sh b hb).g, fun o ho => ⟨(h.os o ho).g0, (h.os o ho).g1⟩, h.c3, h.sn, h.on, h.g3, h.hn⟩
inductive T__law_deed : List Res → Bx → Post → Prop
  | mk {y : Yard} {s : State} {k : Nat} {c : Car} {β : Bx} (h : y.Ok) (hk : s.cars[k]? = some c) (hc : y.cell c.cell) : T__law_deed [.box, .d (encYard y), .d (encState s), .d (.int k)] β fun r _ => ∃ d : Deed, r = .d (encDeed d) ∧ d.num
theorem sc__law_deed : FnScope ["_law_box_here", "_law_yard_here", "_law_state_here", "_law_number", "_law_cell", "_law_way", "_law_near_here"] ["_law_box_here", "_law_yard_here", "_law_state_here", "_law_number"] (defScope s__law_deed) := ⟨rfl, rfl, rfl, by decide +kernel, rfl, by decide +kernel, by decide +kernel⟩
theorem fn__law_deed {g : Gb} (T : Txt g) : FnP g "_law_deed" ["_law_box_here", "_law_yard_here", "_law_state_here", "_law_number"] 3 T__law_deed := by
  have nd := sc__law_deed.nd
  have c__law_near := fn__law_near T
  have c__law_take := fn__law_take T
  refine T.fnP 68 rfl sc__law_deed (fun _ _ _ _ _ _ us hl => match us, hl with | [_, _, _, _], _ => rfl) (by intro rs β P h; cases h <;> rfl) ⟨_, (pssc_cons (psc_par (i := 4) (j := 5) nd (pac_cons (pec_ix (pec_ix (pec_ix (pec_var 2) pec_int) (pec_var 3)) pec_int) (pac_cons (pec_fnP c__law_take (pac_cons (pec_var 0) (pac_cons pec_int pac_nil))) pac_nil)))
    (pssc_cons (psc_asg (pec_fnP c__law_near (pac_cons (pec_var 1) (pac_cons (pec_var 4) pac_nil))) (pgc_name 6 nd))
    (pssc_cons (psc_if (ptc_w (pwc_and (ptc_lt (pec_var 5) pec_int) (pwc_and1 (ptc_neD (pec_var 6) (pec_lst pac_nil))))) (pssc_one (psc_ret (pec_tup (pac_cons pec_str (pac_cons (pec_ix (pec_var 6) (pec_fnP c__law_take (pac_cons (pec_var 0) (pac_cons (pec_len T.b_len (pec_var 6)) pac_nil)))) pac_nil))))) pssc_nil)
    (pssc_cons (psc_if (ptc_lt (pec_var 5) pec_int) (pssc_one (psc_ret (pec_if (ptc_gt (pec_var 5) pec_int) (pec_ix (pec_lst (pac_cons (pec_tup (pac_cons pec_str pac_nil)) (pac_cons (pec_tup (pac_cons pec_str pac_nil)) pac_nil))) (pec_sub (pec_var 5) pec_int)) (pec_tup (pac_cons pec_str pac_nil))))) pssc_nil)
    (pssc_cons (psc_if (ptc_lt (pec_var 5) pec_int) (pssc_one (psc_ret (pec_ix (pec_lst (pac_cons (pec_tup (pac_cons pec_str pac_nil)) (pac_cons (pec_tup (pac_cons pec_str pac_nil)) pac_nil))) (pec_sub (pec_var 5) pec_int)))) pssc_nil)
    (pssc_cons (psc_if (ptc_lt (pec_var 5) pec_int) (pssc_one (psc_ret (pec_tup (pac_cons pec_str (pac_cons (pec_ix (pec_lst (pac_cons (pec_fnP c__law_take (pac_cons (pec_var 0) (pac_cons pec_int pac_nil))) (pac_cons (pec_fnP c__law_take (pac_cons (pec_var 0) (pac_cons pec_int pac_nil))) pac_nil))) (pec_fdiv (pec_fnP c__law_take (pac_cons (pec_var 0) (pac_cons pec_int pac_nil))) pec_int)) pac_nil))))) pssc_nil)
    (pssc_one (psc_ret (pec_tup (pac_cons pec_str (pac_cons (pec_ix (pec_lst (pac_cons (pec_fnP c__law_take (pac_cons (pec_var 0) (pac_cons pec_int pac_nil))) (pac_cons (pec_fnP c__law_take (pac_cons (pec_var 0) (pac_cons pec_int pac_nil))) pac_nil))) (pec_fnP c__law_take (pac_cons (pec_var 0) (pac_cons pec_int pac_nil)))) pac_nil))))))))))), ?_⟩
  intro rs β P h B bx
  clear c__law_near
  clear c__law_take
  rcases h with @⟨y, s, k, c, β, h, hk, hc⟩
  change GoR g.K B bx _ [some _, some _, some _, some _, none, none, none] _ _ _
  have n12 := h.n
  obtain ⟨p0, p1, p2⟩ := hc
  refine go_seqW (go_parP (evp_of (ev_ixT (ds := [.int c.cell, .int c.charge, encO c.load, .bool c.broken]) (d := .int c.cell) (ev_carAt hk (evr_vd rfl) (evr_c fun _ => .int _) (evr_vd rfl)) (evr_c fun _ => .int _) rfl) (evp_takeC (i := 0) rfl (by decide) (by decide) fun w w0 w1 β2 => ?_)))
  refine go_seqW (go_asgP (evp_call (eap_cons (evp_of (evr_vd rfl) ⟨rfl, eap_cons (evp_of (evr_vd rfl) ⟨rfl, eap_nil ⟨_, .mk h p0 p1, ?_⟩⟩)⟩))))
  rintro r β3 ⟨⟨l, rfl, hl, ll⟩, rfl⟩
  refine go_ifr (ev_tand (evt_of (ev_lt (evr_vd rfl) (evr_c fun _ => .int _))) fun _ => (evt_of (ev_neD (evr_vl rfl) (ev_lst dv_nil) (Sh.lmap (n := 0) fun _ => .int).ok (Sh.ok (n := 1) (Sh.lst (ds := []) fun _ h => by cases h))))) (fun h1 => ?_) (fun h1 => ?_)
  · rw [eqv_nilL] at h1
    have lp : 1 ≤ l.length := by
      cases l with
      | nil => simp at h1
      | cons _ _ => simp
    refine go_retP (ptup (eap_cons (evp_of (evr_c fun _ => .str _) ⟨rfl, eap_cons (pbin (evp_of (evr_vl rfl) (evp_take (i := 0) rfl (evp_of (ev_lenL (evr_vl rfl)) ⟨_, rfl, by rw [List.length_map]; omega, by rw [List.length_map]; omega, fun e e0 e1 β4 => ?_⟩))))⟩)))
    rw [List.length_map] at e1
    have he : e.toNat < l.length := by omega
    refine ⟨.int l[e.toNat], b2_ix (ds := l.map PyData.int) rfl (atN (n := e.toNat) (by omega) (by rw [List.getElem?_map, List.getElem?_eq_getElem he]; rfl)), rfl, eap_nil ⟨[.str "go", .int l[e.toNat]], rfl, by simp, .go l[e.toNat], rfl, ?_⟩⟩
    have := hl _ (List.getElem_mem he)
    exact ⟨this.1, by have := this.2.1; omega⟩
  · refine go_ifr (evt_of (ev_lt (evr_vd rfl) (evr_c fun _ => .int _))) (fun h2 => ?_) (fun h2 => ?_)
    · have h2' := of_decide_eq_true h2
      refine go_retP (evp_if (etp_t (evt_of (ev_gt (evr_vd rfl) (evr_c fun _ => .int _))) ⟨fun h3 => ?_, fun _ => evp_of (ev_tup (dv_cons (evr_c fun _ => .str _) dv_nil)) ⟨.bide, rfl, trivial⟩⟩))
      have h3' := of_decide_eq_true h3
      have : w = 5 ∨ w = 6 := by omega
      refine pbin (plst (eap_cons (evp_of (ev_tup (dv_cons (evr_c fun _ => .str _) dv_nil)) ⟨rfl, eap_cons (evp_of (ev_tup (dv_cons (evr_c fun _ => .str _) dv_nil)) ⟨rfl, eap_nil ⟨[.tuple [.str "fill"], .tuple [.str "bide"]], rfl, by simp, evp_of (ev_sub (evr_vd rfl) (evr_c fun _ => .int _)) ?_⟩⟩)⟩)))
      rcases this with rfl | rfl
      · exact ⟨_, b2_ix rfl at0, .fill, rfl, trivial⟩
      · exact ⟨_, b2_ix rfl (atN (n := 1) rfl rfl), .bide, rfl, trivial⟩
    · have h2' := of_decide_eq_false h2
      refine go_ifr (evt_of (ev_lt (evr_vd rfl) (evr_c fun _ => .int _))) (fun h3 => ?_) (fun h3 => ?_)
      · have h3' := of_decide_eq_true h3
        have : w = 7 ∨ w = 8 := by omega
        refine go_retP (pbin (plst (eap_cons (evp_of (ev_tup (dv_cons (evr_c fun _ => .str _) dv_nil)) ⟨rfl, eap_cons (evp_of (ev_tup (dv_cons (evr_c fun _ => .str _) dv_nil)) ⟨rfl, eap_nil ⟨[.tuple [.str "lift"], .tuple [.str "set"]], rfl, by simp, evp_of (ev_sub (evr_vd rfl) (evr_c fun _ => .int _)) ?_⟩⟩)⟩))))
        rcases this with rfl | rfl
        · exact ⟨_, b2_ix rfl at0, .lift, rfl, trivial⟩
        · exact ⟨_, b2_ix rfl (atN (n := 1) rfl rfl), .set, rfl, trivial⟩
      · refine go_ifr (evt_of (ev_lt (evr_vd rfl) (evr_c fun _ => .int _))) (fun h4 => ?_) (fun h4 => ?_)
        · refine go_retP (ptup (eap_cons (evp_of (evr_c fun _ => .str _) ⟨rfl, eap_cons (pbin (plst (eap_cons (evp_takeC (i := 0) rfl (by decide) (by decide) fun a a0 a1 β4 => ⟨rfl, eap_cons (evp_takeC (i := 0) rfl (by decide) (by decide) fun b b0 b1 β5 => ⟨rfl, eap_nil ⟨[.int a, .int b], rfl, by simp, pbin (evp_takeC (i := 0) rfl (by decide) (by decide) fun e e0 e1 β6 => evp_of (evr_c fun _ => .int _) ⟨_, b2_fdiv ⟨by decide, by decide⟩, ?_⟩)⟩⟩)⟩))))⟩)))
          have : e / 5 = 0 ∨ e / 5 = 1 := by omega
          rcases this with q | q
          · rw [q]; exact ⟨_, b2_ix rfl at0, rfl, eap_nil ⟨[.str "hand", .int a], rfl, by simp, .hand a, rfl, a0, by omega⟩⟩
          · rw [q]; exact ⟨_, b2_ix rfl (atN (n := 1) rfl rfl), rfl, eap_nil ⟨[.str "hand", .int b], rfl, by simp, .hand b, rfl, b0, by omega⟩⟩
        · refine go_retP (ptup (eap_cons (evp_of (evr_c fun _ => .str _) ⟨rfl, eap_cons (pbin (plst (eap_cons (evp_takeC (i := 0) rfl (by decide) (by decide) fun a a0 a1 β4 => ⟨rfl, eap_cons (evp_takeC (i := 0) rfl (by decide) (by decide) fun b b0 b1 β5 => ⟨rfl, eap_nil ⟨[.int a, .int b], rfl, by simp, evp_takeC (i := 0) rfl (by decide) (by decide) fun e e0 e1 β6 => ?_⟩⟩)⟩))))⟩)))
          have : e = 0 ∨ e = 1 := by omega
          rcases this with rfl | rfl
          · exact ⟨_, b2_ix rfl at0, rfl, eap_nil ⟨[.str "go", .int a], rfl, by simp, .go a, rfl, a0, by omega⟩⟩
          · exact ⟨_, b2_ix rfl (atN (n := 1) rfl rfl), rfl, eap_nil ⟨[.str "go", .int b], rfl, by simp, .go b, rfl, b0, by omega⟩⟩
inductive T__law_deeds : List Res → Bx → Post → Prop
  | mk {y : Yard} {s : State} {β : Bx} (h : y.Ok) (hs : LS y s) : T__law_deeds [.box, .d (encYard y), .d (encState s)] β fun r _ => ∃ ds : List Deed, r = .d (encDeeds ds) ∧ ds.length = s.cars.length ∧ ∀ d ∈ ds, d.num
theorem sc__law_deeds : FnScope ["_law_box_here", "_law_yard_here", "_law_state_here", "_law_number"] ["_law_box_here", "_law_yard_here", "_law_state_here"] (defScope s__law_deeds) := ⟨rfl, rfl, rfl, by decide +kernel, rfl, by decide +kernel, by decide +kernel⟩
theorem fn__law_deeds {g : Gb} (T : Txt g) : FnP g "_law_deeds" ["_law_box_here", "_law_yard_here", "_law_state_here"] 4 T__law_deeds := by
  have nd := sc__law_deeds.nd
  have c__law_deed := fn__law_deed T
  refine T.fnP 69 rfl sc__law_deeds (fun _ _ _ _ _ _ us hl => match us, hl with | [_, _, _], _ => rfl) (by intro rs β P h; cases h <;> rfl) ⟨_, (pssc_one (psc_ret (pec_tuple T.b_tuple (pec_lc [("_law_number", 3)] nd (pic_range T.b_range (pec_len T.b_len (pec_ix (pec_var 2) pec_int))) (pgc_name 3 nd) ptsc_nil (pec_fnP c__law_deed (pac_cons (pec_var 0) (pac_cons (pec_var 1) (pac_cons (pec_var 2) (pac_cons (pec_var 3) pac_nil))))))))), ?_⟩
  intro rs β P h B bx
  clear c__law_deed
  rcases h with @⟨y, s, β, h, hs⟩
  change GoR g.K B bx _ [some _, some _, some _, none] _ _ _
  have c3 := hs.c3
  refine go_retP (ptupL (evp_lc (fr := true) (fun i β acc => ∃ ds : List Deed, acc = ds.map encDeed ∧ ds.length = i ∧ ∀ d ∈ ds, d.num) (wk_range (ev_lenT (ds := s.cars.map encCar) (ev_ixT (evr_vd rfl) (evr_c fun _ => .int _) rfl)) (by omega) (by rw [List.length_map]; omega)) (tg_name _) (by decide) (by rw [rgD_length, List.length_map]; omega) ⟨[], rfl, rfl, fun d h => by cases h⟩ (fun j d hd βj acc hJ => ?_) ?_))
  · obtain ⟨ds, rfl, dl, hn⟩ := hJ
    have hj := (List.getElem?_eq_some_iff.mp hd).1
    rw [rgD_length] at hj
    rw [rgD_get hj] at hd
    cases hd
    rw [List.length_map] at hj
    have hk : s.cars[j]? = some (s.cars[j]'(by omega)) := List.getElem?_eq_getElem (by omega)
    refine ⟨_, rfl, etp_yes ⟨fun _ => evp_call (eap_cons (evp_of (evr_var rfl) ⟨rfl, eap_cons (evp_of (evr_vd rfl) ⟨rfl, eap_cons (evp_of (evr_vd rfl) ⟨rfl, eap_cons (evp_of (evr_vd rfl) ⟨rfl, eap_nil ⟨_, .mk h hk (hs.cars _ (List.getElem_mem _)).1, ?_⟩⟩)⟩)⟩)⟩)), (fun h => by cases h)⟩⟩
    rintro r β2 ⟨d, rfl, hdn⟩
    refine ⟨_, rfl, ds ++ [d], by rw [List.map_append]; rfl, by simp [dl], fun x hx => ?_⟩
    rcases List.mem_append.1 hx with q | q
    · exact hn x q
    · simp only [List.mem_singleton] at q
      rw [q]; exact hdn
  · rintro β2 acc ⟨ds, rfl, dl, hn⟩
    rw [rgD_length, List.length_map] at dl
    exact ⟨_, rfl, ds, rfl, by omega, hn⟩
inductive T__law_takes : List Res → Bx → Post → Prop
  | mk {y : Yard} {s : State} {l : Option Int} {n : Int} {β : Bx} (hs : LS y s) (hl : ∀ a, l = some a → 0 ≤ a ∧ a < s.shelves.length) (n0 : 0 ≤ n) : T__law_takes [.d (encState s), .d (encO l), .d (.int n)] β fun r β' => (∃ b, r = .d (.bool b) ∧ (b = true → l.isSome = true ∧ n.toNat < s.orders.length)) ∧ β' = β
theorem sc__law_takes : FnScope ["_law_state_here", "_law_load", "_law_order", "_law_good", "_law_many", "_law_given", "_law_hour"] ["_law_state_here", "_law_load", "_law_order"] (defScope s__law_takes) := ⟨rfl, rfl, rfl, by decide +kernel, rfl, by decide +kernel, by decide +kernel⟩
theorem fn__law_takes {g : Gb} (T : Txt g) : FnP g "_law_takes" ["_law_state_here", "_law_load", "_law_order"] 1 T__law_takes := by
  have nd := sc__law_takes.nd
  refine T.fnP 72 rfl sc__law_takes (fun _ _ _ _ _ _ us hl => match us, hl with | [_, _, _], _ => rfl) (by intro rs β P h; cases h <;> rfl) ⟨_, (pssc_cons (psc_if (ptc_w (pwc_or (ptc_isN (pec_var 1)) (pwc_or1 (ptc_ge (pec_var 2) (pec_len T.b_len (pec_ix (pec_var 0) pec_int)))))) (pssc_one (psc_ret pec_bl)) pssc_nil)
    (pssc_cons (psc_asg (pec_ix (pec_ix (pec_var 0) pec_int) (pec_var 2)) (pgc_tup (n := 4) (pgsc_cons (pgc_name 3 nd) (pgsc_cons (pgc_name 4 nd) (pgsc_cons (pgc_name 5 nd) (pgsc_cons (pgc_name 6 nd) pgsc_nil))))))
    (pssc_one (psc_ret (pec_and (pec_lt (pec_var 5) (pec_var 4)) (pec_one (pec_gt (pec_ix (pec_ix (pec_ix (pec_ix (pec_var 0) pec_int) (pec_var 1)) pec_int) (pec_var 3)) pec_int))))))), ?_⟩
  intro rs β P h B bx
  rcases h with @⟨y, s, l, n, β, hs, hl, n0⟩
  change GoR g.K B bx _ [some _, some _, some _, none, none, none, none] _ _ _
  refine go_ifr (ev_tor (evt_of (ev_isN (evr_vd rfl))) fun _ => (evt_of (ev_ge (evr_vd rfl) (ev_lenT (ds := s.orders.map encOrder) (ev_ixT (evr_vd rfl) (evr_c fun _ => .int _) rfl))))) (fun h1 => ?_) (fun h1 => ?_)
  · exact go_ret (evr_c fun _ => .bl _) ⟨⟨false, rfl, fun h => by cases h⟩, rfl⟩
  · rw [Bool.or_eq_false_iff, isNo_encO, List.length_map] at h1
    have hn := of_decide_eq_false h1.2
    have hlt : n.toNat < s.orders.length := by omega
    obtain ⟨a, rfl⟩ : ∃ a, l = some a := by
      cases l with
      | none => cases h1.1
      | some a => exact ⟨a, rfl⟩
    have ha := hl a rfl
    have alt : a.toNat < s.shelves.length := by omega
    obtain ⟨o, ho⟩ : ∃ o, s.orders[n.toNat]? = some o := ⟨_, List.getElem?_eq_getElem hlt⟩
    obtain ⟨b, hb⟩ : ∃ b, s.shelves[a.toNat]? = some b := ⟨_, List.getElem?_eq_getElem alt⟩
    have og := hs.os o (List.mem_of_getElem? ho)
    have bg := hs.sh b (List.mem_of_getElem? hb)
    have glt : o.good.toNat < b.stock.length := by omega
    refine go_seq1 (go_asgT (d := encOrder o) (ev_ixT (ds := s.orders.map encOrder) (ev_ixT (evr_vd rfl) (evr_c fun _ => .int _) rfl) (evr_vd rfl) (atN (n := n.toNat) (by omega) (by rw [List.getElem?_map, ho]; rfl))) (tg_tup (tgs_cons (tg_name _) (tgs_cons (tg_name _) (tgs_cons (tg_name _) (tgs_cons (tg_name _) tgs_nil))))) rfl ⟨rfl, rfl⟩) ?_
    exact go_ret (ev_vand (ev_lt (evr_vd rfl) (evr_vd rfl)) fun _ => (ev_gt (i := b.stock[o.good.toNat]) (ev_ixT (i := o.good) (ds := b.stock.map PyData.int) (ev_ixT (ds := [.int b.home, encInts b.stock]) (ev_ixT (i := a) (ds := s.shelves.map encShelf) (ev_ixT (evr_vd rfl) (evr_c fun _ => .int _) rfl) (evr_vd rfl) (atN (n := a.toNat) (by omega) (by rw [List.getElem?_map, hb]; rfl))) (evr_c fun _ => .int _) rfl) (evr_vd rfl) (atN (n := o.good.toNat) (by omega) (by rw [List.getElem?_map, List.getElem?_eq_getElem glt]; rfl))) (evr_c fun _ => .int _))) ⟨⟨_, rfl, fun _ => ⟨rfl, hlt⟩⟩, rfl⟩
end K20
set_option maxHeartbeats 4000000
namespace K20
open PySem PySem.Spec PyProof.Rows L2
theorem merge_kv : ∀ (more acc : List (Int × Int)), ((acc ++ more).map (·.1)).Nodup → mergeK (acc.map kvOf) (more.map kvOf) = (acc ++ more).map kvOf
  | [], acc, _ => by rw [List.append_nil]; rfl
  | (k, v) :: more, acc, nd => by
    have hk : k ∉ acc.map (·.1) := by
      rw [List.map_append, List.nodup_append] at nd
      exact fun h => nd.2.2 k h k (by simp) rfl
    have e : mergeK (acc.map kvOf) (((k, v) :: more).map kvOf) = mergeK (putK (acc.map kvOf) (Sum.inl k) (V.int v)) (more.map kvOf) := rfl
    rw [e, putK_kvOf hk, merge_kv more (acc ++ [(k, v)]) (by rw [List.append_assoc]; exact nd), List.append_assoc]
    rfl
theorem ev_dictP {K : PySem.W.Frag} {B : Hp} {bx : Option Addr} {ρ : Env} {β β1 : Bx} {te : TE} {f1 : Bool} {kvs : List (Int × Int)} (ha : EvR K B bx te ρ β f1 (.l (kvs.map fun p => .tuple [.int p.1, .int p.2])) β1) (nd : (kvs.map (·.1)).Nodup) : EvR K B bx (tCB (rDictP K) (tCons te tNil)) ρ β true (.m kvs) β1 := evr_cb1 ha fun H v A bi rv Q g => by
  obtain ⟨p, vs, rfl, n, hp, rr, _⟩ := rv
  have key : ∀ (kvs : List (Int × Int)) (vs : List V), Reps K H vs (kvs.map fun p => .tuple [.int p.1, .int p.2]) → ∃ ps : List Addr, vs = ps.map V.ref ∧ Paired (fun p kv => SqT K H p [kV kv.1, kv.2]) ps (kvs.map kvOf) := by
    intro kvs
    induction kvs with
    | nil => intro vs r; cases r; exact ⟨[], rfl, .nil⟩
    | cons q kvs ih =>
      intro vs r
      rw [List.map_cons] at r
      cases r with
      | cons a b =>
        obtain ⟨c, xs, rfl, hx, rx⟩ := a.inv_tup
        obtain ⟨ps, rfl, hp⟩ := ih _ b
        have e : xs = [V.int q.1, V.int q.2] := Reps.ints (ns := [q.1, q.2]) rx
        subst e
        exact ⟨c :: ps, rfl, .cons (Rep.sqt hx) hp⟩
  obtain ⟨ps, rfl, hps⟩ := key kvs vs rr
  refine ⟨p, ps, kvs.map kvOf, rfl, .inl (.inl hp), hps, fun q hq => ?_⟩
  have e : mergeK [] (kvs.map kvOf) = kvs.map kvOf := merge_kv kvs [] nd
  rw [e]
  exact g _ _ [q] (Kp.new hq) (bi.new hq) ⟨q, rfl, bi.ne hq, upd_same, rfl⟩ fun _ z hz => by
    simp at hz; subst hz; exact hq
def lawKV (s : State) : List (Int × Int) := ((zipN s.shelves).filter fun p => !decide ((p.1 : Int) ∈ loadsL s.cars)).map fun p => (p.2.home, (p.1 : Int))
theorem lawKV_nd {s : State} (hn : (s.shelves.map (·.home)).Nodup) : ((lawKV s).map (·.1)).Nodup := by
  unfold lawKV
  rw [List.map_map]
  have h2 : (zipN s.shelves).map (fun p => p.2.home) = s.shelves.map (·.home) := by
    have : (zipN s.shelves).map (fun p => p.2) = s.shelves := by
      unfold zipN
      rw [List.map_snd_zip (by rw [List.length_range]; exact Nat.le_refl _)]
    have h4 := congrArg (List.map fun b : Shelf => b.home) this
    rw [List.map_map] at h4
    exact h4
  have h3 : (zipN s.shelves).Pairwise fun a b => a.2.home ≠ b.2.home := List.pairwise_map.mp (by rw [h2]; exact hn)
  exact List.pairwise_map.mpr (h3.sublist List.filter_sublist)
theorem lawKV_some {s : State} {c m : Int} (h : lkM (lawKV s) c = some m) : 0 ≤ m ∧ m < s.shelves.length := by
  unfold lkM at h
  cases hf : (lawKV s).find? (fun p => decide (p.1 = c)) with
  | none => rw [hf] at h; exact nomatch h
  | some p =>
    rw [hf] at h
    cases h
    have hm : _ ∈ _ := List.mem_of_find?_eq_some hf
    obtain ⟨q, hq, rfl⟩ := List.mem_map.mp hm
    have := zipN_get (List.mem_filter.mp hq).1
    have := (List.getElem?_eq_some_iff.mp this).1
    exact ⟨by show (0 : Int) ≤ (q.1 : Int); omega, by show (q.1 : Int) < _; omega⟩
inductive R__law_homes : List Res → Bx → Res → Bx → Prop
  | mk {s : State} {β : Bx} (h1 : s.cars.length ≤ 100) (h2 : s.shelves.length ≤ 100) (hn : (s.shelves.map (·.home)).Nodup) : R__law_homes [.d (encState s)] β (.m (lawKV s)) β
theorem sc__law_homes : FnScope ["_law_state_here", "_law_loads", "_law_one", "_law_shelf", "_law_home", "_law_stock"] ["_law_state_here"] (defScope s__law_homes) := ⟨rfl, rfl, rfl, by decide +kernel, rfl, by decide +kernel, by decide +kernel⟩
theorem fn__law_homes {g : Gb} (T : Txt g) : FnX g "_law_homes" ["_law_state_here"] 1 R__law_homes := by
  have nd := sc__law_homes.nd
  refine T.fnX 70 rfl sc__law_homes (fun _ _ _ _ _ _ us hl => match us, hl with | [_], _ => rfl) (by intro rs β r β' h; cases h <;> rfl) ⟨_, (pssc_cons (psc_asg (pec_lc [("_law_one", 2)] nd (pic_tup (pec_ix (pec_var 0) pec_int)) (pgc_name 2 nd) ptsc_nil (pec_ix (pec_var 2) pec_int)) (pgc_name 1 nd))
    (pssc_one (psc_ret (pec_dictP T.b_dict (pec_lc [("_law_shelf", 3), ("_law_home", 4), ("_law_stock", 5)] nd (pic_enumT T.b_enumerate (pec_ix (pec_var 0) pec_int)) (pgc_tup (n := 2) (pgsc_cons (pgc_name 3 nd) (pgsc_cons (pgc_tup (n := 2) (pgsc_cons (pgc_name 4 nd) (pgsc_cons (pgc_name 5 nd) pgsc_nil))) pgsc_nil))) (ptsc_one (ptc_nin (pec_var 3) (pec_var 1))) (pec_tup (pac_cons (pec_var 4) (pac_cons (pec_var 3) pac_nil)))))))), ?_⟩
  intro rs β r β' h B bx
  rcases h with @⟨s, β, h1, h2, hn⟩
  change GoR g.K B bx _ [some _, none, none, none, none, none] _ _ _
  refine go_seq1 (go_asg (ev_lc (xs := s.cars) (enc := encCar) (f := fun c => encO c.load) (wk_tup (ds := s.cars.map encCar) (ev_ixT (evr_vd rfl) (evr_c fun _ => .int _) rfl)) (tg_name _) (by decide) (by omega) fun y hy => ⟨_, rfl, (ev_ixT (evr_vd rfl) (evr_c fun _ => .int _) rfl)⟩) ⟨rfl, rfl⟩) ?_
  refine go_ret (ev_dictP (ev_castR (ev_lcIf (xs := zipN s.shelves) (enc := fun p => prD (.int p.1) (encShelf p.2)) (f := fun p => .tuple [.int p.2.home, .int p.1]) (fun p => !decide ((p.1 : Int) ∈ loadsL s.cars)) (wk_enumZ (l := s.shelves) (f := encShelf) (ev_ixT (evr_vd rfl) (evr_c fun _ => .int _) rfl)) (tg_tup (tgs_cons (tg_name _) (tgs_cons (tg_tup (tgs_cons (tg_name _) (tgs_cons (tg_name _) tgs_nil))) tgs_nil))) (by decide) (by rw [zipN_len]; omega) fun p hp => ⟨_, rfl, ev_tcast (evt_of (ev_nin (evr_vd rfl) (evr_vl rfl) rfl (fl_loads _))) (by rw [inD_loads]), fun hp => (ev_tup (dv_cons (evr_vd rfl) (dv_cons (evr_vd rfl) dv_nil)))⟩) ?_) (lawKV_nd hn)) ⟨rfl, rfl⟩
  unfold lawKV
  rw [List.map_map]; rfl
/-- what the law's None leaves for its own step -/
def LOk (y : Yard) (s : State) (c : Car) : Deed → Prop
  | .go n => y.cell n
  | .lift => (lkM (lawKV s) c.cell).isSome = true
  | .hand n => c.load.isSome = true ∧ n.toNat < s.orders.length
  | _ => True
def layW (w : Str) : Prop := PyData.canLay0 (.str w) = true
inductive T__law_own : List Res → Bx → Post → Prop
  | mk {y : Yard} {s : State} {k : Nat} {c : Car} {d : Deed} {β : Bx} (h : y.Ok) (hs : LS y s) (hk : s.cars[k]? = some c) (hd : d.num) :
    T__law_own [.d (encYard y), .d (encState s), .d (.int k), .d (encDeed d)] β fun r β' => ((r = .d .none ∧ LOk y s c d) ∨ ∃ w, r = .d (.str w) ∧ layW w) ∧ β' = β
def wbD (p : Str × Bool) : D := .tuple [.str p.1, .bool p.2]
section
variable {K : PySem.W.Frag} {B : Hp} {bx : Option Addr}
/-- (cell, charge, load, broken), homes, sign = carrier, homes, '' -/
theorem go_own1 {ρ : Env} {β : Bx} {ta tb : TE} {f1 : Bool} {c : Car} {kvs : List (Int × Int)} {N : Env → Bx → Prop} {R : Res → Bx → Prop} {w : Str} (ha : EvR K B bx ta ρ β f1 (.d (encCar c)) β) (hb : EvR K B bx tb ρ β true (.m kvs) β)
    (hn : N ((((((ρ.set 4 (some (.d (.int c.cell)))).set 5 (some (.d (.int c.charge)))).set 6 (some (.d (encO c.load)))).set 7 (some (.d (.bool c.broken)))).set 8 (some (.m kvs))).set 9 (some (.d (.str w)))) β) :
    GoR K B bx (tAsg (tTup (tCons ta (tCons tb (tCons (tC (.str w)) tNil)))) (gTup K 3 (gCons (gTup K 4 (gCons (gName 4) (gCons (gName 5) (gCons (gName 6) (gCons (gName 7) gNil))))) (gCons (gName 8) (gCons (gName 9) gNil))))) ρ β N R := fun σ H D S n rt =>
  ha σ H S _ fun v1 H1 A1 k1 b1 r1 _ => hb σ H1 (S.step k1 b1) _ fun v2 H2 A2 k2 b2 r2 f2 => ⟨by have := line5; show 3 ≤ sizeLine; omega, fun p hp => by
    obtain ⟨a, xs, rfl, hx, rr⟩ := r1.1.inv_tup
    cases rr with
    | cons ra rr => cases rr with
      | cons rb rr => cases rr with
        | cons rc rr => cases rr with
          | cons rd rr =>
            cases rr
            rename_i va vb vc vd
            have kn : Kp bx H2 (upd H2 p (.tup [.ref a, v2, .str w])) := Kp.new hp
            have b3 := b2.new (o := .tup [.ref a, v2, .str w]) hp
            have S1 := S.step k1 b1
            have T1 := (((S1.put (r := .d (.int c.cell)) (A := []) 4 Kp.refl b1 ⟨ra, rfl⟩ (fun _ h => by cases h)).put (r := .d (.int c.charge)) (A := []) 5 Kp.refl b1 ⟨rb, rfl⟩ (fun _ h => by cases h)).put (r := .d (encO c.load)) (A := []) 6 Kp.refl b1 ⟨rc, rfl⟩ (fun _ h => by cases h)).put (r := .d (.bool c.broken)) (A := []) 7 Kp.refl b1 ⟨rd, rfl⟩ (fun _ h => by cases h)
            have T2 := (T1.put 8 (k2.trans kn) b3 (r2.kp b2 kn) (f2 rfl)).put (r := .d (.str w)) (A := []) 9 Kp.refl b3 ⟨.str _, rfl⟩ (fun _ h => by cases h)
            have tk : TK H1 (upd H2 p (.tup [.ref a, v2, .str w])) := (k2.trans kn).tk b1
            exact ⟨p, _, rfl, .inl (.inl upd_same), rfl, _, _, rfl, ⟨a, _, rfl, Rep.sqt (hx.imp (tk _ _) id), rfl, _, _, rfl, _, _, rfl, _, _, rfl, _, _, rfl, rfl, _, _, rfl, _, _, rfl, rfl, n _ β _ _ hn (fun q zs e => tk q zs (k1.tk S.bi q zs e)) T2⟩⟩⟩
end
theorem b2_nin {K : PySem.W.Frag} {d : D} {ds : List D} {y : Res} (hy : y.seq = some ds) (fx : fl1 d = true) (fy : ds.all fl1 = true) : B2 K (rIn K true) (.d d) y (.bool (!inD d ds)) := fun bx H vx vy Ax Ay rx ry Q g => by
  obtain ⟨p, vs, rfl, hp, rr⟩ := ry.seq hy
  refine ⟨p, vs, rfl, hp, rx.1.flat fx, rr.flats fy, ?_⟩
  rw [if_pos rfl, inV_inD rx.1 rr fx fy]
  exact g _ (.bl _)
theorem evp_notV {K : PySem.W.Frag} {B : Hp} {bx : Option Addr} {ρ : Env} {β : Bx} {ta : TE} {f1 : Bool} {C : Post} (h : EvP K B bx ta ρ β f1 fun x β1 => ∃ a, x = .d (.bool a) ∧ C (.d (.bool (!a))) β1) : EvP K B bx (tNotV ta) ρ β true C := fun σ H S Q g =>
  h σ H S _ fun x β1 ⟨a, e, c⟩ v H1 A k1 b1 r1 _ => by
    subst e
    exact ⟨a, r1.1.inv_bool, ((g (.d (.bool (!a))) β1 c).behind k1 b1).d b1 (.bl _)⟩
theorem sh_word {w : Str} (h : PyData.canLay0 (.str w) = true := by decide +kernel) : SeqAt.shaped (.tuple [.str w]) = true := (Sh.tup (n := 0) (ds := [.str w]) fun d hd => by
  rw [List.mem_singleton] at hd; rw [hd]; exact .str h).ok
theorem sc__law_own : FnScope ["_law_yard_here", "_law_state_here", "_law_number", "_law_deed_here", "_law_cell", "_law_charge", "_law_load", "_law_broken", "_law_homes_here", "_law_sign", "_law_dear", "_law_some", "_law_price", "_law_words", "_law_word", "_law_holds"] ["_law_yard_here", "_law_state_here", "_law_number", "_law_deed_here"] (defScope s__law_own) := ⟨rfl, rfl, rfl, by decide +kernel, rfl, by decide +kernel, by decide +kernel⟩
theorem fn__law_own {g : Gb} (T : Txt g) : FnP g "_law_own" ["_law_yard_here", "_law_state_here", "_law_number", "_law_deed_here"] 3 T__law_own := by
  have nd := sc__law_own.nd
  have c__law_homes := fn__law_homes T
  have c__law_signs := fn__law_signs T
  have c__law_near := fn__law_near T
  have c__law_takes := fn__law_takes T
  refine T.fnP 71 rfl sc__law_own (fun _ _ _ _ _ _ us hl => match us, hl with | [_, _, _, _], _ => rfl) (by intro rs β P h; cases h <;> rfl) ⟨_, (pssc_cons (psc_asg (pec_tup (pac_cons (pec_ix (pec_ix (pec_var 1) pec_int) (pec_var 2)) (pac_cons (pec_fn c__law_homes (pac_cons (pec_var 1) pac_nil)) (pac_cons pec_str pac_nil)))) (pgc_tup (n := 3) (pgsc_cons (pgc_tup (n := 4) (pgsc_cons (pgc_name 4 nd) (pgsc_cons (pgc_name 5 nd) (pgsc_cons (pgc_name 6 nd) (pgsc_cons (pgc_name 7 nd) pgsc_nil))))) (pgsc_cons (pgc_name 8 nd) (pgsc_cons (pgc_name 9 nd) pgsc_nil)))))
    (pssc_cons (psc_par (i := 9) (j := 10) nd (pac_cons (pec_ixS (pec_fn c__law_signs (pac_cons (pec_var 0) pac_nil)) (pec_var 4)) (pac_cons (pec_ix (pec_ix (pec_var 0) pec_int) pec_int) pac_nil)))
    (pssc_cons (psc_if (ptc_of (pec_var 7)) (pssc_one (psc_ret (pec_if (ptc_eqD (pec_var 3) (pec_tup (pac_cons pec_str pac_nil))) pec_non pec_str))) pssc_nil)
    (pssc_cons (psc_asg (pec_lst pac_nil) (pgc_name 11 nd))
    (pssc_cons (psc_if (ptc_eq (pec_ix (pec_var 3) pec_int) pec_str) (pssc_one (psc_asg (pec_lst (pac_cons (pec_tup (pac_cons pec_str (pac_cons (pec_ne (pec_var 9) pec_str) pac_nil))) pac_nil)) (pgc_name 11 nd))) pssc_nil)
    (pssc_cons (psc_if (ptc_eq (pec_ix (pec_var 3) pec_int) pec_str) (pssc_cons (psc_asg (pec_ix (pec_ix (pec_var 0) pec_int) (pec_int1 T.b_int (pec_notN (pec_var 6)))) (pgc_name 12 nd))
    (pssc_cons (psc_asg (pec_lst (pac_cons (pec_tup (pac_cons pec_str (pac_cons (pec_nin (pec_ix (pec_var 3) pec_int) (pec_fnP c__law_near (pac_cons (pec_var 0) (pac_cons (pec_var 4) pac_nil)))) pac_nil))) (pac_cons (pec_tup (pac_cons pec_str (pac_cons (pec_and (pec_notN (pec_var 6)) (pec_one (pec_inM (pec_ix (pec_var 3) pec_int) (pec_var 8)))) pac_nil))) pac_nil))) (pgc_name 11 nd))
    (pssc_one (psc_expr (pec_append (pec_var 11) (pec_tup (pac_cons pec_str (pac_cons (pec_lt (pec_var 5) (pec_var 12)) pac_nil)))))))) pssc_nil)
    (pssc_cons (psc_if (ptc_eq (pec_ix (pec_var 3) pec_int) pec_str) (pssc_one (psc_asg (pec_lst (pac_cons (pec_tup (pac_cons pec_str (pac_cons (pec_notN (pec_var 6)) pac_nil))) (pac_cons (pec_tup (pac_cons pec_str (pac_cons (pec_ninM (pec_var 4) (pec_var 8)) pac_nil))) (pac_cons (pec_tup (pac_cons pec_str (pac_cons (pec_lt (pec_var 5) (pec_var 10)) pac_nil))) pac_nil)))) (pgc_name 11 nd))) pssc_nil)
    (pssc_cons (psc_if (ptc_eq (pec_ix (pec_var 3) pec_int) pec_str) (pssc_one (psc_asg (pec_lst (pac_cons (pec_tup (pac_cons pec_str (pac_cons (pec_isN (pec_var 6)) pac_nil))) (pac_cons (pec_tup (pac_cons pec_str (pac_cons (pec_and (pec_notN (pec_var 6)) (pec_one (pec_ne (pec_ix (pec_ix (pec_ix (pec_var 1) pec_int) (pec_var 6)) pec_int) (pec_var 4)))) pac_nil))) pac_nil))) (pgc_name 11 nd))) pssc_nil)
    (pssc_cons (psc_if (ptc_eq (pec_ix (pec_var 3) pec_int) pec_str) (pssc_one (psc_asg (pec_lst (pac_cons (pec_tup (pac_cons pec_str (pac_cons (pec_isN (pec_var 6)) pac_nil))) (pac_cons (pec_tup (pac_cons pec_str (pac_cons (pec_ne (pec_var 9) pec_str) pac_nil))) (pac_cons (pec_tup (pac_cons pec_str (pac_cons (pec_not (pec_fnP c__law_takes (pac_cons (pec_var 1) (pac_cons (pec_var 6) (pac_cons (pec_ix (pec_var 3) pec_int) pac_nil))))) pac_nil))) pac_nil)))) (pgc_name 11 nd))) pssc_nil)
    (pssc_cons (psc_setLc 13 [("_law_word", 14), ("_law_holds", 15)] nd (pic_list (pec_var 11)) (pgc_tup (n := 2) (pgsc_cons (pgc_name 14 nd) (pgsc_cons (pgc_name 15 nd) pgsc_nil))) (ptsc_one (ptc_of (pec_var 15))) (pec_var 14))
    (pssc_one (psc_ret (pec_if (ptc_neD (pec_var 13) (pec_lst pac_nil)) (pec_ix (pec_var 13) pec_int) pec_non))))))))))))), ?_⟩
  intro rs β P h B bx
  clear c__law_homes
  clear c__law_signs
  clear c__law_near
  clear c__law_takes
  rcases h with @⟨y, s, k, c, d, β, h, hs, hk, hd⟩
  change GoR g.K B bx _ [some _, some _, some _, some _, none, none, none, none, none, none, none, none, none, none, none, none] _ _ _
  have big := line5
  have c3 := hs.c3; have s4 := hs.s4
  obtain ⟨⟨p0, p1, p2⟩, hl⟩ := hs.cars c (List.mem_of_getElem? hk)
  refine go_seq1 (go_own1 (c := c) (kvs := lawKV s) (w := "") (ev_carAt hk (evr_vd rfl) (evr_c fun _ => .int _) (evr_vd rfl)) (ev_callD (dv_cons (evr_vd rfl) dv_nil) (.mk (by omega) (by omega) hs.hn)) ⟨rfl, rfl⟩) ?_
  obtain ⟨m1, e1⟩ := ev_sgnS (K := g.K) (B := B) (bx := bx) (β := β) (ta := tCall (spT g.K R__law_signs) [] E0 (tCons (tVar 0) tNil)) (tb := tVar 4) (f1 := true) (f2 := true) (ρ := [some (.d (encYard y)), some (.d (encState s)), some (.d (.int k)), some (.d (encDeed d)), some (.d (.int c.cell)), some (.d (.int c.charge)), some (.d (encO c.load)), some (.d (.bool c.broken)), some (.m (lawKV s)), some (.d (.str "")), none, none, none, none, none, none]) h p0 p1 (ev_callD (dv_cons (evr_vd rfl) dv_nil) (.mk h)) (evr_vd rfl)
  refine go_seq1 (go_par (r1 := .d (.str ⟨#[m1]⟩)) (r2 := .d (.int y.laden)) e1 (ev_ixT (ev_ixT (evr_vd rfl) (evr_c fun _ => .int _) rfl) (evr_c fun _ => .int _) rfl) ⟨rfl, rfl⟩) ?_
  refine go_ifr (evt_of (c := c.broken) (evr_vd rfl)) (fun hb => ?_) (fun hb => ?_)
  · refine go_retP (evp_if (etp_t (evt_of (ev_eqD (evr_vd rfl) (ev_tup (dv_cons (evr_c fun _ => .str _) dv_nil)) (sh_deed d).ok (sh_word (w := "bide")))) ⟨fun h1 => evp_of (evr_c fun _ => .non) ⟨.inl ⟨rfl, ?_⟩, rfl⟩, fun h1 => evp_of (evr_c fun _ => .str _) ⟨.inr ⟨_, rfl, by unfold layW; decide +kernel⟩, rfl⟩⟩))
    cases d with
    | bide => trivial
    | fill | set => trivial
    | lift => exact absurd h1 (by decide +kernel)
    | go n => cases h1
    | hand n => cases h1
  · refine go_seq1 (go_asg (ev_lst dv_nil) ⟨rfl, rfl⟩) ?_
    have fin : ∀ (N : Env → Bx → Prop) (ws : List Str) (xs : List (Str × Bool)) (o12 : Option Res), xs.map (·.1) = ws → (ws.length ≤ 3 ∧ ws.all (fun w => PyData.canLay0 (.str w)) = true) → (xs.all (fun p => !p.2) = true → LOk y s c d) → GoR g.K B bx (tSeq (tAsg (tLc (iList g.K (tVar 11)) (gTup g.K 2 (gCons (gName 14) (gCons (gName 15) gNil))) (tB (tVar 15)) (tVar 14) [14, 15]) (gName 13)) (tRet (tIf (tB (tOp (rNeD g.K) (tVar 13) (tLst tNil))) (tOp (rSeq g.K) (tVar 13) (tC (.int 0))) (tC .non))))
        [some (.d (encYard y)), some (.d (encState s)), some (.d (.int k)), some (.d (encDeed d)), some (.d (.int c.cell)), some (.d (.int c.charge)), some (.d (encO c.load)), some (.d (.bool c.broken)), some (.m (lawKV s)), some (.d (.str ⟨#[m1]⟩)), some (.d (.int y.laden)), some (.l (xs.map wbD)), o12, none, none, none] β N (fun r β' => ((r = .d .none ∧ LOk y s c d) ∨ ∃ w, r = .d (.str w) ∧ layW w) ∧ β' = β) := by
      intro N ws xs o12 ew hw hf
      have hx : xs.length ≤ 3 := by rw [← List.length_map (f := fun p : Str × Bool => p.1), ew]; exact hw.1
      have hlay : ∀ p ∈ xs, PyData.canLay0 (.str p.1) = true := fun p hp => List.all_eq_true.mp hw.2 p.1 (by rw [← ew]; exact List.mem_map_of_mem hp)
      refine go_seq1 (go_asg (ev_lcIf (xs := xs) (enc := wbD) (f := fun p => .str p.1) (fun p => p.2) (wk_list (evr_vl rfl)) (tg_tup (tgs_cons (tg_name _) (tgs_cons (tg_name _) tgs_nil))) (by decide) (by omega) fun p hp => ⟨_, rfl, evt_of (c := p.2) (evr_vd rfl), fun _ => (evr_vd rfl)⟩) ⟨rfl, rfl⟩) ?_
      have qs : ∀ d ∈ (xs.filter fun p => p.2).map fun p => PyData.str p.1, Sh 0 d := fun d hd => by
        obtain ⟨p, hp, rfl⟩ := List.mem_map.mp hd
        exact .str (hlay p (List.mem_filter.mp hp).1)
      refine go_retP (evp_if (etp_t (evt_of (ev_neD (evr_vl rfl) (ev_lst dv_nil) (Sh.lst (n := 0) qs).ok (Sh.ok (n := 1) (Sh.lst (ds := []) fun _ h => by cases h)))) ⟨fun h1 => ?_, fun h1 => ?_⟩))
      · rw [eqv_nilL] at h1
        cases hq : xs.filter fun p => p.2 with
        | nil => rw [hq] at h1; cases h1
        | cons p ps =>
          refine evp_of (ev_ixL (d := .str p.1) (evr_vl rfl) (evr_c fun _ => .int _) at0) ⟨.inr ⟨_, rfl, hlay p (List.mem_filter.mp (by rw [hq]; exact List.mem_cons_self)).1⟩, rfl⟩
      · rw [eqv_nilL] at h1
        refine evp_of (evr_c fun _ => .non) ⟨.inl ⟨rfl, hf (List.all_eq_true.mpr fun p hp => ?_)⟩, rfl⟩
        cases hq : p.2 with
        | false => rfl
        | true =>
          have : p ∈ xs.filter fun p => p.2 := List.mem_filter.mpr ⟨hp, hq⟩
          cases hz : xs.filter fun p => p.2 with
          | nil => rw [hz] at this; cases this
          | cons _ _ => rw [hz] at h1; cases h1
    cases d with
    | bide =>
      refine go_seq1 (go_if (c := false) (ev_tcast (evt_of (ev_deedIs (d := .bide) (evr_vd rfl) (evr_c fun _ => .int _) (evr_c fun _ => .str _))) (dq_fill _)) (fun h => by cases h) (fun _ => go_next ⟨rfl, rfl⟩)) ?_
      refine go_seq1 (go_if (c := false) (ev_tcast (evt_of (ev_deedIs (d := .bide) (evr_vd rfl) (evr_c fun _ => .int _) (evr_c fun _ => .str _))) (dq_go _)) (fun h => by cases h) (fun _ => go_next ⟨rfl, rfl⟩)) ?_
      refine go_seq1 (go_if (c := false) (ev_tcast (evt_of (ev_deedIs (d := .bide) (evr_vd rfl) (evr_c fun _ => .int _) (evr_c fun _ => .str _))) (dq_lift _)) (fun h => by cases h) (fun _ => go_next ⟨rfl, rfl⟩)) ?_
      refine go_seq1 (go_if (c := false) (ev_tcast (evt_of (ev_deedIs (d := .bide) (evr_vd rfl) (evr_c fun _ => .int _) (evr_c fun _ => .str _))) (dq_set _)) (fun h => by cases h) (fun _ => go_next ⟨rfl, rfl⟩)) ?_
      refine go_seq1 (go_if (c := false) (ev_tcast (evt_of (ev_deedIs (d := .bide) (evr_vd rfl) (evr_c fun _ => .int _) (evr_c fun _ => .str _))) (dq_hand _)) (fun h => by cases h) (fun _ => go_next ⟨rfl, rfl⟩)) ?_
      exact fin _ [] [] none rfl (by decide) fun _ => trivial
    | fill =>
      refine go_seq1 (go_if (c := true) (ev_tcast (evt_of (ev_deedIs (d := .fill) (evr_vd rfl) (evr_c fun _ => .int _) (evr_c fun _ => .str _))) (dq_fill _)) (fun _ => go_asg (ev_lst (dv_cons (ev_tup (dv_cons (evr_c fun _ => .str _) (dv_cons (ev_ne (evr_vd rfl) (evr_c fun _ => .str _)) dv_nil))) dv_nil)) ⟨rfl, rfl⟩) (fun h => by cases h)) ?_
      refine go_seq1 (go_if (c := false) (ev_tcast (evt_of (ev_deedIs (d := .fill) (evr_vd rfl) (evr_c fun _ => .int _) (evr_c fun _ => .str _))) (dq_go _)) (fun h => by cases h) (fun _ => go_next ⟨rfl, rfl⟩)) ?_
      refine go_seq1 (go_if (c := false) (ev_tcast (evt_of (ev_deedIs (d := .fill) (evr_vd rfl) (evr_c fun _ => .int _) (evr_c fun _ => .str _))) (dq_lift _)) (fun h => by cases h) (fun _ => go_next ⟨rfl, rfl⟩)) ?_
      refine go_seq1 (go_if (c := false) (ev_tcast (evt_of (ev_deedIs (d := .fill) (evr_vd rfl) (evr_c fun _ => .int _) (evr_c fun _ => .str _))) (dq_set _)) (fun h => by cases h) (fun _ => go_next ⟨rfl, rfl⟩)) ?_
      refine go_seq1 (go_if (c := false) (ev_tcast (evt_of (ev_deedIs (d := .fill) (evr_vd rfl) (evr_c fun _ => .int _) (evr_c fun _ => .str _))) (dq_hand _)) (fun h => by cases h) (fun _ => go_next ⟨rfl, rfl⟩)) ?_
      exact fin _ ["post"] [("post", _)] none rfl (by decide +kernel) fun _ => trivial
    | lift =>
      refine go_seq1 (go_if (c := false) (ev_tcast (evt_of (ev_deedIs (d := .lift) (evr_vd rfl) (evr_c fun _ => .int _) (evr_c fun _ => .str _))) (dq_fill _)) (fun h => by cases h) (fun _ => go_next ⟨rfl, rfl⟩)) ?_
      refine go_seq1 (go_if (c := false) (ev_tcast (evt_of (ev_deedIs (d := .lift) (evr_vd rfl) (evr_c fun _ => .int _) (evr_c fun _ => .str _))) (dq_go _)) (fun h => by cases h) (fun _ => go_next ⟨rfl, rfl⟩)) ?_
      refine go_seq1 (go_if (c := true) (ev_tcast (evt_of (ev_deedIs (d := .lift) (evr_vd rfl) (evr_c fun _ => .int _) (evr_c fun _ => .str _))) (dq_lift _)) (fun _ => go_asg (ev_lst (dv_cons (ev_tup (dv_cons (evr_c fun _ => .str _) (dv_cons (ev_notN (evr_vd rfl)) dv_nil))) (dv_cons (ev_tup (dv_cons (evr_c fun _ => .str _) (dv_cons (ev_ninM (evr_vd rfl) (evr_var rfl)) dv_nil))) (dv_cons (ev_tup (dv_cons (evr_c fun _ => .str _) (dv_cons (ev_lt (evr_vd rfl) (evr_vd rfl)) dv_nil))) dv_nil)))) ⟨rfl, rfl⟩) (fun h => by cases h)) ?_
      refine go_seq1 (go_if (c := false) (ev_tcast (evt_of (ev_deedIs (d := .lift) (evr_vd rfl) (evr_c fun _ => .int _) (evr_c fun _ => .str _))) (dq_set _)) (fun h => by cases h) (fun _ => go_next ⟨rfl, rfl⟩)) ?_
      refine go_seq1 (go_if (c := false) (ev_tcast (evt_of (ev_deedIs (d := .lift) (evr_vd rfl) (evr_c fun _ => .int _) (evr_c fun _ => .str _))) (dq_hand _)) (fun h => by cases h) (fun _ => go_next ⟨rfl, rfl⟩)) ?_
      refine fin _ ["load", "none", "charge"] [("load", !isNo (encO c.load)), ("none", !(lkM (lawKV s) c.cell).isSome), ("charge", _)] none rfl (by decide +kernel) fun q => ?_
      simp only [List.all_cons, Bool.and_eq_true] at q
      show (lkM (lawKV s) c.cell).isSome = true
      simpa using q.2.1
    | set =>
      cases hcl : c.load with
      | none =>
        rw [hcl] at fin
        refine go_seq1 (go_if (c := false) (ev_tcast (evt_of (ev_deedIs (d := .set) (evr_vd rfl) (evr_c fun _ => .int _) (evr_c fun _ => .str _))) (dq_fill _)) (fun h => by cases h) (fun _ => go_next ⟨rfl, rfl⟩)) ?_
        refine go_seq1 (go_if (c := false) (ev_tcast (evt_of (ev_deedIs (d := .set) (evr_vd rfl) (evr_c fun _ => .int _) (evr_c fun _ => .str _))) (dq_go _)) (fun h => by cases h) (fun _ => go_next ⟨rfl, rfl⟩)) ?_
        refine go_seq1 (go_if (c := false) (ev_tcast (evt_of (ev_deedIs (d := .set) (evr_vd rfl) (evr_c fun _ => .int _) (evr_c fun _ => .str _))) (dq_lift _)) (fun h => by cases h) (fun _ => go_next ⟨rfl, rfl⟩)) ?_
        refine go_seq1 (go_if (c := true) (ev_tcast (evt_of (ev_deedIs (d := .set) (evr_vd rfl) (evr_c fun _ => .int _) (evr_c fun _ => .str _))) (dq_set _)) (fun _ => go_asg (ev_lst (dv_cons (ev_tup (dv_cons (evr_c fun _ => .str _) (dv_cons (ev_isN (d := .none) (evr_vd rfl)) dv_nil))) (dv_cons (ev_tup (dv_cons (evr_c fun _ => .str _) (dv_cons (ev_vand (f2 := true) (a := false) (c := false) (ev_notN (d := .none) (evr_vd rfl)) (fun h => by cases h)) dv_nil))) dv_nil))) ⟨rfl, rfl⟩) (fun h => by cases h)) ?_
        refine go_seq1 (go_if (c := false) (ev_tcast (evt_of (ev_deedIs (d := .set) (evr_vd rfl) (evr_c fun _ => .int _) (evr_c fun _ => .str _))) (dq_hand _)) (fun h => by cases h) (fun _ => go_next ⟨rfl, rfl⟩)) ?_
        exact fin _ ["bare", "home"] [("bare", true), ("home", false)] none rfl (by decide +kernel) fun _ => trivial
      | some l =>
        rw [hcl] at fin
        obtain ⟨l0, l1⟩ := hl l hcl
        have alt : l.toNat < s.shelves.length := by omega
        obtain ⟨b, hb2⟩ : ∃ b, s.shelves[l.toNat]? = some b := ⟨_, List.getElem?_eq_getElem alt⟩
        refine go_seq1 (go_if (c := false) (ev_tcast (evt_of (ev_deedIs (d := .set) (evr_vd rfl) (evr_c fun _ => .int _) (evr_c fun _ => .str _))) (dq_fill _)) (fun h => by cases h) (fun _ => go_next ⟨rfl, rfl⟩)) ?_
        refine go_seq1 (go_if (c := false) (ev_tcast (evt_of (ev_deedIs (d := .set) (evr_vd rfl) (evr_c fun _ => .int _) (evr_c fun _ => .str _))) (dq_go _)) (fun h => by cases h) (fun _ => go_next ⟨rfl, rfl⟩)) ?_
        refine go_seq1 (go_if (c := false) (ev_tcast (evt_of (ev_deedIs (d := .set) (evr_vd rfl) (evr_c fun _ => .int _) (evr_c fun _ => .str _))) (dq_lift _)) (fun h => by cases h) (fun _ => go_next ⟨rfl, rfl⟩)) ?_
        refine go_seq1 (go_if (c := true) (ev_tcast (evt_of (ev_deedIs (d := .set) (evr_vd rfl) (evr_c fun _ => .int _) (evr_c fun _ => .str _))) (dq_set _)) (fun _ => go_asg (ev_lst (dv_cons (ev_tup (dv_cons (evr_c fun _ => .str _) (dv_cons (ev_isN (d := .int l) (evr_vd rfl)) dv_nil))) (dv_cons (ev_tup (dv_cons (evr_c fun _ => .str _) (dv_cons (ev_vand (ev_notN (d := .int l) (evr_vd rfl)) fun _ => (ev_ne (d := .int b.home) (ev_ixT (ds := [.int b.home, encInts b.stock]) (ev_ixT (i := l) (ds := s.shelves.map encShelf) (ev_ixT (evr_vd rfl) (evr_c fun _ => .int _) rfl) (evr_vd rfl) (atN (n := l.toNat) (by omega) (by rw [List.getElem?_map, hb2]; rfl))) (evr_c fun _ => .int _) at0) (evr_vd rfl))) dv_nil))) dv_nil))) ⟨rfl, rfl⟩) (fun h => by cases h)) ?_
        refine go_seq1 (go_if (c := false) (ev_tcast (evt_of (ev_deedIs (d := .set) (evr_vd rfl) (evr_c fun _ => .int _) (evr_c fun _ => .str _))) (dq_hand _)) (fun h => by cases h) (fun _ => go_next ⟨rfl, rfl⟩)) ?_
        exact fin _ ["bare", "home"] [("bare", _), ("home", _)] none rfl (by decide +kernel) fun _ => trivial
    | go n =>
      obtain ⟨pr, hpr⟩ : ∃ pr : Int, L2.atI [PyData.int y.bare, .int y.laden, .int y.gain, .int y.top] (if !isNo (encO c.load) then 1 else 0) = some (.int pr) := by
        rw [isNo_encO]
        cases c.load with
        | none => exact ⟨_, at0⟩
        | some l => exact ⟨_, atN (n := 1) rfl rfl⟩
      refine go_seq1 (go_if (c := false) (ev_tcast (evt_of (ev_deedIs (d := .go n) (evr_vd rfl) (evr_c fun _ => .int _) (evr_c fun _ => .str _))) (dq_fill _)) (fun h => by cases h) (fun _ => go_next ⟨rfl, rfl⟩)) ?_
      refine go_seqW (go_if (c := true) (ev_tcast (evt_of (ev_deedIs (d := .go n) (evr_vd rfl) (evr_c fun _ => .int _) (evr_c fun _ => .str _))) (dq_go _)) (fun _ => ?_) (fun h => by cases h))
      refine go_seq1 (go_asg (ev_ixT (ds := [.int y.bare, .int y.laden, .int y.gain, .int y.top]) (d := .int pr) (ev_ixT (evr_vd rfl) (evr_c fun _ => .int _) rfl) (ev_int1 (ev_notN (evr_vd rfl))) hpr) ⟨rfl, rfl⟩) ?_
      refine go_seqW (go_asgP (plst (eap_cons (ptup (eap_cons (evp_of (evr_c fun _ => .str _) ⟨rfl, eap_cons (pbin (evp_of (ev_ixT (d := .int n) (evr_vd rfl) (evr_c fun _ => .int _) rfl) (evp_call (eap_cons (evp_of (evr_vd rfl) ⟨rfl, eap_cons (evp_of (evr_vd rfl) ⟨rfl, eap_nil ⟨_, .mk h p0 p1, ?_⟩⟩)⟩)))))⟩))))))
      rintro r β2 ⟨⟨l, rfl, hl2, ll⟩, rfl⟩
      refine ⟨_, b2_nin rfl rfl (fl_ints _), rfl, eap_nil ⟨[.str "far", .bool _], rfl, by simp, rfl, eap_cons (evp_of (ev_tup (dv_cons (evr_c fun _ => .str _) (dv_cons (ev_vand (ev_notN (evr_vd rfl)) fun _ => (ev_inM (ev_ixT (d := .int n) (evr_vd rfl) (evr_c fun _ => .int _) rfl) (evr_var rfl))) dv_nil))) ⟨rfl, eap_nil ⟨[_, _], rfl, by simp, ?_⟩⟩)⟩⟩
      refine go_append (i := 11) rfl (ev_tup (dv_cons (evr_c fun _ => .str _) (dv_cons (ev_lt (evr_vd rfl) (evr_vd rfl)) dv_nil))) (by simp) ?_
      refine go_seq1 (go_if (c := false) (ev_tcast (evt_of (ev_deedIs (d := .go n) (evr_vd rfl) (evr_c fun _ => .int _) (evr_c fun _ => .str _))) (dq_lift _)) (fun h => by cases h) (fun _ => go_next ⟨rfl, rfl⟩)) ?_
      refine go_seq1 (go_if (c := false) (ev_tcast (evt_of (ev_deedIs (d := .go n) (evr_vd rfl) (evr_c fun _ => .int _) (evr_c fun _ => .str _))) (dq_set _)) (fun h => by cases h) (fun _ => go_next ⟨rfl, rfl⟩)) ?_
      refine go_seq1 (go_if (c := false) (ev_tcast (evt_of (ev_deedIs (d := .go n) (evr_vd rfl) (evr_c fun _ => .int _) (evr_c fun _ => .str _))) (dq_hand _)) (fun h => by cases h) (fun _ => go_next ⟨rfl, rfl⟩)) ?_
      refine fin _ ["far", "shelf", "charge"] [("far", !inD (.int n) (l.map PyData.int)), ("shelf", _), ("charge", _)] _ rfl (by decide +kernel) fun q => ?_
      simp only [List.all_cons, Bool.and_eq_true, inD_ints] at q
      exact hl2 _ (by simpa using q.1)
    | hand n =>
      obtain ⟨n0, n1⟩ := hd
      refine go_seq1 (go_if (c := false) (ev_tcast (evt_of (ev_deedIs (d := .hand n) (evr_vd rfl) (evr_c fun _ => .int _) (evr_c fun _ => .str _))) (dq_fill _)) (fun h => by cases h) (fun _ => go_next ⟨rfl, rfl⟩)) ?_
      refine go_seq1 (go_if (c := false) (ev_tcast (evt_of (ev_deedIs (d := .hand n) (evr_vd rfl) (evr_c fun _ => .int _) (evr_c fun _ => .str _))) (dq_go _)) (fun h => by cases h) (fun _ => go_next ⟨rfl, rfl⟩)) ?_
      refine go_seq1 (go_if (c := false) (ev_tcast (evt_of (ev_deedIs (d := .hand n) (evr_vd rfl) (evr_c fun _ => .int _) (evr_c fun _ => .str _))) (dq_lift _)) (fun h => by cases h) (fun _ => go_next ⟨rfl, rfl⟩)) ?_
      refine go_seq1 (go_if (c := false) (ev_tcast (evt_of (ev_deedIs (d := .hand n) (evr_vd rfl) (evr_c fun _ => .int _) (evr_c fun _ => .str _))) (dq_set _)) (fun h => by cases h) (fun _ => go_next ⟨rfl, rfl⟩)) ?_
      refine go_seqW (go_if (c := true) (ev_tcast (evt_of (ev_deedIs (d := .hand n) (evr_vd rfl) (evr_c fun _ => .int _) (evr_c fun _ => .str _))) (dq_hand _)) (fun _ => ?_) (fun h => by cases h))
      refine go_asgP (plst (eap_cons (evp_of (ev_tup (dv_cons (evr_c fun _ => .str _) (dv_cons (ev_isN (evr_vd rfl)) dv_nil))) ⟨rfl, eap_cons (evp_of (ev_tup (dv_cons (evr_c fun _ => .str _) (dv_cons (ev_ne (d := .str ⟨#[m1]⟩) (evr_vd rfl) (evr_c fun _ => .str _)) dv_nil))) ⟨rfl, eap_cons (ptup (eap_cons (evp_of (evr_c fun _ => .str _) ⟨rfl, eap_cons (evp_notV (evp_call (eap_cons (evp_of (evr_vd rfl) ⟨rfl, eap_cons (evp_of (evr_vd rfl) ⟨rfl, eap_cons (evp_of (ev_ixT (d := .int n) (evr_vd rfl) (evr_c fun _ => .int _) rfl) ⟨rfl, eap_nil ⟨_, .mk (y := y) (l := c.load) hs hl n0, ?_⟩⟩)⟩)⟩))))⟩)))⟩)⟩)))
      rintro r β2 ⟨⟨b, rfl, hb3⟩, rfl⟩
      refine ⟨b, rfl, rfl, eap_nil ⟨[.str "order", .bool _], rfl, by simp, rfl, eap_nil ⟨[_, _, _], rfl, by simp, ?_⟩⟩⟩
      refine fin _ ["bare", "desk", "order"] [("bare", isNo (encO c.load)), ("desk", _), ("order", !b)] none rfl (by decide +kernel) fun q => ?_
      simp only [List.all_cons, Bool.and_eq_true] at q
      exact hb3 (by simpa using q.2.2.1)
end K20
set_option maxHeartbeats 4000000
namespace K20
open PySem PySem.Spec PyProof.Rows L2
inductive T__law_met : List Res → Bx → Post → Prop
  | mk {y : Yard} {s : State} {ds : List Deed} {k : Nat} {β : Bx} (hy : y.Ok) (hs : LS y s) (hl : ds.length = s.cars.length) (hk : k < s.cars.length) :
    T__law_met [.d (encYard y), .d (encState s), .d (encDeeds ds), .d (.int k)] β fun r β' => (r = .d .none ∨ ∃ w, r = .d (.str w) ∧ layW w) ∧ β' = β
theorem sh_two {a b : Int} : SeqAt.shaped (.tuple [.int a, .int b]) = true := (Sh.tup (n := 0) (ds := [.int a, .int b]) fun d hd => by
  simp only [List.mem_cons, List.not_mem_nil, or_false] at hd
  rcases hd with rfl | rfl <;> exact .int).ok
theorem ev_goTo {K : PySem.W.Frag} {B : Hp} {bx : Option Addr} {ρ : Env} {β : Bx} {td tc : TE} {f1 f2 : Bool} {d : Deed} {c : Car} (hd : EvR K B bx td ρ β f1 (.d (encDeed d)) β) (hc : EvR K B bx tc ρ β f2 (.d (encCar c)) β) :
    EvR K B bx (tIf (tB (tOp rEq (tOp (rSeq K) td (tC (.int 0))) (tC (.str "go")))) (tOp (rSeq K) td (tC (.int 1))) (tOp (rSeq K) tc (tC (.int 0)))) ρ β true (.d (.int (cellB c d))) β := by
  cases d with
  | go n => exact evr_if (c := true) (ev_tcast (evt_of (ev_deedIs (d := .go n) hd (evr_c fun _ => .int _) (evr_c fun _ => .str _))) (decide_eq_true rfl)) (fun _ => (ev_ixT hd (evr_c fun _ => .int _) rfl)) (fun h => by cases h)
  | bide => exact evr_if (c := false) (ev_tcast (evt_of (ev_deedIs (d := .bide) hd (evr_c fun _ => .int _) (evr_c fun _ => .str _))) (by decide +kernel)) (fun h => by cases h) (fun _ => (ev_ixT (ds := [.int c.cell, .int c.charge, encO c.load, .bool c.broken]) hc (evr_c fun _ => .int _) at0))
  | fill => exact evr_if (c := false) (ev_tcast (evt_of (ev_deedIs (d := .fill) hd (evr_c fun _ => .int _) (evr_c fun _ => .str _))) (by decide +kernel)) (fun h => by cases h) (fun _ => (ev_ixT (ds := [.int c.cell, .int c.charge, encO c.load, .bool c.broken]) hc (evr_c fun _ => .int _) at0))
  | lift => exact evr_if (c := false) (ev_tcast (evt_of (ev_deedIs (d := .lift) hd (evr_c fun _ => .int _) (evr_c fun _ => .str _))) (by decide +kernel)) (fun h => by cases h) (fun _ => (ev_ixT (ds := [.int c.cell, .int c.charge, encO c.load, .bool c.broken]) hc (evr_c fun _ => .int _) at0))
  | set => exact evr_if (c := false) (ev_tcast (evt_of (ev_deedIs (d := .set) hd (evr_c fun _ => .int _) (evr_c fun _ => .str _))) (by decide +kernel)) (fun h => by cases h) (fun _ => (ev_ixT (ds := [.int c.cell, .int c.charge, encO c.load, .bool c.broken]) hc (evr_c fun _ => .int _) at0))
  | hand n => exact evr_if (c := false) (ev_tcast (evt_of (ev_deedIs (d := .hand n) hd (evr_c fun _ => .int _) (evr_c fun _ => .str _))) (show decide (("hand" : Str) = "go") = false by decide +kernel)) (fun h => by cases h) (fun _ => (ev_ixT (ds := [.int c.cell, .int c.charge, encO c.load, .bool c.broken]) hc (evr_c fun _ => .int _) at0))
theorem sc__law_met : FnScope ["_law_yard_here", "_law_state_here", "_law_deeds_here", "_law_number", "_law_there", "_law_one", "_law_deed_here", "_law_here", "_law_other", "_law_cell", "_law_first", "_law_last"] ["_law_yard_here", "_law_state_here", "_law_deeds_here", "_law_number"] (defScope s__law_met) := ⟨rfl, rfl, rfl, by decide +kernel, rfl, by decide +kernel, by decide +kernel⟩
theorem fn__law_met {g : Gb} (T : Txt g) : FnP g "_law_met" ["_law_yard_here", "_law_state_here", "_law_deeds_here", "_law_number"] 1 T__law_met := by
  have nd := sc__law_met.nd
  refine T.fnP 73 rfl sc__law_met (fun _ _ _ _ _ _ us hl => match us, hl with | [_, _, _, _], _ => rfl) (by intro rs β P h; cases h <;> rfl) ⟨_, (pssc_cons (psc_setLc 4 [("_law_one", 5), ("_law_deed_here", 6)] nd (pic_zip T.b_zip (pec_ix (pec_var 1) pec_int) (pec_var 2)) (pgc_tup (n := 2) (pgsc_cons (pgc_name 5 nd) (pgsc_cons (pgc_name 6 nd) pgsc_nil))) ptsc_nil (pec_if (ptc_eq (pec_ix (pec_var 6) pec_int) pec_str) (pec_ix (pec_var 6) pec_int) (pec_ix (pec_var 5) pec_int)))
    (pssc_cons (psc_setLc 7 [("_law_one", 5)] nd (pic_tup (pec_ix (pec_var 1) pec_int)) (pgc_name 5 nd) ptsc_nil (pec_ix (pec_var 5) pec_int))
    (pssc_cons (psc_if (ptc_in (pec_ix (pec_var 4) (pec_var 3)) (pec_slL (pec_var 4) poc_none (poc_some (pec_var 3)))) (pssc_one (psc_ret pec_str)) pssc_nil)
    (pssc_cons (psc_for (pic_range T.b_range (pec_var 3)) (pgc_name 8 nd) (pssc_one (psc_if (ptc_eqD (pec_tup (pac_cons (pec_ix (pec_var 4) (pec_var 3)) (pac_cons (pec_ix (pec_var 4) (pec_var 8)) pac_nil))) (pec_tup (pac_cons (pec_ix (pec_var 7) (pec_var 8)) (pac_cons (pec_ix (pec_var 7) (pec_var 3)) pac_nil)))) (pssc_one (psc_ret pec_str)) pssc_nil)))
    (pssc_cons (psc_for (pic_tup (pec_ix (pec_var 0) pec_int)) (pgc_tup (n := 3) (pgsc_cons (pgc_name 9 nd) (pgsc_cons (pgc_name 10 nd) (pgsc_cons (pgc_name 11 nd) pgsc_nil)))) (pssc_one (psc_if (ptc_w (pwc_and (ptc_eq (pec_ix (pec_ix (pec_var 2) (pec_var 3)) pec_int) pec_str) (pwc_and (ptc_eq (pec_var 9) (pec_ix (pec_var 4) (pec_var 3))) (pwc_and1 (ptc_leLe (pec_var 10) (pec_add (pec_ix (pec_var 1) pec_int) pec_int) (pec_var 11)))))) (pssc_one (psc_ret pec_str)) pssc_nil)))
    (pssc_one (psc_ret pec_non))))))), ?_⟩
  intro rs β P h B bx
  rcases h with @⟨y, s, ds, k, β, hy, hs, hl, hk⟩
  change GoR g.K B bx _ [some _, some _, some _, some _, none, none, none, none, none, none, none, none] _ _ _
  have h3 := hs.c3
  have hu1 := hy.u1
  have ll := later_len hl
  have hk2 : k < (later s ds).length := by omega
  have hkd : k < ds.length := by omega
  have lat : ∀ j : Nat, (hj : j < s.cars.length) → L2.atI ((later s ds).map PyData.int) (j : Int) = some (.int ((later s ds)[j]'(by omega))) := fun j hj => atN (n := j) rfl (by rw [List.getElem?_map, List.getElem?_eq_getElem (by omega)]; rfl)
  have ah : ∀ j : Nat, (hj : j < s.cars.length) → L2.atI (s.cars.map fun c => PyData.int c.cell) (j : Int) = some (.int s.cars[j].cell) := fun j hj => atN (n := j) rfl (by rw [List.getElem?_map, List.getElem?_eq_getElem hj]; rfl)
  refine go_seq1 (go_asg (r := .l ((later s ds).map PyData.int)) (ev_castR (ev_lc (xs := s.cars.zip ds) (enc := fun p => prD (encCar p.1) (encDeed p.2)) (f := fun p => .int (cellB p.1 p.2)) (wkr_cast (wk_zipT (ev_ixT (evr_vd rfl) (evr_c fun _ => .int _) rfl) (evr_vd rfl)) (zip_enc _ _ _ _)) (tg_tup (tgs_cons (tg_name _) (tgs_cons (tg_name _) tgs_nil))) (by decide) (by rw [List.length_zip]; omega) fun p hp => ⟨_, rfl, ev_goTo (evr_vd rfl) (evr_vd rfl)⟩) (by unfold later; rw [List.map_map]; rfl)) ⟨rfl, rfl⟩) ?_
  refine go_seq1 (go_asg (r := .l (s.cars.map fun c => PyData.int c.cell)) (ev_lc (xs := s.cars) (enc := encCar) (f := fun c => .int c.cell) (wk_tup (ev_ixT (evr_vd rfl) (evr_c fun _ => .int _) rfl)) (tg_name _) (by decide) (by omega) fun y hy => ⟨_, rfl, (ev_ixT (evr_vd rfl) (evr_c fun _ => .int _) rfl)⟩) ⟨rfl, rfl⟩) ?_
  refine go_ifr (evt_of (ev_in (ds := ((later s ds).take k).map PyData.int) (ev_ixL (evr_vl rfl) (evr_vd rfl) (lat k hk)) (ev_castR (z' := .l (((later s ds).take k).map PyData.int)) (ev_slL (evr_vl rfl) evo_none (evo_some (evr_vd rfl))) (by rw [cut_take, List.map_take])) rfl (fl_ints _))) (fun h1 => ?_) (fun h1 => ?_)
  · exact go_ret (evr_c fun _ => .str _) ⟨.inr ⟨_, rfl, by unfold layW; decide +kernel⟩, rfl⟩
  refine go_seqW (go_for (fun i ρ' β' => (∃ o, ρ' = [some (.d (encYard y)), some (.d (encState s)), some (.d (encDeeds ds)), some (.d (.int k)), some (.l ((later s ds).map PyData.int)), none, none, some (.l (s.cars.map fun c => PyData.int c.cell)), o, none, none, none]) ∧ β' = β) (wk_range (evr_vd rfl) (by omega) (by omega)) (tg_name _) ⟨⟨_, rfl⟩, rfl⟩ (fun i d hd ρi βi hI => ?_) ?_)
  · obtain ⟨⟨o, rfl⟩, rfl⟩ := hI
    have hi : i < k := by
      have := (List.getElem?_eq_some_iff.mp hd).1
      rw [rgD_length] at this
      omega
    rw [rgD_get (by omega)] at hd
    cases hd
    refine ⟨_, rfl, ?_⟩
    refine go_if (evt_of (ev_eqD (ev_tup (dv_cons (ev_ixL (evr_vl rfl) (evr_vd rfl) (lat k hk)) (dv_cons (ev_ixL (evr_vl rfl) (evr_vd rfl) (lat i (by omega))) dv_nil))) (ev_tup (dv_cons (ev_ixL (evr_vl rfl) (evr_vd rfl) (ah i (by omega))) (dv_cons (ev_ixL (evr_vl rfl) (evr_vd rfl) (ah k hk)) dv_nil))) sh_two sh_two)) (fun h2 => ?_) (fun h2 => ?_)
    · exact go_ret (evr_c fun _ => .str _) ⟨.inr ⟨_, rfl, by unfold layW; decide +kernel⟩, rfl⟩
    · exact go_next ⟨⟨_, rfl⟩, rfl⟩
  · rintro ρ' β' ⟨⟨o, rfl⟩, rfl⟩
    refine go_seqW (go_for (fun i ρ' β2 => (∃ o1 o2 o3, ρ' = [some (.d (encYard y)), some (.d (encState s)), some (.d (encDeeds ds)), some (.d (.int k)), some (.l ((later s ds).map PyData.int)), none, none, some (.l (s.cars.map fun c => PyData.int c.cell)), o, o1, o2, o3]) ∧ β2 = β') (wk_tup (ds := y.shuts.map encShut) (ev_ixT (evr_vd rfl) (evr_c fun _ => .int _) rfl)) (tg_tup (tgs_cons (tg_name _) (tgs_cons (tg_name _) (tgs_cons (tg_name _) tgs_nil)))) ⟨⟨_, _, _, rfl⟩, rfl⟩ (fun i d hd ρi βi hI => ?_) ?_)
    · obtain ⟨⟨o1, o2, o3, rfl⟩, rfl⟩ := hI
      obtain ⟨u, hu, rfl⟩ := List.mem_map.mp (List.mem_of_getElem? hd)
      refine ⟨_, rfl, ?_⟩
      refine go_if (ev_tand (evt_of (ev_deedIs (d := ds[k]) (ev_ixT (ds := ds.map encDeed) (evr_vd rfl) (evr_vd rfl) (atN (n := k) rfl (by rw [List.getElem?_map, List.getElem?_eq_getElem hkd]; rfl))) (evr_c fun _ => .int _) (evr_c fun _ => .str _))) fun _ => (ev_tand (evt_of (ev_eq (evr_vd rfl) (ev_ixL (evr_vl rfl) (evr_vd rfl) (lat k hk)))) fun _ => (evt_of (ev_leLe (evr_vd rfl) (ev_add (ev_ixT (ds := [.int s.beat, .tuple (s.cars.map encCar), .tuple (s.shelves.map encShelf), .tuple (s.orders.map encOrder)]) (evr_vd rfl) (evr_c fun _ => .int _) at0) (evr_c fun _ => .int _)) (evr_vd rfl))))) (fun h3 => ?_) (fun h3 => ?_)
      · exact go_ret (evr_c fun _ => .str _) ⟨.inr ⟨_, rfl, by unfold layW; decide +kernel⟩, rfl⟩
      · exact go_next ⟨⟨_, _, _, rfl⟩, rfl⟩
    · rintro ρ2 β2 ⟨⟨o1, o2, o3, rfl⟩, rfl⟩
      exact go_ret (evr_c fun _ => .non) ⟨.inl rfl, rfl⟩
end K20
set_option maxHeartbeats 4000000
namespace K20
open PySem PySem.Spec PyProof.Rows L2
def encW : Option Str → D
  | none => .none
  | some w => .str w
def WOk (ws : List (Option Str)) : Prop := ∀ w, some w ∈ ws → layW w
theorem isNo_encW (o : Option Str) : isNo (encW o) = o.isNone := by cases o <;> rfl
theorem WOk.snoc {ws : List (Option Str)} {o : Option Str} (h : WOk ws) (ho : ∀ w, o = some w → layW w) : WOk (ws ++ [o]) := fun w hw => by
  rcases List.mem_append.mp hw with q | q
  · exact h w q
  · rw [List.mem_singleton] at q; exact ho w q.symm
theorem sh_encW {n : Nat} {o : Option Str} (h : ∀ w, o = some w → layW w) : Sh n (encW o) := by
  cases o with
  | none => exact .none
  | some w => exact .str (h w rfl)
theorem zipN_at {α : Type} {l : List α} {j : Nat} (h : j < l.length) : (zipN l)[j]? = some (j, l[j]) := List.getElem?_zip_eq_some.mpr ⟨List.getElem?_range h, List.getElem?_eq_getElem h⟩
theorem no_word {ws : List (Option Str)} (h : ∀ w, some w ∉ ws) {o : Option Str} (ho : o ∈ ws) : o = none := by
  cases o with
  | none => rfl
  | some w => exact absurd ho (h w)
def LAll (y : Yard) (s : State) (ds : List Deed) : Prop := ∀ (k : Nat) c d, s.cars[k]? = some c → ds[k]? = some d → LOk y s c d
inductive T__law_fault : List Res → Bx → Post → Prop
  | mk {y : Yard} {s : State} {ds : List Deed} {β : Bx} (hy : y.Ok) (hs : LS y s) (hl : ds.length = s.cars.length) (hd : ∀ d ∈ ds, d.num) :
    T__law_fault [.d (encYard y), .d (encState s), .d (encDeeds ds)] β fun r β' => ((r = .d .none ∧ LAll y s ds) ∨ ∃ l, r = .d (.tuple l)) ∧ β' = β
theorem sc__law_fault : FnScope ["_law_yard_here", "_law_state_here", "_law_deeds_here", "_law_own_here", "_law_number", "_law_deed_here", "_law_word", "_law_some"] ["_law_yard_here", "_law_state_here", "_law_deeds_here"] (defScope s__law_fault) := ⟨rfl, rfl, rfl, by decide +kernel, rfl, by decide +kernel, by decide +kernel⟩
theorem fn__law_fault {g : Gb} (T : Txt g) : FnP g "_law_fault" ["_law_yard_here", "_law_state_here", "_law_deeds_here"] 4 T__law_fault := by
  have nd := sc__law_fault.nd
  have c__law_own := fn__law_own T
  have c__law_met := fn__law_met T
  refine T.fnP 74 rfl sc__law_fault (fun _ _ _ _ _ _ us hl => match us, hl with | [_, _, _], _ => rfl) (by intro rs β P h; cases h <;> rfl) ⟨_, (pssc_cons (psc_setLc 3 [("_law_number", 4), ("_law_deed_here", 5)] nd (pic_enumT T.b_enumerate (pec_var 2)) (pgc_tup (n := 2) (pgsc_cons (pgc_name 4 nd) (pgsc_cons (pgc_name 5 nd) pgsc_nil))) ptsc_nil (pec_fnP c__law_own (pac_cons (pec_var 0) (pac_cons (pec_var 1) (pac_cons (pec_var 4) (pac_cons (pec_var 5) pac_nil))))))
    (pssc_cons (psc_if (ptc_eqD (pec_lc [("_law_word", 6)] nd (pic_list (pec_var 3)) (pgc_name 6 nd) (ptsc_one (ptc_notN (pec_var 6))) (pec_var 6)) (pec_lst pac_nil)) (pssc_one (psc_setLc 3 [("_law_number", 4)] nd (pic_range T.b_range (pec_len T.b_len (pec_var 2))) (pgc_name 4 nd) ptsc_nil (pec_fnP c__law_met (pac_cons (pec_var 0) (pac_cons (pec_var 1) (pac_cons (pec_var 2) (pac_cons (pec_var 4) pac_nil))))))) pssc_nil)
    (pssc_cons (psc_setLc 7 [("_law_number", 4), ("_law_word", 6)] nd (pic_enumL T.b_enumerate (pec_var 3)) (pgc_tup (n := 2) (pgsc_cons (pgc_name 4 nd) (pgsc_cons (pgc_name 6 nd) pgsc_nil))) (ptsc_one (ptc_notN (pec_var 6))) (pec_tup (pac_cons (pec_var 4) (pac_cons (pec_var 6) pac_nil))))
    (pssc_one (psc_ret (pec_if (ptc_neD (pec_var 7) (pec_lst pac_nil)) (pec_ix (pec_var 7) pec_int) pec_non)))))), ?_⟩
  intro rs β P h B bx
  clear c__law_own
  clear c__law_met
  rcases h with @⟨y, s, ds, β, hy, hs, hl, hd⟩
  change GoR g.K B bx _ [some _, some _, some _, none, none, none, none, none] _ _ _
  have h3 := hs.c3
  refine go_seqW (go_asgP (evp_lc (fr := true) (fun i β' acc => ∃ ws : List (Option Str), acc = ws.map encW ∧ ws.length = i ∧ WOk ws ∧ (∀ (k : Nat) c d, ws[k]? = some none → s.cars[k]? = some c → ds[k]? = some d → LOk y s c d) ∧ β' = β) (wk_enumZ (f := encDeed) (l := ds) (evr_vd rfl)) (tg_tup (tgs_cons (tg_name _) (tgs_cons (tg_name _) tgs_nil))) (by decide) (by rw [List.length_map, zipN_len]; omega) ⟨[], rfl, rfl, (fun w h => by cases h), (fun k c d h => by cases h), rfl⟩ (fun j d hdj βj acc hJ => ?_) ?_))
  · obtain ⟨ws, rfl, wl, wo, wn, rfl⟩ := hJ
    have hj : j < ds.length := by
      have := (List.getElem?_eq_some_iff.mp hdj).1
      rw [List.length_map, zipN_len] at this
      exact this
    rw [List.getElem?_map, zipN_at hj] at hdj
    cases hdj
    refine ⟨_, rfl, etp_yes ⟨fun _ => evp_call (eap_cons (evp_of (evr_vd rfl) ⟨rfl, eap_cons (evp_of (evr_vd rfl) ⟨rfl, eap_cons (evp_of (evr_vd rfl) ⟨rfl, eap_cons (evp_of (evr_vd rfl) ⟨rfl, eap_nil ⟨_, .mk hy hs (List.getElem?_eq_getElem (by omega)) (hd _ (List.getElem_mem hj)), ?_⟩⟩)⟩)⟩)⟩)), (fun h => by cases h)⟩⟩
    rintro r β2 ⟨hr, rfl⟩
    rcases hr with ⟨rfl, ok⟩ | ⟨w, rfl, lw⟩
    · refine ⟨_, rfl, ws ++ [none], by rw [List.map_append]; rfl, by simp [wl], wo.snoc (fun w h => by cases h), fun k c d hk hc hdk => ?_, rfl⟩
      by_cases hkj : k < ws.length
      · rw [List.getElem?_append_left hkj] at hk
        exact wn k c d hk hc hdk
      · have : k < (ws ++ [none]).length := (List.getElem?_eq_some_iff.mp hk).1
        rw [List.length_append, List.length_singleton] at this
        have : k = j := by omega
        subst this
        rw [List.getElem?_eq_getElem (by omega)] at hc hdk
        cases hc; cases hdk
        exact ok
    · refine ⟨_, rfl, ws ++ [some w], by rw [List.map_append]; rfl, by simp [wl], wo.snoc (fun w h => by cases h; exact lw), fun k c d hk hc hdk => ?_, rfl⟩
      by_cases hkj : k < ws.length
      · rw [List.getElem?_append_left hkj] at hk
        exact wn k c d hk hc hdk
      · have : k < (ws ++ [some w]).length := (List.getElem?_eq_some_iff.mp hk).1
        rw [List.length_append, List.length_singleton] at this
        have : k = ws.length := by omega
        subst this
        rw [List.getElem?_concat_length] at hk
        cases hk
  rintro β2 acc ⟨ws, rfl, wl, wo, wn, rfl⟩
  rw [List.length_map, zipN_len] at wl
  refine go_seqW (go_mono (N1 := fun ρ' β' => (∃ ws2 : List (Option Str), ρ' = [some (.d (encYard y)), some (.d (encState s)), some (.d (encDeeds ds)), some (.l (ws2.map encW)), none, none, none, none] ∧ ws2.length = ds.length ∧ WOk ws2 ∧ (LAll y s ds ∨ ∃ w, some w ∈ ws2)) ∧ β' = β2) (go_if (evt_of (ev_eqD (ev_lcIf (xs := ws) (enc := encW) (f := encW) (fun o => !isNo (encW o)) (wk_list (evr_vl rfl)) (tg_name _) (by decide) (by omega) fun o ho => ⟨_, rfl, (evt_of (ev_notN (evr_vd rfl))), fun hp => (evr_vd rfl)⟩) (ev_lst dv_nil) (Sh.lst (n := 0) fun d hd => ?_).ok (Sh.ok (n := 1) (Sh.lst (ds := []) fun _ h => by cases h)))) (fun h1 => ?_) (fun h1 => go_next ?_)) ?_)
  · obtain ⟨o, ho, rfl⟩ := List.mem_map.mp hd
    exact sh_encW fun w e => wo w (by rw [← e]; exact (List.mem_filter.mp ho).1)
  · have nw : ∀ w, some w ∉ ws := fun w hw => by
      rw [eqv_nilL] at h1
      have : some w ∈ ws.filter fun o => !isNo (encW o) := List.mem_filter.mpr ⟨hw, rfl⟩
      cases hz : ws.filter fun o => !isNo (encW o) with
      | nil => rw [hz] at this; cases this
      | cons _ _ => rw [hz] at h1; cases h1
    have la : LAll y s ds := fun k c d hk hdk => by
      have kl := (List.getElem?_eq_some_iff.mp hdk).1
      refine wn k c d ?_ hk hdk
      rw [List.getElem?_eq_getElem (by omega), no_word nw (List.getElem_mem _)]
    refine go_asgP (evp_lc (fr := true) (fun i β' acc => ∃ ws : List (Option Str), acc = ws.map encW ∧ ws.length = i ∧ WOk ws ∧ β' = β2) (wk_range (ev_lenT (ds := ds.map encDeed) (evr_vd rfl)) (by omega) (by rw [List.length_map]; omega)) (tg_name _) (by decide) (by rw [rgD_length, List.length_map]; omega) ⟨[], rfl, rfl, (fun w h => by cases h), rfl⟩ (fun j d hdj βj acc hJ => ?_) ?_)
    · obtain ⟨ws, rfl, wl, wo, rfl⟩ := hJ
      have hj := (List.getElem?_eq_some_iff.mp hdj).1
      rw [rgD_length] at hj
      rw [rgD_get hj] at hdj
      cases hdj
      rw [List.length_map] at hj
      refine ⟨_, rfl, etp_yes ⟨fun _ => evp_call (eap_cons (evp_of (evr_vd rfl) ⟨rfl, eap_cons (evp_of (evr_vd rfl) ⟨rfl, eap_cons (evp_of (evr_vd rfl) ⟨rfl, eap_cons (evp_of (evr_vd rfl) ⟨rfl, eap_nil ⟨_, .mk hy hs hl (by omega), ?_⟩⟩)⟩)⟩)⟩)), (fun h => by cases h)⟩⟩
      rintro r β3 ⟨hr, rfl⟩
      rcases hr with rfl | ⟨w, rfl, lw⟩
      · exact ⟨_, rfl, ws ++ [none], by rw [List.map_append]; rfl, by simp [wl], wo.snoc (fun w h => by cases h), rfl⟩
      · exact ⟨_, rfl, ws ++ [some w], by rw [List.map_append]; rfl, by simp [wl], wo.snoc (fun w h => by cases h; exact lw), rfl⟩
    · rintro β3 acc ⟨ws, rfl, wl, wo, rfl⟩
      rw [rgD_length, List.length_map] at wl
      exact ⟨⟨ws, rfl, by omega, wo, .inl la⟩, rfl⟩
  · refine ⟨⟨ws, rfl, wl, wo, .inr ?_⟩, rfl⟩
    rw [eqv_nilL] at h1
    cases hz : ws.filter fun o => !isNo (encW o) with
    | nil => rw [hz] at h1; cases h1
    | cons o os =>
      have := List.mem_filter.mp (show o ∈ ws.filter fun o => !isNo (encW o) by rw [hz]; exact List.mem_cons_self)
      cases o with
      | none => cases this.2
      | some w => exact ⟨w, this.1⟩
  · rintro ρ' β3 ⟨⟨ws2, rfl, w2l, w2o, hw⟩, rfl⟩
    refine go_seq1 (go_asg (ev_lcIf (xs := zipN ws2) (enc := fun p => prD (.int (p.1 : Nat)) (encW p.2)) (f := fun p => .tuple [.int (p.1 : Nat), encW p.2]) (fun p => !isNo (encW p.2)) (wkr_cast (wk_enumL (evr_vl rfl)) (zipN_enc _ _)) (tg_tup (tgs_cons (tg_name _) (tgs_cons (tg_name _) tgs_nil))) (by decide) (by rw [zipN_len]; omega) fun p hp => ⟨_, rfl, (evt_of (ev_notN (evr_vd rfl))), fun hp => (ev_tup (dv_cons (evr_vd rfl) (dv_cons (evr_vd rfl) dv_nil)))⟩) ⟨rfl, rfl⟩) ?_
    have qs : ∀ d ∈ ((zipN ws2).filter fun p => !isNo (encW p.2)).map (fun p => PyData.tuple [.int (p.1 : Nat), encW p.2]), Sh 1 d := fun d hd => by
      obtain ⟨p, hp, rfl⟩ := List.mem_map.mp hd
      refine Sh.tup (n := 0) fun d hd => ?_
      simp only [List.mem_cons, List.not_mem_nil, or_false] at hd
      rcases hd with rfl | rfl
      · exact .int
      · exact sh_encW fun w e => w2o w (by rw [← e]; exact List.mem_of_getElem? (zipN_get (List.mem_filter.mp hp).1))
    refine go_retP (evp_if (etp_t (evt_of (ev_neD (evr_vl rfl) (ev_lst dv_nil) (Sh.lst (n := 1) qs).ok (Sh.ok (n := 1) (Sh.lst (ds := []) fun _ h => by cases h)))) ⟨fun h1 => ?_, fun h1 => ?_⟩))
    · rw [eqv_nilL] at h1
      cases hq : (zipN ws2).filter fun p => !isNo (encW p.2) with
      | nil => rw [hq] at h1; cases h1
      | cons p ps => exact evp_of (ev_ixL (d := .tuple [.int (p.1 : Nat), encW p.2]) (evr_vl rfl) (evr_c fun _ => .int _) at0) ⟨.inr ⟨_, rfl⟩, rfl⟩
    · rw [eqv_nilL] at h1
      refine evp_of (evr_c fun _ => .non) ⟨.inl ⟨rfl, ?_⟩, rfl⟩
      rcases hw with la | ⟨w, hw⟩
      · exact la
      · obtain ⟨i, hi⟩ := List.mem_iff_getElem?.mp hw
        have : (i, some w) ∈ (zipN ws2).filter fun p => !isNo (encW p.2) := List.mem_filter.mpr ⟨zipN_mem hi, rfl⟩
        cases hz : (zipN ws2).filter fun p => !isNo (encW p.2) with
        | nil => rw [hz] at this; cases this
        | cons _ _ => rw [hz] at h1; cases h1
end K20
set_option maxHeartbeats 4000000
namespace K20
open PySem PySem.Spec PyProof.Rows L2
theorem mul_once (l : Addr) (its : Array Value) (n : Nat) (da : Option Addr) (sl : Array (Option Value)) (u : Tok) :
    Meets (Builtin.«tuple.__mul__» ⟨[.ref l, .int 1 u], []⟩) (fun _ R s => s.heap.get? l = some { cls := .type "tuple", dict := da, data := .seq its n, slots := sl } ∧ R (.ok (.ret (Value.ref l))) s) :=
  .of_wp fun prog w A R ⟨hp, g, d, tk, os⟩ ⟨lp, h⟩ => by
    have f1 := AutoSeq1.idx_int
    wp_walk using wpAny_loadPart' lp
    exact ⟨_, rfl, h⟩
/-- once, or more -/
def rRepN (K : PySem.W.Frag) : R2 := fun x y H Q => rRepT K x y H Q ∨ ∃ l xs, x = .ref l ∧ y = .int 1 ∧ SqT K H l xs ∧ Q (.ref l) H
theorem op_repN {X : Cx} : OpR X (binaryOp .Mult) (rRepN X.K) := by
  intro pins s σ H x y v u Q I rx ry hr
  rcases hr with h | ⟨l, xs, rfl, rfl, hT, q⟩
  · exact op_repT _ _ _ _ _ _ _ _ _ I rx ry h
  cases rx
  obtain ⟨t, rfl⟩ := ry
  obtain ⟨its, r, ⟨⟨c, da, dt, sl⟩, ho, hc, n, hd⟩, _⟩ := I.tuple hT
  simp only at hc hd
  subst hc hd
  have isI := typeIs_int s 1 t
  have isT : s.heap.get? l = _ := ho
  have en := int_rmul_tuple 1 t l its.toArray n da sl
  refine wpAny_binaryOp_repeat_ref (U := "int") (T := "tuple") (by decide) ⟨_, ho, rfl⟩ (fun s' => typeIs_int s' 1 t) noFill_tuple_mul F.fills_int_mul F.slot_int_rmul repeat_tuple F.slot_int_index.lookup (call_meets F.slot_int_rmul isI F.entry_int_rmul (F.args_int_rmul_2 _ _) en ⟨ho, rfl, ⟨_, ho, rfl⟩, call_meets F.slot_tuple_mul ⟨_, ho, rfl⟩ F.entry_tuple_mul (F.args_tuple_mul_2 _ _) (mul_once l its.toArray n da sl t) ⟨ho, ?_⟩⟩)
  exact ⟨.ref l, _, I, rfl, q⟩
theorem pec_mulN {c : Ct} {a b : Expr} {ta tb : TE} {pos : Pos} (ha : PEc c a ta) (hb : PEc c b tb) : PEc c (.BinOp a .Mult b pos) (tOp (rRepN c.g.K) ta tb) := fun X h => by
  rw [← h.hK]; exact pe_op op_repN (ha X h) (hb X h)
section
variable {K : PySem.W.Frag} {B : Hp} {bx : Option Addr} {ρ : Env} {β β1 β2 : Bx} {f1 f2 : Bool} {ta tb : TE}
theorem ev_mulN {d : D} {n : Nat} (ha : EvR K B bx ta ρ β f1 (.d (.tuple [d])) β1) (hb : EvR K B bx tb ρ β1 f2 (.d (.int n)) β2) (h1 : 1 ≤ n) (h2 : n ≤ 1000) : EvR K B bx (tOp (rRepN K) ta tb) ρ β true (.d (.tuple (List.replicate n d))) β2 := by
  by_cases hn : n = 1
  · subst hn
    exact evr_op ha hb fun H vx vy Ax Ay bi rx ry Q g => by
      obtain ⟨p, us, rfl, hp, ru⟩ := rx.1.inv_tup
      exact .inr ⟨p, us, rfl, ry.1.inv_int, Rep.sqt hp, g.d bi (.tup hp ru)⟩
  · refine evr_op ha hb fun H vx vy Ax Ay bi rx ry Q g => .inl ?_
    obtain ⟨p, us, rfl, hp, ru⟩ := rx.1.inv_tup
    cases ru with
    | cons r0 rn =>
      cases rn
      refine ⟨p, n, _, rfl, ry.1.inv_int, Rep.sqt hp, (fun e => by cases e), by omega, by omega, Nat.le_of_ble_eq_true rfl, fun o ho => g.tup bi ?_ ho⟩
      rw [Int.toNat_natCast]
      clear g hb hn h1 h2 ry
      induction n with
      | zero => exact .nil
      | succ m ih => exact .cons r0 ih
end
end K20
set_option maxHeartbeats 4000000
namespace K20
open PySem PySem.Spec PyProof.Rows L2
def ItzM (K : PySem.W.Frag) (a b : Addr) : It :=
  ⟨fun i H => ∃ (us ws : List V) (x y : V), SqT K H a us ∧ SqL K H b ws ∧ us[i]? = some x ∧ ws[i]? = some y,
    fun i H v H' => ∃ P x y, v = .ref P ∧ H P = none ∧ H' = upd H P (.tup [x, y]) ∧ (∀ us, SqT K H a us → us[i]? = some x) ∧ ∀ ws, SqL K H b ws → ws[i]? = some y,
    fun i H => ∃ us ws : List V, SqT K H a us ∧ SqL K H b ws ∧ i = min us.length ws.length⟩
theorem sepM {z TI TO i1 i2 a b : Addr} (D : ZipApart z TI TO i1 i2 a b) : ZipSep2 z TI TO i1 i2 [i1, a] [i2, b] where
  TIz := D.TIz
  TOz := D.TOz
  TITO := D.TITO
  TIi1 := D.TIi1
  mem1 := by simp
  zf1 := by simp [D.i1z.symm, D.l1z.symm]
  Tf1 := by simp [D.TOi1, D.l1TO.symm]
  TIi2 := D.TIi2
  mem2 := by simp
  zf2 := by simp [D.i2z.symm, D.l2z.symm]
  Tf2 := by simp [D.TOi2, D.l2TO.symm]
  sep1_2 := by simp [D.i12, D.l2i1.symm]
  sep2_1 := by simp [D.i12.symm, D.l1i2.symm]
theorem turn_zipM {P : Program} {w : World} {K : PySem.W.Frag} {elts : List Expr} {kk : Nat} {tpos : Pos} {a b z TI TO i1 i2 : Addr} (D : ZipApart z TI TO i1 i2 a b) :
    Turn P w K (.Tuple elts kk tpos) (ItzM K a b) [z, TI, TO, i1, i2] z (fun i h => IsZip h z TI TO .none ∧ IsPair h TI (.ref i1) (.ref i2) ∧ (∃ x y, IsPair h TO x y) ∧ h.IsTupleIter i1 a i ∧ h.IsListIter i2 b i) where
  mem := by simp
  obj := fun i h ⟨uz, uI, ⟨x, y, uO⟩, ⟨o1, e1, _, d1⟩, ⟨o2, e2, _, d2⟩⟩ c hc => by
    have q : c = z ∨ c = TI ∨ c = TO ∨ c = i1 ∨ c = i2 := by simpa using hc
    rcases q with q | q | q | q | q <;> subst q
    · exact ⟨_, uz, fun v q => nomatch q⟩
    · exact ⟨_, uI, fun v q => nomatch q⟩
    · exact ⟨_, uO, fun v q => nomatch q⟩
    · exact ⟨o1, e1, fun v q => by rw [d1] at q; cases q⟩
    · exact ⟨o2, e2, fun v q => by rw [d2] at q; cases q⟩
  keep := fun i h h' ⟨uz, uI, ⟨x, y, uO⟩, u1, u2⟩ k => ⟨k z (by simp) _ uz, k TI (by simp) _ uI, ⟨x, y, k TO (by simp) _ uO⟩, isTupleIter_at u1 fun o q => k i1 (by simp) o q, u2.at fun o q => k i2 (by simp) o q⟩
  item := by
    intro X hP hw hK hc i pins s σ H E I hf ⟨uz, uI, ⟨x0, y0, uO⟩, u1, u2⟩ ⟨us, ws, x, y, hu, hw2, hx, hy⟩
    subst hP hw hK
    obtain ⟨its, ru, pu, _⟩ := I.tuple hu
    obtain ⟨jts, rw_, pw, _⟩ := I.list hw2
    obtain ⟨m, hm, rm⟩ := ru.get hx
    obtain ⟨n, hn, rn⟩ := rw_.get hy
    have zl : z < s.heap.objs.size := Heap.lt_size uz
    have hm' : i < its.length := (List.getElem?_eq_some_iff.mp hm).1
    have hn' : i < jts.length := (List.getElem?_eq_some_iff.mp hn).1
    refine wpAny_pyNext_zipD2_item (sepM D) (draws_tuple (A := X.A.in1) (I.ok.hd hc) i1 a D.l1i1 its.toArray) (Draws.list (A := X.A.in1) (I.ok.hd hc) i2 b D.l2i2 jts.toArray) uz uI uO ⟨u1, pu⟩ ⟨u2, pw.isList⟩ (by simpa using hm') (by simpa using hn') fun x1 x2 h' tk e1 e2 z' TO' s1 s2 hT hsz hk => ?_
    have q1 : m = x1 := by simp at e1; rw [hm] at e1; exact Option.some.inj e1
    have q2 : n = x2 := by simp at e2; rw [hn] at e2; exact Option.some.inj e2
    subst q1 q2
    refine ⟨_, rfl, wpAny_letOwnedTupleGo_zip (s := { s with heap := h', toks := tk }) z' fun h'' z'' rest => ?_⟩
    have hT2 : h''.get? s.heap.objs.size = some { cls := .type "tuple", data := .seq #[m, n] } := (rest.2 _ (Nat.ne_of_gt zl)).trans hT
    have mk : ObjOk X.prog X.w (upd H s.heap.objs.size (.tup [x, y])) h'' s.heap.objs.size (.tup [x, y]) := ⟨by show 2 ≤ sizeLine; decide, [m, n], .cons rm (.cons rn .nil), ⟨_, hT2, rfl, _, rfl⟩⟩
    have I1 : Inv X pins σ (upd H s.heap.objs.size (.tup [x, y])) { s with heap := h'', toks := tk } :=
      I.turnedNew (t' := tk) (ch := [z, TI, TO, i1, i2]) (fun c o nb q => (rest.2 c (fun q' => nb (by simp [q']))).trans (hk c o (fun q' => nb (by simp [q'])) (fun q' => nb (by simp [q'])) (fun q' => nb (by simp [q'])) (fun q' => nb (by simp [q'])) q)) hf (Nat.le_refl _) mk
    refine ⟨.ref s.heap.objs.size, _, I1, rfl, ⟨_, x, y, rfl, I.hok.fresh (Nat.le_refl _), rfl, fun l hl => by rw [I.tuple_inj hl hu]; exact hx, fun l hl => by rw [I.list_inj hl hw2]; exact hy⟩, ⟨z'', ?_, ⟨m, n, ?_⟩, ?_, ?_⟩, fun c hcm => ?_⟩
    · exact (rest.2 _ D.TIz).trans (hk _ _ D.TIz D.TITO D.TIi1 D.TIi2 uI)
    · exact (rest.2 _ D.TOz).trans TO'
    · exact isTupleIter_at s1.1 fun o q => (rest.2 _ D.i1z).trans q
    · exact s2.1.at fun o q => (rest.2 _ D.i2z).trans q
    · have clow : c < s.heap.objs.size := by
        have q : c = z ∨ c = TI ∨ c = TO ∨ c = i1 ∨ c = i2 := by simpa using hcm
        obtain ⟨_, w1, _⟩ := u1
        obtain ⟨_, w2, _⟩ := u2
        rcases q with q | q | q | q | q <;> subst q
        · exact zl
        · exact Heap.lt_size uI
        · exact Heap.lt_size uO
        · exact Heap.lt_size w1
        · exact Heap.lt_size w2
      rw [upd_ne (Nat.ne_of_lt clow)]
      exact (hf c hcm).1
  done := by
    intro X hP hw hK hc i pins s σ H E I hf ⟨uz, uI, ⟨x0, y0, uO⟩, u1, u2⟩ ⟨us, ws, hu, hw2, en⟩
    subst hP hw hK
    obtain ⟨its, ru, pu, _⟩ := I.tuple hu
    obtain ⟨jts, rw_, pw, _⟩ := I.list hw2
    have l1 := ru.length
    have l2 := rw_.length
    have a1 : its.toArray.size = us.length := by rw [List.size_toArray]; omega
    have a2 : jts.toArray.size = ws.length := by rw [List.size_toArray]; omega
    exact wpAny_pyNext_zipD2_end (sepM D) (draws_tuple (A := X.A.in1) (I.ok.hd hc) i1 a D.l1i1 its.toArray) (Draws.list (A := X.A.in1) (I.ok.hd hc) i2 b D.l2i2 jts.toArray) uz uI uO ⟨u1, pu⟩ ⟨u2, pw.isList⟩ (by rw [a1]; omega) (by rw [a2]; omega) (by rw [a1, a2]; omega) fun h' tk hk => ⟨rfl, I.turnedL (t' := tk) (ch := [z, TI, TO, i1, i2]) (fun c o nb q => hk c o (fun q' => nb (by simp [q'])) (fun q' => nb (by simp [q'])) (fun q' => nb (by simp [q'])) (fun q' => nb (by simp [q'])) q) hf⟩
  self := fun _ _ _ _ _ st => wpAny_pyIter_zip st.1
def iZipM (K : PySem.W.Frag) (ta : TA) : TI := fun σ H R => ta σ H fun vs H1 => ∃ a b us ws, vs = [.ref a, .ref b] ∧ SqT K H1 a us ∧ SqL K H1 b ws ∧ R (ItzM K a b) H1
theorem pi_zipM {X : Cx} {e e2 : Expr} {ta : TA} {p pos tpos : Pos} {elts : List Expr} {kk : Nat} (hg : Gl X "zip") (hm : X.mg "zip" = none) (ha : PA X [e, e2] ta)
    (h2 : starEach [e, e2] X.env = (false, eval e X.env) :: starEach [e2] X.env := by rfl) (h1 : (backTo pos (starEach [e2] X.env)).any (·.1) = false := by rfl) :
    PI X (.Tuple elts kk tpos) (.Call (.Name "zip" p) [e, e2] [] pos) (iZipM X.K ta) := ⟨fun pins s σ H R I h => by
  refine Call_ (ld_blt I hg hm PyProof.Rows.boot_zip (PyProof.Rows.callWith_type1 (thn (ha.run pos pins s σ H _ I h) fun us s1 ⟨vs, H1, J, rr, a, b, xs, ys, ex, hx, hy, q⟩ => ?_) h2 h1))
  subst ex
  cases rr with
  | cons r rr => cases rr with
    | cons r' rr =>
      cases rr; cases r; cases r'
      obtain ⟨its, ru, pu, _⟩ := J.tuple hx
      obtain ⟨jts, rw_, pw, _⟩ := J.list hy
      obtain ⟨o1, ho1, _⟩ := id pu
      have la : a < s1.heap.objs.size := Heap.lt_size ho1
      refine zip_begins2 (begins_tuple a its.toArray) (begins_list b jts.toArray) (show s1.heap.IsTuple a its.toArray from pu) pw.isList fun h' z0 z1 z2 z3 z4 zs hk => wpAny_pyIter_zip z0 ?_
      refine ⟨s1.heap.objs.size + 4, [s1.heap.objs.size + 4, s1.heap.objs.size + 2, s1.heap.objs.size + 3, s1.heap.objs.size, s1.heap.objs.size + 1], _, _, H1, rfl, J.kept (t' := s1.toks) hk, turn_zipM (PySem.W.ktu_apart s1.heap.objs.size a b la pw.lt), ⟨z0, z1, ⟨_, _, z2⟩, ⟨_, z3, rfl, rfl⟩, ⟨_, z4, rfl, rfl⟩⟩, fun c hc => ?_, q⟩
      have ulow : s1.heap.objs.size ≤ c := by
        have e : c = s1.heap.objs.size + 4 ∨ c = s1.heap.objs.size + 2 ∨ c = s1.heap.objs.size + 3 ∨ c = s1.heap.objs.size ∨ c = s1.heap.objs.size + 1 := by simpa using hc
        rcases e with e | e | e | e | e <;> rw [e] <;> first | exact Nat.le_add_right _ _ | exact Nat.le_refl _
      exact J.fpOk ulow (J.hok.fresh ulow)⟩
theorem walk_zipM {K : PySem.W.Frag} {a b : Addr} {xs ys : List V} {n : Nat} (hn : n = min xs.length ys.length) : Walk (ItzM K a b) n (fun H => SqT K H a xs ∧ SqL K H b ys) (YPair (fun i => xs[i]?) (fun i => ys[i]?)) where
  goes := fun i H hi ⟨hx, hy⟩ => ⟨xs, ys, xs[i]'(by omega), ys[i]'(by omega), hx, hy, List.getElem?_eq_getElem _, List.getElem?_eq_getElem _⟩
  stops := fun H ⟨hx, hy⟩ => ⟨xs, ys, hx, hy, hn⟩
  yields := fun i H x H' _ ⟨hx, hy⟩ ⟨T, u, v, e, nT, eH, fx, fy⟩ => ⟨T, u, v, e, nT, eH, fx xs hx, fy ys hy⟩
theorem pic_zipM {c : Ct} {e b : Expr} {te tb : TE} {elts : List Expr} {pos p : Pos} {k : Nat} {tpos : Pos} (hm : c.g.mg "zip" = none) (h : PEc c e te) (hb : PEc c b tb) (hg : GlS c.sc "zip" := by rfl) (h0 : ∀ env, starEach [e, b] env = (false, eval e env) :: starEach [b] env := by intro _; rfl) (h1 : ∀ env, starEach [b] env = (false, eval b env) :: starEach [] env := by intro _; rfl) (h2 : ∀ env, (backTo pos (starEach [b] env)).any (·.1) = false := by intro _; rfl) :
    PIc c (.Tuple elts k tpos) (.Call (.Name "zip" p) [e, b] [] pos) (iZipM c.g.K (tCons te (tCons tb tNil))) := fun X q => by
  rw [← q.hK]
  exact pi_zipM (q.gl hg) (q.mg0 hm) (pa_cons (h X q) (pa_cons (hb X q) pa_nil (h1 _)) (h0 _)) (h0 _) (h2 _)
end K20
set_option maxHeartbeats 4000000
namespace K20
open PySem PySem.Spec PyProof.Rows L2
section
variable {K : PySem.W.Frag} {B : Hp} {bx : Option Addr} {ρ : Env} {β β1 β2 : Bx} {σ : L2.St} {H : Hp} {dss : List (List D)}
theorem lls_get {qs : List Addr} {n : Nat} {ds : List D} (h : LLs K bx H qs dss) (e : dss[n]? = some ds) : ∃ q vs, qs[n]? = some q ∧ bx ≠ some q ∧ H q = some (.lst vs) ∧ Reps K H vs ds := by
  induction h generalizing n with
  | nil => cases e
  | cons nb hq r t ih =>
    cases n with
    | zero => cases e; exact ⟨_, _, rfl, nb, hq, r⟩
    | succ n => exact ih e
theorem lls_len {qs : List Addr} (h : LLs K bx H qs dss) : qs.length = dss.length := by
  induction h with
  | nil => rfl
  | cons _ _ _ _ ih => exact congrArg Nat.succ ih
theorem rs_forget (S : RS K B bx ρ β σ H) (i : Nat) : RS K B bx (ρ.set i none) β σ H := by
  obtain ⟨kp, bb, bi, len, fa, h1, h2, h3⟩ := S
  refine ⟨kp, bb, bi, by rw [List.length_set]; exact len, fa, fun j r e => ?_, h2, h3⟩
  by_cases hj : j = i
  · subst hj
    have hl : j < ρ.length := by
      have := (List.getElem?_eq_some_iff.mp e).1
      rw [List.length_set] at this; exact this
    rw [List.getElem?_set_self hl] at e
    cases e
  · rw [List.getElem?_set_ne (Ne.symm hj)] at e
    exact h1 j r e
/-- one of the lists, in a slot of its own; the list of lists is hidden -/
theorem rs_lend {i t n : Nat} {ds : List D} (S : RS K B bx ρ β σ H) (e : ρ[i]? = some (some (.ll dss))) (hn : dss[n]? = some ds) (hit : t ≠ i) :
    ∃ p us q vs, σ[i]? = some (some (.ref p)) ∧ bx ≠ some p ∧ H p = some (.lst us) ∧ us.length = dss.length ∧ us[n]? = some (.ref q) ∧ bx ≠ some q ∧ H q = some (.lst vs) ∧ Reps K H vs ds ∧ RS K B bx ((ρ.set i none).set t (some (.l ds))) β (σ.set t (some (.ref q))) H := by
  have len := S.len
  obtain ⟨fa, h1, h2, h3⟩ := S.sl
  obtain ⟨v, ev, p, qs, rfl, np, hp, hl, nd, hA⟩ := h1 i _ e
  obtain ⟨q, vs, eq_, nq, hq, r⟩ := lls_get hl hn
  have mq : q ∈ fa i := by rw [hA]; exact List.mem_cons_of_mem _ (List.mem_of_getElem? eq_)
  refine ⟨p, _, q, vs, ev, np, hp, by rw [List.length_map]; exact lls_len hl, by rw [List.getElem?_map, eq_]; rfl, nq, hq, r, S.kp, S.bb, S.bi, by rw [List.length_set, List.length_set, List.length_set]; exact len, fun j => if j = t then [q] else if j = i then [] else fa j, fun j r' ej => ?_, fun j x hx => ?_, fun j l x hj hl' => ?_⟩
  · by_cases hj : j = t
    · subst hj
      have hlt : j < ρ.length := by
        have := (List.getElem?_eq_some_iff.mp ej).1
        rw [List.length_set, List.length_set] at this; exact this
      rw [List.getElem?_set_self (by rw [List.length_set]; exact hlt)] at ej
      cases ej
      exact ⟨_, List.getElem?_set_self (by omega), q, vs, rfl, nq, hq, r, if_pos rfl⟩
    · rw [List.getElem?_set_ne (Ne.symm hj)] at ej
      by_cases hji : j = i
      · subst hji
        have hlt : j < ρ.length := by
          have := (List.getElem?_eq_some_iff.mp ej).1
          rw [List.length_set] at this; exact this
        rw [List.getElem?_set_self hlt] at ej
        cases ej
      · rw [List.getElem?_set_ne (Ne.symm hji)] at ej
        obtain ⟨w, e1, e2⟩ := h1 j r' ej
        exact ⟨w, by rw [List.getElem?_set_ne (Ne.symm hj)]; exact e1, by simp only [if_neg hj, if_neg hji]; exact e2⟩
  · by_cases hj : j = t
    · simp only [if_pos hj, List.mem_singleton] at hx
      rw [hx]; exact h2 i q mq
    · simp only [if_neg hj] at hx
      by_cases hji : j = i
      · simp only [if_pos hji] at hx; cases hx
      · simp only [if_neg hji] at hx; exact h2 j x hx
  · have key : ∀ j x, x ∈ (if j = t then [q] else if j = i then [] else fa j) → (j = t ∧ x = q) ∨ (j ≠ t ∧ j ≠ i ∧ x ∈ fa j) := fun j x hx => by
      by_cases hj : j = t
      · rw [if_pos hj, List.mem_singleton] at hx; exact .inl ⟨hj, hx⟩
      · rw [if_neg hj] at hx
        by_cases hji : j = i
        · rw [if_pos hji] at hx; cases hx
        · rw [if_neg hji] at hx; exact .inr ⟨hj, hji, hx⟩
    rcases key j x hj with ⟨a1, a2⟩ | ⟨a1, a2, a3⟩ <;> rcases key l x hl' with ⟨b1, b2⟩ | ⟨b1, b2, b3⟩
    · rw [a1, b1]
    · exact absurd (h3 l i x b3 (by rw [a2]; exact mq)) b2
    · exact absurd (h3 j i x a3 (by rw [b2]; exact mq)) a2
    · exact h3 j l x a3 b3
theorem wipeR_get {i : Nat} : ∀ {vs : List Nat}, i ∉ vs → (wipeR ρ vs)[i]? = ρ[i]?
  | [], _ => rfl
  | v :: vs, h => by
    simp only [List.mem_cons, not_or] at h
    show ((wipeR ρ vs).set v none)[i]? = _
    rw [List.getElem?_set_ne (Ne.symm h.1), wipeR_get h.2]
theorem wipe_get {i : Nat} : ∀ {vs : List Nat}, i ∉ vs → (wipe σ vs)[i]? = σ[i]?
  | [], _ => rfl
  | v :: vs, h => by
    simp only [List.mem_cons, not_or] at h
    show ((wipe σ vs).set v none)[i]? = _
    rw [List.getElem?_set_ne (Ne.symm h.1), wipe_get h.2]
theorem wipeS_wipe (vs : List Nat) (t : Nat) (x : Option V) (ht : t ∈ vs) : wipe ((wipe σ vs).set t x) vs = wipe σ vs := by rw [wipe_set ht, wipe_wipe]
/-- each of the lists, told by data -/
theorem ev_lcLL {i t : Nat} {vs : List Nat} {te : TE} {f : List D → D} (e : ρ[i]? = some (some (.ll dss))) (hl : dss.length ≤ 100000) (he : ∀ ds ∈ dss, EvR K B bx te (((wipeR ρ vs).set i none).set t (some (.l ds))) β true (.d (f ds)) β) (hi : i ∉ vs := by decide) (ht : t ∈ vs := by decide) :
    EvR K B bx (tLc (iList K (tVar i)) (gName t) tYes te vs) ρ β true (.l (dss.map f)) β := fun σ H S Q q => by
  obtain ⟨fa, h1, h2, h3⟩ := S.sl
  obtain ⟨v, ev, p, qs, rfl, np, hp, hll, nd, hA⟩ := h1 i _ e
  have b0 := S.bi
  refine ⟨.ref p, ev, p, rfl, ⟨_, .inl (.inl hp)⟩, fun D hD => ?_⟩
  have nD : bx ≠ some D := b0.ne hD
  have len : (qs.map V.ref).length = dss.length := by rw [List.length_map]; exact lls_len hll
  have W := (walk_list (K := K) (a := p) (xs := qs.map V.ref)).mono (G' := fun H' => Kp bx H H') (fun H' k => .inl (.inl (k _ _ hp np))) (fun i H' x H'' hi k y => y)
  refine lc_it W (fun n H' => ∃ acc, H' D = some (.lst acc) ∧ Reps K H' acc ((dss.take n).map f) ∧ Kp bx H H' ∧ BoxIs bx H' β) ⟨[], upd_same, .nil, Kp.new hD, b0.new hD⟩ (fun n H' _ ⟨_, _, _, k, _⟩ => k) (fun n x H2 H3 hn hP y => ?_) (fun H' hP => ?_)
  · obtain ⟨acc, e1, e2, k2, b2⟩ := hP
    obtain ⟨rfl, hx⟩ := y
    rw [len] at hn
    have hds : dss[n]? = some dss[n] := List.getElem?_eq_getElem hn
    have S2 : RS K B bx (wipeR ρ vs) β (wipe σ vs) H3 := (S.wipe vs).step k2 b2
    have hll2 := hll.kp b0 k2
    obtain ⟨q0, ws, eq0, nq, hq, rq⟩ := lls_get hll2 hds
    have ex : x = .ref q0 := by
      rw [List.getElem?_map, eq0] at hx
      exact (Option.some.inj hx).symm
    subst ex
    have hit : t ≠ i := fun h => hi (h ▸ ht)
    obtain ⟨p2, us, q2, ws2, ev2, np2, hp2, lu, hu2, nq2, hq2, rq2, SL⟩ := rs_lend S2 (by rw [wipeR_get hi]; exact e) hds hit
    have ep : p2 = p := by
      rw [wipe_get hi, ev] at ev2
      cases ev2; rfl
    subst ep
    have eu : us = qs.map V.ref := by
      have := k2 _ _ hp np
      rw [hp2] at this
      cases this; rfl
    subst eu
    rw [List.getElem?_map, eq0] at hu2
    cases hu2
    refine ⟨wipeS_wipe vs t _ ht, tYes_ite ?_⟩
    refine he _ (List.getElem_mem hn) _ H3 SL _ fun v H5 A k5 b5 r5 _ => ?_
    have tku : TK H5 (upd H5 D (.lst (acc ++ [v]))) := fun c zs h => by
      rw [upd_ne (fun e => by rw [e, k5 _ _ e1 nD] at h; cases h)]; exact h
    refine ⟨acc, k5 _ _ e1 nD, ?_, acc ++ [v], upd_same, ?_, ?_, ?_⟩
    · rw [e2.length, List.length_map, List.length_take]
      exact Nat.lt_of_le_of_lt (Nat.min_le_right _ _) (Nat.lt_of_le_of_lt hl (by decide))
    · rw [List.take_succ, hds, List.map_append]
      exact ((e2.tk (k5.tk b2)).tk tku).append (.cons (r5.1.tk tku) .nil)
    · intro c o h n
      rw [upd_ne (ne_of_none h hD)]
      exact (k2.trans k5) c o h n
    · intro b e
      rw [upd_ne (fun h => nD (by rw [← h]; exact e))]
      exact b5 b e
  · obtain ⟨acc, e1, e2, k2, b2⟩ := hP
    rw [len, List.take_length] at e2
    exact q _ _ [D] k2 b2 ⟨D, acc, rfl, nD, e1, e2, rfl⟩ fun _ r hr => by
      simp at hr; subst hr
      exact hD
/-- .. with a tuple beside it -/
theorem ev_lcZM {α : Type} {i t : Nat} {vs sl : List Nat} {te ta : TE} {f1 : Bool} {g : TG} {bnd : Bnd} {xs : List α} {enc : α → D} {f : α → List D → D} (ha : EvR K B bx ta ρ β f1 (.d (.tuple (xs.map enc))) β) (e : ρ[i]? = some (some (.ll dss))) (hl : dss.length ≤ 100000) (hx : xs.length = dss.length) (hg : TgR K B bx g bnd sl)
    (he : ∀ x ds, ds ∈ dss → ∃ ρ', bnd (enc x) (wipeR ρ vs) = some ρ' ∧ ρ'[i]? = some (some (.ll dss)) ∧ EvR K B bx te ((ρ'.set i none).set t (some (.l ds))) β true (.d (f x ds)) β) (hsl : ∀ j ∈ sl, j ∈ vs := by decide) (hi : i ∉ vs := by decide) (ht : t ∈ vs := by decide) :
    EvR K B bx (tLc (iZipM K (tCons ta (tCons (tVar i) tNil))) (gTup K 2 (gCons g (gCons (gName t) gNil))) tYes te vs) ρ β true (.l (List.zipWith f xs dss)) β := fun σ H0 S0 q0 q00 => ha σ H0 S0 _ fun va H Aa k0 b0 ra _ => by
  have S := S0.step k0 b0
  have q := q00.behind k0 b0
  obtain ⟨fa, h1, h2, h3⟩ := S.sl
  obtain ⟨v, ev, p, qs, rfl, np, hp, hll, nd, hA⟩ := h1 i _ e
  obtain ⟨a, us, rfl, hu, ru⟩ := ra.1.inv_tup
  refine ⟨.ref p, ev, a, p, us, qs.map V.ref, rfl, Rep.sqt hu, .inl (.inl hp), fun D hD => ?_⟩
  have nD : bx ≠ some D := b0.ne hD
  have len : (qs.map V.ref).length = dss.length := by rw [List.length_map]; exact lls_len hll
  have lu : us.length = xs.length := by rw [ru.length, List.length_map]
  have W := (walk_zipM (K := K) (a := a) (b := p) (xs := us) (ys := qs.map V.ref) (n := dss.length) (by rw [len, lu, hx, Nat.min_self])).mono (G' := fun H' => Kp bx H H') (fun H' k => ⟨Rep.sqt (hu.imp (k.tk b0 _ _) id), .inl (.inl (k _ _ hp np))⟩) (fun i H' x H'' hi k y => y)
  refine lc_it W (fun n H' => ∃ acc, H' D = some (.lst acc) ∧ Reps K H' acc (List.zipWith f (xs.take n) (dss.take n)) ∧ Kp bx H H' ∧ BoxIs bx H' β) ⟨[], upd_same, by rw [List.take_zero, List.zipWith_nil_left]; exact .nil, Kp.new hD, b0.new hD⟩ (fun n H' _ ⟨_, _, _, k, _⟩ => k) (fun n x H2 H3 hn hP y => ?_) (fun H' hP => ?_)
  · obtain ⟨acc, e1, e2, k2, b2⟩ := hP
    obtain ⟨T, u, w, rfl, nT, rfl, hu1, hw1⟩ := y
    have hds : dss[n]? = some dss[n] := List.getElem?_eq_getElem hn
    have hxn : xs[n]? = some (xs[n]'(by omega)) := List.getElem?_eq_getElem (by omega)
    have kT : Kp bx H2 (upd H2 T (.tup [u, w])) := Kp.new nT
    have k23 := k2.trans kT
    have b3 : BoxIs bx (upd H2 T (.tup [u, w])) β := b2.new nT
    have S2 := (S.wipe vs).step k23 b3
    obtain ⟨d, hd1, hd2⟩ := ru.get' hu1
    rw [List.getElem?_map, hxn] at hd1
    cases hd1
    refine ⟨T, [u, w], rfl, .inl (.inl upd_same), rfl, _, _, rfl, ?_⟩
    obtain ⟨ρ', hρ, hρi, hE⟩ := he (xs[n]'(by omega)) dss[n] (List.getElem_mem hn)
    refine hg _ _ ρ' hρ u _ _ (hd2.tk (k23.tk b0)) _ fun σ' hS hwp => ?_
    have S4 := hS _ β (fun _ _ h => h) S2
    have wq := hwp vs hsl
    rw [wipe_wipe] at wq
    have ei : σ'[i]? = σ[i]? := by rw [← wipe_get (σ := σ') hi, wq, wipe_get hi]
    have hit : t ≠ i := fun h => hi (h ▸ ht)
    obtain ⟨p2, us2, q2, ws2, ev2, np2, hp2, lu2, hu2, nq2, hq2, rq2, SL⟩ := rs_lend S4 hρi hds hit
    rw [ei, ev] at ev2
    cases ev2
    have eu : us2 = qs.map V.ref := by
      have := k23 _ _ hp np
      rw [hp2] at this
      cases this; rfl
    subst eu
    have ew : some w = some (V.ref q2) := hw1.symm.trans hu2
    cases ew
    refine ⟨_, _, rfl, rfl, by rw [wipe_set ht, wq], tYes_ite ?_⟩
    refine hE _ _ SL _ fun v H5 A k5 b5 r5 _ => ?_
    have e1' := k5 _ _ (kT _ _ e1 nD) nD
    have tku : TK H5 (upd H5 D (.lst (acc ++ [v]))) := fun c zs h => by
      rw [upd_ne (fun e => by rw [e, e1'] at h; cases h)]; exact h
    refine ⟨acc, e1', ?_, acc ++ [v], upd_same, ?_, ?_, ?_⟩
    · rw [e2.length, List.length_zipWith, List.length_take, List.length_take]
      exact Nat.lt_of_le_of_lt (Nat.le_trans (Nat.min_le_right _ _) (Nat.min_le_right _ _)) (Nat.lt_of_le_of_lt hl (by decide))
    · have ez : List.zipWith f (xs.take (n + 1)) (dss.take (n + 1)) = List.zipWith f (xs.take n) (dss.take n) ++ [f (xs[n]'(by omega)) dss[n]] := by
        rw [List.take_succ, List.take_succ, hds, hxn, List.zipWith_append (by rw [List.length_take, List.length_take, hx])]
        rfl
      rw [ez]
      exact (((e2.tk (kT.tk b2)).tk (k5.tk b3)).tk tku).append (.cons (r5.1.tk tku) .nil)
    · intro c o h n
      rw [upd_ne (ne_of_none h hD)]
      exact (k23.trans k5) c o h n
    · intro b e
      rw [upd_ne (fun h => nD (by rw [← h]; exact e))]
      exact b5 b e
  · obtain ⟨acc, e1, e2, k2, b2⟩ := hP
    rw [List.take_length, ← hx, List.take_length] at e2
    exact q _ _ [D] k2 b2 ⟨D, acc, rfl, nD, e1, e2, rfl⟩ fun _ r hr => by
      simp at hr; subst hr
      exact hD
theorem lls_upd {p : Addr} {o : HO} (tku : TK H (upd H p o)) {qs : List Addr} (h : LLs K bx H qs dss) (hn : p ∉ qs) : LLs K bx (upd H p o) qs dss := by
  induction h with
  | nil => exact .nil
  | cons n hq r t ih =>
    simp only [List.mem_cons, not_or] at hn
    exact .cons n (by rw [upd_ne (fun h => hn.1 h.symm)]; exact hq) (r.tk tku) (ih hn.2)
theorem lls_snoc {qs : List Addr} {q : Addr} {vs : List V} {ds : List D} (h : LLs K bx H qs dss) (n : bx ≠ some q) (hq : H q = some (.lst vs)) (r : Reps K H vs ds) : LLs K bx H (qs ++ [q]) (dss ++ [ds]) := by
  induction h with
  | nil => exact .cons n hq r .nil
  | cons n hq r t ih => exact .cons n hq r ih
/-- items that are new lists -/
theorem ev_lcNew {α : Type} {wi : TI} {g : TG} {bnd : Bnd} {sl vs : List Nat} {te : TE} {tk : Bool} {xs : List α} {enc : α → D} {f : α → List D} (hw : WkR K B bx wi ρ β tk (xs.map enc) β1) (hg : TgR K B bx g bnd sl) (hsl : ∀ i ∈ sl, i ∈ vs := by decide) (hl : xs.length ≤ 100000)
    (he : ∀ y ∈ xs, ∃ ρ', bnd (enc y) (wipeR ρ vs) = some ρ' ∧ EvR K B bx te ρ' β1 true (.l (f y)) β1) : EvR K B bx (tLc wi g tYes te vs) ρ β true (.ll (xs.map f)) β1 := fun σ H S Q q => hw σ H S _ fun It0 H1 G k1 b1 hG _ W D hD => by
  have nD : bx ≠ some D := b1.ne hD
  rw [List.length_map] at W
  refine lc_it W (fun n H' => ∃ qs, H' D = some (.lst (qs.map V.ref)) ∧ LLs K bx H' qs ((xs.take n).map f) ∧ (D :: qs).Nodup ∧ (∀ q ∈ qs, H1 q = none) ∧ Kp bx H1 H' ∧ BoxIs bx H' β1) ⟨[], upd_same, .nil, by simp, (fun q h => by cases h), Kp.new hD, b1.new hD⟩ (fun n H' _ ⟨_, _, _, _, _, k, _⟩ => hG H' k) (fun n x H2 H3 hn hP y => ?_) (fun H' hP => ?_)
  · obtain ⟨qs, e1, e2, nd, fr, k2, b2⟩ := hP
    obtain ⟨hy, d, hd, hr⟩ := y
    have kb : Kp bx H2 H3 ∧ BoxIs bx H3 β1 := by
      rcases hy with rfl | ⟨T, o, nT, rfl⟩
      · exact ⟨Kp.refl, b2⟩
      · exact ⟨Kp.new nT, b2.new nT⟩
    have hxn : xs[n]? = some xs[n] := List.getElem?_eq_getElem hn
    rw [List.getElem?_map, hxn] at hd
    cases hd
    obtain ⟨ρ', hρ, hE⟩ := he _ (List.getElem_mem hn)
    have S3 : RS K B bx (wipeR ρ vs) β1 (wipe σ vs) H3 := (S.wipe vs).step ((k1.trans k2).trans kb.1) kb.2
    refine hg _ _ ρ' hρ x _ H3 hr _ fun σ' hS4 hwp => ⟨by rw [hwp vs hsl, wipe_wipe], tYes_ite ?_⟩
    have S4 := hS4 H3 β1 (fun _ _ h => h) S3
    refine hE σ' H3 S4 _ fun v H5 A k5 b5 r5 f5 => ?_
    obtain ⟨p, ws, rfl, np, hp, rr, hA⟩ := r5
    have p3 : H3 p = none := f5 rfl p (by rw [hA]; simp)
    have e3 := kb.1 _ _ e1 nD
    have l3 := e2.kp b2 kb.1
    have pD : p ≠ D := fun h => by rw [h, e3] at p3; cases p3
    have pq : p ∉ qs := fun h => by
      obtain ⟨_, e⟩ := l3.some h
      rw [p3] at e; cases e
    have e5 := k5 _ _ e3 nD
    have tku : TK H5 (upd H5 D (.lst (qs.map V.ref ++ [.ref p]))) := fun c zs h => by
      rw [upd_ne (fun e => by rw [e, e5] at h; cases h)]; exact h
    have nD2 : D ∉ qs := (List.nodup_cons.mp nd).1
    refine ⟨_, e5, ?_, qs ++ [p], by rw [List.map_append]; exact upd_same, ?_, ?_, ?_, ?_, ?_⟩
    · rw [List.length_map, lls_len e2, List.length_map, List.length_take]
      exact Nat.lt_of_le_of_lt (Nat.le_trans (Nat.min_le_right _ _) hl) (by decide)
    · rw [List.take_succ, hxn, List.map_append]
      refine lls_upd tku (lls_snoc (l3.kp kb.2 k5) np hp rr) ?_
      simp only [List.mem_append, List.mem_singleton, not_or]
      exact ⟨nD2, fun h => pD h.symm⟩
    · rw [← List.cons_append, List.nodup_append]
      refine ⟨nd, by simp, fun a ha b hb => ?_⟩
      rw [List.mem_singleton] at hb
      subst hb
      rintro rfl
      rcases List.mem_cons.mp ha with h | h
      · exact pD h
      · exact pq h
    · intro c hc
      rcases List.mem_append.1 hc with h | h
      · exact fr c h
      · rw [List.mem_singleton] at h
        subst h
        exact (k2.trans kb.1).fresh kb.2 p3
    · intro c o h n
      rw [upd_ne (ne_of_none h hD)]
      exact ((k2.trans kb.1).trans k5) c o h n
    · intro b e
      rw [upd_ne (fun h => nD (by rw [← h]; exact e))]
      exact b5 b e
  · obtain ⟨qs, e1, e2, nd, fr, k2, b2⟩ := hP
    rw [List.take_length] at e2
    refine q _ _ (D :: qs) (k1.trans k2) b2 ⟨D, qs, rfl, nD, e1, e2, nd, rfl⟩ fun _ r hr => ?_
    rcases List.mem_cons.mp hr with h | h
    · rw [h]; exact k1.fresh b1 hD
    · exact k1.fresh b1 (fr r h)
theorem ev_ixLL {i a b : Nat} {ds : List D} {d : D} {ta tb : TE} {f1 f2 : Bool} (e : ρ[i]? = some (some (.ll dss))) (ha : EvR K B bx ta ρ β f1 (.d (.int a)) β) (hb : EvR K B bx tb ρ β f2 (.d (.int b)) β) (h1 : dss[a]? = some ds) (h2 : ds[b]? = some d) :
    EvR K B bx (tOp (rSeq K) (tOp (rSeq K) (tVar i) ta) tb) ρ β true (.d d) β := fun σ H S Q g => by
  obtain ⟨fa, g1, _, _⟩ := S.sl
  obtain ⟨v, ev, p, qs, rfl, np, hp, hll, nd, hA⟩ := g1 i _ e
  have b0 := S.bi
  refine ⟨.ref p, ev, ha σ H S _ fun va H1 A1 k1 b1 r1 _ => ?_⟩
  obtain ⟨q, vs, eq_, nq, hq, rq⟩ := lls_get hll h1
  refine .inl ⟨p, _, _, .ref q, rfl, r1.1.inv_int, .inl (.inl (k1 _ _ hp np)), atN (n := a) rfl (by rw [List.getElem?_map, eq_]; rfl), ?_⟩
  refine hb σ H1 (S.step k1 b1) _ fun vb H2 A2 k2 b2 r2 _ => ?_
  obtain ⟨w, ew, rw_⟩ := rq.get h2
  exact .inl ⟨q, vs, _, w, rfl, r2.1.inv_int, .inl (.inl (k2 _ _ (k1 _ _ hq nq) nq)), atN (n := b) rfl ew, (g.behind (k1.trans k2) b2).d b2 ((rw_.tk (k1.tk b0)).tk (k2.tk b1))⟩
theorem lls_set {q : Addr} {ws : List V} {ds : List D} (tku : TK H (upd H q (.lst ws))) (nq : bx ≠ some q) (r : Reps K H ws ds) : ∀ {qs : List Addr} {dss : List (List D)} {n : Nat}, LLs K bx H qs dss → qs.Nodup → qs[n]? = some q → LLs K bx (upd H q (.lst ws)) qs (dss.set n ds)
  | _, _, _, .nil, _, h => by cases h
  | _, _, 0, .cons n hq r0 t, nd, h => by
    cases h
    exact .cons nq upd_same (r.tk tku) (lls_upd tku t (List.nodup_cons.mp nd).1)
  | _, _, k + 1, .cons n hq r0 t, nd, h => by
    have h' := List.nodup_cons.mp nd
    refine .cons n ?_ (r0.tk tku) (lls_set tku nq r t h'.2 h)
    rw [upd_ne fun e => h'.1 (by rw [e]; exact List.mem_of_getElem? h)]
    exact hq
theorem ref_inj : ∀ {qs qs' : List Addr}, qs.map V.ref = qs'.map V.ref → qs = qs'
  | [], [], _ => rfl
  | x :: xs, y :: ys, h => by
    rw [List.map_cons] at h; rw [List.map_cons] at h
    injection h with h1 h2
    rw [V.ref.inj h1, ref_inj h2]
  | [], _ :: _, h => by cases h
  | _ :: _, [], h => by cases h
/-- a place in one of the lists -/
theorem go_setLL {N : Env → Bx → Prop} {R : Res → Bx → Prop} {i a b : Nat} {ds : List D} {ta tb te : TE} {f1 f2 fr : Bool} (e : ρ[i]? = some (some (.ll dss))) (ha : ∀ β, EvR K B bx ta ρ β f1 (.d (.int a)) β) (hb : ∀ β, EvR K B bx tb ρ β f2 (.d (.int b)) β) (h1 : dss[a]? = some ds) (h2 : b < ds.length)
    (h : EvP K B bx te ρ β fr fun r β1 => ∃ z, r = .d z ∧ N (ρ.set i (some (.ll (dss.set a (ds.set b z))))) β1) : GoR K B bx (tAsg te (gSub (tOp (rSeq K) (tVar i) ta) tb rSetL)) ρ β N R := fun σ H D S n rt =>
  h σ H S _ fun r β1 ⟨z, er, hn⟩ w H1 A k1 b1 rv f => by
    subst er
    have S1 := S.step k1 b1
    obtain ⟨fa, g1, _, _⟩ := S1.sl
    obtain ⟨v, ev, p, qs, rfl, np, hp, hll, nd, hA⟩ := g1 i _ e
    refine ⟨.ref p, ev, ha β1 σ H1 S1 _ fun va H2 A2 k2 b2 r2 _ => ?_⟩
    have l2 := hll.kp b1 k2
    have hp2 := k2 _ _ hp np
    obtain ⟨q, vs, eq_, nq, hq, rq⟩ := lls_get l2 h1
    refine .inl ⟨p, _, _, .ref q, rfl, r2.1.inv_int, .inl (.inl hp2), atN (n := a) rfl (by rw [List.getElem?_map, eq_]; rfl), ?_⟩
    have S2 := S1.step k2 b2
    refine hb β1 σ H2 S2 _ fun vb H3 A3 k3 b3 r3 _ => ?_
    have S3 := S2.step k3 b3
    have hq3 := k3 _ _ hq nq
    have tk0 : TK H H3 := ((k1.trans k2).trans k3).tk S.bi
    have rz : Reps K H3 (vs.set b w) (ds.set b z) := (rq.tk (k3.tk b2)).set ((rv.1.tk (k2.tk b1)).tk (k3.tk b2))
    have hlen := rq.length
    obtain ⟨S4, t4⟩ := S3.mutA (r' := .ll (dss.set a (ds.set b z))) (o' := .lst (vs.set b w)) (v := .ref p) e hq3 nq (fun _ h => by cases h) (fun _ _ h => by cases h) ev fun A ⟨p', qs', ep, np', hp', hl', nd', hA'⟩ => by
      cases ep
      have eqs : qs' = qs := by
        have := k3 _ _ hp2 np
        rw [hp'] at this
        exact ref_inj (HO.lst.inj (Option.some.inj this))
      subst eqs
      have nn := List.nodup_cons.mp nd'
      have mq := List.mem_of_getElem? eq_
      have tku : TK H3 (upd H3 q (.lst (vs.set b w))) := fun c zs h => by
        rw [upd_ne (fun e => by rw [e, hq3] at h; cases h)]; exact h
      refine ⟨by rw [hA']; exact List.mem_cons_of_mem _ mq, p, qs', rfl, np', ?_, lls_set tku nq rz hl' nn.2 eq_, nd', hA'⟩
      rw [upd_ne fun h => nn.1 (by rw [h]; exact mq)]
      exact hp'
    refine ⟨q, vs, (b : Int), b, rfl, r3.1.inv_int, hq3, ?_, n _ β1 σ _ hn (fun c xs q => t4 c xs (tk0 c xs q)) S4⟩
    unfold ixN
    simp
    omega
/-- whatever stands in a slot of which nothing is told -/
theorem rs_junk (S : RS K B bx ρ β σ H) (i : Nat) (x : Option V) : RS K B bx (ρ.set i none) β (σ.set i x) H := by
  obtain ⟨kp, bb, bi, len, fa, h1, h2, h3⟩ := S
  refine ⟨kp, bb, bi, by rw [List.length_set, List.length_set]; exact len, fa, fun j r e => ?_, h2, h3⟩
  by_cases hj : j = i
  · subst hj
    have hl : j < ρ.length := by
      have := (List.getElem?_eq_some_iff.mp e).1
      rw [List.length_set] at this; exact this
    rw [List.getElem?_set_self hl] at e
    cases e
  · rw [List.getElem?_set_ne (Ne.symm hj)] at e
    obtain ⟨w, e1, e2⟩ := h1 j r e
    exact ⟨w, by rw [List.getElem?_set_ne (Ne.symm hj)]; exact e1, e2⟩
/-- one of the lists gets other items -/
theorem rs_setLL {i n : Nat} {p q : Addr} {qs : List Addr} {ds : List D} {ws vs : List V} (S : RS K B bx ρ β σ H) (e : ρ[i]? = some (some (.ll dss))) (ev : σ[i]? = some (some (.ref p))) (np : bx ≠ some p) (hp : H p = some (.lst (qs.map V.ref))) (eq_ : qs[n]? = some q) (nq : bx ≠ some q) (hq : H q = some (.lst vs)) (rz : Reps K H ws ds) :
    RS K B bx (ρ.set i (some (.ll (dss.set n ds)))) β σ (upd H q (.lst ws)) ∧ TK H (upd H q (.lst ws)) :=
  S.mutA (r' := .ll (dss.set n ds)) (o' := .lst ws) (v := .ref p) e hq nq (fun _ h => by cases h) (fun _ _ h => by cases h) ev fun A ⟨p', qs', ep, np', hp', hl', nd', hA'⟩ => by
    cases ep
    have eqs : qs' = qs := by
      rw [hp'] at hp
      exact ref_inj (HO.lst.inj (Option.some.inj hp))
    subst eqs
    have nn := List.nodup_cons.mp nd'
    have mq := List.mem_of_getElem? eq_
    have tku : TK H (upd H q (.lst ws)) := fun c zs h => by
      rw [upd_ne (fun e => by rw [e, hq] at h; cases h)]; exact h
    refine ⟨by rw [hA']; exact List.mem_cons_of_mem _ mq, p, qs', rfl, np', ?_, lls_set tku nq rz hl' nn.2 eq_, nd', hA'⟩
    rw [upd_ne fun h => nn.1 (by rw [h]; exact mq)]
    exact hp'
/-- an own list goes into the list of lists; its slot tells nothing any more -/
theorem go_appendLL {N : Env → Bx → Prop} {R : Res → Bx → Prop} {i j : Nat} {ds : List D} (e : ρ[i]? = some (some (.ll dss))) (ej : ρ[j]? = some (some (.l ds))) (hij : j ≠ i) (hl : dss.length < 100000) (hn : N ((ρ.set j none).set i (some (.ll (dss ++ [ds])))) β) : GoR K B bx (tDrop (tBM K "list" rAppend (tVar i) (tCons (tVar j) tNil))) ρ β N R := fun σ H D S n rt => by
  obtain ⟨kp, bb, bi, len, fa, h1, h2, h3⟩ := id S
  obtain ⟨v, ev, p, qs, rfl, np, hp, hll, nd, hA⟩ := h1 i _ e
  obtain ⟨w, ew, q, vs, rfl, nq, hq, rq, hB⟩ := h1 j _ ej
  have pi : p ∈ fa i := by rw [hA]; exact List.mem_cons_self
  have qj : q ∈ fa j := by rw [hB]; exact List.mem_cons_self
  have qni : q ∉ fa i := fun h => hij (h3 j i q qj h)
  have npq : p ≠ q := fun h => qni (h ▸ pi)
  have qnq : q ∉ qs := fun h => qni (by rw [hA]; exact List.mem_cons_of_mem _ h)
  have pn : p ∉ qs := (List.nodup_cons.mp nd).1
  refine ⟨_, ev, .inl ⟨rfl, _, .inl (.inl hp)⟩, .ref q, ew, p, _, .ref q, rfl, rfl, hp, ?_, ?_⟩
  · rw [List.length_map, lls_len hll]
    exact Nat.lt_trans hl (by decide)
  have tku : TK H (upd H p (.lst (qs.map V.ref ++ [.ref q]))) := fun c zs h => by
    rw [upd_ne (fun e => by rw [e, hp] at h; cases h)]; exact h
  have key : ∀ k x, x ∈ (if k = i then p :: (qs ++ [q]) else if k = j then [] else fa k) → (k = i ∧ (x ∈ fa i ∨ x = q)) ∨ (k ≠ i ∧ k ≠ j ∧ x ∈ fa k) := fun k x hx => by
    by_cases hk : k = i
    · rw [if_pos hk] at hx
      refine .inl ⟨hk, ?_⟩
      rw [hA]
      rcases List.mem_cons.1 hx with h | h
      · exact .inl (by rw [h]; exact List.mem_cons_self)
      · rcases List.mem_append.1 h with h | h
        · exact .inl (List.mem_cons_of_mem _ h)
        · exact .inr (List.mem_singleton.1 h)
    · rw [if_neg hk] at hx
      by_cases hkj : k = j
      · rw [if_pos hkj] at hx; cases hx
      · rw [if_neg hkj] at hx; exact .inr ⟨hk, hkj, hx⟩
  refine n _ β σ _ hn tku ⟨fun a o h nb => ?_, bb, fun b h => ?_, by rw [List.length_set, List.length_set]; exact len, fun k => if k = i then p :: (qs ++ [q]) else if k = j then [] else fa k, fun k r ek => ?_, fun k x hx => ?_, fun k l x hk hl2 => ?_⟩
  · rw [upd_ne (ne_of_none h (h2 i p pi))]; exact kp a o h nb
  · rw [upd_ne (fun e => np (by rw [← e]; exact h))]; exact bi b h
  · by_cases hk : k = i
    · subst hk
      have hlt : k < ρ.length := (List.getElem?_eq_some_iff.mp e).1
      rw [List.getElem?_set_self (by rw [List.length_set]; exact hlt)] at ek
      cases ek
      refine ⟨_, ev, p, qs ++ [q], rfl, np, by rw [List.map_append]; exact upd_same, lls_snoc (lls_upd tku hll pn) nq (by rw [upd_ne npq.symm]; exact hq) (rq.tk tku), ?_, if_pos rfl⟩
      rw [← List.cons_append, List.nodup_append]
      refine ⟨nd, by simp, fun a ha b hb => ?_⟩
      rw [List.mem_singleton] at hb
      subst hb
      rintro rfl
      rcases List.mem_cons.mp ha with h | h
      · exact npq h.symm
      · exact qnq h
    · rw [List.getElem?_set_ne (Ne.symm hk)] at ek
      by_cases hkj : k = j
      · subst hkj
        have hlt : k < ρ.length := (List.getElem?_eq_some_iff.mp ej).1
        rw [List.getElem?_set_self hlt] at ek
        cases ek
      · rw [List.getElem?_set_ne (Ne.symm hkj)] at ek
        obtain ⟨w, e1, e2⟩ := h1 k r ek
        refine ⟨w, e1, ?_⟩
        simp only [if_neg hk, if_neg hkj]
        exact rv_wr e2 (fun h => hk (h3 k i p h pi)) np (fun xs h => by rw [hp] at h; cases h) fun o => ⟨(fun h => by rw [hp] at h; cases h), (fun xs h => by rw [hp] at h; cases h)⟩
  · rcases key k x hx with ⟨_, h | h⟩ | ⟨_, _, h⟩
    · exact h2 i x h
    · rw [h]; exact h2 j q qj
    · exact h2 k x h
  · rcases key k x hk with ⟨a1, a2⟩ | ⟨a1, a2, a3⟩ <;> rcases key l x hl2 with ⟨b1, b2⟩ | ⟨b1, b2, b3⟩
    · rw [a1, b1]
    · rcases a2 with h | h
      · exact absurd (h3 l i x b3 h) b1
      · exact absurd (h3 l j x b3 (by rw [h]; exact qj)) b2
    · rcases b2 with h | h
      · exact absurd (h3 k i x a3 h) a1
      · exact absurd (h3 k j x a3 (by rw [h]; exact qj)) a2
    · exact h3 k l x a3 b3
/-- a new list without items, as a list of lists -/
theorem ev_ll0 : EvR K B bx (tLst tNil) ρ β true (.ll []) β := fun σ H S q g => ⟨Nat.zero_le _, fun p hp => g _ _ [p] (Kp.new hp) (S.bi.new hp) ⟨p, [], rfl, S.bi.ne hp, upd_same, .nil, by simp, rfl⟩ fun _ x hx => by
  rw [List.mem_singleton] at hx; rw [hx]; exact hp⟩
end
end K20
set_option maxHeartbeats 4000000
namespace K20
open PySem PySem.Spec PyProof.Rows L2
/-- a reading that changes nothing -/
def Ra (te : TE) (σ : L2.St) (H : Hp) (v : V) : Prop := ∀ Q : VK, Q v H → te σ H Q
section
variable {K : PySem.W.Frag} {σ : L2.St} {H : Hp} {v : V} {ta tb : TE} {p : Addr} {us : List V} {i j : Int}
theorem ra_var {n : Nat} (e : σ[n]? = some (some v)) : Ra (tVar n) σ H v := fun Q q => ⟨v, e, q⟩
theorem ra_c : Ra (tC v) σ H v := fun Q q => q
theorem ra_ixL (ha : Ra ta σ H (.ref p)) (hp : H p = some (.lst us)) (hb : Ra tb σ H (.int i)) (h : L2.atI us i = some v) : Ra (tOp (rSeq K) ta tb) σ H v := fun Q q => ha _ (hb _ (.inl ⟨p, us, i, v, rfl, rfl, .inl (.inl hp), h, q⟩))
theorem ra_ixT (ha : Ra ta σ H (.ref p)) (hp : SqT K H p us) (hb : Ra tb σ H (.int i)) (h : L2.atI us i = some v) : Ra (tOp (rSeq K) ta tb) σ H v := fun Q q => ha _ (hb _ (.inr ⟨p, us, i, v, rfl, rfl, hp, h, q⟩))
theorem ra_add (ha : Ra ta σ H (.int i)) (hb : Ra tb σ H (.int j)) : Ra (tOp rAddI ta tb) σ H (.int (i + j)) := fun Q q => ha _ (hb _ ⟨i, j, rfl, rfl, q⟩)
theorem ra_sub (ha : Ra ta σ H (.int i)) (hb : Ra tb σ H (.int j)) : Ra (tOp rSubI ta tb) σ H (.int (i - j)) := fun Q q => ha _ (hb _ ⟨i, j, rfl, rfl, q⟩)
theorem ra_min (ha : Ra ta σ H (.int i)) (hb : Ra tb σ H (.int j)) : Ra (tCB rMin2 (tCons ta (tCons tb tNil))) σ H (.int (if j < i then j else i)) := fun Q q => ha _ (hb _ ⟨i, j, rfl, q⟩)
/-- an assignment to a name, then on -/
theorem ra_asg {n : Nat} {us : TS} {D : Ends} (h : Ra ta σ H v) (q : us D (σ.set n (some v)) H) : tSeq (tAsg ta (gName n)) us D σ H := h _ q
/-- a list's place -/
theorem ra_put {us : List V} {n : Nat} {te : TE} {D : Ends} (h : Ra te σ H v) (ha : Ra ta σ H (.ref p)) (hb : Ra tb σ H (.int (n : Int))) (hp : H p = some (.lst us)) (hn : n < us.length) (q : D.nx σ (upd H p (.lst (us.set n v)))) : tAsg te (gSub ta tb rSetL) D σ H :=
  h _ (ha _ (hb _ ⟨p, us, n, n, rfl, rfl, hp, by unfold ixN; simp; omega, q⟩))
theorem ra_put1 {us : List V} {n : Nat} {te : TE} {D : Ends} {ts : TS} (h : Ra te σ H v) (ha : Ra ta σ H (.ref p)) (hb : Ra tb σ H (.int (n : Int))) (hp : H p = some (.lst us)) (hn : n < us.length) (q : ts D σ (upd H p (.lst (us.set n v)))) : tSeq (tAsg te (gSub ta tb rSetL)) ts D σ H :=
  ra_put h ha hb hp hn q
end
def movesW (many given v : Int) : Int := if v < many - given then v else many - given
/-- order = orders[n]; much = min(..); order[2] = ..; stocks[l][g] = .. -/
theorem go_hand4 {K : PySem.W.Frag} {B : Hp} {bx : Option Addr} {ρ : Env} {β : Bx} {N : Env → Bx → Prop} {R : Res → Bx → Prop} {oss sss : List (List D)} {n l g : Nat} {many given hour v : Int} {ss : List D} {x : D} (hlen : 18 < ρ.length)
    (e6 : ρ[6]? = some (some (.ll oss))) (e7 : ρ[7]? = some (some (.ll sss))) (e17 : ρ[17]? = some (some (.d (.tuple [x, .int n])))) (e15 : ρ[15]? = some (some (.d (.int l))))
    (ho : oss[n]? = some [.int g, .int many, .int given, .int hour]) (hs : sss[l]? = some ss) (hv : ss[g]? = some (.int v))
    (hn : N ((((ρ.set 6 (some (.ll (oss.set n [.int g, .int many, .int (given + movesW many given v), .int hour])))).set 7 (some (.ll (sss.set l (ss.set g (.int (v - movesW many given v))))))).set 10 none).set 18 (some (.d (.int (movesW many given v))))) β) :
    GoR K B bx (tSeq (tAsg (tOp (rSeq K) (tVar 6) (tOp (rSeq K) (tVar 17) (tC (.int 1)))) (gName 10))
      (tSeq (tAsg (tCB rMin2 (tCons (tOp rSubI (tOp (rSeq K) (tVar 10) (tC (.int 1))) (tOp (rSeq K) (tVar 10) (tC (.int 2)))) (tCons (tOp (rSeq K) (tOp (rSeq K) (tVar 7) (tVar 15)) (tOp (rSeq K) (tVar 10) (tC (.int 0)))) tNil))) (gName 18))
      (tSeq (tAsg (tOp rAddI (tOp (rSeq K) (tVar 10) (tC (.int 2))) (tVar 18)) (gSub (tVar 10) (tC (.int 2)) rSetL))
      (tAsg (tOp rSubI (tOp (rSeq K) (tOp (rSeq K) (tVar 7) (tVar 15)) (tOp (rSeq K) (tVar 10) (tC (.int 0)))) (tVar 18)) (gSub (tOp (rSeq K) (tVar 7) (tVar 15)) (tOp (rSeq K) (tVar 10) (tC (.int 0))) rSetL))))) ρ β N R := fun σ H D S nx rt => by
  have len := S.len
  obtain ⟨fa, g1, _, g3⟩ := S.sl
  obtain ⟨_, ev6, p, qs, rfl, np, hp, hll, nd, hA⟩ := g1 6 _ e6
  obtain ⟨_, ev7, p', qs', rfl, np', hp', hll', nd', hA'⟩ := g1 7 _ e7
  obtain ⟨_, ev17, r17, _⟩ := g1 17 _ e17
  obtain ⟨_, ev15, r15, _⟩ := g1 15 _ e15
  obtain ⟨a, xs, rfl, hx, rx⟩ := r17.inv_tup
  have e := r15.inv_int
  subst e
  obtain ⟨q, os, eq6, nq, hq, rq⟩ := lls_get hll ho
  obtain ⟨q', ws, eq7, nq', hq', rq'⟩ := lls_get hll' hs
  have e := rq.ints (ns := [(g : Int), many, given, hour])
  subst e
  obtain ⟨w, ew, rw_⟩ := rq'.get hv
  have e := rw_.inv_int
  subst e
  obtain ⟨x1, ex1, rx1⟩ := rx.get (i := 1) rfl
  have e := rx1.inv_int
  subst e
  have hg : g < ws.length := (List.getElem?_eq_some_iff.mp ew).1
  have mq : q ∈ fa 6 := by rw [hA]; exact List.mem_cons_of_mem _ (List.mem_of_getElem? eq6)
  have mq' : q' ∈ fa 7 := by rw [hA']; exact List.mem_cons_of_mem _ (List.mem_of_getElem? eq7)
  have mp' : p' ∈ fa 7 := by rw [hA']; exact List.mem_cons_self
  have d1 : q' ≠ q := fun h => by have := g3 7 6 q' mq' (by rw [h]; exact mq); cases this
  have d2 : p' ≠ q := fun h => by have := g3 7 6 p' mp' (by rw [h]; exact mq); cases this
  have e10 : ∀ (y : V), (((σ.set 10 (some y))).set 18 (some (V.int (movesW many given v))))[10]? = some (some y) := fun y => by
    rw [List.getElem?_set_ne (by decide), List.getElem?_set_self (by omega)]
  have ek : ∀ (y : V) (m : Nat), m ≠ 10 → m ≠ 18 → (((σ.set 10 (some y))).set 18 (some (V.int (movesW many given v))))[m]? = σ[m]? := fun y m h1 h2 => by
    rw [List.getElem?_set_ne (Ne.symm h2), List.getElem?_set_ne (Ne.symm h1)]
  have o0 : L2.atI [V.int (g : Int), .int many, .int given, .int hour] 0 = some (.int (g : Int)) := at0
  have o1 : L2.atI [V.int (g : Int), .int many, .int given, .int hour] 1 = some (.int many) := atN (n := 1) rfl rfl
  have o2 : L2.atI [V.int (g : Int), .int many, .int given, .int hour] 2 = some (.int given) := atN (n := 2) rfl rfl
  have u6 : L2.atI (qs.map V.ref) (n : Int) = some (.ref q) := atN (n := n) rfl (by rw [List.getElem?_map, eq6]; rfl)
  have u7 : L2.atI (qs'.map V.ref) (l : Int) = some (.ref q') := atN (n := l) rfl (by rw [List.getElem?_map, eq7]; rfl)
  have ug : L2.atI ws (g : Int) = some (.int v) := atN (n := g) rfl ew
  -- order = orders[n]
  refine ra_asg (ra_ixL (ra_var ev6) hp (ra_ixT (ra_var ev17) (Rep.sqt hx) ra_c (atN (n := 1) rfl ex1)) u6) ?_
  -- much = ..
  have t10 : (σ.set 10 (some (V.ref q)))[10]? = some (some (V.ref q)) := List.getElem?_set_self (by omega)
  have t7 : (σ.set 10 (some (V.ref q)))[7]? = some (some (V.ref p')) := by rw [List.getElem?_set_ne (by decide)]; exact ev7
  have t15 : (σ.set 10 (some (V.ref q)))[15]? = some (some (V.int (l : Int))) := by rw [List.getElem?_set_ne (by decide)]; exact ev15
  refine ra_asg (v := .int (movesW many given v)) (ra_min (ra_sub (ra_ixL (ra_var t10) hq ra_c o1) (ra_ixL (ra_var t10) hq ra_c o2)) (ra_ixL (ra_ixL (ra_var t7) hp' (ra_var t15) u7) hq' (ra_ixL (ra_var t10) hq ra_c o0) ug)) ?_
  have s10 := e10 (.ref q)
  have s18 : (((σ.set 10 (some (V.ref q)))).set 18 (some (V.int (movesW many given v))))[18]? = some (some (V.int (movesW many given v))) := List.getElem?_set_self (by rw [List.length_set]; omega)
  have s7 := (ek (.ref q) 7 (by decide) (by decide)).trans ev7
  have s15 := (ek (.ref q) 15 (by decide) (by decide)).trans ev15
  refine ra_put1 (n := 2) (ra_add (ra_ixL (ra_var s10) hq ra_c o2) (ra_var s18)) (ra_var s10) ra_c hq (by simp) ?_
  have h1q : upd H q (.lst ([V.int (g : Int), .int many, .int given, .int hour].set 2 (.int (given + movesW many given v)))) q = some (.lst [V.int (g : Int), .int many, .int (given + movesW many given v), .int hour]) := upd_same
  have h1p' : upd H q (.lst ([V.int (g : Int), .int many, .int given, .int hour].set 2 (.int (given + movesW many given v)))) p' = some (.lst (qs'.map V.ref)) := by rw [upd_ne d2]; exact hp'
  have h1q' : upd H q (.lst ([V.int (g : Int), .int many, .int given, .int hour].set 2 (.int (given + movesW many given v)))) q' = some (.lst ws) := by rw [upd_ne d1]; exact hq'
  have z0 : L2.atI [V.int (g : Int), .int many, .int (given + movesW many given v), .int hour] 0 = some (.int (g : Int)) := at0
  refine ra_put (n := g) (ra_sub (ra_ixL (ra_ixL (ra_var s7) h1p' (ra_var s15) u7) h1q' (ra_ixL (ra_var s10) h1q ra_c z0) ug) (ra_var s18)) (ra_ixL (ra_var s7) h1p' (ra_var s15) u7) (ra_ixL (ra_var s10) h1q ra_c z0) h1q' hg ?_
  have rz : Reps K H [V.int (g : Int), .int many, .int (given + movesW many given v), .int hour] [.int (g : Int), .int many, .int (given + movesW many given v), .int hour] := Reps.mkInts [(g : Int), many, given + movesW many given v, hour]
  obtain ⟨S1, k1⟩ := rs_setLL S e6 ev6 np hp eq6 nq hq rz
  obtain ⟨S2, k2⟩ := rs_setLL S1 (by rw [List.getElem?_set_ne (by decide)]; exact e7) ev7 np' h1p' eq7 nq' h1q' ((rq'.tk k1).set (i := g) (.int (v - movesW many given v)))
  have S3 := rs_junk S2 10 (some (.ref q))
  have S4 := S3.put (r := .d (.int (movesW many given v))) (A := []) 18 Kp.refl S3.bi ⟨.int _, rfl⟩ (fun _ h => by cases h)
  exact nx _ β _ _ hn (fun c xs h => k2 c xs (k1 c xs h)) S4
end K20
set_option maxHeartbeats 4000000
namespace K20
open PySem PySem.Spec PyProof.Rows L2
inductive T__law_after : List Res → Bx → Post → Prop
  | mk {y : Yard} {s : State} {ds : List Deed} {β : Bx} (hy : y.Ok) (hs : LS y s) (hl : ds.length = s.cars.length) (hk : LAll y s ds) (hd : ∀ d ∈ ds, d.num) :
    T__law_after [.d (encYard y), .d (encState s), .d (encDeeds ds)] β fun r β' => (∃ s', r = .d (encState s') ∧ LS y s' ∧ s'.cars.length = s.cars.length) ∧ β' = β
def mkSh (b : Shelf) (st : List Int) : Shelf := ⟨b.home, st⟩
theorem shv_len {sh : List Shelf} {ss : List (List Int)} (hl : ss.length = sh.length) : (List.zipWith mkSh sh ss).length = sh.length := by
  rw [List.length_zipWith]; omega
theorem shv_home : ∀ {sh : List Shelf} {ss : List (List Int)}, ss.length = sh.length → (List.zipWith mkSh sh ss).map (·.home) = sh.map (·.home)
  | [], _, _ => by rw [List.zipWith_nil_left]
  | b :: sh, [], h => nomatch h
  | b :: sh, x :: ss, h => by
    rw [List.zipWith_cons_cons, List.map_cons, List.map_cons, shv_home (by simpa using h)]; rfl
theorem shv_mem : ∀ {sh : List Shelf} {ss : List (List Int)} {b : Shelf}, b ∈ List.zipWith mkSh sh ss → b.stock ∈ ss
  | [], _, _, h => by rw [List.zipWith_nil_left] at h; cases h
  | _ :: _, [], _, h => by rw [List.zipWith_nil_right] at h; cases h
  | a :: sh, x :: ss, b, h => by
    rw [List.zipWith_cons_cons] at h
    rcases List.mem_cons.1 h with e | h
    · rw [e]; exact List.mem_cons_self
    · exact List.mem_cons_of_mem _ (shv_mem h)
theorem shv_goods {sh : List Shelf} {ss : List (List Int)} (hl : ss.length = sh.length) (hx : ∀ x ∈ ss, x.length = goodsL sh) : goodsL (List.zipWith mkSh sh ss) = goodsL sh := by
  cases sh with
  | nil => rfl
  | cons b sh =>
    cases ss with
    | nil => cases hl
    | cons x ss =>
      rw [List.zipWith_cons_cons]
      exact hx x List.mem_cons_self
def intsL (l : List Int) : List D := l.map PyData.int
theorem shv_enc : ∀ {sh : List Shelf} {ss : List (List Int)}, List.zipWith (fun (b : Shelf) (ds : List D) => PyData.tuple [.int b.home, .tuple ds]) sh (ss.map intsL) = (List.zipWith mkSh sh ss).map encShelf
  | [], _ => by rw [List.zipWith_nil_left, List.zipWith_nil_left]; rfl
  | _ :: _, [] => by rw [List.map_nil, List.zipWith_nil_right, List.zipWith_nil_right]; rfl
  | b :: sh, x :: ss => by
    rw [List.map_cons, List.zipWith_cons_cons, List.zipWith_cons_cons, List.map_cons, shv_enc]; rfl
section
variable {K : PySem.W.Frag} {B : Hp} {bx : Option Addr} {ρ : Env} {β : Bx} {N : Env → Bx → Prop} {R : Res → Bx → Prop} {ts us : TS} {d : Deed} {w : Str}
theorem go_skip (hd : ρ[17]? = some (some (.d (encDeed d)))) (hw : decide (deedName d = w) = false) (h : GoR K B bx us ρ β N R) : GoR K B bx (tSeq (tIfS (tB (tOp rEq (tOp (rSeq K) (tVar 17) (tC (.int 0))) (tC (.str w)))) ts tNext) us) ρ β N R :=
  go_seqW (go_if (c := false) (ev_tcast (evt_of (ev_deedIs (evr_vd hd) (evr_c fun _ => .int _) (evr_c fun _ => .str _))) hw) (fun h => by cases h) (fun _ => go_next h))
theorem go_hit (hd : ρ[17]? = some (some (.d (encDeed d)))) (hw : decide (deedName d = w) = true) (h : GoR K B bx ts ρ β (fun ρ' β' => GoR K B bx us ρ' β' N R) R) : GoR K B bx (tSeq (tIfS (tB (tOp rEq (tOp (rSeq K) (tVar 17) (tC (.int 0))) (tC (.str w)))) ts tNext) us) ρ β N R :=
  go_seqW (go_if (c := true) (ev_tcast (evt_of (ev_deedIs (evr_vd hd) (evr_c fun _ => .int _) (evr_c fun _ => .str _))) hw) (fun _ => h) (fun h => by cases h))
end
/-- what the turns keep -/
def AInv (y : Yard) (s : State) (ds : List Deed) (β : Bx) (i : Nat) (ρ' : Env) (β' : Bx) : Prop := (∃ (os : List Order) (ss : List (List Int)) (cs : List Car) (r6 r7 o10 o13 o14 o15 o16 o17 o18 : Option Res),
  ρ' = [some (.d (encYard y)), some (.d (encState s)), some (.d (encDeeds ds)), some (.d (.int s.beat)), some (.d (.tuple (s.cars.map encCar))), some (.d (.tuple (s.shelves.map encShelf))), r6, r7, none, none, o10, some (.m (lawKV s)), some (.l (cs.map encCar)), o13, o14, o15, o16, o17, o18, none, none] ∧
  r6 = some (.ll (os.map encOrderL)) ∧ r7 = some (.ll (ss.map intsL)) ∧ os.length = s.orders.length ∧ (∀ o ∈ os, 0 ≤ o.good ∧ o.good < goodsL s.shelves) ∧ ss.length = s.shelves.length ∧ (∀ x ∈ ss, x.length = goodsL s.shelves) ∧
  cs.length = i ∧ ∀ c ∈ cs, y.cell c.cell ∧ ∀ l, c.load = some l → 0 ≤ l ∧ l < s.shelves.length) ∧ β' = β
theorem sc__law_after : FnScope ["_law_yard_here", "_law_state_here", "_law_deeds_here", "_law_beat", "_law_carriers_here", "_law_shelves_here", "_law_orders", "_law_stocks", "_law_home", "_law_stock", "_law_order", "_law_homes_here", "_law_found", "_law_cell", "_law_charge", "_law_load", "_law_broken", "_law_deed_here", "_law_much", "_law_told", "_law_old"] ["_law_yard_here", "_law_state_here", "_law_deeds_here"] (defScope s__law_after) := ⟨rfl, rfl, rfl, by decide +kernel, rfl, by decide +kernel, by decide +kernel⟩
theorem fn__law_after {g : Gb} (T : Txt g) : FnP g "_law_after" ["_law_yard_here", "_law_state_here", "_law_deeds_here"] 2 T__law_after := by
  have nd := sc__law_after.nd
  have c__law_homes := fn__law_homes T
  refine T.fnP 75 rfl sc__law_after (fun _ _ _ _ _ _ us hl => match us, hl with | [_, _, _], _ => rfl) (by intro rs β P h; cases h <;> rfl) ⟨_, (pssc_cons (psc_asg (pec_var 1) (pgc_tup (n := 4) (pgsc_cons (pgc_name 3 nd) (pgsc_cons (pgc_name 4 nd) (pgsc_cons (pgc_name 5 nd) (pgsc_cons (pgc_name 6 nd) pgsc_nil))))))
    (pssc_cons (psc_par (i := 7) (j := 6) nd (pac_cons (pec_lc [("_law_home", 8), ("_law_stock", 9)] nd (pic_tup (pec_var 5)) (pgc_tup (n := 2) (pgsc_cons (pgc_name 8 nd) (pgsc_cons (pgc_name 9 nd) pgsc_nil))) ptsc_nil (pec_list T.b_list (pec_var 9))) (pac_cons (pec_lc [("_law_order", 10)] nd (pic_tup (pec_var 6)) (pgc_name 10 nd) ptsc_nil (pec_list T.b_list (pec_var 10))) pac_nil)))
    (pssc_cons (psc_par (i := 11) (j := 12) nd (pac_cons (pec_fn c__law_homes (pac_cons (pec_var 1) pac_nil)) (pac_cons (pec_lst pac_nil) pac_nil)))
    (pssc_cons (psc_for (pic_zip T.b_zip (pec_var 4) (pec_var 2)) (pgc_tup (n := 2) (pgsc_cons (pgc_tup (n := 4) (pgsc_cons (pgc_name 13 nd) (pgsc_cons (pgc_name 14 nd) (pgsc_cons (pgc_name 15 nd) (pgsc_cons (pgc_name 16 nd) pgsc_nil))))) (pgsc_cons (pgc_name 17 nd) pgsc_nil))) (pssc_cons (psc_if (ptc_eq (pec_ix (pec_var 17) pec_int) pec_str) (pssc_one (psc_asg (pec_min T.b_min (pec_ix (pec_ix (pec_var 0) pec_int) pec_int) (pec_add (pec_var 14) (pec_ix (pec_ix (pec_var 0) pec_int) pec_int))) (pgc_name 14 nd))) pssc_nil)
    (pssc_cons (psc_if (ptc_eq (pec_ix (pec_var 17) pec_int) pec_str) (pssc_one (psc_par (i := 13) (j := 14) nd (pac_cons (pec_ix (pec_var 17) pec_int) (pac_cons (pec_sub (pec_var 14) (pec_ix (pec_ix (pec_var 0) pec_int) (pec_int1 T.b_int (pec_notN (pec_var 15))))) pac_nil)))) pssc_nil)
    (pssc_cons (psc_if (ptc_eq (pec_ix (pec_var 17) pec_int) pec_str) (pssc_cons (psc_asg (pec_ix (pec_var 6) (pec_ix (pec_var 17) pec_int)) (pgc_name 10 nd))
    (pssc_cons (psc_asg (pec_min T.b_min (pec_sub (pec_ix (pec_var 10) pec_int) (pec_ix (pec_var 10) pec_int)) (pec_ix (pec_ix (pec_var 7) (pec_var 15)) (pec_ix (pec_var 10) pec_int))) (pgc_name 18 nd))
    (pssc_cons (psc_sub (pec_var 10) pec_int (pec_add (pec_ix (pec_var 10) pec_int) (pec_var 18)))
    (pssc_one (psc_sub (pec_ix (pec_var 7) (pec_var 15)) (pec_ix (pec_var 10) pec_int) (pec_sub (pec_ix (pec_ix (pec_var 7) (pec_var 15)) (pec_ix (pec_var 10) pec_int)) (pec_var 18))))))) pssc_nil)
    (pssc_cons (psc_if (ptc_eq (pec_ix (pec_var 17) pec_int) pec_str) (pssc_one (psc_par (i := 15) (j := 14) nd (pac_cons (pec_ixM (pec_var 11) (pec_var 13)) (pac_cons (pec_sub (pec_var 14) (pec_ix (pec_ix (pec_var 0) pec_int) pec_int)) pac_nil)))) pssc_nil)
    (pssc_cons (psc_if (ptc_eq (pec_ix (pec_var 17) pec_int) pec_str) (pssc_one (psc_asg pec_non (pgc_name 15 nd))) pssc_nil)
    (pssc_one (psc_expr (pec_append (pec_var 12) (pec_tup (pac_cons (pec_var 13) (pac_cons (pec_var 14) (pac_cons (pec_var 15) (pac_cons (pec_var 16) pac_nil))))))))))))))
    (pssc_cons (psc_asg (pec_tuple T.b_tuple (pec_lc [("_law_stock", 9), ("_law_home", 8), ("_law_old", 20)] nd (pic_zipM T.b_zip (pec_var 5) (pec_var 7)) (pgc_tup (n := 2) (pgsc_cons (pgc_tup (n := 2) (pgsc_cons (pgc_name 8 nd) (pgsc_cons (pgc_name 20 nd) pgsc_nil))) (pgsc_cons (pgc_name 9 nd) pgsc_nil))) ptsc_nil (pec_tup (pac_cons (pec_var 8) (pac_cons (pec_tuple T.b_tuple (pec_var 9)) pac_nil))))) (pgc_name 19 nd))
    (pssc_one (psc_ret (pec_tup (pac_cons (pec_add (pec_var 3) pec_int) (pac_cons (pec_tuple T.b_tuple (pec_var 12)) (pac_cons (pec_var 19) (pac_cons (pec_tuple T.b_tuple (pec_lc [("_law_order", 10)] nd (pic_list (pec_var 6)) (pgc_name 10 nd) ptsc_nil (pec_tuple T.b_tuple (pec_var 10)))) pac_nil)))))))))))), ?_⟩
  intro rs β P h B bx
  clear c__law_homes
  rcases h with @⟨y, s, ds, β, hy, hs, hl, hk, hd⟩
  change GoR g.K B bx _ [some _, some _, some _, none, none, none, none, none, none, none, none, none, none, none, none, none, none, none, none, none, none] _ _ _
  have h3 := hs.c3
  have h4 := hs.s4
  have o4 := hs.o4
  refine go_seq1 (go_asgT (d := encState s) (evr_vd rfl) (tg_tup (tgs_cons (tg_name _) (tgs_cons (tg_name _) (tgs_cons (tg_name _) (tgs_cons (tg_name _) tgs_nil))))) rfl ⟨rfl, rfl⟩) ?_
  refine go_seq1 (go_par (r1 := .ll (s.shelves.map fun b => intsL b.stock)) (r2 := .ll (s.orders.map encOrderL)) (ev_lcNew (xs := s.shelves) (enc := encShelf) (f := fun b => intsL b.stock) (wk_tup (evr_vd rfl)) (tg_tup (tgs_cons (tg_name _) (tgs_cons (tg_name _) tgs_nil))) (by decide) (by omega) fun b hb => ⟨_, rfl, ev_listT (x := .d (encInts b.stock)) (evr_vd rfl)⟩)
    (ev_lcNew (xs := s.orders) (enc := encOrder) (f := encOrderL) (wk_tup (evr_vd rfl)) (tg_name _) (by decide) (by omega) fun o ho => ⟨_, rfl, ev_listT (x := .d (encOrder o)) (evr_vd rfl)⟩) ⟨rfl, rfl⟩) ?_
  refine go_seq1 (go_par (r1 := .m (lawKV s)) (r2 := .l []) (ev_callD (dv_cons (evr_vd rfl) dv_nil) (.mk (by omega) (by omega) hs.hn)) (ev_lst dv_nil) ⟨rfl, rfl⟩) ?_
  refine go_seqW (go_for (AInv y s ds β) (wkr_cast (wk_zipT (evr_vd rfl) (evr_vd rfl)) (zip_enc encCar encDeed s.cars ds)) (tg_tup (tgs_cons (tg_tup (tgs_cons (tg_name _) (tgs_cons (tg_name _) (tgs_cons (tg_name _) (tgs_cons (tg_name _) tgs_nil))))) (tgs_cons (tg_name _) tgs_nil)))
    ⟨⟨s.orders, s.shelves.map (·.stock), [], _, _, _, _, _, _, _, _, _, rfl, rfl, by rw [List.map_map]; rfl, rfl, hs.os, by rw [List.length_map], fun x hx => by obtain ⟨b, hb, rfl⟩ := List.mem_map.mp hx; exact hs.sh b hb, rfl, fun c h => by cases h⟩, rfl⟩ (fun i d hdi ρi βi hI => ?_) ?_)
  · obtain ⟨⟨os, ss, cs, r6, r7, o10, o13, o14, o15, o16, o17, o18, rfl, rfl, rfl, ol, oo, sl, sx, cl, cc⟩, rfl⟩ := hI
    rw [List.getElem?_map] at hdi
    cases hz : (s.cars.zip ds)[i]? with
    | none => rw [hz] at hdi; cases hdi
    | some p =>
      rw [hz] at hdi
      cases hdi
      obtain ⟨c, d⟩ := p
      obtain ⟨ec, ed⟩ := List.getElem?_zip_eq_some.mp hz
      replace ec : s.cars[i]? = some c := ec
      replace ed : ds[i]? = some d := ed
      have hi := (List.getElem?_eq_some_iff.mp ec).1
      obtain ⟨pc, pl⟩ := hs.cars c (List.mem_of_getElem? ec)
      have lok := hk i c d ec ed
      have dn := hd d (List.mem_of_getElem? ed)
      refine ⟨_, rfl, ?_⟩
      have fin : ∀ (os : List Order) (ss : List (List Int)) (c' : Car) (r6 r7 o10 o17 o18 : Option Res), r6 = some (.ll (os.map encOrderL)) → r7 = some (.ll (ss.map intsL)) → os.length = s.orders.length → (∀ o ∈ os, 0 ≤ o.good ∧ o.good < goodsL s.shelves) → ss.length = s.shelves.length → (∀ x ∈ ss, x.length = goodsL s.shelves) → y.cell c'.cell → (∀ l, c'.load = some l → 0 ≤ l ∧ l < s.shelves.length) →
          GoR g.K B bx (tDrop (tBM g.K "list" rAppend (tVar 12) (tCons (tTup (tCons (tVar 13) (tCons (tVar 14) (tCons (tVar 15) (tCons (tVar 16) tNil))))) tNil))) [some (.d (encYard y)), some (.d (encState s)), some (.d (encDeeds ds)), some (.d (.int s.beat)), some (.d (.tuple (s.cars.map encCar))), some (.d (.tuple (s.shelves.map encShelf))), r6, r7, none, none, o10, some (.m (lawKV s)), some (.l (cs.map encCar)), some (.d (.int c'.cell)), some (.d (.int c'.charge)), some (.d (encO c'.load)), some (.d (.bool c'.broken)), o17, o18, none, none] βi (AInv y s ds βi (i + 1)) (fun r β' => (∃ s', r = .d (encState s') ∧ LS y s' ∧ s'.cars.length = s.cars.length) ∧ β' = βi) := by
        intro os ss c' r6 r7 o10 o17 o18 h6 h7 ol oo sl sx hc hl2
        refine go_append (i := 12) (ds := cs.map encCar) rfl (ev_tup (dv_cons (evr_vd rfl) (dv_cons (evr_vd rfl) (dv_cons (evr_vd rfl) (dv_cons (evr_vd rfl) dv_nil))))) (by rw [List.length_map]; omega) ⟨⟨os, ss, cs ++ [c'], _, _, _, _, _, _, _, _, _, by rw [List.map_append]; rfl, h6, h7, ol, oo, sl, sx, by simp [cl], fun x hx => ?_⟩, rfl⟩
        · rcases List.mem_append.1 hx with q | q
          · exact cc x q
          · rw [List.mem_singleton] at q
            rw [q]; exact ⟨hc, hl2⟩
      cases d with
      | bide =>
        refine go_skip (d := .bide) rfl (dq_fill _) (go_skip (d := .bide) rfl (dq_go _) (go_skip (d := .bide) rfl (dq_hand _) (go_skip (d := .bide) rfl (dq_lift _) (go_skip (d := .bide) rfl (dq_set _) ?_))))
        exact fin os ss c _ _ _ _ _ rfl rfl ol oo sl sx pc pl
      | fill =>
        refine go_hit (d := .fill) rfl (dq_fill _) (go_asg (ev_min (ev_ixT (ev_ixT (evr_vd rfl) (evr_c fun _ => .int _) rfl) (evr_c fun _ => .int _) rfl) (ev_add (evr_vd rfl) (ev_ixT (ev_ixT (evr_vd rfl) (evr_c fun _ => .int _) rfl) (evr_c fun _ => .int _) rfl))) ?_)
        refine go_skip (d := .fill) rfl (dq_go _) (go_skip (d := .fill) rfl (dq_hand _) (go_skip (d := .fill) rfl (dq_lift _) (go_skip (d := .fill) rfl (dq_set _) ?_)))
        exact fin os ss ⟨c.cell, if c.charge + y.gain < y.top then c.charge + y.gain else y.top, c.load, c.broken⟩ _ _ _ _ _ rfl rfl ol oo sl sx pc pl
      | go n =>
        obtain ⟨pr, hpr⟩ : ∃ pr : Int, L2.atI [PyData.int y.bare, .int y.laden, .int y.gain, .int y.top] (if !isNo (encO c.load) then 1 else 0) = some (.int pr) := by
          rw [isNo_encO]
          cases c.load with
          | none => exact ⟨_, at0⟩
          | some l => exact ⟨_, atN (n := 1) rfl rfl⟩
        refine go_skip (d := .go n) rfl (dq_fill _) (go_hit (d := .go n) rfl (dq_go _) (go_par (r1 := .d (.int n)) (ev_ixT (evr_vd rfl) (evr_c fun _ => .int _) rfl) (ev_sub (evr_vd rfl) (ev_ixT (ds := [.int y.bare, .int y.laden, .int y.gain, .int y.top]) (d := .int pr) (ev_ixT (evr_vd rfl) (evr_c fun _ => .int _) rfl) (ev_int1 (ev_notN (evr_vd rfl))) hpr)) ?_))
        refine go_skip (d := .go n) rfl (dq_hand _) (go_skip (d := .go n) rfl (dq_lift _) (go_skip (d := .go n) rfl (dq_set _) ?_))
        exact fin os ss ⟨n, c.charge - pr, c.load, c.broken⟩ _ _ _ _ _ rfl rfl ol oo sl sx lok pl
      | hand n =>
        obtain ⟨n0, n1⟩ := dn
        obtain ⟨ls, hn⟩ := lok
        obtain ⟨l, hld⟩ := Option.isSome_iff_exists.mp ls
        obtain ⟨l0, l1⟩ := pl l hld
        obtain ⟨m, rfl⟩ : ∃ m : Nat, n = m := ⟨n.toNat, by omega⟩
        obtain ⟨k, rfl⟩ : ∃ k : Nat, l = k := ⟨l.toNat, by omega⟩
        replace hn : m < s.orders.length := by simpa using hn
        obtain ⟨o, ho⟩ : ∃ o, os[m]? = some o := ⟨_, List.getElem?_eq_getElem (by omega)⟩
        obtain ⟨x, hx⟩ : ∃ x, ss[k]? = some x := ⟨_, List.getElem?_eq_getElem (by omega)⟩
        obtain ⟨g0, g1⟩ := oo o (List.mem_of_getElem? ho)
        have xl := sx x (List.mem_of_getElem? hx)
        obtain ⟨good, many, given, hour⟩ := o
        obtain ⟨gn, rfl⟩ : ∃ k : Nat, good = k := ⟨good.toNat, by show good = (good.toNat : Int); have : 0 ≤ good := g0; omega⟩
        have gl : gn < x.length := by have : (gn : Int) < goodsL s.shelves := g1; omega
        obtain ⟨v, hv⟩ : ∃ v, x[gn]? = some v := ⟨_, List.getElem?_eq_getElem gl⟩
        refine go_skip (d := .hand m) rfl (dq_fill _) (go_skip (d := .hand m) rfl (dq_go _) (go_hit (d := .hand m) rfl (dq_hand _) (go_hand4 (oss := os.map encOrderL) (sss := ss.map intsL) (n := m) (l := k) (g := gn) (many := many) (given := given) (hour := hour) (v := v) (ss := intsL x) (by show 18 < 21; decide) rfl rfl rfl (by show some (some (Res.d (encO c.load))) = _; rw [hld]; rfl) (by rw [List.getElem?_map, ho]; rfl) (by rw [List.getElem?_map, hx]; rfl) (by unfold intsL; rw [List.getElem?_map, hv]; rfl) ?_)))
        refine go_skip (d := .hand m) rfl (dq_lift _) (go_skip (d := .hand m) rfl (dq_set _) ?_)
        refine fin (os.set m ⟨gn, many, given + movesW many given v, hour⟩) (ss.set k (x.set gn (v - movesW many given v))) c _ _ _ _ _ (by rw [List.map_set]; rfl) ?_ (by rw [List.length_set]; exact ol) (fun o h => ?_) (by rw [List.length_set]; exact sl) (fun z h => ?_) pc pl
        · rw [List.map_set]
          show some (Res.ll _) = some (Res.ll _)
          unfold intsL
          rw [List.map_set]
        · rcases List.mem_or_eq_of_mem_set h with h | h
          · exact oo o h
          · rw [h]; exact ⟨g0, g1⟩
        · rcases List.mem_or_eq_of_mem_set h with h | h
          · exact sx z h
          · rw [h, List.length_set]; exact xl
      | lift =>
        obtain ⟨m, hm⟩ := Option.isSome_iff_exists.mp (show (lkM (lawKV s) c.cell).isSome = true from lok)
        have hm2 := lawKV_some hm
        refine go_skip (d := .lift) rfl (dq_fill _) (go_skip (d := .lift) rfl (dq_go _) (go_skip (d := .lift) rfl (dq_hand _) (go_hit (d := .lift) rfl (dq_lift _) (go_par (r1 := .d (.int m)) (ev_ixM (evr_var rfl) (evr_vd rfl) hm) (ev_sub (evr_vd rfl) (ev_ixT (ev_ixT (evr_vd rfl) (evr_c fun _ => .int _) rfl) (evr_c fun _ => .int _) rfl)) ?_))))
        refine go_skip (d := .lift) rfl (dq_set _) ?_
        exact fin os ss ⟨c.cell, c.charge - y.laden, some m, c.broken⟩ _ _ _ _ _ rfl rfl ol oo sl sx pc fun l h => by cases h; exact hm2
      | set =>
        refine go_skip (d := .set) rfl (dq_fill _) (go_skip (d := .set) rfl (dq_go _) (go_skip (d := .set) rfl (dq_hand _) (go_skip (d := .set) rfl (dq_lift _) (go_hit (d := .set) rfl (dq_set _) (go_asg (evr_c fun _ => .non) ?_)))))
        exact fin os ss ⟨c.cell, c.charge, none, c.broken⟩ _ _ _ _ _ rfl rfl ol oo sl sx pc fun l h => by cases h
  · rintro ρ' β' ⟨⟨os, ss, cs, r6, r7, o10, o13, o14, o15, o16, o17, o18, rfl, rfl, rfl, ol, oo, sl, sx, cl, cc⟩, rfl⟩
    have el : ((s.cars.zip ds).map fun p => prD (encCar p.1) (encDeed p.2)).length = s.cars.length := by rw [List.length_map, List.length_zip]; omega
    rw [el] at cl
    refine go_seq1 (go_asg (ev_tupleL (ev_lcZM (xs := s.shelves) (enc := encShelf) (dss := ss.map intsL) (f := fun b ds => .tuple [.int b.home, .tuple ds]) (evr_vd rfl) rfl (by rw [List.length_map]; omega) (by rw [List.length_map]; omega) (tg_tup (tgs_cons (tg_name _) (tgs_cons (tg_name _) tgs_nil))) (fun x ds hds => ⟨_, rfl, rfl, ev_tup (dv_cons (evr_vd rfl) (dv_cons (ev_tupleL (evr_vl rfl)) dv_nil))⟩) (by decide) (by decide) (by decide))) ⟨rfl, rfl⟩) ?_
    refine go_ret (ev_cast (z' := encState ⟨s.beat + 1, cs, List.zipWith mkSh s.shelves ss, os⟩) (ev_tup (dv_cons (ev_add (evr_vd rfl) (evr_c fun _ => .int _)) (dv_cons (ev_tupleL (evr_vl rfl)) (dv_cons (evr_vd rfl) (dv_cons (ev_tupleL (ev_lcLL (dss := os.map encOrderL) (f := fun ds => .tuple ds) rfl (by rw [List.length_map]; omega) (fun ds hds => ev_tupleL (evr_vl rfl)) (by decide) (by decide))) dv_nil))))) ?_) ⟨⟨_, rfl, ⟨fun c hc => ?_, fun b hb => ?_, fun o ho => ?_, ?_, ?_, ?_, ?_, ?_⟩, cl⟩, rfl⟩
    · rw [shv_enc, List.map_map]; rfl
    · obtain ⟨q1, q2⟩ := cc c hc
      refine ⟨q1, fun l h => ?_⟩
      have := q2 l h
      show 0 ≤ l ∧ l < ((List.zipWith mkSh s.shelves ss).length : Int)
      rw [shv_len sl]; exact this
    · show b.stock.length = goodsL (List.zipWith mkSh s.shelves ss)
      rw [shv_goods sl sx]; exact sx _ (shv_mem hb)
    · show 0 ≤ o.good ∧ o.good < (goodsL (List.zipWith mkSh s.shelves ss) : Int)
      rw [shv_goods sl sx]; exact oo o ho
    · show cs.length ≤ 3
      omega
    · show (List.zipWith mkSh s.shelves ss).length ≤ 4
      rw [shv_len sl]; exact h4
    · show os.length ≤ 4
      omega
    · show goodsL (List.zipWith mkSh s.shelves ss) ≤ 3
      rw [shv_goods sl sx]; exact hs.g3
    · show ((List.zipWith mkSh s.shelves ss).map (·.home)).Nodup
      rw [shv_home sl]; exact hs.hn
end K20
set_option maxHeartbeats 4000000
namespace K20
open PySem PySem.Spec PyProof.Rows L2
inductive T__law_rows : List Res → Bx → Post → Prop
  | mk {y : Yard} {s : State} {m : Nat} {β : Bx} (hy : y.Ok) (hs : LS y s) (c1 : 1 ≤ s.cars.length) (hm : m ≤ 24) :
    T__law_rows [.box, .d (encYard y), .d (encState s), .d (.int m)] β fun r _ => ∃ rows : List (List Deed), r = .d (encRowsD rows) ∧ rows.length ≤ m ∧ ∀ ds ∈ rows, ds.length = s.cars.length ∧ ∀ d ∈ ds, d.num
section
variable {K : PySem.W.Frag} {B : Hp} {bx : Option Addr} {ρ : Env} {β : Bx} {f1 : Bool} {ta : TE} {CT : Bool → Bx → Prop}
theorem b2_isN {d : D} : B2 K rIsNo (.d d) (.d .none) (.bool (isNo d)) := fun bx H vx vy Ax Ay rx ry Q g => by
  refine ⟨ry.1.inv_none, ?_⟩
  rw [rx.1.isNo]; exact g _ (.bl _)
theorem b2_notN {d : D} : B2 K rNotNo (.d d) (.d .none) (.bool (!isNo d)) := fun bx H vx vy Ax Ay rx ry Q g => by
  refine ⟨ry.1.inv_none, ?_⟩
  rw [rx.1.isNo]; exact g _ (.bl _)
theorem etp_notN (h : EvP K B bx ta ρ β f1 fun r β1 => ∃ d, r = .d d ∧ CT (!isNo d) β1) : EvTP K B bx (tB (tOp rNotNo ta (tC .non))) ρ β CT := etp_of (pbin (f2 := true) (evp_mono h fun r β1 ⟨d, e, c⟩ => by subst e; exact evp_of (evr_c fun _ => .non) ⟨_, b2_notN, _, rfl, c⟩))
theorem etp_isN (h : EvP K B bx ta ρ β f1 fun r β1 => ∃ d, r = .d d ∧ CT (isNo d) β1) : EvTP K B bx (tB (tOp rIsNo ta (tC .non))) ρ β CT := etp_of (pbin (f2 := true) (evp_mono h fun r β1 ⟨d, e, c⟩ => by subst e; exact evp_of (evr_c fun _ => .non) ⟨_, b2_isN, _, rfl, c⟩))
/-- the law's fault, called -/
theorem evp_fault {y : Yard} {s : State} {ds : List Deed} {i j k : Nat} {C : Post} (hi : ρ[i]? = some (some (.d (encYard y)))) (hj : ρ[j]? = some (some (.d (encState s)))) (hk : ρ[k]? = some (some (.d (encDeeds ds)))) (hy : y.Ok) (hs : LS y s) (hl : ds.length = s.cars.length) (hd : ∀ d ∈ ds, d.num)
    (h : ∀ d, (isNo d = true → LAll y s ds) → C (.d d) β) : EvP K B bx (tCall (spP K T__law_fault) [] E0 (tCons (tVar i) (tCons (tVar j) (tCons (tVar k) tNil)))) ρ β true C :=
  evp_call (eap_cons (evp_of (evr_vd hi) ⟨rfl, eap_cons (evp_of (evr_vd hj) ⟨rfl, eap_cons (evp_of (evr_vd hk) ⟨rfl, eap_nil ⟨_, .mk hy hs hl hd, fun r β' ⟨hr, e⟩ => by
    subst e
    rcases hr with ⟨e, la⟩ | ⟨l, e⟩
    · subst e; exact h _ fun _ => la
    · subst e; exact h _ fun q => by cases q⟩⟩)⟩)⟩))
end
theorem sc__law_rows : FnScope ["_law_box_here", "_law_yard_here", "_law_state_here", "_law_most", "_law_rows_here", "_law_turn", "_law_deeds_here", "_law_lap"] ["_law_box_here", "_law_yard_here", "_law_state_here", "_law_most"] (defScope s__law_rows) := ⟨rfl, rfl, rfl, by decide +kernel, rfl, by decide +kernel, by decide +kernel⟩
theorem fn__law_rows {g : Gb} (T : Txt g) : FnP g "_law_rows" ["_law_box_here", "_law_yard_here", "_law_state_here", "_law_most"] 5 T__law_rows := by
  have nd := sc__law_rows.nd
  have c__law_take := fn__law_take T
  have c__law_deeds := fn__law_deeds T
  have c__law_fault := fn__law_fault T
  have c__law_after := fn__law_after T
  refine T.fnP 76 rfl sc__law_rows (fun _ _ _ _ _ _ us hl => match us, hl with | [_, _, _, _], _ => rfl) (by intro rs β P h; cases h <;> rfl) ⟨_, (pssc_cons (psc_asg (pec_lst pac_nil) (pgc_name 4 nd))
    (pssc_cons (psc_for (pic_range T.b_range (pec_fnP c__law_take (pac_cons (pec_var 0) (pac_cons (pec_add (pec_var 3) pec_int) pac_nil)))) (pgc_name 5 nd) (pssc_cons (psc_asg (pec_fnP c__law_deeds (pac_cons (pec_var 0) (pac_cons (pec_var 1) (pac_cons (pec_var 2) pac_nil)))) (pgc_name 6 nd))
    (pssc_cons (psc_for (pic_range T.b_range pec_int) (pgc_name 7 nd) (pssc_one (psc_if (ptc_notN (pec_fnP c__law_fault (pac_cons (pec_var 1) (pac_cons (pec_var 2) (pac_cons (pec_var 6) pac_nil))))) (pssc_one (psc_asg (pec_fnP c__law_deeds (pac_cons (pec_var 0) (pac_cons (pec_var 1) (pac_cons (pec_var 2) pac_nil)))) (pgc_name 6 nd))) pssc_nil)))
    (pssc_cons (psc_if (ptc_w (pwc_and (ptc_notN (pec_fnP c__law_fault (pac_cons (pec_var 1) (pac_cons (pec_var 2) (pac_cons (pec_var 6) pac_nil))))) (pwc_and1 (ptc_gt (pec_fnP c__law_take (pac_cons (pec_var 0) (pac_cons pec_int pac_nil))) pec_int)))) (pssc_one (psc_asg (pec_mulN (pec_tup (pac_cons (pec_tup (pac_cons pec_str pac_nil)) pac_nil)) (pec_len T.b_len (pec_ix (pec_var 2) pec_int))) (pgc_name 6 nd))) pssc_nil)
    (pssc_cons (psc_expr (pec_append (pec_var 4) (pec_var 6)))
    (pssc_one (psc_if (ptc_isN (pec_fnP c__law_fault (pac_cons (pec_var 1) (pac_cons (pec_var 2) (pac_cons (pec_var 6) pac_nil))))) (pssc_one (psc_asg (pec_fnP c__law_after (pac_cons (pec_var 1) (pac_cons (pec_var 2) (pac_cons (pec_var 6) pac_nil)))) (pgc_name 2 nd))) pssc_nil)))))))
    (pssc_one (psc_ret (pec_tuple T.b_tuple (pec_var 4)))))), ?_⟩
  intro rs β P h B bx
  clear c__law_take
  clear c__law_deeds
  clear c__law_fault
  clear c__law_after
  rcases h with @⟨y, s, m, β, hy, hs, c1, hm⟩
  change GoR g.K B bx _ [some _, some _, some _, some _, none, none, none, none] _ _ _
  have h3 := hs.c3
  refine go_seq1 (go_asg (ev_lst dv_nil) ⟨rfl, rfl⟩) ?_
  refine go_seqW (go_forP (tg_name _) (wkp_range (evp_take (i := 0) rfl (evp_of (ev_add (evr_vd rfl) (evr_c fun _ => .int _)) ⟨_, rfl, by omega, by omega, fun e e0 e1 β2 => ⟨e, rfl, by omega, by omega, ?_⟩⟩))))
  refine ⟨fun i ρ' _ => ∃ (rows : List (List Deed)) (s' : State) (o5 o6 o7 : Option Res), ρ' = [some .box, some (.d (encYard y)), some (.d (encState s')), some (.d (.int m)), some (.l (rows.map encDeeds)), o5, o6, o7] ∧ LS y s' ∧ s'.cars.length = s.cars.length ∧ rows.length = i ∧ ∀ ds ∈ rows, ds.length = s.cars.length ∧ ∀ d ∈ ds, d.num, ⟨[], s, _, _, _, rfl, hs, rfl, rfl, fun ds h => by cases h⟩, fun i d hd ρi βi hI => ?_, ?_⟩
  · obtain ⟨rows, s', o5, o6, o7, rfl, hs', sl, rl, hr⟩ := hI
    have hi := (List.getElem?_eq_some_iff.mp hd).1
    rw [rgD_length] at hi
    refine ⟨_, rfl, ?_⟩
    rw [rgD_get hi] at hd
    cases hd
    refine go_seqW (go_asgP (evp_call (eap_cons (evp_of (evr_var rfl) ⟨rfl, eap_cons (evp_of (evr_vd rfl) ⟨rfl, eap_cons (evp_of (evr_vd rfl) ⟨rfl, eap_nil ⟨_, .mk hy hs', ?_⟩⟩)⟩)⟩))))
    rintro r β3 ⟨ds, rfl, dl, dn⟩
    refine go_seqW (go_for (fun j ρ' _ => ∃ (ds : List Deed) (o7 : Option Res), ρ' = [some .box, some (.d (encYard y)), some (.d (encState s')), some (.d (.int m)), some (.l (rows.map encDeeds)), some (.d (.int i)), some (.d (encDeeds ds)), o7] ∧ ds.length = s'.cars.length ∧ ∀ d ∈ ds, d.num) (wk_range (evr_c fun _ => .int _) (by decide) (by decide)) (tg_name _) ⟨ds, _, rfl, dl, dn⟩ (fun j d hdj ρj βj hJ => ?_) ?_)
    · obtain ⟨ds, o7, rfl, dl, dn⟩ := hJ
      refine ⟨_, rfl, ?_⟩
      refine go_ifP (etp_notN (evp_fault rfl rfl rfl hy hs' dl dn fun d _ => ⟨d, rfl, fun _ => ?_, fun _ => go_next ⟨ds, _, rfl, dl, dn⟩⟩))
      refine go_asgP (evp_call (eap_cons (evp_of (evr_var rfl) ⟨rfl, eap_cons (evp_of (evr_vd rfl) ⟨rfl, eap_cons (evp_of (evr_vd rfl) ⟨rfl, eap_nil ⟨_, .mk hy hs', ?_⟩⟩)⟩)⟩)))
      rintro r β4 ⟨ds2, rfl, dl2, dn2⟩
      exact ⟨ds2, _, rfl, dl2, dn2⟩
    · rintro ρ' β4 ⟨ds, o7, rfl, dl, dn⟩
      have rest : ∀ (ds : List Deed) (β : Bx), ds.length = s'.cars.length → (∀ d ∈ ds, d.num) → GoR g.K B bx (tSeq (tDrop (tBM g.K "list" rAppend (tVar 4) (tCons (tVar 6) tNil))) (tIfS (tB (tOp rIsNo (tCall (spP g.K T__law_fault) [] E0 (tCons (tVar 1) (tCons (tVar 2) (tCons (tVar 6) tNil)))) (tC .non))) (tAsg (tCall (spP g.K T__law_after) [] E0 (tCons (tVar 1) (tCons (tVar 2) (tCons (tVar 6) tNil)))) (gName 2)) tNext))
          [some .box, some (.d (encYard y)), some (.d (encState s')), some (.d (.int m)), some (.l (rows.map encDeeds)), some (.d (.int i)), some (.d (encDeeds ds)), o7] β (fun ρ' _ => ∃ (rows : List (List Deed)) (s' : State) (o5 o6 o7 : Option Res), ρ' = [some .box, some (.d (encYard y)), some (.d (encState s')), some (.d (.int m)), some (.l (rows.map encDeeds)), o5, o6, o7] ∧ LS y s' ∧ s'.cars.length = s.cars.length ∧ rows.length = i + 1 ∧ ∀ ds ∈ rows, ds.length = s.cars.length ∧ ∀ d ∈ ds, d.num) (fun r _ => ∃ rows : List (List Deed), r = .d (encRowsD rows) ∧ rows.length ≤ m ∧ ∀ ds ∈ rows, ds.length = s.cars.length ∧ ∀ d ∈ ds, d.num) := by
        intro ds β dl dn
        have hr2 : ∀ ds2 ∈ rows ++ [ds], ds2.length = s.cars.length ∧ ∀ d ∈ ds2, d.num := fun d2 hd2 => by
          rcases List.mem_append.mp hd2 with q | q
          · exact hr d2 q
          · rw [List.mem_singleton] at q
            rw [q]; exact ⟨by omega, dn⟩
        refine go_seqW (go_append (i := 4) rfl (evr_vd rfl) (by rw [List.length_map]; omega) ?_)
        refine go_ifP (etp_isN (evp_fault rfl rfl rfl hy hs' dl dn fun d hla => ⟨d, rfl, fun hno => ?_, fun _ => go_next ⟨rows ++ [ds], s', _, _, _, by rw [List.map_append]; rfl, hs', sl, by simp [rl], hr2⟩⟩))
        refine go_asgP (evp_call (eap_cons (evp_of (evr_vd rfl) ⟨rfl, eap_cons (evp_of (evr_vd rfl) ⟨rfl, eap_cons (evp_of (evr_vd rfl) ⟨rfl, eap_nil ⟨_, .mk hy hs' dl (hla hno) dn, ?_⟩⟩)⟩)⟩)))
        rintro r β5 ⟨⟨s2, rfl, hs2, sl2⟩, rfl⟩
        exact ⟨rows ++ [ds], s2, _, _, _, by rw [List.map_append]; rfl, hs2, by omega, by simp [rl], hr2⟩
      refine go_seqW (go_ifP (etp_and (etp_notN (evp_fault rfl rfl rfl hy hs' dl dn fun d _ => ⟨d, rfl, fun _ => ?_, fun _ => ⟨(fun h => by cases h), fun _ => go_next (rest ds _ dl dn)⟩⟩))))
      refine etp_of (pbin (f2 := true) (evp_takeC (i := 0) rfl (by decide) (by decide) fun w w0 w1 β5 => evp_of (evr_c fun _ => .int _) ⟨_, b2_gt, _, rfl, fun _ => ?_, fun _ => go_next (rest ds _ dl dn)⟩))
      refine go_asg (ev_mulN (d := encDeed .bide) (n := s'.cars.length) (ev_tup (dv_cons (ev_tup (dv_cons (evr_c fun _ => .str _) dv_nil)) dv_nil)) (ev_cast (ev_lenT (ds := s'.cars.map encCar) (ev_ixT (evr_vd rfl) (evr_c fun _ => .int _) rfl)) (by rw [List.length_map])) (by omega) (by omega)) ?_
      have := rest (List.replicate s'.cars.length .bide) β5 (by rw [List.length_replicate]) (fun d hd => by rw [List.eq_of_mem_replicate hd]; trivial)
      unfold encDeeds at this
      rw [List.map_replicate] at this
      exact this
  · rintro ρ' β' ⟨rows, s', o5, o6, o7, rfl, hs', sl, rl, hr⟩
    rw [rgD_length] at rl
    exact go_ret (ev_tupleL (evr_vl rfl)) ⟨rows, rfl, by omega, hr⟩
end K20
set_option maxHeartbeats 4000000
namespace K20
open PySem PySem.Spec PyProof.Rows L2
section
variable {K : PySem.W.Frag} {B : Hp} {bx : Option Addr} {ρ : Env} {β β1 β2 : Bx} {f1 f2 fr : Bool} {ta tb te : TE} {C : Post} {x : Res}
theorem ev_rep {x u w : Str} (ha : EvR K B bx te ρ β f1 (.d (.str x)) β1) (h : x.length + (x.length + 1) * w.length ≤ 16777216) : EvR K B bx (CwR.tReplC te u w) ρ β true (.d (.str (Txt.replace x u w))) β1 := fun σ H S Q g => ha σ H S _ fun v H1 A k1 b1 r1 _ =>
  ⟨x, r1.1.inv_str, h, (g.behind k1 b1).d b1 (.str _)⟩
theorem evp_addT (h : EvP K B bx ta ρ β f1 fun x β1 => EvP K B bx tb ρ β1 f2 fun y β2 => ∃ xs ys : List D, x = .d (.tuple xs) ∧ y = .d (.tuple ys) ∧ xs.length + ys.length ≤ 100000 ∧ C (.d (.tuple (xs ++ ys))) β2) : EvP K B bx (tOp (rCatA K) ta tb) ρ β true C := fun σ H S Q gg =>
  h σ H S _ fun x β1 hx vx H1 A1 k1 b1 r1 _ => hx σ H1 (S.step k1 b1) _ fun y β2 ⟨xs, ys, e1, e2, hl, c⟩ vy H2 A2 k2 b2 r2 _ => by
    subst e1 e2
    have g := (gg _ _ c).behind (k1.trans k2) b2
    obtain ⟨p, us, rfl, hp, ru⟩ := (r1.kp b1 k2).1.inv_tup
    obtain ⟨q, ws, rfl, hq, rw_⟩ := r2.1.inv_tup
    refine ⟨p, q, us, ws, rfl, rfl, Rep.sqt hp, Rep.sqt hq, ?_, fun e => ?_, fun _ e => ?_, fun _ _ o ho => ?_⟩
    · rw [ru.length, rw_.length]; exact Nat.le_trans hl (by decide)
    · subst e
      cases ru
      exact g.d b2 (.tup hq rw_)
    · subst e
      cases rw_
      rw [List.append_nil] at g
      exact g.d b2 (.tup hp ru)
    · exact g.tup b2 (ru.append rw_) ho
/-- wide, signs, floors = .., '..', [] -/
theorem go_yard2 {N : Env → Bx → Prop} {R : Res → Bx → Prop} {w : Str} {i j l : Nat} (h : EvP K B bx te ρ β f1 fun r β1 => ∃ d, r = .d d ∧ N (((ρ.set i (some (.d d))).set j (some (.d (.str w)))).set l (some (.ll []))) β1) :
    GoR K B bx (tAsg (tTup (tCons te (tCons (tC (.str w)) (tCons (tLst tNil) tNil)))) (gTup K 3 (gCons (gName i) (gCons (gName j) (gCons (gName l) gNil))))) ρ β N R := fun σ H D S n rt =>
  h σ H S _ fun r β1 ⟨d, er, hn⟩ v H1 A k1 b1 rv f => by
    subst er
    refine ⟨Nat.zero_le _, fun q hq => ⟨by have := line5; show 3 ≤ sizeLine; omega, fun p hp => ?_⟩⟩
    have k2 : Kp bx H1 (upd H1 q (.lst [])) := Kp.new hq
    have b2 := b1.new (o := .lst []) hq
    have kn : Kp bx (upd H1 q (.lst [])) (upd (upd H1 q (.lst [])) p (.tup [v, .str w, .ref q])) := Kp.new hp
    have b3 := b2.new (o := .tup [v, .str w, .ref q]) hp
    have S1 := S.step k1 b1
    have rd : RV K bx H1 v (.d d) [] := ⟨rv.1, rfl⟩
    have T1 := (S1.put (r := .d d) (A := []) i Kp.refl b1 rd (fun _ h => by cases h)).put (r := .d (.str w)) (A := []) j Kp.refl b1 ⟨.str _, rfl⟩ (fun _ h => by cases h)
    have hpq : q ≠ p := fun e => by rw [← e, upd_same] at hp; cases hp
    have T2 := T1.put (r := .ll []) (A := [q]) l (k2.trans kn) b3 ⟨q, [], rfl, b1.ne hq, by rw [upd_ne hpq]; exact upd_same, .nil, by simp, rfl⟩ fun x hx => by
      rw [List.mem_singleton] at hx; rw [hx]; exact hq
    have tk := (k2.trans kn).tk b1
    exact ⟨p, _, rfl, .inl (.inl upd_same), rfl, _, _, rfl, _, _, rfl, _, _, rfl, rfl, n _ β1 _ _ hn (fun c xs e => tk c xs (k1.tk S.bi c xs e)) T2⟩
end
end K20
set_option maxHeartbeats 4000000
namespace K20
open PySem PySem.Spec PyProof.Rows L2
inductive T__law_yard : List Res → Bx → Post → Prop
  | mk {β : Bx} : T__law_yard [.box] β fun r _ => ∃ y : Yard, r = .d (encYard y) ∧ y.Ok
def rowL (f : List Str) : List D := f.map PyData.str
def unS : D → Str
  | .str s => s
  | _ => ""
def joinD (ds : List D) : D := .str (Txt.join "" (ds.map unS))
theorem joinD_row (f : List Str) : joinD (rowL f) = .str (Txt.join "" f) := by
  unfold joinD rowL
  rw [List.map_map]
  have : f.map (unS ∘ PyData.str) = f := by
    have : (unS ∘ PyData.str) = id := rfl
    rw [this, List.map_id]
  rw [this]
def signsOf (fls : List (List Str)) : List Nat := (fls.flatten.map fun t => t.cps.toList).flatten
theorem row_sum {dn wd : Nat} : ∀ {f : List Str}, (∀ t ∈ f, t.length = wd) → (f.map (·.length)).sum = f.length * wd
  | [], _ => by simp
  | t :: f, h => by
    rw [List.map_cons, List.sum_cons, row_sum (dn := dn) fun t ht => h t (List.mem_cons_of_mem _ ht), h t List.mem_cons_self, List.length_cons, Nat.succ_mul]; omega
theorem floor_sum {dn wd : Nat} : ∀ {fls : List (List Str)}, (∀ f ∈ fls, FloorOk f dn wd) → (fls.flatten.map (·.length)).sum = fls.length * (dn * wd)
  | [], _ => by simp
  | f :: fls, h => by
    have q := h f List.mem_cons_self
    rw [List.flatten_cons, List.map_append, List.sum_append, floor_sum fun f hf => h f (List.mem_cons_of_mem _ hf), row_sum (dn := dn) q.w, q.d, List.length_cons, Nat.succ_mul]; omega
theorem signs_len {dn wd : Nat} {fls : List (List Str)} (h : ∀ f ∈ fls, FloorOk f dn wd) : (signsOf fls).length = fls.length * (dn * wd) := by
  unfold signsOf
  rw [← sum_len, floor_sum h]
theorem signs_join (fls : List (List Str)) : Txt.join "" (fls.map fun f => Txt.join "" f) = ⟨(signsOf fls).toArray⟩ := by rw [join_join, join0]; rfl
theorem wall_gone : ∀ n : Fin 13, decide (Txt.replace ⟨(List.replicate n.1 35).toArray⟩ "#" "" = "") = true := by decide +kernel
theorem not_walls {l : List Nat} (h : l.length ≤ 12) (hr : decide (Txt.replace ⟨l.toArray⟩ "#" "" = "") = false) : ∃ n ∈ l, n ≠ wallN := by
  apply Classical.byContradiction; intro hn
  have e : l = List.replicate l.length 35 := List.eq_replicate_iff.mpr ⟨rfl, fun n hm => Classical.byContradiction fun q => hn ⟨n, hm, q⟩⟩
  have := wall_gone ⟨l.length, by omega⟩
  rw [← e, hr] at this
  cases this
theorem join_len (ys : List Str) : (Txt.join "" ys).length = (ys.map (·.length)).sum := by
  rw [join0, sum_len]
  show Array.size _ = _
  rw [List.size_toArray]
theorem ones_join (cs : List Nat) : Txt.join "" (cs.map fun c => (⟨#[c]⟩ : Str)) = ⟨cs.toArray⟩ := by
  rw [join0, List.map_map]
  congr 2
  induction cs with
  | nil => rfl
  | cons c cs ih => rw [List.map_cons, List.flatten_cons, ih]; rfl
theorem ones_sum (cs : List Nat) : ((cs.map fun c => (⟨#[c]⟩ : Str)).map (·.length)).sum = cs.length := by
  induction cs with
  | nil => rfl
  | cons c cs ih => rw [List.map_cons, List.map_cons, List.sum_cons, ih, List.length_cons]; show 1 + _ = _; omega
def twelve : List Nat := [46, 46, 46, 46, 46, 83, 83, 68, 68, 80, 76, 35]
theorem twelve_eq : (".....SSDDPL#" : Str).cps.toList = twelve := by decide +kernel
theorem twelve_at {d : Int} (h0 : 0 ≤ d) (h1 : d < 12) : ∃ n, L2.atI (".....SSDDPL#" : Str).cps.toList d = some n ∧ n ∈ signsN := by
  rw [twelve_eq]
  obtain ⟨k, rfl⟩ : ∃ k : Nat, d = k := ⟨d.toNat, by omega⟩
  have hk : k < twelve.length := by show k < 12; omega
  refine ⟨twelve[k], atN (n := k) rfl (List.getElem?_eq_getElem hk), ?_⟩
  have key : ∀ m ∈ twelve, m ∈ signsN := by decide
  exact key _ (List.getElem_mem hk)
theorem dims_at {d : Int} (h0 : 0 ≤ d) (h1 : d < 7) : ∃ m dn wm : Nat, L2.atI [PyData.tuple [.int 1, .int 3, .int 4], .tuple [.int 1, .int 2, .int 5], .tuple [.int 1, .int 1, .int 5], .tuple [.int 1, .int 4, .int 3], .tuple [.int 2, .int 2, .int 3], .tuple [.int 2, .int 2, .int 2], .tuple [.int 2, .int 1, .int 5]] d = some (.tuple [.int m, .int dn, .int wm]) ∧ (1 ≤ m ∧ m ≤ 2 ∧ 1 ≤ dn ∧ dn ≤ 5 ∧ 1 ≤ wm ∧ wm ≤ 5 ∧ m * (dn * wm) ≤ 12) := by
  have : d = 0 ∨ d = 1 ∨ d = 2 ∨ d = 3 ∨ d = 4 ∨ d = 5 ∨ d = 6 := by omega
  rcases this with rfl | rfl | rfl | rfl | rfl | rfl | rfl
  · exact ⟨1, 3, 4, atN (n := 0) rfl rfl, by decide⟩
  · exact ⟨1, 2, 5, atN (n := 1) rfl rfl, by decide⟩
  · exact ⟨1, 1, 5, atN (n := 2) rfl rfl, by decide⟩
  · exact ⟨1, 4, 3, atN (n := 3) rfl rfl, by decide⟩
  · exact ⟨2, 2, 3, atN (n := 4) rfl rfl, by decide⟩
  · exact ⟨2, 2, 2, atN (n := 5) rfl rfl, by decide⟩
  · exact ⟨2, 1, 5, atN (n := 6) rfl rfl, by decide⟩
theorem pick2 {a b e : Int} (h0 : 0 ≤ e) (h1 : e < 2) : ∃ v : Int, L2.atI [PyData.int a, .int b] e = some (.int v) ∧ (v = a ∨ v = b) := by
  have : e = 0 ∨ e = 1 := by omega
  rcases this with rfl | rfl
  · exact ⟨a, at0, .inl rfl⟩
  · exact ⟨b, atN (n := 1) rfl rfl, .inr rfl⟩
/-- the first sign of a text made S -/
def headS (t : Str) : Str := "S" ++ cutS t (some 1) none
theorem headS_cps {t : Str} (h : 1 ≤ t.length) : (headS t).cps.toList = 83 :: t.cps.toList.drop 1 := by
  have e1 : HT.sIx t.length 0 (some 1) = 1 := by
    exact (HT.sIx_nat t.length 0 1).trans (Nat.min_eq_left h)
  have e2 : (cutS t (some 1) none).cps.toList = t.cps.toList.drop 1 := by
    unfold cutS
    rw [e1, List.toList_toArray]
    show (t.cps.toList.drop 1).take (t.length - 1) = _
    refine List.take_of_length_le ?_
    rw [List.length_drop, Array.length_toList]
    exact Nat.le_refl _
  show (("S" : Str).cps ++ (cutS t (some 1) none).cps).toList = _
  rw [Array.toList_append, e2]
  rfl
theorem headS_len {t : Str} (h : 1 ≤ t.length) : (headS t).length = t.length := by
  have := congrArg List.length (headS_cps h)
  rw [Array.length_toList, List.length_cons, List.length_drop, Array.length_toList] at this
  show (headS t).cps.size = t.cps.size
  have h' : 1 ≤ t.cps.size := h
  omega
/-- floors as the law makes them -/
structure FlOk (fls : List (List Str)) (m dn wd : Nat) : Prop where
  l : fls.length = m
  f : ∀ f ∈ fls, FloorOk f dn wd
  w : ∃ n ∈ signsOf fls, n ≠ wallN
theorem mem_signs {fls : List (List Str)} {f : List Str} {t : Str} {n : Nat} (hf : f ∈ fls) (ht : t ∈ f) (hn : n ∈ t.cps.toList) : n ∈ signsOf fls := by
  unfold signsOf
  exact List.mem_flatten.mpr ⟨_, List.mem_map.mpr ⟨t, List.mem_flatten.mpr ⟨f, hf, ht⟩, rfl⟩, hn⟩
theorem fl_head {fls : List (List Str)} {m dn wd : Nat} (l : fls.length = m) (h : ∀ f ∈ fls, FloorOk f dn wd) (m1 : 1 ≤ m) (d1 : 1 ≤ dn) (w1 : 1 ≤ wd) : ∃ (f : List Str) (t : Str), fls[0]? = some f ∧ f[0]? = some t ∧ t.length = wd ∧ FlOk (fls.set 0 (f.set 0 (headS t))) m dn wd := by
  cases fls with
  | nil => simp at l; omega
  | cons f fls =>
    have q := h f List.mem_cons_self
    cases f with
    | nil => have := q.d; simp at this; omega
    | cons t f =>
      have tl := q.w t List.mem_cons_self
      refine ⟨t :: f, t, rfl, rfl, tl, by simpa using l, fun z hz => ?_, 83, mem_signs (f := headS t :: f) (t := headS t) List.mem_cons_self List.mem_cons_self ?_, by decide⟩
      · rcases List.mem_cons.mp hz with e | hz
        · rw [e]
          refine ⟨q.d, fun u hu => ?_, fun u hu n hn => ?_⟩
          · rcases List.mem_cons.mp hu with e2 | hu
            · rw [e2, headS_len (by omega)]; exact tl
            · exact q.w u (List.mem_cons_of_mem _ hu)
          · rcases List.mem_cons.mp hu with e2 | hu
            · rw [e2, headS_cps (by omega)] at hn
              rcases List.mem_cons.mp hn with e3 | hn
              · rw [e3]; decide
              · exact q.s t List.mem_cons_self n (List.mem_of_mem_drop hn)
            · exact q.s u (List.mem_cons_of_mem _ hu) n hn
        · exact h z (List.mem_cons_of_mem _ hz)
      · rw [headS_cps (by omega)]; exact List.mem_cons_self
theorem yard_ok {fls : List (List Str)} {m dn wd : Nat} (F : FlOk fls m dn wd) (m1 : 1 ≤ m) (m2 : m ≤ 2) (d1 : 1 ≤ dn) (d5 : dn ≤ 5) (w1 : 1 ≤ wd) (w5 : wd ≤ 5) (h12 : m * (dn * wd) ≤ 12) {a b g t : Int} (a0 : 0 ≤ a) (a3 : a ≤ 3) (ab : a ≤ b) (b5 : b ≤ 5) (g1 : 1 ≤ g) (g9 : g ≤ 9) (t1 : 1 ≤ t) (t8 : t ≤ 8) {us : List (Int × Int × Int)} (ul : us.length ≤ 4) (uo : ∀ u ∈ us, ShutOk ⟨fls, a, b, g, t, us⟩ u) (up : us.Pairwise fun a b => HT.lexLt (tri a) (tri b) = true) : Yard.Ok ⟨fls, a, b, g, t, us⟩ where
  f1 := by show 1 ≤ fls.length; rw [F.l]; exact m1
  f2 := by show fls.length ≤ 2; rw [F.l]; exact m2
  d := ⟨dn, wd, d1, d5, w1, w5, fun f hf => ⟨(F.f f hf).d, fun u hu => (F.f f hf).w u hu⟩⟩
  s := fun n hn => by
    obtain ⟨l, hl, hn⟩ := List.mem_flatten.mp hn
    obtain ⟨u, hu, rfl⟩ := List.mem_map.mp hl
    obtain ⟨f, hf, hu⟩ := List.mem_flatten.mp hu
    exact (F.f f hf).s u hu n hn
  n := by
    show (signsOf fls).length ≤ 12
    rw [signs_len F.f, F.l]; exact h12
  w := F.w
  c1 := a0
  c2 := a3
  c3 := ab
  c4 := b5
  c5 := g1
  c6 := g9
  c7 := t1
  c8 := t8
  u1 := ul
  u2 := fun u hu => ⟨(uo u hu).c.1, (uo u hu).c.2.1, (uo u hu).c.2.2, (uo u hu).a, (uo u hu).b, (uo u hu).l⟩
  u3 := up
theorem ev_floors {K : PySem.W.Frag} {B : Hp} {bx : Option Addr} {ρ : Env} {β : Bx} {fls : List (List Str)} (e : ρ[5]? = some (some (.ll (fls.map rowL)))) (hl : ρ.length = 14) (h : fls.length ≤ 100) : EvR K B bx (tThen (tLc (iList K (tVar 5)) (gName 7) tYes (tThen (tVar 7) (kTup K)) [7]) (kTup K)) ρ β true (.d (encFloors fls)) β :=
  ev_cast (ev_tupleL (ev_lcLL (dss := fls.map rowL) (f := fun ds => .tuple ds) e (by rw [List.length_map]; omega) (fun ds hds => ev_tupleL (evr_vl (by
    rw [List.getElem?_set_self (by rw [List.length_set]; show 7 < (ρ.set 7 none).length; rw [List.length_set]; omega)]))) (by decide) (by decide))) (by
    rw [List.map_map]; rfl)
theorem ev_joins {K : PySem.W.Frag} {B : Hp} {bx : Option Addr} {ρ : Env} {β : Bx} {fls : List (List Str)} (e : ρ[5]? = some (some (.ll (fls.map rowL)))) (hl : ρ.length = 14) (h : fls.length ≤ 100) (h12 : ∀ f ∈ fls, (f.map (·.length)).sum ≤ 100) (hs : (signsOf fls).length ≤ 100) : EvR K B bx (tM1 (rJoin K) (tC (.str "")) (tLc (iList K (tVar 5)) (gName 7) tYes (tM1 (rJoin K) (tC (.str "")) (tVar 7)) [7])) ρ β true (.d (.str ⟨(signsOf fls).toArray⟩)) β :=
  ev_cast (ev_join (ys := fls.map fun f => Txt.join "" f) (evr_c fun _ => .str _) (ev_castR (z' := .l ((fls.map fun f => Txt.join "" f).map PyData.str)) (ev_lcLL (dss := fls.map rowL) (f := joinD) e (by rw [List.length_map]; omega) (fun ds hds => by
    obtain ⟨f, hf, rfl⟩ := List.mem_map.mp hds
    rw [joinD_row]
    refine ev_join (ys := f) (ds := rowL f) (x := .l (rowL f)) (evr_c fun _ => .str _) (evr_vl ?_) rfl ?_
    · rw [List.getElem?_set_self (by rw [List.length_set]; show 7 < (ρ.set 7 none).length; rw [List.length_set]; omega)]
    · show _ + _ * 0 ≤ _
      have := h12 f hf
      omega) (by decide) (by decide)) (by
    rw [List.map_map]; rw [List.map_map]
    exact congrArg Res.l (List.map_congr_left fun f _ => joinD_row f))) rfl (by
    show _ + _ * 0 ≤ _
    have e2 : ((fls.map fun f => Txt.join "" f).map (·.length)).sum = (signsOf fls).length := by
      rw [← join_len, signs_join]
      show Array.size _ = _
      rw [List.size_toArray]
    rw [e2]; omega)) (by rw [signs_join])
theorem sc__law_yard : FnScope ["_law_box_here", "_law_many", "_law_down", "_law_wide", "_law_signs_here", "_law_floors", "_law_turn", "_law_texts", "_law_row", "_law_place", "_law_cheap", "_law_dear", "_law_most", "_law_told"] ["_law_box_here"] (defScope s__law_yard) := ⟨rfl, rfl, rfl, by decide +kernel, rfl, by decide +kernel, by decide +kernel⟩
theorem fn__law_yard {g : Gb} (T : Txt g) : FnP g "_law_yard" ["_law_box_here"] 4 T__law_yard := by
  have nd := sc__law_yard.nd
  have c__law_take := fn__law_take T
  have c__law_shuts := fn__law_shuts T
  refine T.fnP 59 rfl sc__law_yard (fun _ _ _ _ _ _ us hl => match us, hl with | [_], _ => rfl) (by intro rs β P h; cases h <;> rfl) ⟨_, (pssc_cons (psc_asg (pec_ix (pec_lst (pac_cons (pec_tup (pac_cons pec_int (pac_cons pec_int (pac_cons pec_int pac_nil)))) (pac_cons (pec_tup (pac_cons pec_int (pac_cons pec_int (pac_cons pec_int pac_nil)))) (pac_cons (pec_tup (pac_cons pec_int (pac_cons pec_int (pac_cons pec_int pac_nil)))) (pac_cons (pec_tup (pac_cons pec_int (pac_cons pec_int (pac_cons pec_int pac_nil)))) (pac_cons (pec_tup (pac_cons pec_int (pac_cons pec_int (pac_cons pec_int pac_nil)))) (pac_cons (pec_tup (pac_cons pec_int (pac_cons pec_int (pac_cons pec_int pac_nil)))) (pac_cons (pec_tup (pac_cons pec_int (pac_cons pec_int (pac_cons pec_int pac_nil)))) pac_nil)))))))) (pec_fnP c__law_take (pac_cons (pec_var 0) (pac_cons pec_int pac_nil)))) (pgc_tup (n := 3) (pgsc_cons (pgc_name 1 nd) (pgsc_cons (pgc_name 2 nd) (pgsc_cons (pgc_name 3 nd) pgsc_nil)))))
    (pssc_cons (psc_asg (pec_tup (pac_cons (pec_add pec_int (pec_fnP c__law_take (pac_cons (pec_var 0) (pac_cons (pec_var 3) pac_nil)))) (pac_cons pec_str (pac_cons (pec_lst pac_nil) pac_nil)))) (pgc_tup (n := 3) (pgsc_cons (pgc_name 3 nd) (pgsc_cons (pgc_name 4 nd) (pgsc_cons (pgc_name 5 nd) pgsc_nil)))))
    (pssc_cons (psc_for (pic_range T.b_range (pec_var 1)) (pgc_name 6 nd) (pssc_cons (psc_asg (pec_lst pac_nil) (pgc_name 7 nd))
    (pssc_cons (psc_for (pic_range T.b_range (pec_var 2)) (pgc_name 8 nd) (pssc_one (psc_expr (pec_append (pec_var 7) (pec_join pec_str (pec_lc [("_law_place", 9)] nd (pic_range T.b_range (pec_var 3)) (pgc_name 9 nd) ptsc_nil (pec_ixS (pec_var 4) (pec_fnP c__law_take (pac_cons (pec_var 0) (pac_cons pec_int pac_nil))))))))))
    (pssc_one (psc_expr (pec_append (pec_var 5) (pec_var 7)))))))
    (pssc_cons (psc_if (ptc_eq (pec_replace (pec_lc [("_law_texts", 7)] nd (pic_list (pec_var 5)) (pgc_name 7 nd) ptsc_nil (pec_join pec_str (pec_var 7)))) pec_str) (pssc_one (psc_sub (pec_ix (pec_var 5) pec_int) pec_int (pec_addS pec_str (pec_slS (pec_ix (pec_ix (pec_var 5) pec_int) pec_int) (poc_some pec_int) poc_none)))) pssc_nil)
    (pssc_cons (psc_asg (pec_fnP c__law_take (pac_cons (pec_var 0) (pac_cons pec_int pac_nil))) (pgc_name 10 nd))
    (pssc_cons (psc_par (i := 11) (j := 12) nd (pac_cons (pec_add (pec_var 10) (pec_fnP c__law_take (pac_cons (pec_var 0) (pac_cons (pec_sub pec_int (pec_var 10)) pac_nil)))) (pac_cons (pec_ix (pec_lst (pac_cons pec_int (pac_cons (pec_add pec_int (pec_fnP c__law_take (pac_cons (pec_var 0) (pac_cons pec_int pac_nil)))) pac_nil))) (pec_fnP c__law_take (pac_cons (pec_var 0) (pac_cons pec_int pac_nil)))) pac_nil)))
    (pssc_cons (psc_asg (pec_tup (pac_cons (pec_tuple T.b_tuple (pec_lc [("_law_texts", 7)] nd (pic_list (pec_var 5)) (pgc_name 7 nd) ptsc_nil (pec_tuple T.b_tuple (pec_var 7)))) (pac_cons (pec_tup (pac_cons (pec_var 10) (pac_cons (pec_var 11) (pac_cons (pec_add pec_int (pec_fnP c__law_take (pac_cons (pec_var 0) (pac_cons pec_int pac_nil)))) (pac_cons (pec_var 12) pac_nil))))) pac_nil))) (pgc_name 13 nd))
    (pssc_one (psc_ret (pec_addT (pec_var 13) (pec_tup (pac_cons (pec_fnP c__law_shuts (pac_cons (pec_var 0) (pac_cons (pec_ix (pec_var 13) pec_int) pac_nil))) pac_nil)))))))))))), ?_⟩
  intro rs β P h B bx
  clear c__law_take
  clear c__law_shuts
  rcases h with @⟨β⟩
  change GoR g.K B bx _ [some _, none, none, none, none, none, none, none, none, none, none, none, none, none] _ _ _
  have big := line5
  refine go_seqW (go_asgTP (tg_tup (tgs_cons (tg_name _) (tgs_cons (tg_name _) (tgs_cons (tg_name _) tgs_nil)))) (pbin (evp_of (ev_lst (dv_cons (ev_tup (dv_cons (evr_c fun _ => .int _) (dv_cons (evr_c fun _ => .int _) (dv_cons (evr_c fun _ => .int _) dv_nil)))) (dv_cons (ev_tup (dv_cons (evr_c fun _ => .int _) (dv_cons (evr_c fun _ => .int _) (dv_cons (evr_c fun _ => .int _) dv_nil)))) (dv_cons (ev_tup (dv_cons (evr_c fun _ => .int _) (dv_cons (evr_c fun _ => .int _) (dv_cons (evr_c fun _ => .int _) dv_nil)))) (dv_cons (ev_tup (dv_cons (evr_c fun _ => .int _) (dv_cons (evr_c fun _ => .int _) (dv_cons (evr_c fun _ => .int _) dv_nil)))) (dv_cons (ev_tup (dv_cons (evr_c fun _ => .int _) (dv_cons (evr_c fun _ => .int _) (dv_cons (evr_c fun _ => .int _) dv_nil)))) (dv_cons (ev_tup (dv_cons (evr_c fun _ => .int _) (dv_cons (evr_c fun _ => .int _) (dv_cons (evr_c fun _ => .int _) dv_nil)))) (dv_cons (ev_tup (dv_cons (evr_c fun _ => .int _) (dv_cons (evr_c fun _ => .int _) (dv_cons (evr_c fun _ => .int _) dv_nil)))) dv_nil)))))))) (evp_takeC (i := 0) rfl (by decide) (by decide) fun d d0 d1 β2 => ?_))))
  obtain ⟨m, dn, wm, hat, m1, m2, n1, n5, k1, k5, h12⟩ := dims_at d0 d1
  refine ⟨_, b2_ix rfl hat, _, _, rfl, rfl, ?_⟩
  refine go_seqW (go_yard2 (pbin (evp_of (evr_c fun _ => .int _) (evp_take (i := 0) rfl (evp_of (evr_vd rfl) ⟨(wm : Int), rfl, by omega, by omega, fun e e0 e1 β3 => ⟨_, b2_add, _, rfl, ?_⟩⟩)))))
  obtain ⟨wd, hwd⟩ : ∃ wd : Nat, 1 + e = wd := ⟨(1 + e).toNat, by omega⟩
  rw [hwd]
  have w1 : 1 ≤ wd := by omega
  have w5 : wd ≤ 5 := by omega
  have h12' : m * (dn * wd) ≤ 12 := Nat.le_trans (Nat.mul_le_mul_left _ (Nat.mul_le_mul_left _ (by omega))) h12
  refine go_seqW (go_for (fun i ρ' _ => ∃ (fls : List (List Str)) (o6 o7 o8 : Option Res), ρ' = [some .box, some (.d (.int m)), some (.d (.int dn)), some (.d (.int wd)), some (.d (.str ".....SSDDPL#")), some (.ll (fls.map rowL)), o6, o7, o8, none, none, none, none, none] ∧ fls.length = i ∧ ∀ f ∈ fls, FloorOk f dn wd) (wk_range (evr_vd rfl) (by omega) (by omega)) (tg_name _) ⟨[], _, _, _, rfl, rfl, fun f h => by cases h⟩ (fun i d2 hd ρi βi hI => ?_) ?_)
  · obtain ⟨fls, o6, o7, o8, rfl, fl, hf⟩ := hI
    have hi := (List.getElem?_eq_some_iff.mp hd).1
    rw [rgD_length] at hi
    refine ⟨_, rfl, ?_⟩
    rw [rgD_get hi] at hd
    cases hd
    refine go_seq1 (go_asg (ev_lst dv_nil) ⟨rfl, rfl⟩) ?_
    refine go_seqW (go_for (fun j ρ' _ => ∃ (ts : List Str) (o8 : Option Res), ρ' = [some .box, some (.d (.int m)), some (.d (.int dn)), some (.d (.int wd)), some (.d (.str ".....SSDDPL#")), some (.ll (fls.map rowL)), some (.d (.int i)), some (.l (ts.map PyData.str)), o8, none, none, none, none, none] ∧ ts.length = j ∧ ∀ t ∈ ts, t.length = wd ∧ ∀ n ∈ t.cps.toList, n ∈ signsN) (wk_range (evr_vd rfl) (by omega) (by omega)) (tg_name _) ⟨[], _, rfl, rfl, fun f h => by cases h⟩ (fun j d2 hd ρj βj hJ => ?_) ?_)
    · obtain ⟨ts, o8, rfl, tl, ht⟩ := hJ
      have hj := (List.getElem?_eq_some_iff.mp hd).1
      rw [rgD_length] at hj
      refine ⟨_, rfl, ?_⟩
      refine go_appendP (i := 7) rfl (by rw [List.length_map]; omega) (evp_join (fr := true) (evr_c fun _ => .str _) (evp_lc (fr := true) (fun k β' acc => ∃ cs : List Nat, acc = cs.map (fun c => PyData.str ⟨#[c]⟩) ∧ cs.length = k ∧ ∀ n ∈ cs, n ∈ signsN) (wk_range (evr_vd rfl) (by omega) (by omega)) (tg_name _) (by decide) (by rw [rgD_length]; omega) ⟨[], rfl, rfl, fun n h => by cases h⟩ (fun k d3 hd3 βk acc hK => ?_) ?_))
      · obtain ⟨cs, rfl, cl, hc⟩ := hK
        refine ⟨_, rfl, etp_yes ⟨fun _ => pbin (evp_of (evr_vd rfl) (evp_takeC (i := 0) rfl (by decide) (by decide) fun q q0 q1 β5 => ?_)), (fun h => by cases h)⟩⟩
        obtain ⟨n, hn, hn2⟩ := twelve_at q0 q1
        refine ⟨_, b2_ixS hn (by show _ ≤ sizeLine; have : (".....SSDDPL#" : Str).length = 12 := by decide +kernel
                                 omega), _, rfl, cs ++ [n], by rw [List.map_append]; rfl, by simp [cl], fun z hz => ?_⟩
        rcases List.mem_append.mp hz with h | h
        · exact hc z h
        · rw [List.mem_singleton] at h; rw [h]; exact hn2
      · rintro β5 acc ⟨cs, rfl, cl, hc⟩
        rw [rgD_length] at cl
        have cl2 : cs.length = wd := by omega
        refine ⟨cs.map fun c => ⟨#[c]⟩, by rw [List.map_map]; rfl, ?_, _, rfl, ts ++ [⟨cs.toArray⟩], _, by rw [ones_join, List.map_append]; rfl, by simp [tl], fun t h => ?_⟩
        · show _ + _ * 0 ≤ _
          rw [ones_sum]; omega
        · rcases List.mem_append.1 h with h | h
          · exact ht t h
          · rw [List.mem_singleton] at h
            rw [h]
            refine ⟨?_, fun n hn => hc n (by simpa using hn)⟩
            show Array.size _ = _
            rw [List.size_toArray]; exact cl2
    · rintro ρ' β' ⟨ts, o8, rfl, tl, ht⟩
      rw [rgD_length] at tl
      refine go_appendLL (i := 5) (j := 7) rfl rfl (by decide) (by rw [List.length_map]; omega) ⟨fls ++ [ts], _, _, _, by rw [List.map_append]; rfl, by simp [fl], fun f h => ?_⟩
      rcases List.mem_append.1 h with h | h
      · exact hf f h
      · rw [List.mem_singleton] at h
        rw [h]
        exact ⟨by omega, fun t hh => (ht t hh).1, fun t hh => (ht t hh).2⟩
  · rintro ρ' β' ⟨fls, o6, o7, o8, rfl, fl, hf⟩
    rw [rgD_length] at fl
    have fl2 : fls.length = m := by omega
    have sl := signs_len hf
    rw [fl2] at sl
    obtain ⟨f0, t0, ef, et, tl, F2⟩ := fl_head fl2 hf m1 n1 w1
    refine go_seqW (go_mono (N1 := fun ρ' _ => ∃ (fls : List (List Str)) (r5 o6 o7 o8 : Option Res), ρ' = [some .box, some (.d (.int m)), some (.d (.int dn)), some (.d (.int wd)), some (.d (.str ".....SSDDPL#")), r5, o6, o7, o8, none, none, none, none, none] ∧ r5 = some (.ll (fls.map rowL)) ∧ FlOk fls m dn wd) (go_if (β1 := β') (evt_of (ev_eq (ev_rep (ev_joins rfl rfl (by omega) (fun f h => ?_) (by omega)) ?_) (evr_c fun _ => .str _))) (fun h1 => ?_) (fun h1 => ?_)) ?_)
    · rw [row_sum (dn := dn) (hf f h).w, (hf f h).d]
      have := Nat.mul_le_mul n5 w5
      omega
    · show Array.size _ + (Array.size _ + 1) * 0 ≤ _
      rw [List.size_toArray]; omega
    · refine go_setLL (i := 5) (a := 0) (b := 0) rfl (fun β => evr_c fun _ => .int _) (fun β => evr_c fun _ => .int _) (by rw [List.getElem?_map, ef]; rfl) (ds := rowL f0) ?_ (evp_of (ev_addS (x := "S") (evr_c fun _ => .str _) (ev_slS (z := t0) (ev_ixLL (i := 5) (a := 0) (b := 0) (ds := rowL f0) (d := .str t0) rfl (evr_c fun _ => .int _) (evr_c fun _ => .int _) (by rw [List.getElem?_map, ef]; rfl) (by unfold rowL; rw [List.getElem?_map, et]; rfl)) (evo_some (evr_c fun _ => .int _)) evo_none (by omega)) ?_) ⟨_, rfl, fls.set 0 (f0.set 0 (headS t0)), _, _, _, _, rfl, ?_, F2⟩)
      · unfold rowL
        rw [List.length_map]
        exact (List.getElem?_eq_some_iff.mp et).1
      · have := cutS_length t0 (some 1) none
        show ("S" : Str).length + _ ≤ _
        have : ("S" : Str).length = 1 := by decide +kernel
        omega
      · rw [List.map_set]
        unfold rowL
        rw [List.map_set]; rfl
    · exact go_next ⟨fls, _, _, _, _, rfl, rfl, fl2, hf, not_walls (by omega) h1⟩
    rintro ρ' β5 ⟨fls, r5, o6, o7, o8, rfl, rfl, F⟩
    have fm := F.l
    refine go_seqW (go_asgP (evp_takeC (i := 0) rfl (by decide) (by decide) fun a a0 a1 β6 => ?_))
    refine go_seqW (go_parP (pbin (evp_of (evr_vd rfl) (evp_take (i := 0) rfl (evp_of (ev_sub (evr_c fun _ => .int _) (evr_vd rfl)) ⟨_, rfl, by omega, by omega, fun b b0 b1 β7 => ⟨_, b2_add, ?_⟩⟩)))))
    refine pbin (plst (eap_cons (evp_of (evr_c fun _ => .int _) ⟨rfl, eap_cons (pbin (evp_of (evr_c fun _ => .int _) (evp_takeC (i := 0) rfl (by decide) (by decide) fun c c0 c1 β8 => ⟨_, b2_add, rfl, eap_nil ⟨[.int 8, .int (1 + c)], rfl, by simp, evp_takeC (i := 0) rfl (by decide) (by decide) fun e e0 e1 β9 => ?_⟩⟩)))⟩)))
    obtain ⟨t, ht, ht2⟩ := pick2 (a := 8) (b := 1 + c) e0 e1
    refine ⟨_, b2_ix rfl ht, ?_⟩
    refine go_seqW (go_asgP (ptup (eap_cons (evp_of (ev_floors rfl rfl (by omega)) ⟨rfl, eap_cons (ptup (eap_cons (evp_of (evr_vd rfl) ⟨rfl, eap_cons (evp_of (evr_vd rfl) ⟨rfl, eap_cons (pbin (evp_of (evr_c fun _ => .int _) (evp_takeC (i := 0) rfl (by decide) (by decide) fun q q0 q1 β10 => ⟨_, b2_add, rfl, eap_cons (evp_of (evr_vd rfl) ⟨rfl, eap_nil ⟨[.int a, .int (a + b), .int (1 + q), .int t], rfl, by simp, rfl, eap_nil ⟨[encFloors fls, _], rfl, by simp, ?_⟩⟩⟩)⟩)))⟩)⟩)))⟩))))
    have Y : ∀ us : List (Int × Int × Int), us.length ≤ 4 → (∀ u ∈ us, ShutOk ⟨fls, a, a + b, 1 + q, t, us⟩ u) → us.Pairwise (fun a b => HT.lexLt (tri a) (tri b) = true) → Yard.Ok ⟨fls, a, a + b, 1 + q, t, us⟩ := fun us u1 u2 u3 => yard_ok F m1 m2 n1 n5 w1 w5 h12' a0 (by omega) (by omega) (by omega) (by omega) (by omega) (by omega) (by omega) u1 u2 u3
    refine go_retP (evp_addT (evp_of (evr_vd rfl) (ptup (eap_cons (evp_call (eap_cons (evp_of (evr_var rfl) ⟨rfl, eap_cons (evp_of (ev_ixT (d := encFloors fls) (evr_vd rfl) (evr_c fun _ => .int _) at0) ⟨rfl, eap_nil ⟨_, .mk (y := ⟨fls, a, a + b, 1 + q, t, []⟩) (Y [] (by decide) (fun u h => by cases h) .nil), ?_⟩⟩)⟩)))))))
    rintro r β11 ⟨us, rfl, ul, uo, up⟩
    exact ⟨rfl, eap_nil ⟨[.tuple (us.map encShut)], rfl, by simp, _, _, rfl, rfl, by simp, ⟨fls, a, a + b, 1 + q, t, us⟩, rfl, Y us ul (fun u hu => ⟨(uo u hu).c, (uo u hu).a, (uo u hu).b, (uo u hu).l⟩) up⟩⟩
end K20
set_option maxHeartbeats 4000000
namespace K20
open PySem PySem.Spec PyProof.Rows L2
def keepR : Res → Bool
  | .d _ => true
  | .s _ => true
  | _ => false
def keepO : Option Res → Option Res
  | some r => if keepR r then some r else none
  | none => none
/-- only what is nobody's own -/
def pureR (ρ : Env) : Env := ρ.map keepO
theorem rv_keep {K : PySem.W.Frag} {bx bx' : Option Addr} {H : Hp} {v : V} {r : Res} {A : List Addr} (k : keepR r = true) (h : RV K bx H v r A) : RV K bx' H v r [] := by
  cases r with
  | d x => exact ⟨h.1, rfl⟩
  | s ns =>
    obtain ⟨a, e, hs, _⟩ := h
    exact ⟨a, e, hs, rfl⟩
  | _ => cases k
section
variable {K : PySem.W.Frag} {B B' : Hp} {bx bx' : Option Addr} {ρ : Env} {β β' : Bx} {σ : L2.St} {H : Hp}
theorem rs_pure (S : RS K B bx ρ β σ H) (kp : Kp bx' B' H) (bb : ∀ b, bx' = some b → B' b ≠ none) (bi : BoxIs bx' H β') : RS K B' bx' (pureR ρ) β' σ H := by
  obtain ⟨_, _, _, len, fa, h1, _, _⟩ := S
  refine ⟨kp, bb, bi, by unfold pureR; rw [List.length_map]; exact len, fun _ => [], fun j r e => ?_, (fun _ _ h => by cases h), (fun _ _ _ h => by cases h)⟩
  unfold pureR at e
  rw [List.getElem?_map] at e
  cases ho : ρ[j]? with
  | none => rw [ho] at e; exact nomatch e
  | some o =>
    rw [ho] at e
    cases o with
    | none => cases e
    | some r' =>
      replace e : some (if keepR r' then some r' else none) = some (some r) := e
      cases hk : keepR r' with
      | false => rw [hk] at e; cases e
      | true =>
        rw [hk] at e
        cases e
        obtain ⟨v, e1, rv⟩ := h1 j _ ho
        exact ⟨v, e1, rv_keep hk rv⟩
theorem rs_box {p : Addr} {i : Nat} (S : RS K B (some p) ρ β σ H) (e : σ[i]? = some (some (.ref p))) : RS K B (some p) (ρ.set i (some .box)) β σ H := by
  obtain ⟨kp, bb, bi, len, fa, h1, h2, h3⟩ := S
  refine ⟨kp, bb, bi, by rw [List.length_set]; exact len, fun j => if j = i then [] else fa j, fun j r ej => ?_, fun j x hx => ?_, fun j l x hj hl => ?_⟩
  · by_cases hj : j = i
    · subst hj
      have hl : j < ρ.length := by
        have := (List.getElem?_eq_some_iff.mp ej).1
        rw [List.length_set] at this; exact this
      rw [List.getElem?_set_self hl] at ej
      cases ej
      exact ⟨_, e, p, rfl, rfl, if_pos rfl⟩
    · rw [List.getElem?_set_ne (Ne.symm hj)] at ej
      obtain ⟨v, e1, rv⟩ := h1 j r ej
      exact ⟨v, e1, by simp only [if_neg hj]; exact rv⟩
  · by_cases hj : j = i
    · simp only [if_pos hj] at hx; cases hx
    · simp only [if_neg hj] at hx; exact h2 j x hx
  · by_cases q1 : j = i
    · simp only [if_pos q1] at hj; cases hj
    · by_cases q2 : l = i
      · simp only [if_pos q2] at hl; cases hl
      · simp only [if_neg q1] at hj
        simp only [if_neg q2] at hl
        exact h3 j l x hj hl
/-- a new box, filled from below; behind it nothing of what was made stays told -/
theorem go_boxed {N : Env → Bx → Prop} {R : Res → Bx → Prop} {te : TE} {us : TS} {i : Nat} (hi : i < ρ.length) (h : EvP K B bx te ρ β true fun r β1 => ∃ x y : Int, r = .l [.int x, .int y] ∧ ∀ (B' : Hp) (p : Addr), GoR K B' (some p) us ((pureR (ρ.set i none)).set i (some .box)) (x, y) (fun ρ' _ => N (pureR ρ') β1) (fun _ _ => False)) :
    GoR K B bx (tSeq (tAsg te (gName i)) us) ρ β N R := fun σ H D S n rt =>
  h σ H S _ fun r β1 ⟨x, y, er, hb⟩ v H1 A k1 b1 rv f => by
    subst er
    have S1 := S.put i k1 b1 rv (f rfl)
    obtain ⟨p, vs, rfl, np, hp, rr, hA⟩ := rv
    have e := rr.ints (ns := [x, y])
    subst e
    have pB : B p = none := S.freshB (f rfl p (by rw [hA]; exact List.mem_singleton.mpr rfl))
    have S2 : RS K H1 (some p) (pureR (ρ.set i none)) (x, y) (σ.set i (some (.ref p))) H1 := rs_pure (rs_junk (S.step k1 b1) i _) Kp.refl (fun b e => by cases e; rw [hp]; exact fun h => by cases h) fun b e => by cases e; exact hp
    have hl : i < σ.length := by rw [S.len]; exact hi
    refine hb H1 p _ H1 _ (rs_box S2 (List.getElem?_set_self hl)) (fun ρ' β' σ' H' hn tk S' => ?_) fun r β' v H' A hr => hr.elim
    have kB : Kp bx B H' := fun a o e nb => S'.kp a o (S1.kp a o e nb) fun h => by
      cases h
      rw [pB] at e; cases e
    exact n _ β1 _ _ hn (fun a xs e => tk a xs (k1.tk S.bi a xs e)) (rs_pure S' kB S.bb fun b e => S'.kp b _ (b1 b e) fun h => by
      cases h
      exact np e)
end
inductive T_law : List Res → Bx → Post → Prop
  | mk {ns : List Int} {β : Bx} : T_law [.s ns] β fun r _ => r = .d (.bool true)
theorem pair_in {y : Yard} {s : State} {sts : List State} (h : RunOk y s sts) {p : State × State} (hp : p ∈ sts.zip (sts.drop 1)) : Step y p.1 p.2 ∧ p.2.Ok y := by
  obtain ⟨i, hi⟩ := List.mem_iff_getElem?.mp hp
  obtain ⟨h1, h2⟩ := List.getElem?_zip_eq_some.mp hi
  rw [List.getElem?_drop, Nat.add_comm] at h2
  exact ⟨h.st i _ _ h1 h2, h.ok _ (List.mem_of_getElem? h2)⟩
theorem sc_law : FnScope ["_law_script", "_law_k", "_law_box_here", "_law_turn", "_law_yard_here", "_law_state_here", "_law_states", "_law_found", "_law_steps_right", "_law_one", "_law_two"] ["_law_script"] (defScope s_law) := ⟨rfl, rfl, rfl, by decide +kernel, rfl, by decide +kernel, by decide +kernel⟩
theorem fn_law {g : Gb} (T : Txt g) {f : Addr} {fd : FuncData} (F : FunD g.K "law" "law" (defArgs s_law) (defBody s_law) (defScope s_law) [] [] f fd) : FnOk g.P g.w g.K g.mg g.base CX0 10 f fd ["_law_script"] (spP g.K T_law) := by
  have nd := sc_law.nd
  have c__law_box := fn__law_box T
  have c__law_yard := fn__law_yard T
  have c__law_state := fn__law_state T
  have c_run := fn_run T
  have c__law_rows := fn__law_rows T
  have c__law_step_right := fn__law_step_right T
  refine fn_defP F sc_law (by intro rs β P h; cases h; rfl) ⟨_, (pssc_cons (psc_for (pic_range T.b_range (pec_max T.b_max pec_int (pec_min T.b_min (pec_len T.b_len (pec_var 0)) pec_int))) (pgc_name 1 nd) (pssc_cons (psc_asg (pec_fnP c__law_box (pac_cons (pec_var 0) (pac_cons (pec_var 1) pac_nil))) (pgc_name 2 nd))
    (pssc_one (psc_for (pic_range T.b_range pec_int) (pgc_name 3 nd) (pssc_cons (psc_asg (pec_fnP c__law_yard (pac_cons (pec_var 2) pac_nil)) (pgc_name 4 nd))
    (pssc_cons (psc_asg (pec_fnP c__law_state (pac_cons (pec_var 2) (pac_cons (pec_var 4) pac_nil))) (pgc_name 5 nd))
    (pssc_cons (psc_asg (pec_fnP c_run (pac_cons (pec_var 4) (pac_cons (pec_var 5) (pac_cons (pec_fnP c__law_rows (pac_cons (pec_var 2) (pac_cons (pec_var 4) (pac_cons (pec_var 5) (pac_cons pec_int pac_nil))))) pac_nil)))) (pgc_tup (n := 2) (pgsc_cons (pgc_name 6 nd) (pgsc_cons (pgc_name 7 nd) pgsc_nil))))
    (pssc_cons (psc_setLc 8 [("_law_one", 9), ("_law_two", 10)] nd (pic_zip T.b_zip (pec_var 6) (pec_slT (pec_var 6) (poc_some pec_int) poc_none)) (pgc_tup (n := 2) (pgsc_cons (pgc_name 9 nd) (pgsc_cons (pgc_name 10 nd) pgsc_nil))) ptsc_nil (pec_fn c__law_step_right (pac_cons (pec_var 4) (pac_cons (pec_var 9) (pac_cons (pec_var 10) pac_nil)))))
    (pssc_one (psc_if (ptc_w (pwc_or (ptc_neD (pec_ix (pec_var 6) pec_int) (pec_var 5)) (pwc_or1 (ptc_not (ptc_of (pec_all T.b_all (pec_var 8))))))) (pssc_one (psc_ret pec_bl)) pssc_nil))))))))))
    (pssc_one (psc_ret pec_bl))), ?_⟩
  intro rs β P h B bx
  clear c__law_box
  clear c__law_yard
  clear c__law_state
  clear c_run
  clear c__law_rows
  clear c__law_step_right
  rcases h with @⟨ns, β⟩
  change GoR g.K B bx _ [some _, none, none, none, none, none, none, none, none, none, none] _ _ _
  refine go_seqW (go_for (fun i ρ' _ => ∃ o1 o2 o3 o4 o5 o6 o7 o8 o9 o10 : Option Res, ρ' = [some (.s ns), o1, o2, o3, o4, o5, o6, o7, o8, o9, o10]) (wk_range (ev_max (evr_c fun _ => .int _) (ev_min (ev_lenR (evr_var rfl)) (evr_c fun _ => .int _))) ?_ ?_) (tg_name _) ⟨_, _, _, _, _, _, _, _, _, _, rfl⟩ (fun i d hd ρi βi hI => ?_) ?_)
  · (repeat' split) <;> omega
  · (repeat' split) <;> omega
  · obtain ⟨o1, o2, o3, o4, o5, o6, o7, o8, o9, o10, rfl⟩ := hI
    have hi := (List.getElem?_eq_some_iff.mp hd).1
    rw [rgD_length] at hi
    rw [rgD_get hi] at hd
    cases hd
    refine ⟨_, rfl, ?_⟩
    refine go_boxed (i := 2) (by show 2 < 11; decide) (evp_call (eap_cons (evp_of (evr_var rfl) ⟨rfl, eap_cons (evp_of (evr_vd rfl) ⟨rfl, eap_nil ⟨_, .mk, ?_⟩⟩)⟩)))
    rintro r β2 ⟨⟨x, z, rfl⟩, rfl⟩
    refine ⟨x, z, rfl, fun B p => ?_⟩
    refine go_for (fun j ρ' _ => ∃ o3 o4 o5 o6 o7 o8 o9 o10 : Option Res, ρ' = [some (.s ns), some (.d (.int i)), some .box, o3, o4, o5, o6, o7, o8, o9, o10]) (wk_range (evr_c fun _ => .int _) (by decide) (by decide)) (tg_name _) ⟨_, _, _, _, _, _, _, _, rfl⟩ (fun j d hd ρj βj hJ => ?_) ?_
    · obtain ⟨o3, o4, o5, o6, o7, o8, o9, o10, rfl⟩ := hJ
      refine ⟨_, rfl, ?_⟩
      refine go_seqW (go_asgP (evp_call (eap_cons (evp_of (evr_var rfl) ⟨rfl, eap_nil ⟨_, .mk, ?_⟩⟩))))
      rintro r β3 ⟨y, rfl, hy⟩
      refine go_seqW (go_asgP (evp_call (eap_cons (evp_of (evr_var rfl) ⟨rfl, eap_cons (evp_of (evr_vd rfl) ⟨rfl, eap_nil ⟨_, .mk hy, ?_⟩⟩)⟩))))
      rintro r β4 ⟨s, rfl, hs⟩
      refine go_seqW (go_asgTP (tg_tup (tgs_cons (tg_name _) (tgs_cons (tg_name _) tgs_nil))) (evp_call (eap_cons (evp_of (evr_vd rfl) ⟨rfl, eap_cons (evp_of (evr_vd rfl) ⟨rfl, eap_cons (evp_call (eap_cons (evp_of (evr_var rfl) ⟨rfl, eap_cons (evp_of (evr_vd rfl) ⟨rfl, eap_cons (evp_of (evr_vd rfl) ⟨rfl, eap_cons (evp_of (evr_c fun _ => .int _) ⟨rfl, eap_nil ⟨_, .mk (m := 16) hy hs.ls hs.c1 (by decide), ?_⟩⟩)⟩)⟩)⟩)))⟩)⟩))))
      rintro r β5 ⟨rows, rfl, rl, hr⟩
      refine ⟨rfl, eap_nil ⟨_, .mk hy hs ⟨by omega, hr⟩, ?_⟩⟩
      rintro r β6 ⟨⟨sts, fw, rfl, R, sl⟩, rfl⟩
      refine ⟨_, _, rfl, rfl, ?_⟩
      refine go_seq1 (go_asg (ev_lc (xs := sts.zip (sts.drop 1)) (enc := fun p => prD (encState p.1) (encState p.2)) (f := fun _ => .bool true) (wkr_cast (wk_zipT (ds := sts.map encState) (es := (sts.drop 1).map encState) (evr_vd rfl) (ev_cast (ev_slT (ds := sts.map encState) (evr_vd rfl) (evo_some (evr_c fun _ => .int _)) evo_none) ?_)) (zip_enc encState encState _ _)) (tg_tup (tgs_cons (tg_name _) (tgs_cons (tg_name _) tgs_nil))) (by decide) ?_ fun p hp => ⟨_, rfl, ev_callD (dv_cons (evr_vd rfl) (dv_cons (evr_vd rfl) (dv_cons (evr_vd rfl) dv_nil))) (.mk hy (pair_in R hp).1 (pair_in R hp).2)⟩) ⟨rfl, rfl⟩) ?_
      · have hd1 := R.hd
        have : 1 ≤ sts.length := by
          cases sts with
          | nil => cases hd1
          | cons _ _ => simp
        rw [show (1 : Int) = ((1 : Nat) : Int) from rfl, cut_drop _ 1 (by rw [List.length_map]; exact this), List.map_drop]
      · rw [List.length_zip]; omega
      · have hd1 := R.hd
        cases sts with
        | nil => cases hd1
        | cons s0 sts =>
          cases hd1
          refine go_if (c := false) (ev_tcast (ev_tor (evt_of (ev_neD (ev_ixT (d := encState s) (evr_vd rfl) (evr_c fun _ => .int _) at0) (evr_vd rfl) (sh_state s).ok (sh_state s).ok)) fun _ => (evt_not (evt_of (ev_allM (q := fun _ => true) (evr_vl rfl))))) ?_) (fun h => by cases h) (fun _ => go_next ⟨_, _, _, _, _, _, _, _, rfl⟩)
          rw [(sh_state s).refl, all_true]; rfl
    · rintro ρ' β2 ⟨o3, o4, o5, o6, o7, o8, o9, o10, rfl⟩
      exact ⟨_, _, _, _, _, _, _, _, _, _, rfl⟩
  · rintro ρ' β' ⟨o1, o2, o3, o4, o5, o6, o7, o8, o9, o10, rfl⟩
    exact go_ret (evr_c fun _ => .bl _) rfl
end K20
set_option maxHeartbeats 0
namespace K20
open PySem PySem.Spec PyProof.Rows L2
theorem fa_fn : fn.map (fun d => some (He.Fa.glo d.name)) = (List.range 80).map fun i => fa[i]? := by rfl
theorem at_fn : fn.map (fun d => d.at_) = fn.map fun d => (d.name, none) := by rfl
theorem fa_of {i : Nat} {d : He.DefD} (h : fn[i]? = some d) : fa[i]? = some (.glo d.name) ∧ d.at_ = (d.name, none) := by
  have hl : i < 80 := (List.getElem?_eq_some_iff.mp h).1
  have h1 := congrArg (fun l => l[i]?) fa_fn
  have h2 := congrArg (fun l => l[i]?) at_fn
  simp only [List.getElem?_map, h, List.getElem?_range hl, Option.map_some] at h1 h2
  exact ⟨(Option.some.inj h1).symm, Option.some.inj h2⟩
theorem txt_of {P : Program} {w : World} {K : PySem.W.Frag} {h base : Heap} {mg : Str → Option Value} (X : K.In h) (G : h.Ns mainGlobals mg) (c : He.SaysX fa fn ts [] ex w h K) : Txt ⟨P, w, K, mg, base⟩ where
  kin := fun i d e => c.t.d.def_ i e
  glo := fun i d e => by
    obtain ⟨h1, h2⟩ := fa_of e
    show mg d.name = some (.ref (He.fAd K d.at_))
    rw [h2]
    exact He.glo_ok X G (c.t.d.fact i h1)
  b_abs := He.free_ok X G (c.t.d.fact 80 (f := .free "abs") rfl)
  b_all := He.free_ok X G (c.t.d.fact 81 (f := .free "all") rfl)
  b_any := He.free_ok X G (c.t.d.fact 82 (f := .free "any") rfl)
  b_bool := He.free_ok X G (c.t.d.fact 83 (f := .free "bool") rfl)
  b_dict := He.free_ok X G (c.t.d.fact 84 (f := .free "dict") rfl)
  b_divmod := He.free_ok X G (c.t.d.fact 85 (f := .free "divmod") rfl)
  b_enumerate := He.free_ok X G (c.t.d.fact 86 (f := .free "enumerate") rfl)
  b_int := He.free_ok X G (c.t.d.fact 87 (f := .free "int") rfl)
  b_isinstance := He.free_ok X G (c.t.d.fact 88 (f := .free "isinstance") rfl)
  b_len := He.free_ok X G (c.t.d.fact 89 (f := .free "len") rfl)
  b_list := He.free_ok X G (c.t.d.fact 90 (f := .free "list") rfl)
  b_max := He.free_ok X G (c.t.d.fact 91 (f := .free "max") rfl)
  b_min := He.free_ok X G (c.t.d.fact 92 (f := .free "min") rfl)
  b_range := He.free_ok X G (c.t.d.fact 93 (f := .free "range") rfl)
  b_set := He.free_ok X G (c.t.d.fact 94 (f := .free "set") rfl)
  b_sorted := He.free_ok X G (c.t.d.fact 95 (f := .free "sorted") rfl)
  b_str := He.free_ok X G (c.t.d.fact 96 (f := .free "str") rfl)
  b_sum := He.free_ok X G (c.t.d.fact 97 (f := .free "sum") rfl)
  b_tuple := He.free_ok X G (c.t.d.fact 98 (f := .free "tuple") rfl)
  b_zip := He.free_ok X G (c.t.d.fact 99 (f := .free "zip") rfl)
  MOST_FLOORS := He.int_ok X G (c.t.d.fact 100 (f := .int "MOST_FLOORS" 2) rfl)
  MOST_SIDE := He.int_ok X G (c.t.d.fact 101 (f := .int "MOST_SIDE" 5) rfl)
  MOST_CELLS := He.int_ok X G (c.t.d.fact 102 (f := .int "MOST_CELLS" 12) rfl)
  MOST_SHUTS := He.int_ok X G (c.t.d.fact 103 (f := .int "MOST_SHUTS" 4) rfl)
  LAST_SHUT := He.int_ok X G (c.t.d.fact 104 (f := .int "LAST_SHUT" 99) rfl)
  MOST_CARRIERS := He.int_ok X G (c.t.d.fact 105 (f := .int "MOST_CARRIERS" 3) rfl)
  MOST_SHELVES := He.int_ok X G (c.t.d.fact 106 (f := .int "MOST_SHELVES" 4) rfl)
  MOST_ORDERS := He.int_ok X G (c.t.d.fact 107 (f := .int "MOST_ORDERS" 4) rfl)
  MOST_GOODS := He.int_ok X G (c.t.d.fact 108 (f := .int "MOST_GOODS" 3) rfl)
  MOST_STOCK := He.int_ok X G (c.t.d.fact 109 (f := .int "MOST_STOCK" 99) rfl)
  MOST_NUMBER := He.int_ok X G (c.t.d.fact 110 (f := .int "MOST_NUMBER" 99) rfl)
  MOST_ROWS := He.int_ok X G (c.t.d.fact 111 (f := .int "MOST_ROWS" 24) rfl)
  WALL := He.str_ok X G (c.t.d.fact 112 (f := .str "WALL" "#") rfl)
  HOME := He.str_ok X G (c.t.d.fact 113 (f := .str "HOME" "S") rfl)
  LIFT := He.str_ok X G (c.t.d.fact 114 (f := .str "LIFT" "L") rfl)
  SIGNS := He.str_ok X G (c.t.d.fact 115 (f := .str "SIGNS" ".#SDPL") rfl)
  DESK := He.str_ok X G (c.t.d.fact 116 (f := .str "DESK" "D") rfl)
  POST := He.str_ok X G (c.t.d.fact 117 (f := .str "POST" "P") rfl)
  ALONE := He.glo_ok X G (c.t.d.fact 118 (f := .glo "ALONE") rfl)
  NUMBERED := He.glo_ok X G (c.t.d.fact 119 (f := .glo "NUMBERED") rfl)
  FAULTS := He.glo_ok X G (c.t.d.fact 120 (f := .glo "FAULTS") rfl)
  ALONEt := (He.tupB_ok (x := "ALONE") (vs := [.str "bide", .str "fill", .str "lift", .str "set"]) (He.ba c.more).1 _)
  NUMBEREDt := (He.tupB_ok (x := "NUMBERED") (vs := [.str "go", .str "hand"]) (He.ba (He.ba c.more).2).1 _)
  FAULTSt := c.t.tab 0 rfl
  FAULTSv := fun x f hm => by
    have hv := (He.ba (He.ba c.more).2).2
    have key : ∀ q ∈ ([("bide", "bide_fault"), ("fill", "fill_fault"), ("go", "go_fault"), ("lift", "lift_fault"), ("set", "set_fault"), ("hand", "hand_fault")] : List (Str × Str)), (q.1, He.Dv.glo q.2) ∈ faultsKV := fun q hq => by
      have : faultsKV = ([("bide", "bide_fault"), ("fill", "fill_fault"), ("go", "go_fault"), ("lift", "lift_fault"), ("set", "set_fault"), ("hand", "hand_fault")] : List (Str × Str)).map fun q => (q.1, He.Dv.glo q.2) := rfl
      rw [this]
      exact List.mem_map.mpr ⟨q, hq, rfl⟩
    obtain ⟨u, e, r⟩ := He.valsB_ok hv (key (x, f) hm)
    have e2 : u = .ref (He.ga K f) := r
    rw [e2] at e
    exact e
theorem facts {P : Program} {w : World} {K : PySem.W.Frag} {h : Heap} {mg : Str → Option Value} {f : Addr} (X : K.In h) (G : h.Ns mainGlobals mg) (hfa : mg ("law" : Str) = some (.ref f)) (c : He.SaysX fa fn ts [] ex w h K) :
    ∃ fd : FuncData, (∀ (s : Shared) (v : Value), BindsTo s fd ⟨[v], []⟩ [("_law_script", v)]) ∧ ∀ base : Heap, K.In base → base.Ns mainGlobals mg → FnOk P w K mg base CX0 10 f fd ["_law_script"] (spP K T_law) := by
  obtain ⟨fd, F⟩ := c.t.d.def_ 79 (d := d_law) rfl
  have e := hfa.symm.trans (He.glo_ok X G (c.t.d.fact 79 (f := .glo "law") rfl))
  cases e
  have b := FunD.bindsA (ps := ["_law_script"]) F fun _ _ _ _ _ _ us hl => match us, hl with | [_], _ => rfl
  exact ⟨fd, fun s v => b s [v] rfl, fun base _ _ => fn_law (g := ⟨P, w, K, mg, base⟩) (txt_of X G c) F⟩
theorem law_says {K : PySem.W.Frag} {H : Hp} {a : Addr} {ns : List Int} (hO : Only H) (hS : SqL K H a (ns.map V.int)) : spP K T_law [.ref a] H (fun v _ => v = .bl true) fun _ _ _ => False := by
  refine ⟨[.s ns], (0, 0), _, .mk, none, (fun b e => by cases e), (fun b e => by cases e), ⟨⟨a, rfl, ?_, rfl⟩, True.intro⟩, fun r β' hr v H' A _ _ rv _ => ?_⟩
  · rcases hS with hS | hS
    · rcases hS with hS | hS
      · rcases hO a with h | ⟨o, xs, h⟩ <;> rw [hS] at h <;> cases h
      · exact .inl hS
    · exact .inr (.inr hS)
  · subst hr
    exact rv.1.inv_bool
end K20
open PySem PySem.W PySem.Calls PyProof.Rows
theorem PySem.Challenge.cw_carryyard_k20_whole_nothing_is_lost_holds : PySem.Challenge.rw_carryyard_k20_whole_nothing_is_lost.Holds := by
  w_on; o_law
  refine HandSHeadRun.head_any (r := OpenLaw.row PySem.Challenge.rw_carryyard_k20_whole_nothing_is_lost) (q := K20.qv) (H := K20.hk) (ob := K20.ob) (M := 6000) (loose := K20.loose) (d := HandSHeadRun.topDef (OpenLaw.row PySem.Challenge.rw_carryyard_k20_whole_nothing_is_lost).prog 111) (kwd := []) K20.ob_eq
    (by kernel_rfl) (fun s => by kernel_rfl) K20.run (by kernel_rfl) (by kernel_rfl) (by kernel_rfl) (by rfl) (by first | assumption | decide +kernel) (by decide +kernel) ⟨rfl, rfl, rfl, rfl, rfl, by decide +kernel⟩ ?hw ?hc
  case hw => w_witness2
  case hc =>
    refine L2.walk_ofE (l := PySem.Challenge.rw_carryyard_k20_whole_nothing_is_lost) (n := 63) (k := 10) (x := "_law_script") (CX := L2.CX0) rfl (by decide) (by kernel_rfl) ⟨rfl, by decide, by decide⟩ ?F (fun _ _ _ _ z => z)
    intro w mg fa h Y G hmg0
    obtain ⟨K, KX, c⟩ := Y
    have named : mg ("law" : PySem.Str) = some (.ref fa) := by
      have e : (HandSHeadRun.topDef (OpenLaw.row PySem.Challenge.rw_carryyard_k20_whole_nothing_is_lost).prog 111).name = ("law" : PySem.Str) := by kernel_rfl
      rw [← e]
      exact hmg0
    obtain ⟨fd, hb, hF⟩ := K20.facts (P := (PySem.Challenge.rw_carryyard_k20_whole_nothing_is_lost).prog) (w := w) KX G named c
    exact ⟨K, fd, K20.spP K K20.T_law, KX, hb, fun H a ns hl hO hS => K20.law_says hO hS, hF⟩
