import PyProof.Rows.All
import Wide.All
import OpenK.AllK
import Wide.FinOn
import HandS.ForMost
import KE.KStateDown
import Lean
import HandS.Defaults
import HandS.Head0
import HandS.Head1
import HandS.Head2
import HandS.HeadEnd
import HandS.HeadHook1
import HandS.HeadHook2
import HandS.HeadHook3
import HandS.HeadHook4
import HandS.HeadWalk
import HandS.CallRecv
import HandS.IsInst
import HandS.Conv
import HandS.Zip
import HandS.TupLe
import HandS.Wide
import HandS.DictTup
import HandS.Flow
import HandS.Nested
import HandS.NestedK
import HandS.More
import HandS.Steps
import KE.GoesEnum
import KE.GoesMore
import HandS.Codes
import KE.DataCmp
import KE.SortData
import HandS.Small
import HandS.Walk
import PySem.Challenge.RW_endlessplane_k84_whole_likeness_of_small
set_option Elab.async false
set_option maxRecDepth 100000
/-! the text of the program by places -/
namespace K84
open PySem L2
def top (i : Nat) : Stmt := PySem.Challenge.pw_endlessplane_k84_whole_likeness_of_small.main.body.getD i (.Pass ⟨0, 0, 0, 0⟩)
abbrev s_is_integer : Stmt := top 3
abbrev s_is_between : Stmt := top 4
abbrev s_is_colour : Stmt := top 5
abbrev s_is_list : Stmt := top 6
abbrev s_is_cell : Stmt := top 7
abbrev s_check_integer : Stmt := top 16
abbrev s_greatest_divisor : Stmt := top 18
abbrev s_is_shift : Stmt := top 20
abbrev s_check_shift : Stmt := top 21
abbrev s_check_cell : Stmt := top 22
abbrev s_check_basis : Stmt := top 23
abbrev s_Lattice___init__ : Stmt := inClass (top 24) 0
abbrev s_Lattice_area : Stmt := inClass (top 24) 4
abbrev s_Lattice_place : Stmt := inClass (top 24) 5
abbrev s_Lattice_places : Stmt := inClass (top 24) 7
abbrev s_check_lattice : Stmt := top 25
abbrev s_divisor_sum : Stmt := top 26
abbrev s_spanned : Stmt := top 27
abbrev s_is_row : Stmt := top 31
abbrev s_check_rows : Stmt := top 32
abbrev s_check_size : Stmt := top 33
abbrev s_sign_at : Stmt := top 34
abbrev s_is_period_of : Stmt := top 35
abbrev s_divisors_of : Stmt := top 36
abbrev s_level_period : Stmt := top 37
abbrev s_least_lattice : Stmt := top 38
abbrev s_normal_rows : Stmt := top 39
abbrev s_rows_by : Stmt := top 40
abbrev s_Carpet___init__ : Stmt := inClass (top 41) 0
abbrev s_Carpet_sign : Stmt := inClass (top 41) 2
abbrev s_Carpet_colour : Stmt := inClass (top 41) 3
abbrev s_Carpet_lattice : Stmt := inClass (top 41) 4
abbrev s_Carpet_least : Stmt := inClass (top 41) 5
abbrev s_Carpet_normal : Stmt := inClass (top 41) 6
abbrev s_Carpet_in_normal : Stmt := inClass (top 41) 7
abbrev s_check_colour : Stmt := top 42
abbrev s_woven : Stmt := top 43
abbrev s_turned_pair : Stmt := top 48
abbrev s_back_turn : Stmt := top 49
abbrev s_Motion___init__ : Stmt := inClass (top 51) 0
abbrev s_Motion_led_back : Stmt := inClass (top 51) 5
abbrev s_check_motion : Stmt := top 52
abbrev s_moved_carpet : Stmt := top 53
abbrev s_check_carpet : Stmt := top 55
abbrev s_shifted_rows : Stmt := top 56
abbrev s_all_shifted : Stmt := top 57
abbrev s_least_form : Stmt := top 58
abbrev s_are_like : Stmt := top 59
abbrev s_motions_between : Stmt := top 60
abbrev s_motion_between : Stmt := top 61
abbrev s_own_motions : Stmt := top 62
abbrev s__law_pool : Stmt := top 64
abbrev s__law_draw : Stmt := top 65
abbrev s__law_pick : Stmt := top 66
abbrev s__law_woven : Stmt := top 67
abbrev s__law_colour : Stmt := top 68
abbrev s__law_cells : Stmt := top 69
abbrev s__law_turns : Stmt := top 70
abbrev s__law_led : Stmt := top 71
abbrev s__law_motion : Stmt := top 72
abbrev s__law_small : Stmt := top 73
abbrev s__law_table : Stmt := top 74
abbrev s__law_within : Stmt := top 75
abbrev s__law_moved : Stmt := top 76
abbrev s__law_again : Stmt := top 77
abbrev s__law_lattice : Stmt := top 78
abbrev s__law_form : Stmt := top 79
abbrev s__law_shifts : Stmt := top 80
abbrev s__law_less : Stmt := top 81
abbrev s__law_least_form : Stmt := top 82
abbrev s__law_leads : Stmt := top 83
abbrev s__law_between : Stmt := top 84
abbrev s__law_is_right : Stmt := top 85
abbrev s_law : Stmt := top 86
end K84
set_option Elab.async false
set_option linter.all false
set_option maxRecDepth 100000
set_option maxHeartbeats 0
/-! the head: facts of the top by names, the run -/
namespace K84
open PySem PySem.Spec PyProof.Rows L2
def d_is_integer : He.DefD := ⟨("is_integer", none), "is_integer", "is_integer", defArgs s_is_integer, defBody s_is_integer, defScope s_is_integer, [], []⟩
def d_is_between : He.DefD := ⟨("is_between", none), "is_between", "is_between", defArgs s_is_between, defBody s_is_between, defScope s_is_between, [], []⟩
def d_is_colour : He.DefD := ⟨("is_colour", none), "is_colour", "is_colour", defArgs s_is_colour, defBody s_is_colour, defScope s_is_colour, [], []⟩
def d_is_list : He.DefD := ⟨("is_list", none), "is_list", "is_list", defArgs s_is_list, defBody s_is_list, defScope s_is_list, [], []⟩
def d_is_cell : He.DefD := ⟨("is_cell", none), "is_cell", "is_cell", defArgs s_is_cell, defBody s_is_cell, defScope s_is_cell, [], []⟩
def d_check_integer : He.DefD := ⟨("check_integer", none), "check_integer", "check_integer", defArgs s_check_integer, defBody s_check_integer, defScope s_check_integer, [], []⟩
def d_greatest_divisor : He.DefD := ⟨("greatest_divisor", none), "greatest_divisor", "greatest_divisor", defArgs s_greatest_divisor, defBody s_greatest_divisor, defScope s_greatest_divisor, [], []⟩
def d_is_shift : He.DefD := ⟨("is_shift", none), "is_shift", "is_shift", defArgs s_is_shift, defBody s_is_shift, defScope s_is_shift, [], []⟩
def d_check_shift : He.DefD := ⟨("check_shift", none), "check_shift", "check_shift", defArgs s_check_shift, defBody s_check_shift, defScope s_check_shift, [], []⟩
def d_check_cell : He.DefD := ⟨("check_cell", none), "check_cell", "check_cell", defArgs s_check_cell, defBody s_check_cell, defScope s_check_cell, [], []⟩
def d_check_basis : He.DefD := ⟨("check_basis", none), "check_basis", "check_basis", defArgs s_check_basis, defBody s_check_basis, defScope s_check_basis, [], []⟩
def d_Lattice___init__ : He.DefD := ⟨("Lattice", some "__init__"), "__init__", "Lattice.__init__", defArgs s_Lattice___init__, defBody s_Lattice___init__, defScope s_Lattice___init__, [], []⟩
def d_Lattice_area : He.DefD := ⟨("Lattice", some "area"), "area", "Lattice.area", defArgs s_Lattice_area, defBody s_Lattice_area, defScope s_Lattice_area, [], []⟩
def d_Lattice_place : He.DefD := ⟨("Lattice", some "place"), "place", "Lattice.place", defArgs s_Lattice_place, defBody s_Lattice_place, defScope s_Lattice_place, [], []⟩
def d_Lattice_places : He.DefD := ⟨("Lattice", some "places"), "places", "Lattice.places", defArgs s_Lattice_places, defBody s_Lattice_places, defScope s_Lattice_places, [], []⟩
def d_check_lattice : He.DefD := ⟨("check_lattice", none), "check_lattice", "check_lattice", defArgs s_check_lattice, defBody s_check_lattice, defScope s_check_lattice, [], []⟩
def d_divisor_sum : He.DefD := ⟨("divisor_sum", none), "divisor_sum", "divisor_sum", defArgs s_divisor_sum, defBody s_divisor_sum, defScope s_divisor_sum, [], []⟩
def d_spanned : He.DefD := ⟨("spanned", none), "spanned", "spanned", defArgs s_spanned, defBody s_spanned, defScope s_spanned, [], []⟩
def d_is_row : He.DefD := ⟨("is_row", none), "is_row", "is_row", defArgs s_is_row, defBody s_is_row, defScope s_is_row, [], []⟩
def d_check_rows : He.DefD := ⟨("check_rows", none), "check_rows", "check_rows", defArgs s_check_rows, defBody s_check_rows, defScope s_check_rows, [], []⟩
def d_check_size : He.DefD := ⟨("check_size", none), "check_size", "check_size", defArgs s_check_size, defBody s_check_size, defScope s_check_size, [], []⟩
def d_sign_at : He.DefD := ⟨("sign_at", none), "sign_at", "sign_at", defArgs s_sign_at, defBody s_sign_at, defScope s_sign_at, [], []⟩
def d_is_period_of : He.DefD := ⟨("is_period_of", none), "is_period_of", "is_period_of", defArgs s_is_period_of, defBody s_is_period_of, defScope s_is_period_of, [], []⟩
def d_divisors_of : He.DefD := ⟨("divisors_of", none), "divisors_of", "divisors_of", defArgs s_divisors_of, defBody s_divisors_of, defScope s_divisors_of, [], []⟩
def d_level_period : He.DefD := ⟨("level_period", none), "level_period", "level_period", defArgs s_level_period, defBody s_level_period, defScope s_level_period, [], []⟩
def d_least_lattice : He.DefD := ⟨("least_lattice", none), "least_lattice", "least_lattice", defArgs s_least_lattice, defBody s_least_lattice, defScope s_least_lattice, [], []⟩
def d_normal_rows : He.DefD := ⟨("normal_rows", none), "normal_rows", "normal_rows", defArgs s_normal_rows, defBody s_normal_rows, defScope s_normal_rows, [], []⟩
def d_rows_by : He.DefD := ⟨("rows_by", none), "rows_by", "rows_by", defArgs s_rows_by, defBody s_rows_by, defScope s_rows_by, [], []⟩
def d_Carpet___init__ : He.DefD := ⟨("Carpet", some "__init__"), "__init__", "Carpet.__init__", defArgs s_Carpet___init__, defBody s_Carpet___init__, defScope s_Carpet___init__, [], []⟩
def d_Carpet_sign : He.DefD := ⟨("Carpet", some "sign"), "sign", "Carpet.sign", defArgs s_Carpet_sign, defBody s_Carpet_sign, defScope s_Carpet_sign, [], []⟩
def d_Carpet_colour : He.DefD := ⟨("Carpet", some "colour"), "colour", "Carpet.colour", defArgs s_Carpet_colour, defBody s_Carpet_colour, defScope s_Carpet_colour, [], []⟩
def d_Carpet_lattice : He.DefD := ⟨("Carpet", some "lattice"), "lattice", "Carpet.lattice", defArgs s_Carpet_lattice, defBody s_Carpet_lattice, defScope s_Carpet_lattice, [], []⟩
def d_Carpet_least : He.DefD := ⟨("Carpet", some "least"), "least", "Carpet.least", defArgs s_Carpet_least, defBody s_Carpet_least, defScope s_Carpet_least, [], []⟩
def d_Carpet_normal : He.DefD := ⟨("Carpet", some "normal"), "normal", "Carpet.normal", defArgs s_Carpet_normal, defBody s_Carpet_normal, defScope s_Carpet_normal, [], []⟩
def d_Carpet_in_normal : He.DefD := ⟨("Carpet", some "in_normal"), "in_normal", "Carpet.in_normal", defArgs s_Carpet_in_normal, defBody s_Carpet_in_normal, defScope s_Carpet_in_normal, [], []⟩
def d_check_colour : He.DefD := ⟨("check_colour", none), "check_colour", "check_colour", defArgs s_check_colour, defBody s_check_colour, defScope s_check_colour, [], []⟩
def d_woven : He.DefD := ⟨("woven", none), "woven", "woven", defArgs s_woven, defBody s_woven, defScope s_woven, [], []⟩
def d_turned_pair : He.DefD := ⟨("turned_pair", none), "turned_pair", "turned_pair", defArgs s_turned_pair, defBody s_turned_pair, defScope s_turned_pair, [], []⟩
def d_back_turn : He.DefD := ⟨("back_turn", none), "back_turn", "back_turn", defArgs s_back_turn, defBody s_back_turn, defScope s_back_turn, [], []⟩
def d_Motion___init__ : He.DefD := ⟨("Motion", some "__init__"), "__init__", "Motion.__init__", defArgs s_Motion___init__, defBody s_Motion___init__, defScope s_Motion___init__, [.adr (He.dflAt ("Motion", some "__init__") 0)], []⟩
def d_Motion_led_back : He.DefD := ⟨("Motion", some "led_back"), "led_back", "Motion.led_back", defArgs s_Motion_led_back, defBody s_Motion_led_back, defScope s_Motion_led_back, [], []⟩
def d_check_motion : He.DefD := ⟨("check_motion", none), "check_motion", "check_motion", defArgs s_check_motion, defBody s_check_motion, defScope s_check_motion, [], []⟩
def d_moved_carpet : He.DefD := ⟨("moved_carpet", none), "moved_carpet", "moved_carpet", defArgs s_moved_carpet, defBody s_moved_carpet, defScope s_moved_carpet, [], []⟩
def d_check_carpet : He.DefD := ⟨("check_carpet", none), "check_carpet", "check_carpet", defArgs s_check_carpet, defBody s_check_carpet, defScope s_check_carpet, [], []⟩
def d_shifted_rows : He.DefD := ⟨("shifted_rows", none), "shifted_rows", "shifted_rows", defArgs s_shifted_rows, defBody s_shifted_rows, defScope s_shifted_rows, [], []⟩
def d_all_shifted : He.DefD := ⟨("all_shifted", none), "all_shifted", "all_shifted", defArgs s_all_shifted, defBody s_all_shifted, defScope s_all_shifted, [], []⟩
def d_least_form : He.DefD := ⟨("least_form", none), "least_form", "least_form", defArgs s_least_form, defBody s_least_form, defScope s_least_form, [], []⟩
def d_are_like : He.DefD := ⟨("are_like", none), "are_like", "are_like", defArgs s_are_like, defBody s_are_like, defScope s_are_like, [], []⟩
def d_motions_between : He.DefD := ⟨("motions_between", none), "motions_between", "motions_between", defArgs s_motions_between, defBody s_motions_between, defScope s_motions_between, [], []⟩
def d_motion_between : He.DefD := ⟨("motion_between", none), "motion_between", "motion_between", defArgs s_motion_between, defBody s_motion_between, defScope s_motion_between, [], []⟩
def d_own_motions : He.DefD := ⟨("own_motions", none), "own_motions", "own_motions", defArgs s_own_motions, defBody s_own_motions, defScope s_own_motions, [], []⟩
def d__law_pool : He.DefD := ⟨("_law_pool", none), "_law_pool", "_law_pool", defArgs s__law_pool, defBody s__law_pool, defScope s__law_pool, [], []⟩
def d__law_draw : He.DefD := ⟨("_law_draw", none), "_law_draw", "_law_draw", defArgs s__law_draw, defBody s__law_draw, defScope s__law_draw, [], []⟩
def d__law_pick : He.DefD := ⟨("_law_pick", none), "_law_pick", "_law_pick", defArgs s__law_pick, defBody s__law_pick, defScope s__law_pick, [], []⟩
def d__law_woven : He.DefD := ⟨("_law_woven", none), "_law_woven", "_law_woven", defArgs s__law_woven, defBody s__law_woven, defScope s__law_woven, [], []⟩
def d__law_colour : He.DefD := ⟨("_law_colour", none), "_law_colour", "_law_colour", defArgs s__law_colour, defBody s__law_colour, defScope s__law_colour, [], []⟩
def d__law_cells : He.DefD := ⟨("_law_cells", none), "_law_cells", "_law_cells", defArgs s__law_cells, defBody s__law_cells, defScope s__law_cells, [], []⟩
def d__law_turns : He.DefD := ⟨("_law_turns", none), "_law_turns", "_law_turns", defArgs s__law_turns, defBody s__law_turns, defScope s__law_turns, [], []⟩
def d__law_led : He.DefD := ⟨("_law_led", none), "_law_led", "_law_led", defArgs s__law_led, defBody s__law_led, defScope s__law_led, [], []⟩
def d__law_motion : He.DefD := ⟨("_law_motion", none), "_law_motion", "_law_motion", defArgs s__law_motion, defBody s__law_motion, defScope s__law_motion, [], []⟩
def d__law_small : He.DefD := ⟨("_law_small", none), "_law_small", "_law_small", defArgs s__law_small, defBody s__law_small, defScope s__law_small, [], []⟩
def d__law_table : He.DefD := ⟨("_law_table", none), "_law_table", "_law_table", defArgs s__law_table, defBody s__law_table, defScope s__law_table, [], []⟩
def d__law_within : He.DefD := ⟨("_law_within", none), "_law_within", "_law_within", defArgs s__law_within, defBody s__law_within, defScope s__law_within, [], []⟩
def d__law_moved : He.DefD := ⟨("_law_moved", none), "_law_moved", "_law_moved", defArgs s__law_moved, defBody s__law_moved, defScope s__law_moved, [], []⟩
def d__law_again : He.DefD := ⟨("_law_again", none), "_law_again", "_law_again", defArgs s__law_again, defBody s__law_again, defScope s__law_again, [], []⟩
def d__law_lattice : He.DefD := ⟨("_law_lattice", none), "_law_lattice", "_law_lattice", defArgs s__law_lattice, defBody s__law_lattice, defScope s__law_lattice, [], []⟩
def d__law_form : He.DefD := ⟨("_law_form", none), "_law_form", "_law_form", defArgs s__law_form, defBody s__law_form, defScope s__law_form, [], []⟩
def d__law_shifts : He.DefD := ⟨("_law_shifts", none), "_law_shifts", "_law_shifts", defArgs s__law_shifts, defBody s__law_shifts, defScope s__law_shifts, [], []⟩
def d__law_less : He.DefD := ⟨("_law_less", none), "_law_less", "_law_less", defArgs s__law_less, defBody s__law_less, defScope s__law_less, [], []⟩
def d__law_least_form : He.DefD := ⟨("_law_least_form", none), "_law_least_form", "_law_least_form", defArgs s__law_least_form, defBody s__law_least_form, defScope s__law_least_form, [], []⟩
def d__law_leads : He.DefD := ⟨("_law_leads", none), "_law_leads", "_law_leads", defArgs s__law_leads, defBody s__law_leads, defScope s__law_leads, [], []⟩
def d__law_between : He.DefD := ⟨("_law_between", none), "_law_between", "_law_between", defArgs s__law_between, defBody s__law_between, defScope s__law_between, [], []⟩
def d__law_is_right : He.DefD := ⟨("_law_is_right", none), "_law_is_right", "_law_is_right", defArgs s__law_is_right, defBody s__law_is_right, defScope s__law_is_right, [], []⟩
def d_law : He.DefD := ⟨("law", none), "law", "law", defArgs s_law, defBody s_law, defScope s_law, [], []⟩
def fn0 : List He.DefD := [d_is_integer, d_is_between, d_is_colour, d_is_list, d_is_cell, d_check_integer, d_greatest_divisor, d_is_shift, d_check_shift, d_check_cell, d_check_basis, d_Lattice___init__, d_Lattice_area, d_Lattice_place, d_Lattice_places, d_check_lattice, d_divisor_sum, d_spanned, d_is_row, d_check_rows, d_check_size, d_sign_at, d_is_period_of, d_divisors_of, d_level_period, d_least_lattice, d_normal_rows, d_rows_by, d_Carpet___init__, d_Carpet_sign]
def fn1 : List He.DefD := [d_Carpet_colour, d_Carpet_lattice, d_Carpet_least, d_Carpet_normal, d_Carpet_in_normal, d_check_colour, d_woven, d_turned_pair, d_back_turn, d_Motion___init__, d_Motion_led_back, d_check_motion, d_moved_carpet, d_check_carpet, d_shifted_rows, d_all_shifted, d_least_form, d_are_like, d_motions_between, d_motion_between, d_own_motions, d__law_pool, d__law_draw, d__law_pick, d__law_woven, d__law_colour, d__law_cells, d__law_turns, d__law_led, d__law_motion]
def fn2 : List He.DefD := [d__law_small, d__law_table, d__law_within, d__law_moved, d__law_again, d__law_lattice, d__law_form, d__law_shifts, d__law_less, d__law_least_form, d__law_leads, d__law_between, d__law_is_right, d_law]
def fn : List He.DefD := fn0 ++ (fn1 ++ (fn2))
def fa0 : List He.Fa := [.glo "is_integer", .glo "is_between", .glo "is_colour", .glo "is_list", .glo "is_cell", .glo "check_integer", .glo "greatest_divisor", .glo "is_shift", .glo "check_shift", .glo "check_cell", .glo "check_basis", .glo "check_lattice", .glo "divisor_sum", .glo "spanned", .glo "is_row", .glo "check_rows", .glo "check_size", .glo "sign_at", .glo "is_period_of", .glo "divisors_of", .glo "level_period", .glo "least_lattice", .glo "normal_rows", .glo "rows_by", .glo "check_colour", .glo "woven", .glo "turned_pair", .glo "back_turn", .glo "check_motion", .glo "moved_carpet"]
def fa1 : List He.Fa := [.glo "check_carpet", .glo "shifted_rows", .glo "all_shifted", .glo "least_form", .glo "are_like", .glo "motions_between", .glo "motion_between", .glo "own_motions", .glo "_law_pool", .glo "_law_draw", .glo "_law_pick", .glo "_law_woven", .glo "_law_colour", .glo "_law_cells", .glo "_law_turns", .glo "_law_led", .glo "_law_motion", .glo "_law_small", .glo "_law_table", .glo "_law_within", .glo "_law_moved", .glo "_law_again", .glo "_law_lattice", .glo "_law_form", .glo "_law_shifts", .glo "_law_less", .glo "_law_least_form", .glo "_law_leads", .glo "_law_between", .glo "_law_is_right"]
def fa2 : List He.Fa := [.glo "law", .glo "PlaneError", .glo "BadPart", .glo "BadNumber", .glo "BadIndex", .glo "NotSo", .glo "TooMany", .glo "Lattice", .glo "Carpet", .glo "Motion", .glo "TURNS", .glo "MATRICES", .glo "BACK_TURNS", .free "isinstance", .free "int", .free "bool", .free "list", .free "tuple", .free "len", .free "all", .free "abs", .free "zip", .free "range", .free "enumerate", .free "super", .free "str", .free "sum", .free "dict", .free "min", .free "max"]
def fa3 : List He.Fa := [.int "MOST_COLOUR" 9, .int "MOST_CELLS" 144, .str "FIGURES" "0123456789", .cls "Lattice", .mkr "Lattice", .noat "Lattice" "a", .noat "Lattice" "b", .noat "Lattice" "d", .meth "Lattice" "area", .meth "Lattice" "place", .meth "Lattice" "places", .cls "Carpet", .mkr "Carpet", .noat "Carpet" "a", .noat "Carpet" "b", .noat "Carpet" "d", .noat "Carpet" "rows", .noat "Carpet" "basis", .noat "Carpet" "shape", .meth "Carpet" "sign", .meth "Carpet" "colour", .meth "Carpet" "lattice", .meth "Carpet" "least", .meth "Carpet" "normal", .meth "Carpet" "in_normal", .cls "Motion", .mkr "Motion", .noat "Motion" "turn", .noat "Motion" "shift", .meth "Motion" "led_back"]
def fa : List He.Fa := fa0 ++ (fa1 ++ (fa2 ++ (fa3)))
def loose0 : List Str := ["_wall", "MOST_COLOUR", "is_integer", "is_between", "is_colour", "is_list", "is_cell", "PlaneError", "BadPart", "BadNumber", "BadIndex", "NotSo", "TooMany", "check_integer", "greatest_divisor", "is_shift", "check_shift", "check_cell", "check_basis", "Lattice", "check_lattice", "divisor_sum", "spanned", "MOST_CELLS", "FIGURES", "is_row", "check_rows", "check_size", "sign_at", "is_period_of"]
def loose1 : List Str := ["divisors_of", "level_period", "least_lattice", "normal_rows", "rows_by", "Carpet", "check_colour", "woven", "TURNS", "MATRICES", "BACK_TURNS", "turned_pair", "back_turn", "turn_of_both", "Motion", "check_motion", "moved_carpet", "check_carpet", "shifted_rows", "all_shifted", "least_form", "are_like", "motions_between", "motion_between", "own_motions", "_law_pool", "_law_draw", "_law_pick", "_law_woven", "_law_colour"]
def loose2 : List Str := ["_law_cells", "_law_turns", "_law_led", "_law_motion", "_law_small", "_law_table", "_law_within", "_law_moved", "_law_again", "_law_lattice", "_law_form", "_law_shifts", "_law_less", "_law_least_form", "_law_leads", "_law_between", "_law_is_right"]
def loose : List Str := loose0 ++ (loose1 ++ (loose2))
abbrev R : PySem.W.OpenRow := PySem.W.OpenLaw.row PySem.Challenge.rw_endlessplane_k84_whole_likeness_of_small
/-- the tuple at a holds these -/
def tupAtB (K : PySem.W.Frag) (a : Addr) (vs : List He.Dv) : Bool := match K.lookup a with
  | some ⟨.type c, _, .seq its _, _⟩ => decide (c = "tuple") && (decide (its.size ≤ sizeLine) && He.relAll (vs.map (He.Dv.v K)) its.toList)
  | _ => false
/-- the value of a key of a dict of the top, if it is an object -/
def keyAt (D : Str) (x : Str) (K : PySem.W.Frag) : Addr := match PySem.W.nsIn K (He.ga K D) x with
  | some (some (.ref b)) => b
  | _ => 0
def turnsL : List Str := ["stay", "left", "back", "right", "mirror", "flip", "swap", "cross"]
def matrL : List (Str × List Int) := [("stay", [1, 0, 0, 1]), ("left", [0, -1, 1, 0]), ("back", [-1, 0, 0, -1]), ("right", [0, 1, -1, 0]), ("mirror", [-1, 0, 0, 1]), ("flip", [1, 0, 0, -1]), ("swap", [0, 1, 1, 0]), ("cross", [0, -1, -1, 0])]
def ownB (K : PySem.W.Frag) (C : Str) : Bool := He.eqO (PySem.W.findIn K (.ref (He.ga K C)) "__class__") (some (some (.builtin "object.__class__"))) &&
  (He.eqO (PySem.W.specialIn K (.builtin "object.__class__") "__get__") (some (some (.builtin "getset_descriptor.__get__"))) &&
  (decide (PySem.W.takesIn K (.builtin "object.__class__") = some true) && (decide (PySem.W.mroIn K (He.ga K C) (.type "object") = some true) && decide (PySem.W.kitOne K (.ref (He.ga K C)) (.ref (He.ga K C)) = some true))))
def turnsB (K : PySem.W.Frag) : Bool := He.tupB K "TURNS" (turnsL.map He.Dv.str)
def matrB (K : PySem.W.Frag) : Bool := He.valsB K (He.ga K "MATRICES") (matrL.map fun p => (p.1, He.Dv.adr (keyAt "MATRICES" p.1)))
def matr2B (K : PySem.W.Frag) : Bool := matrL.all fun p => tupAtB K (keyAt "MATRICES" p.1 K) (p.2.map He.Dv.int)
def backL : List (Str × He.Dv) := [("left", .str "right"), ("right", .str "left")]
def backB (K : PySem.W.Frag) : Bool := He.valsB K (He.ga K "BACK_TURNS") backL
def back2B (K : PySem.W.Frag) : Bool := ["stay", "back", "mirror", "flip", "swap", "cross"].all fun x => He.eqO (PySem.W.nsIn K (He.ga K "BACK_TURNS") x) (some none)
def dflB (K : PySem.W.Frag) : Bool := tupAtB K (He.dflAt ("Motion", some "__init__") 0 K) [.int 0, .int 0]
def exL : List (PySem.W.Frag → Bool) := [turnsB, matrB, matr2B, backB, dflB, (ownB · "Lattice"), (ownB · "Carpet"), (ownB · "Motion"), back2B, (fun K => decide ((He.cT K ("moved_carpet", none)).2 ≠ (He.cT K ("woven", none)).2))]
def exB (K : PySem.W.Frag) : Bool := exL.all fun f => f K
def ts : List He.Tab := [((fun K => He.ga K "MATRICES"), turnsL), ((fun K => He.ga K "BACK_TURNS"), ["left", "right"])]
def tf : List He.Defn := [("moved_carpet", none), ("woven", none)]
/-! the objects that the walk asks about, by kind: the module's own dict, its functions, classes, tuples, dicts; their code objects, defaults, namespaces; the methods and theirs -/
def kindOk (g : Addr → Option Obj) : Value → List Addr
  | .ref a => (match g a with
    | some ⟨_, _, .func _, _⟩ => [a]
    | some ⟨_, _, .cls _, _⟩ => [a]
    | some ⟨_, _, .seq _ _, _⟩ => [a]
    | some ⟨_, _, .dict _ _, _⟩ => [a]
    | _ => [])
  | _ => []
def below (g : Addr → Option Obj) (a : Addr) : List Addr := match g a with
  | some ⟨_, _, .func fd, _⟩ => He.refV fd.code ++ He.refV fd.defaults
  | some ⟨_, _, .cls cd, _⟩ => [cd.ns]
  | some ⟨_, _, .dict es _, _⟩ => es.toList.flatMap fun e => kindOk g e.val
  | _ => []
def lv1 (g : Addr → Option Obj) : List Addr := below g mainGlobals
def lv2 (g : Addr → Option Obj) : List Addr := (lv1 g).flatMap (below g)
def lv3 (g : Addr → Option Obj) : List Addr := (lv2 g).flatMap fun a => match g a with
  | some ⟨_, _, .dict es _, _⟩ => es.toList.flatMap fun e => kindOk g e.val
  | _ => []
def lv4 (g : Addr → Option Obj) : List Addr := (lv3 g).flatMap fun a => match g a with
  | some ⟨_, _, .func fd, _⟩ => He.refV fd.code ++ He.refV fd.defaults
  | _ => []
def lv5 (g : Addr → Option Obj) : List Addr := (lv4 g).flatMap fun a => match g a with
  | some ⟨_, _, .seq its _, _⟩ => its.toList.flatMap He.refV
  | _ => []
def asK (g : Addr → Option Obj) : List Addr := mainGlobals :: (lv1 g ++ (lv2 g ++ (lv3 g ++ (lv4 g ++ lv5 g))))
def frK (g : Addr → Option Obj) : PySem.W.Frag := He.frT g (asK g)
def obsK (g : Addr → Option Obj) : He.AlX := (He.obsT fa fn ts (frK g), exB (frK g) && He.tabsB g tf (frK g))
theorem says_of {w : World} {h : Heap} (q : obsK h.get? = He.valX fn ts w) : He.SaysX fa fn ts tf exB w h (frK h.get?) := by
  have q1 : He.obsT fa fn ts (frK h.get?) = He.valT fn ts w := congrArg Prod.fst q
  have q2 : (exB (frK h.get?) && He.tabsB h.get? tf (frK h.get?)) = true := congrArg Prod.snd q
  have q3 := Bool.and_eq_true_iff.mp q2
  have each : ∀ p ∈ tf, PySem.W.codeHdIn (frK h.get?) (He.cT (frK h.get?) p).1 (He.cT (frK h.get?) p).2 = true ∧ ∃ o, h.get? (He.cT (frK h.get?) p).2 = some o ∧ He.emptyTab o = true := by
    intro p hp
    have r := Bool.and_eq_true_iff.mp (List.all_eq_true.mp q3.2 p hp)
    refine ⟨r.1, ?_⟩
    have r2 := r.2
    revert r2
    cases h.get? (He.cT (frK h.get?) p).2 with
    | none => intro z; cases z
    | some o => intro z; exact ⟨o, rfl, z⟩
  refine ⟨q1, q3.1, fun p hp => (each p hp).1, ?_, ?_⟩
  · intro p hp
    obtain ⟨_, o, z1, z2⟩ := each p hp
    exact He.frT_none z1 z2
  · intro p hp
    obtain ⟨_, o, z1, z2⟩ := each p hp
    rw [z1, He.emptyTab_eq z2]
def hk : PySem.W.Hook where
  α := He.AlX
  obs := fun s => obsK s.heap.get?
  val := fun w => He.valX fn ts w
  says := fun w h => ∃ K : PySem.W.Frag, K.In h ∧ He.SaysX fa fn ts tf exB w h K
  of := fun _ _ q => ⟨_, He.frT_in, says_of q⟩
  keeps := (He.hookX 5 fa fn ts tf exB).keeps
def ob (s : PySem.W.SharedT) : He.AlX := obsK (HandSHeadRun.getT s)
theorem ob_eq (s : PySem.W.SharedT) : ob s = hk.obs s.abs := by
  have e : HandSHeadRun.getT s = s.abs.heap.get? := funext (HandSHeadRun.getT_eq s)
  unfold ob
  rw [e]
  rfl
theorem run (w : World) : HandSHeadRun.RunEq R (PySem.W.view R.prog [86]) hk ob 6000 loose w := by
  revert w
  refine PySem.W.byRow2 "special-get-raises" (fun w os => ?_) (fun w os => ?_)
  · kernel_rfl
  · kernel_rfl
end K84
set_option Elab.async false
set_option linter.all false
set_option maxRecDepth 100000
set_option maxHeartbeats 2000000
/-! the facts of the top, each under a name -/
namespace K84
open PySem PySem.Spec PyProof.Rows L2
abbrev CL (K : PySem.W.Frag) : Addr := He.ga K "Lattice"
abbrev CC (K : PySem.W.Frag) : Addr := He.ga K "Carpet"
abbrev CM (K : PySem.W.Frag) : Addr := He.ga K "Motion"
/-- all that the walk asks of the top -/
structure Txt (w : World) (K : PySem.W.Frag) (mg : Str → Option Value) : Prop where
  ex : ∃ h, K.In h ∧ h.Ns mainGlobals mg ∧ He.SaysX fa fn ts tf exB w h K
section
variable {w : World} {K : PySem.W.Frag} {mg : Str → Option Value}
theorem Txt.fa (T : Txt w K mg) (i : Nat) {f : He.Fa} (h : K84.fa[i]? = some f) : f.ok K = true := by
  obtain ⟨_, _, _, c⟩ := T.ex
  exact c.t.d.fact i h
theorem Txt.fn (T : Txt w K mg) (i : Nat) {d : He.DefD} (h : K84.fn[i]? = some d) : ∃ fd, FunD K d.name d.qual d.params d.body d.scope (d.dvs K) (d.kws K) (He.fAd K d.at_) fd := by
  obtain ⟨_, _, _, c⟩ := T.ex
  exact c.t.d.def_ i h
theorem Txt.glo (T : Txt w K mg) (i : Nat) {x : Str} (h : K84.fa[i]? = some (.glo x)) : mg x = some (.ref (He.ga K x)) := by
  obtain ⟨_, a, b, c⟩ := T.ex
  exact He.glo_ok a b (c.t.d.fact i h)
theorem Txt.free (T : Txt w K mg) (i : Nat) {x : Str} (h : K84.fa[i]? = some (.free x)) : mg x = none := by
  obtain ⟨_, a, b, c⟩ := T.ex
  exact He.free_ok a b (c.t.d.fact i h)
theorem Txt.int (T : Txt w K mg) (i : Nat) {x : Str} {z : Int} (h : K84.fa[i]? = some (.int x z)) : ∃ t, mg x = some (.int z t) := by
  obtain ⟨_, a, b, c⟩ := T.ex
  exact He.int_ok a b (c.t.d.fact i h)
theorem Txt.str (T : Txt w K mg) (i : Nat) {x z : Str} (h : K84.fa[i]? = some (.str x z)) : ∃ t, mg x = some (.str z t) := by
  obtain ⟨_, a, b, c⟩ := T.ex
  exact He.str_ok a b (c.t.d.fact i h)
theorem Txt.exf (T : Txt w K mg) (i : Nat) {f : PySem.W.Frag → Bool} (h : exL[i]? = some f) : f K = true := by
  obtain ⟨_, _, _, c⟩ := T.ex
  exact List.all_eq_true.mp c.more f (List.mem_of_getElem? h)
theorem Txt.tab (T : Txt w K mg) (i : Nat) {t : He.Tab} (h : ts[i]? = some t) : ∃ es n, KDict K w (t.1 K) es n := by
  obtain ⟨_, _, _, c⟩ := T.ex
  exact c.t.tab i h
theorem Txt.g_is_integer (T : Txt w K mg) : mg "is_integer" = some (.ref (He.ga K "is_integer")) := T.glo 0 rfl
theorem Txt.g_is_between (T : Txt w K mg) : mg "is_between" = some (.ref (He.ga K "is_between")) := T.glo 1 rfl
theorem Txt.g_is_colour (T : Txt w K mg) : mg "is_colour" = some (.ref (He.ga K "is_colour")) := T.glo 2 rfl
theorem Txt.g_is_list (T : Txt w K mg) : mg "is_list" = some (.ref (He.ga K "is_list")) := T.glo 3 rfl
theorem Txt.g_is_cell (T : Txt w K mg) : mg "is_cell" = some (.ref (He.ga K "is_cell")) := T.glo 4 rfl
theorem Txt.g_check_integer (T : Txt w K mg) : mg "check_integer" = some (.ref (He.ga K "check_integer")) := T.glo 5 rfl
theorem Txt.g_greatest_divisor (T : Txt w K mg) : mg "greatest_divisor" = some (.ref (He.ga K "greatest_divisor")) := T.glo 6 rfl
theorem Txt.g_is_shift (T : Txt w K mg) : mg "is_shift" = some (.ref (He.ga K "is_shift")) := T.glo 7 rfl
theorem Txt.g_check_shift (T : Txt w K mg) : mg "check_shift" = some (.ref (He.ga K "check_shift")) := T.glo 8 rfl
theorem Txt.g_check_cell (T : Txt w K mg) : mg "check_cell" = some (.ref (He.ga K "check_cell")) := T.glo 9 rfl
theorem Txt.g_check_basis (T : Txt w K mg) : mg "check_basis" = some (.ref (He.ga K "check_basis")) := T.glo 10 rfl
theorem Txt.g_check_lattice (T : Txt w K mg) : mg "check_lattice" = some (.ref (He.ga K "check_lattice")) := T.glo 11 rfl
theorem Txt.g_divisor_sum (T : Txt w K mg) : mg "divisor_sum" = some (.ref (He.ga K "divisor_sum")) := T.glo 12 rfl
theorem Txt.g_spanned (T : Txt w K mg) : mg "spanned" = some (.ref (He.ga K "spanned")) := T.glo 13 rfl
theorem Txt.g_is_row (T : Txt w K mg) : mg "is_row" = some (.ref (He.ga K "is_row")) := T.glo 14 rfl
theorem Txt.g_check_rows (T : Txt w K mg) : mg "check_rows" = some (.ref (He.ga K "check_rows")) := T.glo 15 rfl
theorem Txt.g_check_size (T : Txt w K mg) : mg "check_size" = some (.ref (He.ga K "check_size")) := T.glo 16 rfl
theorem Txt.g_sign_at (T : Txt w K mg) : mg "sign_at" = some (.ref (He.ga K "sign_at")) := T.glo 17 rfl
theorem Txt.g_is_period_of (T : Txt w K mg) : mg "is_period_of" = some (.ref (He.ga K "is_period_of")) := T.glo 18 rfl
theorem Txt.g_divisors_of (T : Txt w K mg) : mg "divisors_of" = some (.ref (He.ga K "divisors_of")) := T.glo 19 rfl
theorem Txt.g_level_period (T : Txt w K mg) : mg "level_period" = some (.ref (He.ga K "level_period")) := T.glo 20 rfl
theorem Txt.g_least_lattice (T : Txt w K mg) : mg "least_lattice" = some (.ref (He.ga K "least_lattice")) := T.glo 21 rfl
theorem Txt.g_normal_rows (T : Txt w K mg) : mg "normal_rows" = some (.ref (He.ga K "normal_rows")) := T.glo 22 rfl
theorem Txt.g_rows_by (T : Txt w K mg) : mg "rows_by" = some (.ref (He.ga K "rows_by")) := T.glo 23 rfl
theorem Txt.g_check_colour (T : Txt w K mg) : mg "check_colour" = some (.ref (He.ga K "check_colour")) := T.glo 24 rfl
theorem Txt.g_woven (T : Txt w K mg) : mg "woven" = some (.ref (He.ga K "woven")) := T.glo 25 rfl
theorem Txt.g_turned_pair (T : Txt w K mg) : mg "turned_pair" = some (.ref (He.ga K "turned_pair")) := T.glo 26 rfl
theorem Txt.g_back_turn (T : Txt w K mg) : mg "back_turn" = some (.ref (He.ga K "back_turn")) := T.glo 27 rfl
theorem Txt.g_check_motion (T : Txt w K mg) : mg "check_motion" = some (.ref (He.ga K "check_motion")) := T.glo 28 rfl
theorem Txt.g_moved_carpet (T : Txt w K mg) : mg "moved_carpet" = some (.ref (He.ga K "moved_carpet")) := T.glo 29 rfl
theorem Txt.g_check_carpet (T : Txt w K mg) : mg "check_carpet" = some (.ref (He.ga K "check_carpet")) := T.glo 30 rfl
theorem Txt.g_shifted_rows (T : Txt w K mg) : mg "shifted_rows" = some (.ref (He.ga K "shifted_rows")) := T.glo 31 rfl
theorem Txt.g_all_shifted (T : Txt w K mg) : mg "all_shifted" = some (.ref (He.ga K "all_shifted")) := T.glo 32 rfl
theorem Txt.g_least_form (T : Txt w K mg) : mg "least_form" = some (.ref (He.ga K "least_form")) := T.glo 33 rfl
theorem Txt.g_are_like (T : Txt w K mg) : mg "are_like" = some (.ref (He.ga K "are_like")) := T.glo 34 rfl
theorem Txt.g_motions_between (T : Txt w K mg) : mg "motions_between" = some (.ref (He.ga K "motions_between")) := T.glo 35 rfl
theorem Txt.g_motion_between (T : Txt w K mg) : mg "motion_between" = some (.ref (He.ga K "motion_between")) := T.glo 36 rfl
theorem Txt.g_own_motions (T : Txt w K mg) : mg "own_motions" = some (.ref (He.ga K "own_motions")) := T.glo 37 rfl
theorem Txt.g__law_pool (T : Txt w K mg) : mg "_law_pool" = some (.ref (He.ga K "_law_pool")) := T.glo 38 rfl
theorem Txt.g__law_draw (T : Txt w K mg) : mg "_law_draw" = some (.ref (He.ga K "_law_draw")) := T.glo 39 rfl
theorem Txt.g__law_pick (T : Txt w K mg) : mg "_law_pick" = some (.ref (He.ga K "_law_pick")) := T.glo 40 rfl
theorem Txt.g__law_woven (T : Txt w K mg) : mg "_law_woven" = some (.ref (He.ga K "_law_woven")) := T.glo 41 rfl
theorem Txt.g__law_colour (T : Txt w K mg) : mg "_law_colour" = some (.ref (He.ga K "_law_colour")) := T.glo 42 rfl
theorem Txt.g__law_cells (T : Txt w K mg) : mg "_law_cells" = some (.ref (He.ga K "_law_cells")) := T.glo 43 rfl
theorem Txt.g__law_turns (T : Txt w K mg) : mg "_law_turns" = some (.ref (He.ga K "_law_turns")) := T.glo 44 rfl
theorem Txt.g__law_led (T : Txt w K mg) : mg "_law_led" = some (.ref (He.ga K "_law_led")) := T.glo 45 rfl
theorem Txt.g__law_motion (T : Txt w K mg) : mg "_law_motion" = some (.ref (He.ga K "_law_motion")) := T.glo 46 rfl
theorem Txt.g__law_small (T : Txt w K mg) : mg "_law_small" = some (.ref (He.ga K "_law_small")) := T.glo 47 rfl
theorem Txt.g__law_table (T : Txt w K mg) : mg "_law_table" = some (.ref (He.ga K "_law_table")) := T.glo 48 rfl
theorem Txt.g__law_within (T : Txt w K mg) : mg "_law_within" = some (.ref (He.ga K "_law_within")) := T.glo 49 rfl
theorem Txt.g__law_moved (T : Txt w K mg) : mg "_law_moved" = some (.ref (He.ga K "_law_moved")) := T.glo 50 rfl
theorem Txt.g__law_again (T : Txt w K mg) : mg "_law_again" = some (.ref (He.ga K "_law_again")) := T.glo 51 rfl
theorem Txt.g__law_lattice (T : Txt w K mg) : mg "_law_lattice" = some (.ref (He.ga K "_law_lattice")) := T.glo 52 rfl
theorem Txt.g__law_form (T : Txt w K mg) : mg "_law_form" = some (.ref (He.ga K "_law_form")) := T.glo 53 rfl
theorem Txt.g__law_shifts (T : Txt w K mg) : mg "_law_shifts" = some (.ref (He.ga K "_law_shifts")) := T.glo 54 rfl
theorem Txt.g__law_less (T : Txt w K mg) : mg "_law_less" = some (.ref (He.ga K "_law_less")) := T.glo 55 rfl
theorem Txt.g__law_least_form (T : Txt w K mg) : mg "_law_least_form" = some (.ref (He.ga K "_law_least_form")) := T.glo 56 rfl
theorem Txt.g__law_leads (T : Txt w K mg) : mg "_law_leads" = some (.ref (He.ga K "_law_leads")) := T.glo 57 rfl
theorem Txt.g__law_between (T : Txt w K mg) : mg "_law_between" = some (.ref (He.ga K "_law_between")) := T.glo 58 rfl
theorem Txt.g__law_is_right (T : Txt w K mg) : mg "_law_is_right" = some (.ref (He.ga K "_law_is_right")) := T.glo 59 rfl
theorem Txt.g_law (T : Txt w K mg) : mg "law" = some (.ref (He.ga K "law")) := T.glo 60 rfl
theorem Txt.g_PlaneError (T : Txt w K mg) : mg "PlaneError" = some (.ref (He.ga K "PlaneError")) := T.glo 61 rfl
theorem Txt.g_BadPart (T : Txt w K mg) : mg "BadPart" = some (.ref (He.ga K "BadPart")) := T.glo 62 rfl
theorem Txt.g_BadNumber (T : Txt w K mg) : mg "BadNumber" = some (.ref (He.ga K "BadNumber")) := T.glo 63 rfl
theorem Txt.g_BadIndex (T : Txt w K mg) : mg "BadIndex" = some (.ref (He.ga K "BadIndex")) := T.glo 64 rfl
theorem Txt.g_NotSo (T : Txt w K mg) : mg "NotSo" = some (.ref (He.ga K "NotSo")) := T.glo 65 rfl
theorem Txt.g_TooMany (T : Txt w K mg) : mg "TooMany" = some (.ref (He.ga K "TooMany")) := T.glo 66 rfl
theorem Txt.g_Lattice (T : Txt w K mg) : mg "Lattice" = some (.ref (He.ga K "Lattice")) := T.glo 67 rfl
theorem Txt.g_Carpet (T : Txt w K mg) : mg "Carpet" = some (.ref (He.ga K "Carpet")) := T.glo 68 rfl
theorem Txt.g_Motion (T : Txt w K mg) : mg "Motion" = some (.ref (He.ga K "Motion")) := T.glo 69 rfl
theorem Txt.g_TURNS (T : Txt w K mg) : mg "TURNS" = some (.ref (He.ga K "TURNS")) := T.glo 70 rfl
theorem Txt.g_MATRICES (T : Txt w K mg) : mg "MATRICES" = some (.ref (He.ga K "MATRICES")) := T.glo 71 rfl
theorem Txt.g_BACK_TURNS (T : Txt w K mg) : mg "BACK_TURNS" = some (.ref (He.ga K "BACK_TURNS")) := T.glo 72 rfl
theorem Txt.f_isinstance (T : Txt w K mg) : mg "isinstance" = none := T.free 73 rfl
theorem Txt.f_int (T : Txt w K mg) : mg "int" = none := T.free 74 rfl
theorem Txt.f_bool (T : Txt w K mg) : mg "bool" = none := T.free 75 rfl
theorem Txt.f_list (T : Txt w K mg) : mg "list" = none := T.free 76 rfl
theorem Txt.f_tuple (T : Txt w K mg) : mg "tuple" = none := T.free 77 rfl
theorem Txt.f_len (T : Txt w K mg) : mg "len" = none := T.free 78 rfl
theorem Txt.f_all (T : Txt w K mg) : mg "all" = none := T.free 79 rfl
theorem Txt.f_abs (T : Txt w K mg) : mg "abs" = none := T.free 80 rfl
theorem Txt.f_zip (T : Txt w K mg) : mg "zip" = none := T.free 81 rfl
theorem Txt.f_range (T : Txt w K mg) : mg "range" = none := T.free 82 rfl
theorem Txt.f_enumerate (T : Txt w K mg) : mg "enumerate" = none := T.free 83 rfl
theorem Txt.f_super (T : Txt w K mg) : mg "super" = none := T.free 84 rfl
theorem Txt.f_str (T : Txt w K mg) : mg "str" = none := T.free 85 rfl
theorem Txt.f_sum (T : Txt w K mg) : mg "sum" = none := T.free 86 rfl
theorem Txt.f_dict (T : Txt w K mg) : mg "dict" = none := T.free 87 rfl
theorem Txt.f_min (T : Txt w K mg) : mg "min" = none := T.free 88 rfl
theorem Txt.f_max (T : Txt w K mg) : mg "max" = none := T.free 89 rfl
theorem Txt.i_MOST_COLOUR (T : Txt w K mg) : ∃ t, mg "MOST_COLOUR" = some (.int 9 t) := T.int 90 rfl
theorem Txt.i_MOST_CELLS (T : Txt w K mg) : ∃ t, mg "MOST_CELLS" = some (.int 144 t) := T.int 91 rfl
theorem Txt.s_FIGURES (T : Txt w K mg) : ∃ t, mg "FIGURES" = some (.str "0123456789" t) := T.str 92 rfl
theorem Txt.c_Lattice (T : Txt w K mg) : Cls K (He.ga K "Lattice") := He.cls_ok (T.fa 93 rfl)
theorem Txt.mk_Lattice (T : Txt w K mg) : Mk K (He.ga K "Lattice") (He.ma K (He.ga K "Lattice") "__init__") := He.mkr_ok (T.fa 94 rfl)
theorem Txt.n_Lattice_a (T : Txt w K mg) : NoAttr K (He.ga K "Lattice") "a" := He.noat_ok (T.fa 95 rfl)
theorem Txt.n_Lattice_b (T : Txt w K mg) : NoAttr K (He.ga K "Lattice") "b" := He.noat_ok (T.fa 96 rfl)
theorem Txt.n_Lattice_d (T : Txt w K mg) : NoAttr K (He.ga K "Lattice") "d" := He.noat_ok (T.fa 97 rfl)
theorem Txt.m_Lattice_area (T : Txt w K mg) : Meth K (He.ga K "Lattice") "area" (He.ma K (He.ga K "Lattice") "area") := He.meth_ok (T.fa 98 rfl)
theorem Txt.m_Lattice_place (T : Txt w K mg) : Meth K (He.ga K "Lattice") "place" (He.ma K (He.ga K "Lattice") "place") := He.meth_ok (T.fa 99 rfl)
theorem Txt.m_Lattice_places (T : Txt w K mg) : Meth K (He.ga K "Lattice") "places" (He.ma K (He.ga K "Lattice") "places") := He.meth_ok (T.fa 100 rfl)
theorem Txt.c_Carpet (T : Txt w K mg) : Cls K (He.ga K "Carpet") := He.cls_ok (T.fa 101 rfl)
theorem Txt.mk_Carpet (T : Txt w K mg) : Mk K (He.ga K "Carpet") (He.ma K (He.ga K "Carpet") "__init__") := He.mkr_ok (T.fa 102 rfl)
theorem Txt.n_Carpet_a (T : Txt w K mg) : NoAttr K (He.ga K "Carpet") "a" := He.noat_ok (T.fa 103 rfl)
theorem Txt.n_Carpet_b (T : Txt w K mg) : NoAttr K (He.ga K "Carpet") "b" := He.noat_ok (T.fa 104 rfl)
theorem Txt.n_Carpet_d (T : Txt w K mg) : NoAttr K (He.ga K "Carpet") "d" := He.noat_ok (T.fa 105 rfl)
theorem Txt.n_Carpet_rows (T : Txt w K mg) : NoAttr K (He.ga K "Carpet") "rows" := He.noat_ok (T.fa 106 rfl)
theorem Txt.n_Carpet_basis (T : Txt w K mg) : NoAttr K (He.ga K "Carpet") "basis" := He.noat_ok (T.fa 107 rfl)
theorem Txt.n_Carpet_shape (T : Txt w K mg) : NoAttr K (He.ga K "Carpet") "shape" := He.noat_ok (T.fa 108 rfl)
theorem Txt.m_Carpet_sign (T : Txt w K mg) : Meth K (He.ga K "Carpet") "sign" (He.ma K (He.ga K "Carpet") "sign") := He.meth_ok (T.fa 109 rfl)
theorem Txt.m_Carpet_colour (T : Txt w K mg) : Meth K (He.ga K "Carpet") "colour" (He.ma K (He.ga K "Carpet") "colour") := He.meth_ok (T.fa 110 rfl)
theorem Txt.m_Carpet_lattice (T : Txt w K mg) : Meth K (He.ga K "Carpet") "lattice" (He.ma K (He.ga K "Carpet") "lattice") := He.meth_ok (T.fa 111 rfl)
theorem Txt.m_Carpet_least (T : Txt w K mg) : Meth K (He.ga K "Carpet") "least" (He.ma K (He.ga K "Carpet") "least") := He.meth_ok (T.fa 112 rfl)
theorem Txt.m_Carpet_normal (T : Txt w K mg) : Meth K (He.ga K "Carpet") "normal" (He.ma K (He.ga K "Carpet") "normal") := He.meth_ok (T.fa 113 rfl)
theorem Txt.m_Carpet_in_normal (T : Txt w K mg) : Meth K (He.ga K "Carpet") "in_normal" (He.ma K (He.ga K "Carpet") "in_normal") := He.meth_ok (T.fa 114 rfl)
theorem Txt.c_Motion (T : Txt w K mg) : Cls K (He.ga K "Motion") := He.cls_ok (T.fa 115 rfl)
theorem Txt.mk_Motion (T : Txt w K mg) : Mk K (He.ga K "Motion") (He.ma K (He.ga K "Motion") "__init__") := He.mkr_ok (T.fa 116 rfl)
theorem Txt.n_Motion_turn (T : Txt w K mg) : NoAttr K (He.ga K "Motion") "turn" := He.noat_ok (T.fa 117 rfl)
theorem Txt.n_Motion_shift (T : Txt w K mg) : NoAttr K (He.ga K "Motion") "shift" := He.noat_ok (T.fa 118 rfl)
theorem Txt.m_Motion_led_back (T : Txt w K mg) : Meth K (He.ga K "Motion") "led_back" (He.ma K (He.ga K "Motion") "led_back") := He.meth_ok (T.fa 119 rfl)
theorem Txt.d_is_integer (T : Txt w K mg) : ∃ fd, FunD K d_is_integer.name d_is_integer.qual d_is_integer.params d_is_integer.body d_is_integer.scope (d_is_integer.dvs K) (d_is_integer.kws K) (He.fAd K d_is_integer.at_) fd := T.fn 0 rfl
theorem Txt.d_is_between (T : Txt w K mg) : ∃ fd, FunD K d_is_between.name d_is_between.qual d_is_between.params d_is_between.body d_is_between.scope (d_is_between.dvs K) (d_is_between.kws K) (He.fAd K d_is_between.at_) fd := T.fn 1 rfl
theorem Txt.d_is_colour (T : Txt w K mg) : ∃ fd, FunD K d_is_colour.name d_is_colour.qual d_is_colour.params d_is_colour.body d_is_colour.scope (d_is_colour.dvs K) (d_is_colour.kws K) (He.fAd K d_is_colour.at_) fd := T.fn 2 rfl
theorem Txt.d_is_list (T : Txt w K mg) : ∃ fd, FunD K d_is_list.name d_is_list.qual d_is_list.params d_is_list.body d_is_list.scope (d_is_list.dvs K) (d_is_list.kws K) (He.fAd K d_is_list.at_) fd := T.fn 3 rfl
theorem Txt.d_is_cell (T : Txt w K mg) : ∃ fd, FunD K d_is_cell.name d_is_cell.qual d_is_cell.params d_is_cell.body d_is_cell.scope (d_is_cell.dvs K) (d_is_cell.kws K) (He.fAd K d_is_cell.at_) fd := T.fn 4 rfl
theorem Txt.d_check_integer (T : Txt w K mg) : ∃ fd, FunD K d_check_integer.name d_check_integer.qual d_check_integer.params d_check_integer.body d_check_integer.scope (d_check_integer.dvs K) (d_check_integer.kws K) (He.fAd K d_check_integer.at_) fd := T.fn 5 rfl
theorem Txt.d_greatest_divisor (T : Txt w K mg) : ∃ fd, FunD K d_greatest_divisor.name d_greatest_divisor.qual d_greatest_divisor.params d_greatest_divisor.body d_greatest_divisor.scope (d_greatest_divisor.dvs K) (d_greatest_divisor.kws K) (He.fAd K d_greatest_divisor.at_) fd := T.fn 6 rfl
theorem Txt.d_is_shift (T : Txt w K mg) : ∃ fd, FunD K d_is_shift.name d_is_shift.qual d_is_shift.params d_is_shift.body d_is_shift.scope (d_is_shift.dvs K) (d_is_shift.kws K) (He.fAd K d_is_shift.at_) fd := T.fn 7 rfl
theorem Txt.d_check_shift (T : Txt w K mg) : ∃ fd, FunD K d_check_shift.name d_check_shift.qual d_check_shift.params d_check_shift.body d_check_shift.scope (d_check_shift.dvs K) (d_check_shift.kws K) (He.fAd K d_check_shift.at_) fd := T.fn 8 rfl
theorem Txt.d_check_cell (T : Txt w K mg) : ∃ fd, FunD K d_check_cell.name d_check_cell.qual d_check_cell.params d_check_cell.body d_check_cell.scope (d_check_cell.dvs K) (d_check_cell.kws K) (He.fAd K d_check_cell.at_) fd := T.fn 9 rfl
theorem Txt.d_check_basis (T : Txt w K mg) : ∃ fd, FunD K d_check_basis.name d_check_basis.qual d_check_basis.params d_check_basis.body d_check_basis.scope (d_check_basis.dvs K) (d_check_basis.kws K) (He.fAd K d_check_basis.at_) fd := T.fn 10 rfl
theorem Txt.d_Lattice___init__ (T : Txt w K mg) : ∃ fd, FunD K d_Lattice___init__.name d_Lattice___init__.qual d_Lattice___init__.params d_Lattice___init__.body d_Lattice___init__.scope (d_Lattice___init__.dvs K) (d_Lattice___init__.kws K) (He.fAd K d_Lattice___init__.at_) fd := T.fn 11 rfl
theorem Txt.d_Lattice_area (T : Txt w K mg) : ∃ fd, FunD K d_Lattice_area.name d_Lattice_area.qual d_Lattice_area.params d_Lattice_area.body d_Lattice_area.scope (d_Lattice_area.dvs K) (d_Lattice_area.kws K) (He.fAd K d_Lattice_area.at_) fd := T.fn 12 rfl
theorem Txt.d_Lattice_place (T : Txt w K mg) : ∃ fd, FunD K d_Lattice_place.name d_Lattice_place.qual d_Lattice_place.params d_Lattice_place.body d_Lattice_place.scope (d_Lattice_place.dvs K) (d_Lattice_place.kws K) (He.fAd K d_Lattice_place.at_) fd := T.fn 13 rfl
theorem Txt.d_Lattice_places (T : Txt w K mg) : ∃ fd, FunD K d_Lattice_places.name d_Lattice_places.qual d_Lattice_places.params d_Lattice_places.body d_Lattice_places.scope (d_Lattice_places.dvs K) (d_Lattice_places.kws K) (He.fAd K d_Lattice_places.at_) fd := T.fn 14 rfl
theorem Txt.d_check_lattice (T : Txt w K mg) : ∃ fd, FunD K d_check_lattice.name d_check_lattice.qual d_check_lattice.params d_check_lattice.body d_check_lattice.scope (d_check_lattice.dvs K) (d_check_lattice.kws K) (He.fAd K d_check_lattice.at_) fd := T.fn 15 rfl
theorem Txt.d_divisor_sum (T : Txt w K mg) : ∃ fd, FunD K d_divisor_sum.name d_divisor_sum.qual d_divisor_sum.params d_divisor_sum.body d_divisor_sum.scope (d_divisor_sum.dvs K) (d_divisor_sum.kws K) (He.fAd K d_divisor_sum.at_) fd := T.fn 16 rfl
theorem Txt.d_spanned (T : Txt w K mg) : ∃ fd, FunD K d_spanned.name d_spanned.qual d_spanned.params d_spanned.body d_spanned.scope (d_spanned.dvs K) (d_spanned.kws K) (He.fAd K d_spanned.at_) fd := T.fn 17 rfl
theorem Txt.d_is_row (T : Txt w K mg) : ∃ fd, FunD K d_is_row.name d_is_row.qual d_is_row.params d_is_row.body d_is_row.scope (d_is_row.dvs K) (d_is_row.kws K) (He.fAd K d_is_row.at_) fd := T.fn 18 rfl
theorem Txt.d_check_rows (T : Txt w K mg) : ∃ fd, FunD K d_check_rows.name d_check_rows.qual d_check_rows.params d_check_rows.body d_check_rows.scope (d_check_rows.dvs K) (d_check_rows.kws K) (He.fAd K d_check_rows.at_) fd := T.fn 19 rfl
theorem Txt.d_check_size (T : Txt w K mg) : ∃ fd, FunD K d_check_size.name d_check_size.qual d_check_size.params d_check_size.body d_check_size.scope (d_check_size.dvs K) (d_check_size.kws K) (He.fAd K d_check_size.at_) fd := T.fn 20 rfl
theorem Txt.d_sign_at (T : Txt w K mg) : ∃ fd, FunD K d_sign_at.name d_sign_at.qual d_sign_at.params d_sign_at.body d_sign_at.scope (d_sign_at.dvs K) (d_sign_at.kws K) (He.fAd K d_sign_at.at_) fd := T.fn 21 rfl
theorem Txt.d_is_period_of (T : Txt w K mg) : ∃ fd, FunD K d_is_period_of.name d_is_period_of.qual d_is_period_of.params d_is_period_of.body d_is_period_of.scope (d_is_period_of.dvs K) (d_is_period_of.kws K) (He.fAd K d_is_period_of.at_) fd := T.fn 22 rfl
theorem Txt.d_divisors_of (T : Txt w K mg) : ∃ fd, FunD K d_divisors_of.name d_divisors_of.qual d_divisors_of.params d_divisors_of.body d_divisors_of.scope (d_divisors_of.dvs K) (d_divisors_of.kws K) (He.fAd K d_divisors_of.at_) fd := T.fn 23 rfl
theorem Txt.d_level_period (T : Txt w K mg) : ∃ fd, FunD K d_level_period.name d_level_period.qual d_level_period.params d_level_period.body d_level_period.scope (d_level_period.dvs K) (d_level_period.kws K) (He.fAd K d_level_period.at_) fd := T.fn 24 rfl
theorem Txt.d_least_lattice (T : Txt w K mg) : ∃ fd, FunD K d_least_lattice.name d_least_lattice.qual d_least_lattice.params d_least_lattice.body d_least_lattice.scope (d_least_lattice.dvs K) (d_least_lattice.kws K) (He.fAd K d_least_lattice.at_) fd := T.fn 25 rfl
theorem Txt.d_normal_rows (T : Txt w K mg) : ∃ fd, FunD K d_normal_rows.name d_normal_rows.qual d_normal_rows.params d_normal_rows.body d_normal_rows.scope (d_normal_rows.dvs K) (d_normal_rows.kws K) (He.fAd K d_normal_rows.at_) fd := T.fn 26 rfl
theorem Txt.d_rows_by (T : Txt w K mg) : ∃ fd, FunD K d_rows_by.name d_rows_by.qual d_rows_by.params d_rows_by.body d_rows_by.scope (d_rows_by.dvs K) (d_rows_by.kws K) (He.fAd K d_rows_by.at_) fd := T.fn 27 rfl
theorem Txt.d_Carpet___init__ (T : Txt w K mg) : ∃ fd, FunD K d_Carpet___init__.name d_Carpet___init__.qual d_Carpet___init__.params d_Carpet___init__.body d_Carpet___init__.scope (d_Carpet___init__.dvs K) (d_Carpet___init__.kws K) (He.fAd K d_Carpet___init__.at_) fd := T.fn 28 rfl
theorem Txt.d_Carpet_sign (T : Txt w K mg) : ∃ fd, FunD K d_Carpet_sign.name d_Carpet_sign.qual d_Carpet_sign.params d_Carpet_sign.body d_Carpet_sign.scope (d_Carpet_sign.dvs K) (d_Carpet_sign.kws K) (He.fAd K d_Carpet_sign.at_) fd := T.fn 29 rfl
theorem Txt.d_Carpet_colour (T : Txt w K mg) : ∃ fd, FunD K d_Carpet_colour.name d_Carpet_colour.qual d_Carpet_colour.params d_Carpet_colour.body d_Carpet_colour.scope (d_Carpet_colour.dvs K) (d_Carpet_colour.kws K) (He.fAd K d_Carpet_colour.at_) fd := T.fn 30 rfl
theorem Txt.d_Carpet_lattice (T : Txt w K mg) : ∃ fd, FunD K d_Carpet_lattice.name d_Carpet_lattice.qual d_Carpet_lattice.params d_Carpet_lattice.body d_Carpet_lattice.scope (d_Carpet_lattice.dvs K) (d_Carpet_lattice.kws K) (He.fAd K d_Carpet_lattice.at_) fd := T.fn 31 rfl
theorem Txt.d_Carpet_least (T : Txt w K mg) : ∃ fd, FunD K d_Carpet_least.name d_Carpet_least.qual d_Carpet_least.params d_Carpet_least.body d_Carpet_least.scope (d_Carpet_least.dvs K) (d_Carpet_least.kws K) (He.fAd K d_Carpet_least.at_) fd := T.fn 32 rfl
theorem Txt.d_Carpet_normal (T : Txt w K mg) : ∃ fd, FunD K d_Carpet_normal.name d_Carpet_normal.qual d_Carpet_normal.params d_Carpet_normal.body d_Carpet_normal.scope (d_Carpet_normal.dvs K) (d_Carpet_normal.kws K) (He.fAd K d_Carpet_normal.at_) fd := T.fn 33 rfl
theorem Txt.d_Carpet_in_normal (T : Txt w K mg) : ∃ fd, FunD K d_Carpet_in_normal.name d_Carpet_in_normal.qual d_Carpet_in_normal.params d_Carpet_in_normal.body d_Carpet_in_normal.scope (d_Carpet_in_normal.dvs K) (d_Carpet_in_normal.kws K) (He.fAd K d_Carpet_in_normal.at_) fd := T.fn 34 rfl
theorem Txt.d_check_colour (T : Txt w K mg) : ∃ fd, FunD K d_check_colour.name d_check_colour.qual d_check_colour.params d_check_colour.body d_check_colour.scope (d_check_colour.dvs K) (d_check_colour.kws K) (He.fAd K d_check_colour.at_) fd := T.fn 35 rfl
theorem Txt.d_woven (T : Txt w K mg) : ∃ fd, FunD K d_woven.name d_woven.qual d_woven.params d_woven.body d_woven.scope (d_woven.dvs K) (d_woven.kws K) (He.fAd K d_woven.at_) fd := T.fn 36 rfl
theorem Txt.d_turned_pair (T : Txt w K mg) : ∃ fd, FunD K d_turned_pair.name d_turned_pair.qual d_turned_pair.params d_turned_pair.body d_turned_pair.scope (d_turned_pair.dvs K) (d_turned_pair.kws K) (He.fAd K d_turned_pair.at_) fd := T.fn 37 rfl
theorem Txt.d_back_turn (T : Txt w K mg) : ∃ fd, FunD K d_back_turn.name d_back_turn.qual d_back_turn.params d_back_turn.body d_back_turn.scope (d_back_turn.dvs K) (d_back_turn.kws K) (He.fAd K d_back_turn.at_) fd := T.fn 38 rfl
theorem Txt.d_Motion___init__ (T : Txt w K mg) : ∃ fd, FunD K d_Motion___init__.name d_Motion___init__.qual d_Motion___init__.params d_Motion___init__.body d_Motion___init__.scope (d_Motion___init__.dvs K) (d_Motion___init__.kws K) (He.fAd K d_Motion___init__.at_) fd := T.fn 39 rfl
theorem Txt.d_Motion_led_back (T : Txt w K mg) : ∃ fd, FunD K d_Motion_led_back.name d_Motion_led_back.qual d_Motion_led_back.params d_Motion_led_back.body d_Motion_led_back.scope (d_Motion_led_back.dvs K) (d_Motion_led_back.kws K) (He.fAd K d_Motion_led_back.at_) fd := T.fn 40 rfl
theorem Txt.d_check_motion (T : Txt w K mg) : ∃ fd, FunD K d_check_motion.name d_check_motion.qual d_check_motion.params d_check_motion.body d_check_motion.scope (d_check_motion.dvs K) (d_check_motion.kws K) (He.fAd K d_check_motion.at_) fd := T.fn 41 rfl
theorem Txt.d_moved_carpet (T : Txt w K mg) : ∃ fd, FunD K d_moved_carpet.name d_moved_carpet.qual d_moved_carpet.params d_moved_carpet.body d_moved_carpet.scope (d_moved_carpet.dvs K) (d_moved_carpet.kws K) (He.fAd K d_moved_carpet.at_) fd := T.fn 42 rfl
theorem Txt.d_check_carpet (T : Txt w K mg) : ∃ fd, FunD K d_check_carpet.name d_check_carpet.qual d_check_carpet.params d_check_carpet.body d_check_carpet.scope (d_check_carpet.dvs K) (d_check_carpet.kws K) (He.fAd K d_check_carpet.at_) fd := T.fn 43 rfl
theorem Txt.d_shifted_rows (T : Txt w K mg) : ∃ fd, FunD K d_shifted_rows.name d_shifted_rows.qual d_shifted_rows.params d_shifted_rows.body d_shifted_rows.scope (d_shifted_rows.dvs K) (d_shifted_rows.kws K) (He.fAd K d_shifted_rows.at_) fd := T.fn 44 rfl
theorem Txt.d_all_shifted (T : Txt w K mg) : ∃ fd, FunD K d_all_shifted.name d_all_shifted.qual d_all_shifted.params d_all_shifted.body d_all_shifted.scope (d_all_shifted.dvs K) (d_all_shifted.kws K) (He.fAd K d_all_shifted.at_) fd := T.fn 45 rfl
theorem Txt.d_least_form (T : Txt w K mg) : ∃ fd, FunD K d_least_form.name d_least_form.qual d_least_form.params d_least_form.body d_least_form.scope (d_least_form.dvs K) (d_least_form.kws K) (He.fAd K d_least_form.at_) fd := T.fn 46 rfl
theorem Txt.d_are_like (T : Txt w K mg) : ∃ fd, FunD K d_are_like.name d_are_like.qual d_are_like.params d_are_like.body d_are_like.scope (d_are_like.dvs K) (d_are_like.kws K) (He.fAd K d_are_like.at_) fd := T.fn 47 rfl
theorem Txt.d_motions_between (T : Txt w K mg) : ∃ fd, FunD K d_motions_between.name d_motions_between.qual d_motions_between.params d_motions_between.body d_motions_between.scope (d_motions_between.dvs K) (d_motions_between.kws K) (He.fAd K d_motions_between.at_) fd := T.fn 48 rfl
theorem Txt.d_motion_between (T : Txt w K mg) : ∃ fd, FunD K d_motion_between.name d_motion_between.qual d_motion_between.params d_motion_between.body d_motion_between.scope (d_motion_between.dvs K) (d_motion_between.kws K) (He.fAd K d_motion_between.at_) fd := T.fn 49 rfl
theorem Txt.d_own_motions (T : Txt w K mg) : ∃ fd, FunD K d_own_motions.name d_own_motions.qual d_own_motions.params d_own_motions.body d_own_motions.scope (d_own_motions.dvs K) (d_own_motions.kws K) (He.fAd K d_own_motions.at_) fd := T.fn 50 rfl
theorem Txt.d__law_pool (T : Txt w K mg) : ∃ fd, FunD K d__law_pool.name d__law_pool.qual d__law_pool.params d__law_pool.body d__law_pool.scope (d__law_pool.dvs K) (d__law_pool.kws K) (He.fAd K d__law_pool.at_) fd := T.fn 51 rfl
theorem Txt.d__law_draw (T : Txt w K mg) : ∃ fd, FunD K d__law_draw.name d__law_draw.qual d__law_draw.params d__law_draw.body d__law_draw.scope (d__law_draw.dvs K) (d__law_draw.kws K) (He.fAd K d__law_draw.at_) fd := T.fn 52 rfl
theorem Txt.d__law_pick (T : Txt w K mg) : ∃ fd, FunD K d__law_pick.name d__law_pick.qual d__law_pick.params d__law_pick.body d__law_pick.scope (d__law_pick.dvs K) (d__law_pick.kws K) (He.fAd K d__law_pick.at_) fd := T.fn 53 rfl
theorem Txt.d__law_woven (T : Txt w K mg) : ∃ fd, FunD K d__law_woven.name d__law_woven.qual d__law_woven.params d__law_woven.body d__law_woven.scope (d__law_woven.dvs K) (d__law_woven.kws K) (He.fAd K d__law_woven.at_) fd := T.fn 54 rfl
theorem Txt.d__law_colour (T : Txt w K mg) : ∃ fd, FunD K d__law_colour.name d__law_colour.qual d__law_colour.params d__law_colour.body d__law_colour.scope (d__law_colour.dvs K) (d__law_colour.kws K) (He.fAd K d__law_colour.at_) fd := T.fn 55 rfl
theorem Txt.d__law_cells (T : Txt w K mg) : ∃ fd, FunD K d__law_cells.name d__law_cells.qual d__law_cells.params d__law_cells.body d__law_cells.scope (d__law_cells.dvs K) (d__law_cells.kws K) (He.fAd K d__law_cells.at_) fd := T.fn 56 rfl
theorem Txt.d__law_turns (T : Txt w K mg) : ∃ fd, FunD K d__law_turns.name d__law_turns.qual d__law_turns.params d__law_turns.body d__law_turns.scope (d__law_turns.dvs K) (d__law_turns.kws K) (He.fAd K d__law_turns.at_) fd := T.fn 57 rfl
theorem Txt.d__law_led (T : Txt w K mg) : ∃ fd, FunD K d__law_led.name d__law_led.qual d__law_led.params d__law_led.body d__law_led.scope (d__law_led.dvs K) (d__law_led.kws K) (He.fAd K d__law_led.at_) fd := T.fn 58 rfl
theorem Txt.d__law_motion (T : Txt w K mg) : ∃ fd, FunD K d__law_motion.name d__law_motion.qual d__law_motion.params d__law_motion.body d__law_motion.scope (d__law_motion.dvs K) (d__law_motion.kws K) (He.fAd K d__law_motion.at_) fd := T.fn 59 rfl
theorem Txt.d__law_small (T : Txt w K mg) : ∃ fd, FunD K d__law_small.name d__law_small.qual d__law_small.params d__law_small.body d__law_small.scope (d__law_small.dvs K) (d__law_small.kws K) (He.fAd K d__law_small.at_) fd := T.fn 60 rfl
theorem Txt.d__law_table (T : Txt w K mg) : ∃ fd, FunD K d__law_table.name d__law_table.qual d__law_table.params d__law_table.body d__law_table.scope (d__law_table.dvs K) (d__law_table.kws K) (He.fAd K d__law_table.at_) fd := T.fn 61 rfl
theorem Txt.d__law_within (T : Txt w K mg) : ∃ fd, FunD K d__law_within.name d__law_within.qual d__law_within.params d__law_within.body d__law_within.scope (d__law_within.dvs K) (d__law_within.kws K) (He.fAd K d__law_within.at_) fd := T.fn 62 rfl
theorem Txt.d__law_moved (T : Txt w K mg) : ∃ fd, FunD K d__law_moved.name d__law_moved.qual d__law_moved.params d__law_moved.body d__law_moved.scope (d__law_moved.dvs K) (d__law_moved.kws K) (He.fAd K d__law_moved.at_) fd := T.fn 63 rfl
theorem Txt.d__law_again (T : Txt w K mg) : ∃ fd, FunD K d__law_again.name d__law_again.qual d__law_again.params d__law_again.body d__law_again.scope (d__law_again.dvs K) (d__law_again.kws K) (He.fAd K d__law_again.at_) fd := T.fn 64 rfl
theorem Txt.d__law_lattice (T : Txt w K mg) : ∃ fd, FunD K d__law_lattice.name d__law_lattice.qual d__law_lattice.params d__law_lattice.body d__law_lattice.scope (d__law_lattice.dvs K) (d__law_lattice.kws K) (He.fAd K d__law_lattice.at_) fd := T.fn 65 rfl
theorem Txt.d__law_form (T : Txt w K mg) : ∃ fd, FunD K d__law_form.name d__law_form.qual d__law_form.params d__law_form.body d__law_form.scope (d__law_form.dvs K) (d__law_form.kws K) (He.fAd K d__law_form.at_) fd := T.fn 66 rfl
theorem Txt.d__law_shifts (T : Txt w K mg) : ∃ fd, FunD K d__law_shifts.name d__law_shifts.qual d__law_shifts.params d__law_shifts.body d__law_shifts.scope (d__law_shifts.dvs K) (d__law_shifts.kws K) (He.fAd K d__law_shifts.at_) fd := T.fn 67 rfl
theorem Txt.d__law_less (T : Txt w K mg) : ∃ fd, FunD K d__law_less.name d__law_less.qual d__law_less.params d__law_less.body d__law_less.scope (d__law_less.dvs K) (d__law_less.kws K) (He.fAd K d__law_less.at_) fd := T.fn 68 rfl
theorem Txt.d__law_least_form (T : Txt w K mg) : ∃ fd, FunD K d__law_least_form.name d__law_least_form.qual d__law_least_form.params d__law_least_form.body d__law_least_form.scope (d__law_least_form.dvs K) (d__law_least_form.kws K) (He.fAd K d__law_least_form.at_) fd := T.fn 69 rfl
theorem Txt.d__law_leads (T : Txt w K mg) : ∃ fd, FunD K d__law_leads.name d__law_leads.qual d__law_leads.params d__law_leads.body d__law_leads.scope (d__law_leads.dvs K) (d__law_leads.kws K) (He.fAd K d__law_leads.at_) fd := T.fn 70 rfl
theorem Txt.d__law_between (T : Txt w K mg) : ∃ fd, FunD K d__law_between.name d__law_between.qual d__law_between.params d__law_between.body d__law_between.scope (d__law_between.dvs K) (d__law_between.kws K) (He.fAd K d__law_between.at_) fd := T.fn 71 rfl
theorem Txt.d__law_is_right (T : Txt w K mg) : ∃ fd, FunD K d__law_is_right.name d__law_is_right.qual d__law_is_right.params d__law_is_right.body d__law_is_right.scope (d__law_is_right.dvs K) (d__law_is_right.kws K) (He.fAd K d__law_is_right.at_) fd := T.fn 72 rfl
theorem Txt.d_law (T : Txt w K mg) : ∃ fd, FunD K d_law.name d_law.qual d_law.params d_law.body d_law.scope (d_law.dvs K) (d_law.kws K) (He.fAd K d_law.at_) fd := T.fn 73 rfl
end
end K84
set_option Elab.async false
set_option linter.all false
set_option maxRecDepth 100000
set_option maxHeartbeats 4000000
/-! short words for the walk: a def that keeps a promise, its call; small rules -/
namespace K84
open PySem PySem.Spec PyProof.Rows L2
section
variable (P : Program) (w : World) (K : PySem.W.Frag) (mg : Str → Option Value) (base : Heap)
/-- the def that the module's name x stands for keeps the promise sp, at level k -/
def Good (k : Nat) (x : Str) (ps : List Str) (sp : Sp) : Prop :=
  ∃ fd, FnOk P w K mg base CX0 k (He.ga K x) fd ps sp ∧ mg x = some (.ref (He.ga K x)) ∧ PySem.W.keepIn K (.ref (He.ga K x)) = true ∧ Binds K fd ps []
/-- the method m of the class C -/
def GoodM (k : Nat) (C m : Str) (ps : List Str) (sp : Sp) : Prop :=
  ∃ fd, FnOk P w K mg base CX0 k (He.ma K (He.ga K C) m) fd ps sp ∧ Binds K fd ps []
end
section
variable {P : Program} {w : World} {K : PySem.W.Frag} {mg : Str → Option Value} {base : Heap} {k : Nat} {x : Str} {ps N : List Str} {sp : Sp}
theorem Good.imp {sp' : Sp} (G : Good P w K mg base k x ps sp) (h : ∀ vs H Q E, sp' vs H Q E → sp vs H Q E) : Good P w K mg base k x ps sp' := by
  obtain ⟨fd, F, a⟩ := G
  exact ⟨fd, F.imp h, a⟩
/-- a function's body -/
abbrev Body (P : Program) (w : World) (K : PySem.W.Frag) (mg : Str → Option Value) (base : Heap) (k : Nat) (d : He.DefD) (N : List Str) (sp : Sp) : Prop :=
  ∀ (f : Addr) (cdv : Value) (A : Around) (outer : List Env) (s : Shared) (H : Hp) (vs : List V) (Q : VK) (E : XK), Room k (A.deeper (envOfC d.qual d.scope s.heap.objs.size f cdv)) → sp vs H Q E →
    ∃ t, PSs (cxOf CX0 P w K mg base N d.qual d.scope f cdv A outer s H E).nox d.body t ∧ t { nx := fun _ H' => Q .non H', rt := Q } (start N vs) H
abbrev BindsD (d : He.DefD) (ps : List Str) : Prop :=
  ∀ (kV doc pm : Value) (an : Option Addr) (cdv ct : Value) (us : List Value), us.length = ps.length → bindArgs (PySem.W.fnOf d.name d.qual d.params d.body d.scope .none kV doc pm an cdv ct) ⟨us, []⟩ = pure (ps.zip us)
theorem good_mk {d : He.DefD} (hd : ∃ fd, FunD K d.name d.qual d.params d.body d.scope (d.dvs K) (d.kws K) (He.fAd K d.at_) fd) (hx : d.at_ = (x, none)) (h0 : d.dfl = []) (hm : mg x = some (.ref (He.ga K x)))
    (S : FnScope N ps d.scope) (hb : BindsD d ps) (len : ∀ vs H Q E, sp vs H Q E → vs.length = ps.length) (body : Body P w K mg base k d N sp) : Good P w K mg base (k + 1) x ps sp := by
  obtain ⟨fd, F⟩ := hd
  have e : He.fAd K d.at_ = He.ga K x := by
    rw [hx]
    rfl
  have e2 : d.dvs K = [] := by
    unfold He.DefD.dvs
    rw [h0]
    rfl
  rw [e, e2] at F
  refine ⟨fd, F.ok S len (fun cdv A outer s H vs Q E hr hs => ?_), hm, F.kp, F.bindsN hb⟩
  obtain ⟨t, a, b⟩ := body _ cdv A outer s H vs Q E hr hs
  exact ⟨t, a.nox, b⟩
theorem goodM_mk {C m : Str} {d : He.DefD} (hd : ∃ fd, FunD K d.name d.qual d.params d.body d.scope (d.dvs K) (d.kws K) (He.fAd K d.at_) fd) (hx : d.at_ = (C, some m)) (h0 : d.dfl = [])
    (S : FnScope N ps d.scope) (hb : BindsD d ps) (len : ∀ vs H Q E, sp vs H Q E → vs.length = ps.length) (body : Body P w K mg base k d N sp) : GoodM P w K mg base (k + 1) C m ps sp := by
  obtain ⟨fd, F⟩ := hd
  have e : He.fAd K d.at_ = He.ma K (He.ga K C) m := by
    rw [hx]
    rfl
  have e2 : d.dvs K = [] := by
    unfold He.DefD.dvs
    rw [h0]
    rfl
  rw [e, e2] at F
  refine ⟨fd, F.ok S len (fun cdv A outer s H vs Q E hr hs => ?_), F.bindsN hb⟩
  obtain ⟨t, a, b⟩ := body _ cdv A outer s H vs Q E hr hs
  exact ⟨t, a.nox, b⟩
end
/-! ### calls -/
section
variable {X : Cx} {k : Nat} {ps : List Str} {sp : Sp} {e : Expr} {es : List Expr} {t : TA} {p pos apos : Pos} {x : Str}
theorem pe_fn {j : Nat} (G : Good X.prog X.w X.K X.mg X.base j x ps sp) (hr : Room k X.A) (ha : PA X (e :: es) t) (hj : j ≤ k := by decide) (hg : Gl X x := by rfl) (hdb : (x == ("__debug__" : Str)) = false := by decide +kernel)
    (h1 : starEach (e :: es) X.env = (false, eval e X.env) :: starEach es X.env := by rfl) (h2 : (backTo pos (starEach es X.env)).any (·.1) = false := by rfl) : PE X (.Call (.Name x p) (e :: es) [] pos) (tCall sp [] E0 t) := by
  obtain ⟨fd, F, hm, kp, b⟩ := G
  exact pe_call F (hr.mono hj) hg hm kp b .nil pass0 ha hdb h1 h2
theorem pe_fn0 {j : Nat} (G : Good X.prog X.w X.K X.mg X.base j x ps sp) (hr : Room k X.A) (hj : j ≤ k := by decide) (hg : Gl X x := by rfl) (hdb : (x == ("__debug__" : Str)) = false := by decide +kernel) : PE X (.Call (.Name x p) [] [] pos) (tCall sp [] E0 tNil) := by
  obtain ⟨fd, F, hm, kp, b⟩ := G
  exact pe_call0 F (hr.mono hj) hg hm kp b .nil pass0 hdb
/-- the same by a stronger reading -/
theorem PE.imp {t t' : TE} (h : PE X e t) (i : ∀ σ H Q, t' σ H Q → t σ H Q) : PE X e t' := ⟨fun pins s σ H Q I q => h.run pins s σ H Q I (i σ H Q q)⟩
/-- a built-in type, as a value -/
theorem pe_ty {n : String} (hm : X.mg x = none) (hv : bootBuiltins x = some (.type n)) (hg : Gl X x := by rfl) (hn : x ≠ "__name__" := by decide +kernel) (hdb : (x == ("__debug__" : Str)) = false := by decide +kernel) : PE X (.Name x pos) (tC (.ty n)) :=
  pe_bltn hg hm hv rfl hn hdb
end
end K84
set_option Elab.async false
set_option linter.all false
set_option maxRecDepth 100000
set_option maxHeartbeats 4000000
/-! the mathematics of carpets: colours by rows, periods, the least lattice -/
namespace K84
open PySem
/-- the numbers of a lattice -/
def Bas (a b d : Int) : Prop := 1 ≤ a ∧ 0 ≤ b ∧ b < a ∧ 1 ≤ d
/-- the code at a cell of rows by a lattice -/
def colr (a b d : Int) (rows : List Str) (x y : Int) : Nat := ((rows.getD (y % d).toNat Str.empty).cps.toList).getD ((x - y / d * b) % a).toNat 0
def IsPer (f : Int → Int → Nat) (u v : Int) : Prop := ∀ x y, f (x + u) (y + v) = f x y
section
variable {f : Int → Int → Nat} {u v u' v' : Int}
theorem IsPer.zero : IsPer f 0 0 := fun x y => by rw [Int.add_zero, Int.add_zero]
theorem IsPer.add (h : IsPer f u v) (h' : IsPer f u' v') : IsPer f (u + u') (v + v') := fun x y => by
  rw [← Int.add_assoc, ← Int.add_assoc, h', h]
theorem IsPer.neg (h : IsPer f u v) : IsPer f (-u) (-v) := fun x y => by
  have := h (x + -u) (y + -v)
  rw [Int.neg_add_cancel_right, Int.neg_add_cancel_right] at this
  exact this.symm
theorem IsPer.nmul (h : IsPer f u v) : ∀ n : Nat, IsPer f ((n : Int) * u) ((n : Int) * v)
  | 0 => by
    have e : ∀ z : Int, ((0 : Nat) : Int) * z = 0 := fun z => by simp
    rw [e, e]
    exact IsPer.zero
  | n + 1 => by
    have e : ∀ z : Int, ((n + 1 : Nat) : Int) * z = (n : Int) * z + z := fun z => by
      rw [show ((n + 1 : Nat) : Int) = (n : Int) + 1 by omega, Int.add_mul, Int.one_mul]
    rw [e, e]
    exact (IsPer.nmul h n).add h
theorem IsPer.mul (h : IsPer f u v) (k : Int) : IsPer f (k * u) (k * v) := by
  rcases Int.le_total 0 k with hk | hk
  · have := h.nmul k.toNat
    rw [Int.toNat_of_nonneg hk] at this
    exact this
  · have := (h.nmul (-k).toNat).neg
    rw [Int.toNat_of_nonneg (by omega), Int.neg_mul, Int.neg_mul, Int.neg_neg, Int.neg_neg] at this
    exact this
theorem IsPer.sub (h : IsPer f u v) (h' : IsPer f u' v') : IsPer f (u - u') (v - v') := by
  rw [Int.sub_eq_add_neg, Int.sub_eq_add_neg]
  exact h.add h'.neg
theorem IsPer.cast (h : IsPer f u v) (e1 : u = u') (e2 : v = v') : IsPer f u' v' := e1 ▸ e2 ▸ h
end
/-! ### a carpet's own lattice -/
section
variable {a b d : Int} {rows : List Str}
theorem colr_add (h : Bas a b d) (k m x y : Int) : colr a b d rows (x + k * a + m * b) (y + m * d) = colr a b d rows x y := by
  obtain ⟨h1, h2, h3, h4⟩ := h
  unfold colr
  have e1 : (y + m * d) % d = y % d := Int.add_mul_emod_self_right y m d
  have e2 : (y + m * d) / d = y / d + m := Int.add_mul_ediv_right y m (by omega)
  have e3 : x + k * a + m * b - (y / d + m) * b = (x - y / d * b) + k * a := by
    rw [Int.add_mul]
    omega
  rw [e1, e2, e3, Int.add_mul_emod_self_right]
theorem colr_a (h : Bas a b d) : IsPer (colr a b d rows) a 0 := fun x y => by
  have := colr_add (rows := rows) h 1 0 x y
  rw [Int.zero_mul, Int.zero_mul, Int.one_mul, Int.add_zero] at this
  exact this
theorem colr_b (h : Bas a b d) : IsPer (colr a b d rows) b d := fun x y => by
  have := colr_add (rows := rows) h 0 1 x y
  rw [Int.zero_mul, Int.one_mul, Int.add_zero, Int.one_mul] at this
  exact this
/-- each cell's place -/
theorem to_place (h : Bas a b d) (x y : Int) : ∃ k m : Int, x = (x - y / d * b) % a + k * a + m * b ∧ y = y % d + m * d := by
  refine ⟨(x - y / d * b) / a, y / d, ?_, ?_⟩
  · have := Int.emod_add_mul_ediv (x - y / d * b) a
    rw [Int.mul_comm a] at this
    omega
  · have := Int.emod_add_mul_ediv y d
    rw [Int.mul_comm d] at this
    omega
theorem colr_place (h : Bas a b d) (x y : Int) : colr a b d rows ((x - y / d * b) % a) (y % d) = colr a b d rows x y := by
  obtain ⟨k, m, e1, e2⟩ := to_place h x y
  have := colr_add (rows := rows) h k m ((x - y / d * b) % a) (y % d)
  rw [← e1, ← e2] at this
  exact this.symm
/-- a shift is a period, if it is one at all places -/
theorem per_places (h : Bas a b d) (u v : Int) (hp : ∀ x y, 0 ≤ x → x < a → 0 ≤ y → y < d → colr a b d rows x y = colr a b d rows (x + u) (y + v)) : IsPer (colr a b d rows) u v := fun x y => by
  obtain ⟨k, m, e1, e2⟩ := to_place h x y
  obtain ⟨h1, h2, h3, h4⟩ := id h
  have q := hp ((x - y / d * b) % a) (y % d) (Int.emod_nonneg _ (by omega)) (Int.emod_lt_of_pos _ (by omega)) (Int.emod_nonneg _ (by omega)) (Int.emod_lt_of_pos _ (by omega))
  rw [colr_place h] at q
  rw [q, ← colr_add (rows := rows) h k m ((x - y / d * b) % a + u) (y % d + v)]
  congr 1 <;> omega
end
/-! ### the least lattice -/
/-- (A, B, D) is the lattice of all periods -/
def LeastOf (f : Int → Int → Nat) (A B D : Int) : Prop := Bas A B D ∧ ∀ x y, IsPer f x y ↔ ∃ k, y = k * D ∧ A ∣ x - k * B
section
variable {f : Int → Int → Nat} {A B D a : Int}
theorem level_least (ha : 1 ≤ a) (pa : IsPer f a 0) (hl : ∀ A', 1 ≤ A' → A' ∣ a → IsPer f A' 0 → A ≤ A') : ∀ (n : Nat) (r : Int), r.toNat ≤ n → 0 < r → IsPer f r 0 → A ≤ r
  | 0, r, h, hr, _ => by omega
  | n + 1, r, h, hr, pr => by
    by_cases hd : r ∣ a
    · exact hl r (by omega) hd pr
    · have h1 : a % r ≠ 0 := fun z => hd (Int.dvd_of_emod_eq_zero z)
      have h2 := Int.emod_nonneg a (show r ≠ 0 by omega)
      have h3 := Int.emod_lt_of_pos a hr
      have p2 : IsPer f (a % r) 0 := (pa.sub (pr.mul (a / r))).cast (by rw [Int.emod_def, Int.mul_comm]) (by simp)
      have := level_least ha pa hl n (a % r) (by omega) (by omega) p2
      omega
theorem level_iff (hA : 1 ≤ A) (pA : IsPer f A 0) (hl : ∀ r : Int, 0 < r → IsPer f r 0 → A ≤ r) (x : Int) : IsPer f x 0 ↔ A ∣ x := by
  constructor
  · intro p
    have h2 := Int.emod_nonneg x (show A ≠ 0 by omega)
    have h3 := Int.emod_lt_of_pos x (show 0 < A by omega)
    have p2 : IsPer f (x % A) 0 := (p.sub (pA.mul (x / A))).cast (by rw [Int.emod_def, Int.mul_comm]) (by simp)
    by_cases h0 : x % A = 0
    · exact Int.dvd_of_emod_eq_zero h0
    · have := hl (x % A) (by omega) p2
      omega
  · rintro ⟨k, rfl⟩
    exact (pA.mul k).cast (Int.mul_comm _ _) (by simp)
theorem up_least {b d : Int} (hA : 1 ≤ A) (pA : IsPer f A 0) (hd : 1 ≤ d) (pd : IsPer f b d) (hl : ∀ D' B', 1 ≤ D' → D' ∣ d → 0 ≤ B' → B' < A → IsPer f B' D' → D ≤ D') : ∀ (n : Nat) (x y : Int), y.toNat ≤ n → 0 < y → IsPer f x y → D ≤ y
  | 0, x, y, h, hy, _ => by omega
  | n + 1, x, y, h, hy, p => by
    by_cases hv : y ∣ d
    · exact hl y (x % A) (by omega) hv (Int.emod_nonneg _ (by omega)) (Int.emod_lt_of_pos _ (by omega)) ((p.sub (pA.mul (x / A))).cast (by rw [Int.emod_def, Int.mul_comm]) (by simp))
    · have h1 : d % y ≠ 0 := fun z => hv (Int.dvd_of_emod_eq_zero z)
      have h2 := Int.emod_nonneg d (show y ≠ 0 by omega)
      have h3 := Int.emod_lt_of_pos d hy
      have p2 : IsPer f (b - d / y * x) (d % y) := (pd.sub (p.mul (d / y))).cast rfl (by rw [Int.emod_def, Int.mul_comm])
      have := up_least hA pA hd pd hl n _ (d % y) (by omega) (by omega) p2
      omega
theorem leastOf_intro (hA : 1 ≤ A) (hB : 0 ≤ B) (hBA : B < A) (hD : 1 ≤ D) (lv : ∀ x, IsPer f x 0 ↔ A ∣ x) (pD : IsPer f B D) (up : ∀ x y, 0 < y → IsPer f x y → D ≤ y) : LeastOf f A B D := by
  refine ⟨⟨hA, hB, hBA, hD⟩, fun x y => ⟨fun p => ?_, ?_⟩⟩
  · have h2 := Int.emod_nonneg y (show D ≠ 0 by omega)
    have h3 := Int.emod_lt_of_pos y (show 0 < D by omega)
    have p2 : IsPer f (x - y / D * B) (y % D) := (p.sub (pD.mul (y / D))).cast rfl (by rw [Int.emod_def, Int.mul_comm])
    have h0 : y % D = 0 := by
      by_cases h0 : y % D = 0
      · exact h0
      · have := up _ (y % D) (by omega) p2
        omega
    rw [h0] at p2
    refine ⟨y / D, ?_, (lv _).mp p2⟩
    have := Int.emod_add_mul_ediv y D
    rw [h0, Int.mul_comm] at this
    omega
  · rintro ⟨k, rfl, hk⟩
    exact (((lv _).mpr hk).add (pD.mul k)).cast (by omega) (by simp)
theorem LeastOf.level (h : LeastOf f A B D) (x : Int) : IsPer f x 0 ↔ A ∣ x := by
  obtain ⟨⟨h1, h2, h3, h4⟩, hp⟩ := h
  rw [hp]
  constructor
  · rintro ⟨k, e, hk⟩
    have k0 : k = 0 := by
      rcases Int.mul_eq_zero.mp e.symm with z | z
      · exact z
      · omega
    subst k0
    simpa using hk
  · intro hx
    exact ⟨0, by simp, by simpa using hx⟩
theorem LeastOf.pD (h : LeastOf f A B D) : IsPer f B D := (h.2 B D).mpr ⟨1, by simp, by simp⟩
theorem LeastOf.pA (h : LeastOf f A B D) : IsPer f A 0 := (h.level A).mpr (Int.dvd_refl A)
theorem LeastOf.up (h : LeastOf f A B D) {x y : Int} (hy : 0 < y) (p : IsPer f x y) : D ≤ y := by
  obtain ⟨k, rfl, _⟩ := (h.2 x y).mp p
  obtain ⟨h1, h2, h3, h4⟩ := h.1
  have hk : 0 < k := by
    rcases Int.lt_or_le 0 k with z | z
    · exact z
    · have : k * D ≤ 0 := Int.mul_nonpos_of_nonpos_of_nonneg z (by omega)
      omega
  have : 1 * D ≤ k * D := Int.mul_le_mul_of_nonneg_right (by omega) (by omega)
  omega
theorem LeastOf.uniq {A' B' D' : Int} (h : LeastOf f A B D) (h' : LeastOf f A' B' D') : A = A' ∧ B = B' ∧ D = D' := by
  obtain ⟨h1, h2, h3, h4⟩ := h.1
  obtain ⟨h1', h2', h3', h4'⟩ := h'.1
  have eA : A = A' := by
    have d1 := (h'.level A).mp h.pA
    have d2 := (h.level A').mp h'.pA
    have := Int.le_of_dvd (by omega) d1
    have := Int.le_of_dvd (by omega) d2
    omega
  have eD : D = D' := by
    have := h.up (by omega) h'.pD
    have := h'.up (by omega) h.pD
    omega
  subst eA eD
  refine ⟨rfl, ?_, rfl⟩
  have p := h.pD.sub h'.pD
  rw [Int.sub_self] at p
  obtain ⟨c, hc⟩ := (h.level _).mp p
  have : c = 0 := by
    rcases Int.lt_trichotomy c 0 with z | z | z
    · have : A * c ≤ A * (-1) := Int.mul_le_mul_of_nonneg_left (by omega) (by omega)
      omega
    · exact z
    · have : A * 1 ≤ A * c := Int.mul_le_mul_of_nonneg_left (by omega) (by omega)
      omega
  subst this
  omega
end
/-! ### rows as texts -/
/-- row y of f, of n signs -/
def rowS (f : Int → Int → Nat) (n : Nat) (y : Int) : Str := ⟨((List.range n).map fun i => f ((i : Nat) : Int) y).toArray⟩
def rowsS (f : Int → Int → Nat) (n m : Nat) : List Str := (List.range m).map fun j => rowS f n ((j : Nat) : Int)
theorem rowsS_at {f : Int → Int → Nat} {n m j : Nat} (h : j < m) : (rowsS f n m).getD j Str.empty = rowS f n (j : Int) := by
  unfold rowsS
  rw [List.getD_eq_getElem?_getD, List.getElem?_map, List.getElem?_range h]
  rfl
theorem colr_rowsS {f : Int → Int → Nat} {A B D : Int} (h : LeastOf f A B D) : colr A B D (rowsS f A.toNat D.toNat) = f := by
  obtain ⟨h1, h2, h3, h4⟩ := h.1
  funext x y
  unfold colr
  have n1 := Int.emod_nonneg y (show D ≠ 0 by omega)
  have l1 := Int.emod_lt_of_pos y (show 0 < D by omega)
  have n2 := Int.emod_nonneg (x - y / D * B) (show A ≠ 0 by omega)
  have l2 := Int.emod_lt_of_pos (x - y / D * B) (show 0 < A by omega)
  have i1 : (y % D).toNat < D.toNat := by omega
  have i2 : ((x - y / D * B) % A).toNat < A.toNat := by omega
  rw [rowsS_at i1]
  show ((List.range A.toNat).map fun i => f ((i : Nat) : Int) (((y % D).toNat : Nat) : Int)).getD ((x - y / D * B) % A).toNat 0 = f x y
  rw [List.getD_eq_getElem?_getD, List.getElem?_map, List.getElem?_range i2]
  simp only [Option.map_some, Option.getD_some]
  rw [Int.toNat_of_nonneg n1, Int.toNat_of_nonneg n2]
  have p : IsPer f ((x - y / D * B) / A * A + y / D * B) (y / D * D) := ((h.pA.mul _).add (h.pD.mul (y / D))).cast rfl (by simp)
  have := p ((x - y / D * B) % A) (y % D)
  rw [← this]
  have e1 := Int.emod_add_mul_ediv y D
  have e2 := Int.emod_add_mul_ediv (x - y / D * B) A
  rw [Int.mul_comm D] at e1
  rw [Int.mul_comm A] at e2
  congr 1 <;> omega
end K84
set_option Elab.async false
set_option linter.all false
set_option maxRecDepth 100000
set_option maxHeartbeats 4000000
namespace K84
open PySem PySem.Spec PyProof.Rows L2
/-! ### values of the text's built-in names -/
theorem b_isinstance : bootBuiltins "isinstance" = some (.builtin "isinstance") := by decide +kernel
theorem b_int : bootBuiltins "int" = some (.type "int") := by decide +kernel
theorem b_bool : bootBuiltins "bool" = some (.type "bool") := by decide +kernel
theorem b_tuple : bootBuiltins "tuple" = some (.type "tuple") := by decide +kernel
theorem b_list : bootBuiltins "list" = some (.type "list") := by decide +kernel
theorem b_str : bootBuiltins "str" = some (.type "str") := by decide +kernel
theorem b_len : bootBuiltins "len" = some (.builtin "len") := by decide +kernel
theorem b_all : bootBuiltins "all" = some (.builtin "all") := by decide +kernel
theorem b_abs : bootBuiltins "abs" = some (.builtin "abs") := by decide +kernel
/-- a tuple, tracked or written, as isinstance sees it -/
theorem tyx_tup {K : PySem.W.Frag} {H : Hp} {a : Addr} {xs : List V} (h : SqT K H a xs) : TyX K H (.ref a) (.type "tuple") := by
  rcases h with (h | ⟨o, h⟩) | ⟨o, its, n, h1, h2, _⟩
  · exact .base (.tup h)
  · exact .fTuple h
  · exact .kTuple h1 h2
/-- the pair at p -/
abbrev Pr (K : PySem.W.Frag) (H : Hp) (p : Addr) (x y : Int) : Prop := SqT K H p [.int x, .int y]
theorem sqT_same {K : PySem.W.Frag} {H H' : Hp} {a : Addr} {xs : List V} (e : Same H H') (h : SqT K H a xs) : SqT K H' a xs := by
  rcases h with (h | ⟨o, h⟩) | h
  · exact .inl (.inl (e _ _ h))
  · exact .inl (.inr ⟨o, e _ _ h⟩)
  · exact .inr h
theorem same_new {H : Hp} {p : Addr} {o : HO} (h : H p = none) : Same H (upd H p o) := fun a u e => by
  rw [upd_ne (ne_of_none e h)]
  exact e
theorem two_le : 2 ≤ sizeLine := by decide
theorem neq_int {i j : Int} (h : i = j) : decide (V.int i = V.int j) = true := decide_eq_true (by rw [h])
section
variable {P : Program} {w : World} {K : PySem.W.Frag} {mg : Str → Option Value} {base : Heap}
/-! ### common -/
def spInteger : Sp := fun vs H Q _ => ∃ i, vs = [.int i] ∧ Q (.bl true) H
theorem ok_is_integer (T : Txt w K mg) : Good P w K mg base 1 "is_integer" ["value"] spInteger := by
  refine good_mk (d := d_is_integer) (N := ["value"]) T.d_is_integer rfl rfl T.g_is_integer ⟨rfl, rfl, rfl, by decide +kernel, rfl, by decide +kernel, by decide +kernel⟩
    (fun _ _ _ _ _ _ us hl => match us, hl with | [_], _ => rfl) (fun vs H Q E h => ?_) (fun f cdv A outer s H vs Q E hr h => ?_)
  · obtain ⟨i, rfl, _⟩ := h
    rfl
  · obtain ⟨i, rfl, q⟩ := h
    refine ⟨_, pss_one (ps_ret (pe_and (pe_callB call_isi (by rfl) T.f_isinstance b_isinstance (pa_cons (pv 0) (pa_cons (pe_ty T.f_int b_int) pa_nil)))
      (pe_one (pe_not (pe_callB call_isi (by rfl) T.f_isinstance b_isinstance (pa_cons (pv 0) (pa_cons (pe_ty T.f_bool b_bool) pa_nil))))))), ?_⟩
    exact ⟨_, rfl, _, _, _, _, true, rfl, .ty _, .base (.int i), kit_ty (by decide +kernel), _, rfl, iteT ⟨_, rfl, _, _, _, _, false, rfl, .ty _, .base (.int i), kit_ty (by decide +kernel), _, rfl, q⟩⟩
def spBetween : Sp := fun vs H Q _ => ∃ i lo hi, vs = [.int i, .int lo, .int hi] ∧ Q (.bl (decide (lo ≤ i) && decide (i ≤ hi))) H
theorem ok_is_between (T : Txt w K mg) : Good P w K mg base 2 "is_between" ["value", "least", "most"] spBetween := by
  refine good_mk (d := d_is_between) (N := ["value", "least", "most"]) T.d_is_between rfl rfl T.g_is_between ⟨rfl, rfl, rfl, by decide +kernel, rfl, by decide +kernel, by decide +kernel⟩
    (fun _ _ _ _ _ _ us hl => match us, hl with | [_, _, _], _ => rfl) (fun vs H Q E h => ?_) (fun f cdv A outer s H vs Q E hr h => ?_)
  · obtain ⟨i, lo, hi, rfl, _⟩ := h
    rfl
  · obtain ⟨i, lo, hi, rfl, q⟩ := h
    refine ⟨_, (pss_one (ps_ret (pe_and (pe_fn (ok_is_integer T) hr (pa_cons (pv 0) pa_nil)) (pe_one (pe_chain op_le op_le (pv 1) (pv 0) (pv 2)))))), ?_⟩
    refine ⟨_, rfl, _, rfl, _, rfl, iteT ⟨_, rfl, _, rfl, _, _, rfl, rfl, _, rfl, ?_⟩⟩
    cases h1 : decide (lo ≤ i) with
    | true =>
      rw [h1] at q
      exact iteT ⟨_, rfl, _, _, rfl, rfl, q⟩
    | false =>
      rw [h1] at q
      exact iteF q
def spColour : Sp := fun vs H Q _ => ∃ i, vs = [.int i] ∧ 0 ≤ i ∧ i ≤ 9 ∧ Q (.bl true) H
theorem ok_is_colour (T : Txt w K mg) : Good P w K mg base 3 "is_colour" ["value"] spColour := by
  obtain ⟨t, ht⟩ := T.i_MOST_COLOUR
  refine good_mk (d := d_is_colour) (N := ["value"]) T.d_is_colour rfl rfl T.g_is_colour ⟨rfl, rfl, rfl, by decide +kernel, rfl, by decide +kernel, by decide +kernel⟩
    (fun _ _ _ _ _ _ us hl => match us, hl with | [_], _ => rfl) (fun vs H Q E h => ?_) (fun f cdv A outer s H vs Q E hr h => ?_)
  · obtain ⟨i, rfl, _⟩ := h
    rfl
  · obtain ⟨i, rfl, h0, h9, q⟩ := h
    refine ⟨_, (pss_one (ps_ret (pe_fn (ok_is_between T) hr (pa_cons (pv 0) (pa_cons pe_int (pa_cons (pe_glob (v := .int 9) rfl ht ⟨_, rfl⟩) pa_nil)))))), ?_⟩
    refine ⟨_, rfl, _, _, _, rfl, ?_⟩
    rw [decide_eq_true h0, decide_eq_true h9]
    exact q
def spCheckInt : Sp := fun vs H Q _ => ∃ i, vs = [.int i] ∧ Q .non H
theorem ok_check_integer (T : Txt w K mg) : Good P w K mg base 2 "check_integer" ["number"] spCheckInt := by
  refine good_mk (d := d_check_integer) (N := ["number"]) T.d_check_integer rfl rfl T.g_check_integer ⟨rfl, rfl, rfl, by decide +kernel, rfl, by decide +kernel, by decide +kernel⟩
    (fun _ _ _ _ _ _ us hl => match us, hl with | [_], _ => rfl) (fun vs H Q E h => ?_) (fun f cdv A outer s H vs Q E hr h => ?_)
  · obtain ⟨i, rfl, _⟩ := h
    rfl
  · obtain ⟨i, rfl, q⟩ := h
    refine ⟨_, (pss_one (ps_if (pt_not (pt_val (pe_fn (ok_is_integer T) hr (pa_cons (pv 0) pa_nil)))) (pss_one ps_never) pss_nil)), ?_⟩
    exact ⟨_, rfl, _, rfl, _, rfl, iteF q⟩
/-! ### periods: shifts, cells -/
def spShift : Sp := fun vs H Q _ => ∃ p x y, vs = [.ref p] ∧ Pr K H p x y ∧ Q (.bl true) H
theorem ok_is_shift (T : Txt w K mg) : Good P w K mg base 2 "is_shift" ["value"] (spShift (K := K)) := by
  refine good_mk (d := d_is_shift) (N := ["value"]) T.d_is_shift rfl rfl T.g_is_shift ⟨rfl, rfl, rfl, by decide +kernel, rfl, by decide +kernel, by decide +kernel⟩
    (fun _ _ _ _ _ _ us hl => match us, hl with | [_], _ => rfl) (fun vs H Q E h => ?_) (fun f cdv A outer s H vs Q E hr h => ?_)
  · obtain ⟨p, x, y, rfl, _⟩ := h
    rfl
  · obtain ⟨p, x, y, rfl, hp, q⟩ := h
    refine ⟨_, (pss_one (ps_ret (pe_and (pe_callB call_isi (by rfl) T.f_isinstance b_isinstance (pa_cons (pv 0) (pa_cons (pe_ty T.f_tuple b_tuple) pa_nil)))
      (pe_and (pe_cmpR op_eq (pe_callB call_len (by rfl) T.f_len b_len (pa_cons (pv 0) pa_nil)) pe_int (nomark _))
      (pe_and (pe_fn (ok_is_integer T) hr (pa_cons (pe_ix ix_tup (pv 0) pe_int (fun _ _ => rfl)) pa_nil)) (pe_one (pe_fn (ok_is_integer T) hr (pa_cons (pe_ix ix_tup (pv 0) pe_int (fun _ _ => rfl)) pa_nil)))))))), ?_⟩
    refine ⟨_, rfl, _, _, _, _, true, rfl, .ty _, tyx_tup hp, kit_ty (by decide +kernel), _, rfl, iteT ⟨_, rfl, _, 2, rfl, .inr ⟨_, hp, rfl⟩, rfl, _, rfl, ?_⟩⟩
    refine iteT ⟨_, rfl, _, _, _, _, rfl, rfl, hp, rfl, _, rfl, _, rfl, iteT ⟨_, rfl, _, _, _, _, rfl, rfl, hp, rfl, _, rfl, q⟩⟩
theorem ok_check_shift (T : Txt w K mg) : Good P w K mg base 3 "check_shift" ["value"] (fun vs H Q _ => ∃ p x y, vs = [.ref p] ∧ Pr K H p x y ∧ Q .non H) := by
  refine good_mk (d := d_check_shift) (N := ["value"]) T.d_check_shift rfl rfl T.g_check_shift ⟨rfl, rfl, rfl, by decide +kernel, rfl, by decide +kernel, by decide +kernel⟩
    (fun _ _ _ _ _ _ us hl => match us, hl with | [_], _ => rfl) (fun vs H Q E h => ?_) (fun f cdv A outer s H vs Q E hr h => ?_)
  · obtain ⟨p, x, y, rfl, _⟩ := h
    rfl
  · obtain ⟨p, x, y, rfl, hp, q⟩ := h
    refine ⟨_, (pss_one (ps_if (pt_not (pt_val (pe_fn (ok_is_shift T) hr (pa_cons (pv 0) pa_nil)))) (pss_one ps_never) pss_nil)), ?_⟩
    exact ⟨_, rfl, _, _, _, rfl, hp, _, rfl, iteF q⟩
theorem ok_check_cell (T : Txt w K mg) : Good P w K mg base 3 "check_cell" ["value"] (fun vs H Q _ => ∃ p x y, vs = [.ref p] ∧ Pr K H p x y ∧ Q .non H) := by
  refine good_mk (d := d_check_cell) (N := ["value"]) T.d_check_cell rfl rfl T.g_check_cell ⟨rfl, rfl, rfl, by decide +kernel, rfl, by decide +kernel, by decide +kernel⟩
    (fun _ _ _ _ _ _ us hl => match us, hl with | [_], _ => rfl) (fun vs H Q E h => ?_) (fun f cdv A outer s H vs Q E hr h => ?_)
  · obtain ⟨p, x, y, rfl, _⟩ := h
    rfl
  · obtain ⟨p, x, y, rfl, hp, q⟩ := h
    refine ⟨_, (pss_one (ps_if (pt_not (pt_val (pe_fn (ok_is_shift T) hr (pa_cons (pv 0) pa_nil)))) (pss_one ps_never) pss_nil)), ?_⟩
    exact ⟨_, rfl, _, _, _, rfl, hp, _, rfl, iteF q⟩
theorem ok_check_basis (T : Txt w K mg) : Good P w K mg base 3 "check_basis" ["a", "b", "d"] (fun vs H Q _ => ∃ a b d, vs = [.int a, .int b, .int d] ∧ Bas a b d ∧ Q .non H) := by
  refine good_mk (d := d_check_basis) (N := ["a", "b", "d"]) T.d_check_basis rfl rfl T.g_check_basis ⟨rfl, rfl, rfl, by decide +kernel, rfl, by decide +kernel, by decide +kernel⟩
    (fun _ _ _ _ _ _ us hl => match us, hl with | [_, _, _], _ => rfl) (fun vs H Q E h => ?_) (fun f cdv A outer s H vs Q E hr h => ?_)
  · obtain ⟨a, b, d, rfl, _⟩ := h
    rfl
  · obtain ⟨a, b, d, rfl, ⟨h1, h2, h3, h4⟩, q⟩ := h
    refine ⟨_, (pss_cons (ps_if (PW.pt (pw_or (pt_not (pt_val (pe_fn (ok_is_integer T) hr (pa_cons (pv 0) pa_nil)))) (pw_or1 (pt_cmpR op_lt (pv 0) pe_int (nomark _))))) (pss_one ps_never) pss_nil)
      (pss_cons (ps_if (pt_not (pt_val (pe_fn (ok_is_between T) hr (pa_cons (pv 1) (pa_cons pe_int (pa_cons (pe_op op_sub (pv 0) pe_int) pa_nil)))))) (pss_one ps_never) pss_nil)
      (pss_one (ps_if (PW.pt (pw_or (pt_not (pt_val (pe_fn (ok_is_integer T) hr (pa_cons (pv 2) pa_nil)))) (pw_or1 (pt_cmpR op_lt (pv 2) pe_int (nomark _))))) (pss_one ps_never) pss_nil)))), ?_⟩
    refine ⟨_, rfl, _, rfl, _, rfl, iteF ⟨_, rfl, _, _, rfl, rfl, _, rfl, ?_⟩⟩
    rw [decide_eq_false (show ¬ a < 1 by omega)]
    refine iteF ⟨_, rfl, _, rfl, _, _, rfl, rfl, _, _, _, rfl, ?_⟩
    rw [decide_eq_true h2, decide_eq_true (show b ≤ a - 1 by omega)]
    refine ⟨_, rfl, iteF ⟨_, rfl, _, rfl, _, rfl, iteF ⟨_, rfl, _, _, rfl, rfl, _, rfl, ?_⟩⟩⟩
    rw [decide_eq_false (show ¬ d < 1 by omega)]
    exact iteF q
/-! ### Lattice -/
theorem putF_len (f : Str) (v : V) : ∀ fs : List (Str × V), (putF f v fs).length ≤ fs.length + 1
  | [] => Nat.le_refl _
  | (g, x) :: r => by
    show (if g = f then (g, v) :: r else (g, x) :: putF f v r).length ≤ _
    by_cases h : g = f
    · rw [if_pos h]
      exact Nat.le_succ _
    · rw [if_neg h]
      exact Nat.succ_le_succ (putF_len f v r)
theorem putF_lt {f : Str} {v : V} {fs : List (Str × V)} {n : Nat} (h : fs.length < n) : (putF f v fs).length < n + 1 := Nat.lt_succ_of_le (Nat.le_trans (putF_len f v fs) h)
def latF (a b d : Int) : List (Str × V) := putF "d" (.int d) (putF "b" (.int b) (putF "a" (.int a) []))
theorem latF_a (a b d : Int) : (latF a b d).lookup ("a" : Str) = some (V.int a) := by
  unfold latF
  rw [lookup_putF, if_neg (by decide +kernel), lookup_putF, if_neg (by decide +kernel), lookup_putF, if_pos rfl]
theorem latF_b (a b d : Int) : (latF a b d).lookup ("b" : Str) = some (V.int b) := by
  unfold latF
  rw [lookup_putF, if_neg (by decide +kernel), lookup_putF, if_pos rfl]
theorem latF_d (a b d : Int) : (latF a b d).lookup ("d" : Str) = some (V.int d) := by
  unfold latF
  rw [lookup_putF, if_pos rfl]
theorem latF_no (a b d : Int) {m : Str} (h1 : ¬ m = "a") (h2 : ¬ m = "b") (h3 : ¬ m = "d") : (latF a b d).lookup m = none := by
  unfold latF
  rw [lookup_putF, if_neg h3, lookup_putF, if_neg h2, lookup_putF, if_neg h1]
  rfl
/-- a Lattice stands at l -/
def LatAt (K : PySem.W.Frag) (H : Hp) (l : Addr) (a b d : Int) : Prop := ∃ dx, H l = some (.ins (CL K) dx (latF a b d))
theorem LatAt.same {K : PySem.W.Frag} {H H' : Hp} {l : Addr} {a b d : Int} (h : LatAt K H l a b d) (e : Same H H') : LatAt K H' l a b d := let ⟨dx, h⟩ := h; ⟨dx, e _ _ h⟩
def spLatInit (K : PySem.W.Frag) : Sp := fun vs H Q _ => ∃ p dx a b d, vs = [.ref p, .int a, .int b, .int d] ∧ H p = some (.ins (CL K) dx []) ∧ Bas a b d ∧ Q .non (upd H p (.ins (CL K) dx (latF a b d)))
theorem ok_lat_init (T : Txt w K mg) : GoodM P w K mg base 4 "Lattice" "__init__" ["self", "a", "b", "d"] (spLatInit K) := by
  refine goodM_mk (d := d_Lattice___init__) (N := ["self", "a", "b", "d"]) T.d_Lattice___init__ rfl rfl ⟨rfl, rfl, rfl, by decide +kernel, rfl, by decide +kernel, by decide +kernel⟩
    (fun _ _ _ _ _ _ us hl => match us, hl with | [_, _, _, _], _ => rfl) (fun vs H Q E h => ?_) (fun f cdv A outer s H vs Q E hr h => ?_)
  · obtain ⟨p, dx, a, b, d, rfl, _⟩ := h
    rfl
  · obtain ⟨p, dx, a, b, d, rfl, hp, hb, q⟩ := h
    refine ⟨_, (pss_cons (ps_expr (pe_fn (ok_check_basis T) hr (pa_cons (pv 1) (pa_cons (pv 2) (pa_cons (pv 3) pa_nil)))))
      (pss_cons (ps_fld (pv 0) (pv 1) rfl) (pss_cons (ps_fld (pv 0) (pv 2) rfl) (pss_one (ps_fld (pv 0) (pv 3) rfl))))), ?_⟩
    refine ⟨_, rfl, _, rfl, _, rfl, _, _, _, rfl, hb, ?_⟩
    refine ⟨_, rfl, _, rfl, p, _, dx, _, rfl, hp, T.c_Lattice, T.n_Lattice_a, (by show 0 < 1000; decide), ?_⟩
    refine ⟨_, rfl, _, rfl, p, _, dx, _, rfl, upd_same, T.c_Lattice, T.n_Lattice_b, (by show 1 < 1000; decide), ?_⟩
    refine ⟨_, rfl, _, rfl, p, _, dx, _, rfl, upd_same, T.c_Lattice, T.n_Lattice_d, ?_, ?_⟩
    · exact putF_lt (putF_lt (by show 0 < 998; decide))
    · rw [upd_upd, upd_upd]
      exact q
end
end K84
set_option Elab.async false
set_option linter.all false
set_option maxRecDepth 100000
set_option maxHeartbeats 4000000
/-! how a heap may grow; comprehensions by what each item becomes -/
namespace K84
open PySem PySem.Spec PyProof.Rows L2
/-- all that never changes stays: all but lists and tables -/
def Kp (H H' : Hp) : Prop := ∀ b o, H b = some o → (∀ xs, o ≠ .lst xs) → (∀ ps, o ≠ .tbl ps) → H' b = some o
theorem Kp.refl (H : Hp) : Kp H H := fun _ _ h _ _ => h
theorem Kp.trans {H H1 H2 : Hp} (a : Kp H H1) (b : Kp H1 H2) : Kp H H2 := fun c o h n m => b c o (a c o h n m) n m
theorem Kp.of {H H' : Hp} (e : Same H H') : Kp H H' := fun b o h _ _ => e b o h
theorem Kp.put {H : Hp} {D : Addr} {xs ys : List V} (h : H D = some (.lst xs)) : Kp H (upd H D (.lst ys)) := fun b o e n _ => by
  rw [upd_ne (fun z => by rw [z, h] at e; cases e; exact n _ rfl)]
  exact e
theorem Kp.tup {H H' : Hp} (e : Kp H H') {a : Addr} {xs : List V} (h : H a = some (.tup xs)) : H' a = some (.tup xs) := e _ _ h (fun _ z => by cases z) (fun _ z => by cases z)
theorem Kp.ins {H H' : Hp} (e : Kp H H') {a C dx : Addr} {fs : List (Str × V)} (h : H a = some (.ins C dx fs)) : H' a = some (.ins C dx fs) := e _ _ h (fun _ z => by cases z) (fun _ z => by cases z)
theorem Kp.dT {H H' : Hp} (e : Kp H H') {a : Addr} {kvs : List (List Key × V)} (h : H a = some (.dT kvs)) : H' a = some (.dT kvs) := e _ _ h (fun _ z => by cases z) (fun _ z => by cases z)
theorem Kp.frz {H H' : Hp} (e : Kp H H') {a : Addr} {o : Obj} {u : HO} (h : H a = some (.frz o u)) : H' a = some (.frz o u) := e _ _ h (fun _ z => by cases z) (fun _ z => by cases z)
theorem Kp.sqT {K : PySem.W.Frag} {H H' : Hp} (e : Kp H H') {a : Addr} {xs : List V} (h : SqT K H a xs) : SqT K H' a xs := by
  rcases h with (h | ⟨o, h⟩) | h
  · exact .inl (.inl (e.tup h))
  · exact .inl (.inr ⟨o, e.frz h⟩)
  · exact .inr h
theorem Kp.lat {K : PySem.W.Frag} {H H' : Hp} (e : Kp H H') {l : Addr} {a b d : Int} (h : LatAt K H l a b d) : LatAt K H' l a b d := let ⟨dx, h⟩ := h; ⟨dx, e.ins h⟩
/-- how a heap may grow: Same, or all but the tables -/
structure Evo (S : Hp → Hp → Prop) : Prop where
  refl : ∀ H, S H H
  trans : ∀ {H H1 H2}, S H H1 → S H1 H2 → S H H2
  same : ∀ {H H'}, Same H H' → S H H'
  lst : ∀ {H H' b xs}, S H H' → H b = some (.lst xs) → H' b = some (.lst xs)
  put : ∀ {H1 H D xs ys}, S H1 H → H1 D = none → H D = some (.lst xs) → S H1 (upd H D (.lst ys))
  kp : ∀ {H H'}, S H H' → Kp H H'
theorem evoSame : Evo Same where
  refl := Same.refl
  trans := Same.trans
  same := id
  lst := fun e h => e _ _ h
  put := fun {H1 H D xs ys} e n _ b o h => by
    rw [upd_ne (ne_of_none h n)]
    exact e b o h
  kp := Kp.of
theorem Evo.new {S : Hp → Hp → Prop} (E : Evo S) {H : Hp} {p : Addr} {o : HO} (h : H p = none) : S H (upd H p o) := E.same (same_new h)
theorem Evo.free {S : Hp → Hp → Prop} (E : Evo S) {H H' : Hp} (e : S H H') {p : Addr} {o : HO} (h : H p = some o) (n1 : ∀ xs, o ≠ .lst xs) (n2 : ∀ ps, o ≠ .tbl ps) : H' p = some o := E.kp e _ _ h n1 n2

/-- the kept items' results -/
def Al (R : Nat → V → Hp → Prop) (keep : Nat → Bool) (n : Nat) (ys : List V) (H : Hp) : Prop := Paired (fun i y => R i y H) ((List.range n).filter keep) ys
theorem paired_imp {α β : Type} {F G : α → β → Prop} (h : ∀ a b, F a b → G a b) : ∀ {l : List α} {m : List β}, Paired F l m → Paired G l m
  | _, _, .nil => .nil
  | _, _, .cons r t => .cons (h _ _ r) (paired_imp h t)
theorem paired_eq {α β : Type} {F : α → β → Prop} {v : α → β} (h : ∀ a b, F a b → b = v a) : ∀ {l : List α} {m : List β}, Paired F l m → m = l.map v
  | _, _, .nil => rfl
  | _, _, .cons r t => by rw [List.map_cons, ← h _ _ r, ← paired_eq h t]
theorem paired_len {α β : Type} {F : α → β → Prop} : ∀ {l : List α} {m : List β}, Paired F l m → m.length = l.length
  | _, _, .nil => rfl
  | _, _, .cons r t => by rw [List.length_cons, List.length_cons, paired_len t]
theorem paired_at {α β : Type} {F : α → β → Prop} : ∀ {l : List α} {m : List β}, Paired F l m → ∀ {i : Nat} {a : α}, l[i]? = some a → ∃ b, m[i]? = some b ∧ F a b
  | _, _, .nil, i, a, h => by simp at h
  | _, _, .cons r t, 0, a, h => by
    cases h
    exact ⟨_, rfl, r⟩
  | _, _, .cons r t, i + 1, a, h => paired_at t (i := i) h
theorem Al.mono {R : Nat → V → Hp → Prop} {keep : Nat → Bool} {n : Nat} {ys : List V} {H H' : Hp} (hR : ∀ i y, R i y H → R i y H') (a : Al R keep n ys H) : Al R keep n ys H' := paired_imp (fun i y => hR i y) a
theorem Al.zero {R : Nat → V → Hp → Prop} {keep : Nat → Bool} {H : Hp} : Al R keep 0 [] H := .nil
theorem Al.yes {R : Nat → V → Hp → Prop} {keep : Nat → Bool} {n : Nat} {ys : List V} {y : V} {H : Hp} (a : Al R keep n ys H) (k : keep n = true) (r : R n y H) : Al R keep (n + 1) (ys ++ [y]) H := by
  unfold Al
  rw [List.range_succ, List.filter_append, List.filter_cons_of_pos k]
  exact Paired.snoc a r
theorem Al.no {R : Nat → V → Hp → Prop} {keep : Nat → Bool} {n : Nat} {ys : List V} {H : Hp} (a : Al R keep n ys H) (k : keep n = false) : Al R keep (n + 1) ys H := by
  unfold Al
  rw [List.range_succ, List.filter_append, List.filter_cons_of_neg (by rw [k]; decide), List.filter_nil, List.append_nil]
  exact a
theorem Al.le {R : Nat → V → Hp → Prop} {keep : Nat → Bool} {n : Nat} {ys : List V} {H : Hp} (a : Al R keep n ys H) : ys.length ≤ n := by
  rw [paired_len a]
  exact Nat.le_trans (List.length_filter_le _ _) (by rw [List.length_range]; exact Nat.le_refl _)
theorem Al.eq {R : Nat → V → Hp → Prop} {keep : Nat → Bool} {n : Nat} {ys : List V} {H : Hp} {v : Nat → V} (a : Al R keep n ys H) (h : ∀ i y, R i y H → y = v i) : ys = ((List.range n).filter keep).map v := paired_eq h a
theorem filter_yes {n : Nat} : (List.range n).filter (fun _ => true) = List.range n := List.filter_eq_self.mpr fun _ _ => rfl

/-- the loop of a comprehension -/
theorem lc_run {S : Hp → Hp → Prop} (ES : Evo S) {J : It} {g : TG} {tt : TT} {te : TE} {vs : List Nat} {σ : L2.St} {H1 : Hp} {D : Addr} {Qd : Hp → Prop} (n : Nat) (keep : Nat → Bool) (R : Nat → V → Hp → Prop)
    (nD : H1 D = none) (hn : n ≤ 100000) (hgo : ∀ i H, i < n → S H1 H → J.go i H) (hst : ∀ H, S H1 H → J.stop n H) (hR : ∀ i y H H', Kp H H' → R i y H → R i y H')
    (hs : ∀ i x H H' (Kc : V → Hp → Prop) (Kn : Hp → Prop), i < n → S H1 H → J.yld i H x H' → (∀ y H4, keep i = true → S H H4 → R i y H4 → Kc y H4) → (∀ H3, keep i = false → S H H3 → Kn H3) →
      g x (wipe σ vs) H' fun σ2 H2 => wipe σ2 vs = wipe σ vs ∧ tt σ2 H2 fun b H3 => if b = true then te σ2 H3 Kc else Kn H3)
    (hd : ∀ H ys, S H1 H → H D = some (.lst ys) → Al R keep n ys H → Qd H) :
    ∃ W : Nat → Nat → Hp → Prop, (∃ m, W 0 m (upd H1 D (.lst []))) ∧ ∀ i m H, W i m H → (J.stop i H ∧ Qd H) ∨ (J.go i H ∧ ∃ Nx : Hp → Prop, (∀ H', Nx H' → ∃ m', m' < m ∧ W (i + 1) m' H') ∧
      ∀ x H', J.yld i H x H' → g x (wipe σ vs) H' fun σ2 H2 => wipe σ2 vs = wipe σ vs ∧ tt σ2 H2 fun b H3 => if b = true then te σ2 H3 fun y H4 => ∃ acc, H4 D = some (.lst acc) ∧ acc.length < sizeLine ∧ Nx (upd H4 D (.lst (acc ++ [y]))) else Nx H3) := by
  refine ⟨fun i m H => m = n - i ∧ i ≤ n ∧ S H1 H ∧ ∃ ys, H D = some (.lst ys) ∧ Al R keep i ys H, ⟨n, rfl, Nat.zero_le _, ES.new nD, [], upd_same, .zero⟩, ?_⟩
  rintro i m H ⟨rfl, hi, e, ys, hD, a⟩
  by_cases hlt : i < n
  · refine .inr ⟨hgo i H hlt e, fun H' => S H1 H' ∧ ∃ ys, H' D = some (.lst ys) ∧ Al R keep (i + 1) ys H', fun H' ⟨e', r⟩ => ⟨n - (i + 1), by omega, rfl, hlt, e', r⟩, fun x H' y => ?_⟩
    refine hs i x H H' _ _ hlt e y (fun z H4 k e4 r => ?_) (fun H3 k e3 => ?_)
    · refine ⟨ys, ES.lst e4 hD, Nat.lt_of_le_of_lt a.le (Nat.lt_of_lt_of_le (Nat.lt_of_lt_of_le hlt hn) (by decide)), ES.put (ES.trans e e4) nD (ES.lst e4 hD), ys ++ [z], upd_same, ?_⟩
      have kp : Kp H4 (upd H4 D (.lst (ys ++ [z]))) := Kp.put (ES.lst e4 hD)
      exact (a.mono fun j y' q => hR j y' _ _ ((ES.kp e4).trans kp) q).yes k (hR i z _ _ kp r)
    · exact ⟨ES.trans e e3, ys, ES.lst e3 hD, (a.mono fun j y' q => hR j y' _ _ (ES.kp e3) q).no k⟩
  · have ei : i = n := by omega
    subst ei
    exact .inl ⟨hst H e, hd H ys e hD a⟩
/-- over a list that stands | a tuple | a range -/
theorem lcL {S : Hp → Hp → Prop} (ES : Evo S) {K : PySem.W.Frag} {a : Addr} {xs : List V} {g : TG} {tt : TT} {te : TE} {vs : List Nat} {σ : L2.St} {H1 : Hp} {D : Addr} {Qd : Hp → Prop} (hx : ∀ H, S H1 H → SqL K H a xs) (keep : Nat → Bool) (R : Nat → V → Hp → Prop)
    (nD : H1 D = none) (hn : xs.length ≤ 100000) (hR : ∀ i y H H', Kp H H' → R i y H → R i y H')
    (hs : ∀ i x H (Kc : V → Hp → Prop) (Kn : Hp → Prop), xs[i]? = some x → S H1 H → (∀ y H4, keep i = true → S H H4 → R i y H4 → Kc y H4) → (∀ H3, keep i = false → S H H3 → Kn H3) →
      g x (wipe σ vs) H fun σ2 H2 => wipe σ2 vs = wipe σ vs ∧ tt σ2 H2 fun b H3 => if b = true then te σ2 H3 Kc else Kn H3)
    (hd : ∀ H ys, S H1 H → H D = some (.lst ys) → Al R keep xs.length ys H → Qd H) :
    ∃ W : Nat → Nat → Hp → Prop, (∃ m, W 0 m (upd H1 D (.lst []))) ∧ ∀ i m H, W i m H → ((Itl K a).stop i H ∧ Qd H) ∨ ((Itl K a).go i H ∧ ∃ Nx : Hp → Prop, (∀ H', Nx H' → ∃ m', m' < m ∧ W (i + 1) m' H') ∧
      ∀ x H', (Itl K a).yld i H x H' → g x (wipe σ vs) H' fun σ2 H2 => wipe σ2 vs = wipe σ vs ∧ tt σ2 H2 fun b H3 => if b = true then te σ2 H3 fun y H4 => ∃ acc, H4 D = some (.lst acc) ∧ acc.length < sizeLine ∧ Nx (upd H4 D (.lst (acc ++ [y]))) else Nx H3) :=
  lc_run ES xs.length keep R nD hn (fun i H hi e => ⟨xs, xs[i], hx H e, by simp [hi]⟩) (fun H e => ⟨xs, hx H e, Nat.le_refl _⟩) hR (fun i x H H' Kc Kn hi e y h1 h2 => by
    obtain ⟨rfl, y2⟩ := y
    exact hs i x _ Kc Kn (y2 xs (hx _ e)) e h1 h2) hd
theorem lcT {S : Hp → Hp → Prop} (ES : Evo S) {K : PySem.W.Frag} {a : Addr} {xs : List V} {g : TG} {tt : TT} {te : TE} {vs : List Nat} {σ : L2.St} {H1 : Hp} {D : Addr} {Qd : Hp → Prop} (hx : ∀ H, S H1 H → SqT K H a xs) (keep : Nat → Bool) (R : Nat → V → Hp → Prop)
    (nD : H1 D = none) (hn : xs.length ≤ 100000) (hR : ∀ i y H H', Kp H H' → R i y H → R i y H')
    (hs : ∀ i x H (Kc : V → Hp → Prop) (Kn : Hp → Prop), xs[i]? = some x → S H1 H → (∀ y H4, keep i = true → S H H4 → R i y H4 → Kc y H4) → (∀ H3, keep i = false → S H H3 → Kn H3) →
      g x (wipe σ vs) H fun σ2 H2 => wipe σ2 vs = wipe σ vs ∧ tt σ2 H2 fun b H3 => if b = true then te σ2 H3 Kc else Kn H3)
    (hd : ∀ H ys, S H1 H → H D = some (.lst ys) → Al R keep xs.length ys H → Qd H) :
    ∃ W : Nat → Nat → Hp → Prop, (∃ m, W 0 m (upd H1 D (.lst []))) ∧ ∀ i m H, W i m H → ((Itt K a).stop i H ∧ Qd H) ∨ ((Itt K a).go i H ∧ ∃ Nx : Hp → Prop, (∀ H', Nx H' → ∃ m', m' < m ∧ W (i + 1) m' H') ∧
      ∀ x H', (Itt K a).yld i H x H' → g x (wipe σ vs) H' fun σ2 H2 => wipe σ2 vs = wipe σ vs ∧ tt σ2 H2 fun b H3 => if b = true then te σ2 H3 fun y H4 => ∃ acc, H4 D = some (.lst acc) ∧ acc.length < sizeLine ∧ Nx (upd H4 D (.lst (acc ++ [y]))) else Nx H3) :=
  lc_run ES xs.length keep R nD hn (fun i H hi e => ⟨xs, xs[i], hx H e, by simp [hi]⟩) (fun H e => ⟨xs, hx H e, Nat.le_refl _⟩) hR (fun i x H H' Kc Kn hi e y h1 h2 => by
    obtain ⟨rfl, y2⟩ := y
    exact hs i x _ Kc Kn (y2 xs (hx _ e)) e h1 h2) hd
theorem lcR {S : Hp → Hp → Prop} (ES : Evo S) {lo : Int} {n : Nat} {g : TG} {tt : TT} {te : TE} {vs : List Nat} {σ : L2.St} {H1 : Hp} {D : Addr} {Qd : Hp → Prop} (keep : Nat → Bool) (R : Nat → V → Hp → Prop)
    (nD : H1 D = none) (hn : n ≤ 100000) (hR : ∀ i y H H', Kp H H' → R i y H → R i y H')
    (hs : ∀ (i : Nat) H (Kc : V → Hp → Prop) (Kn : Hp → Prop), i < n → S H1 H → (∀ y H4, keep i = true → S H H4 → R i y H4 → Kc y H4) → (∀ H3, keep i = false → S H H3 → Kn H3) →
      g (.int (lo + (i : Int))) (wipe σ vs) H fun σ2 H2 => wipe σ2 vs = wipe σ vs ∧ tt σ2 H2 fun b H3 => if b = true then te σ2 H3 Kc else Kn H3)
    (hd : ∀ H ys, S H1 H → H D = some (.lst ys) → Al R keep n ys H → Qd H) :
    ∃ W : Nat → Nat → Hp → Prop, (∃ m, W 0 m (upd H1 D (.lst []))) ∧ ∀ i m H, W i m H → ((Itr lo n).stop i H ∧ Qd H) ∨ ((Itr lo n).go i H ∧ ∃ Nx : Hp → Prop, (∀ H', Nx H' → ∃ m', m' < m ∧ W (i + 1) m' H') ∧
      ∀ x H', (Itr lo n).yld i H x H' → g x (wipe σ vs) H' fun σ2 H2 => wipe σ2 vs = wipe σ vs ∧ tt σ2 H2 fun b H3 => if b = true then te σ2 H3 fun y H4 => ∃ acc, H4 D = some (.lst acc) ∧ acc.length < sizeLine ∧ Nx (upd H4 D (.lst (acc ++ [y]))) else Nx H3) :=
  lc_run ES n keep R nD hn (fun i H hi e => hi) (fun H e => Nat.le_refl _) hR (fun i x H H' Kc Kn hi e y h1 h2 => by
    obtain ⟨rfl, rfl⟩ := y
    exact hs i _ Kc Kn hi e h1 h2) hd
/-- the places of n1 rows of n2 -/
def grid (n1 n2 : Nat) : List (Nat × Nat) := (List.range n1).flatMap fun i => (List.range n2).map fun j => (i, j)
theorem grid_succ (n1 n2 : Nat) : grid (n1 + 1) n2 = grid n1 n2 ++ (List.range n2).map fun j => (n1, j) := by
  unfold grid
  rw [List.range_succ, List.flatMap_append, List.flatMap_cons, List.flatMap_nil, List.append_nil]
theorem grid_len (n1 n2 : Nat) : (grid n1 n2).length = n1 * n2 := by
  induction n1 with
  | zero => simp [grid]
  | succ n ih => rw [grid_succ, List.length_append, ih, List.length_map, List.length_range, Nat.succ_mul]
abbrev Al2 (R : Nat → Nat → V → Hp → Prop) (l : List (Nat × Nat)) (ys : List V) (H : Hp) : Prop := Paired (fun (p : Nat × Nat) y => R p.1 p.2 y H) l ys
/-- two fors over ranges, no tests -/
theorem lc2R {S : Hp → Hp → Prop} (ES : Evo S) {n1 n2 k1 k2 : Nat} {wi1 : TI} {te : TE} {vs vs1 : List Nat} {σ : L2.St} {H1 : Hp} {D : Addr} {Qd : Hp → Prop} (R : Nat → Nat → V → Hp → Prop)
    (nD : H1 D = none) (hn1 : n1 ≤ 300) (hn2 : n2 ≤ 300) (hR : ∀ i j y H H', Kp H H' → R i j y H → R i j y H')
    (hw1 : ∀ x, wipe ((wipe σ vs).set k1 (some x)) vs = wipe σ vs) (hw2 : ∀ x y, wipe ((wipe ((wipe σ vs).set k1 (some x)) vs1).set k2 (some y)) vs1 = wipe ((wipe σ vs).set k1 (some x)) vs1)
    (hi : ∀ (i : Nat) H (R1 : It → Hp → Prop), i < n1 → S H1 H → R1 (Itr 0 n2) H → wi1 ((wipe σ vs).set k1 (some (.int (0 + (i : Int))))) H R1)
    (he : ∀ (i j : Nat) H (Kc : V → Hp → Prop), i < n1 → j < n2 → S H1 H → (∀ y H4, S H H4 → R i j y H4 → Kc y H4) → te ((wipe ((wipe σ vs).set k1 (some (.int (0 + (i : Int))))) vs1).set k2 (some (.int (0 + (j : Int))))) H Kc)
    (hd : ∀ H ys, S H1 H → H D = some (.lst ys) → Al2 R (grid n1 n2) ys H → Qd H) :
    ∃ W : Nat → Nat → Hp → Prop, (∃ m, W 0 m (upd H1 D (.lst []))) ∧ ∀ i m H, W i m H → ((Itr 0 n1).stop i H ∧ Qd H) ∨ ((Itr 0 n1).go i H ∧ ∃ Nx : Hp → Prop, (∀ H', Nx H' → ∃ m', m' < m ∧ W (i + 1) m' H') ∧
      ∀ x H', (Itr 0 n1).yld i H x H' → gName k1 x (wipe σ vs) H' fun σ2 H2 => wipe σ2 vs = wipe σ vs ∧ tYes σ2 H2 fun b H3 => if b = true then wi1 σ2 H3 fun J1 H4 => ∃ W1 : Nat → Nat → Hp → Prop, (∃ m, W1 0 m H4) ∧ ∀ j k H, W1 j k H →
        (J1.stop j H ∧ Nx H) ∨ (J1.go j H ∧ ∃ Nx1 : Hp → Prop, (∀ H', Nx1 H' → ∃ k', k' < k ∧ W1 (j + 1) k' H') ∧ ∀ x H', J1.yld j H x H' → gName k2 x (wipe σ2 vs1) H' fun σ3 H5 => wipe σ3 vs1 = wipe σ2 vs1 ∧ tYes σ3 H5 fun b H6 =>
          if b = true then te σ3 H6 fun y H7 => ∃ acc, H7 D = some (.lst acc) ∧ acc.length < sizeLine ∧ Nx1 (upd H7 D (.lst (acc ++ [y]))) else Nx1 H6) else Nx H3) := by
  have big : n1 * n2 ≤ 90000 := Nat.le_trans (Nat.mul_le_mul hn1 hn2) (by decide)
  refine ⟨fun i m H => m = n1 - i ∧ i ≤ n1 ∧ S H1 H ∧ ∃ ys, H D = some (.lst ys) ∧ Al2 R (grid i n2) ys H, ⟨n1, rfl, Nat.zero_le _, ES.new nD, [], upd_same, .nil⟩, ?_⟩
  rintro i m H ⟨rfl, hil, e, ys, hD, a⟩
  by_cases hlt : i < n1
  · refine .inr ⟨hlt, fun H' => S H1 H' ∧ ∃ ys, H' D = some (.lst ys) ∧ Al2 R (grid (i + 1) n2) ys H', fun H' ⟨e', r⟩ => ⟨n1 - (i + 1), by omega, rfl, hlt, e', r⟩, fun x H' y => ?_⟩
    obtain ⟨rfl, rfl⟩ := y
    refine ⟨hw1 _, ?_⟩
    refine hi i _ _ hlt e ⟨fun j k H => k = n2 - j ∧ j ≤ n2 ∧ S H1 H ∧ ∃ ys, H D = some (.lst ys) ∧ Al2 R (grid i n2 ++ (List.range j).map fun j => (i, j)) ys H, ⟨n2, rfl, Nat.zero_le _, e, ys, hD, by simpa using a⟩, ?_⟩
    rintro j k H ⟨rfl, hjl, e, ys, hD, a⟩
    by_cases hjt : j < n2
    · refine .inr ⟨hjt, fun H' => S H1 H' ∧ ∃ ys, H' D = some (.lst ys) ∧ Al2 R (grid i n2 ++ (List.range (j + 1)).map fun j => (i, j)) ys H', fun H' ⟨e', r⟩ => ⟨n2 - (j + 1), by omega, rfl, hjt, e', r⟩, fun x H' y => ?_⟩
      obtain ⟨rfl, rfl⟩ := y
      refine ⟨hw2 _ _, ?_⟩
      refine he i j _ _ hlt hjt e fun z H4 e4 r => ?_
      have hl : ys.length < 100000 := by
        rw [paired_len a, List.length_append, grid_len, List.length_map, List.length_range]
        have : i * n2 ≤ n1 * n2 := Nat.mul_le_mul (Nat.le_of_lt hlt) (Nat.le_refl _)
        omega
      refine ⟨ys, ES.lst e4 hD, Nat.lt_of_lt_of_le hl (by decide), ES.put (ES.trans e e4) nD (ES.lst e4 hD), ys ++ [z], upd_same, ?_⟩
      have kp : Kp H4 (upd H4 D (.lst (ys ++ [z]))) := Kp.put (ES.lst e4 hD)
      have a2 := Paired.snoc (F := fun (p : Nat × Nat) y => R p.1 p.2 y (upd H4 D (.lst (ys ++ [z])))) (a := (i, j)) (b := z) (paired_imp (fun p y' q => hR p.1 p.2 y' _ _ ((ES.kp e4).trans kp) q) a) (hR i j z _ _ kp r)
      rw [List.append_assoc] at a2
      rw [List.range_succ, List.map_append]
      exact a2
    · have ej : j = n2 := by omega
      subst ej
      refine .inl ⟨Nat.le_refl _, e, ys, hD, ?_⟩
      rw [grid_succ]
      exact a
  · have ei : i = n1 := by omega
    subst ei
    exact .inl ⟨Nat.le_refl _, hd H ys e hD a⟩
/-! rules for a comprehension's block: the written part is given by name (a block's own context may not stand in a reading) -/
section
variable {X : Cx} {K : PySem.W.Frag}
/-- a target of two names -/
theorem pg_pair {i j : Nat} {x y : Str} {px py pos : Pos} {k : Nat} (hK : X.K = K) (hN : X.N.Nodup) (hc : X.calm = true) (hi : X.N[i]? = some x) (hj : X.N[j]? = some y) (hx : Loc X.env.scope x) (hy : Loc X.env.scope y)
    (fx : X.fn x = true ∨ X.env.scope.names.lookup x = some .local := by first | exact .inl rfl | exact .inr rfl | assumption) (fy : X.fn y = true ∨ X.env.scope.names.lookup y = some .local := by first | exact .inl rfl | exact .inr rfl | assumption) :
    PG X (.Tuple [.Name x px, .Name y py] k pos) (gTup K 2 (gCons (gName i) (gCons (gName j) gNil))) := by
  subst hK
  exact pg_tup hc (pgs_cons (pg_name hN hi hx fx) (pgs_cons (pg_name hN hj hy fy) pgs_nil))
theorem ix_tupK (hK : X.K = K) : IxR X (rIxT K) := by
  subst hK
  exact ix_tup
theorem ix_listK (hK : X.K = K) : IxR X (rIxL K) := by
  subst hK
  exact ix_list
theorem pe_fldK {e : Expr} {ta : TE} {f : Str} {pos : Pos} (hK : X.K = K) (ha : PE X e ta) (hb : attributeBase e f X.env (eval e X.env) = eval e X.env) : PE X (.Attribute e f pos) (tFld K ta f) := by
  subst hK
  exact pe_fld ha hb
end
end K84
set_option Elab.async false
set_option linter.all false
set_option maxRecDepth 100000
set_option maxHeartbeats 4000000
/-! lattices: what they span, their places -/
namespace K84
open PySem PySem.Spec PyProof.Rows L2
section
variable {P : Program} {w : World} {K : PySem.W.Frag} {mg : Str → Option Value} {base : Heap}
/-! ### greatest_divisor -/
theorem gcd_sub (l r k : Int) : Int.gcd r (l - k * r) = Int.gcd l r := by
  refine Nat.dvd_antisymm (Int.dvd_gcd ?_ (Int.gcd_dvd_left _ _)) (Int.dvd_gcd (Int.gcd_dvd_right _ _) ?_)
  · have h1 : ((Int.gcd r (l - k * r) : Nat) : Int) ∣ (l - k * r) := Int.gcd_dvd_right _ _
    have h2 : ((Int.gcd r (l - k * r) : Nat) : Int) ∣ k * r := Int.dvd_mul_of_dvd_right (Int.gcd_dvd_left _ _)
    have h3 := Int.dvd_add h1 h2
    rw [Int.sub_add_cancel] at h3
    exact h3
  · exact Int.dvd_sub (Int.gcd_dvd_left _ _) (Int.dvd_mul_of_dvd_right (Int.gcd_dvd_right _ _))
theorem gcd_step {l r : Int} : Int.gcd r (l % r) = Int.gcd l r := by
  have e : l % r = l - (l / r) * r := by
    rw [Int.emod_def, Int.mul_comm]
  rw [e, gcd_sub]
theorem sc_gd : FnScope ["one", "other", "left", "rest"] ["one", "other"] d_greatest_divisor.scope := ⟨rfl, rfl, rfl, by decide +kernel, rfl, by decide +kernel, by decide +kernel⟩
theorem ok_greatest_divisor (T : Txt w K mg) : Good P w K mg base 3 "greatest_divisor" ["one", "other"] (fun vs H Q _ => ∃ x y, vs = [.int x, .int y] ∧ Q (.int (Int.gcd x y)) H) := by
  refine good_mk (d := d_greatest_divisor) T.d_greatest_divisor rfl rfl T.g_greatest_divisor sc_gd
    (fun _ _ _ _ _ _ us hl => match us, hl with | [_, _], _ => rfl) (fun vs H Q E h => ?_) (fun f cdv A outer s H vs Q E hr h => ?_)
  · obtain ⟨x, y, rfl, _⟩ := h
    rfl
  · obtain ⟨x, y, rfl, q⟩ := h
    refine ⟨_, (pss_cons (ps_expr (pe_fn (ok_check_integer T) hr (pa_cons (pv 0) pa_nil)))
      (pss_cons (ps_expr (pe_fn (ok_check_integer T) hr (pa_cons (pv 1) pa_nil)))
      (pss_cons (ps_par (i := 2) (j := 3) rfl sc_gd.nd rfl rfl (by decide) rfl rfl (pa_cons (pe_callB call_abs (by rfl) T.f_abs b_abs (pa_cons (pv 0) pa_nil)) (pa_cons (pe_callB call_abs (by rfl) T.f_abs b_abs (pa_cons (pv 1) pa_nil)) pa_nil)) (by rfl))
      (pss_cons (ps_while PassesOwn.never (pt_cmpR op_ne (pv 3) pe_int (nomark _)) (pss_one (ps_par (i := 2) (j := 3) rfl sc_gd.nd rfl rfl (by decide) rfl rfl (pa_cons (pv 3) (pa_cons (pe_op op_mod (pe_callTy call_int1 (by rfl) T.f_int b_int (pa_cons (pv 2) pa_nil)) (pv 3)) pa_nil)) (by rfl))))
      (pss_one (ps_ret (pv 2))))))), ?_⟩
    refine ⟨_, rfl, _, rfl, _, rfl, _, rfl, _, rfl, _, rfl, _, rfl, _, rfl, _, _, rfl, ?_⟩
    refine while_by (fun σ H' => H' = H ∧ ∃ l r : Int, σ = [some (.int x), some (.int y), some (.int l), some (.int r)] ∧ 0 ≤ l ∧ 0 ≤ r ∧ Int.gcd l r = Int.gcd x y)
      (fun σ _ => match σ with | [_, _, _, some (.int r)] => r.toNat | _ => 0) ⟨rfl, _, _, rfl, ?_, ?_, ?_⟩ ?_ ?_
    · split <;> omega
    · split <;> omega
    · have e : ∀ z : Int, (if z < 0 then -z else z) = (z.natAbs : Int) := fun z => by split <;> omega
      rw [e, e]
      simp [Int.gcd]
    · rintro σ H' ⟨rfl, l, r, rfl, hl, hr0, hg⟩
      refine ⟨_, rfl, rfl, _, rfl, ?_⟩
      by_cases h0 : r = 0
      · subst h0
        refine iteNS rfl ?_
        refine ⟨_, rfl, ?_⟩
        have e : ((Int.gcd l 0 : Nat) : Int) = l := by
          rw [Int.gcd_zero_right]
          omega
        rw [hg] at e
        rw [← e]
        exact q
      · rw [decide_eq_false (show ¬ V.int r = V.int 0 by intro z; injection z with z; exact h0 z)]
        refine iteT ⟨_, rfl, _, rfl, .inl ⟨_, rfl, _, rfl, _, _, rfl, rfl, (by show 0 < r; omega), _, _, rfl, ⟨rfl, r, l % r, rfl, hr0, Int.emod_nonneg _ h0, ?_⟩, ?_⟩⟩
        · rw [gcd_step, hg]
        · show (l % r).toNat < r.toNat
          have h1 := Int.emod_lt_of_pos l (show 0 < r by omega)
          have h2 := Int.emod_nonneg l h0
          omega
    · rintro σ H' Q1 Q2 hq ⟨v, h1, h2, b, h3, h4⟩
      exact ⟨v, h1, h2, b, h3, hq _ _ h4⟩
/-! ### divisor_sum -/
theorem three_le : 3 ≤ sizeLine := by decide
theorem map_at {l : List Int} {i : Nat} {x : V} (h : (l.map V.int)[i]? = some x) : x = .int (l.getD i 0) := by
  rw [List.getElem?_map] at h
  cases e : l[i]? with
  | none =>
    rw [e] at h
    cases h
  | some z =>
    rw [e] at h
    rw [List.getD_eq_getElem?_getD, e]
    exact (Option.some.inj h).symm
theorem fdiv_facts {r l : Int} (hl : l ≠ 0) (b : Int) (h1 : -b ≤ r) (h2 : r ≤ b) : -b ≤ r.fdiv l ∧ r.fdiv l ≤ b ∧ (r - r.fdiv l * l).natAbs < l.natAbs := by
  have e := Int.mul_fdiv_add_fmod r l
  have e2 : r - r.fdiv l * l = r.fmod l := by
    rw [Int.mul_comm]
    omega
  have hm : (r.fmod l).natAbs < l.natAbs := by
    rcases Int.lt_or_gt_of_ne hl with h | h
    · have a1 := Int.emod_nonneg r hl
      have a2 := Int.emod_lt_of_neg r h
      rw [Int.fmod_eq_emod]
      by_cases hd : l ∣ r
      · have a3 := Int.emod_eq_zero_of_dvd hd
        rw [if_pos (.inr hd), a3]
        omega
      · have a3 : r % l ≠ 0 := fun z => hd (Int.dvd_of_emod_eq_zero z)
        rw [if_neg (by omega)]
        omega
    · have a1 := Int.fmod_nonneg_of_pos r h
      have a2 := Int.fmod_lt_of_pos r h
      omega
  refine ⟨?_, ?_, by rw [e2]; exact hm⟩
  all_goals
    generalize hq : r.fdiv l = q at *
    generalize hr : r.fmod l = m at *
    have hb : 0 ≤ b := by omega
    by_cases hq0 : q = 0
    · omega
    · have key : q.natAbs ≤ r.natAbs := by
        have h3 : (l * q).natAbs = l.natAbs * q.natAbs := Int.natAbs_mul _ _
        have h4 : (l * q).natAbs ≤ r.natAbs + m.natAbs := by omega
        have h5 : 1 ≤ q.natAbs := by omega
        by_cases hl1 : l.natAbs = 1
        · rw [h3, hl1] at h4
          omega
        · have h6 : 2 ≤ l.natAbs := by omega
          have h7 : l.natAbs * q.natAbs = l.natAbs + l.natAbs * (q.natAbs - 1) := by
            have h9 : q.natAbs = (q.natAbs - 1) + 1 := by omega
            rw [h9, Nat.mul_succ, Nat.add_sub_cancel, Nat.add_comm]
          have h8 : 2 * (q.natAbs - 1) ≤ l.natAbs * (q.natAbs - 1) := Nat.mul_le_mul_right _ h6
          omega
      omega
theorem sc_ds : FnScope ["one", "other", "row", "later", "many", "sign", "first", "second"] ["one", "other"] d_divisor_sum.scope := ⟨rfl, rfl, rfl, by decide +kernel, rfl, by decide +kernel, by decide +kernel⟩
abbrev Tr (K : PySem.W.Frag) (H : Hp) (p : Addr) (l : List Int) : Prop := SqT K H p (l.map V.int)
theorem ok_divisor_sum (T : Txt w K mg) : Good P w K mg base 3 "divisor_sum" ["one", "other"] (fun vs H Q _ => ∃ x y, vs = [.int x, .int y] ∧ -1000 ≤ x ∧ x ≤ 1000 ∧ -1000 ≤ y ∧ y ≤ 1000 ∧
    ∀ p H' u v, Same H H' → Pr K H' p u v → u * x + v * y = (Int.gcd x y : Int) → Q (.ref p) H') := by
  refine good_mk (d := d_divisor_sum) T.d_divisor_sum rfl rfl T.g_divisor_sum sc_ds
    (fun _ _ _ _ _ _ us hl => match us, hl with | [_, _], _ => rfl) (fun vs H Q E h => ?_) (fun f cdv A outer s H vs Q E hr h => ?_)
  · obtain ⟨x, y, rfl, _⟩ := h
    rfl
  · obtain ⟨x, y, rfl, bx1, bx2, by1, by2, q⟩ := h
    have nd := sc_ds.nd
    refine ⟨_, (pss_cons (ps_par (i := 2) (j := 3) rfl nd rfl rfl (by decide) rfl rfl (pa_cons (pe_tup (pa_cons (pv 0) (pa_cons pe_int (pa_cons pe_int pa_nil)))) (pa_cons (pe_tup (pa_cons (pv 1) (pa_cons pe_int (pa_cons pe_int pa_nil)))) pa_nil)) (by rfl))
      (pss_cons (ps_while PassesOwn.never (pt_cmpR op_ne (pe_ix ix_tup (pv 3) pe_int (fun _ _ => rfl)) pe_int (nomark _)) (pss_cons (ps_set (i := 4) nd rfl (by first | exact Or.inl rfl | exact Or.inr rfl) (pe_op op_fdivN (pe_callTy call_int1 (by rfl) T.f_int b_int (pa_cons (pe_ix ix_tup (pv 2) pe_int (fun _ _ => rfl)) pa_nil)) (pe_ix ix_tup (pv 3) pe_int (fun _ _ => rfl))))
        (pss_one (ps_par (i := 2) (j := 3) rfl nd rfl rfl (by decide) rfl rfl (pa_cons (pv 3) (pa_cons (pe_tupleOf (by rfl) T.f_tuple (pe_lc (own := [("first", 6), ("second", 7)]) rfl nd (RZ.pi_zipA (by rfl) T.f_zip (pa_cons (pv 2) (pa_cons (pv 3) pa_nil))) (blkOk_by (own := [("first", 6), ("second", 7)]) (N := ["one", "other", "row", "later", "many", "sign", "first", "second"]) (sc := d_divisor_sum.scope) (by decide +kernel)) (fun _ _ _ _ _ => pg_pair (K := K) (i := 6) (j := 7) rfl nd rfl rfl rfl (Or.inl rfl) (Or.inl rfl)) (fun _ _ _ _ _ => pts_nil) (fun _ _ _ _ _ => (pe_op op_sub (pv 6) (pe_op op_mul (pv 4) (pv 7)))))) pa_nil)) (by rfl)))))
      (pss_cons (ps_set (i := 5) nd rfl (by first | exact Or.inl rfl | exact Or.inr rfl) (pe_ifExp (pt_cmpR op_lt (pe_ix ix_tup (pv 2) pe_int (fun _ _ => rfl)) pe_int (nomark _)) (pe_un un_neg pe_int) pe_int))
      (pss_one (ps_ret (pe_tup (pa_cons (pe_op op_mul (pv 5) (pe_ix ix_tup (pv 2) pe_int (fun _ _ => rfl))) (pa_cons (pe_op op_mul (pv 5) (pe_ix ix_tup (pv 2) pe_int (fun _ _ => rfl))) pa_nil)))))))), ?_⟩
    refine ⟨_, rfl, three_le, fun p0 hp0 => ⟨_, rfl, three_le, fun q0 hq0 => ⟨_, _, rfl, ?_⟩⟩⟩
    have s0 : Same H (upd (upd H p0 (.tup [V.int x, V.int 1, V.int 0])) q0 (.tup [V.int y, V.int 0, V.int 1])) := (same_new hp0).trans (same_new hq0)
    refine while_by (fun σ H' => ∃ (p q : Addr) (m : Option V) (r0 r1 r2 l0 l1 l2 : Int), σ = [some (.int x), some (.int y), some (.ref p), some (.ref q), m, none, none, none] ∧ Same H H' ∧ H' p = some (.tup ([r0, r1, r2].map V.int)) ∧ H' q = some (.tup ([l0, l1, l2].map V.int)) ∧
        r1 * x + r2 * y = r0 ∧ l1 * x + l2 * y = l0 ∧ Int.gcd r0 l0 = Int.gcd x y ∧ -1000 ≤ r0 ∧ r0 ≤ 1000 ∧ -1000 ≤ l0 ∧ l0 ≤ 1000)
      (fun (σ : L2.St) (H' : Hp) => (match σ[3]? with | some (some (V.ref q)) => (match H' q with | some (HO.tup (V.int l :: _)) => l.natAbs | _ => 0) | _ => 0))
      ⟨p0, q0, none, x, 1, 0, y, 0, 1, rfl, s0, ?_, upd_same, by omega, by omega, rfl, bx1, bx2, by1, by2⟩ ?_ ?_
    · rw [upd_ne (ne_of_none upd_same hq0)]
      exact upd_same
    · rintro σ H' ⟨p, q', m, r0, r1, r2, l0, l1, l2, rfl, sH, hp, hq, er, el, eg, br1, br2, bl1, bl2⟩
      refine ⟨_, rfl, _, _, _, _, rfl, rfl, SqT.of hq, rfl, rfl, _, rfl, ?_⟩
      by_cases h0 : l0 = 0
      · subst h0
        refine iteNS rfl ?_
        refine ⟨_, rfl, _, _, _, _, rfl, rfl, SqT.of hp, rfl, _, _, rfl, rfl, _, rfl, ?_⟩
        have g0 : (Int.gcd x y : Int) = r0.natAbs := by
          rw [← eg, Int.gcd_zero_right]
        by_cases hn : r0 < 0
        · rw [decide_eq_true hn]
          refine iteT ⟨_, rfl, ?_⟩
          refine ⟨_, rfl, _, rfl, _, _, _, _, rfl, rfl, SqT.of hp, rfl, _, _, rfl, rfl, .inl ⟨by decide, by decide⟩, _, rfl, _, rfl, _, _, _, _, rfl, rfl, SqT.of hp, rfl, _, _, rfl, rfl, .inl ⟨by decide, by decide⟩, two_le, fun z hz => ?_⟩
          refine q z _ (-1 * r1) (-1 * r2) (sH.trans (same_new hz)) (SqT.of upd_same) ?_
          rw [g0, Int.neg_mul, Int.neg_mul, Int.neg_mul, Int.neg_mul, Int.one_mul, Int.one_mul]
          omega
        · rw [decide_eq_false hn]
          refine iteF ?_
          refine ⟨_, rfl, _, rfl, _, _, _, _, rfl, rfl, SqT.of hp, rfl, _, _, rfl, rfl, .inl ⟨by decide, by decide⟩, _, rfl, _, rfl, _, _, _, _, rfl, rfl, SqT.of hp, rfl, _, _, rfl, rfl, .inl ⟨by decide, by decide⟩, two_le, fun z hz => ?_⟩
          refine q z _ (1 * r1) (1 * r2) (sH.trans (same_new hz)) (SqT.of upd_same) ?_
          rw [g0, Int.one_mul, Int.one_mul]
          omega
      · rw [decide_eq_false (show ¬ V.int l0 = V.int 0 by intro z; injection z with z; exact h0 z)]
        obtain ⟨k1, k2, k3⟩ := fdiv_facts (r := r0) h0 1000 br1 br2
        refine iteT ⟨_, rfl, _, _, _, _, rfl, rfl, SqT.of hp, rfl, .inl ⟨_, rfl, _, rfl, _, _, _, _, rfl, rfl, SqT.of hq, rfl, _, _, rfl, rfl, ⟨h0, by omega⟩, ?_⟩⟩
        refine ⟨_, rfl, _, rfl, _, rfl, _, _, _, _, rfl, .inr ⟨SqT.of hp, SqT.of hq, fun D nD => ?_⟩⟩
        refine lc_run evoSame 3 (fun _ => true) (fun i y _ => y = .int ([r0, r1, r2].getD i 0 - r0.fdiv l0 * [l0, l1, l2].getD i 0)) nD (by decide) (fun i H2 hi e => ?_) (fun H2 e => ⟨_, _, SqT.of (e _ _ hp), SqT.of (e _ _ hq), .inl (Nat.le_refl _)⟩) (fun _ _ _ _ _ h => h) (fun i z H2 H3 Kc Kn hi e yl hc _ => ?_) (fun H2 ys e hD al => ?_)
        · exact ⟨_, _, ([r0, r1, r2].map V.int)[i], ([l0, l1, l2].map V.int)[i], SqT.of (e _ _ hp), SqT.of (e _ _ hq), by simp, by simp⟩
        · obtain ⟨T0, v1, v2, rfl, hT, rfl, h1, h2⟩ := yl
          have e1 := map_at (h1 _ (SqT.of (e _ _ hp)))
          have e2 := map_at (h2 _ (SqT.of (e _ _ hq)))
          subst e1 e2
          refine ⟨_, _, rfl, SqT.of upd_same, rfl, _, _, rfl, _, _, rfl, rfl, rfl, _, rfl, _, rfl, _, rfl, _, _, rfl, rfl, .inl ⟨by omega, by omega⟩, _, _, rfl, rfl, ?_⟩
          exact hc _ _ rfl (same_new hT) rfl
        · have ey := al.eq (v := fun i => V.int ([r0, r1, r2].getD i 0 - r0.fdiv l0 * [l0, l1, l2].getD i 0)) fun _ _ h => h
          refine .inl ⟨D, ys, rfl, SqL.of hD, fun z hz => ⟨_, _, rfl, ⟨q', z, _, l0, l1, l2, r0 - r0.fdiv l0 * l0, r1 - r0.fdiv l0 * l1, r2 - r0.fdiv l0 * l2, rfl, sH.trans (e.trans (same_new hz)), ?_, ?_, el, ?_, ?_, bl1, bl2, ?_, ?_⟩, ?_⟩⟩
          · exact same_new hz _ _ (e _ _ hq)
          · rw [upd_same, ey]
            rfl
          · rw [← el, ← er]
            rw [Int.sub_mul, Int.sub_mul, Int.mul_add, Int.mul_assoc, Int.mul_assoc]
            omega
          · rw [gcd_sub, eg]
          · omega
          · omega
          · show (match (upd H2 z (.tup ys)) z with | some (HO.tup (V.int l :: _)) => l.natAbs | _ => 0) < (match H' q' with | some (HO.tup (V.int l :: _)) => l.natAbs | _ => 0)
            rw [upd_same, hq, ey]
            exact k3
    · rintro σ H' Q1 Q2 hq ⟨v, h1, a, xs, i, z, h2, h3, h4, h5, h6, b, h7, h8⟩
      exact ⟨v, h1, a, xs, i, z, h2, h3, h4, h5, h6, b, h7, hq _ _ h8⟩
/-! ### Lattice: made, its methods -/
theorem made {H : Hp} {x dx : Addr} {o0 o1 o2 : HO} (h : H x = none) (h2 : H dx = none) : Same H (upd (upd (upd H dx o0) x o1) x o2) := fun b o e => by
  rw [upd_upd, upd_ne (ne_of_none e h), upd_ne (ne_of_none e h2)]
  exact e
theorem b_lat_init {d : He.DefD} (h : d = d_Lattice___init__) : BindsD d ["self", "a", "b", "d"] := by
  subst h
  exact fun _ _ _ _ _ _ us hl => match us, hl with | [_, _, _, _], _ => rfl
/-- what two shifts span -/
def Spans (x1 y1 x2 y2 a b d : Int) : Prop := d = (Int.gcd y1 y2 : Int) ∧ a = ((x1 * y2 - x2 * y1).natAbs : Int) / d ∧ ∃ u v : Int, u * y1 + v * y2 = d ∧ b = (u * x1 + v * x2) % a
theorem spans_bas {x1 y1 x2 y2 : Int} (h : x1 * y2 - x2 * y1 ≠ 0) : 1 ≤ (Int.gcd y1 y2 : Int) ∧ 1 ≤ ((x1 * y2 - x2 * y1).natAbs : Int) / (Int.gcd y1 y2 : Int) := by
  have g0 : Int.gcd y1 y2 ≠ 0 := fun z => by
    obtain ⟨e1, e2⟩ := Int.gcd_eq_zero_iff.mp z
    rw [e1, e2, Int.mul_zero, Int.mul_zero] at h
    exact h rfl
  have hd : ((Int.gcd y1 y2 : Nat) : Int) ∣ x1 * y2 - x2 * y1 := Int.dvd_sub (Int.dvd_mul_of_dvd_right (Int.gcd_dvd_right _ _)) (Int.dvd_mul_of_dvd_right (Int.gcd_dvd_left _ _))
  have hn : Int.gcd y1 y2 ∣ (x1 * y2 - x2 * y1).natAbs := by
    have := Int.natAbs_dvd_natAbs.mpr hd
    simpa using this
  have hp : 0 < (x1 * y2 - x2 * y1).natAbs := Int.natAbs_pos.mpr h
  have h1 : Int.gcd y1 y2 ≤ (x1 * y2 - x2 * y1).natAbs := Nat.le_of_dvd hp hn
  refine ⟨by omega, ?_⟩
  have h2 : 0 < (x1 * y2 - x2 * y1).natAbs / Int.gcd y1 y2 := Nat.div_pos h1 (by omega)
  have h3 : ((x1 * y2 - x2 * y1).natAbs : Int) / (Int.gcd y1 y2 : Int) = (((x1 * y2 - x2 * y1).natAbs / Int.gcd y1 y2 : Nat) : Int) := by simp
  omega
theorem sc_sp : FnScope ["one", "other", "size", "d", "u", "v", "a"] ["one", "other"] d_spanned.scope := ⟨rfl, rfl, rfl, by decide +kernel, rfl, by decide +kernel, by decide +kernel⟩
def Sm (x : Int) : Prop := -1000 ≤ x ∧ x ≤ 1000
theorem Sm.mul {x : Int} (h : Sm x) : -(2 ^ 64) < x ∧ x < 2 ^ 64 := by
  obtain ⟨a, b⟩ := h
  omega
theorem ok_spanned (T : Txt w K mg) : Good P w K mg base 6 "spanned" ["one", "other"] (fun vs H Q _ => ∃ p q x1 y1 x2 y2, vs = [.ref p, .ref q] ∧ Pr K H p x1 y1 ∧ Pr K H q x2 y2 ∧ Sm x1 ∧ Sm y1 ∧ Sm x2 ∧ Sm y2 ∧ x1 * y2 - x2 * y1 ≠ 0 ∧
    ∀ l H' a b d, Same H H' → LatAt K H' l a b d → Spans x1 y1 x2 y2 a b d → Bas a b d → Q (.ref l) H') := by
  refine good_mk (d := d_spanned) T.d_spanned rfl rfl T.g_spanned sc_sp
    (fun _ _ _ _ _ _ us hl => match us, hl with | [_, _], _ => rfl) (fun vs H Q E h => ?_) (fun f cdv A outer s H vs Q E hr h => ?_)
  · obtain ⟨p, q, x1, y1, x2, y2, rfl, _⟩ := h
    rfl
  · obtain ⟨p, q, x1, y1, x2, y2, rfl, hp, hq, s1, t1, s2, t2, hz, k⟩ := h
    have nd := sc_sp.nd
    obtain ⟨fd, FI, bI⟩ := ok_lat_init (P := P) (w := w) (base := base) (mg := mg) T
    refine ⟨_, (pss_cons (ps_expr (pe_fn (ok_check_shift T) hr (pa_cons (pv 0) pa_nil)))
      (pss_cons (ps_expr (pe_fn (ok_check_shift T) hr (pa_cons (pv 1) pa_nil)))
      (pss_cons (ps_set (i := 2) nd rfl (by first | exact Or.inl rfl | exact Or.inr rfl) (pe_callB call_abs (by rfl) T.f_abs b_abs (pa_cons (pe_op op_sub (pe_op op_mul (pe_ix ix_tup (pv 0) pe_int (fun _ _ => rfl)) (pe_ix ix_tup (pv 1) pe_int (fun _ _ => rfl))) (pe_op op_mul (pe_ix ix_tup (pv 1) pe_int (fun _ _ => rfl)) (pe_ix ix_tup (pv 0) pe_int (fun _ _ => rfl)))) pa_nil)))
      (pss_cons (ps_if (pt_cmpR op_eq (pv 2) pe_int (nomark _)) (pss_one ps_never) pss_nil)
      (pss_cons (ps_set (i := 3) nd rfl (by first | exact Or.inl rfl | exact Or.inr rfl) (pe_fn (ok_greatest_divisor T) hr (pa_cons (pe_ix ix_tup (pv 0) pe_int (fun _ _ => rfl)) (pa_cons (pe_ix ix_tup (pv 1) pe_int (fun _ _ => rfl)) pa_nil))))
      (pss_cons (ps_asg (pe_fn (ok_divisor_sum T) hr (pa_cons (pe_ix ix_tup (pv 0) pe_int (fun _ _ => rfl)) (pa_cons (pe_ix ix_tup (pv 1) pe_int (fun _ _ => rfl)) pa_nil))) (pg_tup rfl (pgs_cons (pg_name (i := 4) nd rfl (Or.inl rfl)) (pgs_cons (pg_name (i := 5) nd rfl (Or.inl rfl)) pgs_nil))))
      (pss_cons (ps_set (i := 6) nd rfl (by first | exact Or.inl rfl | exact Or.inr rfl) (pe_op op_fdiv (pv 2) (pv 3)))
      (pss_one (ps_ret (pe_make T.mk_Lattice FI (hr.mono (by decide)) (by rfl) T.g_Lattice bI .nil pass0 (pa_cons (pv 6) (pa_cons (pe_op op_mod (pe_callTy call_int1 (by rfl) T.f_int b_int (pa_cons (pe_op op_add (pe_op op_mul (pv 4) (pe_ix ix_tup (pv 0) pe_int (fun _ _ => rfl))) (pe_op op_mul (pv 5) (pe_ix ix_tup (pv 1) pe_int (fun _ _ => rfl)))) pa_nil)) (pv 6)) (pa_cons (pv 3) pa_nil))))))))))))), ?_⟩
    obtain ⟨hd1, ha1⟩ := spans_bas hz
    refine ⟨_, rfl, _, _, _, rfl, hp, _, rfl, _, _, _, rfl, hq, ?_⟩
    refine ⟨_, rfl, _, _, _, _, rfl, rfl, hp, rfl, _, rfl, _, _, _, _, rfl, rfl, hq, rfl, _, _, rfl, rfl, .inl s1.mul, _, rfl, _, _, _, _, rfl, rfl, hq, rfl, _, rfl, _, _, _, _, rfl, rfl, hp, rfl, _, _, rfl, rfl, .inl s2.mul, _, _, rfl, rfl, _, rfl, ?_⟩
    have ea : (if x1 * y2 - x2 * y1 < 0 then -(x1 * y2 - x2 * y1) else x1 * y2 - x2 * y1) = ((x1 * y2 - x2 * y1).natAbs : Int) := by split <;> omega
    refine ⟨_, rfl, rfl, _, rfl, ?_⟩
    rw [decide_eq_false (show ¬ V.int (if x1 * y2 - x2 * y1 < 0 then -(x1 * y2 - x2 * y1) else x1 * y2 - x2 * y1) = V.int 0 by
      intro z
      injection z with z
      split at z <;> omega)]
    refine iteF ?_
    refine ⟨_, rfl, _, _, _, _, rfl, rfl, hp, rfl, _, rfl, _, _, _, _, rfl, rfl, hq, rfl, _, _, rfl, ?_⟩
    refine ⟨_, rfl, _, _, _, _, rfl, rfl, hp, rfl, _, rfl, _, _, _, _, rfl, rfl, hq, rfl, _, _, rfl, t1.1, t1.2, t2.1, t2.2, fun p2 H2 u v e2 hp2 huv => ?_⟩
    refine ⟨p2, _, rfl, hp2, rfl, _, _, rfl, _, _, rfl, rfl, ?_⟩
    have hg : (Int.gcd y1 y2 : Int) < 1073741824 := by
      have h1 : Int.gcd y1 y2 ≤ 1000 ∨ True := .inr trivial
      by_cases hy : y1 = 0
      · subst hy
        rw [Int.gcd_zero_left]
        obtain ⟨a1, a2⟩ := t2
        omega
      · have h2 : Int.gcd y1 y2 ≤ y1.natAbs := Nat.le_of_dvd (Int.natAbs_pos.mpr hy) (Int.gcd_dvd_natAbs_left _ _)
        obtain ⟨a1, a2⟩ := t1
        omega
    refine ⟨_, rfl, _, rfl, _, _, rfl, rfl, ⟨by omega, hg⟩, ?_⟩
    have hp' := sqT_same e2 hp
    have hq' := sqT_same e2 hq
    refine ⟨_, rfl, _, rfl, _, rfl, _, _, _, _, rfl, rfl, hp', rfl, _, _, rfl, rfl, .inr s1.mul, _, rfl, _, rfl, _, _, _, _, rfl, rfl, hq', rfl, _, _, rfl, rfl, .inr s2.mul, _, _, rfl, rfl, .inl ⟨_, rfl, _, rfl, _, _, rfl, rfl, ?_, _, rfl, ?_⟩⟩
    · rw [ea]
      omega
    · intro x dx nx ndx nex
      have hb : Bas (((x1 * y2 - x2 * y1).natAbs : Int) / (Int.gcd y1 y2 : Int)) ((u * x1 + v * x2) % (((x1 * y2 - x2 * y1).natAbs : Int) / (Int.gcd y1 y2 : Int))) (Int.gcd y1 y2 : Int) := by
        refine ⟨ha1, Int.emod_nonneg _ (by omega), Int.emod_lt_of_pos _ (by omega), hd1⟩
      rw [← ea] at hb
      refine ⟨x, dx, _, _, _, rfl, upd_same, hb, rfl, ?_⟩
      refine k x _ _ _ _ (e2.trans (made nx ndx)) ⟨dx, upd_same⟩ ⟨rfl, by rw [ea], u, v, huv, rfl⟩ hb
end
end K84
set_option Elab.async false
set_option linter.all false
set_option maxRecDepth 100000
set_option maxHeartbeats 4000000
/-! enumerate of a tuple -/
namespace K84
open PySem PySem.Spec PyProof.Rows L2
theorem meets_enum1 {v : Value} {o : Obj} {C : Heap → Prop} (B : Begins v o C) :
    Meets (Builtin.«enumerate.__new__» ⟨[.type "enumerate", v], []⟩) (fun _ R s => C s.heap ∧
      R (.ok (.ret (.ref (s.heap.push o).objs.size))) { s with heap := (s.heap.push o).push { cls := .type "enumerate", data := .fields #[.none, .bool false, .ref s.heap.objs.size, rawInt 0, .none, .none] } }) :=
  .of_wp fun prog w A R s h => by
    obtain ⟨hp, g, d, tk, os⟩ := s
    obtain ⟨hc, hR⟩ := h
    have hsub := sub_enumerate
    have begin1 : ∀ {A' : Around} {E : Value → Shared → Prop} {Q : Value → Shared → Prop}, Q (.ref hp.objs.size) ⟨hp.push o, g, d, tk, os⟩ → wpAny (model prog w) A' (pyIter v) Q E ⟨hp, g, d, tk, os⟩ :=
      fun q => B.iter prog w _ _ ⟨hp, g, d, tk, os⟩ _ hc q
    wp_walk using begin1
    refine wpAny_stack_any fun st => wpAny_pure ?_
    split
    next c _ _ _ _ _ =>
      cases (c == Value.type "enumerate") <;> wp_walk using begin1 <;> exact ⟨_, rfl, hR⟩
    next =>
      wp_walk using begin1
      exact ⟨_, rfl, hR⟩
section
variable {prog : Program} {w : World} {A : Around} {E : Value → Shared → Prop} {s : Shared}
theorem call_enum_tuple {t : Addr} {items : Array Value} {Q : Value → Shared → Prop} (ht : s.heap.IsTuple t items)
    (h : ∀ h', IsEnum h' (s.heap.objs.size + 1) s.heap.objs.size 0 .none → h'.IsTupleIter s.heap.objs.size t 0 → (∀ b o, s.heap.get? b = some o → h'.get? b = some o) → Q (.ref (s.heap.objs.size + 1)) { s with heap := h' }) :
    wpAny (model prog w) A (call (.type "enumerate") [.ref t]) Q E s := by
  refine callType_new F.called_enumerate (by decide) (F.typeCall_enumerate_1 _) (F.newCall_enumerate_1 _) (fun obj => F.args_object_init_2 obj _) F.entry_enumerate_new (meets_enum1 (begins_tuple t items)) ⟨ht, ?_⟩
  have sz : (s.heap.push { cls := .type "tuple_iterator", data := .fields #[.ref t, .int 0 0] }).objs.size = s.heap.objs.size + 1 := Heap.size_push ..
  show _ ∧ _
  rw [sz]
  have en : IsEnum ((s.heap.push { cls := .type "tuple_iterator", data := .fields #[.ref t, .int 0 0] }).push
      { cls := .type "enumerate", data := .fields #[.none, .bool false, .ref s.heap.objs.size, rawInt 0, .none, .none] }) (s.heap.objs.size + 1) s.heap.objs.size 0 .none := by
    have z := Heap.get?_push_size (s.heap.push { cls := .type "tuple_iterator", data := .fields #[.ref t, .int 0 0] }) (o := { cls := .type "enumerate", data := .fields #[.none, .bool false, .ref s.heap.objs.size, rawInt 0, .none, .none] }) rfl
    rw [sz] at z
    exact z
  exact ⟨⟨_, en, rfl⟩, h _ en ⟨_, Heap.get?_push_of_some _ (Heap.get?_push_size _ rfl), rfl, rfl⟩ fun b o q => Heap.get?_push_of_some _ (Heap.get?_push_of_some _ q)⟩
end
/-- the tuple at a, each item in a new pair with its place -/
def IteT (K : PySem.W.Frag) (a : Addr) : It :=
  ⟨fun i H => ∃ (xs : List V) (x : V), SqT K H a xs ∧ xs[i]? = some x, fun i H v H' => ∃ T x, v = .ref T ∧ H T = none ∧ H' = upd H T (.tup [.int (i : Nat), x]) ∧ ∀ xs, SqT K H a xs → xs[i]? = some x, fun i H => ∃ xs : List V, SqT K H a xs ∧ xs.length = i⟩
theorem turn_enumT {P : Program} {w : World} {K : PySem.W.Frag} {elts : List Expr} {kk : Nat} {tpos : Pos} (a e it : Addr) :
    Turn P w K (.Tuple elts kk tpos) (IteT K a) [e, it] e (fun i h => (∃ old, IsEnum h e it ((i : Nat) : Int) old) ∧ h.IsTupleIter it a i ∧ e ≠ it) where
  mem := List.mem_cons_self
  obj := by
    rintro i h ⟨⟨old, he⟩, ⟨o, ho, hc, hd⟩, _⟩ b hb
    rcases List.mem_cons.mp hb with rfl | hb
    · exact ⟨_, he, fun v q => nomatch q⟩
    · rw [List.mem_singleton.mp hb]
      exact ⟨o, ho, fun v q => by rw [hd] at q; cases q⟩
  keep := by
    rintro i h h' ⟨⟨old, he⟩, hi, hne⟩ k
    exact ⟨⟨old, k e List.mem_cons_self _ he⟩, hi.at fun o q => k it (by simp) o q, hne⟩
  item := by
    intro X hP hw hK hc i pins s σ H E I hf st hg
    subst hP hw hK
    obtain ⟨⟨old, he⟩, hit, hne⟩ := st
    obtain ⟨xs, x, hq, hx⟩ := hg
    obtain ⟨its, rv, p, hz⟩ := I.tuple hq
    obtain ⟨u, hu, ru⟩ := rv.get hx
    have ht : s.heap.IsTuple a its.toArray := p
    have hel : e < s.heap.objs.size := Heap.lt_size he
    have hil : it < s.heap.objs.size := by obtain ⟨_, q, _⟩ := hit; exact Heap.lt_size q
    have nea : e ≠ a := by
      rintro rfl
      obtain ⟨o, h1, h2, n, h3⟩ := ht
      rw [he] at h1
      cases h1
      cases h3
    have nia : a ≠ it := by
      rintro rfl
      obtain ⟨o, h1, h2, n, h3⟩ := ht
      obtain ⟨o', h1', h2', h3'⟩ := hit
      rw [h1] at h1'
      cases h1'
      rw [h3] at h3'
      cases h3'
    have hlt : i < its.toArray.size := by
      have := (List.getElem?_eq_some_iff.mp hu).1
      simpa using this
    refine wpAny_pyNext_enum_itemC (Draws.tuple (A := X.A.in1) (I.ok.hd hc) it a nia its.toArray) he ⟨hit, ht⟩ hlt hne (by simp [hne, nea]) fun v h' tk hv ho hs' hT hsz hk => ?_
    have ev : v = u := by
      have e1 : its.toArray[i]? = some u := by simpa using hu
      rw [e1] at hv
      exact (Option.some.inj hv).symm
    subst ev
    refine ⟨_, rfl, wpAny_letOwnedTupleGo_enum (s := { s with heap := h', toks := tk + 1 }) ho fun h'' he' sb => ?_⟩
    have hT2 : h''.get? s.heap.objs.size = some { cls := .type "tuple", data := .seq #[.int i tk, v] } := (sb.2 _ (Nat.ne_of_gt hel)).trans hT
    have new : ObjOk X.prog X.w (upd H s.heap.objs.size (.tup [.int (i : Nat), x])) h'' s.heap.objs.size (.tup [.int (i : Nat), x]) :=
      ⟨two_le, [.int i tk, v], .cons ⟨_, rfl⟩ (.cons ru .nil), ⟨_, hT2, rfl, _, rfl⟩⟩
    have I1 : Inv X pins σ (upd H s.heap.objs.size (.tup [.int (i : Nat), x])) { s with heap := h'', toks := tk + 1 } :=
      I.turnedNew (ch := [e, it]) (fun b ob hb q => (sb.2 b (fun z => hb (by simp [z]))).trans (hk b ob (fun z => hb (by simp [z])) (fun z => hb (by simp [z])) q)) hf (Nat.le_refl _) new
    refine ⟨.ref s.heap.objs.size, _, I1, rfl, ⟨_, x, rfl, I.hok.fresh (Nat.le_refl _), rfl, fun ys hy => by rw [I.tuple_inj hy hq]; exact hx⟩, ⟨⟨v, ?_⟩, hs'.1.at fun o q => (sb.2 it (Ne.symm hne)).trans q, hne⟩, fun b hb => ?_⟩
    · rw [show ((i + 1 : Nat) : Int) = (i : Int) + 1 by omega]
      exact he'
    · have hb' : b < s.heap.objs.size := by
        rcases List.mem_cons.mp hb with z | z
        · rw [z]; exact hel
        · rw [List.mem_singleton.mp z]; exact hil
      rw [upd_ne (Nat.ne_of_lt hb')]
      exact (hf b hb).1
  done := by
    intro X hP hw hK hc i pins s σ H E I hf st hg
    subst hP hw hK
    obtain ⟨⟨old, he⟩, hit, hne⟩ := st
    obtain ⟨xs, hq, hx⟩ := hg
    obtain ⟨its, rv, p, hz⟩ := I.tuple hq
    have ht : s.heap.IsTuple a its.toArray := p
    obtain ⟨f0, f1, f2, f3, f4, f5⟩ := hf it (by simp)
    have hl := rv.length
    have nia : a ≠ it := by
      rintro rfl
      obtain ⟨o, h1, h2, n, h3⟩ := ht
      obtain ⟨o', h1', h2', h3'⟩ := hit
      rw [h1] at h1'
      cases h1'
      rw [h3] at h3'
      cases h3'
    have en : i = its.toArray.size := by
      rw [← hx, hl]
      simp
    subst en
    exact wpAny_pyNext_enum_endD (Draws.tuple (A := X.A.in1) (I.ok.hd hc) it a nia its.toArray) he ⟨hit, ht⟩ fun h' eb => ⟨rfl, I.turned (t' := s.toks) (fun b o hb q => eb b o hb q) f0 f1 f3 f4 f5⟩
  self := fun A i s Q E st h => let ⟨⟨_, he⟩, _⟩ := st; wpAny_pyIter_enum he h
def iEnumT (K : PySem.W.Frag) (ta : TA) : TI := fun σ H R => ta σ H fun vs H1 => ∃ a xs, vs = [.ref a] ∧ SqT K H1 a xs ∧ R (IteT K a) H1
theorem pi_enumT {X : Cx} {e : Expr} {ta : TA} {p pos tpos : Pos} {elts : List Expr} {kk : Nat} (hg : Gl X "enumerate") (hm : X.mg "enumerate" = none) (ha : PA X [e] ta) (hs : starEach [e] X.env = [(false, eval e X.env)] := by rfl) :
    PI X (.Tuple elts kk tpos) (.Call (.Name "enumerate" p) [e] [] pos) (iEnumT X.K ta) := by
  constructor
  intro pins s σ H R I h
  refine Call_ (ld_blt I hg hm boot_enumerate (PyProof.Rows.callWith_type1 (thn (ha.run pos pins s σ H _ I h) fun us s1 ⟨vs, H1, I1, r1, q1⟩ => ?_) hs rfl))
  obtain ⟨a, xs, rfl, hq, q⟩ := q1
  obtain ⟨u, rfl, ru⟩ := vals1 r1
  cases (show u = Value.ref a from ru)
  obtain ⟨its, rv, p', hz⟩ := I1.tuple hq
  have ht : s1.heap.IsTuple a its.toArray := p'
  refine call_enum_tuple ht fun h' he hit hk => wpAny_pyIter_enum he ?_
  have I2 : Inv X pins σ H1 { s1 with heap := h' } := I1.kept (t' := s1.toks) hk
  refine ⟨s1.heap.objs.size + 1, [s1.heap.objs.size + 1, s1.heap.objs.size], _, _, H1, rfl, I2, turn_enumT a (s1.heap.objs.size + 1) s1.heap.objs.size, ⟨⟨.none, he⟩, hit, Nat.succ_ne_self _⟩, fun b hb => ?_, q⟩
  have hle : s1.heap.objs.size ≤ b := by
    rcases List.mem_cons.mp hb with z | z
    · rw [z]; exact Nat.le_add_right _ _
    · rw [List.mem_singleton.mp z]; exact Nat.le_refl _
  exact I1.fpOk hle (I1.hok.fresh hle)
end K84
set_option Elab.async false
set_option linter.all false
set_option maxRecDepth 100000
set_option maxHeartbeats 4000000
/-! lattices' methods; rows: signs, periods, the least lattice -/
namespace K84
open PySem PySem.Spec PyProof.Rows L2
section
variable {X : Cx} {K : PySem.W.Frag} {j k : Nat} {C m : Str} {ps : List Str} {sp : Sp} {o e : Expr} {es : List Expr} {ta : TE} {t : TA} {apos pos : Pos} {pl : Sem Bool}
theorem pe_m (hK : X.K = K) (G : GoodM X.prog X.w K X.mg X.base j C m ps sp) (c : Cls K (He.ga K C)) (hm : Meth K (He.ga K C) m (He.ma K (He.ga K C) m)) (hr : Room k X.A) (he : PE X o ta) (ha : PA X (e :: es) t) (hj : j ≤ k := by decide)
    (hst : starEach (e :: es) X.env = (false, eval e X.env) :: starEach es X.env := by rfl) (hpl : (backTo pos (starEach es X.env)).any (·.1) = false := by rfl)
    (ht : eval (.Call (.Attribute o m apos) (e :: es) [] pos) X.env = (do
      let ov ← eval o X.env
      standAt apos.atName
      let (f, first) ← holding [ov] (getMethod ov m pl)
      callWith pos f first (backTo pos (starEach (e :: es) X.env)) (backToKw pos (keywordEach [] X.env))) := by rfl) :
    PE X (.Call (.Attribute o m apos) (e :: es) [] pos) (tMeth (He.ga K C) m sp [] E0 ta t) := by
  subst hK
  obtain ⟨fd, F, b⟩ := G
  exact pe_meth he c hm F (hr.mono hj) b .nil pass0 ha hst hpl ht
theorem pe_m0 (hK : X.K = K) (G : GoodM X.prog X.w K X.mg X.base j C m ps sp) (c : Cls K (He.ga K C)) (hm : Meth K (He.ga K C) m (He.ma K (He.ga K C) m)) (hr : Room k X.A) (he : PE X o ta) (hj : j ≤ k := by decide)
    (ht : eval (.Call (.Attribute o m apos) [] [] pos) X.env = (do
      let ov ← eval o X.env
      standAt apos.atName
      let (f, first) ← holding [ov] (getMethod ov m pl)
      callWith pos f first (backTo pos (starEach [] X.env)) (backToKw pos (keywordEach [] X.env))) := by rfl) :
    PE X (.Call (.Attribute o m apos) [] [] pos) (tMeth (He.ga K C) m sp [] E0 ta tNil) := by
  subst hK
  obtain ⟨fd, F, b⟩ := G
  exact pe_meth0 he c hm F (hr.mono hj) b .nil pass0 ht
/-- one reading or the other -/
theorem pi_or {tg iter : Expr} {w1 w2 : TI} (h1 : PI X tg iter w1) (h2 : PI X tg iter w2) : PI X tg iter (fun σ H R => w1 σ H R ∨ w2 σ H R) :=
  ⟨fun pins s σ H R I h => h.elim (fun z => h1.run pins s σ H R I z) fun z => h2.run pins s σ H R I z⟩
end
/-- a loop of n turns by what stands ahead of each -/
theorem for_run {J : It} {g : TG} {tb : TS} {D : Ends} {σ : L2.St} {H : Hp} (n : Nat) (Pv : Nat → L2.St → Hp → Prop) (h0 : Pv 0 σ H) (hgo : ∀ i σ H, i < n → Pv i σ H → J.go i H) (hst : ∀ σ H, Pv n σ H → J.stop n H)
    (hs : ∀ i x σ H H', i < n → Pv i σ H → J.yld i H x H' → g x σ H' fun σ2 H2 => tb { D with nx := Pv (i + 1), ct := Pv (i + 1), bk := D.nx } σ2 H2) (hd : ∀ σ H, Pv n σ H → D.nx σ H) :
    ∃ W : Nat → Nat → L2.St → Hp → Prop, (∃ m, W 0 m σ H) ∧ ∀ i m σ H, W i m σ H →
      (J.stop i H ∧ D.nx σ H) ∨ (J.go i H ∧ ∃ N : L2.St → Hp → Prop, (∀ σ' H', N σ' H' → ∃ m', m' < m ∧ W (i + 1) m' σ' H') ∧ ∀ x H', J.yld i H x H' → g x σ H' fun σ2 H2 => tb { D with nx := N, ct := N, bk := D.nx } σ2 H2) := by
  refine ⟨fun i m σ H => m = n - i ∧ i ≤ n ∧ Pv i σ H, ⟨n, rfl, Nat.zero_le _, h0⟩, ?_⟩
  rintro i m σ H ⟨rfl, hi, p⟩
  by_cases hlt : i < n
  · exact .inr ⟨hgo i σ H hlt p, Pv (i + 1), fun σ' H' p' => ⟨n - (i + 1), by omega, rfl, hlt, p'⟩, fun x H' y => hs i x σ H H' hlt p y⟩
  · have e : i = n := by omega
    subst e
    exact .inl ⟨hst σ H p, hd σ H p⟩
section
variable {P : Program} {w : World} {K : PySem.W.Frag} {mg : Str → Option Value} {base : Heap}
/-! ### Lattice's methods -/
theorem fdiv_small {n : Int} (h1 : 1 ≤ n) (h2 : n ≤ 144) : 0 < n ∧ n < 1073741824 := by omega
theorem small64 {n : Int} (h1 : 0 ≤ n) (h2 : n ≤ 144) : -(2 ^ 64) < n ∧ n < 2 ^ 64 := by omega
/-- a lattice's numbers, no greater than a carpet's -/
def BasS (a b d : Int) : Prop := Bas a b d ∧ a ≤ 144 ∧ d ≤ 144
theorem ok_area (T : Txt w K mg) : GoodM P w K mg base 1 "Lattice" "area" ["self"] (fun vs H Q _ => ∃ l a b d, vs = [.ref l] ∧ LatAt K H l a b d ∧ BasS a b d ∧ Q (.int (a * d)) H) := by
  refine goodM_mk (d := d_Lattice_area) (N := ["self"]) T.d_Lattice_area rfl rfl ⟨rfl, rfl, rfl, by decide +kernel, rfl, by decide +kernel, by decide +kernel⟩
    (fun _ _ _ _ _ _ us hl => match us, hl with | [_], _ => rfl) (fun vs H Q E h => ?_) (fun f cdv A outer s H vs Q E hr h => ?_)
  · obtain ⟨l, a, b, d, rfl, _⟩ := h
    rfl
  · obtain ⟨l, a, b, d, rfl, ⟨dx, hl⟩, ⟨⟨h1, h2, h3, h4⟩, h5, h6⟩, q⟩ := h
    refine ⟨_, (pss_one (ps_ret (pe_op op_mul (pe_fld (pv 0) rfl) (pe_fld (pv 0) rfl)))), ?_⟩
    exact ⟨_, rfl, l, _, dx, _, _, rfl, hl, T.c_Lattice, T.n_Lattice_a, latF_a _ _ _, _, rfl, l, _, dx, _, _, rfl, hl, T.c_Lattice, T.n_Lattice_d, latF_d _ _ _, _, _, rfl, rfl, .inl (small64 (by omega) h5), q⟩
theorem sc_pl : FnScope ["self", "cell", "x", "y", "many"] ["self", "cell"] d_Lattice_place.scope := ⟨rfl, rfl, rfl, by decide +kernel, rfl, by decide +kernel, by decide +kernel⟩
theorem ok_place (T : Txt w K mg) : GoodM P w K mg base 4 "Lattice" "place" ["self", "cell"] (fun vs H Q _ => ∃ l p a b d x y, vs = [.ref l, .ref p] ∧ LatAt K H l a b d ∧ BasS a b d ∧ Pr K H p x y ∧
    ∀ r H', Same H H' → Pr K H' r ((x - y / d * b) % a) (y % d) → Q (.ref r) H') := by
  refine goodM_mk (d := d_Lattice_place) T.d_Lattice_place rfl rfl sc_pl
    (fun _ _ _ _ _ _ us hl => match us, hl with | [_, _], _ => rfl) (fun vs H Q E h => ?_) (fun f cdv A outer s H vs Q E hr h => ?_)
  · obtain ⟨l, p, a, b, d, x, y, rfl, _⟩ := h
    rfl
  · obtain ⟨l, p, a, b, d, x, y, rfl, ⟨dx, hl⟩, ⟨⟨h1, h2, h3, h4⟩, h5, h6⟩, hp, q⟩ := h
    have nd := sc_pl.nd
    refine ⟨_, (pss_cons (ps_expr (pe_fn (ok_check_cell T) hr (pa_cons (pv 1) pa_nil)))
      (pss_cons (ps_asg (pv 1) (pg_tup rfl (pgs_cons (pg_name (i := 2) nd rfl (Or.inl rfl)) (pgs_cons (pg_name (i := 3) nd rfl (Or.inl rfl)) pgs_nil))))
      (pss_cons (ps_set (i := 4) nd rfl (Or.inl rfl) (pe_op op_fdiv (pe_callTy call_int1 (by rfl) T.f_int b_int (pa_cons (pv 3) pa_nil)) (pe_fld (pv 0) rfl)))
      (pss_one (ps_ret (pe_tup (pa_cons (pe_op op_mod (pe_callTy call_int1 (by rfl) T.f_int b_int (pa_cons (pe_op op_sub (pv 2) (pe_op op_mul (pv 4) (pe_fld (pv 0) rfl))) pa_nil)) (pe_fld (pv 0) rfl)) (pa_cons (pe_op op_sub (pv 3) (pe_op op_mul (pv 4) (pe_fld (pv 0) rfl))) pa_nil)))))))), ?_⟩
    refine ⟨_, rfl, _, _, _, rfl, hp, _, rfl, _, _, rfl, hp, rfl, _, _, rfl, _, _, rfl, rfl, ?_⟩
    refine ⟨_, rfl, .inl ⟨_, rfl, _, rfl, l, _, dx, _, _, rfl, hl, T.c_Lattice, T.n_Lattice_d, latF_d _ _ _, _, _, rfl, rfl, fdiv_small h4 h6, ?_⟩⟩
    refine ⟨_, rfl, _, rfl, _, rfl, l, _, dx, _, _, rfl, hl, T.c_Lattice, T.n_Lattice_b, latF_b _ _ _, _, _, rfl, rfl, .inr (small64 h2 (by omega)), _, _, rfl, rfl, .inl ⟨_, rfl, _, rfl, l, _, dx, _, _, rfl, hl, T.c_Lattice, T.n_Lattice_a, latF_a _ _ _, _, _, rfl, rfl, (by show 0 < a; omega), ?_⟩⟩
    refine ⟨_, rfl, _, rfl, _, rfl, l, _, dx, _, _, rfl, hl, T.c_Lattice, T.n_Lattice_d, latF_d _ _ _, _, _, rfl, rfl, .inr (small64 (by omega) h6), _, _, rfl, rfl, two_le, fun r hr' => ?_⟩
    refine q r _ (same_new hr') ?_
    have e : y % d = y - y / d * d := by rw [Int.emod_def, Int.mul_comm]
    rw [e]
    exact SqT.of upd_same
theorem sc_pls : FnScope ["self", "y", "x"] ["self"] d_Lattice_places.scope := ⟨rfl, rfl, rfl, by decide +kernel, rfl, by decide +kernel, by decide +kernel⟩
/-- the list at p holds pairs, these -/
def PairsAt (K : PySem.W.Frag) (H : Hp) (p : Addr) (l : List (Int × Int)) : Prop := ∃ ys, H p = some (.lst ys) ∧ Paired (fun (c : Int × Int) y => ∃ r, y = .ref r ∧ H r = some (.tup [.int c.1, .int c.2])) l ys
/-- the places of a lattice, by rows -/
def placesL (a d : Nat) : List (Int × Int) := (grid d a).map fun p => (((p.2 : Nat) : Int), ((p.1 : Nat) : Int))
theorem paired_map {α β γ : Type} {F : γ → β → Prop} (g : α → γ) : ∀ {l : List α} {m : List β}, Paired (fun a b => F (g a) b) l m → Paired F (l.map g) m
  | _, _, .nil => .nil
  | _, _, .cons r t => .cons r (paired_map g t)
theorem ok_places (T : Txt w K mg) : GoodM P w K mg base 1 "Lattice" "places" ["self"] (fun vs H Q _ => ∃ l a b d, vs = [.ref l] ∧ LatAt K H l a b d ∧ BasS a b d ∧
    ∀ p H', Same H H' → H p = none → PairsAt K H' p (placesL a.toNat d.toNat) → Q (.ref p) H') := by
  refine goodM_mk (d := d_Lattice_places) T.d_Lattice_places rfl rfl sc_pls
    (fun _ _ _ _ _ _ us hl => match us, hl with | [_], _ => rfl) (fun vs H Q E h => ?_) (fun f cdv A outer s H vs Q E hr h => ?_)
  · obtain ⟨l, a, b, d, rfl, _⟩ := h
    rfl
  · obtain ⟨l, a, b, d, rfl, ⟨dx, hl⟩, ⟨⟨h1, h2, h3, h4⟩, h5, h6⟩, q⟩ := h
    have nd := sc_pls.nd
    refine ⟨_, (pss_one (ps_ret (pe_lc2 (own := [("y", 1), ("x", 2)]) (vs1 := [2]) rfl nd (pi_range1 (by rfl) T.f_range (pa_cons (pe_fld (pv 0) rfl) pa_nil)) (blkOk_by (own := [("y", 1), ("x", 2)]) (N := ["self", "y", "x"]) (sc := d_Lattice_places.scope) (by decide +kernel)) (by decide) (fun _ _ _ _ _ => (pg_name (i := 1) nd rfl (Or.inl rfl))) (fun _ _ _ _ _ => pts_nil) (fun _ _ _ _ _ => (pi_range1 (by rfl) T.f_range (pa_cons (pe_fldK (K := K) rfl (pv 0) rfl) pa_nil))) (fun _ _ _ _ _ => (pg_name (i := 2) nd rfl (Or.inl rfl))) (fun _ _ _ _ _ => pts_nil) (fun _ _ _ _ _ => (pe_tup (pa_cons (pv 2) (pa_cons (pv 1) pa_nil))))))), ?_⟩
    refine ⟨_, rfl, l, _, dx, _, _, rfl, hl, T.c_Lattice, T.n_Lattice_d, latF_d _ _ _, _, rfl, by omega, by omega, fun D nD => ?_⟩
    refine lc2R (n2 := a.toNat) evoSame (fun i j y H => ∃ r, y = .ref r ∧ H r = some (.tup [.int ((j : Nat) : Int), .int ((i : Nat) : Int)])) nD (by omega) (by omega) (fun i j y H H' e ⟨r, e1, e2⟩ => ⟨r, e1, e.tup e2⟩) (fun x => rfl) (fun x y => rfl)
      (fun i H2 R1 hi e hR => ?_) (fun i j H2 Kc hi hj e hc => ?_) (fun H2 ys e hD al => ?_)
    · exact ⟨_, rfl, l, _, dx, _, _, rfl, e _ _ hl, T.c_Lattice, T.n_Lattice_a, latF_a _ _ _, _, rfl, by omega, by omega, hR⟩
    · refine ⟨_, rfl, _, rfl, two_le, fun r hr' => hc _ _ (same_new hr') ⟨r, rfl, ?_⟩⟩
      rw [Int.zero_add, Int.zero_add]
      exact upd_same
    · exact q D H2 e nD ⟨ys, hD, paired_map (fun p : Nat × Nat => (((p.2 : Nat) : Int), ((p.1 : Nat) : Int))) al⟩
theorem ok_check_lattice (T : Txt w K mg) : Good P w K mg base 1 "check_lattice" ["value"] (fun vs H Q _ => ∃ l a b d, vs = [.ref l] ∧ LatAt K H l a b d ∧ Q .non H) := by
  refine good_mk (d := d_check_lattice) (N := ["value"]) T.d_check_lattice rfl rfl T.g_check_lattice ⟨rfl, rfl, rfl, by decide +kernel, rfl, by decide +kernel, by decide +kernel⟩
    (fun _ _ _ _ _ _ us hl => match us, hl with | [_], _ => rfl) (fun vs H Q E h => ?_) (fun f cdv A outer s H vs Q E hr h => ?_)
  · obtain ⟨l, a, b, d, rfl, _⟩ := h
    rfl
  · obtain ⟨l, a, b, d, rfl, ⟨dx, hl⟩, q⟩ := h
    refine ⟨_, (pss_one (ps_if (pt_not (pt_val (pe_callB call_isi (by rfl) T.f_isinstance b_isinstance (pa_cons (pv 0) (pa_cons (pe_glob (v := .ref (CL K)) rfl T.g_Lattice rfl) pa_nil))))) (pss_one ps_never) pss_nil)), ?_⟩
    have e := T.exf 5 rfl
    unfold ownB at e
    simp only [Bool.and_eq_true, decide_eq_true_eq] at e
    obtain ⟨e1, e2, e3, e4, e5⟩ := e
    exact ⟨_, rfl, _, _, _, _, true, rfl, .own _, .base (.ins hl T.c_Lattice (He.eqO_ok e1) (He.eqO_ok e2) e3 e4), e5, _, rfl, iteF q⟩
end
end K84
set_option Elab.async false
set_option linter.all false
set_option maxRecDepth 100000
set_option maxHeartbeats 4000000
/-! rows by a lattice: signs, periods, the least lattice, the normal rows -/
namespace K84
open PySem PySem.Spec PyProof.Rows L2
/-! ### places -/
theorem mem_places {a d : Nat} {x y : Int} : (x, y) ∈ placesL a d ↔ 0 ≤ x ∧ x < a ∧ 0 ≤ y ∧ y < d := by
  unfold placesL grid
  simp only [List.mem_map, List.mem_flatMap, List.mem_range, Prod.mk.injEq, Prod.exists]
  constructor
  · rintro ⟨i, j, ⟨i', hi, j', hj, rfl, rfl⟩, rfl, rfl⟩
    omega
  · rintro ⟨h1, h2, h3, h4⟩
    exact ⟨y.toNat, x.toNat, ⟨y.toNat, by omega, x.toNat, by omega, rfl, rfl⟩, by omega, by omega⟩
theorem places_len (a d : Nat) : (placesL a d).length = d * a := by
  unfold placesL
  rw [List.length_map, grid_len]
/-- a row of tests is all true -/
theorem all_tests {α : Type} (l : List α) (p : α → Bool) (tst : Nat → Bool) (ht : ∀ i c, l[i]? = some c → tst i = p c) : (((List.range l.length).map tst).all id = true) ↔ ∀ c ∈ l, p c = true := by
  rw [List.all_eq_true]
  constructor
  · intro h c hc
    obtain ⟨i, hi, e⟩ := List.mem_iff_getElem.mp hc
    have := h (tst i) (List.mem_map.mpr ⟨i, List.mem_range.mpr hi, rfl⟩)
    rw [ht i c (by rw [List.getElem?_eq_getElem hi, e])] at this
    exact this
  · rintro h b hb
    obtain ⟨i, hi, rfl⟩ := List.mem_map.mp hb
    have hi := List.mem_range.mp hi
    show tst i = true
    rw [ht i l[i] (List.getElem?_eq_getElem hi)]
    exact h _ (List.getElem_mem hi)
/-- the rows that are told -/
structure RowsOk (a d : Int) (rows : List Str) : Prop where
  len : (rows.length : Int) = d
  each : ∀ r ∈ rows, (r.cps.size : Int) = a ∧ ∀ c ∈ r.cps.toList, 48 ≤ c ∧ c ≤ 57
/-- the text of one sign -/
abbrev sg (c : Nat) : Str := ⟨#[c]⟩
theorem sg_eq {c c' : Nat} : decide (V.str (sg c) = V.str (sg c')) = decide (c = c') := by
  by_cases h : c = c'
  · subst h
    rw [decide_eq_true rfl, decide_eq_true rfl]
  · rw [decide_eq_false h, decide_eq_false]
    intro z
    injection z with z
    injection z with z
    exact h (by simpa using z)
theorem map_bl {n : Nat} {t : Nat → Bool} : (List.range n).map (fun i => V.bl (t i)) = ((List.range n).map t).map V.bl := by
  rw [List.map_map]
  rfl
section
variable {P : Program} {w : World} {K : PySem.W.Frag} {mg : Str → Option Value} {base : Heap}
/-- a told carpet: its lattice at l, its rows' tuple at r -/
def ToldAt (K : PySem.W.Frag) (H : Hp) (l r : Addr) (a b d : Int) (rows : List Str) : Prop := LatAt K H l a b d ∧ SqT K H r (rows.map V.str) ∧ BasS a b d ∧ RowsOk a d rows
theorem ToldAt.same {H H' : Hp} {l r : Addr} {a b d : Int} {rows : List Str} (h : ToldAt K H l r a b d rows) (e : Same H H') : ToldAt K H' l r a b d rows := ⟨h.1.same e, sqT_same e h.2.1, h.2.2⟩
theorem row_at {a d : Int} {rows : List Str} (h : RowsOk a d rows) {y : Int} (h1 : 0 ≤ y) (h2 : y < d) : (rows.map V.str)[y.toNat]? = some (.str (rows.getD y.toNat Str.empty)) ∧ rows.getD y.toNat Str.empty ∈ rows := by
  have hl := h.len
  have hy : y.toNat < rows.length := by omega
  rw [List.getElem?_map, List.getD_eq_getElem?_getD, List.getElem?_eq_getElem hy]
  exact ⟨rfl, List.getElem_mem hy⟩
theorem atI_of {α : Type} {xs : List α} {y : Int} {v : α} (h1 : 0 ≤ y) (h : xs[y.toNat]? = some v) : atI xs y = some v := by
  have := atI_nat h
  rw [Int.toNat_of_nonneg h1] at this
  exact this
theorem sc_sa : FnScope ["lattice", "rows", "cell", "x", "y"] ["lattice", "rows", "cell"] d_sign_at.scope := ⟨rfl, rfl, rfl, by decide +kernel, rfl, by decide +kernel, by decide +kernel⟩
theorem ok_sign_at (T : Txt w K mg) : Good P w K mg base 5 "sign_at" ["lattice", "rows", "cell"] (fun vs H Q _ => ∃ l r p a b d rows x y, vs = [.ref l, .ref r, .ref p] ∧ ToldAt K H l r a b d rows ∧ Pr K H p x y ∧
    ∀ H', Same H H' → Q (.str (sg (colr a b d rows x y))) H') := by
  refine good_mk (d := d_sign_at) T.d_sign_at rfl rfl T.g_sign_at sc_sa
    (fun _ _ _ _ _ _ us hl => match us, hl with | [_, _, _], _ => rfl) (fun vs H Q E h => ?_) (fun f cdv A outer s H vs Q E hr h => ?_)
  · obtain ⟨l, r, p, a, b, d, rows, x, y, rfl, _⟩ := h
    rfl
  · obtain ⟨l, r, p, a, b, d, rows, x, y, rfl, ⟨hl, hrw, hb, hro⟩, hp, q⟩ := h
    have nd := sc_sa.nd
    obtain ⟨dx, hl0⟩ := id hl
    obtain ⟨⟨h1, h2, h3, h4⟩, h5, h6⟩ := id hb
    refine ⟨_, (pss_cons (ps_asg (pe_m (K := K) rfl (ok_place T) T.c_Lattice T.m_Lattice_place hr (pv 0) (pa_cons (pv 2) pa_nil)) (pg_tup rfl (pgs_cons (pg_name (i := 3) nd rfl (Or.inl rfl)) (pgs_cons (pg_name (i := 4) nd rfl (Or.inl rfl)) pgs_nil))))
      (pss_one (ps_ret (pe_ix ix_str (pe_ix ix_tup (pv 1) (pv 4) (fun _ _ => rfl)) (pv 3) (fun _ _ => rfl))))), ?_⟩
    refine ⟨_, rfl, l, dx, _, rfl, hl0, latF_no _ _ _ (by decide +kernel) (by decide +kernel) (by decide +kernel), _, rfl, l, p, a, b, d, x, y, rfl, hl, hb, hp, fun r2 H2 e2 hp2 => ?_⟩
    have n1 := Int.emod_nonneg y (show d ≠ 0 by omega)
    have l1 := Int.emod_lt_of_pos y (show 0 < d by omega)
    have n2 := Int.emod_nonneg (x - y / d * b) (show a ≠ 0 by omega)
    have l2 := Int.emod_lt_of_pos (x - y / d * b) (show 0 < a by omega)
    obtain ⟨r1, r2m⟩ := row_at hro n1 l1
    obtain ⟨r3, r4⟩ := hro.each _ r2m
    refine ⟨r2, _, rfl, hp2, rfl, _, _, rfl, _, _, rfl, rfl, ?_⟩
    refine ⟨_, rfl, _, rfl, _, _, _, _, rfl, rfl, sqT_same e2 hrw, atI_of n1 r1, _, rfl, _, _, colr a b d rows x y, rfl, rfl, ?_, ?_, q _ e2⟩
    · show (rows.getD (y % d).toNat Str.empty).cps.size ≤ sizeLine
      have : (144 : Nat) ≤ sizeLine := by decide
      omega
    · refine atI_of n2 ?_
      unfold colr
      have hi : ((x - y / d * b) % a).toNat < (rows.getD (y % d).toNat Str.empty).cps.toList.length := by
        rw [Array.length_toList]
        omega
      rw [List.getD_eq_getElem?_getD (l := (rows.getD (y % d).toNat Str.empty).cps.toList), List.getElem?_eq_getElem hi]
      rfl
theorem sc_ip : FnScope ["lattice", "rows", "shift", "x", "y", "places", "place"] ["lattice", "rows", "shift"] d_is_period_of.scope := ⟨rfl, rfl, rfl, by decide +kernel, rfl, by decide +kernel, by decide +kernel⟩
theorem ok_is_period_of (T : Txt w K mg) : Good P w K mg base 6 "is_period_of" ["lattice", "rows", "shift"] (fun vs H Q _ => ∃ l r p a b d rows x y, vs = [.ref l, .ref r, .ref p] ∧ ToldAt K H l r a b d rows ∧ Pr K H p x y ∧
    ∀ B H', Same H H' → (B = true ↔ IsPer (colr a b d rows) x y) → Q (.bl B) H') := by
  refine good_mk (d := d_is_period_of) T.d_is_period_of rfl rfl T.g_is_period_of sc_ip
    (fun _ _ _ _ _ _ us hl => match us, hl with | [_, _, _], _ => rfl) (fun vs H Q E h => ?_) (fun f cdv A outer s H vs Q E hr h => ?_)
  · obtain ⟨l, r, p, a, b, d, rows, x, y, rfl, _⟩ := h
    rfl
  · obtain ⟨l, r, p, a, b, d, rows, x, y, rfl, ht, hp, q⟩ := h
    have nd := sc_ip.nd
    obtain ⟨hl, hrw, hb, hro⟩ := id ht
    obtain ⟨dx, hl0⟩ := id hl
    obtain ⟨⟨h1, h2, h3, h4⟩, h5, h6⟩ := id hb
    refine ⟨_, (pss_cons (ps_asg (pv 2) (pg_tup rfl (pgs_cons (pg_name (i := 3) nd rfl (Or.inr rfl)) (pgs_cons (pg_name (i := 4) nd rfl (Or.inr rfl)) pgs_nil))))
      (pss_cons (ps_set (i := 5) nd rfl (Or.inl rfl) (pe_m0 (K := K) rfl (ok_places T) T.c_Lattice T.m_Lattice_places hr (pv 0)))
      (pss_one (ps_ret (pe_callB (cr_all rfl) (by rfl) T.f_all b_all (pa_cons (pe_lc (own := [("place", 6)]) rfl nd (pi_list (pv 5)) (blkOk_by (own := [("place", 6)]) (N := ["lattice", "rows", "shift", "x", "y", "places", "place"]) (sc := d_is_period_of.scope) (by decide +kernel)) (fun _ _ _ _ _ => (pg_name (i := 6) nd rfl (Or.inl rfl))) (fun _ _ _ _ _ => pts_nil)
        (fun _ _ _ _ _ => (pe_cmpR op_eq (pe_fn (ok_sign_at T) hr (pa_cons (pv 0) (pa_cons (pv 1) (pa_cons (pv 6) pa_nil)))) (pe_fn (ok_sign_at T) hr (pa_cons (pv 0) (pa_cons (pv 1) (pa_cons (pe_tup (pa_cons (pe_op op_add (pe_ix (ix_tupK (K := K) rfl) (pv 6) pe_int (fun _ _ => rfl)) (pv 3)) (pa_cons (pe_op op_add (pe_ix (ix_tupK (K := K) rfl) (pv 6) pe_int (fun _ _ => rfl)) (pv 4)) pa_nil))) pa_nil)))) (nomark _)))) pa_nil)))))), ?_⟩
    refine ⟨_, rfl, _, _, rfl, hp, rfl, _, _, rfl, _, _, rfl, rfl, ?_⟩
    refine ⟨_, rfl, l, dx, _, rfl, hl0, latF_no _ _ _ (by decide +kernel) (by decide +kernel) (by decide +kernel), l, a, b, d, rfl, hl, hb, fun p2 H2 e2 np2 ⟨ys, hys, pys⟩ => ?_⟩
    refine ⟨_, rfl, _, rfl, ⟨_, SqL.of hys⟩, fun D nD => ?_⟩
    have ly := paired_len pys
    let tst : Nat → Bool := fun i => match (placesL a.toNat d.toNat)[i]? with
      | some c => decide (colr a b d rows c.1 c.2 = colr a b d rows (c.1 + x) (c.2 + y))
      | none => true
    refine lcL evoSame (xs := ys) (fun H3 e3 => SqL.of (e3 _ _ hys)) (fun _ => true) (fun i z _ => z = .bl (tst i)) nD ?_ (fun _ _ _ _ _ z => z) (fun i z H3 Kc Kn hz e3 hc _ => ?_) (fun H3 zs e3 hD al => ?_)
    · rw [ly, places_len]
      have : d.toNat * a.toNat ≤ 144 * 144 := Nat.mul_le_mul (by omega) (by omega)
      omega
    · have hi : i < (placesL a.toNat d.toNat).length := by
        rw [← ly]
        exact (List.getElem?_eq_some_iff.mp hz).1
      obtain ⟨z', hz', r', rfl, hr'⟩ := paired_at pys (List.getElem?_eq_getElem hi)
      rw [hz] at hz'
      cases hz'
      have ec : tst i = decide (colr a b d rows (placesL a.toNat d.toNat)[i].1 (placesL a.toNat d.toNat)[i].2 = colr a b d rows ((placesL a.toNat d.toNat)[i].1 + x) ((placesL a.toNat d.toNat)[i].2 + y)) := by
        show (match (placesL a.toNat d.toNat)[i]? with
          | some c => decide (colr a b d rows c.1 c.2 = colr a b d rows (c.1 + x) (c.2 + y))
          | none => true) = _
        rw [List.getElem?_eq_getElem hi]
      generalize (placesL a.toNat d.toNat)[i] = c at hr' ec
      have t3 := ht.same (e2.trans e3)
      refine ⟨rfl, _, rfl, _, rfl, _, rfl, l, r, r', a, b, d, rows, c.1, c.2, rfl, t3, SqT.of (e3 _ _ hr'), fun H4 e4 => ?_⟩
      refine ⟨_, rfl, _, rfl, _, rfl, _, _, _, _, rfl, rfl, SqT.of (e4 _ _ (e3 _ _ hr')), rfl, _, rfl, _, _, rfl, rfl, _, rfl, _, _, _, _, rfl, rfl, SqT.of (e4 _ _ (e3 _ _ hr')), rfl, _, rfl, _, _, rfl, rfl, two_le, fun z hz => ?_⟩
      refine ⟨l, r, z, a, b, d, rows, c.1 + x, c.2 + y, rfl, t3.same (e4.trans (same_new hz)), SqT.of upd_same, fun H5 e5 => ⟨rfl, ?_⟩⟩
      refine hc _ _ rfl (e4.trans ((same_new hz).trans e5)) ?_
      rw [sg_eq, ec]
    · have ez := al.eq (v := fun i => V.bl (tst i)) fun _ _ h => h
      rw [filter_yes, map_bl, ly] at ez
      refine ⟨D, _, rfl, SqL.of (by rw [hD, ez]), ?_⟩
      refine q _ _ (e2.trans e3) ?_
      rw [all_tests (placesL a.toNat d.toNat) (fun c => decide (colr a b d rows c.1 c.2 = colr a b d rows (c.1 + x) (c.2 + y))) tst (fun i c hc => by
        show (match (placesL a.toNat d.toNat)[i]? with
          | some c => decide (colr a b d rows c.1 c.2 = colr a b d rows (c.1 + x) (c.2 + y))
          | none => true) = _
        rw [hc])]
      constructor
      · intro hall
        refine per_places hb.1 x y fun u v u1 u2 v1 v2 => ?_
        exact of_decide_eq_true (hall (u, v) (mem_places.mpr ⟨u1, by omega, v1, by omega⟩))
      · intro hper c hc
        exact decide_eq_true (hper c.1 c.2).symm
end
end K84
set_option Elab.async false
set_option linter.all false
set_option maxRecDepth 100000
set_option maxHeartbeats 4000000
/-! divisors, the least lattice by search -/
namespace K84
open PySem PySem.Spec PyProof.Rows L2
def divs (n : Int) : List Int := ((List.range n.toNat).filter fun i => decide (n % (1 + ((i : Nat) : Int)) = 0)).map fun i => 1 + ((i : Nat) : Int)
theorem mem_divs {n z : Int} (hn : 1 ≤ n) : z ∈ divs n ↔ 1 ≤ z ∧ z ∣ n := by
  unfold divs
  simp only [List.mem_map, List.mem_filter, List.mem_range, decide_eq_true_eq]
  constructor
  · rintro ⟨i, ⟨h1, h2⟩, rfl⟩
    exact ⟨by omega, Int.dvd_of_emod_eq_zero h2⟩
  · rintro ⟨h1, h2⟩
    have h3 := Int.le_of_dvd (by omega) h2
    refine ⟨(z - 1).toNat, ⟨by omega, ?_⟩, by omega⟩
    have e : 1 + (((z - 1).toNat : Nat) : Int) = z := by omega
    rw [e]
    exact Int.emod_eq_zero_of_dvd h2
theorem divs_len (n : Int) : (divs n).length ≤ n.toNat := by
  unfold divs
  rw [List.length_map]
  exact Nat.le_trans (List.length_filter_le _ _) (by rw [List.length_range]; exact Nat.le_refl _)
theorem divs_sorted (n : Int) : (divs n).Pairwise (· < ·) := by
  unfold divs
  rw [List.pairwise_map]
  refine List.Pairwise.filter _ ?_
  refine List.Pairwise.imp (R := fun a b => a < b) (fun {a b} h => ?_) List.pairwise_lt_range
  omega
/-- what stands in an ascending row behind those that don't fit is the least that fits -/
theorem least_in {l : List Int} (hs : l.Pairwise (· < ·)) {p : Int → Prop} {i : Nat} (hi : i < l.length) (hno : ∀ j (hj : j < l.length), j < i → ¬ p l[j]) : ∀ z ∈ l, p z → l[i] ≤ z := by
  intro z hz pz
  obtain ⟨j, hj, rfl⟩ := List.mem_iff_getElem.mp hz
  rcases Nat.lt_trichotomy j i with h | h | h
  · exact absurd pz (hno j hj h)
  · subst h
    exact Int.le_refl _
  · exact Int.le_of_lt (List.pairwise_iff_getElem.mp hs i j hi hj h)
section
variable {P : Program} {w : World} {K : PySem.W.Frag} {mg : Str → Option Value} {base : Heap}
theorem sc_dv : FnScope ["number", "one"] ["number"] d_divisors_of.scope := ⟨rfl, rfl, rfl, by decide +kernel, rfl, by decide +kernel, by decide +kernel⟩
theorem ok_divisors_of (T : Txt w K mg) : Good P w K mg base 1 "divisors_of" ["number"] (fun vs H Q _ => ∃ n, vs = [.int n] ∧ 1 ≤ n ∧ n ≤ 144 ∧ ∀ p H', Same H H' → H p = none → H' p = some (.lst ((divs n).map V.int)) → Q (.ref p) H') := by
  refine good_mk (d := d_divisors_of) T.d_divisors_of rfl rfl T.g_divisors_of sc_dv
    (fun _ _ _ _ _ _ us hl => match us, hl with | [_], _ => rfl) (fun vs H Q E h => ?_) (fun f cdv A outer s H vs Q E hr h => ?_)
  · obtain ⟨n, rfl, _⟩ := h
    rfl
  · obtain ⟨n, rfl, h1, h2, q⟩ := h
    have nd := sc_dv.nd
    refine ⟨_, (pss_one (ps_ret (pe_lc (own := [("one", 1)]) rfl nd (pi_range2 (by rfl) T.f_range (pa_cons pe_int (pa_cons (pe_op op_add (pv 0) pe_int) pa_nil))) (blkOk_by (own := [("one", 1)]) (N := ["number", "one"]) (sc := d_divisors_of.scope) (by decide +kernel)) (fun _ _ _ _ _ => (pg_name (i := 1) nd rfl (Or.inl rfl))) (fun _ _ _ _ _ => pts_one (pt_cmpR op_eq (pe_op op_mod (pe_callTy call_int1 (by rfl) T.f_int b_int (pa_cons (pv 0) pa_nil)) (pv 1)) pe_int (nomark _))) (fun _ _ _ _ _ => (pv 1))))), ?_⟩
    refine ⟨_, rfl, _, _, rfl, rfl, _, _, rfl, ⟨by decide, by decide, by omega, by omega⟩, fun D nD => ?_⟩
    have en : (n + 1 - 1).toNat = n.toNat := by rw [Int.add_sub_cancel]
    refine lcR evoSame (fun i => decide (n % (1 + ((i : Nat) : Int)) = 0)) (fun i y _ => y = .int (1 + ((i : Nat) : Int))) nD (by omega) (fun _ _ _ _ _ h => h) (fun i H2 Kc Kn hi e hc hn => ?_) (fun H2 ys e hD al => ?_)
    · refine ⟨rfl, _, rfl, .inl ⟨_, rfl, _, rfl, _, _, rfl, rfl, (by show (0 : Int) < 1 + (i : Int); omega), rfl, ?_⟩⟩
      by_cases h0 : n % (1 + ((i : Nat) : Int)) = 0
      · refine ⟨_, rfl, ?_⟩
        rw [decide_eq_true (show V.int (n % (1 + ((i : Nat) : Int))) = V.int 0 by rw [h0])]
        exact iteT ⟨_, rfl, hc _ _ (decide_eq_true h0) (Same.refl _) rfl⟩
      · refine ⟨_, rfl, ?_⟩
        rw [decide_eq_false (show ¬ V.int (n % (1 + ((i : Nat) : Int))) = V.int 0 by intro z; injection z with z; exact h0 z)]
        exact iteF (hn _ (decide_eq_false h0) (Same.refl _))
    · have ey := al.eq (v := fun i => V.int (1 + ((i : Nat) : Int))) fun _ _ h => h
      rw [en] at ey
      refine q D H2 e nD ?_
      rw [hD, ey]
      unfold divs
      rw [List.map_map]
      rfl
theorem sc_lp : FnScope ["lattice", "rows", "a"] ["lattice", "rows"] d_level_period.scope := ⟨rfl, rfl, rfl, by decide +kernel, rfl, by decide +kernel, by decide +kernel⟩
theorem ok_level_period (T : Txt w K mg) : Good P w K mg base 7 "level_period" ["lattice", "rows"] (fun vs H Q _ => ∃ l r a b d rows, vs = [.ref l, .ref r] ∧ ToldAt K H l r a b d rows ∧
    ∀ A H', Same H H' → 1 ≤ A → A ∣ a → IsPer (colr a b d rows) A 0 → (∀ A', 1 ≤ A' → A' ∣ a → IsPer (colr a b d rows) A' 0 → A ≤ A') → Q (.int A) H') := by
  refine good_mk (d := d_level_period) T.d_level_period rfl rfl T.g_level_period sc_lp
    (fun _ _ _ _ _ _ us hl => match us, hl with | [_, _], _ => rfl) (fun vs H Q E h => ?_) (fun f cdv A outer s H vs Q E hr h => ?_)
  · obtain ⟨l, r, a, b, d, rows, rfl, _⟩ := h
    rfl
  · obtain ⟨l, r, a, b, d, rows, rfl, ht, q⟩ := h
    have nd := sc_lp.nd
    obtain ⟨hl, hrw, hb, hro⟩ := id ht
    obtain ⟨dx, hl0⟩ := id hl
    obtain ⟨⟨h1, h2, h3, h4⟩, h5, h6⟩ := id hb
    refine ⟨_, (pss_cons (ps_for PassesOwn.never rfl (pi_list (pe_fn (ok_divisors_of T) hr (pa_cons (pe_fld (pv 0) rfl) pa_nil))) (pg_name (i := 2) nd rfl (Or.inl rfl))
        (pss_one (ps_if (pt_val (pe_fn (ok_is_period_of T) hr (pa_cons (pv 0) (pa_cons (pv 1) (pa_cons (pe_tup (pa_cons (pv 2) (pa_cons pe_int pa_nil))) pa_nil))))) (pss_one (ps_ret (pv 2))) pss_nil)))
      (pss_one (ps_ret (pe_fld (pv 0) rfl)))), ?_⟩
    refine ⟨_, rfl, l, _, dx, _, _, rfl, hl0, T.c_Lattice, T.n_Lattice_a, latF_a _ _ _, a, rfl, h1, h5, fun p H2 e2 _ hp => ?_⟩
    refine ⟨p, rfl, ⟨_, SqL.of hp⟩, for_list (K := K) (a := p) (xs := (divs a).map V.int) (fun i σ H3 => ∃ v, σ = [some (.ref l), some (.ref r), v] ∧ Same H2 H3 ∧ ∀ j (hj : j < (divs a).length), j < i → ¬ IsPer (colr a b d rows) (divs a)[j] 0)
      ⟨none, rfl, Same.refl _, fun j hj h => absurd h (Nat.not_lt_zero _)⟩ (fun i σ H3 _ ⟨_, _, e3, _⟩ => SqL.of (e3 _ _ hp)) ?_ ?_⟩
    · rintro i x σ H3 hx ⟨v, rfl, e3, hno⟩
      have hi : i < (divs a).length := by
        have := (List.getElem?_eq_some_iff.mp hx).1
        simpa using this
      rw [List.getElem?_map, List.getElem?_eq_getElem hi] at hx
      have ex : x = .int (divs a)[i] := (Option.some.inj hx).symm
      subst ex
      refine ⟨_, rfl, _, rfl, _, rfl, two_le, fun z hz => ?_⟩
      refine ⟨l, r, z, a, b, d, rows, _, _, rfl, ht.same (e2.trans (e3.trans (same_new hz))), SqT.of upd_same, fun B H4 e4 hB => ⟨_, rfl, ?_⟩⟩
      have e5 : Same H3 H4 := (same_new hz).trans e4
      cases B with
      | true =>
        have pp := hB.mp rfl
        obtain ⟨m1, m2⟩ := (mem_divs h1).mp (List.getElem_mem hi)
        refine iteT ⟨_, rfl, q _ _ (e2.trans (e3.trans e5)) m1 m2 pp fun A' a1 a2 a3 => ?_⟩
        exact least_in (divs_sorted a) (p := fun z => IsPer (colr a b d rows) z 0) hi hno A' ((mem_divs h1).mpr ⟨a1, a2⟩) a3
      | false =>
        refine iteF ⟨_, rfl, e3.trans e5, fun j hj hji => ?_⟩
        by_cases hje : j = i
        · subst hje
          intro pp
          exact absurd (hB.mpr pp) Bool.false_ne_true
        · exact hno j hj (by omega)
    · rintro σ H3 ⟨v, rfl, e3, hno⟩
      exfalso
      have ma : a ∈ divs a := (mem_divs h1).mpr ⟨h1, Int.dvd_refl a⟩
      obtain ⟨j, hj, ej⟩ := List.mem_iff_getElem.mp ma
      refine hno j hj (by simpa using hj) ?_
      rw [ej]
      exact colr_a hb.1
theorem sc_ll : FnScope ["lattice", "rows", "a", "d", "b"] ["lattice", "rows"] d_least_lattice.scope := ⟨rfl, rfl, rfl, by decide +kernel, rfl, by decide +kernel, by decide +kernel⟩
theorem ok_least_lattice (T : Txt w K mg) : Good P w K mg base 8 "least_lattice" ["lattice", "rows"] (fun vs H Q _ => ∃ l r a b d rows, vs = [.ref l, .ref r] ∧ ToldAt K H l r a b d rows ∧
    ∀ l' H' A B D, Same H H' → LatAt K H' l' A B D → LeastOf (colr a b d rows) A B D → A ∣ a → D ∣ d → Q (.ref l') H') := by
  refine good_mk (d := d_least_lattice) T.d_least_lattice rfl rfl T.g_least_lattice sc_ll
    (fun _ _ _ _ _ _ us hl => match us, hl with | [_, _], _ => rfl) (fun vs H Q E h => ?_) (fun f cdv A outer s H vs Q E hr h => ?_)
  · obtain ⟨l, r, a, b, d, rows, rfl, _⟩ := h
    rfl
  · obtain ⟨l, r, a, b, d, rows, rfl, ht, q⟩ := h
    have nd := sc_ll.nd
    obtain ⟨fd, FI, bI⟩ := ok_lat_init (P := P) (w := w) (base := base) (mg := mg) T
    obtain ⟨hl, hrw, hb, hro⟩ := id ht
    obtain ⟨dx, hl0⟩ := id hl
    obtain ⟨⟨h1, h2, h3, h4⟩, h5, h6⟩ := id hb
    refine ⟨_, (pss_cons (ps_set (i := 2) nd rfl (Or.inl rfl) (pe_fn (ok_level_period T) hr (pa_cons (pv 0) (pa_cons (pv 1) pa_nil))))
      (pss_cons (ps_for PassesOwn.never rfl (pi_list (pe_fn (ok_divisors_of T) hr (pa_cons (pe_fld (pv 0) rfl) pa_nil))) (pg_name (i := 3) nd rfl (Or.inl rfl))
        (pss_one (ps_for PassesOwn.never rfl (pi_range1 (by rfl) T.f_range (pa_cons (pv 2) pa_nil)) (pg_name (i := 4) nd rfl (Or.inl rfl))
          (pss_one (ps_if (pt_val (pe_fn (ok_is_period_of T) hr (pa_cons (pv 0) (pa_cons (pv 1) (pa_cons (pe_tup (pa_cons (pv 4) (pa_cons (pv 3) pa_nil))) pa_nil))))) (pss_one (ps_ret (pe_make T.mk_Lattice FI (hr.mono (by decide)) (by rfl) T.g_Lattice bI .nil pass0 (pa_cons (pv 2) (pa_cons (pv 4) (pa_cons (pv 3) pa_nil)))))) pss_nil)))))
      (pss_one (ps_ret (pv 0))))), ?_⟩
    refine ⟨_, rfl, _, rfl, l, r, a, b, d, rows, rfl, ht, fun A0 H1 e1 a1 a2 a3 a4 => ?_⟩
    have hA : A0 ≤ 144 := Int.le_trans (Int.le_of_dvd (by omega) a2) h5
    have lvl := level_iff a1 a3 (fun r hr pr => level_least (by omega) (colr_a hb.1) a4 r.toNat r (Nat.le_refl _) hr pr)
    refine ⟨_, rfl, l, _, dx, _, _, rfl, e1 _ _ hl0, T.c_Lattice, T.n_Lattice_d, latF_d _ _ _, d, rfl, h4, h6, fun p H2 e2 _ hp => ?_⟩
    have e12 := e1.trans e2
    refine ⟨p, rfl, ⟨_, SqL.of hp⟩, for_list (K := K) (a := p) (xs := (divs d).map V.int) (fun i σ H3 => ∃ v u, σ = [some (.ref l), some (.ref r), some (.int A0), v, u] ∧ Same H2 H3 ∧ ∀ j (hj : j < (divs d).length), j < i → ¬ ∃ B', 0 ≤ B' ∧ B' < A0 ∧ IsPer (colr a b d rows) B' (divs d)[j])
      ⟨none, none, rfl, Same.refl _, fun j hj h => absurd h (Nat.not_lt_zero _)⟩ (fun i σ H3 _ ⟨_, _, _, e3, _⟩ => SqL.of (e3 _ _ hp)) ?_ ?_⟩
    · rintro i x σ H3 hx ⟨v, u, rfl, e3, hno⟩
      have hi : i < (divs d).length := by
        have := (List.getElem?_eq_some_iff.mp hx).1
        simpa using this
      rw [List.getElem?_map, List.getElem?_eq_getElem hi] at hx
      have ex : x = .int (divs d)[i] := (Option.some.inj hx).symm
      subst ex
      obtain ⟨m1, m2⟩ := (mem_divs h4).mp (List.getElem_mem hi)
      refine ⟨_, rfl, _, rfl, by omega, by omega, for_range (lo := 0) (n := A0.toNat) (fun k σ H4 => ∃ u, σ = [some (.ref l), some (.ref r), some (.int A0), some (.int (divs d)[i]), u] ∧ Same H3 H4 ∧ ∀ B' : Int, 0 ≤ B' → B' < k → ¬ IsPer (colr a b d rows) B' (divs d)[i])
        ⟨u, rfl, Same.refl _, fun B' b1 b2 => by omega⟩ ?_ ?_⟩
      · rintro k σ H4 hk ⟨u', rfl, e4, hno2⟩
        refine ⟨_, rfl, _, rfl, _, rfl, _, rfl, two_le, fun z hz => ?_⟩
        refine ⟨l, r, z, a, b, d, rows, _, _, rfl, ht.same (e12.trans (e3.trans (e4.trans (same_new hz)))), SqT.of upd_same, fun Bo H5 e5 hB => ⟨_, rfl, ?_⟩⟩
        have e6 : Same H4 H5 := (same_new hz).trans e5
        rw [Int.zero_add] at hB
        cases Bo with
        | true =>
          have pp := hB.mp rfl
          have bas : Bas A0 ((k : Nat) : Int) (divs d)[i] := ⟨a1, by omega, by omega, m1⟩
          refine iteT ⟨_, rfl, _, rfl, _, rfl, ?_⟩
          intro x dx' nx ndx nex
          rw [Int.zero_add]
          refine ⟨x, dx', _, _, _, rfl, upd_same, bas, rfl, ?_⟩
          refine q x _ A0 ((k : Nat) : Int) (divs d)[i] (e12.trans (e3.trans (e4.trans (e6.trans (made nx ndx))))) ⟨dx', upd_same⟩ ?_ a2 m2
          refine leastOf_intro a1 (by omega) (by omega) m1 lvl pp fun x y hy py => ?_
          refine up_least a1 a3 h4 (colr_b hb.1) (fun D' B' c1 c2 c3 c4 c5 => ?_) y.toNat x y (Nat.le_refl _) hy py
          exact least_in (divs_sorted d) (p := fun z => ∃ B', 0 ≤ B' ∧ B' < A0 ∧ IsPer (colr a b d rows) B' z) hi hno D' ((mem_divs h4).mpr ⟨c1, c2⟩) ⟨B', c3, c4, c5⟩
        | false =>
          refine iteF ⟨_, rfl, e4.trans e6, fun B' b1 b2 => ?_⟩
          by_cases hbe : B' = ((k : Nat) : Int)
          · subst hbe
            intro pp
            exact absurd (hB.mpr pp) Bool.false_ne_true
          · exact hno2 B' b1 (by omega)
      · rintro σ H4 ⟨u', rfl, e4, hno2⟩
        refine ⟨_, _, rfl, e3.trans e4, fun j hj hji => ?_⟩
        by_cases hje : j = i
        · subst hje
          rintro ⟨B', b1, b2, b3⟩
          exact hno2 B' b1 (by omega) b3
        · exact hno j hj (by omega)
    · rintro σ H3 ⟨v, u, rfl, e3, hno⟩
      exfalso
      have md : d ∈ divs d := (mem_divs h4).mpr ⟨h4, Int.dvd_refl d⟩
      obtain ⟨j, hj, ej⟩ := List.mem_iff_getElem.mp md
      refine hno j hj (by simpa using hj) ⟨b % A0, Int.emod_nonneg _ (by omega), Int.emod_lt_of_pos _ (by omega), ?_⟩
      rw [ej]
      exact ((colr_b hb.1).sub (a3.mul (b / A0))).cast (by rw [Int.emod_def, Int.mul_comm]) (by simp)
end
end K84
set_option Elab.async false
set_option linter.all false
set_option maxRecDepth 100000
set_option maxHeartbeats 4000000
/-! the normal rows; the checks of what is handed in -/
namespace K84
open PySem PySem.Spec PyProof.Rows L2
theorem empty_eq : Str.ofString "" = Str.empty := by decide +kernel
theorem joinL_nil : ∀ l : List Nat, TL.joinL [] (l.map fun c => [c]) = l
  | [] => rfl
  | [_] => rfl
  | a :: b :: r => by
    show [a] ++ ([] ++ TL.joinL [] ([b] :: r.map fun c => [c])) = _
    have := joinL_nil (b :: r)
    rw [List.map_cons] at this
    rw [this]
    rfl
theorem join_sg (n : Nat) (c : Nat → Nat) : Txt.join (Str.ofString "") ((List.range n).map fun i => sg (c i)) = ⟨((List.range n).map c).toArray⟩ := by
  rw [empty_eq, TL.join_eq]
  refine TL.ext_tl ?_
  rw [TL.tl_join, List.map_map]
  show TL.joinL [] ((List.range n).map fun i => [c i]) = ((List.range n).map c).toArray.toList
  have := joinL_nil ((List.range n).map c)
  rw [List.map_map] at this
  rw [show (fun i => [c i]) = ((fun c => [c]) ∘ c) from rfl, this]
theorem sg_sum {n : Nat} {c : Nat → Nat} (h : n ≤ 1000) : (((List.range n).map fun i => sg (c i)).map (·.length)).sum + ((List.range n).map fun i => sg (c i)).length * (Str.ofString "").length ≤ 16777216 := by
  have e1 : (Str.ofString "").length = 0 := by decide +kernel
  have e2 : ((List.range n).map fun i => sg (c i)).map (·.length) = List.replicate n 1 := by
    rw [List.map_map, List.eq_replicate_iff]
    constructor
    · simp
    · intro b hb
      obtain ⟨i, _, rfl⟩ := List.mem_map.mp hb
      rfl
  rw [e1, e2, List.sum_replicate_nat]
  omega
theorem map_sgV {n : Nat} {c : Nat → Nat} : (List.range n).map (fun i => V.str (sg (c i))) = ((List.range n).map fun i => sg (c i)).map V.str := by
  rw [List.map_map]
  rfl
section
variable {P : Program} {w : World} {K : PySem.W.Frag} {mg : Str → Option Value} {base : Heap}
theorem sc_nr : FnScope ["lattice", "rows", "least", "found", "y", "x"] ["lattice", "rows", "least"] d_normal_rows.scope := ⟨rfl, rfl, rfl, by decide +kernel, rfl, by decide +kernel, by decide +kernel⟩
theorem ok_normal_rows (T : Txt w K mg) : Good P w K mg base 6 "normal_rows" ["lattice", "rows", "least"] (fun vs H Q _ => ∃ l r l2 a b d rows A B D, vs = [.ref l, .ref r, .ref l2] ∧ ToldAt K H l r a b d rows ∧ LatAt K H l2 A B D ∧ BasS A B D ∧
    ∀ p H', Same H H' → H' p = some (.tup ((rowsS (colr a b d rows) A.toNat D.toNat).map V.str)) → Q (.ref p) H') := by
  refine good_mk (d := d_normal_rows) T.d_normal_rows rfl rfl T.g_normal_rows sc_nr
    (fun _ _ _ _ _ _ us hl => match us, hl with | [_, _, _], _ => rfl) (fun vs H Q E h => ?_) (fun f cdv A outer s H vs Q E hr h => ?_)
  · obtain ⟨l, r, l2, a, b, d, rows, A, B, D, rfl, _⟩ := h
    rfl
  · obtain ⟨l, r, l2, a, b, d, rows, A, B, D, rfl, ht, ⟨dx, hl2⟩, ⟨⟨h1, h2, h3, h4⟩, h5, h6⟩, q⟩ := h
    have nd := sc_nr.nd
    refine ⟨_, (pss_cons (ps_set (i := 3) nd rfl (Or.inl rfl) (pe_lst pa_nil))
      (pss_cons (ps_for PassesOwn.never rfl (pi_range1 (by rfl) T.f_range (pa_cons (pe_fld (pv 2) rfl) pa_nil)) (pg_name (i := 4) nd rfl (by first | exact Or.inl rfl | exact Or.inr rfl))
        (pss_one (ps_expr (pe_bm PySem.F.plainAttrs_list PySem.F.slot_list_append PySem.F.type_list_append mt_append (pv 3) (pa_cons (pe_join pe_str (pe_lc (own := [("x", 5)]) rfl nd (pi_range1 (by rfl) T.f_range (pa_cons (pe_fld (pv 2) rfl) pa_nil)) (blkOk_by (own := [("x", 5)]) (N := ["lattice", "rows", "least", "found", "y", "x"]) (sc := d_normal_rows.scope) (by decide +kernel)) (fun _ _ _ _ _ => (pg_name (i := 5) nd rfl (Or.inl rfl))) (fun _ _ _ _ _ => pts_nil) (fun _ _ _ _ _ => (pe_fn (ok_sign_at T) hr (pa_cons (pv 0) (pa_cons (pv 1) (pa_cons (pe_tup (pa_cons (pv 5) (pa_cons (pv 4) pa_nil))) pa_nil))))))) pa_nil)))))
      (pss_one (ps_ret (pe_callTy call_tuple_of (by rfl) T.f_tuple b_tuple (pa_cons (pv 3) pa_nil)))))), ?_⟩
    refine ⟨Nat.zero_le _, fun p hp => ?_⟩
    have e0 : Same H (upd H p (.lst [])) := same_new hp
    refine ⟨_, rfl, l2, _, dx, _, _, rfl, e0 _ _ hl2, T.c_Lattice, T.n_Lattice_d, latF_d _ _ _, _, rfl, by omega, by omega, for_range (lo := 0) (n := D.toNat)
      (fun i σ H2 => ∃ v, σ = [some (.ref l), some (.ref r), some (.ref l2), some (.ref p), v, none] ∧ Same H H2 ∧ H2 p = some (.lst (((List.range i).map fun j => rowS (colr a b d rows) A.toNat ((j : Nat) : Int)).map V.str)))
      ⟨none, rfl, e0, upd_same⟩ ?_ ?_⟩
    · rintro i σ H2 hi ⟨v, rfl, e2, hp2⟩
      refine ⟨_, rfl, .inl ⟨rfl, _, SqL.of hp2⟩, ⟨_, rfl⟩, _, rfl, l2, _, dx, _, _, rfl, e2 _ _ hl2, T.c_Lattice, T.n_Lattice_a, latF_a _ _ _, _, rfl, by omega, by omega, fun Dd nD => ?_⟩
      refine lcR evoSame (fun _ => true) (fun k y _ => y = .str (sg (colr a b d rows ((k : Nat) : Int) ((i : Nat) : Int)))) nD (by omega) (fun _ _ _ _ _ h => h) (fun k H3 Kc Kn hk e3 hc _ => ?_) (fun H3 ys e3 hD al => ?_)
      · refine ⟨rfl, _, rfl, _, rfl, _, rfl, _, rfl, two_le, fun z hz => ?_⟩
        refine ⟨l, r, z, a, b, d, rows, 0 + ((k : Nat) : Int), 0 + ((i : Nat) : Int), rfl, ht.same (e2.trans (e3.trans (same_new hz))), SqT.of upd_same, fun H4 e4 => ?_⟩
        refine hc _ _ rfl ((same_new hz).trans e4) ?_
        rw [Int.zero_add, Int.zero_add]
      · have ey := al.eq (v := fun k => V.str (sg (colr a b d rows ((k : Nat) : Int) ((i : Nat) : Int)))) fun _ _ h => h
        rw [filter_yes, map_sgV] at ey
        refine ⟨_, Dd, _, rfl, rfl, .inl (SqL.of (by rw [hD, ey])), sg_sum (by omega), ?_⟩
        refine ⟨p, _, _, rfl, rfl, e3 _ _ hp2, ?_, ?_⟩
        · rw [List.length_map, List.length_map, List.length_range]
          exact Nat.lt_of_lt_of_le (show i < 1000 by omega) (by decide)
        · refine ⟨_, rfl, evoSame.put (e2.trans e3) hp (e3 _ _ hp2), ?_⟩
          rw [upd_same, join_sg, List.range_succ, List.map_append, List.map_append]
          rfl
    · rintro σ H2 ⟨v, rfl, e2, hp2⟩
      refine ⟨_, rfl, p, _, rfl, .inl ⟨SqL.of hp2, fun z hz => ?_⟩⟩
      exact q z _ (e2.trans (same_new hz)) upd_same
/-! ### the checks -/
theorem ok_is_list (T : Txt w K mg) : Good P w K mg base 1 "is_list" ["value"] (fun vs H Q _ => ∃ p xs, vs = [.ref p] ∧ (H p = some (.lst xs) ∨ SqT K H p xs) ∧ ∀ H', Same H H' → Q (.bl true) H') := by
  refine good_mk (d := d_is_list) (N := ["value"]) T.d_is_list rfl rfl T.g_is_list ⟨rfl, rfl, rfl, by decide +kernel, rfl, by decide +kernel, by decide +kernel⟩
    (fun _ _ _ _ _ _ us hl => match us, hl with | [_], _ => rfl) (fun vs H Q E h => ?_) (fun f cdv A outer s H vs Q E hr h => ?_)
  · obtain ⟨p, xs, rfl, _⟩ := h
    rfl
  · obtain ⟨p, xs, rfl, hp, q⟩ := h
    refine ⟨_, (pss_one (ps_ret (pe_callB call_isiT (by rfl) T.f_isinstance b_isinstance (pa_cons (pv 0) (pa_cons (pe_tup (pa_cons (pe_ty T.f_list b_list) (pa_cons (pe_ty T.f_tuple b_tuple) pa_nil))) pa_nil))))), ?_⟩
    refine ⟨_, rfl, two_le, fun z hz => ?_⟩
    rcases hp with hp | hp
    · exact ⟨_, z, _, _, _, true, rfl, upd_same, .cons (.ty _) (.cons (.ty _) .nil), .base (.lst (same_new hz _ _ hp)), kitAny_cons (b := true) (kit_ty (by decide +kernel)) (fun z => by cases z) (fun _ => rfl), q _ (same_new hz)⟩
    · exact ⟨_, z, _, _, _, true, rfl, upd_same, .cons (.ty _) (.cons (.ty _) .nil), tyx_tup (sqT_same (same_new hz) hp), kitAny_cons (b := false) (kit_ty (by decide +kernel)) (fun _ => kitAny_cons (b := true) (kit_ty (by decide +kernel)) (fun z => by cases z) (fun _ => rfl)) (fun z => by cases z), q _ (same_new hz)⟩
theorem sc_ir : FnScope ["value", "many", "sign"] ["value", "many"] d_is_row.scope := ⟨rfl, rfl, rfl, by decide +kernel, rfl, by decide +kernel, by decide +kernel⟩
theorem figs_mem {c : Nat} (h1 : 48 ≤ c) (h2 : c ≤ 57) : c ∈ (Str.ofString "0123456789").cps.toList := by
  have e : (Str.ofString "0123456789").cps.toList = [48, 49, 50, 51, 52, 53, 54, 55, 56, 57] := by decide +kernel
  rw [e]
  simp only [List.mem_cons, List.not_mem_nil, or_false]
  omega
theorem ok_is_row (T : Txt w K mg) : Good P w K mg base 1 "is_row" ["value", "many"] (fun vs H Q _ => ∃ (z : Str) (n : Int), vs = [.str z, .int n] ∧ (z.cps.size : Int) = n ∧ n ≤ 144 ∧ (∀ c ∈ z.cps.toList, 48 ≤ c ∧ c ≤ 57) ∧ ∀ H', Same H H' → Q (.bl true) H') := by
  obtain ⟨tk, hfig⟩ := T.s_FIGURES
  refine good_mk (d := d_is_row) T.d_is_row rfl rfl T.g_is_row sc_ir
    (fun _ _ _ _ _ _ us hl => match us, hl with | [_, _], _ => rfl) (fun vs H Q E h => ?_) (fun f cdv A outer s H vs Q E hr h => ?_)
  · obtain ⟨z, n, rfl, _⟩ := h
    rfl
  · obtain ⟨z, n, rfl, hn, h144, hc, q⟩ := h
    have nd := sc_ir.nd
    refine ⟨_, (pss_one (ps_ret (pe_and (pe_callB call_isi (by rfl) T.f_isinstance b_isinstance (pa_cons (pv 0) (pa_cons (pe_ty T.f_str b_str) pa_nil))) (pe_and (pe_cmpR op_eq (pe_callB call_len (by rfl) T.f_len b_len (pa_cons (pv 0) pa_nil)) (pv 1) (nomark _)) (pe_one (pe_callB (cr_all rfl) (by rfl) T.f_all b_all (pa_cons (pe_lc (own := [("sign", 2)]) rfl nd (pi_str (pv 0)) (blkOk_by (own := [("sign", 2)]) (N := ["value", "many", "sign"]) (sc := d_is_row.scope) (by decide +kernel)) (fun _ _ _ _ _ => (pg_name (i := 2) nd rfl (Or.inl rfl))) (fun _ _ _ _ _ => pts_nil) (fun _ _ _ _ _ => (pe_cmpR op_in_sign (pv 2) (pe_glob (v := .str "0123456789") rfl hfig ⟨_, rfl⟩) (by rfl)))) pa_nil))))))), ?_⟩
    have sz : z.cps.size ≤ sizeLine := by
      have : (144 : Nat) ≤ sizeLine := by decide
      omega
    refine ⟨_, rfl, _, _, _, _, true, rfl, .ty _, .base (.str z), kit_ty (by decide +kernel), _, rfl, iteT ⟨_, rfl, _, z.length, rfl, ⟨sz, rfl⟩, _, rfl, rfl, _, rfl, ?_⟩⟩
    rw [neq_int (show ((z.length : Nat) : Int) = n from hn)]
    refine iteT ⟨_, rfl, z, rfl, fun D nD => ?_⟩
    refine lc_run evoSame z.cps.size (fun _ => true) (fun _ y _ => y = .bl true) nD (by omega) (fun i H2 hi e => hi) (fun H2 e => Nat.le_refl _) (fun _ _ _ _ _ h => h) (fun i x H2 H3 Kc Kn hi e yl hk _ => ?_) (fun H2 ys e hD al => ?_)
    · obtain ⟨rfl, c, hcc, rfl⟩ := yl
      refine ⟨rfl, _, rfl, c, _, rfl, rfl, hk _ _ rfl (Same.refl _) ?_⟩
      have hm : c ∈ z.cps.toList := by
        have := Array.mem_of_getElem? hcc
        exact Array.mem_toList_iff.mpr this
      rw [decide_eq_true (figs_mem (hc c hm).1 (hc c hm).2)]
    · have ey := al.eq (v := fun _ => V.bl true) fun _ _ h => h
      rw [filter_yes] at ey
      refine ⟨D, (List.range z.cps.size).map fun _ => true, rfl, SqL.of (by rw [hD, ey, List.map_map]; rfl), ?_⟩
      have e2 : (((List.range z.cps.size).map fun _ => true).all id) = true := by
        rw [List.all_eq_true]
        intro b hb
        obtain ⟨_, _, rfl⟩ := List.mem_map.mp hb
        rfl
      rw [e2]
      exact q _ e
theorem ok_check_size (T : Txt w K mg) : Good P w K mg base 1 "check_size" ["many"] (fun vs H Q _ => ∃ n, vs = [.int n] ∧ n ≤ 144 ∧ Q .non H) := by
  obtain ⟨tk, hm⟩ := T.i_MOST_CELLS
  refine good_mk (d := d_check_size) (N := ["many"]) T.d_check_size rfl rfl T.g_check_size ⟨rfl, rfl, rfl, by decide +kernel, rfl, by decide +kernel, by decide +kernel⟩
    (fun _ _ _ _ _ _ us hl => match us, hl with | [_], _ => rfl) (fun vs H Q E h => ?_) (fun f cdv A outer s H vs Q E hr h => ?_)
  · obtain ⟨n, rfl, _⟩ := h
    rfl
  · obtain ⟨n, rfl, h1, q⟩ := h
    refine ⟨_, (pss_one (ps_if (pt_cmpR op_gt (pv 0) (pe_glob (v := .int 144) rfl hm ⟨_, rfl⟩) (nomark _)) (pss_one ps_never) pss_nil)), ?_⟩
    refine ⟨_, rfl, _, _, rfl, rfl, _, rfl, ?_⟩
    rw [decide_eq_false (show ¬ (144 : Int) < n by omega)]
    exact iteF q
theorem sc_cr : FnScope ["rows", "a", "d", "index", "row"] ["rows", "a", "d"] d_check_rows.scope := ⟨rfl, rfl, rfl, by decide +kernel, rfl, by decide +kernel, by decide +kernel⟩
theorem ok_check_rows (T : Txt w K mg) : Good P w K mg base 2 "check_rows" ["rows", "a", "d"] (fun vs H Q _ => ∃ p rows a d, vs = [.ref p, .int a, .int d] ∧ (H p = some (.lst (rows.map V.str)) ∨ SqT K H p (rows.map V.str)) ∧ RowsOk a d rows ∧ a ≤ 144 ∧ d ≤ 144 ∧
    ∀ H', Same H H' → Q .non H') := by
  refine good_mk (d := d_check_rows) T.d_check_rows rfl rfl T.g_check_rows sc_cr
    (fun _ _ _ _ _ _ us hl => match us, hl with | [_, _, _], _ => rfl) (fun vs H Q E h => ?_) (fun f cdv A outer s H vs Q E hr h => ?_)
  · obtain ⟨p, rows, a, d, rfl, _⟩ := h
    rfl
  · obtain ⟨p, rows, a, d, rfl, hp, hro, ha, hd, q⟩ := h
    have nd := sc_cr.nd
    refine ⟨_, (pss_cons (ps_if (PW.pt (pw_or (pt_not (pt_val (pe_fn (ok_is_list T) hr (pa_cons (pv 0) pa_nil)))) (pw_or1 (pt_cmpR op_ne (pe_callB call_len (by rfl) T.f_len b_len (pa_cons (pv 0) pa_nil)) (pv 2) (nomark _))))) (pss_one ps_never) pss_nil)
      (pss_one (ps_for PassesOwn.never rfl (pi_or (pi_enum (by rfl) T.f_enumerate (pa_cons (pv 0) pa_nil)) (pi_enumT (by rfl) T.f_enumerate (pa_cons (pv 0) pa_nil))) (pg_tup rfl (pgs_cons (pg_name (i := 3) nd rfl (Or.inl rfl)) (pgs_cons (pg_name (i := 4) nd rfl (Or.inl rfl)) pgs_nil)))
        (pss_one (ps_if (pt_not (pt_val (pe_fn (ok_is_row T) hr (pa_cons (pv 4) (pa_cons (pv 1) pa_nil))))) (pss_one ps_never) pss_nil))))), ?_⟩
    have hlen : ((rows.map V.str).length : Int) = d := by
      rw [List.length_map]
      exact hro.len
    refine ⟨_, rfl, p, _, rfl, hp, fun H1 e1 => ⟨_, rfl, iteF ⟨_, rfl, _, (rows.map V.str).length, rfl, ?_, _, rfl, rfl, _, rfl, ?_⟩⟩⟩
    · rcases hp with hp | hp
      · exact .inl ⟨_, SqL.of (e1 _ _ hp), rfl⟩
      · exact .inr ⟨_, sqT_same e1 hp, rfl⟩
    · refine iteNS (by rw [hlen]) ?_
      -- the loop, over a list or a tuple
      have turn : ∀ (i : Nat) (T0 : Addr) (x : V) (H2 : Hp) (σ : L2.St) (Z : Hp → Prop), (rows.map V.str)[i]? = some x → (∀ H3, Same H2 H3 → Z H3) → ∃ z, x = .str z ∧ (z.cps.size : Int) = a ∧ ∀ c ∈ z.cps.toList, 48 ≤ c ∧ c ≤ 57 := by
        intro i T0 x H2 σ Z hx _
        rw [List.getElem?_map] at hx
        cases er : rows[i]? with
        | none =>
          rw [er] at hx
          cases hx
        | some z =>
          rw [er] at hx
          obtain ⟨r1, r2⟩ := hro.each z (List.mem_of_getElem? er)
          exact ⟨z, (Option.some.inj hx).symm, r1, r2⟩
      rcases hp with hp | hp
      · refine .inl ⟨_, rfl, p, _, rfl, SqL.of (e1 _ _ hp), for_run (rows.map V.str).length (fun i σ H2 => ∃ v u, σ = [some (.ref p), some (.int a), some (.int d), v, u] ∧ Same H1 H2) ⟨none, none, rfl, Same.refl _⟩ ?_ ?_ ?_ ?_⟩
        · rintro i σ H2 hi ⟨v, u, rfl, e2⟩
          exact ⟨_, (rows.map V.str)[i], SqL.of (e2 _ _ (e1 _ _ hp)), by simp [hi]⟩
        · rintro σ H2 ⟨v, u, rfl, e2⟩
          exact ⟨_, SqL.of (e2 _ _ (e1 _ _ hp)), Nat.le_refl _⟩
        · rintro i x σ H2 H3 hi ⟨v, u, rfl, e2⟩ ⟨T0, y, rfl, hT, rfl, hy⟩
          obtain ⟨z, rfl, r1, r2⟩ := turn i T0 y H2 [] (fun _ => True) (hy _ (SqL.of (e2 _ _ (e1 _ _ hp)))) fun _ _ => trivial
          refine ⟨T0, _, rfl, SqT.of upd_same, rfl, _, _, rfl, _, _, rfl, rfl, ?_⟩
          exact ⟨_, rfl, _, rfl, z, a, rfl, r1, ha, r2, fun H4 e4 => ⟨_, rfl, iteF ⟨_, _, rfl, e2.trans ((same_new hT).trans e4)⟩⟩⟩
        · rintro σ H2 ⟨v, u, rfl, e2⟩
          exact q _ (e1.trans e2)
      · refine .inr ⟨_, rfl, p, _, rfl, sqT_same e1 hp, for_run (rows.map V.str).length (fun i σ H2 => ∃ v u, σ = [some (.ref p), some (.int a), some (.int d), v, u] ∧ Same H1 H2) ⟨none, none, rfl, Same.refl _⟩ ?_ ?_ ?_ ?_⟩
        · rintro i σ H2 hi ⟨v, u, rfl, e2⟩
          exact ⟨_, (rows.map V.str)[i], sqT_same (e1.trans e2) hp, by simp [hi]⟩
        · rintro σ H2 ⟨v, u, rfl, e2⟩
          exact ⟨_, sqT_same (e1.trans e2) hp, rfl⟩
        · rintro i x σ H2 H3 hi ⟨v, u, rfl, e2⟩ ⟨T0, y, rfl, hT, rfl, hy⟩
          obtain ⟨z, rfl, r1, r2⟩ := turn i T0 y H2 [] (fun _ => True) (hy _ (sqT_same (e1.trans e2) hp)) fun _ _ => trivial
          refine ⟨T0, _, rfl, SqT.of upd_same, rfl, _, _, rfl, _, _, rfl, rfl, ?_⟩
          exact ⟨_, rfl, _, rfl, z, a, rfl, r1, ha, r2, fun H4 e4 => ⟨_, rfl, iteF ⟨_, _, rfl, e2.trans ((same_new hT).trans e4)⟩⟩⟩
        · rintro σ H2 ⟨v, u, rfl, e2⟩
          exact q _ (e1.trans e2)
end
end K84
set_option Elab.async false
set_option linter.all false
set_option maxRecDepth 100000
set_option maxHeartbeats 4000000
/-! lambdas that are handed to a def and called there: their cells are locked (frozen) while the def runs -/
namespace K84
open PySem PySem.Spec PyProof.Rows L2
/-- a lambda's words, its captured cells, its code object -/
structure LF where
  qual : Str
  params : Arguments
  body : Expr
  scope : Scope
  cl : List (Str × Addr)
  c : Addr
abbrev LF.nf (F : LF) : NdefX.NF := ⟨"<lambda>", F.qual, F.params, [], F.scope, F.cl, F.c⟩
/-- the object at f is this lambda -/
def FnL (f : Addr) (F : LF) : HO := .ext fun h => ∃ pm ctv, h.get? f = some (PySem.W.kla_obj "<lambda>" F.qual F.params F.body F.scope F.cl pm F.c ctv)
theorem fnL_at {P : Program} {w : World} {H : Hp} {h : Heap} {f : Addr} {F : LF} (hok : HOk P w H h) (e : H f = some (FnL f F)) : ∃ pm ctv, h.get? f = some (PySem.W.kla_obj "<lambda>" F.qual F.params F.body F.scope F.cl pm F.c ctv) := (hok f _ e).1
/-! ### the lambda is made -/
section
variable {X : Cx} {pins : List (Addr × Obj)} {σ : L2.St} {H : Hp} {s : Shared}
theorem inv_fnL {F : LF} {h' : Heap} {t' : Nat} {pm ctv : Value} (I : Inv X pins σ H { s with heap := h', toks := t' }) :
    Inv X pins σ (upd H h'.objs.size (FnL h'.objs.size F)) { s with heap := h'.push (PySem.W.kla_obj "<lambda>" F.qual F.params F.body F.scope F.cl pm F.c ctv), toks := t' } := by
  refine I.laid (a := h'.objs.size) (fun b u e => Heap.get?_push_of_some _ e) (Nat.le_refl _) ?_
  have e : (h'.push (PySem.W.kla_obj "<lambda>" F.qual F.params F.body F.scope F.cl pm F.c ctv)).get? h'.objs.size = some (PySem.W.kla_obj "<lambda>" F.qual F.params F.body F.scope F.cl pm F.c ctv) := Heap.get?_push_size _ rfl
  exact ⟨⟨pm, ctv, e⟩, ⟨_, e⟩, fun h1 h2 ⟨p, t, z⟩ st => ⟨p, t, st _ z⟩⟩
/-- the reading: a new function object; its code object is known; the tables may have grown -/
def tLamL (T : List (Addr × Str)) (mk : Addr → LF) : TE := fun _ H Q => LamX.Tabs T H ∧ ∀ (f c' : Addr) (H1 : Hp), LamX.ExtN H H1 → LamX.Tabs T H1 → H f = none → H1 f = some (FnL f (mk c')) → H1 c' = some (LamX.CodeO c' (mk c').qual) → Q (.ref f) H1
theorem pe_lamL {T : List (Addr × Str)} {c P : Addr} {params : Arguments} {body : Expr} {scope : Scope} {pos : Pos} (TB : LamX.TabB X.base X.mg c P) (hcode : X.env.code = .ref c) (hm : (P, X.env.qual ++ "<lambda>") ∈ T)
    (hu : ∀ p ∈ T, p.1 = P → p.2 = X.env.qual ++ "<lambda>") (hdef : defaultsOf params X.env = ([], [])) (hfree : ∀ y ∈ scope.names, y.2 = .free → X.env.scope.names.lookup y.1 = some .cell ∨ X.env.scope.names.lookup y.1 = some .free) :
    PE X (.Lambda params body scope pos) (tLamL T fun c' => ⟨X.env.qual ++ "<lambda>", params, body, scope, cloFrom X.env.cells scope.names [], c'⟩) := by
  constructor
  intro pins s σ H Q I h
  obtain ⟨hT, h⟩ := h
  have hfr : ∀ y ∈ scope.names, y.2 = .free → ∃ c, X.env.cells.lookup y.1 = some c := fun y hy e => (hfree y hy e).elim (fun z => I.ok.has _ (.inl z)) fun z => I.ok.has _ (.inr z)
  obtain ⟨ps, hP, ht, ha⟩ := hT _ hm
  refine PySem.W.kla_eval hdef ?_
  have bP : s.heap.BuiltinsAt X.mg P := TB.bm.keeps I.bk
  have hP' : s.heap.get? P = some { cls := .none, data := .fields ps } := I.hok P _ hP
  cases hc : codeAmong pos ps.toList with
  | none =>
    refine PySem.W.kla_makeFunction (mg := X.mg) (c := c) (P := P) (ps := ps) (closure_ok hfr) I.ok.glob (I.mod.glob.keeps I.bk) hcode (TB.code.keeps I.bk) hP' ht hc TB.gP bP fun c' ctv h' tk hx hge hlt hrec htb => ?_
    obtain ⟨c2, oc, vs, t, e2, hoc, hd, hv⟩ := hrec
    cases e2
    have nC : H c' = none := I.hok.fresh hge
    have I1 := LamX.inv_table (t' := tk) (more := #[rawInt pos.line, rawInt pos.col, .ref c']) (h' := h') I hP (fun b o hb e => hx b o hb e) htb hge ⟨oc, vs, t, hoc, hd, hv⟩
    have hE : LamX.ExtN H (upd (upd H P (.tbl (ps ++ #[rawInt pos.line, rawInt pos.col, .ref c']))) c' (LamX.CodeO c' (X.env.qual ++ "<lambda>"))) := fun b o e n => by
      rw [upd_ne (ne_of_none e nC), upd_ne (fun z => n ps (Option.some.inj (e.symm.trans (by rw [z]; exact hP))))]
      exact e
    have eL : (ps ++ #[rawInt pos.line, rawInt pos.col, .ref c']).toList = ps.toList ++ [rawInt pos.line, rawInt pos.col, .ref c'] := by simp
    have T1 : LamX.Tabs T (upd (upd H P (.tbl (ps ++ #[rawInt pos.line, rawInt pos.col, .ref c']))) c' (LamX.CodeO c' (X.env.qual ++ "<lambda>"))) := fun p hp => by
      by_cases hb : p.1 = P
      · rw [hu p hp hb, hb]
        refine ⟨_, by rw [upd_ne (ne_of_none hP nC), upd_same], by rw [eL]; exact PySem.TriplesOk_snoc _ _ _ _ ht, fun p' cv hcv => ?_⟩
        rw [eL] at hcv
        rcases LamX.among_app _ ht hcv with z | z
        · obtain ⟨c0, e1, e2⟩ := ha p' cv z
          exact ⟨c0, e1, hE _ _ e2 LamX.codeO_ne⟩
        · exact ⟨c', z, upd_same⟩
      · obtain ⟨ps', a1, a2, a3⟩ := hT p hp
        refine ⟨ps', by rw [upd_ne (ne_of_none a1 nC), upd_ne hb]; exact a1, a2, fun p' cv hcv => ?_⟩
        obtain ⟨c0, e1, e2⟩ := a3 p' cv hcv
        exact ⟨c0, e1, hE _ _ e2 LamX.codeO_ne⟩
    have nF := I1.hok.fresh (Nat.le_refl _)
    have I2 := inv_fnL (F := ⟨X.env.qual ++ "<lambda>", params, body, scope, cloFrom X.env.cells scope.names [], c'⟩) (pm := (X.mg "__name__").getD .none) (ctv := ctv) I1
    refine ⟨.ref h'.objs.size, _, I2, rfl, h h'.objs.size c' _ (fun b o e n => ?_) (T1.ext fun b o e => ?_) (I.hok.fresh (Nat.le_trans hge (Nat.le_of_lt hlt))) upd_same ?_⟩
    · have e1 := hE b o e n
      exact (upd_ne (ne_of_none e1 nF)).trans e1
    · exact (upd_ne (ne_of_none e nF)).trans e
    · exact (upd_ne (Nat.ne_of_lt hlt)).trans upd_same
  | some cv =>
    obtain ⟨c', e, hco⟩ := ha pos cv hc
    subst e
    refine PySem.W.kla_makeFunctionHit (mg := X.mg) (c := c) (P := P) (ps := ps) (closure_ok hfr) I.ok.glob (I.mod.glob.keeps I.bk) hcode (TB.code.keeps I.bk) hP' ht hc bP fun ctv h' tk hx hsz => ?_
    have I1 : Inv X pins σ H { s with heap := h', toks := tk } := I.kept hx
    have nF : H h'.objs.size = none := I1.hok.fresh (Nat.le_refl _)
    have I2 := inv_fnL (F := ⟨X.env.qual ++ "<lambda>", params, body, scope, cloFrom X.env.cells scope.names [], c'⟩) (pm := (X.mg "__name__").getD .none) (ctv := ctv) I1
    refine ⟨.ref h'.objs.size, _, I2, rfl, h h'.objs.size c' _ (fun b o e n => ?_) (hT.ext fun b o e => ?_) nF upd_same ?_⟩
    · exact (upd_ne (ne_of_none e nF)).trans e
    · exact (upd_ne (ne_of_none e nF)).trans e
    · exact (upd_ne (ne_of_none hco nF)).trans hco
end
/-! ### cells under lock -/
/-- the captured cells stand locked; the i-th captured name's holds ws's i-th value -/
structure CellsH (cl : List (Str × Addr)) (fr : List Str) (ws : List (Option V)) (H : Hp) : Prop where
  len : ws.length = fr.length
  all : ∀ y c, cl.lookup y = some c → ∃ (o : Obj) (v : Option Value), H c = some (.frz o (.own 0)) ∧ o.data = .cell v
  inj : ∀ x y c, cl.lookup x = some c → cl.lookup y = some c → x = y
  has : ∀ (i : Nat) (y : Str), fr[i]? = some y → ∃ c, cl.lookup y = some c ∧ ∀ v, ws[i]? = some (some v) → ∃ (o : Obj) (u : Value), H c = some (.frz o (.own 0)) ∧ RelV v u ∧ o.data = .cell (some u)
theorem CellsH.kp {cl : List (Str × Addr)} {fr : List Str} {ws : List (Option V)} {H H' : Hp} (C : CellsH cl fr ws H) (e : Kp H H') : CellsH cl fr ws H' :=
  ⟨C.len, fun y c h => let ⟨o, v, a, b⟩ := C.all y c h; ⟨o, v, e.frz a, b⟩, C.inj, fun i y h => let ⟨c, a, b⟩ := C.has i y h; ⟨c, a, fun v hv => let ⟨o, u, x, y, z⟩ := b v hv; ⟨o, u, e.frz x, y, z⟩⟩⟩
/-- H without what stands at cs -/
def unl (cs : List Addr) (H : Hp) : Hp := fun b => if b ∈ cs then none else H b
theorem unl_in {cs : List Addr} {H : Hp} {b : Addr} (h : b ∈ cs) : unl cs H b = none := if_pos h
theorem unl_out {cs : List Addr} {H : Hp} {b : Addr} (h : b ∉ cs) : unl cs H b = H b := if_neg h
/-- .. with what stood at cs in H' -/
def rel (cs : List Addr) (H' H : Hp) : Hp := fun b => if b ∈ cs then H' b else H b
theorem rel_in {cs : List Addr} {H' H : Hp} {b : Addr} (h : b ∈ cs) : rel cs H' H b = H' b := if_pos h
theorem rel_out {cs : List Addr} {H' H : Hp} {b : Addr} (h : b ∉ cs) : rel cs H' H b = H b := if_neg h
theorem mem_cs {cl : List (Str × Addr)} {b : Addr} (nd : ∀ p ∈ cl, cl.lookup p.1 = some p.2) (h : b ∈ cl.map (·.2)) : ∃ y, cl.lookup y = some b := by
  obtain ⟨p, hp, e⟩ := List.mem_map.mp h
  exact ⟨p.1, by rw [nd p hp, e]⟩
/-! ### a closure's promise, as long as its cells are locked -/
structure Clo (P : Program) (w : World) (K : PySem.W.Frag) (mg : Str → Option Value) (base : Heap) (k : Nat) (H : Hp) (f : Addr) (sp : Sp) : Prop where
  at_ : ∃ F, H f = some (FnL f F)
  run : ∀ (H' : Hp), Kp H H' → ∀ (A : Around) (outer : List Env) (s : Shared) (us : List Value) (vs : List V) (Q : VK) (E : XK), Room k A → Env0 P w K mg base A outer s H' → Vals vs us → sp vs H' Q E →
    codeAny (model P w) A (.call (.ref f) ⟨us, []⟩) (CR CX0 outer P w H' s Q E) s
theorem Kp.ext {H H' : Hp} (e : Kp H H') {a : Addr} {φ : Heap → Prop} (h : H a = some (.ext φ)) : H' a = some (.ext φ) := e _ _ h (fun _ z => by cases z) (fun _ z => by cases z)
section
variable {P : Program} {w : World} {K : PySem.W.Frag} {mg : Str → Option Value} {base : Heap} {k : Nat} {H : Hp} {f : Addr} {sp : Sp}
theorem Clo.kp (C : Clo P w K mg base k H f sp) {H' : Hp} (e : Kp H H') : Clo P w K mg base k H' f sp := by
  obtain ⟨F, hF⟩ := C.at_
  exact ⟨⟨F, e.ext hF⟩, fun H'' e' => C.run H'' (e.trans e')⟩
theorem clo_of {F : LF} {N ps fr : List Str} {ws : List (Option V)} (S : NdefX.NScope N ps fr F.scope) (hf : H f = some (FnL f F)) (hcd : H F.c = some (LamX.CodeO F.c F.qual)) (C : CellsH F.cl fr ws H) (nd : ∀ p ∈ F.cl, F.cl.lookup p.1 = some p.2)
    (hb : ∀ (pm ctv : Value) (us : List Value), us.length = ps.length → bindArgs (PySem.W.kla_fn "<lambda>" F.qual F.params F.body F.scope F.cl pm (.ref F.c) ctv) ⟨us, []⟩ = pure (ps.zip us)) (len : ∀ vs H Q E, sp vs H Q E → vs.length = ps.length)
    (hbody : ∀ (A : Around) (outer : List Env) (s : Shared) (H' : Hp) (vs : List V) (Q : VK) (E : XK), Kp H H' → Room k (A.deeper (NdefX.envF F.nf f s.heap.objs.size)) → sp vs H' Q E →
      ∃ t, PE (NdefX.ncx CX0 P w K mg base N F.nf f A outer s (unl (F.cl.map (·.2)) H') E).nox F.body t ∧ t (NdefX.startF N vs ws) (unl (F.cl.map (·.2)) H') (fun v H3 => Q v (rel (F.cl.map (·.2)) H' H3))) :
    Clo P w K mg base (k + 1) H f sp := by
  refine ⟨⟨F, hf⟩, fun H' e A outer s us vs Q E hr e0 r hsp => ?_⟩
  have hl := len _ _ _ _ hsp
  have lim : s.heap.NoLimit := e0.mod.nolimit.keeps fun b o q => (e0.bs b o q).1
  have C' := C.kp e
  obtain ⟨pm, ctv, ho⟩ := fnL_at e0.hok (e.ext hf)
  obtain ⟨⟨oc, cvs, ct, hoc, hdc, hvc⟩, _, _⟩ := e0.hok F.c _ (e.ext hcd)
  generalize hcs : F.cl.map (·.2) = cs at hbody
  have inC : ∀ {b}, b ∈ cs → ∃ (o : Obj) (v : Option Value), H' b = some (.frz o (.own 0)) ∧ o.data = .cell v ∧ s.heap.get? b = some o := fun {b} h => by
    rw [← hcs] at h
    obtain ⟨y, hy⟩ := mem_cs nd h
    obtain ⟨o, v, h1, h2⟩ := C'.all y b hy
    exact ⟨o, v, h1, h2, (e0.hok b _ h1).1⟩
  have out : ∀ {b u}, H' b = some u → (∀ o, u ≠ .frz o (.own 0)) → b ∉ cs := fun {b u} h n hm => by
    obtain ⟨o, v, h1, _⟩ := inC hm
    rw [h] at h1
    exact n o (Option.some.inj h1)
  have e1 : Env0 P w K mg base A outer s (unl cs H') := by
    refine ⟨e0.frames, e0.mod, fun b o q => ⟨(e0.bs b o q).1, ?_⟩, e0.bsz, e0.funs, fun b q => ?_, fun b u q => ?_, e0.bare⟩
    · by_cases hm : b ∈ cs
      · exact unl_in hm
      · rw [unl_out hm]
        exact (e0.bs b o q).2
    · by_cases hm : b ∈ cs
      · exact unl_in hm
      · rw [unl_out hm]
        exact e0.frf b q
    · by_cases hm : b ∈ cs
      · rw [unl_in hm] at q
        cases q
      · rw [unl_out hm] at q
        refine (e0.hok b u q).stay (fun c v _ z => z) (fun c z => ?_) fun c xs z => ?_
        · rw [unl_out (out z fun o y => by cases y)]
          exact z
        · rw [unl_out (out z fun o y => by cases y)]
          exact z
  have CA : NdefX.CellsAt F.cl fr ws s.heap (unl cs H') := by
    have mem : ∀ {y c}, F.cl.lookup y = some c → c ∈ cs := fun {y c} h => by
      rw [← hcs]
      exact List.mem_map.mpr ⟨(y, c), PySem.mem_of_lookup h, rfl⟩
    refine ⟨C'.len, fun y c h => ⟨unl_in (mem h), ?_⟩, C'.inj, fun i y h => ?_⟩
    · obtain ⟨o, v, h1, h2, h3⟩ := inC (mem h)
      exact ⟨v, o, h3, h2⟩
    · obtain ⟨c, h1, h2⟩ := C'.has i y h
      refine ⟨c, h1, fun v hv => ?_⟩
      obtain ⟨o, u, a1, a2, a3⟩ := h2 v hv
      exact ⟨u, a2, o, (e0.hok c _ a1).1, a3⟩
  refine PySem.W.kla_callFunE hr.depth ho rfl S.co S.gen rfl ⟨F.c, oc, cvs, ct, rfl, hoc, hdc, hvc⟩ ?_
  rw [hb pm ctv us (by rw [← r.length]; exact hl)]
  refine wpAny_pure (wpAny_newFunctionEnv S.nocell (fun ⟨n, _⟩ hy => S.par n (List.of_mem_zip hy).1) (fun h₁ hns hsb => ⟨lim.fresh _ hsb, ?_⟩) S.kind)
  have kp : ∀ b o, s.heap.get? b = some o → h₁.get? b = some o := fun b o q => hsb.extBut b o (Nat.ne_of_lt (Heap.lt_size q)) (Heap.get?_push_of_some _ q)
  obtain ⟨t, ht, hq⟩ := hbody A outer s H' vs Q E e (hr.deeper _) hsp
  have I : Inv (NdefX.ncx CX0 P w K mg base N F.nf f A outer s (unl cs H') E) [] (NdefX.startF N vs ws) (unl cs H') { s with heap := h₁, toks := s.toks + (ps.zip us).length } := NdefX.inv_startN (F := F.nf) S hr.hd e1 hl r CA hns kp
  refine PySem.W.kla_codeExpr (wpAny_mono (ht.nox.run [] _ _ _ _ I hq) (fun v s' hq => ?_) fun e s' hq => hq)
  obtain ⟨v', H3, J, rv, q⟩ := hq
  have un : Un (frs outer) [] (unl cs H') H3 s.heap s'.heap := J.base
  have fz : ∀ {b}, b ∈ cs → ∃ o, H' b = some (.frz o (.own 0)) ∧ s'.heap.get? b = some o := fun {b} hm => by
    obtain ⟨o, v, h1, h2, h3⟩ := inC hm
    refine ⟨o, h1, un.keep b o h3 (unl_in hm) (fun z => ?_) (by simp)⟩
    have := e0.frf b z
    rw [h1] at this
    cases this
  refine ⟨v', rel cs H' H3, J.os, J.bare, ⟨fun b o z n hb hx => ?_, fun b o z n hb hx => ?_, fun b o z n hx => ?_, un.there, fun b xs z => ?_, fun b o u z => ?_, fun b ps z => ?_⟩, fun b u z => ?_, rv, q⟩
  · have hm : b ∉ cs := fun hm => by
      obtain ⟨o, h1, _⟩ := fz hm
      rw [n] at h1
      cases h1
    exact un.keep b o z (by rw [unl_out hm]; exact n) hb hx
  · have hm : b ∉ cs := fun hm => by
      obtain ⟨o, h1, _⟩ := fz hm
      rw [n] at h1
      cases h1
    exact un.slot b o z (by rw [unl_out hm]; exact n) hb hx
  · have hm : b ∉ cs := fun hm => by
      obtain ⟨o, h1, _⟩ := fz hm
      rw [n] at h1
      cases h1
    rw [rel_out hm]
    exact un.free b o z (by rw [unl_out hm]; exact n) hx
  · have hm := out z fun o y => by cases y
    rw [rel_out hm]
    exact un.tups b xs (by rw [unl_out hm]; exact z)
  · by_cases hm : b ∈ cs
    · rw [rel_in hm]
      exact z
    · rw [rel_out hm]
      exact un.frzs b o u (by rw [unl_out hm]; exact z)
  · have hm := out z fun o y => by cases y
    rw [rel_out hm]
    exact un.tbls b ps (by rw [unl_out hm]; exact z)
  · by_cases hm : b ∈ cs
    · obtain ⟨o, h1, h2⟩ := fz hm
      rw [rel_in hm, h1] at z
      cases z
      exact ⟨h2, o, h2⟩
    · rw [rel_out hm] at z
      have own3 : ∀ {c u}, c ∈ cs → H3 c = some u → False := fun {c u} hc h3 => by
        obtain ⟨o, h1, h2⟩ := fz hc
        obtain ⟨o0, v0, g1, g2, g3⟩ := inC hc
        have := un.free c o0 g3 (unl_in hc) (by simp)
        rw [this] at h3
        cases h3
      refine (J.hok b u z).stay (fun c v _ y => y) (fun c y => ?_) fun c xs y => ?_
      · rw [rel_out (fun hc => own3 hc y)]
        exact y
      · rw [rel_out (fun hc => own3 hc y)]
        exact y
end
/-! ### calls of it -/
section
variable {X : Cx} {k j i : Nat} {x : Str} {e : Expr} {es : List Expr} {t : TA} {p pos : Pos} {P : Program} {w : World} {K : PySem.W.Frag} {mg : Str → Option Value} {base : Heap}
/-- f(e, ..), the slot i holds a closure whose cells are locked -/
def tClo (P : Program) (w : World) (K : PySem.W.Frag) (mg : Str → Option Value) (base : Heap) (k i : Nat) (t : TA) : TE := fun σ H Q => ∃ (f : Addr) (sp : Sp), σ[i]? = some (some (.ref f)) ∧ Clo P w K mg base k H f sp ∧
  t σ H fun vs H1 => Clo P w K mg base k H1 f sp ∧ sp vs H1 Q E0
theorem pe_clo (hP : X.prog = P) (hw : X.w = w) (hK : X.K = K) (hmg : X.mg = mg) (hbs : X.base = base) (hr : Room k X.A) (hN : X.N[i]? = some x) (hv : Vis X.env.scope x) (ha : PA X (e :: es) t) (hj : j ≤ k := by decide)
    (hdb : (x == ("__debug__" : Str)) = false := by decide) (hcd : (x == ("__classdict__" : Str)) = false := by decide)
    (he : starEach (e :: es) X.env = (false, eval e X.env) :: starEach es X.env := by rfl) (hpl : (backTo pos (starEach es X.env)).any (·.1) = false := by rfl) : PE X (.Call (.Name x p) (e :: es) [] pos) (tClo P w K mg base j i t) := by
  subst hP hw hK hmg hbs
  constructor
  intro pins s σ H Q I h
  obtain ⟨f, sp, hs, C0, ht⟩ := h
  have fat : ∀ {s1 : Shared} {H1 : Hp}, Inv X pins σ H1 s1 → Clo X.prog X.w X.K X.mg X.base j H1 f sp → PySem.W.FnAt f s1.heap := fun {s1 H1} I1 C1 => by
    obtain ⟨F, hF⟩ := C1.at_
    obtain ⟨pm, ctv, z⟩ := fnL_at I1.hok hF
    exact ⟨_, _, _, _, z⟩
  refine wpAny_Call_Name_kw (thn ((pe_var (pos := p) hN hv hdb hcd).run pins s σ H (fun v H1 => v = .ref f ∧ H1 = H) I ⟨.ref f, hs, rfl, rfl⟩) fun u s1 ⟨v, H1, I1, r1, q1⟩ => ?_)
  obtain ⟨rfl, rfl⟩ := q1
  obtain rfl : u = Value.ref f := r1
  refine PySem.W.callWith_F (first := []) (fat I1 C0) (thn (ha.run pos pins s1 σ _ _ I1 ht) fun us s2 ⟨vs, H2, I2, r, C2, q⟩ => ⟨fat I2 C2, ?_⟩) he hpl
  show wpAny _ _ (call (.ref f) us) _ _ _
  refine wpAny_call (codeAny_mono (C2.run H2 (Kp.refl _) X.A X.stack s2 us vs Q E0 (hr.mono hj) I2.env0 r q) fun r s' hq => ?_)
  cases r with
  | error e => exact False.elim hq
  | ok fl =>
    cases fl with
    | ret u => exact I2.after hq
    | next => exact False.elim hq
    | brk => exact False.elim hq
    | cont => exact False.elim hq
/-- g(e, ..), a def that is handed a lambda of this frame: the lambda's cells are locked meanwhile -/
def tCallClo (cl : List (Str × Addr)) (fr : List Str) (js : List Nat) (sp : Sp) (t : TA) : TE := fun σ H Q => t σ H fun vs H1 => ∀ H2 : Hp, (∀ b, b ∈ cl.map (·.2) → H1 b = none) → (∀ b, b ∉ cl.map (·.2) → H2 b = H1 b) → CellsH cl fr (js.map (NdefX.slotAt σ)) H2 →
  sp vs H2 (fun v H3 => Q v (unl (cl.map (·.2)) H3)) E0
theorem pe_callClo {ps : List Str} {sp : Sp} {cl : List (Str × Addr)} {fr : List Str} {js : List Nat} (G : Good X.prog X.w X.K X.mg X.base j x ps sp) (hr : Room k X.A) (hfn : ∀ y, X.fn y = true) (cp : X.Ok → NdefX.Caps X cl fr js) (nd : ∀ p ∈ cl, cl.lookup p.1 = some p.2)
    (ha : PA X (e :: es) t) (hj : j ≤ k := by decide) (hg : Gl X x := by rfl) (hdb : (x == ("__debug__" : Str)) = false := by decide +kernel)
    (he : starEach (e :: es) X.env = (false, eval e X.env) :: starEach es X.env := by rfl) (hpl : (backTo pos (starEach es X.env)).any (·.1) = false := by rfl) : PE X (.Call (.Name x p) (e :: es) [] pos) (tCallClo cl fr js sp t) := by
  obtain ⟨fd, F, hm, kpi, bd⟩ := G
  constructor
  intro pins s σ H Q I h
  refine wpAny_Call_Name_kw (ld_glob I hg hm ?_ hdb)
  refine PySem.W.callWith_K (h₀ := X.base) I.ok.mod.kin kpi (thn (ha.run pos pins s σ H _ I h) fun us s1 ⟨vs, H1, I1, r, q⟩ => ⟨I1.kIn, ?_⟩) he hpl
  have CA := NdefX.cells_of I1 (cp I1.ok)
  generalize hcs : cl.map (·.2) = cs at q
  have inC : ∀ {b}, b ∈ cs → ∃ y, cl.lookup y = some b := fun {b} hb => by
    rw [← hcs] at hb
    exact mem_cs nd hb
  have inN : ∀ {b}, b ∈ cs → H1 b = none := fun {b} hb => by
    obtain ⟨y, hy⟩ := inC hb
    exact (CA.all y b hy).1
  have inO : ∀ {b}, b ∈ cs → ∃ (o : Obj) (v : Option Value), s1.heap.get? b = some o ∧ o.data = .cell v := fun {b} hb => by
    obtain ⟨y, hy⟩ := inC hb
    obtain ⟨v, o, h1, h2⟩ := (CA.all y b hy).2
    exact ⟨o, v, h1, h2⟩
  have inH : ∀ {b}, b ∈ cs → X.s_0.heap.objs.size ≤ b := fun {b} hb => by
    obtain ⟨y, hy⟩ := inC hb
    exact I1.ok.cab y b (hfn y) ((cp I1.ok).sub y b hy)
  let H2 : Hp := fun b => if b ∈ cs then (match s1.heap.get? b with | some o => some (.frz o (.own 0)) | none => none) else H1 b
  have H2in : ∀ {b o}, b ∈ cs → s1.heap.get? b = some o → H2 b = some (.frz o (.own 0)) := fun {b o} hb ho => by
    show (if b ∈ cs then _ else _) = _
    rw [if_pos hb, ho]
  have H2out : ∀ {b}, b ∉ cs → H2 b = H1 b := fun {b} hb => if_neg hb
  have e1 : Env0 X.prog X.w X.K X.mg X.base X.A X.stack s1 H2 := by
    have e0 := I1.env0
    refine ⟨e0.frames, e0.mod, fun b o z => ⟨(e0.bs b o z).1, ?_⟩, e0.bsz, e0.funs, fun b z => ?_, fun b u z => ?_, e0.bare⟩
    · rw [H2out fun hb => ?_]
      · exact (e0.bs b o z).2
      · have h1 := inH hb
        have h2 := Nat.lt_of_lt_of_le (Heap.lt_size z) I1.ok.bsz
        exact absurd (Nat.lt_of_lt_of_le h2 h1) (Nat.lt_irrefl _)
    · rw [H2out fun hb => ?_]
      · exact e0.frf b z
      · rcases List.mem_cons.mp (I1.stkSub b z) with y | y
        · obtain ⟨y', hy'⟩ := inC hb
          exact I1.cne y' b ((cp I1.ok).sub y' b hy') y
        · obtain ⟨_, o, ho, _⟩ := I1.ok.funs.mem y
          have h1 := inH hb
          have h2 := Heap.lt_size ho
          exact absurd (Nat.lt_of_lt_of_le h2 h1) (Nat.lt_irrefl _)
    · by_cases hb : b ∈ cs
      · obtain ⟨o, v, h1, h2⟩ := inO hb
        rw [H2in hb h1] at z
        cases z
        exact ⟨h1, o, h1⟩
      · rw [H2out hb] at z
        refine (e0.hok b u z).stay (fun c v _ y => y) (fun c y => ?_) fun c xs y => ?_
        · rw [H2out fun hc => ?_]
          · exact y
          · rw [inN hc] at y
            cases y
        · rw [H2out fun hc => ?_]
          · exact y
          · rw [inN hc] at y
            cases y
  have CH : CellsH cl fr (js.map (NdefX.slotAt σ)) H2 := by
    have mem : ∀ {y c}, cl.lookup y = some c → c ∈ cs := fun {y c} h => by
      rw [← hcs]
      exact List.mem_map.mpr ⟨(y, c), PySem.mem_of_lookup h, rfl⟩
    refine ⟨CA.len, fun y c hy => ?_, CA.inj, fun i y hy => ?_⟩
    · obtain ⟨o, v, h1, h2⟩ := inO (mem hy)
      exact ⟨o, v, H2in (mem hy) h1, h2⟩
    · obtain ⟨c, h1, h2⟩ := CA.has i y hy
      refine ⟨c, h1, fun v hv => ?_⟩
      obtain ⟨u, ru, o, ho, hd⟩ := h2 v hv
      exact ⟨o, u, H2in (mem h1) ho, ru, hd⟩
  have hsp := q H2 (fun b hb => inN hb) (fun b hb => H2out hb) CH
  have r2 : Vals (vs ++ []) (us ++ []) := r.append .nil
  have hl : (us ++ []).length = ps.length := by
    rw [← r2.length, List.append_nil]
    exact F.len _ _ _ _ hsp
  show wpAny _ _ (call (.ref _) us) _ _ _
  refine wpAny_call (codeAny_mono (F.run X.A X.stack s1 H2 ⟨us, []⟩ (us ++ []) (vs ++ []) _ E0 (hr.mono hj) e1 (bd s1 us I1.kIn hl) r2 (by rw [List.append_nil]; exact hsp)) fun r s' hq => ?_)
  cases r with
  | error e => exact False.elim hq
  | ok fl =>
    cases fl with
    | next => exact False.elim hq
    | brk => exact False.elim hq
    | cont => exact False.elim hq
    | ret u =>
      refine I1.after ?_
      obtain ⟨v, H3, os, bare, un, hok, rv, q3⟩ := hq
      have fz : ∀ {b}, b ∈ cs → ∃ o, s1.heap.get? b = some o ∧ H3 b = some (.frz o (.own 0)) ∧ s'.heap.get? b = some o := fun {b} hb => by
        obtain ⟨o, v, h1, h2⟩ := inO hb
        have h3 := un.frzs b o _ (H2in hb h1)
        exact ⟨o, h1, h3, (hok b _ h3).1⟩
      have nz : ∀ {b u}, H1 b = some u → b ∉ cs := fun {b u} z hb => by
        rw [inN hb] at z
        cases z
      refine ⟨v, unl cs H3, os, bare, ⟨fun b o z n hb hx => ?_, fun b o z n hb hx => ?_, fun b o z n hx => ?_, un.there, fun b xs z => ?_, fun b o u z => ?_, fun b ps z => ?_⟩, fun b u z => ?_, rv, q3⟩
      · by_cases hm : b ∈ cs
        · obtain ⟨o', h1, _, h2⟩ := fz hm
          rw [z] at h1
          cases h1
          exact h2
        · exact un.keep b o z (by rw [H2out hm]; exact n) hb hx
      · by_cases hm : b ∈ cs
        · obtain ⟨o', h1, _, h2⟩ := fz hm
          rw [z] at h1
          cases h1
          exact ⟨o.slots, h2⟩
        · exact un.slot b o z (by rw [H2out hm]; exact n) hb hx
      · by_cases hm : b ∈ cs
        · exact unl_in hm
        · rw [unl_out hm]
          exact un.free b o z (by rw [H2out hm]; exact n) hx
      · have hm := nz z
        rw [unl_out hm]
        exact un.tups b xs (by rw [H2out hm]; exact z)
      · have hm := nz z
        rw [unl_out hm]
        exact un.frzs b o u (by rw [H2out hm]; exact z)
      · have hm := nz z
        rw [unl_out hm]
        exact un.tbls b ps (by rw [H2out hm]; exact z)
      · by_cases hm : b ∈ cs
        · rw [unl_in hm] at z
          cases z
        · rw [unl_out hm] at z
          have nf : ∀ {c u}, c ∈ cs → H3 c = some u → (∀ o, u ≠ .frz o (.own 0)) → False := fun {c u} hc h3 n => by
            obtain ⟨o, _, h4, _⟩ := fz hc
            rw [h4] at h3
            exact n o (Option.some.inj h3).symm
          refine (hok b u z).stay (fun c v _ y => y) (fun c y => ?_) fun c xs y => ?_
          · rw [unl_out fun hc => nf hc y fun o w => by cases w]
            exact y
          · rw [unl_out fun hc => nf hc y fun o w => by cases w]
            exact y
end
end K84
set_option Elab.async false
set_option linter.all false
set_option maxRecDepth 100000
set_option maxHeartbeats 4000000
/-! Carpet: made, its methods -/
namespace K84
open PySem PySem.Spec PyProof.Rows L2
/-- a statement, then what follows from what stands behind it -/
def tMid (t u : TS) : TS := fun D σ H => ∃ Mid : L2.St → Hp → Prop, t { D with nx := Mid } σ H ∧ ∀ σ' H', Mid σ' H' → u D σ' H'
theorem pss_mid {X : Cx} {st : Stmt} {rest : List Stmt} {t u : TS} (h1 : PS X st t) (h2 : PSs X rest u) : PSs X (st :: rest) (tMid t u) := C8.pss_cut h1 h2
theorem lk_same {f : Str} {v : V} {fs : List (Str × V)} : (putF f v fs).lookup f = some v := by rw [lookup_putF, if_pos rfl]
theorem lk_ne {f g : Str} {v : V} {fs : List (Str × V)} {x : Option V} (h : ¬ g = f) (e : fs.lookup g = x) : (putF f v fs).lookup g = x := by rw [lookup_putF, if_neg h, e]
def carF3 (a b d : Int) : List (Str × V) := putF "d" (.int d) (putF "b" (.int b) (putF "a" (.int a) []))
def carF4 (a b d : Int) (r : Addr) : List (Str × V) := putF "rows" (.ref r) (carF3 a b d)
def carF5 (a b d : Int) (r l : Addr) : List (Str × V) := putF "basis" (.ref l) (carF4 a b d r)
def carF (a b d : Int) (r l sh : Addr) : List (Str × V) := putF "shape" (.ref sh) (carF5 a b d r l)
section
variable {a b d : Int} {r l sh : Addr}
theorem carF3_len : (carF3 a b d).length < 999 := putF_lt (putF_lt (putF_lt (by show 0 < 996; decide)))
theorem carF4_rows : (carF4 a b d r).lookup ("rows" : Str) = some (V.ref r) := lk_same
theorem carF5_rows : (carF5 a b d r l).lookup ("rows" : Str) = some (V.ref r) := lk_ne (by decide +kernel) lk_same
theorem carF5_basis : (carF5 a b d r l).lookup ("basis" : Str) = some (V.ref l) := lk_same
theorem carF_a : (carF a b d r l sh).lookup ("a" : Str) = some (V.int a) := lk_ne (by decide +kernel) (lk_ne (by decide +kernel) (lk_ne (by decide +kernel) (lk_ne (by decide +kernel) (lk_ne (by decide +kernel) lk_same))))
theorem carF_b : (carF a b d r l sh).lookup ("b" : Str) = some (V.int b) := lk_ne (by decide +kernel) (lk_ne (by decide +kernel) (lk_ne (by decide +kernel) (lk_ne (by decide +kernel) lk_same)))
theorem carF_d : (carF a b d r l sh).lookup ("d" : Str) = some (V.int d) := lk_ne (by decide +kernel) (lk_ne (by decide +kernel) (lk_ne (by decide +kernel) lk_same))
theorem carF_rows : (carF a b d r l sh).lookup ("rows" : Str) = some (V.ref r) := lk_ne (by decide +kernel) (lk_ne (by decide +kernel) lk_same)
theorem carF_basis : (carF a b d r l sh).lookup ("basis" : Str) = some (V.ref l) := lk_ne (by decide +kernel) lk_same
theorem carF_shape : (carF a b d r l sh).lookup ("shape" : Str) = some (V.ref sh) := lk_same
theorem carF_no {m : Str} (h : ¬ m = "a" ∧ ¬ m = "b" ∧ ¬ m = "d" ∧ ¬ m = "rows" ∧ ¬ m = "basis" ∧ ¬ m = "shape") : (carF a b d r l sh).lookup m = none :=
  lk_ne h.2.2.2.2.2 (lk_ne h.2.2.2.2.1 (lk_ne h.2.2.2.1 (lk_ne h.2.2.1 (lk_ne h.2.1 (lk_ne h.1 rfl)))))
end
/-- the tuple at sh is the normal form of f -/
def FormAt (H : Hp) (sh : Addr) (f : Int → Int → Nat) (A B D : Int) : Prop := ∃ rn, H sh = some (.tup [.int A, .int B, .int D, .ref rn]) ∧ H rn = some (.tup ((rowsS f A.toNat D.toNat).map V.str))
theorem FormAt.kp {H H' : Hp} {sh : Addr} {f : Int → Int → Nat} {A B D : Int} (h : FormAt H sh f A B D) (e : Kp H H') : FormAt H' sh f A B D := let ⟨rn, h1, h2⟩ := h; ⟨rn, e.tup h1, e.tup h2⟩
/-- a Carpet stands at p, of the colours f (by codes), (A, B, D) its least lattice; told by (a, b, d) and rows -/
structure CarO (K : PySem.W.Frag) (H : Hp) (p : Addr) (f : Int → Int → Nat) (A B D a b d : Int) (rows : List Str) : Prop where
  ob : ∃ dx r l sh, H p = some (.ins (CC K) dx (carF a b d r l sh)) ∧ SqT K H r (rows.map V.str) ∧ LatAt K H l A B D ∧ FormAt H sh f A B D
  ba : Bas a b d
  sz : a * d ≤ 144
  ro : RowsOk a d rows
  ef : colr a b d rows = f
  le : LeastOf f A B D
  dA : A ∣ a
  dD : D ∣ d
def CarAt (K : PySem.W.Frag) (H : Hp) (p : Addr) (f : Int → Int → Nat) (A B D : Int) : Prop := ∃ a b d rows, CarO K H p f A B D a b d rows
theorem CarO.kp {K : PySem.W.Frag} {H H' : Hp} {p : Addr} {f : Int → Int → Nat} {A B D a b d : Int} {rows : List Str} (h : CarO K H p f A B D a b d rows) (e : Kp H H') : CarO K H' p f A B D a b d rows := by
  obtain ⟨dx, r, l, sh, h1, h2, h3, h4⟩ := h.ob
  exact ⟨⟨dx, r, l, sh, e.ins h1, e.sqT h2, e.lat h3, h4.kp e⟩, h.ba, h.sz, h.ro, h.ef, h.le, h.dA, h.dD⟩
theorem CarAt.kp {K : PySem.W.Frag} {H H' : Hp} {p : Addr} {f : Int → Int → Nat} {A B D : Int} (h : CarAt K H p f A B D) (e : Kp H H') : CarAt K H' p f A B D := let ⟨a, b, d, rows, h⟩ := h; ⟨a, b, d, rows, h.kp e⟩
theorem bas_small {a b d : Int} (h : Bas a b d) (hs : a * d ≤ 144) : BasS a b d := by
  obtain ⟨h1, h2, h3, h4⟩ := id h
  refine ⟨h, ?_, ?_⟩
  · have : a * 1 ≤ a * d := Int.mul_le_mul_of_nonneg_left h4 (by omega)
    omega
  · have : 1 * d ≤ a * d := Int.mul_le_mul_of_nonneg_right h1 (by omega)
    omega
theorem CarO.least_sz {K : PySem.W.Frag} {H : Hp} {p : Addr} {f : Int → Int → Nat} {A B D a b d : Int} {rows : List Str} (h : CarO K H p f A B D a b d rows) : A * D ≤ 144 := by
  obtain ⟨h1, h2, h3, h4⟩ := h.ba
  obtain ⟨g1, g2, g3, g4⟩ := h.le.1
  have e1 := Int.le_of_dvd (by omega) h.dA
  have e2 := Int.le_of_dvd (by omega) h.dD
  have e3 : A * D ≤ a * D := Int.mul_le_mul_of_nonneg_right e1 (by omega)
  have e4 : a * D ≤ a * d := Int.mul_le_mul_of_nonneg_left e2 (by omega)
  have := h.sz
  omega
section
variable {P : Program} {w : World} {K : PySem.W.Frag} {mg : Str → Option Value} {base : Heap}
def spCarInit (K : PySem.W.Frag) : Sp := fun vs H Q _ => ∃ p dx r a b d rows, vs = [.ref p, .int a, .int b, .int d, .ref r] ∧ H p = some (.ins (CC K) dx []) ∧ (H r = some (.lst (rows.map V.str)) ∨ SqT K H r (rows.map V.str)) ∧ Bas a b d ∧ a * d ≤ 144 ∧ RowsOk a d rows ∧
  ∀ H' A B D, (∀ b o, H b = some o → b ≠ p → H' b = some o) → CarO K H' p (colr a b d rows) A B D a b d rows → Q .non H'
theorem sc_ci : FnScope ["self", "a", "b", "d", "rows", "told"] ["self", "a", "b", "d", "rows"] d_Carpet___init__.scope := ⟨rfl, rfl, rfl, by decide +kernel, rfl, by decide +kernel, by decide +kernel⟩
theorem sqT_but {H H' : Hp} {p r : Addr} {xs : List V} {o : HO} (h : SqT K H r xs) (e : ∀ b u, H b = some u → b ≠ p → H' b = some u) (hp : H p = some o) (n1 : o ≠ .tup xs) (n2 : ∀ z, o ≠ .frz z (.tup xs)) : SqT K H' r xs := by
  rcases h with (h | ⟨z, h⟩) | h
  · exact .inl (.inl (e _ _ h (ne_of h hp n1.symm)))
  · exact .inl (.inr ⟨z, e _ _ h (ne_of h hp (n2 z).symm)⟩)
  · exact .inr h
theorem ok_car_init (T : Txt w K mg) : GoodM P w K mg base 9 "Carpet" "__init__" ["self", "a", "b", "d", "rows"] (spCarInit K) := by
  refine goodM_mk (d := d_Carpet___init__) T.d_Carpet___init__ rfl rfl sc_ci
    (fun _ _ _ _ _ _ us hl => match us, hl with | [_, _, _, _, _], _ => rfl) (fun vs H Q E h => ?_) (fun f cdv Ar outer s H vs Q E hr h => ?_)
  · obtain ⟨p, dx, r, a, b, d, rows, rfl, _⟩ := h
    rfl
  · obtain ⟨p, dx, r, a, b, d, rows, rfl, hp, hrw, hb, hs, hro, q⟩ := h
    have nd := sc_ci.nd
    obtain ⟨fd, FI, bI⟩ := ok_lat_init (P := P) (w := w) (base := base) (mg := mg) T
    have hbs := bas_small hb hs
    obtain ⟨⟨h1, h2, h3, h4⟩, h5, h6⟩ := id hbs
    refine ⟨_, (pss_cons (ps_expr (pe_fn (ok_check_basis T) hr (pa_cons (pv 1) (pa_cons (pv 2) (pa_cons (pv 3) pa_nil)))))
      (pss_cons (ps_expr (pe_fn (ok_check_size T) hr (pa_cons (pe_op op_mul (pv 1) (pv 3)) pa_nil)))
      (pss_cons (ps_expr (pe_fn (ok_check_rows T) hr (pa_cons (pv 4) (pa_cons (pv 1) (pa_cons (pv 3) pa_nil)))))
      (pss_cons (ps_fld (pv 0) (pv 1) rfl)
      (pss_cons (ps_fld (pv 0) (pv 2) rfl)
      (pss_cons (ps_fld (pv 0) (pv 3) rfl)
      (pss_mid (ps_fld (pv 0) (pe_callTy call_tuple_of (by rfl) T.f_tuple b_tuple (pa_cons (pv 4) pa_nil)) rfl)
      (pss_cons (ps_set (i := 5) nd rfl (Or.inl rfl) (pe_make T.mk_Lattice FI (hr.mono (by decide)) (by rfl) T.g_Lattice bI .nil pass0 (pa_cons (pv 1) (pa_cons (pv 2) (pa_cons (pv 3) pa_nil)))))
      (pss_cons (ps_fld (pv 0) (pe_fn (ok_least_lattice T) hr (pa_cons (pv 5) (pa_cons (pe_fld (pv 0) rfl) pa_nil))) rfl)
      (pss_one (ps_fld (pv 0) (pe_tup (pa_cons (pe_fld (pe_fld (pv 0) rfl) rfl) (pa_cons (pe_fld (pe_fld (pv 0) rfl) rfl) (pa_cons (pe_fld (pe_fld (pv 0) rfl) rfl) (pa_cons (pe_fn (ok_normal_rows T) hr (pa_cons (pv 5) (pa_cons (pe_fld (pv 0) rfl) (pa_cons (pe_fld (pv 0) rfl) pa_nil)))) pa_nil))))) rfl))))))))))), ?_⟩
    refine ⟨_, rfl, _, rfl, _, rfl, _, _, _, rfl, hb, ?_⟩
    refine ⟨_, rfl, _, rfl, _, _, rfl, rfl, .inl (small64 (by omega) h5), _, rfl, hs, ?_⟩
    refine ⟨_, rfl, _, rfl, _, rfl, r, rows, a, d, rfl, hrw, hro, h5, h6, fun H1 e1 => ?_⟩
    refine ⟨_, rfl, _, rfl, p, _, dx, _, rfl, e1 _ _ hp, T.c_Carpet, T.n_Carpet_a, (by show 0 < 1000; decide), ?_⟩
    refine ⟨_, rfl, _, rfl, p, _, dx, _, rfl, upd_same, T.c_Carpet, T.n_Carpet_b, putF_lt (by show 0 < 999; decide), ?_⟩
    refine ⟨_, rfl, _, rfl, p, _, dx, _, rfl, upd_same, T.c_Carpet, T.n_Carpet_d, putF_lt (putF_lt (by show 0 < 998; decide)), ?_⟩
    rw [upd_upd, upd_upd]
    have hrw1 : H1 r = some (.lst (rows.map V.str)) ∨ SqT K H1 r (rows.map V.str) := hrw.elim (fun z => .inl (e1 _ _ z)) fun z => .inr (sqT_same e1 z)
    have k1 : ∀ c0 o, H1 c0 = some o → c0 ≠ p → (upd H1 p (.ins (CC K) dx (carF3 a b d))) c0 = some o := fun c0 o z n => by rw [upd_ne n]; exact z
    -- self.rows
    refine ⟨fun σ' H' => ∃ r', σ' = [some (.ref p), some (.int a), some (.int b), some (.int d), some (.ref r), none] ∧ H' p = some (.ins (CC K) dx (carF4 a b d r')) ∧ SqT K H' r' (rows.map V.str) ∧ ∀ b o, H1 b = some o → b ≠ p → H' b = some o, ?_, ?_⟩
    · rcases hrw1 with z | z
      · have nrp : r ≠ p := ne_of z (e1 _ _ hp) (by intro y; cases y)
        refine ⟨_, rfl, r, _, rfl, .inl ⟨SqL.of (k1 _ _ z nrp), fun r' hr' => ?_⟩⟩
        have npr : p ≠ r' := fun y => by rw [← y, upd_same] at hr'; cases hr'
        refine ⟨_, rfl, p, _, dx, _, rfl, ((upd_ne npr).trans upd_same : _ = some (HO.ins (CC K) dx (carF3 a b d))), T.c_Carpet, T.n_Carpet_rows, Nat.lt_succ_of_lt carF3_len, r', rfl, upd_same, SqT.of ((upd_ne npr.symm).trans upd_same), fun c0 o y n => ?_⟩
        rw [upd_ne n, upd_ne (fun y' => by rw [← y', upd_ne n] at hr'; rw [hr'] at y; cases y), upd_ne n]
        exact y
      · have z2 := sqT_but z k1 (e1 _ _ hp) (by intro y; cases y) (by intro _ y; cases y)
        refine ⟨_, rfl, r, _, rfl, .inr ⟨z2, ?_⟩⟩
        refine ⟨_, rfl, p, _, dx, _, rfl, (upd_same : _ = some (HO.ins (CC K) dx (carF3 a b d))), T.c_Carpet, T.n_Carpet_rows, Nat.lt_succ_of_lt carF3_len, r, rfl, upd_same, ?_, fun c0 o y n => ?_⟩
        · exact sqT_but z2 (H' := upd (upd H1 p (.ins (CC K) dx (carF3 a b d))) p (.ins (CC K) dx (carF4 a b d r))) (fun c0 u y n => by rw [upd_ne n]; exact y) upd_same (by intro y; cases y) (by intro _ y; cases y)
        · rw [upd_ne n, upd_ne n]
          exact y
    · rintro σ' H2 ⟨r', rfl, hp2, hr2, k2⟩
      refine ⟨_, rfl, _, rfl, _, rfl, ?_⟩
      intro l dl nl ndl nel
      refine ⟨l, dl, _, _, _, rfl, upd_same, hb, rfl, ?_⟩
      have e3 := made (o0 := .own l) (o1 := .ins (CL K) dl []) (o2 := .ins (CL K) dl (latF a b d)) nl ndl
      have told : ToldAt K _ l r' a b d rows := ⟨⟨dl, upd_same⟩, sqT_same e3 hr2, hbs, hro⟩
      refine ⟨_, rfl, _, rfl, p, _, dx, _, _, rfl, e3 _ _ hp2, T.c_Carpet, T.n_Carpet_rows, carF4_rows, l, r', a, b, d, rows, rfl, told, fun l2 H4 A B D e4 hl2 hle dA dD => ?_⟩
      have hp4 := e4 _ _ (e3 _ _ hp2)
      refine ⟨_, rfl, p, _, dx, _, rfl, hp4, T.c_Carpet, T.n_Carpet_basis, ?_, ?_⟩
      · exact Nat.lt_of_le_of_lt (putF_len _ _ _) (by have := carF3_len (a := a) (b := b) (d := d); omega)
      · have k5 : ∀ c0 o, H4 c0 = some o → c0 ≠ p → (upd H4 p (.ins (CC K) dx (carF5 a b d r' l2))) c0 = some o := fun c0 o z n => by rw [upd_ne n]; exact z
        obtain ⟨dx2, hl2'⟩ := id hl2
        have nlp : l2 ≠ p := fun y => by
          rw [y, hp4] at hl2'
          injection hl2' with z
          injection z with z1 z2 z3
          have := congrArg (fun fs => List.lookup ("rows" : Str) fs) z3
          rw [show List.lookup ("rows" : Str) (carF4 a b d r') = some (V.ref r') from carF4_rows, show List.lookup ("rows" : Str) (latF A B D) = none from latF_no _ _ _ (by decide +kernel) (by decide +kernel) (by decide +kernel)] at this
          cases this
        have hl5 := k5 _ _ hl2' nlp
        refine ⟨_, rfl, p, _, dx, _, _, rfl, (upd_same : _ = some (HO.ins (CC K) dx (carF5 a b d r' l2))), T.c_Carpet, T.n_Carpet_basis, carF5_basis, l2, _, dx2, _, _, rfl, hl5, T.c_Lattice, T.n_Lattice_a, latF_a _ _ _, ?_⟩
        refine ⟨_, rfl, p, _, dx, _, _, rfl, (upd_same : _ = some (HO.ins (CC K) dx (carF5 a b d r' l2))), T.c_Carpet, T.n_Carpet_basis, carF5_basis, l2, _, dx2, _, _, rfl, hl5, T.c_Lattice, T.n_Lattice_b, latF_b _ _ _, ?_⟩
        refine ⟨_, rfl, p, _, dx, _, _, rfl, (upd_same : _ = some (HO.ins (CC K) dx (carF5 a b d r' l2))), T.c_Carpet, T.n_Carpet_basis, carF5_basis, l2, _, dx2, _, _, rfl, hl5, T.c_Lattice, T.n_Lattice_d, latF_d _ _ _, ?_⟩
        have told4 := told.same e4
        obtain ⟨dx1, hl1⟩ := told4.1
        have nl1p : l ≠ p := fun y => by
          rw [y, hp4] at hl1
          injection hl1 with z
          injection z with z1 z2 z3
          have := congrArg (fun fs => List.lookup ("rows" : Str) fs) z3
          rw [show List.lookup ("rows" : Str) (carF4 a b d r') = some (V.ref r') from carF4_rows, show List.lookup ("rows" : Str) (latF a b d) = none from latF_no _ _ _ (by decide +kernel) (by decide +kernel) (by decide +kernel)] at this
          cases this
        have told5 : ToldAt K (upd H4 p (.ins (CC K) dx (carF5 a b d r' l2))) l r' a b d rows := ⟨⟨dx1, k5 _ _ hl1 nl1p⟩, sqT_but told4.2.1 k5 hp4 (by intro y; cases y) (by intro _ y; cases y), told4.2.2⟩
        have szA : BasS A B D := by
          obtain ⟨g1, g2, g3, g4⟩ := id hle.1
          have e1 := Int.le_of_dvd (by omega) dA
          have e2 := Int.le_of_dvd (by omega) dD
          exact ⟨hle.1, by omega, by omega⟩
        refine ⟨_, rfl, _, rfl, p, _, dx, _, _, rfl, (upd_same : _ = some (HO.ins (CC K) dx (carF5 a b d r' l2))), T.c_Carpet, T.n_Carpet_rows, carF5_rows, _, rfl, p, _, dx, _, _, rfl, (upd_same : _ = some (HO.ins (CC K) dx (carF5 a b d r' l2))), T.c_Carpet, T.n_Carpet_basis, carF5_basis,
          l, r', l2, a, b, d, rows, A, B, D, rfl, told5, ⟨dx2, hl5⟩, szA, fun rn H6 e6 hrn => ?_⟩
        refine ⟨(by show 4 ≤ sizeLine; decide), fun sh hsh => ?_⟩
        have hp6 : H6 p = some (.ins (CC K) dx (carF5 a b d r' l2)) := e6 _ _ upd_same
        have npsh : p ≠ sh := ne_of_none hp6 hsh
        refine ⟨_, rfl, p, _, dx, _, rfl, (upd_ne npsh).trans hp6, T.c_Carpet, T.n_Carpet_shape, ?_, ?_⟩
        · have g3 := carF3_len (a := a) (b := b) (d := d)
          have g4 := putF_len "rows" (.ref r') (carF3 a b d)
          have g5 := putF_len "basis" (.ref l2) (carF4 a b d r')
          show (putF "basis" (.ref l2) (carF4 a b d r')).length < 1000
          have g6 : (carF3 a b d).length ≤ 3 := Nat.le_of_lt_succ (putF_lt (putF_lt (putF_lt (by show 0 < 1; decide))))
          have g7 : (carF4 a b d r').length ≤ 4 := Nat.le_trans g4 (by omega)
          omega
        · have k7 : ∀ c0 o, H6 c0 = some o → c0 ≠ p → (upd (upd H6 sh (.tup [.int A, .int B, .int D, .ref rn])) p (.ins (CC K) dx (carF a b d r' l2 sh))) c0 = some o := fun c0 o z n => by
            rw [upd_ne n, upd_ne (ne_of_none z hsh)]
            exact z
          refine q _ A B D (fun c0 o z n => ?_) ⟨⟨dx, r', l2, sh, upd_same, ?_, ⟨dx2, k7 _ _ (e6 _ _ hl5) nlp⟩, rn, ?_, ?_⟩, hb, hs, hro, rfl, hle, dA, dD⟩
          · exact k7 _ _ (e6 _ _ (k5 _ _ (e4 _ _ (e3 _ _ (k2 _ _ (e1 _ _ z) n))) n)) n
          · exact sqT_but (sqT_same e6 told5.2.1) k7 hp6 (by intro y; cases y) (by intro _ y; cases y)
          · rw [upd_ne npsh.symm, upd_same]
          · exact k7 _ _ hrn (ne_of hrn hp6 (by intro y; cases y))
end
end K84
set_option Elab.async false
set_option linter.all false
set_option maxRecDepth 100000
set_option maxHeartbeats 4000000
/-! the eight turns -/
namespace K84
open PySem
inductive Tn where
  | stay | left | back | right | mirror | flip | swap | cross
  deriving DecidableEq
def Tn.str : Tn → Str
  | .stay => "stay" | .left => "left" | .back => "back" | .right => "right" | .mirror => "mirror" | .flip => "flip" | .swap => "swap" | .cross => "cross"
def Tn.mat : Tn → List Int
  | .stay => [1, 0, 0, 1] | .left => [0, -1, 1, 0] | .back => [-1, 0, 0, -1] | .right => [0, 1, -1, 0] | .mirror => [-1, 0, 0, 1] | .flip => [1, 0, 0, -1] | .swap => [0, 1, 1, 0] | .cross => [0, -1, -1, 0]
def Tn.all : List Tn := [.stay, .left, .back, .right, .mirror, .flip, .swap, .cross]
def Tn.inv : Tn → Tn
  | .left => .right | .right => .left | t => t
/-- to where a turn leads -/
def Tn.lx : Tn → Int → Int → Int
  | .stay, x, _ => x | .left, _, y => -y | .back, x, _ => -x | .right, _, y => y | .mirror, x, _ => -x | .flip, x, _ => x | .swap, _, y => y | .cross, _, y => -y
def Tn.ly : Tn → Int → Int → Int
  | .stay, _, y => y | .left, x, _ => x | .back, _, y => -y | .right, x, _ => -x | .mirror, _, y => y | .flip, _, y => -y | .swap, x, _ => x | .cross, x, _ => -x
theorem Tn.mem_all (t : Tn) : t ∈ Tn.all := by cases t <;> decide
theorem Tn.mat_eq (t : Tn) (x y : Int) : ∃ a b c d : Int, t.mat = [a, b, c, d] ∧ a * x + b * y = t.lx x y ∧ c * x + d * y = t.ly x y ∧ (-1 ≤ a ∧ a ≤ 1) ∧ (-1 ≤ b ∧ b ≤ 1) ∧ (-1 ≤ c ∧ c ≤ 1) ∧ (-1 ≤ d ∧ d ≤ 1) := by
  cases t <;> exact ⟨_, _, _, _, rfl, by simp [Tn.lx], by simp [Tn.ly], by decide, by decide, by decide, by decide⟩
theorem Tn.lx_inv (t : Tn) (x y : Int) : t.lx (t.inv.lx x y) (t.inv.ly x y) = x := by cases t <;> simp [Tn.lx, Tn.ly, Tn.inv]
theorem Tn.ly_inv (t : Tn) (x y : Int) : t.ly (t.inv.lx x y) (t.inv.ly x y) = y := by cases t <;> simp [Tn.lx, Tn.ly, Tn.inv]
theorem Tn.inv_lx (t : Tn) (x y : Int) : t.inv.lx (t.lx x y) (t.ly x y) = x := by cases t <;> simp [Tn.lx, Tn.ly, Tn.inv]
theorem Tn.inv_ly (t : Tn) (x y : Int) : t.inv.ly (t.lx x y) (t.ly x y) = y := by cases t <;> simp [Tn.lx, Tn.ly, Tn.inv]
theorem Tn.lx_add (t : Tn) (x y u v : Int) : t.lx (x + u) (y + v) = t.lx x y + t.lx u v := by cases t <;> simp only [Tn.lx] <;> omega
theorem Tn.ly_add (t : Tn) (x y u v : Int) : t.ly (x + u) (y + v) = t.ly x y + t.ly u v := by cases t <;> simp only [Tn.ly] <;> omega
theorem Tn.lx_sub (t : Tn) (x y u v : Int) : t.lx (x - u) (y - v) = t.lx x y - t.lx u v := by cases t <;> simp only [Tn.lx] <;> omega
theorem Tn.ly_sub (t : Tn) (x y u v : Int) : t.ly (x - u) (y - v) = t.ly x y - t.ly u v := by cases t <;> simp only [Tn.ly] <;> omega
theorem Tn.str_inj {t u : Tn} (h : t.str = u.str) : t = u := by
  cases t <;> cases u <;> first | rfl | (exact absurd h (by decide +kernel))
/-- f moved: a turn, then a shift -/
def movd (t : Tn) (u v : Int) (f : Int → Int → Nat) : Int → Int → Nat := fun x y => f (t.inv.lx (x - u) (y - v)) (t.inv.ly (x - u) (y - v))
end K84
set_option Elab.async false
set_option linter.all false
set_option maxRecDepth 100000
set_option maxHeartbeats 4000000
/-! Carpet's methods; turns; Motion -/
namespace K84
open PySem PySem.Spec PyProof.Rows L2
theorem colr_range {a b d : Int} {rows : List Str} (h : Bas a b d) (hro : RowsOk a d rows) (x y : Int) : 48 ≤ colr a b d rows x y ∧ colr a b d rows x y ≤ 57 := by
  obtain ⟨h1, h2, h3, h4⟩ := h
  have n1 := Int.emod_nonneg y (show d ≠ 0 by omega)
  have l1 := Int.emod_lt_of_pos y (show 0 < d by omega)
  have n2 := Int.emod_nonneg (x - y / d * b) (show a ≠ 0 by omega)
  have l2 := Int.emod_lt_of_pos (x - y / d * b) (show 0 < a by omega)
  obtain ⟨_, r2m⟩ := row_at hro n1 l1
  obtain ⟨r3, r4⟩ := hro.each _ r2m
  unfold colr
  have hi : ((x - y / d * b) % a).toNat < (rows.getD (y % d).toNat Str.empty).cps.toList.length := by
    rw [Array.length_toList]
    omega
  rw [List.getD_eq_getElem?_getD (l := (rows.getD (y % d).toNat Str.empty).cps.toList), List.getElem?_eq_getElem hi]
  exact r4 _ (List.getElem_mem hi)
theorem CarO.range {K : PySem.W.Frag} {H : Hp} {p : Addr} {f : Int → Int → Nat} {A B D a b d : Int} {rows : List Str} (h : CarO K H p f A B D a b d rows) (x y : Int) : 48 ≤ f x y ∧ f x y ≤ 57 := by
  rw [← h.ef]
  exact colr_range h.ba h.ro x y
theorem rowsOk_of {f : Int → Int → Nat} (h : ∀ x y, 48 ≤ f x y ∧ f x y ≤ 57) {A D : Int} (hA : 0 ≤ A) (hD : 0 ≤ D) : RowsOk A D (rowsS f A.toNat D.toNat) := by
  refine ⟨?_, fun r hr => ?_⟩
  · unfold rowsS
    rw [List.length_map, List.length_range]
    omega
  · unfold rowsS at hr
    obtain ⟨j, _, rfl⟩ := List.mem_map.mp hr
    refine ⟨?_, fun c hc => ?_⟩
    · show (((List.range A.toNat).map fun i => f ((i : Nat) : Int) ((j : Nat) : Int)).toArray.size : Int) = A
      rw [List.size_toArray, List.length_map, List.length_range]
      omega
    · have hc : c ∈ (List.range A.toNat).map fun i => f ((i : Nat) : Int) ((j : Nat) : Int) := by simpa [rowS] using hc
      obtain ⟨i, _, rfl⟩ := List.mem_map.mp hc
      exact h _ _
theorem int_sg {c : Nat} (h1 : 48 ≤ c) (h2 : c ≤ 57) : PySem.intText? (sg c) = some ((c : Int) - 48) := by
  have : ∀ k : Fin 10, PySem.intText? (sg (48 + k.val)) = some (((48 + k.val : Nat) : Int) - 48) := by decide +kernel
  have e := this ⟨c - 48, by omega⟩
  simp only at e
  rw [show 48 + (c - 48) = c by omega] at e
  exact e
section
variable {P : Program} {w : World} {K : PySem.W.Frag} {mg : Str → Option Value} {base : Heap}
/-! ### Carpet(..) -/
theorem make_car {H : Hp} {Q : VK} {r : Addr} {a b d : Int} {rows : List Str} (hrw : H r = some (.lst (rows.map V.str)) ∨ SqT K H r (rows.map V.str)) (hb : Bas a b d) (hs : a * d ≤ 144) (hro : RowsOk a d rows)
    (k : ∀ x H' A B D, Same H H' → CarO K H' x (colr a b d rows) A B D a b d rows → Q (.ref x) H') :
    ∀ x dx, H x = none → H dx = none → dx ≠ x → spCarInit K (.ref x :: ([.int a, .int b, .int d, .ref r] ++ [])) (upd (upd H dx (.own x)) x (.ins (CC K) dx [])) (fun v H2 => v = .non ∧ Q (.ref x) H2) E0 := by
  intro x dx nx ndx nex
  have e : Same H (upd (upd H dx (.own x)) x (.ins (CC K) dx [])) := fun c o z => by
    rw [upd_ne (ne_of_none z nx), upd_ne (ne_of_none z ndx)]
    exact z
  refine ⟨x, dx, r, a, b, d, rows, rfl, upd_same, hrw.elim (fun z => .inl (e _ _ z)) (fun z => .inr (sqT_same e z)), hb, hs, hro, fun H' A B D e' c => ⟨rfl, k x H' A B D (fun c0 o z => e' c0 o (e _ _ z) (ne_of_none z nx)) c⟩⟩
/-! ### its methods -/
theorem ok_c_lattice (T : Txt w K mg) : GoodM P w K mg base 6 "Carpet" "lattice" ["self"] (fun vs H Q _ => ∃ p f A B D a b d rows, vs = [.ref p] ∧ CarO K H p f A B D a b d rows ∧ ∀ l H', Same H H' → LatAt K H' l a b d → Q (.ref l) H') := by
  refine goodM_mk (d := d_Carpet_lattice) (N := ["self"]) T.d_Carpet_lattice rfl rfl ⟨rfl, rfl, rfl, by decide +kernel, rfl, by decide +kernel, by decide +kernel⟩
    (fun _ _ _ _ _ _ us hl => match us, hl with | [_], _ => rfl) (fun vs H Q E h => ?_) (fun f cdv Ar outer s H vs Q E hr h => ?_)
  · obtain ⟨p, f, A, B, D, a, b, d, rows, rfl, _⟩ := h
    rfl
  · obtain ⟨p, f0, A, B, D, a, b, d, rows, rfl, c, q⟩ := h
    obtain ⟨dx, r, l, sh, h1, h2, h3, h4⟩ := c.ob
    obtain ⟨fd, FI, bI⟩ := ok_lat_init (P := P) (w := w) (base := base) (mg := mg) T
    refine ⟨_, (pss_one (ps_ret (pe_make T.mk_Lattice FI (hr.mono (by decide)) (by rfl) T.g_Lattice bI .nil pass0 (pa_cons (pe_fld (pv 0) rfl) (pa_cons (pe_fld (pv 0) rfl) (pa_cons (pe_fld (pv 0) rfl) pa_nil)))))), ?_⟩
    refine ⟨_, rfl, p, _, dx, _, _, rfl, h1, T.c_Carpet, T.n_Carpet_a, carF_a, _, rfl, p, _, dx, _, _, rfl, h1, T.c_Carpet, T.n_Carpet_b, carF_b, _, rfl, p, _, dx, _, _, rfl, h1, T.c_Carpet, T.n_Carpet_d, carF_d, ?_⟩
    intro x dx' nx ndx nex
    exact ⟨x, dx', _, _, _, rfl, upd_same, c.ba, rfl, q x _ (made nx ndx) ⟨dx', upd_same⟩⟩
theorem ok_c_sign (T : Txt w K mg) : GoodM P w K mg base 7 "Carpet" "sign" ["self", "cell"] (fun vs H Q _ => ∃ p c f A B D x y, vs = [.ref p, .ref c] ∧ CarAt K H p f A B D ∧ Pr K H c x y ∧ ∀ H', Same H H' → Q (.str (sg (f x y))) H') := by
  refine goodM_mk (d := d_Carpet_sign) (N := ["self", "cell"]) T.d_Carpet_sign rfl rfl ⟨rfl, rfl, rfl, by decide +kernel, rfl, by decide +kernel, by decide +kernel⟩
    (fun _ _ _ _ _ _ us hl => match us, hl with | [_, _], _ => rfl) (fun vs H Q E h => ?_) (fun f cdv Ar outer s H vs Q E hr h => ?_)
  · obtain ⟨p, c, f, A, B, D, x, y, rfl, _⟩ := h
    rfl
  · obtain ⟨p, c, f0, A, B, D, x, y, rfl, ⟨a, b, d, rows, co⟩, hp, q⟩ := h
    obtain ⟨dx, r, l, sh, h1, h2, h3, h4⟩ := co.ob
    refine ⟨_, (pss_one (ps_ret (pe_fn (ok_sign_at T) hr (pa_cons (pe_m0 (K := K) rfl (ok_c_lattice T) T.c_Carpet T.m_Carpet_lattice hr (pv 0)) (pa_cons (pe_fld (pv 0) rfl) (pa_cons (pv 1) pa_nil)))))), ?_⟩
    refine ⟨_, rfl, p, dx, _, rfl, h1, carF_no (by decide +kernel), p, f0, A, B, D, a, b, d, rows, rfl, co, fun l' H1 e1 hl' => ?_⟩
    refine ⟨_, rfl, p, _, dx, _, _, rfl, e1 _ _ h1, T.c_Carpet, T.n_Carpet_rows, carF_rows, _, rfl, l', r, c, a, b, d, rows, x, y, rfl, ⟨hl', sqT_same e1 h2, bas_small co.ba co.sz, co.ro⟩, sqT_same e1 hp, fun H2 e2 => ?_⟩
    rw [co.ef]
    exact q _ (e1.trans e2)
theorem ok_c_colour (T : Txt w K mg) : GoodM P w K mg base 8 "Carpet" "colour" ["self", "cell"] (fun vs H Q _ => ∃ p c f A B D x y, vs = [.ref p, .ref c] ∧ CarAt K H p f A B D ∧ Pr K H c x y ∧ ∀ H', Same H H' → Q (.int ((f x y : Int) - 48)) H') := by
  refine goodM_mk (d := d_Carpet_colour) (N := ["self", "cell"]) T.d_Carpet_colour rfl rfl ⟨rfl, rfl, rfl, by decide +kernel, rfl, by decide +kernel, by decide +kernel⟩
    (fun _ _ _ _ _ _ us hl => match us, hl with | [_, _], _ => rfl) (fun vs H Q E h => ?_) (fun f cdv Ar outer s H vs Q E hr h => ?_)
  · obtain ⟨p, c, f, A, B, D, x, y, rfl, _⟩ := h
    rfl
  · obtain ⟨p, c, f0, A, B, D, x, y, rfl, ca, hp, q⟩ := h
    obtain ⟨a, b, d, rows, co⟩ := id ca
    obtain ⟨dx, r, l, sh, h1, h2, h3, h4⟩ := co.ob
    refine ⟨_, (pss_cons (ps_expr (pe_fn (ok_check_cell T) hr (pa_cons (pv 1) pa_nil)))
      (pss_one (ps_ret (pe_callTy call_int_str (by rfl) T.f_int b_int (pa_cons (pe_m (K := K) rfl (ok_c_sign T) T.c_Carpet T.m_Carpet_sign hr (pv 0) (pa_cons (pv 1) pa_nil)) pa_nil))))), ?_⟩
    refine ⟨_, rfl, c, x, y, rfl, hp, _, rfl, p, dx, _, rfl, h1, carF_no (by decide +kernel), _, rfl, p, c, f0, A, B, D, x, y, rfl, ca, hp, fun H1 e1 => ?_⟩
    exact ⟨_, _, rfl, int_sg (co.range x y).1 (co.range x y).2, by show 1 ≤ 640; decide, q _ e1⟩
theorem ok_c_least (T : Txt w K mg) : GoodM P w K mg base 1 "Carpet" "least" ["self"] (fun vs H Q _ => ∃ p f A B D, vs = [.ref p] ∧ CarAt K H p f A B D ∧ ∀ l, LatAt K H l A B D → Q (.ref l) H) := by
  refine goodM_mk (d := d_Carpet_least) (N := ["self"]) T.d_Carpet_least rfl rfl ⟨rfl, rfl, rfl, by decide +kernel, rfl, by decide +kernel, by decide +kernel⟩
    (fun _ _ _ _ _ _ us hl => match us, hl with | [_], _ => rfl) (fun vs H Q E h => ?_) (fun f cdv Ar outer s H vs Q E hr h => ?_)
  · obtain ⟨p, f, A, B, D, rfl, _⟩ := h
    rfl
  · obtain ⟨p, f0, A, B, D, rfl, ⟨a, b, d, rows, co⟩, q⟩ := h
    obtain ⟨dx, r, l, sh, h1, h2, h3, h4⟩ := co.ob
    refine ⟨_, (pss_one (ps_ret (pe_fld (pv 0) rfl))), ?_⟩
    exact ⟨_, rfl, p, _, dx, _, _, rfl, h1, T.c_Carpet, T.n_Carpet_basis, carF_basis, q l h3⟩
theorem ok_c_normal (T : Txt w K mg) : GoodM P w K mg base 1 "Carpet" "normal" ["self"] (fun vs H Q _ => ∃ p f A B D, vs = [.ref p] ∧ CarAt K H p f A B D ∧ ∀ sh, FormAt H sh f A B D → Q (.ref sh) H) := by
  refine goodM_mk (d := d_Carpet_normal) (N := ["self"]) T.d_Carpet_normal rfl rfl ⟨rfl, rfl, rfl, by decide +kernel, rfl, by decide +kernel, by decide +kernel⟩
    (fun _ _ _ _ _ _ us hl => match us, hl with | [_], _ => rfl) (fun vs H Q E h => ?_) (fun f cdv Ar outer s H vs Q E hr h => ?_)
  · obtain ⟨p, f, A, B, D, rfl, _⟩ := h
    rfl
  · obtain ⟨p, f0, A, B, D, rfl, ⟨a, b, d, rows, co⟩, q⟩ := h
    obtain ⟨dx, r, l, sh, h1, h2, h3, h4⟩ := co.ob
    refine ⟨_, (pss_one (ps_ret (pe_fld (pv 0) rfl))), ?_⟩
    exact ⟨_, rfl, p, _, dx, _, _, rfl, h1, T.c_Carpet, T.n_Carpet_shape, carF_shape, q sh h4⟩
theorem sc_in : FnScope ["self", "a", "b", "d", "rows"] ["self"] d_Carpet_in_normal.scope := ⟨rfl, rfl, rfl, by decide +kernel, rfl, by decide +kernel, by decide +kernel⟩
/-- told by its normal form -/
abbrev CarN (K : PySem.W.Frag) (H : Hp) (p : Addr) (f : Int → Int → Nat) (A B D : Int) : Prop := CarO K H p f A B D A B D (rowsS f A.toNat D.toNat)
theorem ok_c_in_normal (T : Txt w K mg) : GoodM P w K mg base 11 "Carpet" "in_normal" ["self"] (fun vs H Q _ => ∃ p f A B D, vs = [.ref p] ∧ CarAt K H p f A B D ∧ ∀ p' H', Same H H' → CarN K H' p' f A B D → Q (.ref p') H') := by
  refine goodM_mk (d := d_Carpet_in_normal) T.d_Carpet_in_normal rfl rfl sc_in
    (fun _ _ _ _ _ _ us hl => match us, hl with | [_], _ => rfl) (fun vs H Q E h => ?_) (fun f cdv Ar outer s H vs Q E hr h => ?_)
  · obtain ⟨p, f, A, B, D, rfl, _⟩ := h
    rfl
  · obtain ⟨p, f0, A, B, D, rfl, ⟨a, b, d, rows, co⟩, q⟩ := h
    have nd := sc_in.nd
    obtain ⟨dx, r, l, sh, h1, h2, h3, h4⟩ := co.ob
    obtain ⟨rn, h5, h6⟩ := h4
    obtain ⟨fd, FI, bI⟩ := ok_car_init (P := P) (w := w) (base := base) (mg := mg) T
    refine ⟨_, (pss_cons (ps_asg (pe_fld (pv 0) rfl) (pg_tup rfl (pgs_cons (pg_name (i := 1) nd rfl (Or.inl rfl)) (pgs_cons (pg_name (i := 2) nd rfl (Or.inl rfl)) (pgs_cons (pg_name (i := 3) nd rfl (Or.inl rfl)) (pgs_cons (pg_name (i := 4) nd rfl (Or.inl rfl)) pgs_nil))))))
      (pss_one (ps_ret (pe_make T.mk_Carpet FI (hr.mono (by decide)) (by rfl) T.g_Carpet bI .nil pass0 (pa_cons (pv 1) (pa_cons (pv 2) (pa_cons (pv 3) (pa_cons (pv 4) pa_nil)))))))), ?_⟩
    refine ⟨_, rfl, p, _, dx, _, _, rfl, h1, T.c_Carpet, T.n_Carpet_shape, carF_shape, sh, _, rfl, SqT.of h5, rfl, _, _, rfl, _, _, rfl, _, _, rfl, _, _, rfl, rfl, ?_⟩
    refine ⟨_, rfl, _, rfl, _, rfl, _, rfl, ?_⟩
    obtain ⟨g1, g2, g3, g4⟩ := id co.le.1
    refine make_car (K := K) (.inr (SqT.of h6)) co.le.1 co.least_sz (rowsOk_of (co.range) (by omega) (by omega)) fun x H' A' B' D' e c => ?_
    have ef : colr A B D (rowsS f0 A.toNat D.toNat) = f0 := colr_rowsS co.le
    have le := c.le
    rw [ef] at le
    obtain ⟨eA, eB, eD⟩ := le.uniq co.le
    subst eA eB eD
    refine q x H' e ?_
    obtain ⟨o1, o2, o3, o4, o5, o6, o7, o8⟩ := c
    rw [ef] at o1
    exact ⟨o1, o2, o3, o4, ef, co.le, o7, o8⟩
theorem isi_own {C : Str} {H : Hp} {p dx : Addr} {fs : List (Str × V)} (e : ownB K C = true) (cl : Cls K (He.ga K C)) (h : H p = some (.ins (He.ga K C) dx fs)) : TyX K H (.ref p) (.ref (He.ga K C)) ∧ PySem.W.kitOne K (.ref (He.ga K C)) (.ref (He.ga K C)) = some true := by
  unfold ownB at e
  simp only [Bool.and_eq_true, decide_eq_true_eq] at e
  obtain ⟨e1, e2, e3, e4, e5⟩ := e
  exact ⟨.base (.ins h cl (He.eqO_ok e1) (He.eqO_ok e2) e3 e4), e5⟩
theorem ok_check_carpet (T : Txt w K mg) : Good P w K mg base 1 "check_carpet" ["carpet"] (fun vs H Q _ => ∃ p f A B D, vs = [.ref p] ∧ CarAt K H p f A B D ∧ Q .non H) := by
  refine good_mk (d := d_check_carpet) (N := ["carpet"]) T.d_check_carpet rfl rfl T.g_check_carpet ⟨rfl, rfl, rfl, by decide +kernel, rfl, by decide +kernel, by decide +kernel⟩
    (fun _ _ _ _ _ _ us hl => match us, hl with | [_], _ => rfl) (fun vs H Q E h => ?_) (fun f cdv Ar outer s H vs Q E hr h => ?_)
  · obtain ⟨p, f, A, B, D, rfl, _⟩ := h
    rfl
  · obtain ⟨p, f0, A, B, D, rfl, ⟨a, b, d, rows, co⟩, q⟩ := h
    obtain ⟨dx, r, l, sh, h1, h2, h3, h4⟩ := co.ob
    refine ⟨_, (pss_one (ps_if (pt_not (pt_val (pe_callB call_isi (by rfl) T.f_isinstance b_isinstance (pa_cons (pv 0) (pa_cons (pe_glob (v := .ref (CC K)) rfl T.g_Carpet rfl) pa_nil))))) (pss_one ps_never) pss_nil)), ?_⟩
    obtain ⟨e1, e2⟩ := isi_own (T.exf 6 rfl) T.c_Carpet h1
    exact ⟨_, rfl, _, _, _, _, true, rfl, .own _, e1, e2, _, rfl, iteF q⟩
theorem ok_check_colour (T : Txt w K mg) : Good P w K mg base 4 "check_colour" ["value"] (fun vs H Q _ => ∃ i, vs = [.int i] ∧ 0 ≤ i ∧ i ≤ 9 ∧ Q .non H) := by
  refine good_mk (d := d_check_colour) (N := ["value"]) T.d_check_colour rfl rfl T.g_check_colour ⟨rfl, rfl, rfl, by decide +kernel, rfl, by decide +kernel, by decide +kernel⟩
    (fun _ _ _ _ _ _ us hl => match us, hl with | [_], _ => rfl) (fun vs H Q E h => ?_) (fun f cdv Ar outer s H vs Q E hr h => ?_)
  · obtain ⟨i, rfl, _⟩ := h
    rfl
  · obtain ⟨i, rfl, h0, h9, q⟩ := h
    refine ⟨_, (pss_one (ps_if (pt_not (pt_val (pe_fn (ok_is_colour T) hr (pa_cons (pv 0) pa_nil)))) (pss_one ps_never) pss_nil)), ?_⟩
    exact ⟨_, rfl, i, rfl, h0, h9, _, rfl, iteF q⟩
end
end K84
set_option Elab.async false
set_option linter.all false
set_option maxRecDepth 100000
set_option maxHeartbeats 4000000
/-! turns; Motion -/
namespace K84
open PySem PySem.Spec PyProof.Rows L2
theorem tupAt_ok {K : PySem.W.Frag} {a : Addr} {vs : List He.Dv} (h : tupAtB K a vs = true) (H : Hp) : SqT K H a (vs.map (He.Dv.v K)) := by
  unfold tupAtB at h
  cases q : K.lookup a with
  | none =>
    rw [q] at h
    cases h
  | some o =>
    obtain ⟨oc, od, dt, osl⟩ := o
    rw [q] at h
    cases oc with
    | type c =>
      cases dt with
      | seq its n =>
        obtain ⟨h1, h2⟩ := Bool.and_eq_true_iff.mp (show (decide (c = "tuple") && (decide (its.size ≤ sizeLine) && He.relAll (vs.map (He.Dv.v K)) its.toList)) = true from h)
        obtain ⟨h3, h4⟩ := Bool.and_eq_true_iff.mp h2
        exact .inr ⟨_, its, n, q, congrArg Value.type (of_decide_eq_true h1), rfl, of_decide_eq_true h3, He.relAll_ok h4⟩
      | _ => cases h
    | _ => cases dt <;> cases h
section
variable {P : Program} {w : World} {K : PySem.W.Frag} {mg : Str → Option Value} {base : Heap}
/-! ### d.get(k, x) of a written dict -/
def tKGet2 (K : PySem.W.Frag) (w : World) (td ty tx : TE) : TE := fun σ H Q => td σ H fun x H1 => ∃ a, x = .ref a ∧ (∃ es n, KDict K w a es n) ∧ ty σ H1 fun y H2 => tx σ H2 fun z H3 =>
  ∃ k, y = .str k ∧ ((∃ v u, PySem.W.nsIn K a k = some (some u) ∧ RelV v u ∧ Q v H3) ∨ (PySem.W.nsIn K a k = some none ∧ Q z H3))
theorem pe_kget2 {X : Cx} {o e f : Expr} {apos cpos : Pos} {td ty tx : TE} (ho : PE X o td) (he : PE X e ty) (hf : PE X f tx) (m : M2 X o "get" apos e f cpos) : PE X (.Call (.Attribute o "get" apos) [e, f] [] cpos) (tKGet2 X.K X.w td ty tx) := by
  refine ⟨fun pins s σ H Q I h => ?_⟩
  refine wpAny_Call_method m.base m.few m.line PySem.F.plainAttrs_dict PySem.F.slot_dict_get PySem.F.type_dict_get (thn (ho.run pins s σ H _ I h) fun u s1 ⟨x, H1, I1, rx, a, ex, ⟨es, n, hl, hk, low⟩, q1⟩ => ?_)
  subst ex
  obtain rfl : u = Value.ref a := rx
  have hm := PySem.W.mapOf_K (prog := X.prog) (w := X.w) I1.kIn hl hk
  refine ⟨hm.typeIs, fun b q => ?_, ?_⟩
  · cases q
    exact ⟨_, I1.kIn _ _ hl, rfl⟩
  rw [m.trees]
  refine Calls.callWith_builtin rfl (Calls.evalArgs_plain (Calls.spliced_cons (thn (he.run pins s1 σ H1 _ I1 q1) fun iv s2 ⟨y, H2, I2, ry, q2⟩ =>
    Calls.spliced_cons (thn (hf.run pins s2 σ H2 _ I2 q2) fun fv s3 ⟨z, H3, I3, rz, k, ek, q3⟩ => Calls.spliced_nil ?_))))
  subst ek
  obtain ⟨t, rfl⟩ := (show ∃ t, iv = Value.str k t from ry)
  have hm3 := PySem.W.mapOf_K (prog := X.prog) (w := X.w) I3.kIn hl hk
  refine call_meetsIn PySem.F.slot_dict_get hm3.typeIs PySem.F.entry_dict_get (PySem.F.args_dict_get_3 _ _ _) (meets_dict_get_default (strKind X.prog X.w) a (strKind_is X.prog X.w k t) low fv) ⟨_, hm3, ?_⟩
  rcases q3 with ⟨v, u, e1, e2, q⟩ | ⟨e1, q⟩
  · rw [PySem.W.find_K hl e1]
    exact ⟨v, H3, I3.tok _, e2, q⟩
  · rw [PySem.W.find_K hl e1]
    exact ⟨z, H3, I3.tok _, rz, q⟩
/-! ### turned_pair, back_turn -/
theorem mat_at (T : Txt w K mg) (t : Tn) : ∃ b, KDct K w (He.ga K "MATRICES") t.str (.ref b) ∧ ∀ H, SqT K H b (t.mat.map V.int) := by
  obtain ⟨es, n, hl, hk, low⟩ := T.tab 0 rfl
  have m1 := T.exf 1 rfl
  have m2 := T.exf 2 rfl
  have hp : (t.str, t.mat) ∈ matrL := by cases t <;> simp [matrL, Tn.str, Tn.mat]
  obtain ⟨u, e1, e2⟩ := He.valsB_ok m1 (q := (t.str, He.Dv.adr (keyAt "MATRICES" t.str))) (List.mem_map.mpr ⟨_, hp, rfl⟩)
  refine ⟨keyAt "MATRICES" t.str K, ⟨es, n, u, hl, hk, e1, e2⟩, fun H => ?_⟩
  have z := tupAt_ok (List.all_eq_true.mp m2 _ hp) H
  rw [List.map_map] at z
  exact z
theorem sc_tp : FnScope ["turn", "pair", "one", "two", "three", "four"] ["turn", "pair"] d_turned_pair.scope := ⟨rfl, rfl, rfl, by decide +kernel, rfl, by decide +kernel, by decide +kernel⟩
theorem unit64 {a : Int} (h : -1 ≤ a ∧ a ≤ 1) : -(2 ^ 64) < a ∧ a < 2 ^ 64 := by
  obtain ⟨h1, h2⟩ := h
  constructor <;> omega
theorem ok_turned_pair (T : Txt w K mg) : Good P w K mg base 1 "turned_pair" ["turn", "pair"] (fun vs H Q _ => ∃ t p x y, vs = [.str (Tn.str t), .ref p] ∧ Pr K H p x y ∧ ∀ p', H p' = none → Q (.ref p') (upd H p' (.tup [.int (t.lx x y), .int (t.ly x y)]))) := by
  refine good_mk (d := d_turned_pair) T.d_turned_pair rfl rfl T.g_turned_pair sc_tp
    (fun _ _ _ _ _ _ us hl => match us, hl with | [_, _], _ => rfl) (fun vs H Q E h => ?_) (fun f cdv A outer s H vs Q E hr h => ?_)
  · obtain ⟨t, p, x, y, rfl, _⟩ := h
    rfl
  · obtain ⟨t, p, x, y, rfl, hp, q⟩ := h
    have nd := sc_tp.nd
    obtain ⟨b, hb1, hb2⟩ := mat_at T t
    obtain ⟨m1, m2, m3, m4, em, el, er, c1, c2, c3, c4⟩ := t.mat_eq x y
    refine ⟨_, (pss_cons (ps_asg (pe_ix ix_kdict (pe_glob (v := .ref (He.ga K "MATRICES")) rfl T.g_MATRICES rfl) (pv 0) (fun _ _ => rfl)) (pg_tup rfl (pgs_cons (pg_name (i := 2) nd rfl (Or.inl rfl)) (pgs_cons (pg_name (i := 3) nd rfl (Or.inl rfl)) (pgs_cons (pg_name (i := 4) nd rfl (Or.inl rfl)) (pgs_cons (pg_name (i := 5) nd rfl (Or.inl rfl)) pgs_nil))))))
      (pss_one (ps_ret (pe_tup (pa_cons (pe_op op_add (pe_op op_mul (pv 2) (pe_ix ix_tup (pv 1) pe_int (fun _ _ => rfl))) (pe_op op_mul (pv 3) (pe_ix ix_tup (pv 1) pe_int (fun _ _ => rfl)))) (pa_cons (pe_op op_add (pe_op op_mul (pv 4) (pe_ix ix_tup (pv 1) pe_int (fun _ _ => rfl))) (pe_op op_mul (pv 5) (pe_ix ix_tup (pv 1) pe_int (fun _ _ => rfl)))) pa_nil)))))), ?_⟩
    have hs := hb2 H
    rw [em] at hs
    refine ⟨_, rfl, _, _, _, rfl, rfl, hb1, b, _, rfl, hs, rfl, _, _, rfl, _, _, rfl, _, _, rfl, _, _, rfl, rfl, ?_⟩
    refine ⟨_, rfl, _, rfl, _, _, _, _, rfl, rfl, hp, rfl, _, _, rfl, rfl, .inl (unit64 c1), _, rfl, _, rfl, _, _, _, _, rfl, rfl, hp, rfl, _, _, rfl, rfl, .inl (unit64 c2), _, _, rfl, rfl, ?_⟩
    refine ⟨_, rfl, _, rfl, _, _, _, _, rfl, rfl, hp, rfl, _, _, rfl, rfl, .inl (unit64 c3), _, rfl, _, rfl, _, _, _, _, rfl, rfl, hp, rfl, _, _, rfl, rfl, .inl (unit64 c4), _, _, rfl, rfl, ?_⟩
    refine ⟨two_le, fun r hr => ?_⟩
    have q' := q r hr
    rw [← el, ← er] at q'
    exact q'
theorem ok_back_turn (T : Txt w K mg) : Good P w K mg base 1 "back_turn" ["turn"] (fun vs H Q _ => ∃ (t : Tn), vs = [.str t.str] ∧ Q (.str t.inv.str) H) := by
  refine good_mk (d := d_back_turn) (N := ["turn"]) T.d_back_turn rfl rfl T.g_back_turn ⟨rfl, rfl, rfl, by decide +kernel, rfl, by decide +kernel, by decide +kernel⟩
    (fun _ _ _ _ _ _ us hl => match us, hl with | [_], _ => rfl) (fun vs H Q E h => ?_) (fun f cdv A outer s H vs Q E hr h => ?_)
  · obtain ⟨t, rfl, _⟩ := h
    rfl
  · obtain ⟨t, rfl, q⟩ := h
    refine ⟨_, (pss_one (ps_ret (pe_kget2 (pe_glob (v := .ref (He.ga K "BACK_TURNS")) rfl T.g_BACK_TURNS rfl) (pv 0) (pv 0) ⟨rfl, rfl, rfl, rfl⟩))), ?_⟩
    refine ⟨_, rfl, T.tab 1 rfl, _, rfl, _, rfl, _, rfl, ?_⟩
    have m1 := T.exf 3 rfl
    have m2 := T.exf 8 rfl
    have hin : ∀ {x : Str} {v : He.Dv}, (x, v) ∈ backL → ∃ u, PySem.W.nsIn K (He.ga K "BACK_TURNS") x = some (some u) ∧ RelV (v.v K) u := fun h => He.valsB_ok m1 h
    have hno : ∀ x : String, x ∈ ["stay", "back", "mirror", "flip", "swap", "cross"] → PySem.W.nsIn K (He.ga K "BACK_TURNS") (Str.ofString x) = some none := fun x h => He.eqO_ok (List.all_eq_true.mp m2 x h)
    cases t with
    | left =>
      obtain ⟨u, e1, e2⟩ := hin (x := "left") (v := .str "right") (by simp [backL])
      exact .inl ⟨_, u, e1, e2, q⟩
    | right =>
      obtain ⟨u, e1, e2⟩ := hin (x := "right") (v := .str "left") (by simp [backL])
      exact .inl ⟨_, u, e1, e2, q⟩
    | stay => exact .inr ⟨hno "stay" (by decide), q⟩
    | back => exact .inr ⟨hno "back" (by decide), q⟩
    | mirror => exact .inr ⟨hno "mirror" (by decide), q⟩
    | flip => exact .inr ⟨hno "flip" (by decide), q⟩
    | swap => exact .inr ⟨hno "swap" (by decide), q⟩
    | cross => exact .inr ⟨hno "cross" (by decide), q⟩
/-! ### Motion -/
theorem sc_ic : FnScope ["value", "part"] ["value"] d_is_cell.scope := ⟨rfl, rfl, rfl, by decide +kernel, rfl, by decide +kernel, by decide +kernel⟩
theorem ok_is_cell (T : Txt w K mg) : Good P w K mg base 2 "is_cell" ["value"] (fun vs H Q _ => ∃ p x y, vs = [.ref p] ∧ Pr K H p x y ∧ ∀ H', Same H H' → Q (.bl true) H') := by
  refine good_mk (d := d_is_cell) T.d_is_cell rfl rfl T.g_is_cell sc_ic
    (fun _ _ _ _ _ _ us hl => match us, hl with | [_], _ => rfl) (fun vs H Q E h => ?_) (fun f cdv A outer s H vs Q E hr h => ?_)
  · obtain ⟨p, x, y, rfl, _⟩ := h
    rfl
  · obtain ⟨p, x, y, rfl, hp, q⟩ := h
    have nd := sc_ic.nd
    refine ⟨_, (pss_one (ps_ret (pe_and (pe_callB call_isi (by rfl) T.f_isinstance b_isinstance (pa_cons (pv 0) (pa_cons (pe_ty T.f_tuple b_tuple) pa_nil))) (pe_and (pe_cmpR op_eq (pe_callB call_len (by rfl) T.f_len b_len (pa_cons (pv 0) pa_nil)) pe_int (nomark _))
      (pe_one (pe_callB (cr_all rfl) (by rfl) T.f_all b_all (pa_cons (pe_lc (own := [("part", 1)]) rfl nd (pi_tup (pv 0)) (blkOk_by (own := [("part", 1)]) (N := ["value", "part"]) (sc := d_is_cell.scope) (by decide +kernel)) (fun _ _ _ _ _ => (pg_name (i := 1) nd rfl (Or.inl rfl))) (fun _ _ _ _ _ => pts_nil) (fun _ _ _ _ _ => (pe_fn (ok_is_integer T) hr (pa_cons (pv 1) pa_nil)))) pa_nil))))))), ?_⟩
    refine ⟨_, rfl, _, _, _, _, true, rfl, .ty _, tyx_tup hp, kit_ty (by decide +kernel), _, rfl, iteT ⟨_, rfl, _, 2, rfl, .inr ⟨_, hp, rfl⟩, rfl, _, rfl, iteT ?_⟩⟩
    refine ⟨_, rfl, p, rfl, ⟨_, hp⟩, fun D nD => ?_⟩
    refine lcT evoSame (xs := [.int x, .int y]) (fun H3 e3 => sqT_same e3 hp) (fun _ => true) (fun i z _ => z = .bl true) nD (by show 2 ≤ 100000; decide) (fun _ _ _ _ _ z => z) (fun i z H3 Kc Kn hz e3 hc _ => ?_) (fun H3 zs e3 hD al => ?_)
    · refine ⟨rfl, ?_⟩
      match i, hz with
      | 0, hz =>
        cases hz
        exact ⟨_, rfl, _, rfl, hc _ _ rfl (fun _ _ z => z) rfl⟩
      | 1, hz =>
        cases hz
        exact ⟨_, rfl, _, rfl, hc _ _ rfl (fun _ _ z => z) rfl⟩
      | (n + 2), hz => cases hz
    · have ez := al.eq (v := fun _ => V.bl true) fun _ _ h => h
      refine ⟨D, [true, true], rfl, SqL.of (by rw [hD, ez]; rfl), ?_⟩
      exact q _ e3
theorem turns_at (T : Txt w K mg) (H : Hp) : SqT K H (He.ga K "TURNS") (Tn.all.map fun t => V.str t.str) := He.tupB_ok (T.exf 0 rfl) H
abbrev dfl0 (K : PySem.W.Frag) : V := .ref (He.dflAt ("Motion", some "__init__") 0 K)
/-- a motion's object -/
def motF (t : Tn) (s : Addr) : List (Str × V) := putF "shift" (.ref s) (putF "turn" (.str t.str) [])
theorem motF_turn {t : Tn} {s : Addr} : (motF t s).lookup ("turn" : Str) = some (V.str t.str) := lk_ne (by decide +kernel) lk_same
theorem motF_shift {t : Tn} {s : Addr} : (motF t s).lookup ("shift" : Str) = some (V.ref s) := lk_same
theorem motF_no {t : Tn} {s : Addr} {m : Str} (h : ¬ m = "turn" ∧ ¬ m = "shift") : (motF t s).lookup m = none := lk_ne h.2 (lk_ne h.1 rfl)
abbrev MC (K : PySem.W.Frag) : Addr := He.ga K "Motion"
def MotAt (K : PySem.W.Frag) (H : Hp) (p : Addr) (t : Tn) (u v : Int) : Prop := ∃ dx s, H p = some (.ins (MC K) dx (motF t s)) ∧ Pr K H s u v
theorem MotAt.kp {H H' : Hp} {p : Addr} {t : Tn} {u v : Int} (h : MotAt K H p t u v) (e : Kp H H') : MotAt K H' p t u v := by
  obtain ⟨dx, s, h1, h2⟩ := h
  exact ⟨dx, s, e.ins h1, e.sqT h2⟩
def spMotInit (K : PySem.W.Frag) : Sp := fun vs H Q _ => ∃ p dx t s u v, vs = [.ref p, .str (Tn.str t), .ref s] ∧ H p = some (.ins (MC K) dx []) ∧ Pr K H s u v ∧ ∀ H', (∀ a o, H a = some o → a ≠ p → H' a = some o) → H' p = some (.ins (MC K) dx (motF t s)) → Q .non H'
theorem mot_binds (T : Txt w K mg) : ∃ fd, FunD K d_Motion___init__.name d_Motion___init__.qual d_Motion___init__.params d_Motion___init__.body d_Motion___init__.scope (d_Motion___init__.dvs K) (d_Motion___init__.kws K) (He.fAd K d_Motion___init__.at_) fd ∧
    (∃ ds, Vals [dfl0 K] ds ∧ Binds K fd ["self", "turn", "shift"] ds) ∧ (∃ ds, Vals [] ds ∧ Binds K fd ["self", "turn", "shift"] ds) := by
  obtain ⟨fd, F⟩ := T.d_Motion___init__
  refine ⟨fd, F, F.binds1 2 0 (fun z => by cases z) rfl fun T0 kV doc pm an cdv ct us its h1 h2 => ?_, F.binds1 3 1 (fun z => by cases z) rfl fun T0 kV doc pm an cdv ct us its h1 h2 => ?_⟩
  · match us, h1, its, h2 with
    | [_, _], _, [_], _ => exact ⟨_, rfl, rfl⟩
  · match us, h1, its, h2 with
    | [_, _, _], _, [_], _ => exact ⟨_, rfl, rfl⟩
theorem ok_mot_init (T : Txt w K mg) : ∃ fd, FnOk P w K mg base CX0 3 (He.ma K (MC K) "__init__") fd ["self", "turn", "shift"] (spMotInit K) ∧
    (∃ ds, Vals [dfl0 K] ds ∧ Binds K fd ["self", "turn", "shift"] ds) ∧ (∃ ds, Vals [] ds ∧ Binds K fd ["self", "turn", "shift"] ds) := by
  obtain ⟨fd, F, b1, b2⟩ := mot_binds T
  refine ⟨fd, FunD.ok (N := ["self", "turn", "shift"]) F ⟨rfl, rfl, rfl, by decide +kernel, rfl, by decide +kernel, by decide +kernel⟩ (fun vs H Q E h => ?_) (fun cdv A outer s H vs Q E hr h => ?_), b1, b2⟩
  · obtain ⟨p, dx, t, s, u, v, rfl, _⟩ := h
    rfl
  · obtain ⟨p, dx, t, sf, u, v, rfl, hp, hs, q⟩ := h
    have body : ∃ t0, PSs (cxOf CX0 P w K mg base ["self", "turn", "shift"] d_Motion___init__.qual d_Motion___init__.scope (He.fAd K d_Motion___init__.at_) cdv A outer s H E).nox d_Motion___init__.body t0 ∧ t0 { nx := fun _ H' => Q .non H', rt := Q } (L2.start ["self", "turn", "shift"] [.ref p, .str (Tn.str t), .ref sf]) H := by
      refine ⟨_, (pss_cons (ps_if (PW.pt (pw_or (pt_not (pt_val (pe_callB call_isi (by rfl) T.f_isinstance b_isinstance (pa_cons (pv 1) (pa_cons (pe_ty T.f_str b_str) pa_nil))))) (pw_or1 (pt_cmpR op_notIn_seq (pv 1) (pe_glob (v := .ref (He.ga K "TURNS")) rfl T.g_TURNS rfl) rfl)))) (pss_one ps_never) pss_nil)
        (pss_cons (ps_if (pt_not (pt_val (pe_fn (ok_is_cell T) hr (pa_cons (pv 2) pa_nil)))) (pss_one ps_never) pss_nil)
        (pss_cons (ps_fld (pv 0) (pv 1) rfl)
        (pss_one (ps_fld (pv 0) (pv 2) rfl))))), ?_⟩
      have ht := turns_at T H
      have hno : (!inV (V.str t.str) (Tn.all.map fun t => V.str t.str)) = false := by cases t <;> decide +kernel
      refine ⟨_, rfl, _, _, _, _, true, rfl, .ty _, .base (.str _), kit_ty (by decide +kernel), _, rfl, iteF ⟨_, rfl, _, _, rfl, .inr ht, rfl, ?_, _, rfl, ?_⟩⟩
      · decide +kernel
      · show (if (!inV (V.str t.str) (Tn.all.map fun t => V.str t.str)) = true then _ else _)
        rw [hno]
        refine iteF ?_
        refine ⟨_, rfl, sf, u, v, rfl, hs, fun H1 e1 => ⟨_, rfl, iteF ?_⟩⟩
        refine ⟨_, rfl, _, rfl, p, _, dx, _, rfl, e1 _ _ hp, T.c_Motion, T.n_Motion_turn, (by show 0 < 1000; decide), ?_⟩
        refine ⟨_, rfl, _, rfl, p, _, dx, _, rfl, upd_same, T.c_Motion, T.n_Motion_shift, (putF_lt (by show 0 < 999; decide)), ?_⟩
        rw [upd_upd]
        exact q _ (fun a o z n => by rw [upd_ne n]; exact e1 _ _ z) upd_same
    obtain ⟨tt, a, b⟩ := body
    exact ⟨tt, a.nox, b⟩
theorem kp_same {H H' : Hp} (e : Same H H') : Kp H H' := fun a o z _ _ => e _ _ z
theorem make_mot {H : Hp} {Q : VK} {s : Addr} {t : Tn} {u v : Int} (hs : Pr K H s u v) (k : ∀ x H', Same H H' → MotAt K H' x t u v → Q (.ref x) H') :
    ∀ x dx, H x = none → H dx = none → dx ≠ x → spMotInit K (.ref x :: [.str t.str, .ref s]) (upd (upd H dx (.own x)) x (.ins (MC K) dx [])) (fun v H2 => v = .non ∧ Q (.ref x) H2) E0 := by
  intro x dx nx ndx nex
  have e : Same H (upd (upd H dx (.own x)) x (.ins (MC K) dx [])) := fun c o z => by
    rw [upd_ne (ne_of_none z nx), upd_ne (ne_of_none z ndx)]
    exact z
  exact ⟨x, dx, t, s, u, v, rfl, upd_same, sqT_same e hs, fun H' a1 a2 => have e2 : Same H H' := fun c o z => a1 _ _ (e _ _ z) (ne_of_none z nx)
    ⟨rfl, k x H' e2 ⟨dx, s, a2, sqT_same e2 hs⟩⟩⟩
theorem dfl_pr (T : Txt w K mg) (H : Hp) : Pr K H (He.dflAt ("Motion", some "__init__") 0 K) 0 0 := tupAt_ok (T.exf 4 rfl) H
theorem ok_led_back (T : Txt w K mg) : GoodM P w K mg base 3 "Motion" "led_back" ["self", "cell"] (fun vs H Q _ => ∃ p c t u v x y, vs = [.ref p, .ref c] ∧ MotAt K H p t u v ∧ Pr K H c x y ∧
    ∀ p' H', Same H H' → Pr K H' p' (t.inv.lx (x - u) (y - v)) (t.inv.ly (x - u) (y - v)) → Q (.ref p') H') := by
  refine goodM_mk (d := d_Motion_led_back) (N := ["self", "cell"]) T.d_Motion_led_back rfl rfl ⟨rfl, rfl, rfl, by decide +kernel, rfl, by decide +kernel, by decide +kernel⟩
    (fun _ _ _ _ _ _ us hl => match us, hl with | [_, _], _ => rfl) (fun vs H Q E h => ?_) (fun f cdv Ar outer s H vs Q E hr h => ?_)
  · obtain ⟨p, c, t, u, v, x, y, rfl, _⟩ := h
    rfl
  · obtain ⟨p, c, t, u, v, x, y, rfl, hm, hc, q⟩ := h
    obtain ⟨dx, sf, h1, h2⟩ := id hm
    refine ⟨_, (pss_cons (ps_if (pt_not (pt_val (pe_fn (ok_is_cell T) hr (pa_cons (pv 1) pa_nil)))) (pss_one ps_never) pss_nil)
      (pss_one (ps_ret (pe_fn (ok_turned_pair T) hr (pa_cons (pe_fn (ok_back_turn T) hr (pa_cons (pe_fld (pv 0) rfl) pa_nil)) (pa_cons (pe_tup (pa_cons (pe_op op_sub (pe_ix ix_tup (pv 1) pe_int (fun _ _ => rfl)) (pe_ix ix_tup (pe_fld (pv 0) rfl) pe_int (fun _ _ => rfl))) (pa_cons (pe_op op_sub (pe_ix ix_tup (pv 1) pe_int (fun _ _ => rfl)) (pe_ix ix_tup (pe_fld (pv 0) rfl) pe_int (fun _ _ => rfl))) pa_nil))) pa_nil)))))), ?_⟩
    refine ⟨_, rfl, c, x, y, rfl, hc, fun H1 e1 => ⟨_, rfl, iteF ?_⟩⟩
    have h1' := e1 _ _ h1
    have hc' := sqT_same e1 hc
    have h2' := sqT_same e1 h2
    refine ⟨_, rfl, p, _, dx, _, _, rfl, h1', T.c_Motion, T.n_Motion_turn, motF_turn, t, rfl, ?_⟩
    refine ⟨_, rfl, _, _, _, _, rfl, rfl, hc', rfl, _, rfl, p, _, dx, _, _, rfl, h1', T.c_Motion, T.n_Motion_shift, motF_shift, _, _, _, _, rfl, rfl, h2', rfl, _, _, rfl, rfl, ?_⟩
    refine ⟨_, rfl, _, _, _, _, rfl, rfl, hc', rfl, _, rfl, p, _, dx, _, _, rfl, h1', T.c_Motion, T.n_Motion_shift, motF_shift, _, _, _, _, rfl, rfl, h2', rfl, _, _, rfl, rfl, ?_⟩
    refine ⟨two_le, fun r hr => ?_⟩
    refine ⟨t.inv, r, x - u, y - v, rfl, SqT.of upd_same, fun p' hp' => ?_⟩
    exact q p' _ (e1.trans ((same_new hr).trans (same_new hp'))) (SqT.of upd_same)
theorem ok_check_motion (T : Txt w K mg) : Good P w K mg base 1 "check_motion" ["motion"] (fun vs H Q _ => ∃ p t u v, vs = [.ref p] ∧ MotAt K H p t u v ∧ Q .non H) := by
  refine good_mk (d := d_check_motion) (N := ["motion"]) T.d_check_motion rfl rfl T.g_check_motion ⟨rfl, rfl, rfl, by decide +kernel, rfl, by decide +kernel, by decide +kernel⟩
    (fun _ _ _ _ _ _ us hl => match us, hl with | [_], _ => rfl) (fun vs H Q E h => ?_) (fun f cdv A outer s H vs Q E hr h => ?_)
  · obtain ⟨p, t, u, v, rfl, _⟩ := h
    rfl
  · obtain ⟨p, t, u, v, rfl, ⟨dx, sf, h1, h2⟩, q⟩ := h
    refine ⟨_, (pss_one (ps_if (pt_not (pt_val (pe_callB call_isi (by rfl) T.f_isinstance b_isinstance (pa_cons (pv 0) (pa_cons (pe_glob (v := .ref (MC K)) rfl T.g_Motion rfl) pa_nil))))) (pss_one ps_never) pss_nil)), ?_⟩
    obtain ⟨e1, e2⟩ := isi_own (T.exf 7 rfl) T.c_Motion h1
    exact ⟨_, rfl, _, _, _, _, true, rfl, .own _, e1, e2, _, rfl, iteF q⟩
end
end K84
set_option Elab.async false
set_option linter.all false
set_option maxRecDepth 100000
set_option maxHeartbeats 4000000
/-! rows_by, woven, moved_carpet -/
namespace K84
open PySem PySem.Spec PyProof.Rows L2
section
variable {X : Cx} {K : PySem.W.Frag} {o e : Expr} {to te : TE}
theorem pe_joinK {apos pos : Pos} (hK : X.K = K) (ho : PE X o to) (he : PE X e te) (hs : starEach [e] X.env = [(false, eval e X.env)] := by rfl) (hbase : attributeBase o "join" X.env (eval o X.env) = eval o X.env := by rfl) (hline : (apos.endLine == pos.line) = true := by rfl) :
    PE X (.Call (.Attribute o "join" apos) [e] [] pos) (tM1 (fun x xs H Q => ∃ a p, ∃ ys : List Str, x = .str a ∧ xs = [.ref p] ∧ (SqL K H p (ys.map V.str) ∨ SqT K H p (ys.map V.str)) ∧
      (ys.map (·.length)).sum + ys.length * a.length ≤ 16777216 ∧ Q (.str (Txt.join a ys)) H) to te) := by
  subst hK
  exact pe_join ho he hs hbase hline
end
/-- the closure's promise: at the cells of a lattice, out -/
def spCell (a d : Int) (out : Int → Int → V) : Sp := fun vs H Q _ => ∃ p x y, vs = [.ref p] ∧ H p = some (.tup [.int x, .int y]) ∧ (0 ≤ x ∧ x < a) ∧ (0 ≤ y ∧ y < d) ∧ ∀ H', Same H H' → Q (out x y) H'
def lcRB : Scope := { kind := .function, names := [(".0", .local), ("y", .cell), ("range", .globalImplicit), ("lattice", .cell), ("sign_of", .cell)], isGenerator := false, isCoroutine := false }
/-- all but lists, tables and locks -/
def Fit (H H' : Hp) : Prop := ∀ b u, H b = some u → (∀ o, u ≠ .frz o (.own 0)) → H' b = some u
theorem Fit.sqT {K : PySem.W.Frag} {H H' : Hp} (e : Fit H H') {a : Addr} {xs : List V} (h : SqT K H a xs) : SqT K H' a xs := by
  rcases h with (h | ⟨o, h⟩) | h
  · exact .inl (.inl (e _ _ h fun o z => by cases z))
  · exact .inl (.inr ⟨o, e _ _ h fun o z => by cases z⟩)
  · exact .inr h
theorem Fit.ins {H H' : Hp} (e : Fit H H') {a C dx : Addr} {fs : List (Str × V)} (h : H a = some (.ins C dx fs)) : H' a = some (.ins C dx fs) := e _ _ h fun o z => by cases z
theorem Fit.tup {H H' : Hp} (e : Fit H H') {a : Addr} {xs : List V} (h : H a = some (.tup xs)) : H' a = some (.tup xs) := e _ _ h fun o z => by cases z
theorem Fit.lat {K : PySem.W.Frag} {H H' : Hp} (e : Fit H H') {l : Addr} {a b d : Int} (h : LatAt K H l a b d) : LatAt K H' l a b d := let ⟨dx, h⟩ := h; ⟨dx, e.ins h⟩
theorem unl_fit {cl : List (Str × Addr)} {fr : List Str} {ws : List (Option V)} {H : Hp} (C : CellsH cl fr ws H) (nd : ∀ p ∈ cl, cl.lookup p.1 = some p.2) : Fit H (unl (cl.map (·.2)) H) := fun b u h n => by
  rw [unl_out fun hm => ?_]
  · exact h
  · obtain ⟨y, hy⟩ := mem_cs nd hm
    obtain ⟨o, v, h1, _⟩ := C.all y b hy
    rw [h] at h1
    exact n o (Option.some.inj h1)
theorem same_rel {cs : List Addr} {H H3 : Hp} (e : Same (unl cs H) H3) : Same H (rel cs H H3) := fun b o h => by
  by_cases hm : b ∈ cs
  · rw [rel_in hm]
    exact h
  · rw [rel_out hm]
    exact e b o (by rw [unl_out hm]; exact h)
theorem clo_nd {cells : List (Str × Addr)} {names : List (Str × NameKind)} : ∀ p ∈ cloFrom cells names [], (cloFrom cells names []).lookup p.1 = some p.2 := by
  have key : ∀ {n : Str} {c : Addr}, (n, c) ∈ cloFrom cells names [] → c = (cells.lookup n).getD 0 := fun {n c} h => by
    rcases cloFrom_mem h with z | z
    · cases z
    · exact z.2
  intro p hp
  obtain ⟨n, c⟩ := p
  cases e : (cloFrom cells names []).lookup n with
  | none =>
    have := List.lookup_eq_none_iff.mp e (n, c) hp
    simp at this
  | some c' =>
    have h1 := key (PySem.mem_of_lookup e)
    have h2 := key hp
    show some c' = some c
    rw [h1, h2]
section
variable {P : Program} {w : World} {K : PySem.W.Frag} {mg : Str → Option Value} {base : Heap}
theorem sc_rb : FnScope ["lattice", "sign_of", "y", "x"] ["lattice", "sign_of"] d_rows_by.scope := ⟨rfl, rfl, rfl, by decide +kernel, rfl, by decide +kernel, by decide +kernel⟩
theorem ok_rows_by (T : Txt w K mg) : Good P w K mg base 2 "rows_by" ["lattice", "sign_of"] (fun vs H Q _ => ∃ l f a b d g, vs = [.ref l, .ref f] ∧ LatAt K H l a b d ∧ BasS a b d ∧ Clo P w K mg base 1 H f (spCell a d fun x y => .str (sg (g x y))) ∧
    ∀ p H', Same H H' → H' p = some (.tup ((rowsS g a.toNat d.toNat).map V.str)) → Q (.ref p) H') := by
  refine good_mk (d := d_rows_by) T.d_rows_by rfl rfl T.g_rows_by sc_rb
    (fun _ _ _ _ _ _ us hl => match us, hl with | [_, _], _ => rfl) (fun vs H Q E h => ?_) (fun f0 cdv A outer s H vs Q E hr h => ?_)
  · obtain ⟨l, f, a, b, d, g, rfl, _⟩ := h
    rfl
  · obtain ⟨l, f, a, b, d, g, rfl, ⟨dx, hl⟩, ⟨⟨h1, h2, h3, h4⟩, h5, h6⟩, C, q⟩ := h
    have nd := sc_rb.nd
    refine ⟨_, (pss_one (ps_ret (pe_callTy call_tuple_of (by rfl) T.f_tuple b_tuple (pa_cons (pe_lc (own := [("y", 2)]) rfl nd (pi_range1 (by rfl) T.f_range (pa_cons (pe_fld (pv 0) rfl) pa_nil)) (blkOk_by (own := [("y", 2)]) (N := ["lattice", "sign_of", "y", "x"]) (sc := d_rows_by.scope) (by decide +kernel)) (fun _ _ _ _ _ => (pg_name (i := 2) nd rfl (Or.inr rfl))) (fun _ _ _ _ _ => pts_nil)
      (fun _ _ _ _ _ => (pe_joinK (K := K) rfl pe_str (pe_lc (own := [("x", 3)]) rfl nd (pi_range1 (by rfl) T.f_range (pa_cons (pe_fldK (K := K) rfl (pv 0) rfl) pa_nil)) (blkOk_by (own := [("x", 3)]) (N := ["lattice", "sign_of", "y", "x"]) (sc := lcRB) (by decide +kernel)) (fun _ _ _ _ _ => (pg_name (i := 3) nd rfl (Or.inl rfl))) (fun _ _ _ _ _ => pts_nil)
        (fun _ _ _ _ _ => (pe_clo (i := 1) (P := P) (w := w) (K := K) (mg := mg) (base := base) (j := 1) rfl rfl rfl rfl rfl hr rfl (by first | exact Or.inl rfl | exact Or.inr (Or.inl rfl) | exact Or.inr (Or.inr rfl)) (pa_cons (pe_tup (pa_cons (pv 3) (pa_cons (pv 2) pa_nil))) pa_nil))))))) pa_nil)))), ?_⟩
    refine ⟨_, rfl, l, _, dx, _, _, rfl, hl, T.c_Lattice, T.n_Lattice_d, latF_d _ _ _, _, rfl, by omega, by omega, fun D nD => ?_⟩
    refine lcR evoSame (fun _ => true) (fun i y _ => y = .str (rowS g a.toNat ((i : Nat) : Int))) nD (by omega) (fun _ _ _ _ _ h => h) (fun i H2 Kc Kn hi e2 hc _ => ?_) (fun H2 ys e2 hD al => ?_)
    · refine ⟨rfl, ⟨_, rfl⟩, _, rfl, l, _, dx, _, _, rfl, e2 _ _ hl, T.c_Lattice, T.n_Lattice_a, latF_a _ _ _, _, rfl, by omega, by omega, fun D2 nD2 => ?_⟩
      refine lcR evoSame (fun _ => true) (fun k y _ => y = .str (sg (g ((k : Nat) : Int) ((i : Nat) : Int)))) nD2 (by omega) (fun _ _ _ _ _ h => h) (fun k H3 Kc' Kn' hk e3 hc' _ => ?_) (fun H3 ys e3 hD2 al => ?_)
      · refine ⟨rfl, f, _, rfl, C.kp (Kp.of (e2.trans e3)), ?_⟩
        refine ⟨_, rfl, _, rfl, two_le, fun z hz => ⟨C.kp (Kp.of (e2.trans (e3.trans (same_new hz)))), z, _, _, rfl, upd_same, by omega, by omega, fun H4 e4 => ?_⟩⟩
        refine hc' _ _ rfl ((same_new hz).trans e4) ?_
        rw [Int.zero_add, Int.zero_add]
      · have ey := al.eq (v := fun k => V.str (sg (g ((k : Nat) : Int) ((i : Nat) : Int)))) fun _ _ h => h
        rw [filter_yes, map_sgV] at ey
        refine ⟨_, D2, _, rfl, rfl, .inl (SqL.of (by rw [hD2, ey])), sg_sum (by omega), ?_⟩
        refine hc _ _ rfl e3 ?_
        rw [join_sg]
        rfl
    · have ey := al.eq (v := fun i => V.str (rowS g a.toNat ((i : Nat) : Int))) fun _ _ h => h
      rw [filter_yes] at ey
      refine ⟨D, _, rfl, .inl ⟨SqL.of hD, fun z hz => q z _ (e2.trans (same_new hz)) ?_⟩⟩
      rw [upd_same, ey]
      unfold rowsS
      rw [List.map_map]
      rfl
end
end K84
set_option Elab.async false
set_option linter.all false
set_option maxRecDepth 100000
set_option maxHeartbeats 1000000
/-! woven, moved_carpet -/
namespace K84
open PySem PySem.Spec PyProof.Rows L2
theorem colr_rowsP {f : Int → Int → Nat} {A B D : Int} (h : Bas A B D) (pA : IsPer f A 0) (pD : IsPer f B D) : colr A B D (rowsS f A.toNat D.toNat) = f := by
  obtain ⟨h1, h2, h3, h4⟩ := h
  funext x y
  unfold colr
  have n1 := Int.emod_nonneg y (show D ≠ 0 by omega)
  have l1 := Int.emod_lt_of_pos y (show 0 < D by omega)
  have n2 := Int.emod_nonneg (x - y / D * B) (show A ≠ 0 by omega)
  have l2 := Int.emod_lt_of_pos (x - y / D * B) (show 0 < A by omega)
  have i1 : (y % D).toNat < D.toNat := by omega
  have i2 : ((x - y / D * B) % A).toNat < A.toNat := by omega
  rw [rowsS_at i1]
  show ((List.range A.toNat).map fun i => f ((i : Nat) : Int) (((y % D).toNat : Nat) : Int)).getD ((x - y / D * B) % A).toNat 0 = f x y
  rw [List.getD_eq_getElem?_getD, List.getElem?_map, List.getElem?_range i2]
  simp only [Option.map_some, Option.getD_some]
  rw [Int.toNat_of_nonneg n1, Int.toNat_of_nonneg n2]
  have p : IsPer f ((x - y / D * B) / A * A + y / D * B) (y / D * D) := ((pA.mul _).add (pD.mul (y / D))).cast rfl (by simp)
  have := p ((x - y / D * B) % A) (y % D)
  rw [← this]
  have e1 := Int.emod_add_mul_ediv y D
  have e2 := Int.emod_add_mul_ediv (x - y / D * B) A
  rw [Int.mul_comm D] at e1
  rw [Int.mul_comm A] at e2
  congr 1 <;> omega
theorem natAbs_ediv {d x : Int} (hd : 1 ≤ d) : ((d * x).natAbs : Int) / d = (x.natAbs : Int) := by
  rw [Int.natAbs_mul, Int.natCast_mul]
  have : (d.natAbs : Int) = d := by omega
  rw [this]
  exact Int.mul_ediv_cancel_left _ (by omega)
theorem spans_per {g : Int → Int → Nat} {x1 y1 x2 y2 a b d : Int} (h : Spans x1 y1 x2 y2 a b d) (hn : x1 * y2 - x2 * y1 ≠ 0) (p1 : IsPer g x1 y1) (p2 : IsPer g x2 y2) : IsPer g a 0 ∧ IsPer g b d ∧ a * d = ((x1 * y2 - x2 * y1).natAbs : Int) := by
  obtain ⟨hd, ha, u, v, huv, hb⟩ := h
  have hd1 := (spans_bas hn).1
  rw [← hd] at hd1
  obtain ⟨p, hp⟩ : d ∣ y1 := by rw [hd]; exact Int.gcd_dvd_left ..
  obtain ⟨q, hq⟩ : d ∣ y2 := by rw [hd]; exact Int.gcd_dvd_right ..
  have e : x1 * y2 - x2 * y1 = d * (q * x1 - p * x2) := by
    rw [hp, hq, Int.mul_sub]
    congr 1
    · rw [Int.mul_comm q x1, ← Int.mul_assoc, Int.mul_comm x1 d, Int.mul_assoc]
    · rw [Int.mul_comm p x2, ← Int.mul_assoc, Int.mul_comm x2 d, Int.mul_assoc]
  have ea : a = ((q * x1 - p * x2).natAbs : Int) := by
    rw [ha, e]
    exact natAbs_ediv hd1
  have P0 : IsPer g (q * x1 - p * x2) 0 := ((p1.mul q).sub (p2.mul p)).cast rfl (by rw [hp, hq, ← Int.mul_assoc, ← Int.mul_assoc, Int.mul_comm q d, Int.mul_assoc, Int.mul_comm p d, Int.mul_assoc, Int.mul_comm q p]; omega)
  have PA : IsPer g a 0 := by
    rcases Int.natAbs_eq (q * x1 - p * x2) with z | z
    · rw [ea, ← z]
      exact P0
    · have := P0.neg
      exact this.cast (by omega) (by omega)
  refine ⟨PA, ?_, ?_⟩
  · have P1 : IsPer g (u * x1 + v * x2) d := ((p1.mul u).add (p2.mul v)).cast rfl huv
    have P2 := P1.sub (PA.mul ((u * x1 + v * x2) / a))
    refine P2.cast ?_ (by simp)
    rw [hb]
    have := Int.emod_add_mul_ediv (u * x1 + v * x2) a
    rw [Int.mul_comm a] at this
    omega
  · rw [ea, e, Int.natAbs_mul, Int.natCast_mul, Int.mul_comm]
    have : (d.natAbs : Int) = d := by omega
    rw [this]
theorem movd_per {t : Tn} {u v x y : Int} {f : Int → Int → Nat} (h : IsPer f x y) : IsPer (movd t u v f) (t.lx x y) (t.ly x y) := fun X Y => by
  unfold movd
  rw [show X + t.lx x y - u = (X - u) + t.lx x y by omega, show Y + t.ly x y - v = (Y - v) + t.ly x y by omega, Tn.lx_add, Tn.ly_add, Tn.inv_lx, Tn.inv_ly]
  exact h _ _
theorem turn_det (t : Tn) (A B D : Int) : (t.lx A 0 * t.ly B D - t.lx B D * t.ly A 0).natAbs = (A * D).natAbs := by
  cases t <;> simp [Tn.lx, Tn.ly, Int.natAbs_mul, Nat.mul_comm]
theorem str_sg {c : Nat} (h1 : 48 ≤ c) (h2 : c ≤ 57) : (toString ((c : Int) - 48) : Str) = sg c := by
  have : ∀ k : Fin 10, (toString (((48 + k.val : Nat) : Int) - 48) : Str) = sg (48 + k.val) := by decide +kernel
  have e := this ⟨c - 48, by omega⟩
  simp only at e
  rw [show 48 + (c - 48) = c by omega] at e
  exact e
theorem int_log {c : Nat} (h1 : 48 ≤ c) (h2 : c ≤ 57) : ((c : Int) - 48).natAbs.log2 < 1920 := by
  have : ((c : Int) - 48).natAbs < 2 ^ 10 := by omega
  have h := Nat.log2_lt (n := ((c : Int) - 48).natAbs) (k := 10)
  by_cases z : ((c : Int) - 48).natAbs = 0
  · rw [z]
    decide
  · exact Nat.lt_of_lt_of_le ((Nat.log2_lt z).mpr this) (by decide)
theorem un1 {k : Nat} {A : Around} (r : Room k A) : A.units + 1 < cLine := by
  have := r.units
  omega
/-! ### the tables of code objects -/
def tb (K : PySem.W.Frag) : List (Addr × Str) := [((He.cT K ("moved_carpet", none)).2, (d_moved_carpet.qual ++ ".<locals>.") ++ "<lambda>"), ((He.cT K ("woven", none)).2, (d_woven.qual ++ ".<locals>.") ++ "<lambda>")]
/-- how a heap grows when lambdas may be made -/
def Gr (K : PySem.W.Frag) (H H' : Hp) : Prop := LamX.ExtN H H' ∧ (LamX.Tabs (tb K) H → LamX.Tabs (tb K) H')
theorem evoGr (K : PySem.W.Frag) : Evo (Gr K) where
  refl := fun H => ⟨LamX.ExtN.refl H, id⟩
  trans := fun a b => ⟨a.1.trans b.1, fun t => b.2 (a.2 t)⟩
  same := fun e => ⟨LamX.ExtN.of e, fun t => t.ext e⟩
  lst := fun e h => e.1 _ _ h fun ps z => by cases z
  put := fun {H1 H D xs ys} e n hD => by
    refine ⟨fun b o h m => ?_, fun t p hp => ?_⟩
    · rw [upd_ne (ne_of_none h n)]
      exact e.1 b o h m
    · obtain ⟨ps, h1, h2, h3⟩ := e.2 t p hp
      refine ⟨ps, by rw [upd_ne (fun z => by rw [z, hD] at h1; cases h1)]; exact h1, h2, fun pos cv hc => ?_⟩
      obtain ⟨c, e1, e2⟩ := h3 pos cv hc
      refine ⟨c, e1, ?_⟩
      rw [upd_ne (fun z => by rw [z, hD] at e2; unfold LamX.CodeO at e2; cases e2)]
      exact e2
  kp := fun e b o h n m => e.1 b o h m
theorem Gr.tabs {K : PySem.W.Frag} {H H' : Hp} (g : Gr K H H') (t : LamX.Tabs (tb K) H) : LamX.Tabs (tb K) H' := g.2 t
abbrev TBs (K : PySem.W.Frag) (base : Heap) (mg : Str → Option Value) : Prop := ∀ p ∈ tf.map (He.cT K), LamX.TabB base mg p.1 p.2
section
variable {P : Program} {w : World} {K : PySem.W.Frag} {mg : Str → Option Value} {base : Heap}
theorem good_mkC {k : Nat} {x : Str} {ps N : List Str} {sp : Sp} {d : He.DefD} (hd : ∃ fd, FunD K d.name d.qual d.params d.body d.scope (d.dvs K) (d.kws K) (He.fAd K d.at_) fd) (hx : d.at_ = (x, none)) (h0 : d.dfl = []) (hm : mg x = some (.ref (He.ga K x)))
    (S : FnScope N ps d.scope) (hb : BindsD d ps) (len : ∀ vs H Q E, sp vs H Q E → vs.length = ps.length)
    (body : ∀ (f : Addr) (A : Around) (outer : List Env) (s : Shared) (H : Hp) (vs : List V) (Q : VK) (E : XK), Room k (A.deeper (envOfC d.qual d.scope s.heap.objs.size f (.ref (He.cT K (x, none)).1))) → sp vs H Q E →
      ∃ t, PSs (cxOf CX0 P w K mg base N d.qual d.scope f (.ref (He.cT K (x, none)).1) A outer s H E).nox d.body t ∧ t { nx := fun _ H' => Q .non H', rt := Q } (start N vs) H) : Good P w K mg base (k + 1) x ps sp := by
  obtain ⟨fd, F⟩ := hd
  have e : He.fAd K d.at_ = He.ga K x := by
    rw [hx]
    rfl
  have e2 : d.dvs K = [] := by
    unfold He.DefD.dvs
    rw [h0]
    rfl
  rw [e, e2] at F
  have F' := F
  obtain ⟨oc, od, dV, kV, doc, pm, an, cdv, ct, osl, rfl, lk, hcd, _, _⟩ := F.ex
  refine ⟨_, fn_of lk hcd S len (fun A outer s H vs Q E hr hs => ?_), hm, F.kp, F'.bindsN hb⟩
  obtain ⟨c, rfl⟩ := He.codeIn_ref hcd
  have ec : (He.cT K (x, none)).1 = c := He.codeOf_eq (p := (x, none)) lk rfl
  subst ec
  obtain ⟨t, a, b⟩ := body _ A outer s H vs Q E hr hs
  exact ⟨t, a.nox, b⟩
theorem TBs.woven (T : TBs K base mg) : LamX.TabB base mg (He.cT K ("woven", none)).1 (He.cT K ("woven", none)).2 := T _ (List.mem_cons_of_mem _ (List.mem_cons_self ..))
theorem TBs.moved (T : TBs K base mg) : LamX.TabB base mg (He.cT K ("moved_carpet", none)).1 (He.cT K ("moved_carpet", none)).2 := T _ (List.mem_cons_self ..)
theorem tb_ne (T : Txt w K mg) : (He.cT K ("moved_carpet", none)).2 ≠ (He.cT K ("woven", none)).2 := of_decide_eq_true (T.exf 9 rfl)
def lamW : Scope := { kind := .function, names := [("place", .local), ("signs", .free)], isGenerator := false, isCoroutine := false }
theorem nsW : NdefX.NScope ["place", "signs"] ["place"] ["signs"] lamW := NdefX.nscope_by (by decide +kernel)
theorem sc_wv : FnScope ["lattice", "colour_of", "signs", "place", "colour"] ["lattice", "colour_of"] d_woven.scope := ⟨rfl, rfl, rfl, by decide +kernel, rfl, by decide +kernel, by decide +kernel⟩
theorem lamW_fr : ∀ y ∈ lamW.names, y.2 = .free → d_woven.scope.names.lookup y.1 = some .cell ∨ d_woven.scope.names.lookup y.1 = some .free := by decide +kernel
theorem ok_woven (T : Txt w K mg) (TB : TBs K base mg) : Good P w K mg base 11 "woven" ["lattice", "colour_of"] (fun vs H Q _ => ∃ l f a b d g, vs = [.ref l, .ref f] ∧ LatAt K H l a b d ∧ Bas a b d ∧ a * d ≤ 144 ∧ Clo P w K mg base 9 H f (spCell a d fun x y => .int ((g x y : Nat) - 48)) ∧
    (∀ x y, 48 ≤ g x y ∧ g x y ≤ 57) ∧ LamX.Tabs (tb K) H ∧ ∀ p H' A B D, Gr K H H' → CarO K H' p (colr a b d (rowsS g a.toNat d.toNat)) A B D a b d (rowsS g a.toNat d.toNat) → Q (.ref p) H') := by
  refine good_mkC (d := d_woven) T.d_woven rfl rfl T.g_woven sc_wv
    (fun _ _ _ _ _ _ us hl => match us, hl with | [_, _], _ => rfl) (fun vs H Q E h => ?_) (fun f0 A outer s H vs Q E hr h => ?_)
  · obtain ⟨l, f, a, b, d, g, rfl, _⟩ := h
    rfl
  · obtain ⟨l, f, a, b, d, g, rfl, hl, hb, hs, C, hg, hT, q⟩ := h
    have nd := sc_wv.nd
    obtain ⟨dx, hl0⟩ := id hl
    have hbs := bas_small hb hs
    obtain ⟨⟨h1, h2, h3, h4⟩, h5, h6⟩ := id hbs
    obtain ⟨fd, FI, bI⟩ := ok_car_init (P := P) (w := w) (base := base) (mg := mg) T
    refine ⟨_, (pss_cons (ps_expr (pe_fn (ok_check_lattice T) hr (pa_cons (pv 0) pa_nil)))
      (pss_cons (ps_expr (pe_fn (ok_check_size T) hr (pa_cons (pe_m0 (K := K) rfl (ok_area T) T.c_Lattice T.m_Lattice_area hr (pv 0)) pa_nil)))
      (pss_cons (ps_set (i := 2) nd rfl (Or.inr rfl) pe_dnewT)
      (pss_cons (ps_for PassesOwn.never rfl (pi_list (pe_m0 (K := K) rfl (ok_places T) T.c_Lattice T.m_Lattice_places hr (pv 0))) (pg_name (i := 3) nd rfl (Or.inl rfl))
        (pss_cons (ps_set (i := 4) nd rfl (Or.inl rfl) (pe_clo (i := 1) (P := P) (w := w) (K := K) (mg := mg) (base := base) (j := 9) rfl rfl rfl rfl rfl hr rfl (by first | exact Or.inl rfl | exact Or.inr (Or.inl rfl) | exact Or.inr (Or.inr rfl)) (pa_cons (pv 3) pa_nil)))
        (pss_cons (ps_expr (pe_fn (ok_check_colour T) hr (pa_cons (pv 4) pa_nil)))
        (pss_one (ps_dput (un1 hr) (pv 2) (pv 3) (pe_callTy call_str_int (by rfl) T.f_str b_str (pa_cons (pv 4) pa_nil)) rfl)))))
      (pss_one (ps_ret (pe_make T.mk_Carpet FI (hr.mono (by decide)) (by rfl) T.g_Carpet bI .nil pass0 (pa_cons (pe_fld (pv 0) rfl) (pa_cons (pe_fld (pv 0) rfl) (pa_cons (pe_fld (pv 0) rfl) (pa_cons
        (pe_callClo (fr := ["signs"]) (js := [2]) (ok_rows_by T) hr (fun _ => rfl) (fun ok => NdefX.Caps.made (scope := lamW) ok lamW_fr (by decide +kernel) rfl) clo_nd
          (pa_cons (pv 0) (pa_cons (pe_lamL (T := tb K) TB.woven rfl (List.mem_cons_of_mem _ (List.mem_cons_self ..)) (fun p hp e => by
            rcases List.mem_cons.mp hp with z | z
            · exact absurd ((congrArg Prod.fst z).symm.trans e) (tb_ne T)
            · exact congrArg Prod.snd (List.mem_singleton.mp z)) rfl lamW_fr) pa_nil))) pa_nil))))))))))), ?_⟩
    have hD := hl0
    refine ⟨_, rfl, l, a, b, d, rfl, hl, ?_⟩
    refine ⟨_, rfl, l, dx, _, rfl, hl0, latF_no _ _ _ (by decide +kernel) (by decide +kernel) (by decide +kernel), l, a, b, d, rfl, hl, hbs, _, rfl, hs, ?_⟩
    intro D nD
    have e1 : Same H (upd H D (.dT [])) := same_new nD
    refine ⟨_, rfl, l, dx, _, rfl, e1 _ _ hl0, latF_no _ _ _ (by decide +kernel) (by decide +kernel) (by decide +kernel), l, a, b, d, rfl, hl.same e1, hbs, fun p2 H2 e2 np2 ⟨ys, hys, pys⟩ => ?_⟩
    have ly := paired_len pys
    have ll : ys.length ≤ 144 := by
      rw [ly, places_len]
      have : ((d.toNat * a.toNat : Nat) : Int) = a * d := by
        rw [Int.natCast_mul, Int.toNat_of_nonneg (by omega), Int.toNat_of_nonneg (by omega), Int.mul_comm]
      omega
    have fresh : ∀ {b0 o}, H b0 = some o → b0 ≠ D := fun {b0 o} h => ne_of_none h nD
    refine ⟨p2, rfl, ⟨_, SqL.of hys⟩, for_list (K := K) (a := p2) (xs := ys) (fun i σ H3 => ∃ v u kvs, σ = [some (.ref l), some (.ref f), some (.ref D), v, u] ∧ (∀ b0 o, H2 b0 = some o → b0 ≠ D → H3 b0 = some o) ∧ H3 D = some (.dT kvs) ∧ kvs.length ≤ i ∧
      ∀ (j : Nat) (c : Int × Int), j < i → (placesL a.toNat d.toNat)[j]? = some c → valV kvs [.inl c.1, .inl c.2] = some (.str (sg (g c.1 c.2))))
      ⟨none, none, [], rfl, fun b0 o h _ => h, e2 _ _ upd_same, Nat.le_refl _, fun j c h => absurd h (Nat.not_lt_zero _)⟩ ?_ ?_ ?_⟩
    · rintro i σ H3 _ ⟨_, _, _, _, e3, _⟩
      exact SqL.of (e3 _ _ hys fun z => by rw [z] at np2; rw [upd_same] at np2; cases np2)
    · rintro i x σ H3 hx ⟨v, u, kvs, rfl, e3, hD3, hlen, hval⟩
      have hi : i < (placesL a.toNat d.toNat).length := by
        rw [← ly]
        exact (List.getElem?_eq_some_iff.mp hx).1
      obtain ⟨z', hz', r', rfl, hr'⟩ := paired_at pys (List.getElem?_eq_getElem hi)
      rw [hx] at hz'
      cases hz'
      obtain ⟨c, hce⟩ : ∃ c, (placesL a.toNat d.toNat)[i] = c := ⟨_, rfl⟩
      rw [hce] at hr'
      have hm : (c.1, c.2) ∈ placesL a.toNat d.toNat := by
        have := List.getElem_mem hi
        rw [hce] at this
        exact this
      obtain ⟨c1, c2, c3, c4⟩ := mem_places.mp hm
      have e03 : Kp H H3 := fun b0 o h _ _ => e3 _ _ (e2 _ _ (e1 _ _ h)) (fresh h)
      have hr3 : H3 r' = some (.tup [.int c.1, .int c.2]) := e3 _ _ hr' fun z => by rw [z, e2 _ _ upd_same] at hr'; cases hr'
      refine ⟨f, _, rfl, C.kp e03, _, rfl, C.kp e03, r', c.1, c.2, rfl, hr3, ⟨c1, by omega⟩, ⟨c3, by omega⟩, fun H4 e4 => ?_⟩
      obtain ⟨g1, g2⟩ := hg c.1 c.2
      refine ⟨_, rfl, _, rfl, by omega, by omega, ?_⟩
      refine ⟨_, rfl, _, rfl, int_log g1 g2, _, rfl, _, rfl, D, _, rfl, DPut.t (k := [.inl c.1, .inl c.2]) (e4 _ _ hD3) (e4 _ _ hr3) ?_, ?_⟩
      · exact Nat.lt_of_le_of_lt (Nat.le_trans hlen (show i ≤ 144 by rw [← ly] at hi; omega)) (by decide)
      · refine ⟨_, _, _, rfl, fun b0 o h n => by rw [upd_ne n]; exact e4 _ _ (e3 _ _ h n), upd_same, Nat.le_trans (length_putK _ _ _) (Nat.succ_le_succ hlen), fun j c' hj hc' => ?_⟩
        rw [valV_put]
        by_cases hk : ([.inl c'.1, .inl c'.2] : List Key) = [.inl c.1, .inl c.2]
        · rw [if_pos hk]
          injection hk with k1 k2
          injection k2 with k2 _
          injection k1 with k1
          injection k2 with k2
          rw [k1, k2, str_sg g1 g2]
        · rw [if_neg hk]
          refine hval j c' ?_ hc'
          by_cases hji : j = i
          · subst hji
            rw [List.getElem?_eq_getElem hi, hce] at hc'
            exact absurd (by rw [Option.some.inj hc']) hk
          · omega
    · rintro σ H3 ⟨v, u, kvs, rfl, e3, hD3, hlen, hval⟩
      have e03 : ∀ b0 o, H b0 = some o → H3 b0 = some o := fun b0 o h => e3 _ _ (e2 _ _ (e1 _ _ h)) (fresh h)
      have hl3 := e03 _ _ hl0
      refine ⟨_, rfl, l, _, dx, _, _, rfl, hl3, T.c_Lattice, T.n_Lattice_a, latF_a _ _ _, _, rfl, l, _, dx, _, _, rfl, hl3, T.c_Lattice, T.n_Lattice_b, latF_b _ _ _, _, rfl, l, _, dx, _, _, rfl, hl3, T.c_Lattice, T.n_Lattice_d, latF_d _ _ _, ?_⟩
      refine ⟨_, rfl, hT.ext e03, fun fl c' H4 x4 T4 nf hf hc => ?_⟩
      intro H5 nC o5 C5
      have keep45 : ∀ b0 o, H4 b0 = some o → H5 b0 = some o := fun b0 o h => by
        rw [o5 b0 fun hm => by rw [nC b0 hm] at h; cases h]
        exact h
      have hl5 : H5 l = some (.ins (CL K) dx (latF a b d)) := keep45 _ _ (x4 _ _ hl3 fun ps z => by cases z)
      have hD5 : H5 D = some (.dT kvs) := keep45 _ _ (x4 _ _ hD3 fun ps z => by cases z)
      refine ⟨l, fl, a, b, d, g, rfl, ⟨dx, hl5⟩, hbs, ?_, fun rp H6 e6 hrp => ?_⟩
      · refine clo_of (N := ["place", "signs"]) (ps := ["place"]) (fr := ["signs"]) (k := 0) nsW (keep45 _ _ hf) (keep45 _ _ hc) C5 clo_nd (fun pm ctv us hl => match us, hl with | [_], _ => rfl) (fun vs H Q E h => ?_) (fun A' outer' s' H' vs Q' E' ek hr' h => ?_)
        · obtain ⟨p, x, y, rfl, _⟩ := h
          rfl
        · obtain ⟨p, x, y, rfl, hp, ⟨x1, x2⟩, ⟨y1, y2⟩, q'⟩ := h
          have ft := unl_fit (C5.kp ek) clo_nd
          refine ⟨_, pe_dget (un1 hr') (pv 1) (pv 0) (fun _ _ => rfl), ?_⟩
          obtain ⟨j, hj⟩ := List.getElem?_of_mem ((mem_places (a := a.toNat) (d := d.toNat) (x := x) (y := y)).mpr ⟨x1, by omega, y1, by omega⟩)
          have hv := hval j (x, y) (by rw [ly]; exact (List.getElem?_eq_some_iff.mp hj).1) hj
          refine ⟨_, rfl, _, rfl, D, _, rfl, ?_, q' _ (same_rel (Same.refl _))⟩
          have := DGet.t (k := [.inl x, .inl y]) (kvs := kvs) (ft _ _ (ek.dT hD5) fun o z => by cases z) (ft.tup hp)
          rw [hv] at this
          exact this
      · have ft := unl_fit (C5.kp (Kp.of e6)) clo_nd
        have k46 : ∀ b0 o, H4 b0 = some o → unl _ H6 b0 = some o := fun b0 o h => by
          rw [unl_out fun hm => by rw [nC b0 hm] at h; cases h]
          exact e6 _ _ (keep45 _ _ h)
        refine make_car (K := K) (.inr (SqT.of (ft.tup hrp))) hb hs (rowsOk_of hg (by omega) (by omega)) fun x H7 A' B' D' e7 c7 => ?_
        refine q x H7 A' B' D' ⟨fun b0 o h n => e7 _ _ (k46 _ _ (x4 _ _ (e03 _ _ h) n)), fun _ => T4.ext fun b0 o h => e7 _ _ (k46 _ _ h)⟩ c7
end
end K84
set_option Elab.async false
set_option linter.all false
set_option maxRecDepth 100000
set_option maxHeartbeats 1000000
/-! moved_carpet -/
namespace K84
open PySem PySem.Spec PyProof.Rows L2
theorem turn_sm (t : Tn) {x y : Int} (hx : Sm x) (hy : Sm y) : Sm (t.lx x y) ∧ Sm (t.ly x y) := by
  unfold Sm at *
  cases t <;> simp only [Tn.lx, Tn.ly] <;> omega
theorem Fit.form {H H' : Hp} (e : Fit H H') {sh : Addr} {f : Int → Int → Nat} {A B D : Int} (h : FormAt H sh f A B D) : FormAt H' sh f A B D := let ⟨rn, h1, h2⟩ := h; ⟨rn, e.tup h1, e.tup h2⟩
theorem CarO.fit {K : PySem.W.Frag} {H H' : Hp} {p : Addr} {f : Int → Int → Nat} {A B D a b d : Int} {rows : List Str} (h : CarO K H p f A B D a b d rows) (e : Fit H H') : CarO K H' p f A B D a b d rows := by
  obtain ⟨dx, r, l, sh, h1, h2, h3, h4⟩ := h.ob
  exact ⟨⟨dx, r, l, sh, e.ins h1, e.sqT h2, e.lat h3, e.form h4⟩, h.ba, h.sz, h.ro, h.ef, h.le, h.dA, h.dD⟩
theorem CarAt.fit {K : PySem.W.Frag} {H H' : Hp} {p : Addr} {f : Int → Int → Nat} {A B D : Int} (h : CarAt K H p f A B D) (e : Fit H H') : CarAt K H' p f A B D := let ⟨a, b, d, rows, h⟩ := h; ⟨a, b, d, rows, h.fit e⟩
theorem MotAt.fit {K : PySem.W.Frag} {H H' : Hp} {p : Addr} {t : Tn} {u v : Int} (h : MotAt K H p t u v) (e : Fit H H') : MotAt K H' p t u v := by
  obtain ⟨dx, s, h1, h2⟩ := h
  exact ⟨dx, s, e.ins h1, e.sqT h2⟩
theorem tabs_fit {H H' : Hp} {TL : List (Addr × Str)} (e : Fit H H') (t : LamX.Tabs TL H) : LamX.Tabs TL H' := fun p hp => by
  obtain ⟨ps, h1, h2, h3⟩ := t p hp
  refine ⟨ps, e _ _ h1 fun o z => (by cases z), h2, fun pos cv hc => ?_⟩
  obtain ⟨c, e1, e2⟩ := h3 pos cv hc
  exact ⟨c, e1, e _ _ e2 fun o z => by unfold LamX.CodeO at z; cases z⟩
section
variable {P : Program} {w : World} {K : PySem.W.Frag} {mg : Str → Option Value} {base : Heap}
def lamM : Scope := { kind := .function, names := [("cell", .local), ("carpet", .free), ("motion", .free)], isGenerator := false, isCoroutine := false }
theorem lamM_fr : ∀ y ∈ lamM.names, y.2 = .free → d_moved_carpet.scope.names.lookup y.1 = some .cell ∨ d_moved_carpet.scope.names.lookup y.1 = some .free := by decide +kernel
theorem nsM : NdefX.NScope ["cell", "carpet", "motion"] ["cell"] ["carpet", "motion"] lamM := NdefX.nscope_by (by decide +kernel)
theorem sc_mc : FnScope ["motion", "carpet", "least", "lattice"] ["motion", "carpet"] d_moved_carpet.scope := ⟨rfl, rfl, rfl, by decide +kernel, rfl, by decide +kernel, by decide +kernel⟩
theorem ok_moved (T : Txt w K mg) (TB : TBs K base mg) : Good P w K mg base 12 "moved_carpet" ["motion", "carpet"] (fun vs H Q _ => ∃ m p t u v f A B D, vs = [.ref m, .ref p] ∧ MotAt K H m t u v ∧ CarAt K H p f A B D ∧ LamX.Tabs (tb K) H ∧
    ∀ p' H' A' B' D', Gr K H H' → CarN K H' p' (movd t u v f) A' B' D' → Q (.ref p') H') := by
  refine good_mkC (d := d_moved_carpet) T.d_moved_carpet rfl rfl T.g_moved_carpet sc_mc
    (fun _ _ _ _ _ _ us hl => match us, hl with | [_, _], _ => rfl) (fun vs H Q E h => ?_) (fun f0 Ar outer s H vs Q E hr h => ?_)
  · obtain ⟨m, p, t, u, v, f, A, B, D, rfl, _⟩ := h
    rfl
  · obtain ⟨m, p, t, u, v, f, A, B, D, rfl, hm, hc, hT, q⟩ := h
    have nd := sc_mc.nd
    obtain ⟨dm, sf, hm1, hm2⟩ := id hm
    obtain ⟨a, b, d, rows, co⟩ := id hc
    obtain ⟨dx, r, l, sh, h1, h2, h3, h4⟩ := co.ob
    refine ⟨_, (pss_cons (ps_expr (pe_fn (ok_check_motion T) hr (pa_cons (pv 0) pa_nil)))
      (pss_cons (ps_if (pt_not (pt_val (pe_callB call_isi (by rfl) T.f_isinstance b_isinstance (pa_cons (pv 1) (pa_cons (pe_glob (v := .ref (CC K)) rfl T.g_Carpet rfl) pa_nil))))) (pss_one ps_never) pss_nil)
      (pss_cons (ps_set (i := 2) nd rfl (Or.inl rfl) (pe_m0 (K := K) rfl (ok_c_least T) T.c_Carpet T.m_Carpet_least hr (pv 1)))
      (pss_cons (ps_set (i := 3) nd rfl (Or.inl rfl) (pe_fn (ok_spanned T) hr (pa_cons (pe_fn (ok_turned_pair T) hr (pa_cons (pe_fld (pv 0) rfl) (pa_cons (pe_tup (pa_cons (pe_fld (pv 2) rfl) (pa_cons pe_int pa_nil))) pa_nil))) (pa_cons (pe_fn (ok_turned_pair T) hr (pa_cons (pe_fld (pv 0) rfl) (pa_cons (pe_tup (pa_cons (pe_fld (pv 2) rfl) (pa_cons (pe_fld (pv 2) rfl) pa_nil))) pa_nil))) pa_nil))))
      (pss_one (ps_ret (pe_m0 (K := K) rfl (ok_c_in_normal T) T.c_Carpet T.m_Carpet_in_normal hr (pe_callClo (fr := ["carpet", "motion"]) (js := [1, 0]) (ok_woven T TB) hr (fun _ => rfl) (fun ok => NdefX.Caps.made (scope := lamM) ok lamM_fr (by decide +kernel) rfl) clo_nd
        (pa_cons (pv 3) (pa_cons (pe_lamL (T := tb K) TB.moved rfl (List.mem_cons_self ..) (fun p hp e => by
            rcases List.mem_cons.mp hp with z | z
            · exact congrArg Prod.snd z
            · exact absurd (e.symm.trans (congrArg Prod.fst (List.mem_singleton.mp z))) (tb_ne T)) rfl lamM_fr) pa_nil)))))))))), ?_⟩
    obtain ⟨ei1, ei2⟩ := isi_own (T.exf 6 rfl) T.c_Carpet h1
    refine ⟨_, rfl, m, t, u, v, rfl, hm, _, rfl, _, _, _, _, true, rfl, .own _, ei1, ei2, _, rfl, iteF ?_⟩
    refine ⟨_, rfl, p, dx, _, rfl, h1, carF_no (by decide +kernel), p, f, A, B, D, rfl, hc, fun l' hl' => ?_⟩
    obtain ⟨dl, hl0⟩ := id hl'
    obtain ⟨bA, bB, bBA, bD⟩ := id co.le.1
    have hsz := co.least_sz
    obtain ⟨⟨_, _, _, _⟩, sA, sD⟩ := bas_small co.le.1 hsz
    refine ⟨_, rfl, m, _, dm, _, _, rfl, hm1, T.c_Motion, T.n_Motion_turn, motF_turn, _, rfl, l', _, dl, _, _, rfl, hl0, T.c_Lattice, T.n_Lattice_a, latF_a _ _ _, two_le, fun z1 hz1 => ?_⟩
    have k1 := same_new (o := .tup [.int A, .int 0]) hz1
    refine ⟨t, z1, A, 0, rfl, SqT.of upd_same, fun r1 hr1 => ?_⟩
    have k2 := k1.trans (same_new (o := .tup [.int (t.lx A 0), .int (t.ly A 0)]) hr1)
    refine ⟨_, rfl, m, _, dm, _, _, rfl, k2 _ _ hm1, T.c_Motion, T.n_Motion_turn, motF_turn, _, rfl, l', _, dl, _, _, rfl, k2 _ _ hl0, T.c_Lattice, T.n_Lattice_b, latF_b _ _ _, _, rfl, l', _, dl, _, _, rfl, k2 _ _ hl0, T.c_Lattice, T.n_Lattice_d, latF_d _ _ _, two_le, fun z2 hz2 => ?_⟩
    have k3 := same_new (o := .tup [.int B, .int D]) hz2
    refine ⟨t, z2, B, D, rfl, SqT.of upd_same, fun r2 hr2 => ?_⟩
    have k4 := k3.trans (same_new (o := .tup [.int (t.lx B D), .int (t.ly B D)]) hr2)
    have sm1 := turn_sm t (x := A) (y := 0) ⟨by omega, by omega⟩ ⟨by omega, by omega⟩
    have sm2 := turn_sm t (x := B) (y := D) ⟨by omega, by omega⟩ ⟨by omega, by omega⟩
    have hdet := turn_det t A B D
    have hAD : 1 ≤ A * D := Int.le_trans (by decide) (Int.mul_le_mul bA bD (by decide) (by omega))
    have hne : t.lx A 0 * t.ly B D - t.lx B D * t.ly A 0 ≠ 0 := fun z => by
      rw [z] at hdet
      omega
    refine ⟨r1, r2, _, _, _, _, rfl, SqT.of (k4 _ _ upd_same), SqT.of upd_same, sm1.1, sm1.2, sm2.1, sm2.2, hne, fun ls H5 a5 b5 d5 e5 hls hsp hb5 => ?_⟩
    have e05 : Same H H5 := k2.trans (k4.trans e5)
    obtain ⟨p1, p2, ps⟩ := spans_per (g := movd t u v f) hsp hne (movd_per co.le.pA) (movd_per co.le.pD)
    have hrg : ∀ x y, 48 ≤ movd t u v f x y ∧ movd t u v f x y ≤ 57 := fun x y => co.range _ _
    refine ⟨_, rfl, hT.ext e05, fun fl c' H6 x6 T6 nf hf hcc => ?_⟩
    intro H7 nC o7 C7
    have keep67 : ∀ b0 o, H6 b0 = some o → H7 b0 = some o := fun b0 o h => by
      rw [o7 b0 fun hm => by rw [nC b0 hm] at h; cases h]
      exact h
    have keep57 : Kp H5 H7 := fun b0 o h n m => keep67 _ _ (x6 _ _ h m)
    have kp07 : Kp H H7 := (Kp.of e05).trans keep57
    refine ⟨ls, fl, a5, b5, d5, movd t u v f, rfl, keep57.lat hls, hb5, by rw [ps, hdet]; omega, ?_, hrg, T6.ext keep67, fun cp H8 A' B' D' g8 hcp => ?_⟩
    · refine clo_of (N := ["cell", "carpet", "motion"]) (ps := ["cell"]) (fr := ["carpet", "motion"]) (k := 8) nsM (keep67 _ _ hf) (keep67 _ _ hcc) C7 clo_nd (fun pm ctv us hl => match us, hl with | [_], _ => rfl) (fun vs H Q E h => ?_) (fun A2 outer' s' H' vs Q' E' ek hr' h => ?_)
      · obtain ⟨p, x, y, rfl, _⟩ := h
        rfl
      · obtain ⟨c, x, y, rfl, hpc, _, _, q'⟩ := h
        have ft := unl_fit (C7.kp ek) clo_nd
        have hm' := (hm.kp (kp07.trans ek)).fit ft
        have hc' := (hc.kp (kp07.trans ek)).fit ft
        obtain ⟨dm', sf', hm1', hm2'⟩ := id hm'
        obtain ⟨a', b', d', rows', co'⟩ := id hc'
        obtain ⟨dx', r', l', sh', h1', _⟩ := co'.ob
        refine ⟨_, pe_m (K := K) rfl (ok_c_colour T) T.c_Carpet T.m_Carpet_colour hr' (pv 1) (pa_cons (pe_m (K := K) rfl (ok_led_back T) T.c_Motion T.m_Motion_led_back hr' (pv 2) (pa_cons (pv 0) pa_nil)) pa_nil), ?_⟩
        refine ⟨_, rfl, p, dx', _, rfl, h1', carF_no (by decide +kernel), _, rfl, m, dm', _, rfl, hm1', motF_no (by decide +kernel), _, rfl, m, c, t, u, v, x, y, rfl, hm', SqT.of (ft.tup hpc), fun p9 H9 e9 hp9 => ?_⟩
        refine ⟨p, p9, f, A, B, D, _, _, rfl, hc'.kp (Kp.of e9), hp9, fun H10 e10 => ?_⟩
        exact q' _ (same_rel (e9.trans e10))
    · have ft := unl_fit (C7.kp ((evoGr K).kp g8)) clo_nd
      have efn : colr a5 b5 d5 (rowsS (movd t u v f) a5.toNat d5.toNat) = movd t u v f := colr_rowsP hb5 p1 p2
      rw [efn] at hcp
      have hcp' := hcp.fit ft
      obtain ⟨dy, r9, l9, sh9, h19, _⟩ := hcp'.ob
      refine ⟨cp, dy, _, rfl, h19, carF_no (by decide +kernel), cp, movd t u v f, A', B', D', rfl, ⟨_, _, _, _, hcp'⟩, fun p9 H9 e9 h9 => ?_⟩
      have k68 : ∀ b0 o, H6 b0 = some o → (∀ ps, o ≠ .tbl ps) → unl _ H8 b0 = some o := fun b0 o h n => by
        rw [unl_out fun hm => by rw [nC b0 hm] at h; cases h]
        exact g8.1 _ _ (keep67 _ _ h) n
      refine q p9 H9 A' B' D' ⟨fun b0 o h n => e9 _ _ (k68 _ _ (x6 _ _ (e05 _ _ h) n) n), fun _ => ?_⟩ h9
      have T8 := g8.2 (T6.ext keep67)
      exact (tabs_fit ft T8).ext fun b0 o h => e9 _ _ h
end
end K84
set_option Elab.async false
set_option linter.all false
set_option maxRecDepth 100000
set_option maxHeartbeats 1000000
/-! shifted_rows, all_shifted -/
namespace K84
open PySem PySem.Spec PyProof.Rows L2
theorem per_mod {f : Int → Int → Nat} {A B D : Int} (hA : 1 ≤ A) (hD : 1 ≤ D) (pA : IsPer f A 0) (pD : IsPer f B D) (x y : Int) : f ((x - y / D * B) % A) (y % D) = f x y := by
  have p : IsPer f ((x - y / D * B) / A * A + y / D * B) (y / D * D) := ((pA.mul _).add (pD.mul (y / D))).cast rfl (by simp)
  have := p ((x - y / D * B) % A) (y % D)
  rw [← this]
  have e1 := Int.emod_add_mul_ediv y D
  have e2 := Int.emod_add_mul_ediv (x - y / D * B) A
  rw [Int.mul_comm D] at e1
  rw [Int.mul_comm A] at e2
  congr 1 <;> omega
theorem rowS_at {f : Int → Int → Nat} {n : Nat} {y i : Int} (h0 : 0 ≤ i) (h1 : i < n) : atI (rowS f n y).cps.toList i = some (f i y) := by
  refine atI_of h0 ?_
  have e : (rowS f n y).cps.toList = (List.range n).map fun i => f ((i : Nat) : Int) y := by simp [rowS]
  rw [e, List.getElem?_map, List.getElem?_range (by omega)]
  show some (f ((i.toNat : Nat) : Int) y) = _
  rw [Int.toNat_of_nonneg h0]
theorem rowS_len {f : Int → Int → Nat} {n : Nat} {y : Int} : (rowS f n y).length = n := by
  show (((List.range n).map fun i => f ((i : Nat) : Int) y).toArray).size = n
  simp
section
variable {P : Program} {w : World} {K : PySem.W.Frag} {mg : Str → Option Value} {base : Heap}
theorem sc_sr : FnScope ["form", "across", "up", "a", "b", "d", "rows", "found", "y", "k", "row", "back", "x"] ["form", "across", "up"] d_shifted_rows.scope := ⟨rfl, rfl, rfl, by decide +kernel, rfl, by decide +kernel, by decide +kernel⟩
theorem ok_shifted_rows (T : Txt w K mg) : Good P w K mg base 1 "shifted_rows" ["form", "across", "up"] (fun vs H Q _ => ∃ sh u v f A B D, vs = [.ref sh, .int u, .int v] ∧ FormAt H sh f A B D ∧ BasS A B D ∧ IsPer f A 0 ∧ IsPer f B D ∧
    ∀ p H', Same H H' → H' p = some (.tup ((rowsS (movd .stay u v f) A.toNat D.toNat).map V.str)) → Q (.ref p) H') := by
  refine good_mk (d := d_shifted_rows) T.d_shifted_rows rfl rfl T.g_shifted_rows sc_sr
    (fun _ _ _ _ _ _ us hl => match us, hl with | [_, _, _], _ => rfl) (fun vs H Q E h => ?_) (fun f0 cdv Ar outer s H vs Q E hr h => ?_)
  · obtain ⟨sh, u, v, f, A, B, D, rfl, _⟩ := h
    rfl
  · obtain ⟨sh, u, v, f, A, B, D, rfl, ⟨rn, hf1, hf2⟩, ⟨⟨h1, h2, h3, h4⟩, h5, h6⟩, pA, pD, q⟩ := h
    have nd := sc_sr.nd
    refine ⟨_, (pss_cons (ps_asg (pv 0) (pg_tup rfl (pgs_cons (pg_name (i := 3) nd rfl (Or.inr rfl)) (pgs_cons (pg_name (i := 4) nd rfl (Or.inl rfl)) (pgs_cons (pg_name (i := 5) nd rfl (Or.inl rfl)) (pgs_cons (pg_name (i := 6) nd rfl (Or.inl rfl)) pgs_nil))))))
      (pss_cons (ps_set (i := 7) nd rfl (Or.inl rfl) (pe_lst pa_nil))
      (pss_cons (ps_for PassesOwn.never rfl (pi_range1 (by rfl) T.f_range (pa_cons (pv 5) pa_nil)) (pg_name (i := 8) nd rfl (Or.inl rfl))
        (pss_cons (ps_set (i := 9) nd rfl (Or.inl rfl) (pe_op op_fdiv (pe_callTy call_int1 (by rfl) T.f_int b_int (pa_cons (pe_op op_sub (pv 8) (pv 2)) pa_nil)) (pv 5)))
        (pss_cons (ps_asg (pe_tup (pa_cons (pe_ix ix_tup (pv 6) (pe_op op_sub (pe_op op_sub (pv 8) (pv 2)) (pe_op op_mul (pv 9) (pv 5))) (fun _ _ => rfl)) (pa_cons (pe_op op_mul (pv 4) (pv 9)) pa_nil))) (pg_tup rfl (pgs_cons (pg_name (i := 10) nd rfl (Or.inr rfl)) (pgs_cons (pg_name (i := 11) nd rfl (Or.inr rfl)) pgs_nil))))
        (pss_one (ps_expr (pe_bm PySem.F.plainAttrs_list PySem.F.slot_list_append PySem.F.type_list_append mt_append (pv 7) (pa_cons (pe_join pe_str (pe_lc (own := [("x", 12)]) rfl nd (pi_range1 (by rfl) T.f_range (pa_cons (pv 3) pa_nil)) (blkOk_by (own := [("x", 12)]) (N := ["form", "across", "up", "a", "b", "d", "rows", "found", "y", "k", "row", "back", "x"]) (sc := d_shifted_rows.scope) (by decide +kernel)) (fun _ _ _ _ _ => (pg_name (i := 12) nd rfl (Or.inl rfl))) (fun _ _ _ _ _ => pts_nil)
          (fun _ _ _ _ _ => (pe_ix ix_str (pv 10) (pe_op op_mod (pe_callTy call_int1 (by rfl) T.f_int b_int (pa_cons (pe_op op_sub (pe_op op_sub (pv 12) (pv 1)) (pv 11)) pa_nil)) (pv 3)) (fun _ _ => rfl))))) pa_nil)))))))
      (pss_one (ps_ret (pe_callTy call_tuple_of (by rfl) T.f_tuple b_tuple (pa_cons (pv 7) pa_nil))))))), ?_⟩
    refine ⟨_, rfl, sh, _, rfl, SqT.of hf1, rfl, _, _, rfl, _, _, rfl, _, _, rfl, _, _, rfl, rfl, ?_⟩
    refine ⟨Nat.zero_le _, fun p hp => ?_⟩
    have e0 : Same H (upd H p (.lst [])) := same_new hp
    refine ⟨_, rfl, _, rfl, by omega, by omega, for_range (lo := 0) (n := D.toNat)
      (fun i σ H2 => ∃ y k r bk, σ = [some (.ref sh), some (.int u), some (.int v), some (.int A), some (.int B), some (.int D), some (.ref rn), some (.ref p), y, k, r, bk, none] ∧ Same H H2 ∧ H2 p = some (.lst (((List.range i).map fun j => rowS (movd .stay u v f) A.toNat ((j : Nat) : Int)).map V.str)))
      ⟨none, none, none, none, rfl, e0, upd_same⟩ ?_ ?_⟩
    · rintro i σ H2 hi ⟨y, k, r, bk, rfl, e2, hp2⟩
      have n1 := Int.emod_nonneg (0 + (i : Int) - v) (show D ≠ 0 by omega)
      have l1 := Int.emod_lt_of_pos (0 + (i : Int) - v) (show 0 < D by omega)
      have ed := Int.emod_add_mul_ediv (0 + (i : Int) - v) D
      have eix : 0 + (i : Int) - v - (0 + (i : Int) - v) / D * D = (0 + (i : Int) - v) % D := by
        rw [Int.mul_comm]
        omega
      refine ⟨_, rfl, _, rfl, _, _, rfl, rfl, .inl ⟨_, rfl, _, rfl, _, _, rfl, rfl, ⟨show 0 < D by omega, show D < 1073741824 by omega⟩, ?_⟩⟩
      refine ⟨_, rfl, _, rfl, _, rfl, _, _, rfl, rfl, _, rfl, _, rfl, _, _, rfl, rfl, .inr ⟨by omega, by omega⟩, _, _, rfl, rfl, _, _, _, V.str (rowS f A.toNat ((0 + (i : Int) - v) % D)), rfl, rfl, sqT_same e2 (SqT.of hf2), ?_, ?_⟩
      · show atI _ (0 + (i : Int) - v - (0 + (i : Int) - v) / D * D) = _
        rw [eix]
        refine atI_of n1 ?_
        rw [List.getElem?_map]
        unfold rowsS
        rw [List.getElem?_map, List.getElem?_range (by omega)]
        show some (V.str (rowS f A.toNat ((((0 + (i : Int) - v) % D).toNat : Nat) : Int))) = _
        rw [Int.toNat_of_nonneg n1]
      · refine ⟨_, rfl, _, rfl, _, _, rfl, rfl, .inl ⟨by omega, by omega⟩, two_le, fun z hz => ?_⟩
        refine ⟨z, _, rfl, SqT.of upd_same, rfl, _, _, rfl, _, _, rfl, rfl, ?_⟩
        have e3 := e2.trans (same_new (o := .tup [.str (rowS f A.toNat ((0 + (i : Int) - v) % D)), .int (B * ((0 + (i : Int) - v) / D))]) hz)
        have hp3 := same_new (o := .tup [.str (rowS f A.toNat ((0 + (i : Int) - v) % D)), .int (B * ((0 + (i : Int) - v) / D))]) hz _ _ hp2
        refine ⟨_, rfl, .inl ⟨rfl, _, SqL.of hp3⟩, ⟨_, rfl⟩, _, rfl, _, rfl, by omega, by omega, fun Dd nD => ?_⟩
        refine lcR evoSame (fun _ => true) (fun k y _ => y = .str (sg (movd .stay u v f ((k : Nat) : Int) ((i : Nat) : Int)))) nD (by omega) (fun _ _ _ _ _ h => h) (fun j H3 Kc Kn hj e4 hc _ => ?_) (fun H3 ys e4 hD al => ?_)
        · refine ⟨rfl, _, rfl, _, rfl, _, rfl, _, _, rfl, rfl, _, rfl, _, _, rfl, rfl, .inl ⟨_, rfl, _, rfl, _, _, rfl, rfl, show 0 < A by omega, _, _, f ((0 + (j : Int) - u - B * ((0 + (i : Int) - v) / D)) % A) ((0 + (i : Int) - v) % D), rfl, rfl, ?_, ?_, ?_⟩⟩
          · rw [rowS_len]
            exact Nat.le_trans (show A.toNat ≤ 144 by omega) (by decide)
          · exact rowS_at (Int.emod_nonneg _ (by omega)) (by have := Int.emod_lt_of_pos (0 + (j : Int) - u - B * ((0 + (i : Int) - v) / D)) (show 0 < A by omega); omega)
          · refine hc _ _ rfl (Same.refl _) ?_
            rw [Int.mul_comm B, per_mod h1 h4 pA pD]
            rw [Int.zero_add, Int.zero_add]
            rfl
        · have ey := al.eq (v := fun k => V.str (sg (movd .stay u v f ((k : Nat) : Int) ((i : Nat) : Int)))) fun _ _ h => h
          rw [filter_yes, map_sgV] at ey
          refine ⟨_, Dd, _, rfl, rfl, .inl (SqL.of (by rw [hD, ey])), sg_sum (by omega), ?_⟩
          refine ⟨p, _, _, rfl, rfl, e4 _ _ hp3, ?_, ?_⟩
          · rw [List.length_map, List.length_map, List.length_range]
            exact Nat.lt_of_lt_of_le (show i < 1000 by omega) (by decide)
          · refine ⟨_, _, _, _, rfl, evoSame.put (e3.trans e4) hp (e4 _ _ hp3), ?_⟩
            rw [upd_same, join_sg, List.range_succ, List.map_append, List.map_append]
            rfl
    · rintro σ H2 ⟨y, k, r, bk, rfl, e2, hp2⟩
      refine ⟨_, rfl, p, _, rfl, .inl ⟨SqL.of hp2, fun z hz => ?_⟩⟩
      exact q z _ (e2.trans (same_new hz)) upd_same
/-- one shifted form: the shift, its rows -/
def ShAt (H : Hp) (f : Int → Int → Nat) (A D : Int) (c : Int × Int) (y : V) : Prop := ∃ r q s, y = .ref r ∧ H r = some (.tup [.ref q, .ref s]) ∧ H q = some (.tup [.int c.1, .int c.2]) ∧ H s = some (.tup ((rowsS (movd .stay c.1 c.2 f) A.toNat D.toNat).map V.str))
theorem sc_as : FnScope ["form", "y", "x"] ["form"] d_all_shifted.scope := ⟨rfl, rfl, rfl, by decide +kernel, rfl, by decide +kernel, by decide +kernel⟩
theorem ok_all_shifted (T : Txt w K mg) : Good P w K mg base 2 "all_shifted" ["form"] (fun vs H Q _ => ∃ sh f A B D, vs = [.ref sh] ∧ FormAt H sh f A B D ∧ BasS A B D ∧ IsPer f A 0 ∧ IsPer f B D ∧
    ∀ p H' ys, Same H H' → H p = none → H' p = some (.lst ys) → Paired (ShAt H' f A D) (placesL A.toNat D.toNat) ys → Q (.ref p) H') := by
  refine good_mk (d := d_all_shifted) T.d_all_shifted rfl rfl T.g_all_shifted sc_as
    (fun _ _ _ _ _ _ us hl => match us, hl with | [_], _ => rfl) (fun vs H Q E h => ?_) (fun f0 cdv Ar outer s H vs Q E hr h => ?_)
  · obtain ⟨sh, f, A, B, D, rfl, _⟩ := h
    rfl
  · obtain ⟨sh, f, A, B, D, rfl, hf, hb, pA, pD, q⟩ := h
    have nd := sc_as.nd
    obtain ⟨rn, hf1, hf2⟩ := id hf
    obtain ⟨⟨h1, h2, h3, h4⟩, h5, h6⟩ := id hb
    refine ⟨_, (pss_one (ps_ret (pe_lc2 (own := [("y", 1), ("x", 2)]) (vs1 := [2]) rfl nd (pi_range1 (by rfl) T.f_range (pa_cons (pe_ix ix_tup (pv 0) pe_int (fun _ _ => rfl)) pa_nil)) (blkOk_by (own := [("y", 1), ("x", 2)]) (N := ["form", "y", "x"]) (sc := d_all_shifted.scope) (by decide +kernel)) (by decide) (fun _ _ _ _ _ => (pg_name (i := 1) nd rfl (Or.inl rfl))) (fun _ _ _ _ _ => pts_nil) (fun _ _ _ _ _ => (pi_range1 (by rfl) T.f_range (pa_cons (pe_ix (ix_tupK (K := K) rfl) (pv 0) pe_int (fun _ _ => rfl)) pa_nil))) (fun _ _ _ _ _ => (pg_name (i := 2) nd rfl (Or.inl rfl))) (fun _ _ _ _ _ => pts_nil)
      (fun _ _ _ _ _ => (pe_tup (pa_cons (pe_tup (pa_cons (pv 2) (pa_cons (pv 1) pa_nil))) (pa_cons (pe_fn (ok_shifted_rows T) hr (pa_cons (pv 0) (pa_cons (pv 2) (pa_cons (pv 1) pa_nil)))) pa_nil))))))), ?_⟩
    refine ⟨_, rfl, _, _, _, _, rfl, rfl, SqT.of hf1, rfl, _, rfl, by omega, by omega, fun p hp => ?_⟩
    refine lc2R (n2 := A.toNat) evoSame (fun i j y H => ShAt H f A D (((j : Nat) : Int), ((i : Nat) : Int)) y) hp (by omega) (by omega) (fun i j y H H' e ⟨r, q, s, e1, e2, e3, e4⟩ => ⟨r, q, s, e1, e.tup e2, e.tup e3, e.tup e4⟩) (fun x => rfl) (fun x y => rfl)
      (fun i H2 R1 hi e hR => ?_) (fun i j H2 Kc hi hj e hc => ?_) (fun H2 ys e hD al => ?_)
    · exact ⟨_, rfl, _, _, _, _, rfl, rfl, SqT.of (e _ _ hf1), rfl, _, rfl, by omega, by omega, hR⟩
    · refine ⟨_, rfl, _, rfl, two_le, fun r hr' => ?_⟩
      have k1 := same_new (o := .tup [.int (0 + (j : Int)), .int (0 + (i : Int))]) hr'
      refine ⟨_, rfl, _, rfl, _, rfl, sh, 0 + (j : Int), 0 + (i : Int), f, A, B, D, rfl, hf.kp (Kp.of (e.trans k1)), hb, pA, pD, fun s H4 e4 hs => ?_⟩
      refine ⟨two_le, fun r2 hr2 => ?_⟩
      have k2 := same_new (o := .tup [.ref r, .ref s]) hr2
      refine hc _ _ (k1.trans (e4.trans k2)) ⟨r2, r, s, rfl, upd_same, ?_, ?_⟩
      · have := k2 _ _ (e4 _ _ upd_same)
        rw [Int.zero_add, Int.zero_add] at this
        exact this
      · have := k2 _ _ hs
        rw [Int.zero_add, Int.zero_add] at this
        exact this
    · exact q p H2 ys e hp hD (paired_map (fun p : Nat × Nat => (((p.2 : Nat) : Int), ((p.1 : Nat) : Int))) al)
end
end K84
set_option Elab.async false
set_option linter.all false
set_option maxRecDepth 100000
set_option maxHeartbeats 1000000
/-! comparisons of data: equal, less -/
namespace K84
open PySem PySem.Spec PyProof.Rows L2
section
variable {X : Cx} {K : PySem.W.Frag}
theorem op_eqDK (hK : X.K = K) (hu : X.A.units + 64 < cLine) : OpR X (compareOp .Eq) (rEqD K) := by
  subst hK
  exact op_eqD hu
theorem op_neDK (hK : X.K = K) (hu : X.A.units + 64 < cLine) : OpR X (compareOp .NotEq) (rNeD K) := by
  subst hK
  exact op_neD hu
def rLtD (K : PySem.W.Frag) : R2 := fun x y H Q => ∃ d e, Dp K H x d ∧ Dp K H y e ∧ PySem.W.alike d e = true ∧ d ≠ .none ∧ min d.depth e.depth ≤ 60 ∧ Q (.bl (PySem.W.dataLt d e)) H
def rLeD (K : PySem.W.Frag) : R2 := fun x y H Q => ∃ d e, Dp K H x d ∧ Dp K H y e ∧ PySem.W.alike d e = true ∧ d ≠ .none ∧ min d.depth e.depth ≤ 60 ∧ Q (.bl (!PySem.W.dataLt e d)) H
theorem op_ltD (hu : X.A.units + 64 < cLine) : OpR X (compareOp .Lt) (rLtD X.K) := by
  intro pins s σ H x y v u Q I rx ry h
  obtain ⟨d, e, hd, he, ha, hn, hm, q⟩ := h
  obtain ⟨as, r1⟩ := Dp.reads I d x v hd rx
  obtain ⟨bs, r2⟩ := Dp.reads I e y u he ry
  exact PySem.W.rcLt_alike d e X.A s v u as bs r1 r2 ha hn (by omega) X.prog X.w _ _ ⟨.bl _, H, I, rfl, q⟩
theorem op_leD (hu : X.A.units + 64 < cLine) : OpR X (compareOp .LtE) (rLeD X.K) := by
  intro pins s σ H x y v u Q I rx ry h
  obtain ⟨d, e, hd, he, ha, hn, hm, q⟩ := h
  obtain ⟨as, r1⟩ := Dp.reads I d x v hd rx
  obtain ⟨bs, r2⟩ := Dp.reads I e y u he ry
  exact PySem.W.rcLe_alike d e X.A s v u as bs r1 r2 ha hn (by omega) X.prog X.w _ _ ⟨.bl _, H, I, rfl, q⟩
end
/-! ### data of ints, of texts -/
theorem dpa_ints {K : PySem.W.Frag} {H : Hp} : ∀ ns : List Int, DpAll K H (ns.map V.int) (ns.map PyData.int)
  | [] => .nil
  | n :: ns => .cons (.int n) (dpa_ints ns)
theorem dpa_strs {K : PySem.W.Frag} {H : Hp} : ∀ ns : List Str, DpAll K H (ns.map V.str) (ns.map PyData.str)
  | [] => .nil
  | n :: ns => .cons (.str n) (dpa_strs ns)
theorem dp_ints {K : PySem.W.Frag} {H : Hp} {a : Addr} {ns : List Int} (h : SqT K H a (ns.map V.int)) : Dp K H (.ref a) (.tuple (ns.map .int)) := .tup h (dpa_ints ns)
theorem dp_strs {K : PySem.W.Frag} {H : Hp} {a : Addr} {ns : List Str} (h : SqT K H a (ns.map V.str)) : Dp K H (.ref a) (.tuple (ns.map .str)) := .tup h (dpa_strs ns)
theorem eqvA_ints : ∀ ns ms : List Int, PyData.eqvAll (ns.map .int) (ms.map .int) = decide (ns = ms)
  | [], [] => rfl
  | [], _ :: _ => by simp [PyData.eqvAll]
  | _ :: _, [] => by simp [PyData.eqvAll]
  | n :: ns, m :: ms => by
    rw [List.map_cons, List.map_cons, PyData.eqvAll, eqvA_ints ns ms, PyData.eqv, Bool.eq_iff_iff]
    simp
theorem eqvA_strs : ∀ ns ms : List Str, PyData.eqvAll (ns.map .str) (ms.map .str) = decide (ns = ms)
  | [], [] => rfl
  | [], _ :: _ => by simp [PyData.eqvAll]
  | _ :: _, [] => by simp [PyData.eqvAll]
  | n :: ns, m :: ms => by
    rw [List.map_cons, List.map_cons, PyData.eqvAll, eqvA_strs ns ms, PyData.eqv, Bool.eq_iff_iff]
    simp
theorem eqv_ints (ns ms : List Int) : PyData.eqv (.tuple (ns.map .int)) (.tuple (ms.map .int)) = decide (ns = ms) := by rw [PyData.eqv, eqvA_ints]
theorem eqv_strs (ns ms : List Str) : PyData.eqv (.tuple (ns.map .str)) (.tuple (ms.map .str)) = decide (ns = ms) := by rw [PyData.eqv, eqvA_strs]
theorem lay_ints : ∀ ns : List Int, PyData.canLayAll0 (ns.map .int) = true
  | [] => rfl
  | n :: ns => by rw [List.map_cons, PyData.canLayAll0, lay_ints ns]; rfl
theorem lay_strs : ∀ {ns : List Str}, (∀ r ∈ ns, PyData.strOk r = true) → PyData.canLayAll0 (ns.map .str) = true
  | [], _ => rfl
  | n :: ns, h => by rw [List.map_cons, PyData.canLayAll0, lay_strs fun r hr => h r (List.mem_cons_of_mem _ hr), PyData.canLay0, h n (List.mem_cons_self ..)]; rfl
theorem dep_ints : ∀ ns : List Int, PyData.depthAll (ns.map .int) = 0
  | [] => rfl
  | n :: ns => by rw [List.map_cons, PyData.depthAll, dep_ints ns]; rfl
theorem dep_strs : ∀ ns : List Str, PyData.depthAll (ns.map .str) = 0
  | [] => rfl
  | n :: ns => by rw [List.map_cons, PyData.depthAll, dep_strs ns]; rfl
theorem shp_ints (ns : List Int) : SeqAt.shaped (.tuple (ns.map .int)) = true := by
  unfold SeqAt.shaped
  rw [PyData.canLay0, lay_ints, PyData.depth, dep_ints]
  rfl
theorem shp_strs {ns : List Str} (h : ∀ r ∈ ns, PyData.strOk r = true) : SeqAt.shaped (.tuple (ns.map .str)) = true := by
  unfold SeqAt.shaped
  rw [PyData.canLay0, lay_strs h, PyData.depth, dep_strs]
  rfl
theorem PyStrOk_digits {r : Str} (h : ∀ c ∈ r.cps.toList, 48 ≤ c ∧ c ≤ 57) : PyData.strOk r = true := by
  unfold PyData.strOk
  rw [Array.all_eq_true_iff_forall_mem]
  intro c hc
  have := (h c (Array.mem_toList_iff.mpr hc)).2
  exact decide_eq_true (show c < 0x110000 by omega)
theorem RowsOk.strs {a d : Int} {rows : List Str} (h : RowsOk a d rows) : ∀ r ∈ rows, PyData.strOk r = true := fun r hr => PyStrOk_digits (h.each r hr).2
end K84
set_option Elab.async false
set_option linter.all false
set_option maxRecDepth 100000
set_option maxHeartbeats 1000000
/-! motions_between and what calls it -/
namespace K84
open PySem PySem.Spec PyProof.Rows L2
/-! ### the list of motions -/
noncomputable def okT (f g : Int → Int → Nat) (t : Tn) (c : Int × Int) : Bool := @decide (movd t c.1 c.2 f = g) (Classical.propDecidable _)
theorem okT_iff {f g : Int → Int → Nat} {t : Tn} {c : Int × Int} : okT f g t c = true ↔ movd t c.1 c.2 f = g := by
  unfold okT
  exact @decide_eq_true_iff _ (Classical.propDecidable _)
noncomputable def msT (f g : Int → Int → Nat) (A D : Nat) (t : Tn) : List (Tn × (Int × Int)) := ((placesL A D).filter (okT f g t)).map fun c => (t, c)
noncomputable def msL (f g : Int → Int → Nat) (A D : Nat) : List (Tn × (Int × Int)) := Tn.all.flatMap (msT f g A D)
theorem movd_stay (t : Tn) (u v : Int) (f : Int → Int → Nat) : movd .stay u v (movd t 0 0 f) = movd t u v f := by
  funext x y
  show f (t.inv.lx (x - u - 0) (y - v - 0)) (t.inv.ly (x - u - 0) (y - v - 0)) = _
  rw [Int.sub_zero, Int.sub_zero]
  rfl
theorem stay_per {u v x y : Int} {f : Int → Int → Nat} : IsPer (movd .stay u v f) x y ↔ IsPer f x y := by
  constructor
  · intro h X Y
    have := h (X + u) (Y + v)
    unfold movd at this
    simp only [Tn.inv, Tn.lx, Tn.ly] at this
    rw [show X + u + x - u = X + x by omega, show Y + v + y - v = Y + y by omega, show X + u - u = X by omega, show Y + v - v = Y by omega] at this
    exact this
  · exact fun h => movd_per (t := .stay) h
theorem stay_least {u v A B D : Int} {f : Int → Int → Nat} (h : LeastOf f A B D) : LeastOf (movd .stay u v f) A B D := ⟨h.1, fun x y => stay_per.trans (h.2 x y)⟩
theorem rowsS_inj {f g : Int → Int → Nat} {A B D : Int} (h1 : LeastOf f A B D) (h2 : LeastOf g A B D) : rowsS f A.toNat D.toNat = rowsS g A.toNat D.toNat ↔ f = g := by
  constructor
  · intro h
    rw [← colr_rowsS h1, h, colr_rowsS h2]
  · exact fun h => by rw [h]
theorem msT_none {f g : Int → Int → Nat} {t : Tn} {A B D A' B' D' : Int} {n m : Nat} (hg : LeastOf g A B D) (hf : LeastOf (movd t 0 0 f) A' B' D') (hne : ¬ (A' = A ∧ B' = B ∧ D' = D)) : msT f g n m t = [] := by
  unfold msT
  rw [List.map_eq_nil_iff, List.filter_eq_nil_iff]
  intro c _ h
  have e := okT_iff.mp h
  have := stay_least (u := c.1) (v := c.2) hf
  rw [movd_stay, e] at this
  exact hne (this.uniq hg)
theorem msT_len (f g : Int → Int → Nat) (A D : Nat) (t : Tn) : (msT f g A D t).length ≤ D * A := by
  unfold msT
  rw [List.length_map, ← places_len A D]
  exact List.length_filter_le _ _
theorem msF_len (f g : Int → Int → Nat) (A D : Nat) : ∀ l : List Tn, (l.flatMap (msT f g A D)).length ≤ l.length * (D * A)
  | [] => by simp
  | t :: l => by
    rw [List.flatMap_cons, List.length_append, List.length_cons, Nat.succ_mul]
    have h1 := msT_len f g A D t
    have h2 := msF_len f g A D l
    omega
theorem paired_app {α β : Type} {F : α → β → Prop} : ∀ {l : List α} {m : List β} {l' : List α} {m' : List β}, Paired F l m → Paired F l' m' → Paired F (l ++ l') (m ++ m')
  | _, _, _, _, .nil, h => h
  | _, _, _, _, .cons r t, h => .cons r (paired_app t h)
theorem range_getD {α : Type} (l : List α) (d : α) : (List.range l.length).map (fun i => l.getD i d) = l := by
  apply List.ext_getElem?
  intro i
  rw [List.getElem?_map]
  by_cases h : i < l.length
  · rw [List.getElem?_range h, List.getElem?_eq_getElem h]
    simp [h]
  · rw [List.getElem?_eq_none (by simpa using h), List.getElem?_eq_none (by simpa using h)]
    rfl
theorem paired_filter {α β : Type} {F : α → β → Prop} {l : List α} {d : α} {k : α → Bool} {ys : List β} (h : Paired (fun i y => F (l.getD i d) y) ((List.range l.length).filter fun i => k (l.getD i d)) ys) : Paired F (l.filter k) ys := by
  have h2 := paired_map (F := F) (fun i => l.getD i d) h
  have e : ((List.range l.length).filter fun i => k (l.getD i d)).map (fun i => l.getD i d) = l.filter k := by
    have e1 := List.filter_map (f := fun i => l.getD i d) (p := k) (l := List.range l.length)
    rw [range_getD] at e1
    exact e1.symm
  rw [e] at h2
  exact h2
theorem getD_at {α : Type} {l : List α} {d : α} {i : Nat} {c : α} (h : l[i]? = some c) : l.getD i d = c := by
  rw [List.getD_eq_getElem?_getD, h]
  rfl
/-- a motion of the list -/
def MotR (K : PySem.W.Frag) (H : Hp) (m : Tn × (Int × Int)) (y : V) : Prop := ∃ p, y = .ref p ∧ MotAt K H p m.1 m.2.1 m.2.2
theorem MotR.kp {K : PySem.W.Frag} {H H' : Hp} (e : Kp H H') {m : Tn × (Int × Int)} {y : V} (h : MotR K H m y) : MotR K H' m y := let ⟨p, h1, h2⟩ := h; ⟨p, h1, h2.kp e⟩
section
variable {P : Program} {w : World} {K : PySem.W.Frag} {mg : Str → Option Value} {base : Heap}
theorem make_mot2 {H : Hp} {W : VK} {x dx s : Addr} {t : Tn} {u v : Int} (hs : Pr K H s u v) (nx : H x = none) (ndx : H dx = none) (k : ∀ H', Same H H' → MotAt K H' x t u v → W .non H') :
    spMotInit K (.ref x :: [.str t.str, .ref s]) (upd (upd H dx (.own x)) x (.ins (MC K) dx [])) W E0 := by
  have e : Same H (upd (upd H dx (.own x)) x (.ins (MC K) dx [])) := fun c o z => by
    rw [upd_ne (ne_of_none z nx), upd_ne (ne_of_none z ndx)]
    exact z
  exact ⟨x, dx, t, s, u, v, rfl, upd_same, sqT_same e hs, fun H' a1 a2 => have e2 : Same H H' := fun c o z => a1 _ _ (e _ _ z) (ne_of_none z nx)
    k H' e2 ⟨dx, s, a2, sqT_same e2 hs⟩⟩
theorem un64 {k : Nat} {A : Around} (r : Room k A) : A.units + 64 < cLine := r.units
theorem cut3 : ¬ (HT.sIx 4 0 none = 0 ∧ HT.sIx 4 4 (some 3) = 4) := by decide
theorem sc_mb : FnScope ["one", "other", "goal", "found", "turn", "form", "shift", "rows"] ["one", "other"] d_motions_between.scope := ⟨rfl, rfl, rfl, by decide +kernel, rfl, by decide +kernel, by decide +kernel⟩
theorem ok_motions_between (T : Txt w K mg) (TB : TBs K base mg) : Good P w K mg base 13 "motions_between" ["one", "other"] (fun vs H Q _ => ∃ p q f g A B D A2 B2 D2, vs = [.ref p, .ref q] ∧ CarAt K H p f A B D ∧ CarAt K H q g A2 B2 D2 ∧ LamX.Tabs (tb K) H ∧
    ∀ l H' zs, Gr K H H' → H l = none → H' l = some (.lst zs) → Paired (MotR K H') (msL f g A2.toNat D2.toNat) zs → Q (.ref l) H') := by
  refine good_mk (d := d_motions_between) T.d_motions_between rfl rfl T.g_motions_between sc_mb
    (fun _ _ _ _ _ _ us hl => match us, hl with | [_, _], _ => rfl) (fun vs H Q E h => ?_) (fun f0 cdv Ar outer s H vs Q E hr h => ?_)
  · obtain ⟨p, q, f, g, A, B, D, A2, B2, D2, rfl, _⟩ := h
    rfl
  · obtain ⟨p, q, f, g, A, B, D, A2, B2, D2, rfl, hp, hq, hT, qq⟩ := h
    have nd := sc_mb.nd
    have hp5r : ∀ (t : Tn) (x y : Int), 48 ≤ movd t 0 0 f x y ∧ movd t 0 0 f x y ≤ 57 := fun t x y => by
      obtain ⟨_, _, _, _, co⟩ := id hp
      exact co.range _ _
    obtain ⟨a2, b2, d2, rows2, co2⟩ := id hq
    obtain ⟨dx2, r2, l2, sh2, h21, _⟩ := co2.ob
    obtain ⟨fm, FM, ⟨ds1, vM1, bM1⟩, ⟨ds2, vM2, bM2⟩⟩ := ok_mot_init (P := P) (w := w) (base := base) (mg := mg) T
    refine ⟨_, (pss_cons (ps_expr (pe_fn (ok_check_carpet T) hr (pa_cons (pv 0) pa_nil)))
      (pss_cons (ps_expr (pe_fn (ok_check_carpet T) hr (pa_cons (pv 1) pa_nil)))
      (pss_cons (ps_asg (pe_tup (pa_cons (pe_m0 (K := K) rfl (ok_c_normal T) T.c_Carpet T.m_Carpet_normal hr (pv 1)) (pa_cons (pe_lst pa_nil) pa_nil))) (pg_tup rfl (pgs_cons (pg_name (i := 2) nd rfl (Or.inr rfl)) (pgs_cons (pg_name (i := 3) nd rfl (Or.inl rfl)) pgs_nil))))
      (pss_cons (ps_for PassesOwn.never rfl (pi_tup (pe_glob (v := .ref (He.ga K "TURNS")) rfl T.g_TURNS rfl)) (pg_name (i := 4) nd rfl (Or.inr rfl))
        (pss_cons (ps_set (i := 5) nd rfl (Or.inl rfl) (pe_m0 (K := K) rfl (ok_c_normal T) T.c_Carpet T.m_Carpet_normal hr (pe_fn (ok_moved T TB) hr (pa_cons (pe_make T.mk_Motion FM (hr.mono (by decide)) (by rfl) T.g_Motion bM1 vM1 pass0 (pa_cons (pv 4) pa_nil)) (pa_cons (pv 0) pa_nil)))))
        (pss_one (ps_if (pt_cmpR (op_eqD (un64 hr)) (pe_slice sl_tup (pv 5) po_none (po_some pe_int)) (pe_slice sl_tup (pv 2) po_none (po_some pe_int)) (nomark _))
          (pss_one (ps_expr (pe_bm PySem.F.plainAttrs_list PySem.F.slot_list_extend PySem.F.type_list_extend mt_extend (pv 3) (pa_cons (pe_lc (own := [("shift", 6), ("rows", 7)]) rfl nd (pi_list (pe_fn (ok_all_shifted T) hr (pa_cons (pv 5) pa_nil))) (blkOk_by (own := [("shift", 6), ("rows", 7)]) (N := ["one", "other", "goal", "found", "turn", "form", "shift", "rows"]) (sc := d_motions_between.scope) (by decide +kernel))
            (fun _ _ _ _ _ => (pg_pair (i := 6) (j := 7) (K := K) rfl nd rfl rfl rfl (Or.inl rfl) (Or.inl rfl))) (fun _ _ _ _ _ => pts_one (pt_cmpR (op_eqDK (K := K) rfl (un64 hr)) (pv 7) (pe_ix (ix_tupK (K := K) rfl) (pv 2) pe_int (fun _ _ => rfl)) (nomark _))) (fun _ _ _ _ _ => (pe_make T.mk_Motion FM (hr.mono (by decide)) (by rfl) T.g_Motion bM2 vM2 pass0 (pa_cons (pv 4) (pa_cons (pv 6) pa_nil))))) pa_nil)))) pss_nil))))
      (pss_one (ps_ret (pv 3))))))), ?_⟩
    refine ⟨_, rfl, p, f, A, B, D, rfl, hp, _, rfl, q, g, A2, B2, D2, rfl, hq, ?_⟩
    refine ⟨_, rfl, q, dx2, _, rfl, h21, carF_no (by decide +kernel), q, g, A2, B2, D2, rfl, hq, fun sg2 hsg2 => ?_⟩
    refine ⟨Nat.zero_le _, fun fd hfd => ⟨two_le, fun zt hzt => ?_⟩⟩
    have k1 : Same H (upd (upd H fd (.lst [])) zt (.tup [.ref sg2, .ref fd])) := (same_new hfd).trans (same_new hzt)
    refine ⟨zt, _, rfl, SqT.of upd_same, rfl, _, _, rfl, _, _, rfl, rfl, ?_⟩
    refine ⟨_, rfl, ⟨_, turns_at T _⟩, for_run Tn.all.length (fun i σ H2 => ∃ v u zs, σ = [some (.ref p), some (.ref q), some (.ref sg2), some (.ref fd), v, u, none, none] ∧ Gr K H H2 ∧ H2 fd = some (.lst zs) ∧ Paired (MotR K H2) ((Tn.all.take i).flatMap (msT f g A2.toNat D2.toNat)) zs)
      ⟨none, none, [], rfl, (evoGr K).same k1, same_new hzt _ _ upd_same, .nil⟩ ?_ ?_ ?_ ?_⟩
    · rintro i σ H2 hi _
      exact ⟨_, (Tn.all.map fun t => V.str t.str)[i]'(by simpa using hi), turns_at T H2, by simp [hi]⟩
    · rintro σ H2 _
      exact ⟨_, turns_at T H2, by simp⟩
    · rintro i x σ H2 H3 hi ⟨v, u, zs, rfl, g2, hfd2, pz⟩ ⟨rfl, hy⟩
      have hx := hy _ (turns_at T H3)
      rw [List.getElem?_map, List.getElem?_eq_getElem hi] at hx
      obtain ⟨t, ht⟩ : ∃ t, Tn.all[i] = t := ⟨_, rfl⟩
      rw [ht] at hx
      cases hx
      have htake : Tn.all.take (i + 1) = Tn.all.take i ++ [t] := by rw [List.take_succ, List.getElem?_eq_getElem hi, ht]; rfl
      refine ⟨_, rfl, ?_⟩
      intro m dm nxm ndm nexm
      refine make_mot2 (K := K) (t := t) (dfl_pr T _) nxm ndm fun H4 e4 hm => ⟨rfl, ?_⟩
      have hp4 := (hp.kp ((evoGr K).kp g2)).kp (Kp.of e4)
      refine ⟨_, rfl, m, p, t, 0, 0, f, A, B, D, rfl, hm, hp4, (g2.tabs hT).ext e4, fun p' H5 A' B' D' g5 cn => ?_⟩
      obtain ⟨dxn, rn, ln, shn, hn1, hn2, hn3, hn4⟩ := cn.ob
      refine ⟨p', dxn, _, rfl, hn1, carF_no (by decide +kernel), p', _, A', B', D', rfl, ⟨_, _, _, _, cn⟩, fun sh hsh => ?_⟩
      have g25 : Gr K H3 H5 := (evoGr K).trans ((evoGr K).same e4) g5
      have hsg5 := hsg2.kp ((evoGr K).kp ((evoGr K).trans g2 g25))
      obtain ⟨rn1, hs1, hs2⟩ := id hsh
      obtain ⟨rg1, hg1, hg2⟩ := id hsg5
      refine ⟨_, rfl, ?_⟩
      refine ⟨_, rfl, sh, _, rfl, SqT.of hs1, cut3, fun c1 hc1 => ?_⟩
      have kc1 : Same H5 (upd H5 c1 (.tup [.int A', .int B', .int D'])) := same_new hc1
      refine ⟨_, rfl, _, rfl, sg2, _, rfl, SqT.of (kc1 _ _ hg1), cut3, fun c2 hc2 => ?_⟩
      have kc2 : Same (upd H5 c1 (.tup [.int A', .int B', .int D'])) (upd (upd H5 c1 (.tup [.int A', .int B', .int D'])) c2 (.tup [.int A2, .int B2, .int D2])) := same_new hc2
      have k57 := kc1.trans kc2
      have g37 : Gr K H3 (upd (upd H5 c1 (.tup [.int A', .int B', .int D'])) c2 (.tup [.int A2, .int B2, .int D2])) := (evoGr K).trans g25 ((evoGr K).same k57)
      have g07 := (evoGr K).trans g2 g37
      refine ⟨_, _, dp_ints (ns := [A', B', D']) (SqT.of (kc2 _ _ upd_same)), dp_ints (ns := [A2, B2, D2]) (SqT.of upd_same), shp_ints _, shp_ints _, _, rfl, ?_⟩
      rw [eqv_ints]
      by_cases hE : ([A', B', D'] : List Int) = [A2, B2, D2]
      · rw [decide_eq_true hE]
        obtain ⟨rfl, rfl, rfl⟩ : A' = A2 ∧ B' = B2 ∧ D' = D2 := by simpa using hE
        refine iteT ?_
        have hsz := cn.least_sz
        have hbs := bas_small cn.le.1 hsz
        refine ⟨_, rfl, .inl ⟨rfl, _, SqL.of ((evoGr K).lst g37 hfd2)⟩, ?_⟩
        refine ⟨_, rfl, sh, _, A', B', D', rfl, hsh.kp (Kp.of k57), hbs, cn.le.pA, cn.le.pD, fun pl H8 ys e8 npl hys pys => ⟨pl, rfl, ⟨_, SqL.of hys⟩, fun Dd nD => ?_⟩⟩
        have hL : ys.length = (placesL A'.toNat D'.toNat).length := paired_len pys
        have hLn : (placesL A'.toNat D'.toNat).length ≤ 144 := by
          rw [places_len]
          have : ((D'.toNat * A'.toNat : Nat) : Int) = A' * D' := by
            obtain ⟨b1, b2, b3, b4⟩ := cn.le.1
            rw [Int.natCast_mul, Int.toNat_of_nonneg (by omega), Int.toNat_of_nonneg (by omega), Int.mul_comm]
          omega
        have g08 : Gr K H H8 := (evoGr K).trans g07 ((evoGr K).same e8)
        have hgoal8 := hsg2.kp ((evoGr K).kp g08)
        obtain ⟨rg8, hg81, hg82⟩ := id hgoal8
        refine lcL evoSame (K := K) (a := pl) (xs := ys) (fun H e => SqL.of (e _ _ hys)) (fun i => okT f g t ((placesL A'.toNat D'.toNat).getD i (0, 0))) (fun i y H => MotR K H (t, (placesL A'.toNat D'.toNat).getD i (0, 0)) y) nD (by rw [hL]; omega) (fun i y H H' e h => h.kp e) (fun i x H9 Kc Kn hx9 e9 hc hn => ?_) (fun H9 zs2 e9 hD al => ?_)
        · have hi9 : i < (placesL A'.toNat D'.toNat).length := by
            rw [← hL]
            exact (List.getElem?_eq_some_iff.mp hx9).1
          obtain ⟨z', hz', hsa⟩ := paired_at pys (List.getElem?_eq_getElem hi9)
          rw [hx9] at hz'
          cases hz'
          obtain ⟨c, hc9⟩ : ∃ c, (placesL A'.toNat D'.toNat)[i] = c := ⟨_, rfl⟩
          rw [hc9] at hsa
          have hgd : (placesL A'.toNat D'.toNat).getD i (0, 0) = c := getD_at (by rw [List.getElem?_eq_getElem hi9, hc9])
          rw [hgd] at hc hn
          obtain ⟨r, qa, sa, rfl, hr1, hr2, hr3⟩ := hsa
          refine ⟨r, _, rfl, SqT.of (e9 _ _ hr1), rfl, _, _, rfl, _, _, rfl, rfl, rfl, ?_⟩
          have hro1 := rowsOk_of (f := movd .stay c.1 c.2 (movd t 0 0 f)) (A := A') (D := D') (fun x y => hp5r t _ _) (by have := cn.le.1; unfold Bas at this; omega) (by have := cn.le.1; unfold Bas at this; omega)
          have hro2 := rowsOk_of (f := g) (A := A') (D := D') co2.range (by have := cn.le.1; unfold Bas at this; omega) (by have := cn.le.1; unfold Bas at this; omega)
          refine ⟨_, rfl, _, rfl, _, _, _, _, rfl, rfl, SqT.of (e9 _ _ hg81), rfl, _, _, dp_strs (SqT.of (e9 _ _ hr3)), dp_strs (SqT.of (e9 _ _ hg82)), shp_strs hro1.strs, shp_strs hro2.strs, _, rfl, ?_⟩
          rw [eqv_strs]
          have hiff := rowsS_inj (stay_least (u := c.1) (v := c.2) cn.le) co2.le
          rw [movd_stay] at hiff
          rw [movd_stay]
          by_cases hq9 : rowsS (movd t c.1 c.2 f) A'.toNat D'.toNat = rowsS g A'.toNat D'.toNat
          · rw [decide_eq_true hq9]
            refine iteT ⟨_, rfl, _, rfl, ?_⟩
            intro m9 dm9 nx9 ndx9 nex9
            refine make_mot2 (K := K) (t := t) (SqT.of (e9 _ _ hr2)) nx9 ndx9 fun H10 e10 hm10 => ⟨rfl, ?_⟩
            exact hc _ _ (okT_iff.mpr (hiff.mp hq9)) e10 ⟨m9, rfl, hm10⟩
          · rw [decide_eq_false hq9]
            refine iteF (hn _ ?_ (Same.refl _))
            cases ho : okT f g t c with
            | false => rfl
            | true => exact absurd (hiff.mpr (okT_iff.mp ho)) hq9
        · rw [hL] at al
          have al2 : Paired (fun m y => MotR K H9 m y) (msT f g A'.toNat D'.toNat t) zs2 := paired_map (F := fun m y => MotR K H9 m y) (fun c => (t, c)) (paired_filter (F := fun c y => MotR K H9 (t, c) y) (d := (0, 0)) (k := okT f g t) al)
          have g39 : Gr K H3 H9 := (evoGr K).trans g37 ((evoGr K).same (e8.trans e9))
          have hfd9 := (evoGr K).lst g39 hfd2
          refine ⟨fd, Dd, zs, zs2, rfl, rfl, hfd9, hD, ?_, ?_⟩
          · have l1 := paired_len pz
            have l2 := paired_len al2
            have l3 := msF_len f g A'.toNat D'.toNat (Tn.all.take i)
            have l4 := msT_len f g A'.toNat D'.toNat t
            have l5 : (Tn.all.take i).length ≤ 8 := by rw [List.length_take]; exact Nat.min_le_right _ _
            rw [places_len] at hLn
            have l6 : (Tn.all.take i).length * (D'.toNat * A'.toNat) ≤ 8 * 144 := Nat.mul_le_mul l5 hLn
            have : (100000 : Nat) ≤ sizeLine := by decide
            omega
          · have kpf : Kp H9 (upd H9 fd (.lst (zs ++ zs2))) := Kp.put hfd9
            refine ⟨_, _, _, rfl, (evoGr K).put ((evoGr K).trans g2 g39) hfd hfd9, upd_same, ?_⟩
            rw [htake, List.flatMap_append]
            refine paired_app (paired_imp (fun m y h => (h.kp ((evoGr K).kp g39)).kp kpf) pz) ?_
            rw [List.flatMap_cons, List.flatMap_nil, List.append_nil]
            exact paired_imp (fun m y h => h.kp kpf) al2
      · rw [decide_eq_false hE]
        refine iteF ⟨_, _, zs, rfl, g07, (evoGr K).lst g37 hfd2, ?_⟩
        rw [htake, List.flatMap_append, List.flatMap_cons, List.flatMap_nil, List.append_nil, msT_none co2.le cn.le (fun ⟨z1, z2, z3⟩ => hE (by rw [z1, z2, z3])), List.append_nil]
        exact paired_imp (fun m y h => h.kp ((evoGr K).kp g37)) pz
    · rintro σ H2 ⟨v, u, zs, rfl, g2, hfd2, pz⟩
      exact ⟨_, rfl, qq fd H2 zs g2 hfd hfd2 (by rw [List.take_length] at pz; exact pz)⟩
theorem msL_ne {f g : Int → Int → Nat} {n m : Nat} {zs : List V} {K : PySem.W.Frag} {H : Hp} (h : Paired (MotR K H) (msL f g n m) zs) : zs = [] ↔ msL f g n m = [] := by
  have := paired_len h
  rw [← List.length_eq_zero_iff, ← List.length_eq_zero_iff, this]
/-- xs != [] -/
def rNeE (K : PySem.W.Frag) : R2 := fun x y H Q => ∃ (a b : Addr) (xs : List V), x = .ref a ∧ y = .ref b ∧ SqL K H a xs ∧ SqL K H b [] ∧ Q (.bl (!decide (xs = []))) H
theorem op_neEmpty {X : Cx} (hu : X.A.units < cLine) : OpR X (compareOp .NotEq) (rNeE X.K) := by
  intro pins s σ H x y v u Q I rx ry h
  obtain ⟨a, b, xs, rfl, rfl, ha, hb, q⟩ := h
  cases rx
  cases ry
  obtain ⟨its, r1, p1, _⟩ := I.list ha
  obtain ⟨its2, r2, p2, _⟩ := I.list hb
  have e2 : its2 = [] := by
    cases r2
    rfl
  subst e2
  cases xs with
  | nil =>
    have e1 : its = [] := by
      cases r1
      rfl
    subst e1
    exact SeqAt.RcNeAt.lists (e := fun _ => true) p1.isList p2.isList rfl hu (fun j h1 _ => absurd h1 (Nat.not_lt_zero _)) X.prog X.w _ _ ⟨.bl _, H, I, rfl, q⟩
  | cons z zs =>
    have e1 : its.length = zs.length + 1 := r1.length.symm
    exact SeqAt.RcNeAt.lists_lengths p1.isList p2.isList (by simp [e1]) hu X.prog X.w _ _ ⟨.bl _, H, I, rfl, q⟩
theorem sc_mb2 : FnScope ["one", "other", "found"] ["one", "other"] d_motion_between.scope := ⟨rfl, rfl, rfl, by decide +kernel, rfl, by decide +kernel, by decide +kernel⟩
theorem ok_motion_between (T : Txt w K mg) (TB : TBs K base mg) : Good P w K mg base 14 "motion_between" ["one", "other"] (fun vs H Q _ => ∃ p q f g A B D A2 B2 D2, vs = [.ref p, .ref q] ∧ CarAt K H p f A B D ∧ CarAt K H q g A2 B2 D2 ∧ LamX.Tabs (tb K) H ∧
    ∀ v H', Gr K H H' → (v = .non ↔ msL f g A2.toNat D2.toNat = []) → Q v H') := by
  refine good_mk (d := d_motion_between) T.d_motion_between rfl rfl T.g_motion_between sc_mb2
    (fun _ _ _ _ _ _ us hl => match us, hl with | [_, _], _ => rfl) (fun vs H Q E h => ?_) (fun f0 cdv Ar outer s H vs Q E hr h => ?_)
  · obtain ⟨p, q, f, g, A, B, D, A2, B2, D2, rfl, _⟩ := h
    rfl
  · obtain ⟨p, q, f, g, A, B, D, A2, B2, D2, rfl, hp, hq, hT, qq⟩ := h
    have nd := sc_mb2.nd
    refine ⟨_, (pss_cons (ps_set (i := 2) nd rfl (Or.inl rfl) (pe_fn (ok_motions_between T TB) hr (pa_cons (pv 0) (pa_cons (pv 1) pa_nil))))
      (pss_one (ps_ret (pe_ifExp (pt_cmpR (op_neEmpty hr.units0) (pv 2) (pe_lst pa_nil) (nomark _)) (pe_ix ix_list (pv 2) pe_int (fun _ _ => rfl)) pe_non)))), ?_⟩
    refine ⟨_, rfl, _, rfl, p, q, f, g, A, B, D, A2, B2, D2, rfl, hp, hq, hT, fun l H1 zs g1 nl hl pz => ?_⟩
    refine ⟨_, rfl, Nat.zero_le _, fun el hel => ⟨l, el, zs, rfl, rfl, SqL.of (same_new hel _ _ hl), SqL.of upd_same, _, rfl, ?_⟩⟩
    have g2 : Gr K H (upd H1 el (.lst [])) := (evoGr K).trans g1 ((evoGr K).same (same_new hel))
    have hne := msL_ne pz
    cases zs with
    | nil =>
      rw [decide_eq_true rfl]
      exact iteF (qq _ _ g2 ⟨fun _ => hne.mp rfl, fun _ => rfl⟩)
    | cons z zs =>
      rw [decide_eq_false (by simp)]
      refine iteT ⟨_, rfl, l, _, _, z, rfl, rfl, SqL.of (same_new hel _ _ hl), atI_of (by decide) rfl, qq z _ g2 ⟨fun e => ?_, fun e => ?_⟩⟩
      · cases hm : msL f g A2.toNat D2.toNat with
        | nil => rfl
        | cons m ms =>
          rw [hm] at pz
          cases pz with
          | cons r _ =>
            obtain ⟨p, e2, _⟩ := r
            rw [e2] at e
            cases e
      · have := hne.mpr e
        cases this
theorem ok_own_motions (T : Txt w K mg) (TB : TBs K base mg) : Good P w K mg base 14 "own_motions" ["carpet"] (fun vs H Q _ => ∃ p f A B D, vs = [.ref p] ∧ CarAt K H p f A B D ∧ LamX.Tabs (tb K) H ∧
    ∀ l H' zs, Gr K H H' → H l = none → H' l = some (.lst zs) → Paired (MotR K H') (msL f f A.toNat D.toNat) zs → Q (.ref l) H') := by
  refine good_mk (d := d_own_motions) (N := ["carpet"]) T.d_own_motions rfl rfl T.g_own_motions ⟨rfl, rfl, rfl, by decide +kernel, rfl, by decide +kernel, by decide +kernel⟩
    (fun _ _ _ _ _ _ us hl => match us, hl with | [_], _ => rfl) (fun vs H Q E h => ?_) (fun f0 cdv Ar outer s H vs Q E hr h => ?_)
  · obtain ⟨p, f, A, B, D, rfl, _⟩ := h
    rfl
  · obtain ⟨p, f, A, B, D, rfl, hp, hT, qq⟩ := h
    refine ⟨_, (pss_one (ps_ret (pe_fn (ok_motions_between T TB) hr (pa_cons (pv 0) (pa_cons (pv 0) pa_nil))))), ?_⟩
    exact ⟨_, rfl, _, rfl, p, p, f, f, A, B, D, A, B, D, rfl, hp, hp, hT, qq⟩
theorem ok_are_like (T : Txt w K mg) (TB : TBs K base mg) : Good P w K mg base 15 "are_like" ["one", "other"] (fun vs H Q _ => ∃ p q f g A B D A2 B2 D2, vs = [.ref p, .ref q] ∧ CarAt K H p f A B D ∧ CarAt K H q g A2 B2 D2 ∧ LamX.Tabs (tb K) H ∧
    ∀ b H', Gr K H H' → (b = true ↔ msL f g A2.toNat D2.toNat ≠ []) → Q (.bl b) H') := by
  refine good_mk (d := d_are_like) (N := ["one", "other"]) T.d_are_like rfl rfl T.g_are_like ⟨rfl, rfl, rfl, by decide +kernel, rfl, by decide +kernel, by decide +kernel⟩
    (fun _ _ _ _ _ _ us hl => match us, hl with | [_, _], _ => rfl) (fun vs H Q E h => ?_) (fun f0 cdv Ar outer s H vs Q E hr h => ?_)
  · obtain ⟨p, q, f, g, A, B, D, A2, B2, D2, rfl, _⟩ := h
    rfl
  · obtain ⟨p, q, f, g, A, B, D, A2, B2, D2, rfl, hp, hq, hT, qq⟩ := h
    refine ⟨_, (pss_one (ps_ret (pe_cmpR op_notN (pe_fn (ok_motion_between T TB) hr (pa_cons (pv 0) (pa_cons (pv 1) pa_nil))) pe_non (nomark _)))), ?_⟩
    refine ⟨_, rfl, _, rfl, p, q, f, g, A, B, D, A2, B2, D2, rfl, hp, hq, hT, fun v H' g1 hv => ⟨rfl, ?_⟩⟩
    refine qq _ H' g1 ?_
    by_cases e : v = .non
    · rw [decide_eq_true e]
      exact ⟨fun z => (by cases z), fun z => absurd (hv.mp e) z⟩
    · rw [decide_eq_false e]
      exact ⟨fun _ z => e (hv.mpr z), fun _ => rfl⟩
end
end K84
set_option Elab.async false
set_option linter.all false
set_option maxRecDepth 100000
set_option maxHeartbeats 1000000
/-! the order of forms; the least form -/
namespace K84
open PySem PySem.Spec PyProof.Rows L2
open PySem.W (dataLt alike alikeAll keyToks keyToksAll)
def sLt (rs ss : List Str) : Bool := PyProof.Rows.lexLt PyProof.Rows.itemOrd (keyToksAll (rs.map .str)) (keyToksAll (ss.map .str))
def iLt (ns ms : List Int) : Bool := PyProof.Rows.lexLt PyProof.Rows.itemOrd (keyToksAll (ns.map .int)) (keyToksAll (ms.map .int))
theorem alike_strs : ∀ rs ss : List Str, alikeAll (rs.map .str) (ss.map .str) = true
  | [], ss => by cases ss <;> simp [alikeAll]
  | _ :: _, [] => by simp [alikeAll]
  | r :: rs, s :: ss => by
    rw [List.map_cons, List.map_cons, alikeAll, alike_strs rs ss]
    simp [alike]
theorem iLt_cons (a b : Int) (ns ms : List Int) : iLt (a :: ns) (b :: ms) = if a = b then iLt ns ms else decide (a < b) := by
  unfold iLt
  rw [List.map_cons, List.map_cons, PySem.W.dataLt_cons (by simp [alike]), PySem.W.dataLt_int]
  by_cases h : a = b
  · rw [if_pos h, if_pos (by rw [PyData.eqv, h]; exact beq_self_eq_true b)]
  · rw [if_neg h, if_neg (by rw [PyData.eqv]; simpa using h)]
theorem iLt_nil : iLt [] [] = false := PyProof.Rows.lex_irrefl _
theorem sLt_irrefl (r : List Str) : sLt r r = false := PyProof.Rows.lex_irrefl _
theorem sLt_trans {a b c : List Str} (h1 : sLt a b = true) (h2 : sLt b c = true) : sLt a c = true := PyProof.Rows.lex_trans _ _ _ h1 h2
theorem toks_inj : ∀ rs ss : List Str, keyToksAll (rs.map .str) = keyToksAll (ss.map .str) → rs = ss
  | [], [], _ => rfl
  | [], s :: ss, h => by simp [keyToksAll] at h
  | r :: rs, [], h => by simp [keyToksAll] at h
  | r :: rs, s :: ss, h => by
    simp only [List.map_cons, keyToksAll, keyToks, List.singleton_append, List.cons.injEq, Sum.inr.injEq, true_and] at h
    rw [toks_inj rs ss h.2, PySem.W.str_of_cps h.1]
theorem sLt_tri {a b : List Str} (h1 : sLt a b = false) (h2 : sLt b a = false) : a = b := toks_inj _ _ (PyProof.Rows.lex_total _ _ h1 h2)
/-- a form, as a value -/
abbrev Fm := Int × Int × Int × List Str
def fmD (F : Fm) : PyData := .tuple [.int F.1, .int F.2.1, .int F.2.2.1, .tuple (F.2.2.2.map .str)]
def fLt (F G : Fm) : Bool := if F.1 = G.1 then if F.2.1 = G.2.1 then if F.2.2.1 = G.2.2.1 then sLt F.2.2.2 G.2.2.2 else decide (F.2.2.1 < G.2.2.1) else decide (F.2.1 < G.2.1) else decide (F.1 < G.1)
/-- of the numbers alone -/
def bLt (F G : Fm) : Bool := if F.1 = G.1 then if F.2.1 = G.2.1 then decide (F.2.2.1 < G.2.2.1) else decide (F.2.1 < G.2.1) else decide (F.1 < G.1)
theorem iLt3 (F G : Fm) : iLt [F.1, F.2.1, F.2.2.1] [G.1, G.2.1, G.2.2.1] = bLt F G := by
  rw [iLt_cons, iLt_cons, iLt_cons, iLt_nil]
  unfold bLt
  by_cases h : F.2.2.1 = G.2.2.1
  · rw [if_pos h, h]
    simp
  · rw [if_neg h]
theorem fLt_data (F G : Fm) : dataLt (fmD F) (fmD G) = fLt F G := by
  have ec : ∀ (a b : Int) (xs ys : List PyData), PyProof.Rows.lexLt PyProof.Rows.itemOrd (keyToksAll (.int a :: xs)) (keyToksAll (.int b :: ys)) = if a = b then PyProof.Rows.lexLt PyProof.Rows.itemOrd (keyToksAll xs) (keyToksAll ys) else decide (a < b) := fun a b xs ys => by
    rw [PySem.W.dataLt_cons (by simp [alike]), PySem.W.dataLt_int]
    by_cases h : a = b
    · rw [if_pos h, if_pos (by rw [PyData.eqv, h]; exact beq_self_eq_true b)]
    · rw [if_neg h, if_neg (by rw [PyData.eqv]; simpa using h)]
  unfold fmD fLt
  rw [PySem.W.dataLt_tuple, ec, ec, ec, PySem.W.dataLt_cons (by rw [alike]; exact alike_strs _ _), PySem.W.dataLt_tuple, eqv_strs]
  have e : (if decide (F.2.2.2 = G.2.2.2) = true then PyProof.Rows.lexLt PyProof.Rows.itemOrd (keyToksAll []) (keyToksAll []) else PyProof.Rows.lexLt PyProof.Rows.itemOrd (keyToksAll (F.2.2.2.map .str)) (keyToksAll (G.2.2.2.map .str))) = sLt F.2.2.2 G.2.2.2 := by
    by_cases h : F.2.2.2 = G.2.2.2
    · rw [if_pos (decide_eq_true h), h, sLt_irrefl]
      exact PyProof.Rows.lex_irrefl _
    · rw [if_neg (by simpa using h)]
      rfl
  rw [e]
theorem fLt_irrefl (F : Fm) : fLt F F = false := by
  unfold fLt
  simp [sLt_irrefl]
theorem fLt_iff {F G : Fm} : fLt F G = true ↔ F.1 < G.1 ∨ (F.1 = G.1 ∧ (F.2.1 < G.2.1 ∨ (F.2.1 = G.2.1 ∧ (F.2.2.1 < G.2.2.1 ∨ (F.2.2.1 = G.2.2.1 ∧ sLt F.2.2.2 G.2.2.2 = true))))) := by
  unfold fLt
  by_cases h1 : F.1 = G.1
  · rw [if_pos h1]
    by_cases h2 : F.2.1 = G.2.1
    · rw [if_pos h2]
      by_cases h3 : F.2.2.1 = G.2.2.1
      · rw [if_pos h3]
        constructor
        · exact fun h => .inr ⟨h1, .inr ⟨h2, .inr ⟨h3, h⟩⟩⟩
        · rintro (h | ⟨_, h | ⟨_, h | ⟨_, h⟩⟩⟩)
          · omega
          · omega
          · omega
          · exact h
      · rw [if_neg h3, decide_eq_true_iff]
        omega
    · rw [if_neg h2, decide_eq_true_iff]
      omega
  · rw [if_neg h1, decide_eq_true_iff]
    omega
theorem fLt_trans {F G I : Fm} (h1 : fLt F G = true) (h2 : fLt G I = true) : fLt F I = true := by
  rw [fLt_iff] at *
  rcases h1 with a | ⟨a, a2⟩ <;> rcases h2 with b | ⟨b, b2⟩
  · exact .inl (by omega)
  · exact .inl (by omega)
  · exact .inl (by omega)
  · refine .inr ⟨by omega, ?_⟩
    rcases a2 with a2 | ⟨a2, a3⟩ <;> rcases b2 with b2 | ⟨b2, b3⟩
    · exact .inl (by omega)
    · exact .inl (by omega)
    · exact .inl (by omega)
    · refine .inr ⟨by omega, ?_⟩
      rcases a3 with a3 | ⟨a3, a4⟩ <;> rcases b3 with b3 | ⟨b3, b4⟩
      · exact .inl (by omega)
      · exact .inl (by omega)
      · exact .inl (by omega)
      · exact .inr ⟨by omega, sLt_trans a4 b4⟩
theorem fLt_tri {F G : Fm} (h1 : fLt F G = false) (h2 : fLt G F = false) : F = G := by
  have n1 : ¬ fLt F G = true := by rw [h1]; simp
  have n2 : ¬ fLt G F = true := by rw [h2]; simp
  rw [fLt_iff] at n1 n2
  have e1 : F.1 = G.1 := by omega
  have e2 : F.2.1 = G.2.1 := by omega
  have e3 : F.2.2.1 = G.2.2.1 := by omega
  have s1 : sLt F.2.2.2 G.2.2.2 = false := by
    cases h : sLt F.2.2.2 G.2.2.2 with
    | false => rfl
    | true => exact absurd (.inr ⟨e1, .inr ⟨e2, .inr ⟨e3, h⟩⟩⟩) n1
  have s2 : sLt G.2.2.2 F.2.2.2 = false := by
    cases h : sLt G.2.2.2 F.2.2.2 with
    | false => rfl
    | true => exact absurd (.inr ⟨e1.symm, .inr ⟨e2.symm, .inr ⟨e3.symm, h⟩⟩⟩) n2
  have e4 := sLt_tri s1 s2
  obtain ⟨a, b, c, d⟩ := F
  obtain ⟨a', b', c', d'⟩ := G
  simp only at e1 e2 e3 e4
  rw [e1, e2, e3, e4]
theorem fLt_asymm {F G : Fm} (h : fLt F G = true) : fLt G F = false := by
  cases h2 : fLt G F with
  | false => rfl
  | true => exact absurd (fLt_trans h h2) (by rw [fLt_irrefl]; simp)
/-- not below F, and F' below F: not below F' -/
theorem fLt_down {F F' G : Fm} (h : fLt F' F = true) (h2 : fLt G F = false) : fLt G F' = false := by
  cases h3 : fLt G F' with
  | false => rfl
  | true => exact absurd (fLt_trans h3 h) (by rw [h2]; simp)
theorem bLt_f {F G : Fm} (h : bLt F G = true) : fLt F G = true := by
  rw [fLt_iff]
  unfold bLt at h
  by_cases h1 : F.1 = G.1
  · rw [if_pos h1] at h
    by_cases h2 : F.2.1 = G.2.1
    · rw [if_pos h2, decide_eq_true_iff] at h
      exact .inr ⟨h1, .inr ⟨h2, .inl h⟩⟩
    · rw [if_neg h2, decide_eq_true_iff] at h
      exact .inr ⟨h1, .inl h⟩
  · rw [if_neg h1, decide_eq_true_iff] at h
    exact .inl h
/-- F is a form of f moved by t and a shift -/
def IsForm (f : Int → Int → Nat) (t : Tn) (F : Fm) : Prop := ∃ A B D c, LeastOf (movd t 0 0 f) A B D ∧ c ∈ placesL A.toNat D.toNat ∧ F = (A, B, D, rowsS (movd t c.1 c.2 f) A.toNat D.toNat)
def LeastFm (f : Int → Int → Nat) (F : Fm) : Prop := (∃ t, IsForm f t F) ∧ ∀ t G, IsForm f t G → fLt G F = false
theorem LeastFm.uniq {f : Int → Int → Nat} {F G : Fm} (h1 : LeastFm f F) (h2 : LeastFm f G) : F = G := by
  obtain ⟨⟨t1, i1⟩, l1⟩ := h1
  obtain ⟨⟨t2, i2⟩, l2⟩ := h2
  exact fLt_tri (l2 t1 F i1) (l1 t2 G i2)
end K84
set_option Elab.async false
set_option linter.all false
set_option maxRecDepth 100000
set_option maxHeartbeats 1000000
/-! least_form -/
namespace K84
open PySem PySem.Spec PyProof.Rows L2
open PySem.W (dataLt alike alikeAll keyToks keyToksAll)
/-- a form stands at p -/
def FmAt (H : Hp) (p : Addr) (F : Fm) : Prop := ∃ rn, H p = some (.tup [.int F.1, .int F.2.1, .int F.2.2.1, .ref rn]) ∧ H rn = some (.tup (F.2.2.2.map V.str))
theorem FmAt.same {H H' : Hp} (e : Same H H') {p : Addr} {F : Fm} (h : FmAt H p F) : FmAt H' p F := let ⟨rn, h1, h2⟩ := h; ⟨rn, e _ _ h1, e _ _ h2⟩
theorem dp_fm {K : PySem.W.Frag} {H : Hp} {p : Addr} {F : Fm} (h : FmAt H p F) : Dp K H (.ref p) (fmD F) := by
  obtain ⟨rn, h1, h2⟩ := h
  exact .tup (SqT.of h1) (.cons (.int _) (.cons (.int _) (.cons (.int _) (.cons (dp_strs (SqT.of h2)) .nil))))
theorem fmD_depth (F : Fm) : (fmD F).depth ≤ 60 := by
  unfold fmD
  simp only [PyData.depth, PyData.depthAll, dep_strs]
  decide
theorem fmD_alike (F G : Fm) : alike (fmD F) (fmD G) = true := by
  unfold fmD
  simp only [alike, alikeAll, alike_strs]
  rfl
theorem d3_alike (a b c a' b' c' : Int) : alike (.tuple ([a, b, c].map .int)) (.tuple ([a', b', c'].map .int)) = true := by simp [alike, alikeAll]
theorem d3_depth (ns : List Int) : (PyData.tuple (ns.map .int)).depth ≤ 60 := by
  rw [PyData.depth, dep_ints]
  decide
theorem d3_lt (ns ms : List Int) : dataLt (.tuple (ns.map .int)) (.tuple (ms.map .int)) = iLt ns ms := PySem.W.dataLt_tuple _ _
/-- what stands in `least`, behind the forms that hold done -/
def LS (f : Int → Int → Nat) (done : Fm → Prop) (H : Hp) (lv : Option V) : Prop := (lv = some .non ∧ ∀ G, ¬ done G) ∨ (∃ lf F t, lv = some (.ref lf) ∧ FmAt H lf F ∧ IsForm f t F ∧ ∀ G, done G → fLt G F = false)
theorem LS.same {f : Int → Int → Nat} {done : Fm → Prop} {H H' : Hp} {lv : Option V} (h : LS f done H lv) (e : Same H H') : LS f done H' lv := by
  rcases h with h | ⟨lf, F, t, h1, h2, h3⟩
  · exact .inl h
  · exact .inr ⟨lf, F, t, h1, h2.same e, h3⟩
theorem LS.done {f : Int → Int → Nat} {done done' : Fm → Prop} {H : Hp} {lv : Option V} (h : LS f done H lv) (e : ∀ G, done' G → done G) : LS f done' H lv := by
  rcases h with ⟨h, h2⟩ | ⟨lf, F, t, h1, h2, h3, h4⟩
  · exact .inl ⟨h, fun G z => h2 G (e G z)⟩
  · exact .inr ⟨lf, F, t, h1, h2, h3, fun G z => h4 G (e G z)⟩
section
variable {P : Program} {w : World} {K : PySem.W.Frag} {mg : Str → Option Value} {base : Heap}
theorem make_car2 {H : Hp} {W : VK} {x dx r : Addr} {a b d : Int} {rows : List Str} (hrw : H r = some (.lst (rows.map V.str)) ∨ SqT K H r (rows.map V.str)) (hb : Bas a b d) (hs : a * d ≤ 144) (hro : RowsOk a d rows) (nx : H x = none) (ndx : H dx = none)
    (k : ∀ H' A B D, Same H H' → CarO K H' x (colr a b d rows) A B D a b d rows → W .non H') : spCarInit K (.ref x :: ([.int a, .int b, .int d, .ref r] ++ [])) (upd (upd H dx (.own x)) x (.ins (CC K) dx [])) W E0 := by
  have e : Same H (upd (upd H dx (.own x)) x (.ins (CC K) dx [])) := fun c o z => by
    rw [upd_ne (ne_of_none z nx), upd_ne (ne_of_none z ndx)]
    exact z
  exact ⟨x, dx, r, a, b, d, rows, rfl, upd_same, hrw.elim (fun z => .inl (e _ _ z)) (fun z => .inr (sqT_same e z)), hb, hs, hro, fun H' A B D e' c => k H' A B D (fun c0 o z => e' c0 o (e _ _ z) (ne_of_none z nx)) c⟩
theorem sc_lf : FnScope ["carpet", "forms", "least", "form", "shift", "rows", "told", "turn"] ["carpet"] d_least_form.scope := ⟨rfl, rfl, rfl, by decide +kernel, rfl, by decide +kernel, by decide +kernel⟩
theorem ok_least_form (T : Txt w K mg) (TB : TBs K base mg) : Good P w K mg base 13 "least_form" ["carpet"] (fun vs H Q _ => ∃ p f A B D, vs = [.ref p] ∧ CarAt K H p f A B D ∧ LamX.Tabs (tb K) H ∧
    ∀ x H' h A B D, Gr K H H' → LeastFm f (A, B, D, rowsS h A.toNat D.toNat) → CarN K H' x h A B D → Q (.ref x) H') := by
  refine good_mk (d := d_least_form) T.d_least_form rfl rfl T.g_least_form sc_lf
    (fun _ _ _ _ _ _ us hl => match us, hl with | [_], _ => rfl) (fun vs H Q E h => ?_) (fun f0 cdv Ar outer s H vs Q E hr h => ?_)
  · obtain ⟨p, f, A, B, D, rfl, _⟩ := h
    rfl
  · obtain ⟨p, f, A, B, D, rfl, hp, hT, qq⟩ := h
    have nd := sc_lf.nd
    obtain ⟨fm, FM, ⟨ds1, vM1, bM1⟩, _⟩ := ok_mot_init (P := P) (w := w) (base := base) (mg := mg) T
    obtain ⟨fc, FC, bC⟩ := ok_car_init (P := P) (w := w) (base := base) (mg := mg) T
    refine ⟨_, (pss_cons (ps_expr (pe_fn (ok_check_carpet T) hr (pa_cons (pv 0) pa_nil)))
      (pss_cons (ps_setLc (i := 1) (own := [("turn", 7)]) rfl nd rfl rfl rfl (pi_tup (pe_glob (v := .ref (He.ga K "TURNS")) rfl T.g_TURNS rfl)) (blkOk_by (own := [("turn", 7)]) (N := ["carpet", "forms", "least", "form", "shift", "rows", "told", "turn"]) (sc := d_least_form.scope) (by decide +kernel)) (fun _ _ _ _ _ => (pg_name (i := 7) nd rfl (Or.inl rfl))) (fun _ _ _ _ _ => pts_nil)
          (fun _ _ _ _ _ => (pe_m0 (K := K) rfl (ok_c_normal T) T.c_Carpet T.m_Carpet_normal hr (pe_fn (ok_moved T TB) hr (pa_cons (pe_make T.mk_Motion FM (hr.mono (by decide)) (by rfl) T.g_Motion bM1 vM1 pass0 (pa_cons (pv 7) pa_nil)) (pa_cons (pv 0) pa_nil))))))
      (pss_cons (ps_set (i := 2) nd rfl (Or.inl rfl) pe_non)
      (pss_cons (ps_for PassesOwn.never rfl (pi_list (pv 1)) (pg_name (i := 3) nd rfl (Or.inl rfl))
        (pss_one (ps_if (PW.pt (pw_or (pt_cmpR op_isN (pv 2) pe_non (nomark _)) (pw_or1 (pt_cmpR (op_leD (un64 hr)) (pe_slice sl_tup (pv 3) po_none (po_some pe_int)) (pe_slice sl_tup (pv 2) po_none (po_some pe_int)) (nomark _)))))
          (pss_one (ps_for PassesOwn.never rfl (pi_list (pe_fn (ok_all_shifted T) hr (pa_cons (pv 3) pa_nil))) (pg_tup rfl (pgs_cons (pg_name (i := 4) nd rfl (Or.inl rfl)) (pgs_cons (pg_name (i := 5) nd rfl (Or.inl rfl)) pgs_nil)))
            (pss_cons (ps_set (i := 6) nd rfl (Or.inl rfl) (pe_tup (pa_cons (pe_ix ix_tup (pv 3) pe_int (fun _ _ => rfl)) (pa_cons (pe_ix ix_tup (pv 3) pe_int (fun _ _ => rfl)) (pa_cons (pe_ix ix_tup (pv 3) pe_int (fun _ _ => rfl)) (pa_cons (pv 5) pa_nil))))))
            (pss_one (ps_if (PW.pt (pw_or (pt_cmpR op_isN (pv 2) pe_non (nomark _)) (pw_or1 (pt_cmpR (op_ltD (un64 hr)) (pv 6) (pv 2) (nomark _))))) (pss_one (ps_set (i := 2) nd rfl (Or.inl rfl) (pv 6))) pss_nil))))) pss_nil)))
      (pss_one (ps_ret (pe_make T.mk_Carpet FC (hr.mono (by decide)) (by rfl) T.g_Carpet bC .nil pass0 (pa_cons (pe_ix ix_tup (pv 2) pe_int (fun _ _ => rfl)) (pa_cons (pe_ix ix_tup (pv 2) pe_int (fun _ _ => rfl)) (pa_cons (pe_ix ix_tup (pv 2) pe_int (fun _ _ => rfl)) (pa_cons (pe_callTy call_list_of (by rfl) T.f_list b_list (pa_cons (pe_ix ix_tup (pv 2) pe_int (fun _ _ => rfl)) pa_nil)) pa_nil))))))))))), ?_⟩
    refine ⟨_, rfl, p, f, A, B, D, rfl, hp, ?_⟩
    refine ⟨_, rfl, ⟨_, turns_at T _⟩, fun Dd nD => ?_⟩
    refine lcT (evoGr K) (K := K) (a := He.ga K "TURNS") (xs := Tn.all.map fun t => V.str t.str) (fun H _ => turns_at T H) (fun _ => true)
      (fun i y H => ∃ sh A B D, y = .ref sh ∧ FormAt H sh (movd (Tn.all.getD i .stay) 0 0 f) A B D ∧ LeastOf (movd (Tn.all.getD i .stay) 0 0 f) A B D ∧ A * D ≤ 144) nD (by decide) (fun i y H H' e ⟨sh, A, B, D, h1, h2, h3⟩ => ⟨sh, A, B, D, h1, h2.kp e, h3⟩) (fun i x H2 Kc Kn hx g2 hc _ => ?_) (fun H2 ys g2 hD al => ?_)
    · have hi : i < Tn.all.length := by
        have := (List.getElem?_eq_some_iff.mp hx).1
        simpa using this
      rw [List.getElem?_map, List.getElem?_eq_getElem hi] at hx
      obtain ⟨t, ht⟩ : ∃ t, Tn.all[i] = t := ⟨_, rfl⟩
      have hgd : Tn.all.getD i .stay = t := getD_at (by rw [List.getElem?_eq_getElem hi, ht])
      rw [ht] at hx
      cases hx
      rw [hgd] at hc
      refine ⟨rfl, _, rfl, ?_⟩
      intro m dm nxm ndm nexm
      refine make_mot2 (K := K) (t := t) (dfl_pr T _) nxm ndm fun H4 e4 hm => ⟨rfl, ?_⟩
      have hp4 := (hp.kp ((evoGr K).kp g2)).kp (Kp.of e4)
      refine ⟨_, rfl, m, p, t, 0, 0, f, A, B, D, rfl, hm, hp4, (g2.tabs hT).ext e4, fun p' H5 A' B' D' g5 cn => ?_⟩
      obtain ⟨dxn, rn, ln, shn, hn1, hn2, hn3, hn4⟩ := cn.ob
      refine ⟨p', dxn, _, rfl, hn1, carF_no (by decide +kernel), p', _, A', B', D', rfl, ⟨_, _, _, _, cn⟩, fun sh hsh => ?_⟩
      exact hc _ _ rfl ((evoGr K).trans ((evoGr K).same e4) g5) ⟨sh, A', B', D', rfl, hsh, cn.le, cn.least_sz⟩
    · have e8 : (Tn.all.map fun t => V.str t.str).length = 8 := by decide
      rw [e8] at al
      unfold Al at al
      rw [filter_yes] at al
      have l8 := paired_len al
      rw [List.length_range] at l8
      have atF : ∀ i, i < 8 → ∃ y, ys[i]? = some y ∧ ∃ sh A B D, y = .ref sh ∧ FormAt H2 sh (movd (Tn.all.getD i .stay) 0 0 f) A B D ∧ LeastOf (movd (Tn.all.getD i .stay) 0 0 f) A B D ∧ A * D ≤ 144 := fun i hi => paired_at al (List.getElem?_range hi)
      refine ⟨_, rfl, Dd, rfl, ⟨_, SqL.of hD⟩, for_list (K := K) (a := Dd) (xs := ys) (fun i σ H3 => ∃ lv a b c d, σ = [some (.ref p), some (.ref Dd), lv, a, b, c, d, none] ∧ Same H2 H3 ∧ LS f (fun G => ∃ t ∈ Tn.all.take i, IsForm f t G) H3 lv)
        ⟨some .non, none, none, none, none, rfl, Same.refl _, .inl ⟨rfl, fun G ⟨t, ht, _⟩ => by cases ht⟩⟩ (fun i σ H3 _ ⟨_, _, _, _, _, _, e3, _⟩ => SqL.of (e3 _ _ hD)) ?_ ?_⟩
      · rintro i x σ H3 hx ⟨lv, a, b, c, d, rfl, e3, hls⟩
        have hi : i < 8 := by
          have := (List.getElem?_eq_some_iff.mp hx).1
          omega
        obtain ⟨y, hy, sh, A', B', D', rfl, hsh, hle, hsz⟩ := atF i hi
        rw [hx] at hy
        cases hy
        obtain ⟨t, ht⟩ : ∃ t, Tn.all.getD i .stay = t := ⟨_, rfl⟩
        rw [ht] at hsh hle
        have htake : Tn.all.take (i + 1) = Tn.all.take i ++ [t] := by
          have hi2 : i < Tn.all.length := hi
          have : Tn.all[i] = t := by rw [← ht, getD_at (List.getElem?_eq_getElem hi2)]
          rw [List.take_succ, List.getElem?_eq_getElem hi2, this]
          rfl
        have hsh3 := hsh.kp (Kp.of e3)
        obtain ⟨_, hsh1, _⟩ := id hsh
        obtain ⟨rn, hs1, hs2⟩ := id hsh3
        have hbs := bas_small hle.1 hsz
        have hsX := hsh1
        rcases id hls with ⟨rfl, hno⟩ | ⟨lf, F, tF, rfl, hF, hiF, hlF⟩
        · refine ⟨_, rfl, rfl, _, rfl, ?_⟩
          rw [decide_eq_true rfl]
          refine iteT (iteT ?_)
          refine ⟨_, rfl, sh, _, A', B', D', rfl, hsh.kp (Kp.of e3), hbs, hle.pA, hle.pD, fun pl H6 ys6 e6 npl hys pys => ?_⟩
          have hL : ys6.length = (placesL A'.toNat D'.toNat).length := paired_len pys
          refine ⟨pl, rfl, ⟨_, SqL.of hys⟩, for_list (K := K) (a := pl) (xs := ys6) (fun j σ H7 => ∃ lv b c d, σ = [some (.ref p), some (.ref Dd), lv, some (.ref sh), b, c, d, none] ∧ Same H6 H7 ∧ LS f (fun G => (∃ t ∈ Tn.all.take i, IsForm f t G) ∨ ∃ c ∈ (placesL A'.toNat D'.toNat).take j, G = (A', B', D', rowsS (movd t c.1 c.2 f) A'.toNat D'.toNat)) H7 lv)
            ⟨_, _, _, _, rfl, Same.refl _, (hls.same e6).done (fun G z => z.elim id (fun ⟨c, hc, _⟩ => by cases hc))⟩ (fun j σ H7 _ ⟨_, _, _, _, _, e7, _⟩ => SqL.of (e7 _ _ hys)) ?_ ?_⟩
          · rintro j x σ H7 hx7 ⟨lv7, b7, c7, d7, rfl, e7, hl7⟩
            have hj : j < (placesL A'.toNat D'.toNat).length := by
              rw [← hL]
              exact (List.getElem?_eq_some_iff.mp hx7).1
            obtain ⟨z', hz', hsa⟩ := paired_at pys (List.getElem?_eq_getElem hj)
            rw [hx7] at hz'
            cases hz'
            obtain ⟨c, hc9⟩ : ∃ c, (placesL A'.toNat D'.toNat)[j] = c := ⟨_, rfl⟩
            have hcm : c ∈ placesL A'.toNat D'.toNat := hc9 ▸ List.getElem_mem hj
            have htk : (placesL A'.toNat D'.toNat).take (j + 1) = (placesL A'.toNat D'.toNat).take j ++ [c] := by
              rw [List.take_succ, List.getElem?_eq_getElem hj, hc9]
              rfl
            rw [hc9] at hsa
            obtain ⟨r, qa, sa, rfl, hr1, hr2, hr3⟩ := hsa
            rw [movd_stay] at hr3
            have hs7 := e7 _ _ (e6 _ _ (e3 _ _ hsX))
            refine ⟨r, _, rfl, SqT.of (e7 _ _ hr1), rfl, _, _, rfl, _, _, rfl, rfl, ?_⟩
            refine ⟨_, rfl, _, _, _, _, rfl, rfl, SqT.of hs7, rfl, _, rfl, _, _, _, _, rfl, rfl, SqT.of hs7, rfl, _, rfl, _, _, _, _, rfl, rfl, SqT.of hs7, rfl, _, rfl, (by show 4 ≤ sizeLine; decide), fun tt htt => ?_⟩
            have et : Same H7 (upd H7 tt (.tup [.int A', .int B', .int D', .ref sa])) := same_new htt
            have hG : FmAt (upd H7 tt (.tup [.int A', .int B', .int D', .ref sa])) tt (A', B', D', rowsS (movd t c.1 c.2 f) A'.toNat D'.toNat) := ⟨sa, upd_same, et _ _ (e7 _ _ hr3)⟩
            have hGF : IsForm f t (A', B', D', rowsS (movd t c.1 c.2 f) A'.toNat D'.toNat) := ⟨A', B', D', c, hle, hcm, rfl⟩
            rcases hl7.same et with ⟨rfl, hno⟩ | ⟨lf7, F7, t7, rfl, hF7, hiF7, hlF7⟩
            · refine ⟨_, rfl, rfl, _, rfl, ?_⟩
              rw [decide_eq_true rfl]
              refine iteT (iteT ⟨_, rfl, _, _, _, _, rfl, e7.trans et, .inr ⟨tt, _, t, rfl, hG, hGF, fun G' z => ?_⟩⟩)
              rcases z with z | ⟨c', hc', rfl⟩
              · exact absurd (.inl z) (hno G')
              · rw [htk] at hc'
                rcases List.mem_append.mp hc' with z | z
                · exact absurd (.inr ⟨c', z, rfl⟩) (hno _)
                · rw [List.mem_singleton.mp z]
                  exact fLt_irrefl _
            · refine ⟨_, rfl, rfl, _, rfl, ?_⟩
              rw [decide_eq_false (fun z => by cases z)]
              refine iteF ⟨_, rfl, _, rfl, _, _, dp_fm hG, dp_fm hF7, fmD_alike _ _, (fun z => by cases z), Nat.le_trans (Nat.min_le_left _ _) (fmD_depth _), _, rfl, ?_⟩
              rw [fLt_data]
              cases hlt : fLt (A', B', D', rowsS (movd t c.1 c.2 f) A'.toNat D'.toNat) F7 with
              | true =>
                refine iteT ⟨_, rfl, _, _, _, _, rfl, e7.trans et, .inr ⟨tt, _, t, rfl, hG, hGF, fun G' z => ?_⟩⟩
                rcases z with z | ⟨c', hc', rfl⟩
                · exact fLt_down hlt (hlF7 G' (.inl z))
                · rw [htk] at hc'
                  rcases List.mem_append.mp hc' with z | z
                  · exact fLt_down hlt (hlF7 _ (.inr ⟨c', z, rfl⟩))
                  · rw [List.mem_singleton.mp z]
                    exact fLt_irrefl _
              | false =>
                refine iteF ⟨_, _, _, _, rfl, e7.trans et, .inr ⟨lf7, F7, t7, rfl, hF7, hiF7, fun G' z => ?_⟩⟩
                rcases z with z | ⟨c', hc', rfl⟩
                · exact hlF7 G' (.inl z)
                · rw [htk] at hc'
                  rcases List.mem_append.mp hc' with z | z
                  · exact hlF7 _ (.inr ⟨c', z, rfl⟩)
                  · rw [List.mem_singleton.mp z]
                    exact hlt
          · rintro σ H7 ⟨lv7, b7, c7, d7, rfl, e7, hl7⟩
            refine ⟨lv7, _, b7, c7, d7, rfl, e3.trans (e6.trans e7), hl7.done fun G' ⟨t2, ht2, hG2⟩ => ?_⟩
            rw [htake] at ht2
            rcases List.mem_append.mp ht2 with z | z
            · exact .inl ⟨t2, z, hG2⟩
            · rw [List.mem_singleton.mp z] at hG2
              obtain ⟨A9, B9, D9, c9, hle9, hc9, rfl⟩ := hG2
              obtain ⟨rfl, rfl, rfl⟩ := hle9.uniq hle
              exact .inr ⟨c9, by rw [hL, List.take_length]; exact hc9, rfl⟩
        · refine ⟨_, rfl, rfl, _, rfl, ?_⟩
          rw [decide_eq_false (fun z => by cases z)]
          obtain ⟨rF, hF1, hF2⟩ := id hF
          refine iteF ⟨_, rfl, _, rfl, sh, _, rfl, SqT.of hs1, cut3, fun c1 hc1 => ?_⟩
          have kc1 : Same H3 (upd H3 c1 (.tup [.int A', .int B', .int D'])) := same_new hc1
          refine ⟨_, rfl, _, rfl, lf, _, rfl, SqT.of (kc1 _ _ hF1), cut3, fun c2 hc2 => ?_⟩
          have kc2 : Same (upd H3 c1 (.tup [.int A', .int B', .int D'])) (upd (upd H3 c1 (.tup [.int A', .int B', .int D'])) c2 (.tup [.int F.1, .int F.2.1, .int F.2.2.1])) := same_new hc2
          have k57 := kc1.trans kc2
          refine ⟨_, _, dp_ints (ns := [A', B', D']) (SqT.of (kc2 _ _ upd_same)), dp_ints (ns := [F.1, F.2.1, F.2.2.1]) (SqT.of upd_same), d3_alike _ _ _ _ _ _, (fun z => by cases z), Nat.le_trans (Nat.min_le_left _ _) (d3_depth _), _, rfl, ?_⟩
          rw [d3_lt, iLt3 F (A', B', D', [])]
          cases hb : bLt F (A', B', D', []) with
          | true =>
            refine iteF ⟨_, _, _, _, _, rfl, e3.trans k57, .inr ⟨lf, F, tF, rfl, hF.same k57, hiF, fun G' ⟨t2, ht2, hG2⟩ => ?_⟩⟩
            rw [htake] at ht2
            rcases List.mem_append.mp ht2 with z | z
            · exact hlF G' ⟨t2, z, hG2⟩
            · rw [List.mem_singleton.mp z] at hG2
              obtain ⟨A9, B9, D9, c9, hle9, hc9, rfl⟩ := hG2
              obtain ⟨rfl, rfl, rfl⟩ := hle9.uniq hle
              exact fLt_asymm (bLt_f hb)
          | false =>
            refine iteT ?_
            have hlsk := hls.same k57
            have e3k := e3.trans k57
            refine ⟨_, rfl, sh, _, A', B', D', rfl, hsh.kp (Kp.of e3k), hbs, hle.pA, hle.pD, fun pl H6 ys6 e6 npl hys pys => ?_⟩
            have hL : ys6.length = (placesL A'.toNat D'.toNat).length := paired_len pys
            refine ⟨pl, rfl, ⟨_, SqL.of hys⟩, for_list (K := K) (a := pl) (xs := ys6) (fun j σ H7 => ∃ lv b c d, σ = [some (.ref p), some (.ref Dd), lv, some (.ref sh), b, c, d, none] ∧ Same H6 H7 ∧ LS f (fun G => (∃ t ∈ Tn.all.take i, IsForm f t G) ∨ ∃ c ∈ (placesL A'.toNat D'.toNat).take j, G = (A', B', D', rowsS (movd t c.1 c.2 f) A'.toNat D'.toNat)) H7 lv)
              ⟨_, _, _, _, rfl, Same.refl _, (hlsk.same e6).done (fun G z => z.elim id (fun ⟨c, hc, _⟩ => by cases hc))⟩ (fun j σ H7 _ ⟨_, _, _, _, _, e7, _⟩ => SqL.of (e7 _ _ hys)) ?_ ?_⟩
            · rintro j x σ H7 hx7 ⟨lv7, b7, c7, d7, rfl, e7, hl7⟩
              have hj : j < (placesL A'.toNat D'.toNat).length := by
                rw [← hL]
                exact (List.getElem?_eq_some_iff.mp hx7).1
              obtain ⟨z', hz', hsa⟩ := paired_at pys (List.getElem?_eq_getElem hj)
              rw [hx7] at hz'
              cases hz'
              obtain ⟨c, hc9⟩ : ∃ c, (placesL A'.toNat D'.toNat)[j] = c := ⟨_, rfl⟩
              have hcm : c ∈ placesL A'.toNat D'.toNat := hc9 ▸ List.getElem_mem hj
              have htk : (placesL A'.toNat D'.toNat).take (j + 1) = (placesL A'.toNat D'.toNat).take j ++ [c] := by
                rw [List.take_succ, List.getElem?_eq_getElem hj, hc9]
                rfl
              rw [hc9] at hsa
              obtain ⟨r, qa, sa, rfl, hr1, hr2, hr3⟩ := hsa
              rw [movd_stay] at hr3
              have hs7 := e7 _ _ (e6 _ _ (e3k _ _ hsX))
              refine ⟨r, _, rfl, SqT.of (e7 _ _ hr1), rfl, _, _, rfl, _, _, rfl, rfl, ?_⟩
              refine ⟨_, rfl, _, _, _, _, rfl, rfl, SqT.of hs7, rfl, _, rfl, _, _, _, _, rfl, rfl, SqT.of hs7, rfl, _, rfl, _, _, _, _, rfl, rfl, SqT.of hs7, rfl, _, rfl, (by show 4 ≤ sizeLine; decide), fun tt htt => ?_⟩
              have et : Same H7 (upd H7 tt (.tup [.int A', .int B', .int D', .ref sa])) := same_new htt
              have hG : FmAt (upd H7 tt (.tup [.int A', .int B', .int D', .ref sa])) tt (A', B', D', rowsS (movd t c.1 c.2 f) A'.toNat D'.toNat) := ⟨sa, upd_same, et _ _ (e7 _ _ hr3)⟩
              have hGF : IsForm f t (A', B', D', rowsS (movd t c.1 c.2 f) A'.toNat D'.toNat) := ⟨A', B', D', c, hle, hcm, rfl⟩
              rcases hl7.same et with ⟨rfl, hno⟩ | ⟨lf7, F7, t7, rfl, hF7, hiF7, hlF7⟩
              · refine ⟨_, rfl, rfl, _, rfl, ?_⟩
                rw [decide_eq_true rfl]
                refine iteT (iteT ⟨_, rfl, _, _, _, _, rfl, e7.trans et, .inr ⟨tt, _, t, rfl, hG, hGF, fun G' z => ?_⟩⟩)
                rcases z with z | ⟨c', hc', rfl⟩
                · exact absurd (.inl z) (hno G')
                · rw [htk] at hc'
                  rcases List.mem_append.mp hc' with z | z
                  · exact absurd (.inr ⟨c', z, rfl⟩) (hno _)
                  · rw [List.mem_singleton.mp z]
                    exact fLt_irrefl _
              · refine ⟨_, rfl, rfl, _, rfl, ?_⟩
                rw [decide_eq_false (fun z => by cases z)]
                refine iteF ⟨_, rfl, _, rfl, _, _, dp_fm hG, dp_fm hF7, fmD_alike _ _, (fun z => by cases z), Nat.le_trans (Nat.min_le_left _ _) (fmD_depth _), _, rfl, ?_⟩
                rw [fLt_data]
                cases hlt : fLt (A', B', D', rowsS (movd t c.1 c.2 f) A'.toNat D'.toNat) F7 with
                | true =>
                  refine iteT ⟨_, rfl, _, _, _, _, rfl, e7.trans et, .inr ⟨tt, _, t, rfl, hG, hGF, fun G' z => ?_⟩⟩
                  rcases z with z | ⟨c', hc', rfl⟩
                  · exact fLt_down hlt (hlF7 G' (.inl z))
                  · rw [htk] at hc'
                    rcases List.mem_append.mp hc' with z | z
                    · exact fLt_down hlt (hlF7 _ (.inr ⟨c', z, rfl⟩))
                    · rw [List.mem_singleton.mp z]
                      exact fLt_irrefl _
                | false =>
                  refine iteF ⟨_, _, _, _, rfl, e7.trans et, .inr ⟨lf7, F7, t7, rfl, hF7, hiF7, fun G' z => ?_⟩⟩
                  rcases z with z | ⟨c', hc', rfl⟩
                  · exact hlF7 G' (.inl z)
                  · rw [htk] at hc'
                    rcases List.mem_append.mp hc' with z | z
                    · exact hlF7 _ (.inr ⟨c', z, rfl⟩)
                    · rw [List.mem_singleton.mp z]
                      exact hlt
            · rintro σ H7 ⟨lv7, b7, c7, d7, rfl, e7, hl7⟩
              refine ⟨lv7, _, b7, c7, d7, rfl, e3k.trans (e6.trans e7), hl7.done fun G' ⟨t2, ht2, hG2⟩ => ?_⟩
              rw [htake] at ht2
              rcases List.mem_append.mp ht2 with z | z
              · exact .inl ⟨t2, z, hG2⟩
              · rw [List.mem_singleton.mp z] at hG2
                obtain ⟨A9, B9, D9, c9, hle9, hc9, rfl⟩ := hG2
                obtain ⟨rfl, rfl, rfl⟩ := hle9.uniq hle
                exact .inr ⟨c9, by rw [hL, List.take_length]; exact hc9, rfl⟩
      · rintro σ H3 ⟨lv, a, b, c, d, rfl, e3, hls⟩
        rcases hls with ⟨rfl, hno⟩ | ⟨lf, F, tF, rfl, ⟨rF, hF1, hF2⟩, hiF, hlF⟩
        · exfalso
          obtain ⟨_, _, _, A', B', D', _, _, hle, _⟩ := atF 0 (by decide)
          obtain ⟨b1, b2, b3, b4⟩ := id hle.1
          refine hno _ ⟨Tn.all.getD 0 .stay, by rw [l8]; decide, A', B', D', (0, 0), hle, mem_places.mpr ⟨Int.le_refl _, by omega, Int.le_refl _, by omega⟩, rfl⟩
        · refine ⟨_, rfl, _, _, _, _, rfl, rfl, SqT.of hF1, rfl, _, rfl, _, _, _, _, rfl, rfl, SqT.of hF1, rfl, _, rfl, _, _, _, _, rfl, rfl, SqT.of hF1, rfl, _, rfl, _, _, _, _, rfl, rfl, SqT.of hF1, rfl, ?_⟩
          refine ⟨rF, _, rfl, .inr (SqT.of hF2), fun ln hln => ?_⟩
          intro x dx nx ndx nex
          obtain ⟨A', B', D', c9, hle9, hc9, rfl⟩ := id hiF
          have hle := stay_least (u := c9.1) (v := c9.2) hle9
          rw [movd_stay] at hle
          have hsz : A' * D' ≤ 144 := by
            obtain ⟨i, hi, ei⟩ := List.mem_iff_getElem.mp (Tn.mem_all tF)
            obtain ⟨_, _, _, A9, B9, D9, _, _, hle8, hsz8⟩ := atF i hi
            rw [getD_at (List.getElem?_eq_getElem hi), ei] at hle8
            obtain ⟨rfl, rfl, rfl⟩ := hle9.uniq hle8
            exact hsz8
          obtain ⟨a0, b0, d0, rows0, co0⟩ := id hp
          have hro : RowsOk A' D' (rowsS (movd tF c9.1 c9.2 f) A'.toNat D'.toNat) := rowsOk_of (fun x y => co0.range _ _) (by have := hle.1; unfold Bas at this; omega) (by have := hle.1; unfold Bas at this; omega)
          refine make_car2 (K := K) (.inl upd_same) hle.1 hsz hro nx ndx fun H9 A9 B9 D9 e9 c9' => ⟨rfl, ?_⟩
          have ef : colr A' B' D' (rowsS (movd tF c9.1 c9.2 f) A'.toNat D'.toNat) = movd tF c9.1 c9.2 f := colr_rowsS hle
          have le9 := c9'.le
          rw [ef] at le9
          obtain ⟨rfl, rfl, rfl⟩ := le9.uniq hle
          rw [ef] at c9'
          have g9 : Gr K H H9 := (evoGr K).trans g2 ((evoGr K).same (e3.trans ((same_new hln).trans e9)))
          refine qq x H9 (movd tF c9.1 c9.2 f) _ _ _ g9 ⟨⟨tF, hiF⟩, fun t G hG => hlF G ⟨t, ?_, hG⟩⟩ c9'
          rw [l8]
          exact Tn.mem_all t
end
end K84
set_option Elab.async false
set_option linter.all false
set_option maxRecDepth 100000
set_option maxHeartbeats 1000000
/-! dict(pairs), the keys tuples -/
namespace K84
open PySem PySem.Spec PyProof.Rows L2
def mergeT (acc kvs : List (List L2.Key × V)) : List (List L2.Key × V) := kvs.foldl (fun a kv => putK a kv.1 kv.2) acc
abbrev TK (P : Program) (w : World) := tupleKind (mixKind P w)
abbrev ET := List L2.Key × Addr × Value
def mergedT (acc rest : List ET) : List ET := rest.foldl (fun a q => storedH a q.1 q.2.1 q.2.2) acc
theorem mergeT_len : ∀ (kvs acc : List (List L2.Key × V)), (mergeT acc kvs).length ≤ acc.length + kvs.length
  | [], acc => Nat.le_refl _
  | q :: r, acc => by
    have h1 := mergeT_len r (putK acc q.1 q.2)
    have h2 := length_putK acc q.1 q.2
    show (mergeT (putK acc q.1 q.2) r).length ≤ _
    rw [List.length_cons]
    omega
theorem storedH_len (xs : List ET) (k : List L2.Key) (a : Addr) (v : Value) : (storedH xs k a v).length ≤ xs.length + 1 := by
  unfold storedH
  split
  · rw [List.length_map]
    omega
  · rw [List.length_append]
    exact Nat.le_refl _
theorem storedH_keys {xs : List ET} {k : List L2.Key} {a : Addr} {v : Value} {C : Addr → Prop} (h : ∀ x ∈ xs, C x.2.1) (ha : C a) : ∀ x ∈ storedH xs k a v, C x.2.1 := by
  unfold storedH
  split
  · intro x hx
    obtain ⟨y, hy, rfl⟩ := List.mem_map.mp hx
    unfold putAt
    split
    · exact h y hy
    · exact h y hy
  · intro x hx
    rcases List.mem_append.mp hx with z | z
    · exact h x z
    · rw [List.mem_singleton.mp z]
      exact ha
section
variable {prog : Program} {w : World} {A : Around} {E : Value → Shared → Prop}
def KeyAt (P : Program) (w : World) (h : Heap) (k : List L2.Key) (b : Addr) : Prop := ∃ o, h.get? b = some o ∧ ∀ h' : Heap, h'.get? b = some o → (TK P w).is h' k b
theorem keyAt_of {P : Program} {w : World} {h : Heap} {k : List L2.Key} {b : Addr} (x : (TK P w).is h k b) : KeyAt P w h k b := by
  obtain ⟨o, its, n, h1, r⟩ := x
  exact ⟨o, h1, fun h' e => ⟨o, its, n, e, r⟩⟩
theorem dictOfH_ext {h h' : Heap} {S I : Addr} {xs : List ET} (hm : h.DictOfH (TK prog w) S xs) (hk : ∀ x ∈ xs, x.2.1 ≠ I) (hSI : S ≠ I) (he : ∀ b o, b ≠ I → h.get? b = some o → h'.get? b = some o) : h'.DictOfH (TK prog w) S xs := by
  obtain ⟨o, es, ep, h1, h2, h3, h4, h5, h6⟩ := hm
  refine ⟨o, es, ep, he _ _ hSI h1, h2, h3, h4, fun x hx => ?_, h6⟩
  obtain ⟨ob, e1, e2⟩ := keyAt_of (h5 x hx)
  exact e2 h' (he _ _ (hk x hx) e1)
theorem upd_loopT {R : Result → Shared → Prop} {S I l : Addr} {items : Array Value} {res : Value} (hh : A.handled = none) (hlI : l ≠ I) (hSI : S ≠ I) (hSl : S ≠ l) (hu : (TK prog w).room A.in1) :
    ∀ (rest : List ET) (i : Nat) (acc : List ET) (ix : Int) (t : Tok) (s : Shared), items.size = i + rest.length → acc.length + rest.length ≤ sizeLine →
      (∀ (j : Nat) (q : ET), rest[j]? = some q → ∃ (b : Addr), items[i + j]? = some (.ref b) ∧ b ≠ S ∧ b ≠ I ∧ IsTup s.heap b #[.ref q.2.1, q.2.2] ∧ q.2.1 ≠ S ∧ q.2.1 ≠ I ∧ KeyAt prog w s.heap q.1 q.2.1) →
      s.heap.IsListIter I l i → s.heap.IsList l items → s.heap.DictOfH (TK prog w) S acc → (∀ x ∈ acc, x.2.1 ≠ I) →
      (∀ h' tk, h'.DictOfH (TK prog w) S (mergedT acc rest) → (∀ b o, b ≠ S → b ≠ I → s.heap.get? b = some o → h'.get? b = some o) → R (.ok (.ret res)) { s with heap := h', toks := tk }) →
      codeAny (model prog w) A (.builtin "dict.update.loop" ⟨[.ref S, .ref I, .int ix t, res], []⟩) R s
  | [], i, acc, ix, t, s, hsz, hln, ht, hit, hl, hm, hk, hR => by
    refine codeAny_builtin ud_entry ?_
    rw [Around.under_plainId ud_plain _]
    show wpAny _ A.in1 (pyNext (.ref I) >>= _) _ _ s
    refine wpAny_bind (wpAny_pyNext_list_end (A := A.in1) hh hit hl (by first | exact Array.getElem?_eq_none (Nat.le_of_eq hsz) | (simp at hsz; simp; omega)) fun h' he => ?_)
    show wpAny _ A.in1 (Builtin.Dict.addKeywords S [] >>= _) _ _ _
    refine wpAny_bind (wpAny_pure (wpAny_pure ?_))
    exact hR h' s.toks (dictOfH_ext hm hk hSI he) fun b o _ hb e => he b o hb e
  | q :: rest, i, acc, ix, t, s, hsz, hln, ht, hit, hl, hm, hk, hR => by
    obtain ⟨b, hb, hbS, hbI, htup, hqS, hqI, hka⟩ := ht 0 q rfl
    rw [List.length_cons] at hsz hln
    refine codeAny_builtin ud_entry ?_
    rw [Around.under_plainId ud_plain _]
    show wpAny _ A.in1 (pyNext (.ref I) >>= _) _ _ s
    refine wpAny_bind (wpAny_pyNext_list_item (x := .ref b) hit hl (by simpa using hb) fun h1 hit1 hs1 => ?_)
    have ht1 : IsTup h1 b #[.ref q.2.1, q.2.2] := htup.extBut hs1.extBut hbI
    have hl1 : h1.IsList l items := hl.extBut hs1.extBut hlI
    have hm1 : h1.DictOfH (TK prog w) S acc := dictOfH_ext hm hk hSI hs1.extBut
    obtain ⟨ob, ka1, ka2⟩ := hka
    have hk1 : (TK prog w).is h1 q.1 q.2.1 := ka2 h1 (hs1.extBut _ _ hqI ka1)
    obtain ⟨o, ho, hc, n, hd⟩ := id ht1
    show wpAny _ A.in1 (holding [Value.ref b] _ >>= _) _ _ _
    refine wpAny_bind (wpAny_holding ?_)
    refine wpAny_bind (wpAny_tryCatch ?_)
    unfold Builtin.Dict.pairItems
    refine wpAny_bind (wpAny_typeOf (T := "tuple") ⟨o, ho, hc⟩ ?_)
    rw [if_pos (by first | decide | rfl | simp)]
    refine wpAny_bind (wpAny_seqItems ho hd (wpAny_pure ?_))
    show wpAny _ A.in1 (holding [.ref q.2.1, q.2.2] (dictSet S (.ref q.2.1) q.2.2)) _ _ _
    refine wpAny_holding (wpAny_dictSet_heap (knd := TK prog w) (k := q.1) hu hk1 hm1 (fun h2 hm2 hs2 => ?_) (by omega))
    refine wpAny_pure ⟨plainId_quiet ud_plain _, upd_loopT (items := items) hh hlI hSI hSl hu rest (i + 1) (storedH acc q.1 q.2.1 q.2.2) (ix + 1) 0 _ (show items.size = i + 1 + rest.length by omega) ?_ (fun j q' e => ?_) ?_ ?_ hm2 (storedH_keys (C := fun z => z ≠ I) hk hqI) fun h' tk hd' k => ?_⟩
    · have z := storedH_len acc q.1 q.2.1 q.2.2
      omega
    · obtain ⟨b', hb', hbS', hbI', htup', hqS', hqI', ⟨o', z1, z2⟩⟩ := ht (j + 1) q' (by simpa using e)
      refine ⟨b', ?_, hbS', hbI', (htup'.extBut hs1.extBut hbI').extBut hs2.extBut hbS', hqS', hqI', o', hs2.extBut _ _ hqS' (hs1.extBut _ _ hqI' z1), z2⟩
      rw [show i + 1 + j = i + (j + 1) by omega]
      exact hb'
    · exact hit1.at fun o' e => hs2.extBut I o' (Ne.symm hSI) e
    · exact hl1.extBut hs2.extBut (Ne.symm hSl)
    · exact hR h' tk hd' fun c oc h3 h4 e => k c oc h3 h4 (hs2.extBut c oc h3 (hs1.extBut c oc h4 e))
theorem call_dict_pairsT {s : Shared} {l : Addr} {ol : Obj} {items : Array Value} {n : Nat} {prs : List ET} {Q : Value → Shared → Prop} (hh : A.handled = none) (hu : (TK prog w).room A.in1.in1) (hl : s.heap.get? l = some ol) (hc : ol.cls = .type "list") (hd : ol.dict = none)
    (hdat : ol.data = .seq items n) (hsz : items.size = prs.length) (hln : prs.length ≤ sizeLine)
    (ht : ∀ (j : Nat) (q : ET), prs[j]? = some q → ∃ (b : Addr), items[j]? = some (.ref b) ∧ IsTup s.heap b #[.ref q.2.1, q.2.2] ∧ KeyAt prog w s.heap q.1 q.2.1)
    (h : ∀ h' tk, h'.DictOfH (TK prog w) s.heap.objs.size (mergedT [] prs) → (∀ b o, s.heap.get? b = some o → h'.get? b = some o) → Q (.ref s.heap.objs.size) { s with heap := h', toks := tk }) :
    wpAny (model prog w) A (call (.type "dict") [.ref l]) Q E s := by
  refine callType_codes (Q₁ := fun obj s₁ => obj = .ref s.heap.objs.size ∧ s₁ = { s with heap := s.heap.push { cls := .type "dict", data := .dict #[] } }) PySem.F.kt_called_dict (PySem.F.kt_typeCall_dict_1 _) PySem.F.entry_dict_init (kt_code_dict_new _ ⟨rfl, rfl⟩) ?_
  rintro obj s₁ ⟨rfl, rfl⟩
  have hnew : (s.heap.push { cls := .type "dict", data := .dict #[] }).DictOfH (TK prog w) s.heap.objs.size [] := Heap.DictOfH.new s.heap
  have k0 : ∀ b o, s.heap.get? b = some o → (s.heap.push { cls := .type "dict", data := .dict #[] }).get? b = some o := fun b o e => Heap.get?_push_of_some _ e
  refine ⟨hnew.typeIs (s := { s with heap := s.heap.push { cls := .type "dict", data := .dict #[] } }), PySem.F.args_dict_init_2 _ _, ?_⟩
  unfold Builtin.«dict.__init__»
  refine wpAny_bind ?_
  unfold Builtin.Dict.selfAndRest
  refine wpAny_bind (wpAny_notOrdered_dict (hnew.typeIs (s := { s with heap := s.heap.push { cls := .type "dict", data := .dict #[] } })) ?_)
  show wpAny _ _ (pure (s.heap.objs.size, [Value.ref l])) _ _ _
  refine wpAny_pure ?_
  show wpAny _ _ (Builtin.Dict.updateFrom "dict.__init__" s.heap.objs.size (.ref l) [] .none) _ _ _
  unfold Builtin.Dict.updateFrom
  refine wpAny_bind (wpAny_typeOf (T := "list") ⟨ol, k0 _ _ hl, hc⟩ ?_)
  rw [if_pos (by first | decide | rfl | simp)]
  refine wpAny_bind (miss_list (k0 _ _ hl) hc hdat hd hh fun h1 tk1 hk1 => ?_)
  rw [if_pos (show (none : Option Value).isNone = true from rfl)]
  refine wpAny_bind (wpAny_rule ?_)
  have hl1 : h1.IsList l items := ⟨ol, hk1 _ _ (k0 _ _ hl), hc, n, hdat⟩
  have hS1 : s.heap.objs.size < h1.objs.size := by
    have e : (s.heap.push { cls := .type "dict", data := .dict #[] }).get? s.heap.objs.size = some { cls := .type "dict", data := .dict #[] } := Heap.get?_push_size _ rfl
    exact Heap.lt_size (hk1 _ _ e)
  refine wpAny_bind (wpAny_pyIter_list hl1 ?_)
  have k2 : ∀ b o, h1.get? b = some o → (h1.push { cls := .type "list_iterator", data := .fields #[.ref l, .int 0 0] }).get? b = some o := fun b o e => Heap.get?_push_of_some _ e
  have hlt : l < s.heap.objs.size := Heap.lt_size hl
  have hm2 : (h1.push { cls := .type "list_iterator", data := .fields #[.ref l, .int 0 0] }).DictOfH (TK prog w) s.heap.objs.size [] := by
    obtain ⟨o, es, ep, e1, e2, e3, e4, e5, e6⟩ := hnew
    exact ⟨o, es, ep, k2 _ _ (hk1 _ _ e1), e2, e3, e4, fun x hx => (by cases hx), e6⟩
  have key := upd_loopT (prog := prog) (w := w) (A := A.in1) (R := wants (fun r s₂ => r = .none ∧ Q (.ref s.heap.objs.size) s₂) E) (S := s.heap.objs.size) (I := h1.objs.size) (l := l) (items := items) (res := Value.none) hh
    (Nat.ne_of_lt (Nat.lt_trans hlt hS1)) (Nat.ne_of_lt hS1) (Nat.ne_of_gt hlt) hu prs 0 [] 0 0
    { s with heap := h1.push { cls := .type "list_iterator", data := .fields #[.ref l, .int 0 0] }, toks := tk1 } (by rw [hsz, Nat.zero_add]) (by rw [List.length_nil, Nat.zero_add]; exact hln)
    (fun j q e => by
      obtain ⟨b, e1, e2, ⟨o3, e3, e4⟩⟩ := ht j q e
      have hb : b < s.heap.objs.size := e2.lt
      have hq : q.2.1 < s.heap.objs.size := Heap.lt_size e3
      exact ⟨b, by rw [Nat.zero_add]; exact e1, Nat.ne_of_lt hb, Nat.ne_of_lt (Nat.lt_trans hb hS1), e2.keeps fun c o z => k2 _ _ (hk1 _ _ (k0 _ _ z)), Nat.ne_of_lt hq, Nat.ne_of_lt (Nat.lt_trans hq hS1), o3, k2 _ _ (hk1 _ _ (k0 _ _ e3)), e4⟩)
    ⟨_, Heap.get?_push_size _ rfl, rfl, rfl⟩ (hl1.at fun o e => k2 _ _ e) hm2 (fun x hx => by cases hx)
    (fun h' tk hd' k => ⟨rfl, h h' tk hd' fun b o e => k b o (Nat.ne_of_lt (Heap.lt_size e)) (Nat.ne_of_lt (Nat.lt_trans (Heap.lt_size e) hS1)) (k2 _ _ (hk1 _ _ (k0 _ _ e)))⟩)
  first
    | exact wpAny_pure ⟨plainId_quiet ud_plain _, key⟩
    | exact wpAny_bind (wpAny_pure (wpAny_pure ⟨plainId_quiet ud_plain _, key⟩))
end
section
variable {X : Cx}
theorem pairsT_of {pins : List (Addr × Obj)} {σ : L2.St} {H : Hp} {s : Shared} (I : Inv X pins σ H s) : ∀ {ps : List Addr} {kvs : List (List L2.Key × V)}, Paired (fun p kv => ∃ b, SqT X.K H p [.ref b, kv.2] ∧ H b = some (.tup (kv.1.map kV))) ps kvs →
    ∃ prs : List ET, KT H kvs prs ∧ prs.length = ps.length ∧ ∀ (j : Nat) (q : ET), prs[j]? = some q → ∃ (b : Addr), ps[j]? = some b ∧ IsTup s.heap b #[.ref q.2.1, q.2.2] ∧ KeyAt X.prog X.w s.heap q.1 q.2.1
  | _, _, .nil => ⟨[], .nil, rfl, fun j q e => by simp at e⟩
  | _, _, .cons (a := p) (b := kv) h t => by
    obtain ⟨prs, r, hl, hp⟩ := pairsT_of I t
    obtain ⟨b, h1, h2⟩ := h
    obtain ⟨its, rv, ht, _⟩ := I.tuple h1
    obtain ⟨u, y, ei, ru, ry⟩ := vals2 rv
    subst ei
    obtain rfl : u = Value.ref b := ru
    refine ⟨(kv.1, b, y) :: prs, .cons ⟨rfl, h2, ry⟩ r, by rw [List.length_cons, List.length_cons, hl], fun j q e => ?_⟩
    cases j with
    | zero =>
      have e' : (kv.1, b, y) = q := Option.some.inj e
      subst e'
      exact ⟨p, rfl, ht, keyAt_of (key_of I.hok h2)⟩
    | succ j =>
      obtain ⟨b', e1, e2, e3⟩ := hp j q (by simpa using e)
      exact ⟨b', by simpa using e1, e2, e3⟩
theorem kt_merge {H : Hp} : ∀ {more : List (List L2.Key × V)} {rs : List ET} {kvs : List (List L2.Key × V)} {vs : List ET}, KT H more rs → KT H kvs vs → KT H (mergeT kvs more) (mergedT vs rs)
  | _, _, kvs, vs, .nil, q => q
  | _, _, kvs, vs, .cons (a := p) (b := q) h t, r => by
    obtain ⟨h1, h2, h3⟩ := h
    show KT H (mergeT (putK kvs p.1 p.2) _) (mergedT (storedH vs q.1 q.2.1 q.2.2) _)
    rw [← h1]
    exact kt_merge t (r.put p.1 h2 h3)
/-- dict(xs) of a list of pairs (key, value), the keys tuples -/
theorem call_dictT (hcalm : X.calm = true) (hu : X.A.units + 64 < cLine) : CallR X (.type "dict") (fun xs H Q => ∃ (a : Addr) (ps : List Addr) (kvs : List (List L2.Key × V)), xs = [.ref a] ∧ SqL X.K H a (ps.map V.ref) ∧ Paired (fun p kv => ∃ b, SqT X.K H p [.ref b, kv.2] ∧ H b = some (.tup (kv.1.map kV))) ps kvs ∧
    ∀ p, H p = none → Q (.ref p) (upd H p (.dT (mergeT [] kvs)))) := by
  intro pins s σ H xs us Q I r q
  obtain ⟨a, ps, kvs, ex, hq, hp, q⟩ := q
  subst ex
  obtain ⟨u, eu, rx⟩ := vals1 r
  subst eu
  cases rx
  obtain ⟨its, rv, pl, hz⟩ := I.list hq
  have ei := refs_at rv
  subst ei
  rw [List.length_map] at hz
  obtain ⟨prs, rel, hl, hpr⟩ := pairsT_of I hp
  obtain ⟨o, n, ho, hc, hd, hdat⟩ := pl
  have hroom : (TK X.prog X.w).room X.A.in1.in1 := tupleKind_room_in1 (show X.A.in1.units + 1 < cLine by show X.A.units + 1 + 1 < cLine; omega)
  refine call_dict_pairsT (prs := prs) (I.ok.hd hcalm) hroom ho hc hd hdat (by simp [hl]) (by rw [hl]; exact hz) (fun j q' e => ?_) fun h' tk hd' k => ?_
  · obtain ⟨b, e1, e2, e3⟩ := hpr j q' e
    exact ⟨b, by simp [e1], e2, e3⟩
  · have hm : (s.heap.objs.size == sysModules) = false := beq_eq_false_iff_ne.mpr (Nat.ne_of_gt I.big)
    have hlen : (mergeT [] kvs).length ≤ sizeLine := by
      refine Nat.le_trans (mergeT_len kvs []) ?_
      have := Paired.length rel
      rw [List.length_nil, Nat.zero_add, this, hl]
      exact hz
    obtain ⟨o', es, ep, e1, e2, e3, e4, e5, e6⟩ := hd'
    have nf : H s.heap.objs.size = none := I.hok.fresh (Nat.le_refl _)
    have kt := (kt_merge rel .nil).keeps (H' := upd H s.heap.objs.size (.dT (mergeT [] kvs))) fun b ys e => by rw [upd_ne (ne_of_none e nf)]; exact e
    exact ⟨.ref s.heap.objs.size, upd H s.heap.objs.size (.dT (mergeT [] kvs)), I.laid (t' := tk) k (Nat.le_refl _) (show ObjOk X.prog X.w _ _ _ (.dT (mergeT [] kvs)) from ⟨hlen, hm, mergedT [] prs, kt, o', es, ep, e1, e2, e3, e4, e6⟩), rfl, q _ nf⟩
end
end K84
set_option Elab.async false
set_option linter.all false
set_option maxRecDepth 100000
set_option maxHeartbeats 1000000
/-! the law's own defs: the pool, draws, picks -/
namespace K84
open PySem PySem.Spec PyProof.Rows L2
theorem b_sum : bootBuiltins "sum" = some (.builtin "sum") := by decide +kernel
theorem b_dict : bootBuiltins "dict" = some (.type "dict") := by decide +kernel
def PoolAt (H : Hp) (pl : Addr) : Prop := ∃ a b : Int, H pl = some (.lst [.int a, .int b])
/-- all but the pool stays -/
def Po (pl : Addr) (H H' : Hp) : Prop := PoolAt H pl ∧ PoolAt H' pl ∧ ∀ b o, H b = some o → b ≠ pl → H' b = some o
theorem Po.refl {pl : Addr} {H : Hp} (h : PoolAt H pl) : Po pl H H := ⟨h, h, fun _ _ e _ => e⟩
theorem Po.trans {pl : Addr} {H H1 H2 : Hp} (a : Po pl H H1) (b : Po pl H1 H2) : Po pl H H2 := ⟨a.1, b.2.1, fun c o e n => b.2.2 c o (a.2.2 c o e n) n⟩
theorem Po.same {pl : Addr} {H H' : Hp} (h : PoolAt H pl) (e : Same H H') : Po pl H H' := let ⟨a, b, z⟩ := h; ⟨h, ⟨a, b, e _ _ z⟩, fun c o y _ => e c o y⟩
theorem Po.set {pl : Addr} {H : Hp} (h : PoolAt H pl) (a b : Int) : Po pl H (upd H pl (.lst [.int a, .int b])) := ⟨h, ⟨a, b, upd_same⟩, fun c o e n => by rw [upd_ne n]; exact e⟩
theorem Po.kp {pl : Addr} {H H' : Hp} (h : Po pl H H') : Kp H H' := fun b o e n _ => h.2.2 b o e fun z => by
  obtain ⟨x, y, q⟩ := h.1
  rw [z, q] at e
  cases e
  exact n _ rfl
section
variable {P : Program} {w : World} {K : PySem.W.Frag} {mg : Str → Option Value} {base : Heap}
theorem sc_dr : FnScope ["_law_pool_here", "_law_many", "_law_found"] ["_law_pool_here", "_law_many"] d__law_draw.scope := ⟨rfl, rfl, rfl, by decide +kernel, rfl, by decide +kernel, by decide +kernel⟩
theorem ok_draw (T : Txt w K mg) : Good P w K mg base 1 "_law_draw" ["_law_pool_here", "_law_many"] (fun vs H Q _ => ∃ pl n, vs = [.ref pl, .int n] ∧ PoolAt H pl ∧ 1 ≤ n ∧ n ≤ 1000 ∧ ∀ r a b, 0 ≤ r → r < n → Q (.int r) (upd H pl (.lst [.int a, .int b]))) := by
  refine good_mk (d := d__law_draw) T.d__law_draw rfl rfl T.g__law_draw sc_dr
    (fun _ _ _ _ _ _ us hl => match us, hl with | [_, _], _ => rfl) (fun vs H Q E h => ?_) (fun f cdv A outer s H vs Q E hr h => ?_)
  · obtain ⟨pl, n, rfl, _⟩ := h
    rfl
  · obtain ⟨pl, n, rfl, ⟨a, b, hp⟩, h1, h2, q⟩ := h
    have nd := sc_dr.nd
    refine ⟨_, (pss_cons (ps_if (pt_cmpR op_gt (pe_ix ix_list (pv 0) pe_int (fun _ _ => rfl)) pe_int (nomark _)) (pss_cons (ps_set (i := 2) nd rfl (Or.inl rfl) (pe_op op_mod (pe_callTy call_int1 (by rfl) T.f_int b_int (pa_cons (pe_ix ix_list (pv 0) pe_int (fun _ _ => rfl)) pa_nil)) (pv 1)))
        (pss_cons (ps_asg (pe_op op_fdiv (pe_ix ix_list (pv 0) pe_int (fun _ _ => rfl)) (pv 1)) (pg_sub (pv 0) pe_int set_list))
        (pss_one (ps_ret (pv 2))))) pss_nil)
      (pss_cons (ps_asg (pe_op op_mod (pe_callTy call_int1 (by rfl) T.f_int b_int (pa_cons (pe_op op_add (pe_op op_mul (pe_ix ix_list (pv 0) pe_int (fun _ _ => rfl)) pe_int) pe_int) pa_nil)) pe_int) (pg_sub (pv 0) pe_int set_list))
      (pss_one (ps_ret (pe_op op_mod (pe_callTy call_int1 (by rfl) T.f_int b_int (pa_cons (pe_op op_fdiv (pe_op op_mod (pe_callTy call_int1 (by rfl) T.f_int b_int (pa_cons (pe_op op_mul (pe_ix ix_list (pv 0) pe_int (fun _ _ => rfl)) (pe_ix ix_list (pv 0) pe_int (fun _ _ => rfl))) pa_nil)) pe_int) pe_int) pa_nil)) (pv 1)))))), ?_⟩
    have sl := SqL.of (K := K) hp
    refine ⟨_, rfl, _, _, _, _, rfl, rfl, sl, rfl, _, _, rfl, rfl, _, rfl, ?_⟩
    by_cases ha : (0 : Int) < a
    · rw [decide_eq_true ha]
      refine iteT ⟨_, rfl, _, _, _, _, rfl, rfl, sl, rfl, .inl ⟨_, rfl, _, rfl, _, _, rfl, rfl, show 0 < n by omega, ?_⟩⟩
      refine ⟨_, rfl, _, _, _, _, rfl, rfl, sl, rfl, _, rfl, _, _, rfl, rfl, ⟨show 0 < n by omega, show n < 1073741824 by omega⟩, ?_⟩
      refine ⟨_, rfl, pl, _, 0, 0, rfl, rfl, hp, rfl, ?_⟩
      exact ⟨_, rfl, q _ _ _ (Int.emod_nonneg _ (by omega)) (Int.emod_lt_of_pos _ (by omega))⟩
    · rw [decide_eq_false ha]
      refine iteF ⟨_, rfl, _, _, _, _, rfl, rfl, sl, rfl, _, _, rfl, rfl, .inr ⟨by omega, by omega⟩, _, _, rfl, rfl, .inl ⟨_, rfl, _, _, rfl, rfl, show (0 : Int) < 2147483647 by decide, ?_⟩⟩
      refine ⟨_, rfl, pl, _, 1, 1, rfl, rfl, hp, rfl, ?_⟩
      have n1 := Int.emod_nonneg (b * 48271 + 11) (show (2147483647 : Int) ≠ 0 by decide)
      have l1 := Int.emod_lt_of_pos (b * 48271 + 11) (show (0 : Int) < 2147483647 by decide)
      have sl2 : SqL K (upd H pl (.lst [.int a, .int ((b * 48271 + 11) % 2147483647)])) pl [.int a, .int ((b * 48271 + 11) % 2147483647)] := SqL.of upd_same
      refine ⟨_, rfl, _, _, _, _, rfl, rfl, sl2, rfl, _, rfl, _, _, _, _, rfl, rfl, sl2, rfl, _, _, rfl, rfl, .inl ⟨by omega, by omega⟩, .inl ⟨_, rfl, _, _, rfl, rfl, show (0 : Int) < 2147483629 by decide, ?_⟩⟩
      refine ⟨_, _, rfl, rfl, ⟨show (0 : Int) < 16 by decide, show (16 : Int) < 1073741824 by decide⟩, .inl ⟨_, rfl, _, rfl, _, _, rfl, rfl, show 0 < n by omega, ?_⟩⟩
      exact q _ _ _ (Int.emod_nonneg _ (by omega)) (Int.emod_lt_of_pos _ (by omega))
theorem ite_small (c : Bool) : -(2 ^ 64) < (if c = true then (1 : Int) else 0) ∧ (if c = true then (1 : Int) else 0) < 2 ^ 64 := by cases c <;> exact ⟨by decide, by decide⟩
theorem mod_small (x : Int) : -(2 ^ 64) < x % 2147483647 ∧ x % 2147483647 < 2 ^ 64 := by
  have := Int.emod_nonneg x (show (2147483647 : Int) ≠ 0 by decide)
  have := Int.emod_lt_of_pos x (show (0 : Int) < 2147483647 by decide)
  omega
theorem none_of_upd {H : Hp} {z p : Addr} {o : HO} (h : upd H z o p = none) : H p = none := NdefX.upd_none h
theorem sc_lpl : FnScope ["_law_script", "_law_k", "_law_cell", "_law_size", "_law_mixed"] ["_law_script", "_law_k"] d__law_pool.scope := ⟨rfl, rfl, rfl, by decide +kernel, rfl, by decide +kernel, by decide +kernel⟩
theorem ok_pool (T : Txt w K mg) : Good P w K mg base 1 "_law_pool" ["_law_script", "_law_k"] (fun vs H Q _ => ∃ (sl : Addr) (ns : List Int) (k : Int), vs = [.ref sl, .int k] ∧ SqL K H sl (ns.map V.int) ∧ 0 ≤ k ∧ k ≤ 1000 ∧ (∀ H', Same H H' → SqL K H' sl (ns.map V.int)) ∧ ∀ p H', Same H H' → H p = none → PoolAt H' p → Q (.ref p) H') := by
  refine good_mk (d := d__law_pool) T.d__law_pool rfl rfl T.g__law_pool sc_lpl
    (fun _ _ _ _ _ _ us hl => match us, hl with | [_, _], _ => rfl) (fun vs H Q E h => ?_) (fun f cdv A outer s H vs Q E hr h => ?_)
  · obtain ⟨sl, ns, k, rfl, _⟩ := h
    rfl
  · obtain ⟨sl, ns, k, rfl, hs, h0, h1, keep, q⟩ := h
    have nd := sc_lpl.nd
    refine ⟨_, (pss_cons (ps_set (i := 2) nd rfl (Or.inl rfl) (pe_ifExp (pt_cmpR op_lt (pv 1) (pe_callB call_len (by rfl) T.f_len b_len (pa_cons (pv 0) pa_nil)) (nomark _)) (pe_ix ix_list (pv 0) (pv 1) (fun _ _ => rfl)) (pe_op op_add (pe_op op_mul pe_int (pe_callB (cr_sum rfl) (by rfl) T.f_sum b_sum (pa_cons (pe_slice sl_list (pv 0) po_none (po_some pe_int)) pa_nil))) (pv 1))))
      (pss_cons (ps_set (i := 3) nd rfl (Or.inl rfl) (pe_callB call_abs (by rfl) T.f_abs b_abs (pa_cons (pv 2) pa_nil)))
      (pss_cons (ps_set (i := 4) nd rfl (Or.inl rfl) (pe_op op_mod (pe_callTy call_int1 (by rfl) T.f_int b_int (pa_cons (pe_op op_mul (pe_callTy call_int1 (by rfl) T.f_int b_int (pa_cons (pe_op op_add (pe_op op_add (pe_op op_add (pe_op op_mod (pe_callTy call_int1 (by rfl) T.f_int b_int (pa_cons (pv 3) pa_nil)) pe_int) (pe_op op_mul (pe_op op_mul pe_int (pv 1)) (pv 1))) (pe_op op_mul pe_int (pv 1))) pe_int) pa_nil)) pe_int) pa_nil)) pe_int))
      (pss_one (ps_ret (pe_lst (pa_cons (pe_op op_mul (pv 3) (pe_callTy call_int1 (by rfl) T.f_int b_int (pa_cons (pe_cmpR op_ge (pv 3) (pe_op op_pow pe_int pe_int) (nomark _)) pa_nil))) (pa_cons (pe_op op_mod (pe_callTy call_int1 (by rfl) T.f_int b_int (pa_cons (pe_op op_mul (pv 4) (pv 4)) pa_nil)) pe_int) pa_nil)))))))), ?_⟩
    refine ⟨_, rfl, _, rfl, _, ns.length, rfl, .inl ⟨_, hs, by simp⟩, _, _, rfl, rfl, _, rfl, ?_⟩
    by_cases hk : k < ((ns.length : Nat) : Int)
    · rw [decide_eq_true hk]
      have hi : k.toNat < ns.length := by omega
      refine iteT ⟨_, rfl, _, rfl, _, _, _, V.int ns[k.toNat], rfl, rfl, hs, atI_of h0 (by rw [List.getElem?_map, List.getElem?_eq_getElem hi]; rfl), ?_⟩
      refine ⟨_, rfl, _, rfl, ?_⟩
      refine ⟨_, rfl, .inl ⟨_, rfl, _, _, rfl, rfl, show (0 : Int) < 2147483629 by decide, ?_⟩⟩
      refine ⟨_, rfl, _, _, rfl, rfl, .inl ⟨by omega, by omega⟩, _, rfl, _, _, rfl, rfl, .inr ⟨by omega, by omega⟩, _, _, rfl, rfl, _, rfl, _, _, rfl, rfl, .inl ⟨by omega, by omega⟩, _, _, rfl, rfl, _, _, rfl, rfl, .inl ⟨_, rfl, _, _, rfl, rfl, .inr ⟨by omega, by omega⟩, .inl ⟨_, rfl, _, _, rfl, rfl, show (0 : Int) < 2147483647 by decide, ?_⟩⟩⟩
      refine ⟨_, rfl, _, rfl, _, _, rfl, rfl, ⟨by decide, by decide, by decide⟩, _, _, rfl, rfl, .inr ⟨_, rfl, _, _, rfl, rfl, .inr (ite_small _), ?_⟩⟩
      · refine ⟨_, rfl, _, rfl, _, _, rfl, rfl, .inl (mod_small _), .inl ⟨_, rfl, _, _, rfl, rfl, show (0 : Int) < 2147483629 by decide, ?_⟩⟩
        exact ⟨by show 2 ≤ sizeLine; decide, fun p hp => q p _ (same_new hp) (hp) ⟨_, _, upd_same⟩⟩
    · rw [decide_eq_false hk]
      refine iteF ⟨_, rfl, _, rfl, sl, _, rfl, hs, fun z hz => ?_⟩
      obtain ⟨ms, hms⟩ : ∃ ms : List Int, cutV (ns.map V.int) none (some 63) = ms.map V.int := ⟨(ns.drop _).take _, by unfold cutV; rw [List.map_take, List.map_drop]⟩
      rw [hms]
      have ez : Same H (upd H z (.lst (ms.map V.int))) := same_new hz
      refine ⟨z, ms, rfl, SqL.of upd_same, _, _, rfl, rfl, .inl ⟨by omega, by omega⟩, _, rfl, _, _, rfl, rfl, ?_⟩
      refine ⟨_, rfl, _, rfl, ?_⟩
      refine ⟨_, rfl, .inl ⟨_, rfl, _, _, rfl, rfl, show (0 : Int) < 2147483629 by decide, ?_⟩⟩
      refine ⟨_, rfl, _, _, rfl, rfl, .inl ⟨by omega, by omega⟩, _, rfl, _, _, rfl, rfl, .inr ⟨by omega, by omega⟩, _, _, rfl, rfl, _, rfl, _, _, rfl, rfl, .inl ⟨by omega, by omega⟩, _, _, rfl, rfl, _, _, rfl, rfl, .inl ⟨_, rfl, _, _, rfl, rfl, .inr ⟨by omega, by omega⟩, .inl ⟨_, rfl, _, _, rfl, rfl, show (0 : Int) < 2147483647 by decide, ?_⟩⟩⟩
      refine ⟨_, rfl, _, rfl, _, _, rfl, rfl, ⟨by decide, by decide, by decide⟩, _, _, rfl, rfl, .inr ⟨_, rfl, _, _, rfl, rfl, .inr (ite_small _), ?_⟩⟩
      · refine ⟨_, rfl, _, rfl, _, _, rfl, rfl, .inl (mod_small _), .inl ⟨_, rfl, _, _, rfl, rfl, show (0 : Int) < 2147483629 by decide, ?_⟩⟩
        exact ⟨by show 2 ≤ sizeLine; decide, fun p hp => q p _ (ez.trans (same_new hp)) (none_of_upd hp) ⟨_, _, upd_same⟩⟩
end
end K84
set_option Elab.async false
set_option linter.all false
set_option maxRecDepth 100000
set_option maxHeartbeats 1000000
/-! the law's own defs: pick, woven, colour, cells, turns, within, led -/
namespace K84
open PySem PySem.Spec PyProof.Rows L2
section
variable {P : Program} {w : World} {K : PySem.W.Frag} {mg : Str → Option Value} {base : Heap}
/-- what may be picked from -/
def Pk (K : PySem.W.Frag) (H : Hp) (v : V) (xs : List V) : Prop := (∃ s, v = .ref s ∧ (SqL K H s xs ∨ SqT K H s xs)) ∨ ∃ z : Str, v = .str z ∧ xs = z.cps.toList.map fun c => V.str (sg c)
theorem ok_pick (T : Txt w K mg) : Good P w K mg base 2 "_law_pick" ["_law_pool_here", "_law_some"] (fun vs H Q _ => ∃ pl v xs, vs = [.ref pl, v] ∧ PoolAt H pl ∧ Pk K H v xs ∧ (∀ a b : Int, Pk K (upd H pl (.lst [.int a, .int b])) v xs) ∧ xs ≠ [] ∧ xs.length ≤ 1000 ∧
    ∀ x a b, x ∈ xs → Q x (upd H pl (.lst [.int a, .int b]))) := by
  refine good_mk (d := d__law_pick) (N := ["_law_pool_here", "_law_some"]) T.d__law_pick rfl rfl T.g__law_pick ⟨rfl, rfl, rfl, by decide +kernel, rfl, by decide +kernel, by decide +kernel⟩
    (fun _ _ _ _ _ _ us hl => match us, hl with | [_, _], _ => rfl) (fun vs H Q E h => ?_) (fun f cdv A outer s H vs Q E hr h => ?_)
  · obtain ⟨pl, v, xs, rfl, _⟩ := h
    rfl
  · obtain ⟨pl, v, xs, rfl, hp, hk, hk2, hne, hl, q⟩ := h
    refine ⟨_, (pss_one (ps_ret (pe_ix ix_seq (pv 1) (pe_fn (ok_draw T) hr (pa_cons (pv 0) (pa_cons (pe_callB call_len (by rfl) T.f_len b_len (pa_cons (pv 1) pa_nil)) pa_nil))) (fun _ _ => rfl)))), ?_⟩
    have hpos : 0 < xs.length := List.length_pos_iff.mpr hne
    refine ⟨_, rfl, _, rfl, _, rfl, v, xs.length, rfl, ?_, pl, _, rfl, hp, by omega, by omega, fun r a b r0 r1 => ?_⟩
    · rcases hk with ⟨s, rfl, hs | hs⟩ | ⟨z, rfl, rfl⟩
      · exact .inl ⟨xs, hs, rfl⟩
      · exact .inr ⟨xs, hs, rfl⟩
      · rw [List.length_map, Array.length_toList] at hl
        refine ⟨Nat.le_trans hl (by decide), ?_⟩
        rw [List.length_map, Array.length_toList]
        rfl
    · have hi : r.toNat < xs.length := by omega
      have hm := List.getElem_mem hi
      have hat : xs[r.toNat]? = some xs[r.toNat] := List.getElem?_eq_getElem hi
      rcases hk2 a b with ⟨s, rfl, hs | hs⟩ | ⟨z, rfl, e⟩
      · exact .inl ⟨s, xs, r, _, rfl, rfl, hs, atI_of r0 hat, q _ a b hm⟩
      · exact .inr (.inl ⟨s, xs, r, _, rfl, rfl, hs, atI_of r0 hat, q _ a b hm⟩)
      · subst e
        rw [List.getElem?_map] at hat
        obtain ⟨c, hc1, hc2⟩ := Option.map_eq_some_iff.mp hat
        rw [List.length_map, Array.length_toList] at hl
        refine .inr (.inr ⟨z, r, c, rfl, rfl, Nat.le_trans hl (by decide), atI_of r0 hc1, ?_⟩)
        rw [← hc2] at hm
        exact q _ a b hm
theorem ok_l_woven (T : Txt w K mg) : Good P w K mg base 11 "_law_woven" ["_law_told"] (fun vs H Q _ => ∃ t a b d rows, vs = [.ref t] ∧ FmAt H t (a, b, d, rows) ∧ Bas a b d ∧ a * d ≤ 144 ∧ RowsOk a d rows ∧ ∀ x H' A B D, Same H H' → CarO K H' x (colr a b d rows) A B D a b d rows → Q (.ref x) H') := by
  refine good_mk (d := d__law_woven) (N := ["_law_told"]) T.d__law_woven rfl rfl T.g__law_woven ⟨rfl, rfl, rfl, by decide +kernel, rfl, by decide +kernel, by decide +kernel⟩
    (fun _ _ _ _ _ _ us hl => match us, hl with | [_], _ => rfl) (fun vs H Q E h => ?_) (fun f cdv A outer s H vs Q E hr h => ?_)
  · obtain ⟨t, a, b, d, rows, rfl, _⟩ := h
    rfl
  · obtain ⟨t, a, b, d, rows, rfl, ⟨rF, hF1, hF2⟩, hb, hs, hro, q⟩ := h
    obtain ⟨fc, FC, bC⟩ := ok_car_init (P := P) (w := w) (base := base) (mg := mg) T
    refine ⟨_, (pss_one (ps_ret (pe_make T.mk_Carpet FC (hr.mono (by decide)) (by rfl) T.g_Carpet bC .nil pass0 (pa_cons (pe_ix ix_tup (pv 0) pe_int (fun _ _ => rfl)) (pa_cons (pe_ix ix_tup (pv 0) pe_int (fun _ _ => rfl)) (pa_cons (pe_ix ix_tup (pv 0) pe_int (fun _ _ => rfl)) (pa_cons (pe_callTy call_list_of (by rfl) T.f_list b_list (pa_cons (pe_ix ix_tup (pv 0) pe_int (fun _ _ => rfl)) pa_nil)) pa_nil))))))), ?_⟩
    refine ⟨_, rfl, _, _, _, _, rfl, rfl, SqT.of hF1, rfl, _, rfl, _, _, _, _, rfl, rfl, SqT.of hF1, rfl, _, rfl, _, _, _, _, rfl, rfl, SqT.of hF1, rfl, _, rfl, _, _, _, _, rfl, rfl, SqT.of hF1, rfl, ?_⟩
    refine ⟨rF, _, rfl, .inr (SqT.of hF2), fun ln hln => ?_⟩
    intro x dx nx ndx nex
    exact make_car2 (K := K) (.inl upd_same) hb hs hro nx ndx fun H9 A9 B9 D9 e9 c9 => ⟨rfl, q x H9 A9 B9 D9 ((same_new hln).trans e9) c9⟩
theorem sc_lc : FnScope ["_law_told", "_law_cell", "_law_a", "_law_b", "_law_d", "_law_rows", "_law_k"] ["_law_told", "_law_cell"] d__law_colour.scope := ⟨rfl, rfl, rfl, by decide +kernel, rfl, by decide +kernel, by decide +kernel⟩
theorem ok_l_colour (T : Txt w K mg) : Good P w K mg base 1 "_law_colour" ["_law_told", "_law_cell"] (fun vs H Q _ => ∃ t c a b d rows x y, vs = [.ref t, .ref c] ∧ FmAt H t (a, b, d, rows) ∧ BasS a b d ∧ RowsOk a d rows ∧ Pr K H c x y ∧ Q (.int ((colr a b d rows x y : Nat) - 48)) H) := by
  refine good_mk (d := d__law_colour) T.d__law_colour rfl rfl T.g__law_colour sc_lc
    (fun _ _ _ _ _ _ us hl => match us, hl with | [_, _], _ => rfl) (fun vs H Q E h => ?_) (fun f cdv A outer s H vs Q E hr h => ?_)
  · obtain ⟨t, c, a, b, d, rows, x, y, rfl, _⟩ := h
    rfl
  · obtain ⟨t, c, a, b, d, rows, x, y, rfl, ⟨rF, hF1, hF2⟩, hbs, hro, hc, q⟩ := h
    have nd := sc_lc.nd
    obtain ⟨⟨h1, h2, h3, h4⟩, h5, h6⟩ := id hbs
    refine ⟨_, (pss_cons (ps_asg (pv 0) (pg_tup rfl (pgs_cons (pg_name (i := 2) nd rfl (Or.inl rfl)) (pgs_cons (pg_name (i := 3) nd rfl (Or.inl rfl)) (pgs_cons (pg_name (i := 4) nd rfl (Or.inl rfl)) (pgs_cons (pg_name (i := 5) nd rfl (Or.inl rfl)) pgs_nil))))))
      (pss_cons (ps_set (i := 6) nd rfl (Or.inl rfl) (pe_op op_fdiv (pe_callTy call_int1 (by rfl) T.f_int b_int (pa_cons (pe_ix ix_tup (pv 1) pe_int (fun _ _ => rfl)) pa_nil)) (pv 4)))
      (pss_one (ps_ret (pe_callTy call_int_str (by rfl) T.f_int b_int (pa_cons (pe_ix ix_str (pe_ix ix_tup (pv 5) (pe_op op_sub (pe_ix ix_tup (pv 1) pe_int (fun _ _ => rfl)) (pe_op op_mul (pv 6) (pv 4))) (fun _ _ => rfl)) (pe_op op_mod (pe_callTy call_int1 (by rfl) T.f_int b_int (pa_cons (pe_op op_sub (pe_ix ix_tup (pv 1) pe_int (fun _ _ => rfl)) (pe_op op_mul (pv 3) (pv 6))) pa_nil)) (pv 2)) (fun _ _ => rfl)) pa_nil)))))), ?_⟩
    refine ⟨_, rfl, t, _, rfl, SqT.of hF1, rfl, _, _, rfl, _, _, rfl, _, _, rfl, _, _, rfl, rfl, ?_⟩
    refine ⟨_, rfl, _, _, _, _, rfl, rfl, hc, rfl, .inl ⟨_, rfl, _, rfl, _, _, rfl, rfl, ⟨show 0 < d by omega, show d < 1073741824 by omega⟩, ?_⟩⟩
    have n1 := Int.emod_nonneg y (show d ≠ 0 by omega)
    have l1 := Int.emod_lt_of_pos y (show 0 < d by omega)
    have n2 := Int.emod_nonneg (x - y / d * b) (show a ≠ 0 by omega)
    have l2 := Int.emod_lt_of_pos (x - y / d * b) (show 0 < a by omega)
    obtain ⟨r1, r2m⟩ := row_at hro n1 l1
    obtain ⟨r3, r4⟩ := hro.each _ r2m
    have sd : -(2 ^ 64) < d ∧ d < 2 ^ 64 := by omega
    have sb : -(2 ^ 64) < b ∧ b < 2 ^ 64 := by omega
    have eix : y - y / d * d = y % d := by
      have := Int.emod_add_mul_ediv y d
      rw [Int.mul_comm] at this
      omega
    refine ⟨_, rfl, _, rfl, _, _, _, _, rfl, rfl, hc, rfl, _, rfl, _, rfl, _, _, rfl, rfl, .inr sd, _, _, rfl, rfl, _, _, _, V.str (rows.getD (y % d).toNat Str.empty), rfl, rfl, SqT.of hF2, ?_, ?_⟩
    · show atI _ (y - y / d * d) = _
      rw [eix]
      exact atI_of n1 r1
    · have hrg := colr_range ⟨h1, h2, h3, h4⟩ hro x y
      refine ⟨_, rfl, _, _, _, _, rfl, rfl, hc, rfl, _, rfl, _, rfl, _, _, rfl, rfl, .inl sb, _, _, rfl, rfl, .inl ⟨_, rfl, _, rfl, _, _, rfl, rfl, show 0 < a by omega, _, _, colr a b d rows x y, rfl, rfl, ?_, ?_, _, _, rfl, int_sg hrg.1 hrg.2, (by show 1 ≤ 640; decide), q⟩⟩
      · show (rows.getD (y % d).toNat Str.empty).cps.size ≤ sizeLine
        have : (144 : Nat) ≤ sizeLine := by decide
        omega
      · show atI _ ((x - b * (y / d)) % a) = _
        rw [Int.mul_comm b]
        refine atI_of n2 ?_
        unfold colr
        have hi : ((x - y / d * b) % a).toNat < (rows.getD (y % d).toNat Str.empty).cps.toList.length := by
          rw [Array.length_toList]
          omega
        rw [List.getD_eq_getElem?_getD (l := (rows.getD (y % d).toNat Str.empty).cps.toList), List.getElem?_eq_getElem hi]
        rfl
theorem ok_l_turns (T : Txt w K mg) : Good P w K mg base 1 "_law_turns" [] (fun vs H Q _ => vs = [] ∧ ∀ p, H p = none → Q (.ref p) (upd H p (.lst (Tn.all.map fun t => V.str t.str)))) := by
  refine good_mk (d := d__law_turns) (N := []) T.d__law_turns rfl rfl T.g__law_turns ⟨rfl, rfl, rfl, by decide +kernel, rfl, by decide +kernel, by decide +kernel⟩
    (fun _ _ _ _ _ _ us hl => match us, hl with | [], _ => rfl) (fun vs H Q E h => ?_) (fun f cdv A outer s H vs Q E hr h => ?_)
  · obtain ⟨rfl, _⟩ := h
    rfl
  · obtain ⟨rfl, q⟩ := h
    refine ⟨_, (pss_one (ps_ret (pe_lst (pa_cons pe_str (pa_cons pe_str (pa_cons pe_str (pa_cons pe_str (pa_cons pe_str (pa_cons pe_str (pa_cons pe_str (pa_cons pe_str pa_nil))))))))))), ?_⟩
    exact ⟨by show 8 ≤ sizeLine; decide, fun p hp => q p hp⟩
theorem ok_within (T : Txt w K mg) : Good P w K mg base 1 "_law_within" ["_law_cell", "_law_many"] (fun vs H Q _ => ∃ c x y n, vs = [.ref c, .int n] ∧ Pr K H c x y ∧ 0 < n ∧ ∀ p, H p = none → Q (.ref p) (upd H p (.tup [.int (x % n), .int (y % n)]))) := by
  refine good_mk (d := d__law_within) (N := ["_law_cell", "_law_many"]) T.d__law_within rfl rfl T.g__law_within ⟨rfl, rfl, rfl, by decide +kernel, rfl, by decide +kernel, by decide +kernel⟩
    (fun _ _ _ _ _ _ us hl => match us, hl with | [_, _], _ => rfl) (fun vs H Q E h => ?_) (fun f cdv A outer s H vs Q E hr h => ?_)
  · obtain ⟨c, x, y, n, rfl, _⟩ := h
    rfl
  · obtain ⟨c, x, y, n, rfl, hc, hn, q⟩ := h
    refine ⟨_, (pss_one (ps_ret (pe_tup (pa_cons (pe_op op_mod (pe_callTy call_int1 (by rfl) T.f_int b_int (pa_cons (pe_ix ix_tup (pv 0) pe_int (fun _ _ => rfl)) pa_nil)) (pe_callTy call_int1 (by rfl) T.f_int b_int (pa_cons (pv 1) pa_nil))) (pa_cons (pe_op op_mod (pe_callTy call_int1 (by rfl) T.f_int b_int (pa_cons (pe_ix ix_tup (pv 0) pe_int (fun _ _ => rfl)) pa_nil)) (pe_callTy call_int1 (by rfl) T.f_int b_int (pa_cons (pv 1) pa_nil))) pa_nil))))), ?_⟩
    refine ⟨_, rfl, _, _, _, _, rfl, rfl, hc, rfl, .inl ⟨_, rfl, _, rfl, .inl ⟨_, rfl, _, _, rfl, rfl, hn, ?_⟩⟩⟩
    refine ⟨_, rfl, _, _, _, _, rfl, rfl, hc, rfl, .inl ⟨_, rfl, _, rfl, .inl ⟨_, rfl, _, _, rfl, rfl, hn, two_le, fun p hp => q p hp⟩⟩⟩
end
end K84
set_option Elab.async false
set_option linter.all false
set_option maxRecDepth 100000
set_option maxHeartbeats 1000000
/-! the law's own defs: led, cells, shifts, motion -/
namespace K84
open PySem PySem.Spec PyProof.Rows L2
theorem key_ne {a b : Str} (h : ¬ a = b) : ¬ (Sum.inr a : L2.Key) = .inr b := fun z => h (Sum.inr.inj z)
theorem dget_of {H : Hp} {a : Addr} {kvs : List (L2.Key × V)} {k : L2.Key} {v : V} (h : H a = some (.dK kvs)) (e : valV kvs k = some v) : DGet H a (kV k) (some v) := by
  rw [← e]
  exact DGet.k h
theorem none_back {H H' : Hp} {p : Addr} (e : Same H H') (h : H' p = none) : H p = none := by
  cases z : H p with
  | none => rfl
  | some o => rw [e _ _ z] at h; cases h
section
variable {P : Program} {w : World} {K : PySem.W.Frag} {mg : Str → Option Value} {base : Heap}
theorem sc_ld : FnScope ["_law_turn", "_law_shift", "_law_cell", "_law_x", "_law_y", "_law_spot"] ["_law_turn", "_law_shift", "_law_cell"] d__law_led.scope := ⟨rfl, rfl, rfl, by decide +kernel, rfl, by decide +kernel, by decide +kernel⟩
def spotKV (f : Tn → V) : List (L2.Key × V) := [(.inr "stay", f .stay), (.inr "left", f .left), (.inr "back", f .back), (.inr "right", f .right), (.inr "mirror", f .mirror), (.inr "flip", f .flip)]
theorem spot_at (f : Tn → V) (t : Tn) : valV (putK (putK (mergeK [] (spotKV f)) (.inr "swap") (f .swap)) (.inr "cross") (f .cross)) (.inr t.str) = some (f t) := by
  unfold mergeK spotKV
  simp only [List.foldl_cons, List.foldl_nil]
  cases t <;> (simp only [valV_put]; repeat (first | exact if_pos rfl | refine (if_neg (key_ne (by decide +kernel))).trans ?_))
theorem spot_len (f : Tn → V) : (mergeK [] (spotKV f)).length ≤ 6 := length_mergeK (spotKV f) []
theorem ok_led (T : Txt w K mg) : Good P w K mg base 1 "_law_led" ["_law_turn", "_law_shift", "_law_cell"] (fun vs H Q _ => ∃ t s c u v x y, vs = [.str (Tn.str t), .ref s, .ref c] ∧ Pr K H s u v ∧ Pr K H c x y ∧
    ∀ p H', Same H H' → H p = none → H' p = some (.tup [.int (t.lx x y + u), .int (t.ly x y + v)]) → Q (.ref p) H') := by
  refine good_mk (d := d__law_led) T.d__law_led rfl rfl T.g__law_led sc_ld
    (fun _ _ _ _ _ _ us hl => match us, hl with | [_, _, _], _ => rfl) (fun vs H Q E h => ?_) (fun f cdv A outer st H vs Q E hr h => ?_)
  · obtain ⟨t, s, c, u, v, x, y, rfl, _⟩ := h
    rfl
  · obtain ⟨t, s, c, u, v, x, y, rfl, hs, hc, q⟩ := h
    have nd := sc_ld.nd
    refine ⟨_, (pss_cons (ps_asg (pv 2) (pg_tup rfl (pgs_cons (pg_name (i := 3) nd rfl (Or.inl rfl)) (pgs_cons (pg_name (i := 4) nd rfl (Or.inl rfl)) pgs_nil))))
      (pss_cons (ps_set (i := 5) nd rfl (Or.inl rfl) (pe_disp (pps_cons pe_str (pe_tup (pa_cons (pv 3) (pa_cons (pv 4) pa_nil))) (pps_cons pe_str (pe_tup (pa_cons (pe_un un_neg (pv 4)) (pa_cons (pv 3) pa_nil))) (pps_cons pe_str (pe_tup (pa_cons (pe_un un_neg (pv 3)) (pa_cons (pe_un un_neg (pv 4)) pa_nil)))
          (pps_cons pe_str (pe_tup (pa_cons (pv 4) (pa_cons (pe_un un_neg (pv 3)) pa_nil))) (pps_cons pe_str (pe_tup (pa_cons (pe_un un_neg (pv 3)) (pa_cons (pv 4) pa_nil))) (pps_cons pe_str (pe_tup (pa_cons (pv 3) (pa_cons (pe_un un_neg (pv 4)) pa_nil))) pps_nil)))))) rfl rfl (by intro z; cases z) (by decide)))
      (pss_cons (ps_asg (pe_tup (pa_cons (pe_tup (pa_cons (pv 4) (pa_cons (pv 3) pa_nil))) (pa_cons (pe_tup (pa_cons (pe_un un_neg (pv 4)) (pa_cons (pe_un un_neg (pv 3)) pa_nil))) pa_nil))) (pg_tup rfl (pgs_cons (pg_sub (pv 5) pe_str (set_dict (un1 hr))) (pgs_cons (pg_sub (pv 5) pe_str (set_dict (un1 hr))) pgs_nil))))
      (pss_one (ps_ret (pe_tup (pa_cons (pe_op op_add (pe_ix ix_tup (pe_dget (un1 hr) (pv 5) (pv 0) (fun _ _ => rfl)) pe_int (fun _ _ => rfl)) (pe_ix ix_tup (pv 1) pe_int (fun _ _ => rfl))) (pa_cons (pe_op op_add (pe_ix ix_tup (pe_dget (un1 hr) (pv 5) (pv 0) (fun _ _ => rfl)) pe_int (fun _ _ => rfl)) (pe_ix ix_tup (pv 1) pe_int (fun _ _ => rfl))) pa_nil)))))))), ?_⟩
    refine ⟨_, rfl, c, _, rfl, hc, rfl, _, _, rfl, _, _, rfl, rfl, ?_⟩
    intro d nd0
    have k0 : Same H (upd H d (.dK [])) := same_new nd0
    refine ⟨_, rfl, _, rfl, two_le, fun r1 n1 => ?_⟩
    have s1 := same_new (o := .tup [.int x, .int y]) n1
    refine ⟨_, rfl, _, rfl, _, rfl, two_le, fun r2 n2 => ?_⟩
    have s2 := same_new (o := .tup [.int (-y), .int x]) n2
    refine ⟨_, rfl, _, rfl, _, rfl, _, rfl, two_le, fun r3 n3 => ?_⟩
    have s3 := same_new (o := .tup [.int (-x), .int (-y)]) n3
    refine ⟨_, rfl, _, rfl, _, rfl, two_le, fun r4 n4 => ?_⟩
    have s4 := same_new (o := .tup [.int y, .int (-x)]) n4
    refine ⟨_, rfl, _, rfl, _, rfl, two_le, fun r5 n5 => ?_⟩
    have s5 := same_new (o := .tup [.int (-x), .int y]) n5
    refine ⟨_, rfl, _, rfl, _, rfl, two_le, fun r6 n6 => ?_⟩
    have s6 := same_new (o := .tup [.int x, .int (-y)]) n6
    have e6 := s6
    have e5 := s5.trans e6
    have e4 := s4.trans e5
    have e3 := s3.trans e4
    have e2 := s2.trans e3
    have e1 := s1.trans e2
    have d6 := e1 _ _ (upd_same (H := H) (a := d) (o := .dK []))
    refine ⟨d6, [(.inr "stay", .ref r1), (.inr "left", .ref r2), (.inr "back", .ref r3), (.inr "right", .ref r4), (.inr "mirror", .ref r5), (.inr "flip", .ref r6)], rfl, (by show 6 ≤ 15; decide), ?_⟩
    have le6 : (mergeK [] [(.inr "stay", V.ref r1), (.inr "left", V.ref r2), (.inr "back", V.ref r3), (.inr "right", V.ref r4), (.inr "mirror", V.ref r5), (.inr "flip", V.ref r6)]).length ≤ 6 := length_mergeK [(.inr "stay", V.ref r1), (.inr "left", V.ref r2), (.inr "back", V.ref r3), (.inr "right", V.ref r4), (.inr "mirror", V.ref r5), (.inr "flip", V.ref r6)] []
    refine ⟨_, rfl, _, rfl, two_le, fun r7 n7 => ?_⟩
    have s7 := same_new (o := .tup [.int y, .int x]) n7
    refine ⟨_, rfl, _, rfl, _, rfl, _, rfl, two_le, fun r8 n8 => ?_⟩
    have s8 := same_new (o := .tup [.int (-y), .int (-x)]) n8
    refine ⟨two_le, fun r9 n9 => ?_⟩
    have s9 := same_new (o := .tup [.ref r7, .ref r8]) n9
    have e79 := s7.trans (s8.trans s9)
    have l100 : (100 : Nat) ≤ sizeLine := by decide
    refine ⟨r9, _, rfl, SqT.of upd_same, rfl, _, _, rfl, ?_⟩
    have hd9 := e79 _ _ (upd_same (a := d) (o := .dK (mergeK [] [(.inr "stay", V.ref r1), (.inr "left", V.ref r2), (.inr "back", V.ref r3), (.inr "right", V.ref r4), (.inr "mirror", V.ref r5), (.inr "flip", V.ref r6)])))
    refine ⟨_, rfl, d, _, rfl, DPut.k (k := .inr "swap") hd9 (by omega), _, _, rfl, ?_⟩
    refine ⟨_, rfl, d, _, rfl, DPut.k (k := .inr "cross") upd_same (Nat.lt_of_le_of_lt (length_putK _ _ _) (by omega)), rfl, ?_⟩
    have d0 : (upd H d (.dK [])) d = some (.dK []) := upd_same
    have d1' := s1 _ _ d0
    have d2' := s2 _ _ d1'
    have d3' := s3 _ _ d2'
    have d4' := s4 _ _ d3'
    have d5' := s5 _ _ d4'
    have d6' := s6 _ _ d5'
    have q1 : r1 ≠ d := fun z => by rw [z, d0] at n1; cases n1
    have q2 : r2 ≠ d := fun z => by rw [z, d1'] at n2; cases n2
    have q3 : r3 ≠ d := fun z => by rw [z, d2'] at n3; cases n3
    have q4 : r4 ≠ d := fun z => by rw [z, d3'] at n4; cases n4
    have q5 : r5 ≠ d := fun z => by rw [z, d4'] at n5; cases n5
    have q6 : r6 ≠ d := fun z => by rw [z, d5'] at n6; cases n6
    have dD : ∀ {H0 : Hp} {o : HO}, upd H0 d o d = some o := upd_same
    have q7 : r7 ≠ d := fun z => by rw [z, upd_same] at n7; cases n7
    have q8 : r8 ≠ d := fun z => by rw [z, s7 _ _ upd_same] at n8; cases n8
    have t1 := e79 _ _ ((upd_ne (o := .dK (mergeK [] [(.inr "stay", V.ref r1), (.inr "left", V.ref r2), (.inr "back", V.ref r3), (.inr "right", V.ref r4), (.inr "mirror", V.ref r5), (.inr "flip", V.ref r6)])) q1).trans (e2 _ _ (upd_same (a := r1) (o := .tup [.int x, .int y]))))
    have t2 := e79 _ _ ((upd_ne (o := .dK (mergeK [] [(.inr "stay", V.ref r1), (.inr "left", V.ref r2), (.inr "back", V.ref r3), (.inr "right", V.ref r4), (.inr "mirror", V.ref r5), (.inr "flip", V.ref r6)])) q2).trans (e3 _ _ (upd_same (a := r2) (o := .tup [.int (-y), .int x]))))
    have t3 := e79 _ _ ((upd_ne (o := .dK (mergeK [] [(.inr "stay", V.ref r1), (.inr "left", V.ref r2), (.inr "back", V.ref r3), (.inr "right", V.ref r4), (.inr "mirror", V.ref r5), (.inr "flip", V.ref r6)])) q3).trans (e4 _ _ (upd_same (a := r3) (o := .tup [.int (-x), .int (-y)]))))
    have t4 := e79 _ _ ((upd_ne (o := .dK (mergeK [] [(.inr "stay", V.ref r1), (.inr "left", V.ref r2), (.inr "back", V.ref r3), (.inr "right", V.ref r4), (.inr "mirror", V.ref r5), (.inr "flip", V.ref r6)])) q4).trans (e5 _ _ (upd_same (a := r4) (o := .tup [.int y, .int (-x)]))))
    have t5 := e79 _ _ ((upd_ne (o := .dK (mergeK [] [(.inr "stay", V.ref r1), (.inr "left", V.ref r2), (.inr "back", V.ref r3), (.inr "right", V.ref r4), (.inr "mirror", V.ref r5), (.inr "flip", V.ref r6)])) q5).trans (e6 _ _ (upd_same (a := r5) (o := .tup [.int (-x), .int y]))))
    have t6 := e79 _ _ ((upd_ne (o := .dK (mergeK [] [(.inr "stay", V.ref r1), (.inr "left", V.ref r2), (.inr "back", V.ref r3), (.inr "right", V.ref r4), (.inr "mirror", V.ref r5), (.inr "flip", V.ref r6)])) q6).trans (upd_same (a := r6) (o := .tup [.int x, .int (-y)])))
    have t7 := s9 _ _ (s8 _ _ (upd_same (a := r7) (o := .tup [.int y, .int x])))
    have t8 := s9 _ _ (upd_same (a := r8) (o := .tup [.int (-y), .int (-x)]))
    have ups : ∀ {H0 : Hp} {b : Addr} {u o1 o2 : HO}, H0 b = some u → b ≠ d → upd (upd H0 d o1) d o2 b = some u := fun h n => by rw [upd_ne n, upd_ne n]; exact h
    have keep : ∀ o1 o2 : HO, Same H (upd (upd _ d o1) d o2) := fun o1 o2 b o h => ups (e79 _ _ ((upd_ne (ne_of_none h nd0)).trans (e1 _ _ (k0 _ _ h)))) (ne_of_none h nd0)
    let fT : Tn → V := fun tt => match tt with | .stay => V.ref r1 | .left => V.ref r2 | .back => V.ref r3 | .right => V.ref r4 | .mirror => V.ref r5 | .flip => V.ref r6 | .swap => V.ref r7 | .cross => V.ref r8
    cases t
    · exact ⟨_, rfl, _, rfl, d, V.ref r1, rfl, dget_of upd_same (spot_at fT .stay), _, _, _, _, rfl, rfl, SqT.of (ups t1 q1), rfl, _, rfl, _, _, _, _, rfl, rfl, sqT_same (keep _ _) hs, rfl, _, _, rfl, rfl, _, rfl, _, rfl, d, V.ref r1, rfl, dget_of upd_same (spot_at fT .stay), _, _, _, _, rfl, rfl, SqT.of (ups t1 q1), rfl, _, rfl, _, _, _, _, rfl, rfl, sqT_same (keep _ _) hs, rfl, _, _, rfl, rfl, two_le, fun p hp => q p _ ((keep _ _).trans (same_new hp)) (none_back (keep _ _) hp) upd_same⟩
    · exact ⟨_, rfl, _, rfl, d, V.ref r2, rfl, dget_of upd_same (spot_at fT .left), _, _, _, _, rfl, rfl, SqT.of (ups t2 q2), rfl, _, rfl, _, _, _, _, rfl, rfl, sqT_same (keep _ _) hs, rfl, _, _, rfl, rfl, _, rfl, _, rfl, d, V.ref r2, rfl, dget_of upd_same (spot_at fT .left), _, _, _, _, rfl, rfl, SqT.of (ups t2 q2), rfl, _, rfl, _, _, _, _, rfl, rfl, sqT_same (keep _ _) hs, rfl, _, _, rfl, rfl, two_le, fun p hp => q p _ ((keep _ _).trans (same_new hp)) (none_back (keep _ _) hp) upd_same⟩
    · exact ⟨_, rfl, _, rfl, d, V.ref r3, rfl, dget_of upd_same (spot_at fT .back), _, _, _, _, rfl, rfl, SqT.of (ups t3 q3), rfl, _, rfl, _, _, _, _, rfl, rfl, sqT_same (keep _ _) hs, rfl, _, _, rfl, rfl, _, rfl, _, rfl, d, V.ref r3, rfl, dget_of upd_same (spot_at fT .back), _, _, _, _, rfl, rfl, SqT.of (ups t3 q3), rfl, _, rfl, _, _, _, _, rfl, rfl, sqT_same (keep _ _) hs, rfl, _, _, rfl, rfl, two_le, fun p hp => q p _ ((keep _ _).trans (same_new hp)) (none_back (keep _ _) hp) upd_same⟩
    · exact ⟨_, rfl, _, rfl, d, V.ref r4, rfl, dget_of upd_same (spot_at fT .right), _, _, _, _, rfl, rfl, SqT.of (ups t4 q4), rfl, _, rfl, _, _, _, _, rfl, rfl, sqT_same (keep _ _) hs, rfl, _, _, rfl, rfl, _, rfl, _, rfl, d, V.ref r4, rfl, dget_of upd_same (spot_at fT .right), _, _, _, _, rfl, rfl, SqT.of (ups t4 q4), rfl, _, rfl, _, _, _, _, rfl, rfl, sqT_same (keep _ _) hs, rfl, _, _, rfl, rfl, two_le, fun p hp => q p _ ((keep _ _).trans (same_new hp)) (none_back (keep _ _) hp) upd_same⟩
    · exact ⟨_, rfl, _, rfl, d, V.ref r5, rfl, dget_of upd_same (spot_at fT .mirror), _, _, _, _, rfl, rfl, SqT.of (ups t5 q5), rfl, _, rfl, _, _, _, _, rfl, rfl, sqT_same (keep _ _) hs, rfl, _, _, rfl, rfl, _, rfl, _, rfl, d, V.ref r5, rfl, dget_of upd_same (spot_at fT .mirror), _, _, _, _, rfl, rfl, SqT.of (ups t5 q5), rfl, _, rfl, _, _, _, _, rfl, rfl, sqT_same (keep _ _) hs, rfl, _, _, rfl, rfl, two_le, fun p hp => q p _ ((keep _ _).trans (same_new hp)) (none_back (keep _ _) hp) upd_same⟩
    · exact ⟨_, rfl, _, rfl, d, V.ref r6, rfl, dget_of upd_same (spot_at fT .flip), _, _, _, _, rfl, rfl, SqT.of (ups t6 q6), rfl, _, rfl, _, _, _, _, rfl, rfl, sqT_same (keep _ _) hs, rfl, _, _, rfl, rfl, _, rfl, _, rfl, d, V.ref r6, rfl, dget_of upd_same (spot_at fT .flip), _, _, _, _, rfl, rfl, SqT.of (ups t6 q6), rfl, _, rfl, _, _, _, _, rfl, rfl, sqT_same (keep _ _) hs, rfl, _, _, rfl, rfl, two_le, fun p hp => q p _ ((keep _ _).trans (same_new hp)) (none_back (keep _ _) hp) upd_same⟩
    · exact ⟨_, rfl, _, rfl, d, V.ref r7, rfl, dget_of upd_same (spot_at fT .swap), _, _, _, _, rfl, rfl, SqT.of (ups t7 q7), rfl, _, rfl, _, _, _, _, rfl, rfl, sqT_same (keep _ _) hs, rfl, _, _, rfl, rfl, _, rfl, _, rfl, d, V.ref r7, rfl, dget_of upd_same (spot_at fT .swap), _, _, _, _, rfl, rfl, SqT.of (ups t7 q7), rfl, _, rfl, _, _, _, _, rfl, rfl, sqT_same (keep _ _) hs, rfl, _, _, rfl, rfl, two_le, fun p hp => q p _ ((keep _ _).trans (same_new hp)) (none_back (keep _ _) hp) upd_same⟩
    · exact ⟨_, rfl, _, rfl, d, V.ref r8, rfl, dget_of upd_same (spot_at fT .cross), _, _, _, _, rfl, rfl, SqT.of (ups t8 q8), rfl, _, rfl, _, _, _, _, rfl, rfl, sqT_same (keep _ _) hs, rfl, _, _, rfl, rfl, _, rfl, _, rfl, d, V.ref r8, rfl, dget_of upd_same (spot_at fT .cross), _, _, _, _, rfl, rfl, SqT.of (ups t8 q8), rfl, _, rfl, _, _, _, _, rfl, rfl, sqT_same (keep _ _) hs, rfl, _, _, rfl, rfl, two_le, fun p hp => q p _ ((keep _ _).trans (same_new hp)) (none_back (keep _ _) hp) upd_same⟩

end
end K84
set_option Elab.async false
set_option linter.all false
set_option maxRecDepth 100000
set_option maxHeartbeats 1000000
/-! the law's own defs: cells, shifts, motion -/
namespace K84
open PySem PySem.Spec PyProof.Rows L2
abbrev PrR (H : Hp) (p : Nat × Nat) (y : V) : Prop := ∃ r, y = .ref r ∧ H r = some (.tup [.int ((p.2 : Nat) : Int), .int ((p.1 : Nat) : Int)])
theorem prR_same {H H' : Hp} (e : Same H H') {p : Nat × Nat} {y : V} (h : PrR H p y) : PrR H' p y := let ⟨r, a, b⟩ := h; ⟨r, a, e _ _ b⟩
theorem prR_map {H : Hp} {n m : Nat} {ys : List V} (h : Paired (PrR H) (grid n m) ys) : Paired (fun (c : Int × Int) y => ∃ r, y = .ref r ∧ H r = some (.tup [.int c.1, .int c.2])) (placesL m n) ys :=
  paired_map (F := fun (c : Int × Int) (y : V) => ∃ r, y = V.ref r ∧ H r = some (.tup [.int c.1, .int c.2])) (fun p : Nat × Nat => (((p.2 : Nat) : Int), ((p.1 : Nat) : Int))) h
theorem grid_small {i n m : Nat} (hi : i ≤ n) (hn : n ≤ 144) (hm : m ≤ 144) : (grid i m).length ≤ 20736 := by
  rw [grid_len]
  exact Nat.le_trans (Nat.mul_le_mul (Nat.le_trans hi hn) hm) (by decide)
section
variable {P : Program} {w : World} {K : PySem.W.Frag} {mg : Str → Option Value} {base : Heap}
theorem sc_cl : FnScope ["_law_low", "_law_high", "_law_found", "_law_y", "_law_x"] ["_law_low", "_law_high"] d__law_cells.scope := ⟨rfl, rfl, rfl, by decide +kernel, rfl, by decide +kernel, by decide +kernel⟩
theorem ok_cells (T : Txt w K mg) : Good P w K mg base 1 "_law_cells" ["_law_low", "_law_high"] (fun vs H Q _ => ∃ n : Nat, vs = [.int 0, .int (n : Int)] ∧ n ≤ 144 ∧ ∀ p H', Same H H' → H p = none → PairsAt K H' p (placesL n n) → Q (.ref p) H') := by
  refine good_mk (d := d__law_cells) T.d__law_cells rfl rfl T.g__law_cells sc_cl
    (fun _ _ _ _ _ _ us hl => match us, hl with | [_, _], _ => rfl) (fun vs H Q E h => ?_) (fun f cdv A outer st H vs Q E hr h => ?_)
  · obtain ⟨n, rfl, _⟩ := h
    rfl
  · obtain ⟨n, rfl, hn, q⟩ := h
    have nd := sc_cl.nd
    refine ⟨_, (pss_cons (ps_set (i := 2) nd rfl (Or.inl rfl) (pe_lst pa_nil))
      (pss_cons (ps_for PassesOwn.never rfl (pi_range2 (by rfl) T.f_range (pa_cons (pv 0) (pa_cons (pv 1) pa_nil))) (pg_name (i := 3) nd rfl (by first | exact Or.inl rfl | exact Or.inr rfl))
        (pss_one (ps_set (i := 2) nd rfl (Or.inl rfl) (pe_op op_cat (pv 2) (pe_lc (own := [("_law_x", 4)]) rfl nd (pi_range2 (by rfl) T.f_range (pa_cons (pv 0) (pa_cons (pv 1) pa_nil))) (blkOk_by (own := [("_law_x", 4)]) (N := ["_law_low", "_law_high", "_law_found", "_law_y", "_law_x"]) (sc := d__law_cells.scope) (by decide +kernel)) (fun _ _ _ _ _ => (pg_name (i := 4) nd rfl (Or.inl rfl))) (fun _ _ _ _ _ => pts_nil) (fun _ _ _ _ _ => (pe_tup (pa_cons (pv 4) (pa_cons (pv 3) pa_nil)))))))))
      (pss_one (ps_ret (pv 2))))), ?_⟩
    refine ⟨Nat.zero_le _, fun p hp => ?_⟩
    have bd : -(2 ^ 62) ≤ (0 : Int) ∧ (0 : Int) < 2 ^ 62 ∧ -(2 ^ 62) ≤ ((n : Nat) : Int) ∧ ((n : Nat) : Int) < 2 ^ 62 := by omega
    have en : ((n : Int) - 0).toNat = n := by omega
    refine ⟨_, rfl, _, rfl, _, _, rfl, bd, ?_⟩
    rw [en]
    refine for_range (lo := 0) (n := n) (fun i σ H2 => ∃ y fp ys, σ = [some (.int 0), some (.int (n : Int)), some (.ref fp), y, none] ∧ Same H H2 ∧ H fp = none ∧ H2 fp = some (.lst ys) ∧ Paired (PrR H2) (grid i n) ys)
      ⟨none, p, [], rfl, same_new hp, hp, upd_same, .nil⟩ ?_ ?_
    · rintro i σ H2 hi ⟨y, fp, ys, rfl, e2, nf, hf, pz⟩
      refine ⟨_, rfl, _, rfl, _, rfl, _, _, rfl, bd, fun D nD => ?_⟩
      rw [en]
      refine lcR evoSame (lo := 0) (n := n) (fun _ => true) (fun j y H => PrR H (i, j) y) nD (by omega) (fun j y H H' e ⟨r, a, b⟩ => ⟨r, a, e.tup b⟩) (fun j H3 Kc Kn hj e3 hc _ => ?_) (fun H3 zs e3 hD al => ?_)
      · refine ⟨rfl, _, rfl, _, rfl, two_le, fun r hr => hc _ _ rfl (same_new hr) ⟨r, rfl, ?_⟩⟩
        rw [Int.zero_add, Int.zero_add]
        exact upd_same
      · unfold Al at al
        rw [filter_yes] at al
        have al2 := paired_map (F := PrR H3) (fun j => (i, j)) al
        have pz3 := paired_imp (fun p y h => prR_same e3 h) pz
        have pall := paired_app pz3 al2
        rw [← grid_succ] at pall
        have hlen : ys.length + zs.length ≤ sizeLine := by
          have l1 := paired_len pall
          have l2 := grid_small (i := i + 1) (m := n) hi hn hn
          rw [List.length_append] at l1
          have : (20736 : Nat) ≤ sizeLine := by decide
          omega
        refine ⟨fp, D, ys, zs, rfl, rfl, e3 _ _ hf, hD, hlen, fun p2 hp2 => ?_⟩
        have e4 := same_new (o := .lst (ys ++ zs)) hp2
        exact ⟨_, p2, _, rfl, e2.trans (e3.trans e4), none_back (e2.trans e3) hp2, upd_same, paired_imp (fun p y h => prR_same e4 h) pall⟩
    · rintro σ H2 ⟨y, fp, ys, rfl, e2, nf, hf, pz⟩
      exact ⟨_, rfl, q fp H2 e2 nf ⟨ys, hf, prR_map pz⟩⟩
theorem sc_sh : FnScope ["_law_lattice_here", "_law_found", "_law_y", "_law_x"] ["_law_lattice_here"] d__law_shifts.scope := ⟨rfl, rfl, rfl, by decide +kernel, rfl, by decide +kernel, by decide +kernel⟩
theorem ok_shifts (T : Txt w K mg) : Good P w K mg base 1 "_law_shifts" ["_law_lattice_here"] (fun vs H Q _ => ∃ l A B D, vs = [.ref l] ∧ SqT K H l [.int A, .int B, .int D] ∧ BasS A B D ∧ ∀ p H', Same H H' → H p = none → PairsAt K H' p (placesL A.toNat D.toNat) → Q (.ref p) H') := by
  refine good_mk (d := d__law_shifts) T.d__law_shifts rfl rfl T.g__law_shifts sc_sh
    (fun _ _ _ _ _ _ us hl => match us, hl with | [_], _ => rfl) (fun vs H Q E h => ?_) (fun f cdv Ar outer st H vs Q E hr h => ?_)
  · obtain ⟨l, A, B, D, rfl, _⟩ := h
    rfl
  · obtain ⟨l, A, B, D, rfl, hl, ⟨⟨h1, h2, h3, h4⟩, h5, h6⟩, q⟩ := h
    have nd := sc_sh.nd
    refine ⟨_, (pss_cons (ps_set (i := 1) nd rfl (Or.inl rfl) (pe_lst pa_nil))
      (pss_cons (ps_for PassesOwn.never rfl (pi_range1 (by rfl) T.f_range (pa_cons (pe_ix ix_tup (pv 0) pe_int (fun _ _ => rfl)) pa_nil)) (pg_name (i := 2) nd rfl (by first | exact Or.inl rfl | exact Or.inr rfl))
        (pss_one (ps_set (i := 1) nd rfl (Or.inl rfl) (pe_op op_cat (pv 1) (pe_lc (own := [("_law_x", 3)]) rfl nd (pi_range1 (by rfl) T.f_range (pa_cons (pe_ix ix_tup (pv 0) pe_int (fun _ _ => rfl)) pa_nil)) (blkOk_by (own := [("_law_x", 3)]) (N := ["_law_lattice_here", "_law_found", "_law_y", "_law_x"]) (sc := d__law_shifts.scope) (by decide +kernel)) (fun _ _ _ _ _ => (pg_name (i := 3) nd rfl (Or.inl rfl))) (fun _ _ _ _ _ => pts_nil) (fun _ _ _ _ _ => (pe_tup (pa_cons (pv 3) (pa_cons (pv 2) pa_nil)))))))))
      (pss_one (ps_ret (pv 1))))), ?_⟩
    refine ⟨Nat.zero_le _, fun p hp => ?_⟩
    refine ⟨_, rfl, _, _, _, _, rfl, rfl, sqT_same (same_new hp) hl, rfl, _, rfl, by omega, by omega, ?_⟩
    refine for_range (lo := 0) (n := D.toNat) (fun i σ H2 => ∃ y fp ys, σ = [some (.ref l), some (.ref fp), y, none] ∧ Same H H2 ∧ H fp = none ∧ H2 fp = some (.lst ys) ∧ Paired (PrR H2) (grid i A.toNat) ys)
      ⟨none, p, [], rfl, same_new hp, hp, upd_same, .nil⟩ ?_ ?_
    · rintro i σ H2 hi ⟨y, fp, ys, rfl, e2, nf, hf, pz⟩
      refine ⟨_, rfl, _, rfl, _, _, _, _, rfl, rfl, sqT_same e2 hl, rfl, _, rfl, by omega, by omega, fun Dd nD => ?_⟩
      refine lcR evoSame (lo := 0) (n := A.toNat) (fun _ => true) (fun j y H => PrR H (i, j) y) nD (by omega) (fun j y H H' e ⟨r, a, b⟩ => ⟨r, a, e.tup b⟩) (fun j H3 Kc Kn hj e3 hc _ => ?_) (fun H3 zs e3 hD al => ?_)
      · refine ⟨rfl, _, rfl, _, rfl, two_le, fun r hr => hc _ _ rfl (same_new hr) ⟨r, rfl, ?_⟩⟩
        rw [Int.zero_add, Int.zero_add]
        exact upd_same
      · unfold Al at al
        rw [filter_yes] at al
        have al2 := paired_map (F := PrR H3) (fun j => (i, j)) al
        have pz3 := paired_imp (fun p y h => prR_same e3 h) pz
        have pall := paired_app pz3 al2
        rw [← grid_succ] at pall
        have hlen : ys.length + zs.length ≤ sizeLine := by
          have l1 := paired_len pall
          have l2 := grid_small (i := i + 1) (n := D.toNat) (m := A.toNat) hi (by omega) (by omega)
          rw [List.length_append] at l1
          have : (20736 : Nat) ≤ sizeLine := by decide
          omega
        refine ⟨fp, Dd, ys, zs, rfl, rfl, e3 _ _ hf, hD, hlen, fun p2 hp2 => ?_⟩
        have e4 := same_new (o := .lst (ys ++ zs)) hp2
        exact ⟨_, p2, _, rfl, e2.trans (e3.trans e4), none_back (e2.trans e3) hp2, upd_same, paired_imp (fun p y h => prR_same e4 h) pall⟩
    · rintro σ H2 ⟨y, fp, ys, rfl, e2, nf, hf, pz⟩
      exact ⟨_, rfl, q fp H2 e2 nf ⟨ys, hf, prR_map pz⟩⟩
theorem ok_l_motion (T : Txt w K mg) : Good P w K mg base 3 "_law_motion" ["_law_pool_here"] (fun vs H Q _ => ∃ pl, vs = [.ref pl] ∧ PoolAt H pl ∧ ∀ m s (t : Tn) u v H', Po pl H H' → H' m = some (.tup [.str t.str, .ref s]) → H' s = some (.tup [.int u, .int v]) → (-6 ≤ u ∧ u ≤ 6) → (-6 ≤ v ∧ v ≤ 6) → Q (.ref m) H') := by
  refine good_mk (d := d__law_motion) (N := ["_law_pool_here"]) T.d__law_motion rfl rfl T.g__law_motion ⟨rfl, rfl, rfl, by decide +kernel, rfl, by decide +kernel, by decide +kernel⟩
    (fun _ _ _ _ _ _ us hl => match us, hl with | [_], _ => rfl) (fun vs H Q E h => ?_) (fun f cdv A outer st H vs Q E hr h => ?_)
  · obtain ⟨pl, rfl, _⟩ := h
    rfl
  · obtain ⟨pl, rfl, hp, q⟩ := h
    refine ⟨_, (pss_one (ps_ret (pe_tup (pa_cons (pe_fn (ok_pick T) hr (pa_cons (pv 0) (pa_cons (pe_fn0 (ok_l_turns T) hr) pa_nil))) (pa_cons (pe_tup (pa_cons (pe_op op_sub (pe_fn (ok_draw T) hr (pa_cons (pv 0) (pa_cons pe_int pa_nil))) pe_int) (pa_cons (pe_op op_sub (pe_fn (ok_draw T) hr (pa_cons (pv 0) (pa_cons pe_int pa_nil))) pe_int) pa_nil))) pa_nil))))), ?_⟩
    refine ⟨_, rfl, rfl, fun tl ntl => ?_⟩
    have p1 : Po pl H (upd H tl (.lst (Tn.all.map fun t => V.str t.str))) := Po.same hp (same_new ntl)
    have hne : tl ≠ pl := fun z => by
      obtain ⟨a, b, h⟩ := hp
      rw [z, h] at ntl
      cases ntl
    refine ⟨pl, .ref tl, _, rfl, p1.2.1, .inl ⟨tl, rfl, .inl (SqL.of upd_same)⟩, fun a b => .inl ⟨tl, rfl, .inl (SqL.of (by rw [upd_ne hne]; exact upd_same))⟩, by decide, by decide, fun x a b hx => ?_⟩
    obtain ⟨t, _, rfl⟩ := List.mem_map.mp hx
    have p2 := p1.trans (Po.set p1.2.1 a b)
    refine ⟨_, rfl, pl, 13, rfl, p2.2.1, by decide, by decide, fun r1 a1 b1 g1 g2 => ⟨_, _, rfl, rfl, ?_⟩⟩
    have p3 := p2.trans (Po.set p2.2.1 a1 b1)
    refine ⟨_, rfl, pl, 13, rfl, p3.2.1, by decide, by decide, fun r2 a2 b2 g3 g4 => ⟨_, _, rfl, rfl, two_le, fun s hs => ?_⟩⟩
    have p4 := p3.trans (Po.set p3.2.1 a2 b2)
    refine ⟨two_le, fun m hm => ?_⟩
    exact q m s t (r1 - 6) (r2 - 6) _ (p4.trans (Po.same p4.2.1 ((same_new hs).trans (same_new hm)))) upd_same (same_new hm _ _ upd_same) (by omega) (by omega)
end
end K84
set_option Elab.async false
set_option linter.all false
set_option maxRecDepth 100000
set_option maxHeartbeats 1000000
/-! the law's own defs: tables -/
namespace K84
open PySem PySem.Spec PyProof.Rows L2
/-- the key of a cell -/
abbrev ck (x y : Int) : List L2.Key := [.inl x, .inl y]
abbrev cv (f : Int → Int → Nat) (x y : Int) : V := .int ((f x y : Nat) - 48)
def InR (n x y : Int) : Prop := 0 ≤ x ∧ x < n ∧ 0 ≤ y ∧ y < n
/-- each entry tells f at its cell -/
def EntK (n : Int) (f : Int → Int → Nat) (kvs : List (List L2.Key × V)) : Prop := ∀ kv ∈ kvs, ∃ x y : Int, InR n x y ∧ kv.1 = ck x y ∧ kv.2 = cv f x y
/-- a table of f -/
structure TabK (n : Int) (f : Int → Int → Nat) (kvs : List (List L2.Key × V)) : Prop where
  ent : EntK n f kvs
  at_ : ∀ x y, InR n x y → valV kvs (ck x y) = some (cv f x y)
  len : kvs.length ≤ 1000
theorem entK_put {n : Int} {f : Int → Int → Nat} {kvs : List (List L2.Key × V)} {x y : Int} (h : EntK n f kvs) (hr : InR n x y) : EntK n f (putK kvs (ck x y) (cv f x y)) := by
  unfold putK
  split
  · intro kv hkv
    obtain ⟨q, hq, rfl⟩ := List.mem_map.mp hkv
    by_cases e : q.1 = ck x y
    · rw [if_pos e]
      exact ⟨x, y, hr, e, rfl⟩
    · rw [if_neg e]
      exact h q hq
  · intro kv hkv
    rcases List.mem_append.mp hkv with z | z
    · exact h kv z
    · rw [List.mem_singleton.mp z]
      exact ⟨x, y, hr, rfl, rfl⟩
theorem merge_tab {n : Int} {f : Int → Int → Nat} : ∀ (kvs acc : List (List L2.Key × V)), EntK n f kvs → EntK n f acc → EntK n f (mergeT acc kvs) ∧
    ∀ x y, (valV acc (ck x y) = some (cv f x y) ∨ ∃ kv ∈ kvs, kv.1 = ck x y) → valV (mergeT acc kvs) (ck x y) = some (cv f x y)
  | [], acc, _, ha => ⟨ha, fun x y h => h.elim id fun ⟨kv, hkv, _⟩ => by cases hkv⟩
  | q :: r, acc, hk, ha => by
    obtain ⟨x0, y0, hr, e1, e2⟩ := hk q (List.mem_cons_self ..)
    have hput := entK_put ha hr
    rw [← e1, ← e2] at hput
    obtain ⟨i1, i2⟩ := merge_tab r (putK acc q.1 q.2) (fun kv h => hk kv (List.mem_cons_of_mem _ h)) hput
    refine ⟨i1, fun x y h => i2 x y ?_⟩
    by_cases e : ck x y = q.1
    · refine .inl ?_
      rw [valV_put, if_pos e, e2]
      rw [e1] at e
      injection e with z1 z2
      injection z2 with z2 _
      injection z1 with z1
      injection z2 with z2
      rw [z1, z2]
    · rcases h with h | ⟨kv, hkv, ek⟩
      · refine .inl ?_
        rw [valV_put, if_neg e]
        exact h
      · rcases List.mem_cons.mp hkv with z | z
        · exact absurd (by rw [← ek, z]) e
        · exact .inr ⟨kv, z, ek⟩
theorem tabK_merge {n : Int} {f : Int → Int → Nat} {kvs : List (List L2.Key × V)} (h : EntK n f kvs) (hc : ∀ x y, InR n x y → ∃ kv ∈ kvs, kv.1 = ck x y) (hl : kvs.length ≤ 1000) : TabK n f (mergeT [] kvs) := by
  obtain ⟨a, b⟩ := merge_tab kvs [] h (fun kv z => by cases z)
  exact ⟨a, fun x y hr => b x y (.inr (hc x y hr)), Nat.le_trans (mergeT_len kvs []) (by simpa using hl)⟩
def TabO (H : Hp) (p : Addr) (n : Int) (f : Int → Int → Nat) : Prop := ∃ kvs, H p = some (.dT kvs) ∧ TabK n f kvs
theorem TabO.same {H H' : Hp} {p : Addr} {n : Int} {f : Int → Int → Nat} (h : TabO H p n f) (e : Same H H') : TabO H' p n f := let ⟨k, a, b⟩ := h; ⟨k, e _ _ a, b⟩
theorem TabO.kp {H H' : Hp} {p : Addr} {n : Int} {f : Int → Int → Nat} (h : TabO H p n f) (e : Kp H H') : TabO H' p n f := let ⟨k, a, b⟩ := h; ⟨k, e.dT a, b⟩
/-- f repeats in n both ways -/
def Tor (f : Int → Int → Nat) (n : Int) : Prop := IsPer f n 0 ∧ IsPer f 0 n
theorem Tor.per {f : Int → Int → Nat} {n : Int} (h : Tor f n) (i j : Int) : IsPer f (i * n) (j * n) := ((h.1.mul i).add (h.2.mul j)).cast (by simp) (by simp)
theorem Tor.at_ {f : Int → Int → Nat} {n : Int} (h : Tor f n) (x y : Int) : f (x % n) (y % n) = f x y := by
  have := h.per (x / n) (y / n) (x % n) (y % n)
  rw [← this]
  have e1 := Int.emod_add_mul_ediv x n
  have e2 := Int.emod_add_mul_ediv y n
  rw [Int.mul_comm n] at e1 e2
  rw [e1, e2]
theorem inR_mod {n : Int} (hn : 0 < n) (x y : Int) : InR n (x % n) (y % n) := ⟨Int.emod_nonneg _ (by omega), Int.emod_lt_of_pos _ hn, Int.emod_nonneg _ (by omega), Int.emod_lt_of_pos _ hn⟩
theorem Tor.all {f g : Int → Int → Nat} {n : Int} (hn : 0 < n) (hf : Tor f n) (hg : Tor g n) (h : ∀ x y, InR n x y → f x y = g x y) : f = g := by
  funext x y
  rw [← hf.at_ x y, ← hg.at_ x y]
  exact h _ _ (inR_mod hn x y)
theorem per_iff {f : Int → Int → Nat} {n : Int} (hn : 0 < n) (h : Tor f n) (u v : Int) : IsPer f u v ↔ ∀ x y, InR n x y → f ((x + u) % n) ((y + v) % n) = f x y := by
  constructor
  · intro p x y _
    rw [h.at_]
    exact p x y
  · intro p x y
    have := p _ _ (inR_mod hn x y)
    rw [h.at_, h.at_] at this
    have q := h.per (-(x / n)) (-(y / n)) (x + u) (y + v)
    rw [← q, ← this]
    have e1 := Int.emod_add_mul_ediv x n
    have e2 := Int.emod_add_mul_ediv y n
    rw [Int.mul_comm n] at e1 e2
    rw [Int.neg_mul, Int.neg_mul]
    congr 1 <;> omega
section
variable {P : Program} {w : World} {K : PySem.W.Frag} {mg : Str → Option Value} {base : Heap}
theorem sc_ag : FnScope ["_law_table_here", "_law_shift", "_law_many", "_law_cell"] ["_law_table_here", "_law_shift", "_law_many"] d__law_again.scope := ⟨rfl, rfl, rfl, by decide +kernel, rfl, by decide +kernel, by decide +kernel⟩
theorem unlock {H H' : Hp} {d : Addr} {u : HO} {o : Obj} (hd : H d = some u) (e : Same (upd H d (.frz o u)) H') : Same H (upd H' d u) := fun b x h => by
  by_cases z : b = d
  · rw [z, hd] at h
    rw [z, upd_same]
    exact h
  · rw [upd_ne z]
    exact e _ _ ((upd_ne z).trans h)
theorem lock_pr {K : PySem.W.Frag} {H : Hp} {d s : Addr} {u : HO} {o : Obj} {xs : List V} (hd : H d = some u) (n1 : ∀ ys, u ≠ .tup ys) (n2 : ∀ z ys, u ≠ .frz z ys) (h : SqT K H s xs) : SqT K (upd H d (.frz o u)) s xs := by
  rcases h with (h | ⟨z, h⟩) | h
  · refine .inl (.inl ?_)
    rw [upd_ne (fun e => by rw [e, hd] at h; exact n1 _ (Option.some.inj h))]
    exact h
  · refine .inl (.inr ⟨z, ?_⟩)
    rw [upd_ne (fun e => by rw [e, hd] at h; exact n2 _ _ (Option.some.inj h))]
    exact h
  · exact .inr h
theorem ok_again (T : Txt w K mg) : Good P w K mg base 2 "_law_again" ["_law_table_here", "_law_shift", "_law_many"] (fun vs H Q _ => ∃ p s n f u v, vs = [.ref p, .ref s, .int n] ∧ TabO H p n f ∧ Tor f n ∧ 0 < n ∧ Pr K H s u v ∧ ∀ b H', Same H H' → (b = true ↔ IsPer f u v) → Q (.bl b) H') := by
  refine good_mk (d := d__law_again) T.d__law_again rfl rfl T.g__law_again sc_ag
    (fun _ _ _ _ _ _ us hl => match us, hl with | [_, _, _], _ => rfl) (fun vs H Q E h => ?_) (fun f0 cdv A outer st H vs Q E hr h => ?_)
  · obtain ⟨p, s, n, f, u, v, rfl, _⟩ := h
    rfl
  · obtain ⟨p, s, n, f, u, v, rfl, ⟨kvs, hp, ht⟩, htor, hn, hs, q⟩ := h
    have nd := sc_ag.nd
    refine ⟨_, (pss_cons (ps_lock (ps_for PassesOwn.never rfl (pi_keys (pv 0)) (pg_name (i := 3) nd rfl (Or.inl rfl))
        (pss_one (ps_if (pt_cmpR op_ne (pe_dget (un1 hr) (pv 0) (pe_fn (ok_within T) hr (pa_cons (pe_tup (pa_cons (pe_op op_add (pe_ix ix_tup (pv 3) pe_int (fun _ _ => rfl)) (pe_ix ix_tup (pv 1) pe_int (fun _ _ => rfl))) (pa_cons (pe_op op_add (pe_ix ix_tup (pv 3) pe_int (fun _ _ => rfl)) (pe_ix ix_tup (pv 1) pe_int (fun _ _ => rfl))) pa_nil))) (pa_cons (pv 2) pa_nil))) (fun _ _ => rfl)) (pe_dget (un1 hr) (pv 0) (pv 3) (fun _ _ => rfl)) (nomark _)) (pss_one (ps_ret pe_bl)) pss_nil))))
      (pss_one (ps_ret pe_bl))), ?_⟩
    refine ⟨p, _, hp, trivial, fun od => ?_⟩
    have hlk : (upd H p (.frz od (.dT kvs))) p = some (.frz od (.dT kvs)) := upd_same
    have hs1 := lock_pr (o := od) hp (fun _ z => by cases z) (fun _ _ z => by cases z) hs
    refine ⟨_, rfl, p, od, rfl, .inr ⟨kvs, hlk, ?_⟩⟩
    refine for_it walk_keysT (fun i σ H2 => ∃ c, σ = [some (.ref p), some (.ref s), some (.int n), c] ∧ Same (upd H p (.frz od (.dT kvs))) H2 ∧ ∀ j kv x y, j < i → kvs[j]? = some kv → kv.1 = ck x y → f ((x + u) % n) ((y + v) % n) = f x y)
      ⟨none, rfl, Same.refl _, fun j _ _ _ h => absurd h (Nat.not_lt_zero _)⟩ (fun i σ H2 _ ⟨_, _, e2, _⟩ => e2 _ _ hlk) ?_ ?_
    · rintro i x σ H2 H3 hi ⟨c, rfl, e2, hok⟩ ⟨rfl, k, v0, q0, hk, rfl, hq⟩
      obtain ⟨x, y, hr0, ek, ev⟩ := ht.ent (k, v0) (List.mem_of_getElem? hk)
      simp only at ek ev
      subst ek ev
      have hq' : H3 q0 = some (.tup [.int x, .int y]) := hq
      have hd3 := e2 _ _ hlk
      refine ⟨_, rfl, _, rfl, _, _, _, _, rfl, rfl, SqT.of hq', rfl, _, rfl, _, _, _, _, rfl, rfl, sqT_same e2 hs1, rfl, _, _, rfl, rfl, ?_⟩
      refine ⟨_, rfl, _, _, _, _, rfl, rfl, SqT.of hq', rfl, _, rfl, _, _, _, _, rfl, rfl, sqT_same e2 hs1, rfl, _, _, rfl, rfl, two_le, fun z hz => ?_⟩
      have e3 := same_new (o := .tup [.int (x + u), .int (y + v)]) hz
      refine ⟨_, rfl, z, x + u, y + v, n, rfl, SqT.of upd_same, hn, fun z2 hz2 => ?_⟩
      have e4 := same_new (o := .tup [.int ((x + u) % n), .int ((y + v) % n)]) hz2
      have e34 := e3.trans e4
      refine ⟨p, cv f ((x + u) % n) ((y + v) % n), rfl, ?_, ?_⟩
      · rw [← ht.at_ _ _ (inR_mod hn (x + u) (y + v))]
        exact .inr ⟨kvs, ck _ _, z2, .inr ⟨od, e34 _ _ hd3⟩, rfl, upd_same, rfl⟩
      · refine ⟨_, rfl, _, rfl, p, cv f x y, rfl, ?_, rfl, _, rfl, ?_⟩
        · rw [← ht.at_ _ _ hr0]
          exact .inr ⟨kvs, ck x y, q0, .inr ⟨od, e34 _ _ hd3⟩, rfl, e34 _ _ hq', rfl⟩
        · by_cases he : f ((x + u) % n) ((y + v) % n) = f x y
          · rw [show decide (cv f ((x + u) % n) ((y + v) % n) = cv f x y) = true from decide_eq_true (by show V.int _ = V.int _; rw [he])]
            refine iteF ⟨_, rfl, e2.trans e34, fun j kv x' y' hj hkv hxy => ?_⟩
            by_cases hji : j = i
            · subst hji
              rw [hk] at hkv
              cases hkv
              injection hxy with z1 z2
              injection z2 with z2 _
              injection z1 with z1
              injection z2 with z2
              subst z1 z2
              exact he
            · exact hok j kv x' y' (by omega) hkv hxy
          · rw [show decide (cv f ((x + u) % n) ((y + v) % n) = cv f x y) = false from decide_eq_false (fun z => he (by injection z with z; omega))]
            refine iteT ⟨(e2.trans e34) _ _ hlk, q false _ (unlock hp (e2.trans e34)) ⟨fun z => (by cases z), fun z => absurd ((per_iff hn htor u v).mp z x y hr0) he⟩⟩
    · rintro σ H2 ⟨c, rfl, e2, hok⟩
      refine ⟨e2 _ _ hlk, q true _ (unlock hp e2) ⟨fun _ => (per_iff hn htor u v).mpr fun x y hxy => ?_, fun _ => rfl⟩⟩
      have hv := ht.at_ x y hxy
      obtain ⟨kv, h1, h2⟩ : ∃ kv ∈ kvs, kv.1 = ck x y := by
        unfold valV at hv
        obtain ⟨kv, h1, h2⟩ := Option.map_eq_some_iff.mp hv
        exact ⟨kv, List.mem_of_find?_eq_some h1, by simpa using List.find?_some h1⟩
      obtain ⟨j, hj⟩ := List.getElem?_of_mem h1
      exact hok j kv x y (List.getElem?_eq_some_iff.mp hj).1 hj h2
end
end K84
set_option Elab.async false
set_option linter.all false
set_option maxRecDepth 100000
set_option maxHeartbeats 1000000
/-! the law's own defs: tables made and moved -/
namespace K84
open PySem PySem.Spec PyProof.Rows L2
/-- an item of the list that dict() is given -/
def DEnt (H : Hp) (kv : List L2.Key × V) (y : V) : Prop := ∃ r b, y = .ref r ∧ H r = some (.tup [.ref b, kv.2]) ∧ H b = some (.tup (kv.1.map kV))
theorem DEnt.kp {H H' : Hp} (e : Kp H H') {kv : List L2.Key × V} {y : V} (h : DEnt H kv y) : DEnt H' kv y := let ⟨r, b, h1, h2, h3⟩ := h; ⟨r, b, h1, e.tup h2, e.tup h3⟩
theorem dents {K : PySem.W.Frag} {H : Hp} : ∀ {kvs : List (List L2.Key × V)} {zs : List V}, Paired (DEnt H) kvs zs → ∃ ps : List Addr, zs = ps.map V.ref ∧ Paired (fun p kv => ∃ b, SqT K H p [.ref b, kv.2] ∧ H b = some (.tup (kv.1.map kV))) ps kvs
  | _, _, .nil => ⟨[], rfl, .nil⟩
  | _, _, .cons r t => by
    obtain ⟨ps, e1, e2⟩ := dents (K := K) t
    obtain ⟨p, b, h1, h2, h3⟩ := r
    exact ⟨p :: ps, by rw [List.map_cons, ← e1, h1], .cons ⟨b, SqT.of h2, h3⟩ e2⟩
theorem lx_mod (t : Tn) (n a b u v : Int) : (t.lx (a % n) (b % n) + u) % n = (t.lx a b + u) % n ∧ (t.ly (a % n) (b % n) + v) % n = (t.ly a b + v) % n := by
  have ea := Int.emod_add_mul_ediv a n
  have eb := Int.emod_add_mul_ediv b n
  have p : ∀ (z w c : Int), z % n + n * (z / n) = z → (z % n + w) % n = (z + w) % n := fun z w c e => by
    rw [Int.emod_add_emod]
  have m : ∀ (z w : Int), z % n + n * (z / n) = z → (-(z % n) + w) % n = (-z + w) % n := fun z w e => by
    have : -(z % n) + w = (-z + w) + n * (z / n) := by omega
    rw [this, Int.add_mul_emod_self_left]
  cases t <;> simp only [Tn.lx, Tn.ly] <;> constructor <;> first | exact p _ _ 0 ea | exact p _ _ 0 eb | exact m _ _ ea | exact m _ _ eb
theorem Tor.movd {f : Int → Int → Nat} {n : Int} (h : Tor f n) (t : Tn) (u v : Int) : Tor (movd t u v f) n := by
  have h1 : IsPer f (-n) 0 := (h.per (-1) 0).cast (by omega) (by omega)
  have h2 : IsPer f 0 (-n) := (h.per 0 (-1)).cast (by omega) (by omega)
  constructor
  · have q : IsPer f (t.inv.lx n 0) (t.inv.ly n 0) := by
      cases t <;> simp only [Tn.inv, Tn.lx, Tn.ly, Int.neg_zero] <;> first | exact h.1 | exact h.2 | exact h1 | exact h2
    exact (movd_per q).cast (Tn.lx_inv t n 0) (Tn.ly_inv t n 0)
  · have q : IsPer f (t.inv.lx 0 n) (t.inv.ly 0 n) := by
      cases t <;> simp only [Tn.inv, Tn.lx, Tn.ly, Int.neg_zero] <;> first | exact h.1 | exact h.2 | exact h1 | exact h2
    exact (movd_per q).cast (Tn.lx_inv t 0 n) (Tn.ly_inv t 0 n)
def dec : List L2.Key → Int × Int
  | [.inl x, .inl y] => (x, y)
  | _ => (0, 0)
/-- where an entry goes -/
def newkv (t : Tn) (u v n : Int) (kv : List L2.Key × V) : List L2.Key × V := (ck ((t.lx (dec kv.1).1 (dec kv.1).2 + u) % n) ((t.ly (dec kv.1).1 (dec kv.1).2 + v) % n), kv.2)
theorem tabK_mem {n : Int} {f : Int → Int → Nat} {kvs : List (List L2.Key × V)} (h : TabK n f kvs) {x y : Int} (hr : InR n x y) : ∃ kv ∈ kvs, kv.1 = ck x y := by
  have hv := h.at_ x y hr
  unfold valV at hv
  obtain ⟨kv, h1, h2⟩ := Option.map_eq_some_iff.mp hv
  exact ⟨kv, List.mem_of_find?_eq_some h1, by simpa using List.find?_some h1⟩
theorem tabK_moved {n : Int} {f : Int → Int → Nat} {kvs : List (List L2.Key × V)} (hn : 0 < n) (htor : Tor f n) (h : TabK n f kvs) (t : Tn) (u v : Int) : TabK n (movd t u v f) (mergeT [] (kvs.map (newkv t u v n))) := by
  refine tabK_merge (fun kv hkv => ?_) (fun x y hr => ?_) (by rw [List.length_map]; exact h.len)
  · obtain ⟨q, hq, rfl⟩ := List.mem_map.mp hkv
    obtain ⟨x, y, hr, e1, e2⟩ := h.ent q hq
    refine ⟨_, _, inR_mod hn (t.lx x y + u) (t.ly x y + v), ?_, ?_⟩
    · unfold newkv
      rw [e1]
      rfl
    · show q.2 = _
      rw [e2]
      have : movd t u v f ((t.lx x y + u) % n) ((t.ly x y + v) % n) = f x y := by
        rw [(htor.movd t u v).at_]
        unfold movd
        rw [Int.add_sub_cancel, Int.add_sub_cancel, Tn.inv_lx, Tn.inv_ly]
      unfold cv
      rw [this]
  · obtain ⟨kv, h1, h2⟩ := tabK_mem h (inR_mod hn (t.inv.lx (x - u) (y - v)) (t.inv.ly (x - u) (y - v)))
    refine ⟨_, List.mem_map.mpr ⟨kv, h1, rfl⟩, ?_⟩
    unfold newkv
    rw [h2]
    show ck _ _ = _
    obtain ⟨l1, l2⟩ := lx_mod t n (t.inv.lx (x - u) (y - v)) (t.inv.ly (x - u) (y - v)) u v
    show ck ((t.lx (t.inv.lx (x - u) (y - v) % n) (t.inv.ly (x - u) (y - v) % n) + u) % n) ((t.ly (t.inv.lx (x - u) (y - v) % n) (t.inv.ly (x - u) (y - v) % n) + v) % n) = _
    rw [l1, l2, Tn.lx_inv, Tn.ly_inv, Int.sub_add_cancel, Int.sub_add_cancel, Int.emod_eq_of_lt hr.1 hr.2.1, Int.emod_eq_of_lt hr.2.2.1 hr.2.2.2]
section
variable {P : Program} {w : World} {K : PySem.W.Frag} {mg : Str → Option Value} {base : Heap}
theorem sc_tbl : FnScope ["_law_told", "_law_many", "_law_cell"] ["_law_told", "_law_many"] d__law_table.scope := ⟨rfl, rfl, rfl, by decide +kernel, rfl, by decide +kernel, by decide +kernel⟩
theorem ok_table (T : Txt w K mg) : Good P w K mg base 2 "_law_table" ["_law_told", "_law_many"] (fun vs H Q _ => ∃ (t : Addr) (n : Nat) (a b d : Int) (rows : List Str), vs = [.ref t, .int (n : Int)] ∧ FmAt H t (a, b, d, rows) ∧ BasS a b d ∧ RowsOk a d rows ∧ n ≤ 12 ∧
    ∀ p H', Same H H' → H p = none → TabO H' p (n : Int) (colr a b d rows) → Q (.ref p) H') := by
  refine good_mk (d := d__law_table) T.d__law_table rfl rfl T.g__law_table sc_tbl
    (fun _ _ _ _ _ _ us hl => match us, hl with | [_, _], _ => rfl) (fun vs H Q E h => ?_) (fun f0 cdv A outer st H vs Q E hr h => ?_)
  · obtain ⟨t, n, a, b, d, rows, rfl, _⟩ := h
    rfl
  · obtain ⟨t, n, a, b, d, rows, rfl, hF, hbs, hro, hn, q⟩ := h
    have nd := sc_tbl.nd
    refine ⟨_, (pss_one (ps_ret (pe_callTy (call_dictT rfl (un64 hr)) (by rfl) T.f_dict b_dict (pa_cons (pe_lc (own := [("_law_cell", 2)]) rfl nd (pi_list (pe_fn (ok_cells T) hr (pa_cons pe_int (pa_cons (pv 1) pa_nil)))) (blkOk_by (own := [("_law_cell", 2)]) (N := ["_law_told", "_law_many", "_law_cell"]) (sc := d__law_table.scope) (by decide +kernel)) (fun _ _ _ _ _ => (pg_name (i := 2) nd rfl (Or.inl rfl))) (fun _ _ _ _ _ => pts_nil)
      (fun _ _ _ _ _ => (pe_tup (pa_cons (pv 2) (pa_cons (pe_fn (ok_l_colour T) hr (pa_cons (pv 0) (pa_cons (pv 2) pa_nil))) pa_nil))))) pa_nil)))), ?_⟩
    refine ⟨_, rfl, n, rfl, by omega, fun cl H1 e1 ncl ⟨ys, hys, pys⟩ => ⟨cl, rfl, ⟨_, SqL.of hys⟩, fun D nD => ?_⟩⟩
    have hl := paired_len pys
    have hll : (placesL n n).length ≤ 144 := by
      rw [places_len]
      exact Nat.le_trans (Nat.mul_le_mul hn hn) (by decide)
    refine lcL evoSame (K := K) (a := cl) (xs := ys) (fun H e => SqL.of (e _ _ hys)) (fun _ => true) (fun i y H => DEnt H ((fun c : Int × Int => (ck c.1 c.2, cv (colr a b d rows) c.1 c.2)) ((placesL n n).getD i (0, 0))) y) nD (by omega) (fun i y H H' e h => h.kp e) (fun i x H2 Kc Kn hx e2 hc _ => ?_) (fun H2 zs e2 hD al => ?_)
    · have hi : i < (placesL n n).length := by
        rw [← hl]
        exact (List.getElem?_eq_some_iff.mp hx).1
      obtain ⟨z', hz', r', rfl, hr'⟩ := paired_at pys (List.getElem?_eq_getElem hi)
      rw [hx] at hz'
      cases hz'
      obtain ⟨c, hce⟩ : ∃ c, (placesL n n)[i] = c := ⟨_, rfl⟩
      rw [hce] at hr'
      rw [getD_at (by rw [List.getElem?_eq_getElem hi, hce])] at hc
      have hr2 := e2 _ _ hr'
      refine ⟨rfl, _, rfl, _, rfl, _, rfl, t, r', a, b, d, rows, c.1, c.2, rfl, hF.same (e1.trans e2), hbs, hro, SqT.of hr2, two_le, fun p hp => ?_⟩
      have e3 := same_new (o := .tup [.ref r', cv (colr a b d rows) c.1 c.2]) hp
      exact hc _ _ rfl e3 ⟨p, r', rfl, upd_same, e3 _ _ hr2⟩
    · rw [hl] at al
      unfold Al at al
      rw [filter_yes] at al
      have al2 := paired_map (F := DEnt H2) (fun i => (fun c : Int × Int => (ck c.1 c.2, cv (colr a b d rows) c.1 c.2)) ((placesL n n).getD i (0, 0))) al
      obtain ⟨ps, ez, hps⟩ := dents (K := K) al2
      refine ⟨D, ps, _, rfl, SqL.of (by rw [hD, ez]), hps, fun p hp => ?_⟩
      have e3 := same_new (o := .dT (mergeT [] ((List.range (placesL n n).length).map fun i => (fun c : Int × Int => (ck c.1 c.2, cv (colr a b d rows) c.1 c.2)) ((placesL n n).getD i (0, 0))))) hp
      refine q p _ (e1.trans (e2.trans e3)) (none_back (e1.trans e2) hp) ⟨_, upd_same, ?_⟩
      have em : ((List.range (placesL n n).length).map fun i => (fun c : Int × Int => (ck c.1 c.2, cv (colr a b d rows) c.1 c.2)) ((placesL n n).getD i (0, 0))) = (placesL n n).map fun c : Int × Int => (ck c.1 c.2, cv (colr a b d rows) c.1 c.2) := by
        conv => rhs; rw [← range_getD (placesL n n) (0, 0)]
        rw [List.map_map]
        rfl
      rw [em]
      refine tabK_merge (fun kv hkv => ?_) (fun x y hr => ?_) (by rw [List.length_map]; omega)
      · obtain ⟨c, hc, rfl⟩ := List.mem_map.mp hkv
        obtain ⟨c1, c2⟩ := c
        obtain ⟨m1, m2, m3, m4⟩ := mem_places.mp hc
        exact ⟨c1, c2, ⟨m1, m2, m3, m4⟩, rfl, rfl⟩
      · obtain ⟨m1, m2, m3, m4⟩ := hr
        exact ⟨_, List.mem_map.mpr ⟨(x, y), mem_places.mpr ⟨m1, m2, m3, m4⟩, rfl⟩, rfl⟩
theorem sc_mv : FnScope ["_law_table_here", "_law_word", "_law_shift", "_law_many", "_law_cell"] ["_law_table_here", "_law_word", "_law_shift", "_law_many"] d__law_moved.scope := ⟨rfl, rfl, rfl, by decide +kernel, rfl, by decide +kernel, by decide +kernel⟩
theorem ok_l_moved (T : Txt w K mg) : Good P w K mg base 2 "_law_moved" ["_law_table_here", "_law_word", "_law_shift", "_law_many"] (fun vs H Q _ => ∃ p s n f t u v, vs = [.ref p, .str (Tn.str t), .ref s, .int n] ∧ TabO H p n f ∧ Tor f n ∧ 0 < n ∧ Pr K H s u v ∧
    ∀ p' H', Same H H' → H p' = none → TabO H' p' n (movd t u v f) → Q (.ref p') H') := by
  refine good_mk (d := d__law_moved) T.d__law_moved rfl rfl T.g__law_moved sc_mv
    (fun _ _ _ _ _ _ us hl => match us, hl with | [_, _, _, _], _ => rfl) (fun vs H Q E h => ?_) (fun f0 cdv A outer st H vs Q E hr h => ?_)
  · obtain ⟨p, s, n, f, t, u, v, rfl, _⟩ := h
    rfl
  · obtain ⟨p, s, n, f, t, u, v, rfl, ⟨kvs, hp, ht⟩, htor, hn, hs, q⟩ := h
    have nd := sc_mv.nd
    refine ⟨_, (pss_one (ps_ret (pe_callTy (call_dictT rfl (un64 hr)) (by rfl) T.f_dict b_dict (pa_cons (pe_lock (pe_lc (own := [("_law_cell", 4)]) rfl nd (pi_keys (pv 0)) (blkOk_by (own := [("_law_cell", 4)]) (N := ["_law_table_here", "_law_word", "_law_shift", "_law_many", "_law_cell"]) (sc := d__law_moved.scope) (by decide +kernel)) (fun _ _ _ _ _ => (pg_name (i := 4) nd rfl (Or.inl rfl))) (fun _ _ _ _ _ => pts_nil)
      (fun _ _ _ _ _ => (pe_tup (pa_cons (pe_fn (ok_within T) hr (pa_cons (pe_fn (ok_led T) hr (pa_cons (pv 1) (pa_cons (pv 2) (pa_cons (pv 4) pa_nil)))) (pa_cons (pv 3) pa_nil))) (pa_cons (pe_dget (un1 hr) (pv 0) (pv 4) (fun _ _ => rfl)) pa_nil)))))) pa_nil)))), ?_⟩
    refine ⟨p, _, hp, trivial, fun od => ?_⟩
    have hlk : (upd H p (.frz od (.dT kvs))) p = some (.frz od (.dT kvs)) := upd_same
    have hs1 := lock_pr (o := od) hp (fun _ z => by cases z) (fun _ _ z => by cases z) hs
    refine ⟨_, rfl, p, od, rfl, .inr ⟨kvs, hlk, fun D nD => ?_⟩⟩
    refine lc_run evoSame (J := Itkt p od kvs) kvs.length (fun _ => true) (fun i y H => DEnt H (newkv t u v n (kvs.getD i ([], .non))) y) nD (Nat.le_trans ht.len (by decide)) (fun i H hi e => ⟨e _ _ hlk, hi⟩) (fun H e => ⟨e _ _ hlk, Nat.le_refl _⟩) (fun i y H H' e h => h.kp e) (fun i x H2 H3 Kc Kn hi e2 hy hc _ => ?_) (fun H2 zs e2 hD al => ?_)
    · obtain ⟨rfl, k, v0, q0, hk, rfl, hq⟩ := hy
      obtain ⟨x, y, hr0, ek, ev⟩ := ht.ent (k, v0) (List.mem_of_getElem? hk)
      simp only at ek ev
      subst ek ev
      rw [getD_at hk] at hc
      have hq' : H3 q0 = some (.tup [.int x, .int y]) := hq
      refine ⟨rfl, _, rfl, _, rfl, _, rfl, t, s, q0, u, v, x, y, rfl, sqT_same e2 hs1, SqT.of hq', fun z H4 e4 nz hz => ?_⟩
      refine ⟨_, rfl, z, t.lx x y + u, t.ly x y + v, n, rfl, SqT.of hz, hn, fun z2 hz2 => ?_⟩
      have e5 := same_new (o := .tup [.int ((t.lx x y + u) % n), .int ((t.ly x y + v) % n)]) hz2
      have e45 := e4.trans e5
      refine ⟨_, rfl, _, rfl, p, cv f x y, rfl, ?_, two_le, fun z3 hz3 => ?_⟩
      · rw [← ht.at_ _ _ hr0]
        exact .inr ⟨kvs, ck x y, q0, .inr ⟨od, e45 _ _ (e2 _ _ hlk)⟩, rfl, e45 _ _ hq', rfl⟩
      · have e6 := same_new (o := .tup [.ref z2, cv f x y]) hz3
        exact hc _ _ rfl (e45.trans e6) ⟨z3, z2, rfl, upd_same, e6 _ _ upd_same⟩
    · unfold Al at al
      rw [filter_yes] at al
      refine ⟨e2 _ _ hlk, ?_⟩
      have hDp : D ≠ p := fun z => by rw [z, hlk] at nD; cases nD
      have al1 : Paired (fun i y => DEnt (upd H2 p (.dT kvs)) (newkv t u v n (kvs.getD i ([], .non))) y) (List.range kvs.length) zs := paired_imp (fun i y ⟨r, b, h1, h2, h3⟩ => ⟨r, b, h1,
        by rw [upd_ne (fun z => by rw [z, e2 _ _ hlk] at h2; cases h2)]; exact h2, by rw [upd_ne (fun z => by rw [z, e2 _ _ hlk] at h3; cases h3)]; exact h3⟩) al
      have al2 := paired_map (F := DEnt (upd H2 p (.dT kvs))) (fun i => newkv t u v n (kvs.getD i ([], .non))) al1
      have em : ((List.range kvs.length).map fun i => newkv t u v n (kvs.getD i ([], .non))) = kvs.map (newkv t u v n) := by
        conv => rhs; rw [← range_getD kvs ([], .non)]
        rw [List.map_map]
        rfl
      rw [em] at al2
      obtain ⟨ps, ez, hps⟩ := dents (K := K) al2
      have eu := unlock hp e2
      refine ⟨D, ps, _, rfl, SqL.of (by rw [upd_ne hDp, hD, ez]), hps, fun p' hp' => ?_⟩
      have e3 := same_new (o := .dT (mergeT [] (kvs.map (newkv t u v n)))) hp'
      exact q p' _ (eu.trans e3) (none_back eu hp') ⟨_, upd_same, tabK_moved hn htor ht t u v⟩
end
end K84
set_option Elab.async false
set_option linter.all false
set_option maxRecDepth 100000
set_option maxHeartbeats 1000000
/-! the law's own defs: the lattice, the form -/
namespace K84
open PySem PySem.Spec PyProof.Rows L2
theorem head_filter {n i : Nat} {p : Nat → Bool} {r : List Nat} (h : (List.range n).filter p = i :: r) : p i = true ∧ i < n ∧ ∀ j, j < i → p j = false := by
  have h2 : (List.range n).find? p = some i := by rw [← List.head?_filter, h]; rfl
  rw [List.find?_range_eq_some] at h2
  obtain ⟨a, b, c⟩ := h2
  exact ⟨a, List.mem_range.mp b, fun j hj => by simpa using c j hj⟩
/-- the period's test -/
noncomputable def perB (f : Int → Int → Nat) (u v : Int) : Bool := @decide (IsPer f u v) (Classical.propDecidable _)
theorem perB_iff {f : Int → Int → Nat} {u v : Int} : perB f u v = true ↔ IsPer f u v := by
  unfold perB
  exact @decide_eq_true_iff _ (Classical.propDecidable _)
theorem perB_eq {f : Int → Int → Nat} {u v : Int} {b : Bool} (h : b = true ↔ IsPer f u v) : b = perB f u v := by
  rw [Bool.eq_iff_iff, h, perB_iff]
section
variable {P : Program} {w : World} {K : PySem.W.Frag} {mg : Str → Option Value} {base : Heap}
theorem sc_ll2 : FnScope ["_law_table_here", "_law_many", "_law_a", "_law_d", "_law_fits", "_law_x"] ["_law_table_here", "_law_many"] d__law_lattice.scope := ⟨rfl, rfl, rfl, by decide +kernel, rfl, by decide +kernel, by decide +kernel⟩
theorem ok_l_lattice (T : Txt w K mg) : Good P w K mg base 3 "_law_lattice" ["_law_table_here", "_law_many"] (fun vs H Q _ => ∃ (p : Addr) (n : Nat) (f : Int → Int → Nat), vs = [.ref p, .int (n : Int)] ∧ TabO H p (n : Int) f ∧ Tor f (n : Int) ∧ 0 < n ∧ n ≤ 12 ∧
    ∀ l H' A B D, Same H H' → H' l = some (.tup [.int A, .int B, .int D]) → LeastOf f A B D → A ≤ n → D ≤ n → Q (.ref l) H') := by
  refine good_mk (d := d__law_lattice) T.d__law_lattice rfl rfl T.g__law_lattice sc_ll2
    (fun _ _ _ _ _ _ us hl => match us, hl with | [_, _], _ => rfl) (fun vs H Q E h => ?_) (fun f0 cdv Ar outer st H vs Q E hr h => ?_)
  · obtain ⟨p, n, f, rfl, _⟩ := h
    rfl
  · obtain ⟨p, n, f, rfl, hp, htor, hn, hn12, q⟩ := h
    have nd := sc_ll2.nd
    refine ⟨_, (pss_cons (ps_set (i := 2) nd rfl (by first | exact Or.inl rfl | exact Or.inr rfl) (pe_ix ix_list (pe_lc (own := [("_law_x", 5)]) rfl nd (pi_range2 (by rfl) T.f_range (pa_cons pe_int (pa_cons (pe_op op_add (pv 1) pe_int) pa_nil))) (blkOk_by (own := [("_law_x", 5)]) (N := ["_law_table_here", "_law_many", "_law_a", "_law_d", "_law_fits", "_law_x"]) (sc := d__law_lattice.scope) (by decide +kernel)) (fun _ _ _ _ _ => (pg_name (i := 5) nd rfl (Or.inl rfl))) (fun _ _ _ _ _ => pts_one (PW.pt (pw_and (pt_cmpR op_eq (pe_op op_mod (pe_callTy call_int1 (by rfl) T.f_int b_int (pa_cons (pv 1) pa_nil)) (pv 5)) pe_int (nomark _)) (pw_and1 (pt_val (pe_fn (ok_again T) hr (pa_cons (pv 0) (pa_cons (pe_tup (pa_cons (pv 5) (pa_cons pe_int pa_nil))) (pa_cons (pv 1) pa_nil))))))))) (fun _ _ _ _ _ => (pv 5))) pe_int (fun _ _ => rfl)))
      (pss_cons (ps_for PassesOwn.never rfl (pi_range2 (by rfl) T.f_range (pa_cons pe_int (pa_cons (pe_op op_add (pv 1) pe_int) pa_nil))) (pg_name (i := 3) nd rfl (by first | exact Or.inl rfl | exact Or.inr rfl))
        (pss_cons (ps_setLc (i := 4) (own := [("_law_x", 5)]) rfl nd rfl rfl rfl (pi_range1 (by rfl) T.f_range (pa_cons (pv 2) pa_nil)) (blkOk_by (own := [("_law_x", 5)]) (N := ["_law_table_here", "_law_many", "_law_a", "_law_d", "_law_fits", "_law_x"]) (sc := d__law_lattice.scope) (by decide +kernel)) (fun _ _ _ _ _ => (pg_name (i := 5) nd rfl (Or.inl rfl))) (fun _ _ _ _ _ => pts_one (pt_val (pe_fn (ok_again T) hr (pa_cons (pv 0) (pa_cons (pe_tup (pa_cons (pv 5) (pa_cons (pv 3) pa_nil))) (pa_cons (pv 1) pa_nil)))))) (fun _ _ _ _ _ => (pv 5)))
        (pss_one (ps_if (pt_cmpR (op_neEmpty hr.units0) (pv 4) (pe_lst pa_nil) (nomark _)) (pss_one (ps_ret (pe_tup (pa_cons (pv 2) (pa_cons (pe_ix ix_list (pv 4) pe_int (fun _ _ => rfl)) (pa_cons (pv 3) pa_nil)))))) pss_nil))))
      (pss_one (ps_ret pe_non)))), ?_⟩
    have bd : -(2 ^ 62) ≤ (1 : Int) ∧ (1 : Int) < 2 ^ 62 ∧ -(2 ^ 62) ≤ ((n : Nat) : Int) + 1 ∧ ((n : Nat) : Int) + 1 < 2 ^ 62 := by omega
    have en : ((n : Int) + 1 - 1).toNat = n := by omega
    refine ⟨_, rfl, _, _, rfl, rfl, _, _, rfl, bd, fun D nD => ?_⟩
    rw [en]
    refine lcR evoSame (lo := 1) (n := n) (fun i => decide ((n : Int) % (1 + (i : Int)) = 0) && perB f (1 + (i : Int)) 0) (fun i y _ => y = .int (1 + (i : Int))) nD (by omega) (fun _ _ _ _ _ h => h) (fun i H2 Kc Kn hi e2 hc hno => ?_) (fun H2 ys e2 hD al => ?_)
    · refine ⟨rfl, _, rfl, .inl ⟨_, rfl, _, rfl, _, _, rfl, rfl, show (0 : Int) < 1 + (i : Int) by omega, rfl, _, rfl, ?_⟩⟩
      by_cases h0 : (n : Int) % (1 + (i : Int)) = 0
      · rw [show decide (V.int ((n : Int) % (1 + (i : Int))) = V.int 0) = true from decide_eq_true (by rw [h0])]
        refine iteT ⟨_, rfl, _, rfl, two_le, fun z hz => ?_⟩
        have e3 := same_new (o := .tup [.int (1 + (i : Int)), .int 0]) hz
        refine ⟨_, rfl, p, z, (n : Int), f, 1 + (i : Int), 0, rfl, hp.same (e2.trans e3), htor, by omega, SqT.of upd_same, fun b H4 e4 hb => ⟨_, rfl, ?_⟩⟩
        have eb := perB_eq hb
        cases b with
        | true => exact iteT ⟨_, rfl, hc _ _ (by rw [decide_eq_true h0, ← eb]; rfl) (e3.trans e4) rfl⟩
        | false => exact iteF (hno _ (by rw [← eb]; simp) (e3.trans e4))
      · rw [show decide (V.int ((n : Int) % (1 + (i : Int))) = V.int 0) = false from decide_eq_false (fun z => h0 (V.int.inj z))]
        exact iteF (iteF (hno _ (by rw [decide_eq_false h0]; rfl) (Same.refl _)))
    · have ey := al.eq (v := fun i => V.int (1 + (i : Int))) fun _ _ h => h
      cases hfl : (List.range n).filter (fun i : Nat => decide ((n : Int) % (1 + (i : Int)) = 0) && perB f (1 + (i : Int)) 0) with
      | nil =>
        exfalso
        have := List.filter_eq_nil_iff.mp hfl (n - 1) (List.mem_range.mpr (by omega))
        apply this
        rw [show (1 : Int) + ((n - 1 : Nat) : Int) = (n : Int) by omega, Int.emod_self, perB_iff.mpr htor.1]
        rfl
      | cons i0 rest =>
        rw [hfl] at ey
        obtain ⟨k1, k2, k3⟩ := head_filter hfl
        rw [Bool.and_eq_true, decide_eq_true_iff, perB_iff] at k1
        obtain ⟨k1a, k1b⟩ := k1
        obtain ⟨A, hA⟩ : ∃ A : Int, A = 1 + (i0 : Int) := ⟨_, rfl⟩
        rw [← hA] at k1a k1b
        have hAn : A ≤ n := by omega
        have hA1 : 1 ≤ A := by omega
        have lmin : ∀ r : Int, 0 < r → IsPer f r 0 → A ≤ r := fun r r0 pr => level_least (a := (n : Int)) (by omega) htor.1 (fun A' a1 a2 a3 => by
          by_cases hlt : A ≤ A'
          · exact hlt
          · exfalso
            have := k3 (A' - 1).toNat (by omega)
            rw [show (1 : Int) + ((A' - 1).toNat : Int) = A' by omega, Int.emod_eq_zero_of_dvd a2, perB_iff.mpr a3] at this
            simp at this) r.toNat r (Nat.le_refl _) r0 pr
        have liff := level_iff hA1 k1b lmin
        refine ⟨D, _, 0, V.int A, rfl, rfl, SqL.of hD, by rw [ey, hA]; exact atI_of (by decide) rfl, ?_⟩
        refine ⟨_, rfl, _, _, rfl, rfl, _, _, rfl, bd, ?_⟩
        rw [en]
        refine for_range (lo := 1) (n := n) (fun i σ H3 => ∃ dv fv, σ = [some (.ref p), some (.int (n : Int)), some (.int A), dv, fv, none] ∧ Same H H3 ∧ ∀ j : Nat, j < i → ∀ x : Int, ¬ IsPer f x (1 + (j : Int)))
          ⟨none, none, rfl, e2, fun j hj => absurd hj (Nat.not_lt_zero _)⟩ ?_ ?_
        · rintro i σ H3 hi ⟨dv, fv, rfl, e3, hno⟩
          refine ⟨_, rfl, _, rfl, by omega, by omega, fun D2 nD2 => ?_⟩
          refine lcR evoSame (lo := 0) (n := A.toNat) (fun x => perB f (x : Int) (1 + (i : Int))) (fun x y _ => y = .int (x : Int)) nD2 (by omega) (fun _ _ _ _ _ h => h) (fun x H4 Kc Kn hx e4 hc hn4 => ?_) (fun H4 zs e4 hD2 al2 => ?_)
          · refine ⟨rfl, _, rfl, _, rfl, _, rfl, two_le, fun z hz => ?_⟩
            have e5 := same_new (o := .tup [.int (0 + (x : Int)), .int (1 + (i : Int))]) hz
            refine ⟨_, rfl, p, z, (n : Int), f, 0 + (x : Int), 1 + (i : Int), rfl, hp.same (e3.trans (e4.trans e5)), htor, by omega, SqT.of upd_same, fun b H5 e6 hb => ⟨_, rfl, ?_⟩⟩
            have eb := perB_eq hb
            rw [Int.zero_add] at eb
            cases b with
            | true => exact iteT ⟨_, rfl, hc _ _ eb.symm (e5.trans e6) (by rw [Int.zero_add])⟩
            | false => exact iteF (hn4 _ eb.symm (e5.trans e6))
          · have ez := al2.eq (v := fun x => V.int (x : Int)) fun _ _ h => h
            refine ⟨_, rfl, Nat.zero_le _, fun el hel => ⟨D2, el, zs, rfl, rfl, SqL.of (same_new hel _ _ hD2), SqL.of upd_same, _, rfl, ?_⟩⟩
            have e7 := e3.trans (e4.trans (same_new (o := .lst []) hel))
            have hD7 := same_new (o := .lst []) hel _ _ hD2
            cases hfl2 : (List.range A.toNat).filter (fun x : Nat => perB f (x : Int) (1 + (i : Int))) with
            | nil =>
              rw [hfl2] at ez
              rw [ez, show decide ((List.map (fun x : Nat => V.int (x : Int)) []) = []) = true from rfl]
              refine iteF ⟨_, _, rfl, e7, fun j hj x px => ?_⟩
              by_cases hji : j = i
              · subst hji
                have pm : IsPer f (x % A) (1 + (j : Int)) := (px.sub (k1b.mul (x / A))).cast (by have := Int.emod_add_mul_ediv x A; rw [Int.mul_comm A] at this; omega) (by omega)
                have n2 := Int.emod_nonneg x (show A ≠ 0 by omega)
                have l2 := Int.emod_lt_of_pos x (show 0 < A by omega)
                have := List.filter_eq_nil_iff.mp hfl2 (x % A).toNat (List.mem_range.mpr (by omega))
                apply this
                rw [Int.toNat_of_nonneg n2]
                exact perB_iff.mpr pm
              · exact hno j (by omega) x px
            | cons x0 rest2 =>
              rw [hfl2] at ez
              obtain ⟨m1, m2, m3⟩ := head_filter hfl2
              rw [ez, show decide ((List.map (fun x : Nat => V.int (x : Int)) (x0 :: rest2)) = []) = false from rfl]
              have hle : LeastOf f A (x0 : Int) (1 + (i : Int)) := leastOf_intro hA1 (by omega) (by omega) (by omega) liff (perB_iff.mp m1) (fun x y hy pxy => by
                by_cases hlt : 1 + (i : Int) ≤ y
                · exact hlt
                · exfalso
                  have := hno (y - 1).toNat (by omega) x
                  rw [show (1 : Int) + ((y - 1).toNat : Int) = y by omega] at this
                  exact this pxy)
              rw [ez] at hD7
              refine iteT ⟨_, rfl, _, rfl, D2, _, 0, V.int (x0 : Int), rfl, rfl, SqL.of hD7, atI_of (by decide) rfl, _, rfl, (by show 3 ≤ sizeLine; decide), fun l hl => ?_⟩
              exact q l _ A (x0 : Int) (1 + (i : Int)) (e7.trans (same_new hl)) upd_same hle hAn (by omega)
        · rintro σ H3 ⟨dv, fv, rfl, e3, hno⟩
          exfalso
          refine hno (n - 1) (by omega) 0 ?_
          rw [show (1 : Int) + ((n - 1 : Nat) : Int) = (n : Int) by omega]
          exact htor.2
end
end K84
set_option Elab.async false
set_option linter.all false
set_option maxRecDepth 100000
set_option maxHeartbeats 1000000
/-! the law's own defs: form, less -/
namespace K84
open PySem PySem.Spec PyProof.Rows L2
open PySem.W (dataLt alike alikeAll keyToks keyToksAll)
section
variable {P : Program} {w : World} {K : PySem.W.Frag} {mg : Str → Option Value} {base : Heap}
theorem sc_fo : FnScope ["_law_table_here", "_law_lattice_here", "_law_shift", "_law_many", "_law_a", "_law_b", "_law_d", "_law_rows", "_law_y", "_law_row", "_law_x"] ["_law_table_here", "_law_lattice_here", "_law_shift", "_law_many"] d__law_form.scope := ⟨rfl, rfl, rfl, by decide +kernel, rfl, by decide +kernel, by decide +kernel⟩
theorem ok_l_form (T : Txt w K mg) : Good P w K mg base 2 "_law_form" ["_law_table_here", "_law_lattice_here", "_law_shift", "_law_many"] (fun vs H Q _ => ∃ p l s n f A B D u v, vs = [.ref p, .ref l, .ref s, .int n] ∧ TabO H p n f ∧ Tor f n ∧ 0 < n ∧ (∀ x y, 48 ≤ f x y ∧ f x y ≤ 57) ∧
    SqT K H l [.int A, .int B, .int D] ∧ BasS A B D ∧ Pr K H s u v ∧ ∀ r H', Same H H' → FmAt H' r (A, B, D, rowsS (movd .stay u v f) A.toNat D.toNat) → Q (.ref r) H') := by
  refine good_mk (d := d__law_form) T.d__law_form rfl rfl T.g__law_form sc_fo
    (fun _ _ _ _ _ _ us hl => match us, hl with | [_, _, _, _], _ => rfl) (fun vs H Q E h => ?_) (fun f0 cdv Ar outer st H vs Q E hr h => ?_)
  · obtain ⟨p, l, s, n, f, A, B, D, u, v, rfl, _⟩ := h
    rfl
  · obtain ⟨p, l, s, n, f, A, B, D, u, v, rfl, hp, htor, hn, hrg, hl, ⟨⟨h1, h2, h3, h4⟩, h5, h6⟩, hs, q⟩ := h
    have nd := sc_fo.nd
    refine ⟨_, (pss_cons (ps_asg (pv 1) (pg_tup rfl (pgs_cons (pg_name (i := 4) nd rfl (by first | exact Or.inl rfl | exact Or.inr rfl)) (pgs_cons (pg_name (i := 5) nd rfl (by first | exact Or.inl rfl | exact Or.inr rfl)) (pgs_cons (pg_name (i := 6) nd rfl (by first | exact Or.inl rfl | exact Or.inr rfl)) pgs_nil)))))
      (pss_cons (ps_set (i := 7) nd rfl (Or.inl rfl) (pe_lst pa_nil))
      (pss_cons (ps_for PassesOwn.never rfl (pi_range1 (by rfl) T.f_range (pa_cons (pv 6) pa_nil)) (pg_name (i := 8) nd rfl (by first | exact Or.inl rfl | exact Or.inr rfl))
        (pss_cons (ps_setLc (i := 9) (own := [("_law_x", 10)]) rfl nd rfl rfl rfl (pi_range1 (by rfl) T.f_range (pa_cons (pv 4) pa_nil)) (blkOk_by (own := [("_law_x", 10)]) (N := ["_law_table_here", "_law_lattice_here", "_law_shift", "_law_many", "_law_a", "_law_b", "_law_d", "_law_rows", "_law_y", "_law_row", "_law_x"]) (sc := d__law_form.scope) (by decide +kernel)) (fun _ _ _ _ _ => (pg_name (i := 10) nd rfl (Or.inl rfl))) (fun _ _ _ _ _ => pts_nil)
            (fun _ _ _ _ _ => (pe_callTy call_str_int (by rfl) T.f_str b_str (pa_cons (pe_dget (un1 hr) (pv 0) (pe_fn (ok_within T) hr (pa_cons (pe_tup (pa_cons (pe_op op_sub (pv 10) (pe_ix (ix_tupK (K := K) rfl) (pv 2) pe_int (fun _ _ => rfl))) (pa_cons (pe_op op_sub (pv 8) (pe_ix (ix_tupK (K := K) rfl) (pv 2) pe_int (fun _ _ => rfl))) pa_nil))) (pa_cons (pv 3) pa_nil))) (fun _ _ => rfl)) pa_nil))))
        (pss_one (ps_expr (pe_bm PySem.F.plainAttrs_list PySem.F.slot_list_append PySem.F.type_list_append mt_append (pv 7) (pa_cons (pe_join pe_str (pv 9)) pa_nil))))))
      (pss_one (ps_ret (pe_tup (pa_cons (pv 4) (pa_cons (pv 5) (pa_cons (pv 6) (pa_cons (pe_callTy call_tuple_of (by rfl) T.f_tuple b_tuple (pa_cons (pv 7) pa_nil)) pa_nil)))))))))), ?_⟩
    refine ⟨_, rfl, l, _, rfl, hl, rfl, _, _, rfl, _, _, rfl, _, _, rfl, rfl, ?_⟩
    refine ⟨Nat.zero_le _, fun rl hrl => ?_⟩
    refine ⟨_, rfl, _, rfl, by omega, by omega, for_range (lo := 0) (n := D.toNat)
      (fun i σ H2 => ∃ y r, σ = [some (.ref p), some (.ref l), some (.ref s), some (.int n), some (.int A), some (.int B), some (.int D), some (.ref rl), y, r, none] ∧ Same H H2 ∧ H2 rl = some (.lst (((List.range i).map fun j => rowS (movd .stay u v f) A.toNat ((j : Nat) : Int)).map V.str)))
      ⟨none, none, rfl, same_new hrl, upd_same⟩ ?_ ?_⟩
    · rintro i σ H2 hi ⟨y, r, rfl, e2, hp2⟩
      refine ⟨_, rfl, _, rfl, by omega, by omega, fun Dd nD => ?_⟩
      refine lcR evoSame (lo := 0) (n := A.toNat) (fun _ => true) (fun k y _ => y = .str (sg (movd .stay u v f ((k : Nat) : Int) ((i : Nat) : Int)))) nD (by omega) (fun _ _ _ _ _ h => h) (fun j H3 Kc Kn hj e4 hc _ => ?_) (fun H3 ys e4 hD al => ?_)
      · have hs3 := sqT_same (e2.trans e4) hs
        obtain ⟨kvs, hp3, ht⟩ := hp.same (e2.trans e4)
        refine ⟨rfl, _, rfl, _, rfl, _, rfl, _, _, _, _, rfl, rfl, hs3, rfl, _, _, rfl, rfl, _, rfl, _, rfl, _, _, _, _, rfl, rfl, hs3, rfl, _, _, rfl, rfl, two_le, fun z hz => ?_⟩
        have e5 := same_new (o := .tup [.int (0 + (j : Int) - u), .int (0 + (i : Int) - v)]) hz
        refine ⟨_, rfl, z, _, _, n, rfl, SqT.of upd_same, hn, fun z2 hz2 => ?_⟩
        have e6 := e5.trans (same_new (o := .tup [.int ((0 + (j : Int) - u) % n), .int ((0 + (i : Int) - v) % n)]) hz2)
        refine ⟨p, cv f ((0 + (j : Int) - u) % n) ((0 + (i : Int) - v) % n), rfl, ?_, ?_⟩
        · rw [← ht.at_ _ _ (inR_mod hn (0 + (j : Int) - u) (0 + (i : Int) - v))]
          exact .inr ⟨kvs, ck _ _, z2, .inl (e6 _ _ hp3), rfl, upd_same, rfl⟩
        · have hr1 := hrg ((0 + (j : Int) - u) % n) ((0 + (i : Int) - v) % n)
          refine ⟨_, rfl, int_log hr1.1 hr1.2, hc _ _ rfl e6 ?_⟩
          rw [str_sg hr1.1 hr1.2, htor.at_, Int.zero_add, Int.zero_add]
          rfl
      · have ey := al.eq (v := fun k => V.str (sg (movd .stay u v f ((k : Nat) : Int) ((i : Nat) : Int)))) fun _ _ h => h
        rw [filter_yes, map_sgV] at ey
        refine ⟨_, rfl, .inl ⟨rfl, _, SqL.of (e4 _ _ hp2)⟩, ⟨_, rfl⟩, _, rfl, _, Dd, _, rfl, rfl, .inl (SqL.of (by rw [hD, ey])), sg_sum (by omega), ?_⟩
        refine ⟨rl, _, _, rfl, rfl, e4 _ _ hp2, ?_, ?_⟩
        · rw [List.length_map, List.length_map, List.length_range]
          exact Nat.lt_of_lt_of_le (show i < 1000 by omega) (by decide)
        · refine ⟨_, _, rfl, evoSame.put (e2.trans e4) hrl (e4 _ _ hp2), ?_⟩
          rw [upd_same, join_sg, List.range_succ, List.map_append, List.map_append]
          rfl
    · rintro σ H2 ⟨y, r, rfl, e2, hp2⟩
      refine ⟨_, rfl, _, rfl, _, rfl, _, rfl, rl, _, rfl, .inl ⟨SqL.of hp2, fun z hz => ⟨(by show 4 ≤ sizeLine; decide), fun z2 hz2 => ?_⟩⟩⟩
      have e3 := same_new (o := .tup (((List.range D.toNat).map fun j => rowS (movd .stay u v f) A.toNat ((j : Nat) : Int)).map V.str)) hz
      have e4 := same_new (o := .tup [.int A, .int B, .int D, .ref z]) hz2
      exact q z2 _ (e2.trans (e3.trans e4)) ⟨z, upd_same, e4 _ _ upd_same⟩
/-! ### less -/
theorem dp_intsL {H : Hp} {a : Addr} {ns : List Int} (h : SqL K H a (ns.map V.int)) : Dp K H (.ref a) (.list (ns.map .int)) := .lst h (dpa_ints ns)
theorem dp_strsL {H : Hp} {a : Addr} {ns : List Str} (h : SqL K H a (ns.map V.str)) : Dp K H (.ref a) (.list (ns.map .str)) := .lst h (dpa_strs ns)
theorem fLt_or (F G : Fm) : fLt F G = (bLt F G || (decide ([F.1, F.2.1, F.2.2.1] = [G.1, G.2.1, G.2.2.1]) && sLt F.2.2.2 G.2.2.2)) := by
  unfold fLt bLt
  by_cases h1 : F.1 = G.1
  · by_cases h2 : F.2.1 = G.2.1
    · by_cases h3 : F.2.2.1 = G.2.2.1
      · simp [h1, h2, h3]
      · simp [h1, h2, h3]
    · simp [h1, h2]
  · simp [h1]
theorem ok_less (T : Txt w K mg) : Good P w K mg base 1 "_law_less" ["_law_one", "_law_other"] (fun vs H Q _ => ∃ p r F G, vs = [.ref p, .ref r] ∧ FmAt H p F ∧ FmAt H r G ∧ ∀ H', Same H H' → Q (.bl (fLt F G)) H') := by
  refine good_mk (d := d__law_less) (N := ["_law_one", "_law_other"]) T.d__law_less rfl rfl T.g__law_less ⟨rfl, rfl, rfl, by decide +kernel, rfl, by decide +kernel, by decide +kernel⟩
    (fun _ _ _ _ _ _ us hl => match us, hl with | [_, _], _ => rfl) (fun vs H Q E h => ?_) (fun f0 cdv Ar outer st H vs Q E hr h => ?_)
  · obtain ⟨p, r, F, G, rfl, _⟩ := h
    rfl
  · obtain ⟨p, r, F, G, rfl, hF, hG, q⟩ := h
    refine ⟨_, (pss_one (ps_ret (pe_or (pe_cmpR (op_ltD (un64 hr)) (pe_callTy call_list_of (by rfl) T.f_list b_list (pa_cons (pe_slice sl_tup (pv 0) po_none (po_some pe_int)) pa_nil)) (pe_callTy call_list_of (by rfl) T.f_list b_list (pa_cons (pe_slice sl_tup (pv 1) po_none (po_some pe_int)) pa_nil)) (nomark _))
      (pe_one (pe_and (pe_cmpR (op_eqD (un64 hr)) (pe_slice sl_tup (pv 0) po_none (po_some pe_int)) (pe_slice sl_tup (pv 1) po_none (po_some pe_int)) (nomark _)) (pe_one (pe_cmpR (op_ltD (un64 hr)) (pe_callTy call_list_of (by rfl) T.f_list b_list (pa_cons (pe_ix ix_tup (pv 0) pe_int (fun _ _ => rfl)) pa_nil)) (pe_callTy call_list_of (by rfl) T.f_list b_list (pa_cons (pe_ix ix_tup (pv 1) pe_int (fun _ _ => rfl)) pa_nil)) (nomark _)))))))), ?_⟩
    obtain ⟨rF, hF1, hF2⟩ := id hF
    obtain ⟨rG, hG1, hG2⟩ := id hG
    refine ⟨_, rfl, _, rfl, p, _, rfl, SqT.of hF1, cut3, fun c1 n1 => ?_⟩
    have e1 : Same H (upd H c1 (.tup [.int F.1, .int F.2.1, .int F.2.2.1])) := same_new n1
    refine ⟨c1, _, rfl, .inr (SqT.of upd_same), fun l1 m1 => ?_⟩
    have e2 := e1.trans (same_new (o := .lst [.int F.1, .int F.2.1, .int F.2.2.1]) m1)
    refine ⟨_, rfl, _, rfl, r, _, rfl, SqT.of (e2 _ _ hG1), cut3, fun c2 n2 => ?_⟩
    have s3 := same_new (o := .tup [.int G.1, .int G.2.1, .int G.2.2.1]) n2
    have e3 := e2.trans s3
    refine ⟨c2, _, rfl, .inr (SqT.of upd_same), fun l2 m2 => ?_⟩
    have s4 := same_new (o := .lst [.int G.1, .int G.2.1, .int G.2.2.1]) m2
    have e4 := e3.trans s4
    refine ⟨_, _, dp_intsL (ns := [F.1, F.2.1, F.2.2.1]) (SqL.of (s4 _ _ (s3 _ _ upd_same))), dp_intsL (ns := [G.1, G.2.1, G.2.2.1]) (SqL.of upd_same), by simp [alike, alikeAll], (fun z => by cases z), ?_, ?_⟩
    · refine Nat.le_trans (Nat.min_le_left _ _) ?_
      rw [PyData.depth, dep_ints]
      decide
    · rw [PySem.W.dataLt_list, show PyProof.Rows.lexLt PyProof.Rows.itemOrd (keyToksAll ([F.1, F.2.1, F.2.2.1].map .int)) (keyToksAll ([G.1, G.2.1, G.2.2.1].map .int)) = bLt F G from iLt3 F G]
      have eq := fLt_or F G
      refine ⟨_, rfl, ?_⟩
      cases hb : bLt F G with
      | true =>
        rw [hb] at eq
        rw [eq] at q
        exact iteT (q _ e4)
      | false =>
        rw [hb, Bool.false_or] at eq
        refine iteF ?_
        refine ⟨_, rfl, _, rfl, p, _, rfl, SqT.of (e4 _ _ hF1), cut3, fun c3 n3 => ?_⟩
        have s5 := same_new (o := .tup [.int F.1, .int F.2.1, .int F.2.2.1]) n3
        have e5 := e4.trans s5
        refine ⟨_, rfl, _, rfl, r, _, rfl, SqT.of (e5 _ _ hG1), cut3, fun c4 n4 => ?_⟩
        have s6 := same_new (o := .tup [.int G.1, .int G.2.1, .int G.2.2.1]) n4
        have e6 := e5.trans s6
        refine ⟨_, _, dp_ints (ns := [F.1, F.2.1, F.2.2.1]) (SqT.of (s6 _ _ upd_same)), dp_ints (ns := [G.1, G.2.1, G.2.2.1]) (SqT.of upd_same), shp_ints _, shp_ints _, ?_⟩
        rw [eqv_ints]
        refine ⟨_, rfl, ?_⟩
        by_cases hE : ([F.1, F.2.1, F.2.2.1] : List Int) = [G.1, G.2.1, G.2.2.1]
        · rw [decide_eq_true hE] at eq ⊢
          rw [Bool.true_and] at eq
          refine iteT ?_
          refine ⟨_, rfl, _, _, _, _, rfl, rfl, SqT.of (e6 _ _ hF1), rfl, rF, _, rfl, .inr (SqT.of (e6 _ _ hF2)), fun l3 m3 => ?_⟩
          have s7 := same_new (o := .lst (F.2.2.2.map V.str)) m3
          have e7 := e6.trans s7
          refine ⟨_, rfl, _, _, _, _, rfl, rfl, SqT.of (e7 _ _ hG1), rfl, rG, _, rfl, .inr (SqT.of (e7 _ _ hG2)), fun l4 m4 => ?_⟩
          have s8 := same_new (o := .lst (G.2.2.2.map V.str)) m4
          refine ⟨_, _, dp_strsL (ns := F.2.2.2) (SqL.of (s8 _ _ upd_same)), dp_strsL (ns := G.2.2.2) (SqL.of upd_same), by rw [alike]; exact alike_strs _ _, (fun z => by cases z), ?_, ?_⟩
          · refine Nat.le_trans (Nat.min_le_left _ _) ?_
            rw [PyData.depth, dep_strs]
            decide
          · rw [PySem.W.dataLt_list]
            rw [eq] at q
            exact q _ (e7.trans s8)
        · rw [decide_eq_false hE] at eq ⊢
          rw [Bool.false_and] at eq
          rw [eq] at q
          exact iteF (q _ e6)
end
end K84
set_option Elab.async false
set_option linter.all false
set_option maxRecDepth 100000
set_option maxHeartbeats 1000000
/-! the law's own defs: leads, between, least_form -/
namespace K84
open PySem PySem.Spec PyProof.Rows L2
theorem rd_lock {H : Hp} {p p2 : Addr} {od : Obj} {kvs kvs2 : List (List L2.Key × V)} (h : H p = some (.dT kvs)) (h2 : H p2 = some (.dT kvs2)) {H' : Hp} (e : Same (upd H p (.frz od (.dT kvs))) H') : Rd H' p2 (.dT kvs2) := by
  by_cases z : p2 = p
  · subst z
    rw [h] at h2
    cases h2
    exact .inr ⟨od, e _ _ upd_same⟩
  · exact .inl (e _ _ ((upd_ne z).trans h2))
theorem leads_iff {f g : Int → Int → Nat} {n : Int} (hn : 0 < n) (hf : Tor f n) (hg : Tor g n) (t : Tn) (u v : Int) : movd t u v f = g ↔ ∀ x y, InR n x y → g ((t.lx x y + u) % n) ((t.ly x y + v) % n) = f x y := by
  constructor
  · intro h x y _
    rw [hg.at_, ← h]
    unfold movd
    rw [Int.add_sub_cancel, Int.add_sub_cancel, Tn.inv_lx, Tn.inv_ly]
  · intro h
    funext X Y
    have := h _ _ (inR_mod hn (t.inv.lx (X - u) (Y - v)) (t.inv.ly (X - u) (Y - v)))
    obtain ⟨l1, l2⟩ := lx_mod t n (t.inv.lx (X - u) (Y - v)) (t.inv.ly (X - u) (Y - v)) u v
    rw [l1, l2, hg.at_, hf.at_, Tn.lx_inv, Tn.ly_inv, Int.sub_add_cancel, Int.sub_add_cancel] at this
    exact this.symm
theorem okT_eq {f g : Int → Int → Nat} {t : Tn} {c : Int × Int} {b : Bool} (h : b = true ↔ movd t c.1 c.2 f = g) : b = okT f g t c := by
  rw [Bool.eq_iff_iff, h, okT_iff]
/-- a motion of the law's list -/
def LMot (H : Hp) (m : Tn × (Int × Int)) (y : V) : Prop := ∃ r s, y = .ref r ∧ H r = some (.tup [.str m.1.str, .ref s]) ∧ H s = some (.tup [.int m.2.1, .int m.2.2])
theorem LMot.kp {H H' : Hp} (e : Kp H H') {m : Tn × (Int × Int)} {y : V} (h : LMot H m y) : LMot H' m y := let ⟨r, s, a, b, c⟩ := h; ⟨r, s, a, e.tup b, e.tup c⟩
section
variable {P : Program} {w : World} {K : PySem.W.Frag} {mg : Str → Option Value} {base : Heap}
theorem sc_le : FnScope ["_law_one", "_law_word", "_law_shift", "_law_other", "_law_many", "_law_cell"] ["_law_one", "_law_word", "_law_shift", "_law_other", "_law_many"] d__law_leads.scope := ⟨rfl, rfl, rfl, by decide +kernel, rfl, by decide +kernel, by decide +kernel⟩
theorem ok_leads (T : Txt w K mg) : Good P w K mg base 2 "_law_leads" ["_law_one", "_law_word", "_law_shift", "_law_other", "_law_many"] (fun vs H Q _ => ∃ p t s p2 n f g u v, vs = [.ref p, .str (Tn.str t), .ref s, .ref p2, .int n] ∧ TabO H p n f ∧ TabO H p2 n g ∧ Tor f n ∧ Tor g n ∧ 0 < n ∧ Pr K H s u v ∧
    ∀ b H', Same H H' → (b = true ↔ movd t u v f = g) → Q (.bl b) H') := by
  refine good_mk (d := d__law_leads) T.d__law_leads rfl rfl T.g__law_leads sc_le
    (fun _ _ _ _ _ _ us hl => match us, hl with | [_, _, _, _, _], _ => rfl) (fun vs H Q E h => ?_) (fun f0 cdv A outer st H vs Q E hr h => ?_)
  · obtain ⟨p, t, s, p2, n, f, g, u, v, rfl, _⟩ := h
    rfl
  · obtain ⟨p, t, s, p2, n, f, g, u, v, rfl, ⟨kvs, hp, ht⟩, ⟨kvs2, hp2, ht2⟩, htf, htg, hn, hs, q⟩ := h
    have nd := sc_le.nd
    refine ⟨_, (pss_cons (ps_lock (ps_for PassesOwn.never rfl (pi_keys (pv 0)) (pg_name (i := 5) nd rfl (Or.inl rfl))
        (pss_one (ps_if (pt_cmpR op_ne (pe_dget (un1 hr) (pv 3) (pe_fn (ok_within T) hr (pa_cons (pe_fn (ok_led T) hr (pa_cons (pv 1) (pa_cons (pv 2) (pa_cons (pv 5) pa_nil)))) (pa_cons (pv 4) pa_nil))) (fun _ _ => rfl)) (pe_dget (un1 hr) (pv 0) (pv 5) (fun _ _ => rfl)) (nomark _)) (pss_one (ps_ret pe_bl)) pss_nil))))
      (pss_one (ps_ret pe_bl))), ?_⟩
    refine ⟨p, _, hp, trivial, fun od => ?_⟩
    have hlk : (upd H p (.frz od (.dT kvs))) p = some (.frz od (.dT kvs)) := upd_same
    have hs1 := lock_pr (o := od) hp (fun _ z => by cases z) (fun _ _ z => by cases z) hs
    refine ⟨_, rfl, p, od, rfl, .inr ⟨kvs, hlk, ?_⟩⟩
    refine for_it walk_keysT (fun i σ H2 => ∃ c, σ = [some (.ref p), some (.str t.str), some (.ref s), some (.ref p2), some (.int n), c] ∧ Same (upd H p (.frz od (.dT kvs))) H2 ∧ ∀ j kv x y, j < i → kvs[j]? = some kv → kv.1 = ck x y → g ((t.lx x y + u) % n) ((t.ly x y + v) % n) = f x y)
      ⟨none, rfl, Same.refl _, fun j _ _ _ h => absurd h (Nat.not_lt_zero _)⟩ (fun i σ H2 _ ⟨_, _, e2, _⟩ => e2 _ _ hlk) ?_ ?_
    · rintro i x σ H2 H3 hi ⟨c, rfl, e2, hok⟩ ⟨rfl, k, v0, q0, hk, rfl, hq⟩
      obtain ⟨x, y, hr0, ek, ev⟩ := ht.ent (k, v0) (List.mem_of_getElem? hk)
      simp only at ek ev
      subst ek ev
      have hq' : H3 q0 = some (.tup [.int x, .int y]) := hq
      have hd3 := e2 _ _ hlk
      refine ⟨_, rfl, _, rfl, _, rfl, _, rfl, t, s, q0, u, v, x, y, rfl, sqT_same e2 hs1, SqT.of hq', fun z H4 e4 nz hz => ?_⟩
      refine ⟨_, rfl, z, t.lx x y + u, t.ly x y + v, n, rfl, SqT.of hz, hn, fun z2 hz2 => ?_⟩
      have e5 := same_new (o := .tup [.int ((t.lx x y + u) % n), .int ((t.ly x y + v) % n)]) hz2
      have e45 := e4.trans e5
      refine ⟨p2, cv g ((t.lx x y + u) % n) ((t.ly x y + v) % n), rfl, ?_, ?_⟩
      · rw [← ht2.at_ _ _ (inR_mod hn (t.lx x y + u) (t.ly x y + v))]
        exact .inr ⟨kvs2, ck _ _, z2, rd_lock hp hp2 (e2.trans e45), rfl, upd_same, rfl⟩
      · refine ⟨_, rfl, _, rfl, p, cv f x y, rfl, ?_, rfl, _, rfl, ?_⟩
        · rw [← ht.at_ _ _ hr0]
          exact .inr ⟨kvs, ck x y, q0, .inr ⟨od, e45 _ _ hd3⟩, rfl, e45 _ _ hq', rfl⟩
        · by_cases he : g ((t.lx x y + u) % n) ((t.ly x y + v) % n) = f x y
          · rw [show decide (cv g ((t.lx x y + u) % n) ((t.ly x y + v) % n) = cv f x y) = true from decide_eq_true (by show V.int _ = V.int _; rw [he])]
            refine iteF ⟨_, rfl, e2.trans e45, fun j kv x' y' hj hkv hxy => ?_⟩
            by_cases hji : j = i
            · subst hji
              rw [hk] at hkv
              cases hkv
              injection hxy with z1 z2
              injection z2 with z2 _
              injection z1 with z1
              injection z2 with z2
              subst z1 z2
              exact he
            · exact hok j kv x' y' (by omega) hkv hxy
          · rw [show decide (cv g ((t.lx x y + u) % n) ((t.ly x y + v) % n) = cv f x y) = false from decide_eq_false (fun z => he (by injection z with z; omega))]
            refine iteT ⟨(e2.trans e45) _ _ hlk, q false _ (unlock hp (e2.trans e45)) ⟨fun z => (by cases z), fun z => absurd ((leads_iff hn htf htg t u v).mp z x y hr0) he⟩⟩
    · rintro σ H2 ⟨c, rfl, e2, hok⟩
      refine ⟨e2 _ _ hlk, q true _ (unlock hp e2) ⟨fun _ => (leads_iff hn htf htg t u v).mpr fun x y hxy => ?_, fun _ => rfl⟩⟩
      obtain ⟨kv, h1, h2⟩ := tabK_mem ht hxy
      obtain ⟨j, hj⟩ := List.getElem?_of_mem h1
      exact hok j kv x y (List.getElem?_eq_some_iff.mp hj).1 hj h2
theorem sc_bt : FnScope ["_law_one", "_law_other", "_law_many", "_law_found", "_law_shifts_here", "_law_word", "_law_shift"] ["_law_one", "_law_other", "_law_many"] d__law_between.scope := ⟨rfl, rfl, rfl, by decide +kernel, rfl, by decide +kernel, by decide +kernel⟩
theorem ok_between (T : Txt w K mg) : Good P w K mg base 4 "_law_between" ["_law_one", "_law_other", "_law_many"] (fun vs H Q _ => ∃ (p p2 : Addr) (n : Nat) (f g : Int → Int → Nat), vs = [.ref p, .ref p2, .int (n : Int)] ∧ TabO H p (n : Int) f ∧ TabO H p2 (n : Int) g ∧ Tor f (n : Int) ∧ Tor g (n : Int) ∧ 0 < n ∧ n ≤ 12 ∧
    ∀ l H' zs A B D, Same H H' → H' l = some (.lst zs) → LeastOf g A B D → Paired (LMot H') (msL f g A.toNat D.toNat) zs → Q (.ref l) H') := by
  refine good_mk (d := d__law_between) T.d__law_between rfl rfl T.g__law_between sc_bt
    (fun _ _ _ _ _ _ us hl => match us, hl with | [_, _, _], _ => rfl) (fun vs H Q E h => ?_) (fun f0 cdv Ar outer st H vs Q E hr h => ?_)
  · obtain ⟨p, p2, n, f, g, rfl, _⟩ := h
    rfl
  · obtain ⟨p, p2, n, f, g, rfl, hp, hp2, htf, htg, hn, hn12, q⟩ := h
    have nd := sc_bt.nd
    refine ⟨_, (pss_cons (ps_par (i := 3) (j := 4) rfl nd rfl rfl (by decide) rfl rfl (pa_cons (pe_lst pa_nil) (pa_cons (pe_fn (ok_shifts T) hr (pa_cons (pe_fn (ok_l_lattice T) hr (pa_cons (pv 1) (pa_cons (pv 2) pa_nil))) pa_nil)) pa_nil)) (by rfl))
      (pss_cons (ps_for PassesOwn.never rfl (pi_list (pe_fn0 (ok_l_turns T) hr)) (pg_name (i := 5) nd rfl (by first | exact Or.inl rfl | exact Or.inr rfl))
        (pss_one (ps_set (i := 3) nd rfl (Or.inl rfl) (pe_op op_cat (pv 3) (pe_lc (own := [("_law_shift", 6)]) rfl nd (pi_list (pv 4)) (blkOk_by (own := [("_law_shift", 6)]) (N := ["_law_one", "_law_other", "_law_many", "_law_found", "_law_shifts_here", "_law_word", "_law_shift"]) (sc := d__law_between.scope) (by decide +kernel)) (fun _ _ _ _ _ => (pg_name (i := 6) nd rfl (Or.inl rfl))) (fun _ _ _ _ _ => pts_one (pt_val (pe_fn (ok_leads T) hr (pa_cons (pv 0) (pa_cons (pv 5) (pa_cons (pv 6) (pa_cons (pv 1) (pa_cons (pv 2) pa_nil)))))))) (fun _ _ _ _ _ => (pe_tup (pa_cons (pv 5) (pa_cons (pv 6) pa_nil)))))))))
      (pss_one (ps_ret (pv 3))))), ?_⟩
    refine ⟨Nat.zero_le _, fun fl0 nfl0 => ?_⟩
    have e0 : Same H (upd H fl0 (.lst [])) := same_new nfl0
    refine ⟨_, rfl, _, rfl, p2, n, g, rfl, hp2.same e0, htg, hn, hn12, fun l H1 A B D e1 hl hle hA hD => ?_⟩
    obtain ⟨b1, b2, b3, b4⟩ := id hle.1
    refine ⟨l, A, B, D, rfl, SqT.of hl, ⟨hle.1, by omega, by omega⟩, fun sl H2 e2 nsl ⟨ys, hys, pys⟩ => ?_⟩
    have e02 := e0.trans (e1.trans e2)
    have hfl2 := e2 _ _ (e1 _ _ (upd_same (H := H) (a := fl0) (o := .lst [])))
    refine ⟨_, _, rfl, rfl, fun tl ntl => ?_⟩
    have e3 := same_new (o := .lst (Tn.all.map fun t => V.str t.str)) ntl
    have htl : (upd H2 tl (.lst (Tn.all.map fun t => V.str t.str))) tl = some (.lst (Tn.all.map fun t => V.str t.str)) := upd_same
    refine ⟨tl, rfl, ⟨_, SqL.of htl⟩, for_list (K := K) (a := tl) (xs := Tn.all.map fun t => V.str t.str) (fun i σ H4 => ∃ fl wv zs, σ = [some (.ref p), some (.ref p2), some (.int (n : Int)), some (.ref fl), some (.ref sl), wv, none] ∧ Same (upd H2 tl (.lst (Tn.all.map fun t => V.str t.str))) H4 ∧ H4 fl = some (.lst zs) ∧ Paired (LMot H4) ((Tn.all.take i).flatMap (msT f g A.toNat D.toNat)) zs)
      ⟨fl0, none, [], rfl, Same.refl _, e3 _ _ hfl2, .nil⟩ (fun i σ H4 _ ⟨_, _, _, _, e4, _⟩ => SqL.of (e4 _ _ htl)) ?_ ?_⟩
    · rintro i x σ H4 hx ⟨fl, wv, zs, rfl, e4, hfl, pz⟩
      have hi : i < Tn.all.length := by
        have := (List.getElem?_eq_some_iff.mp hx).1
        simpa using this
      rw [List.getElem?_map, List.getElem?_eq_getElem hi] at hx
      obtain ⟨t, ht⟩ : ∃ t, Tn.all[i] = t := ⟨_, rfl⟩
      rw [ht] at hx
      cases hx
      have htake : Tn.all.take (i + 1) = Tn.all.take i ++ [t] := by rw [List.take_succ, List.getElem?_eq_getElem hi, ht]; rfl
      have e24 := e3.trans e4
      have hL : ys.length = (placesL A.toNat D.toNat).length := paired_len pys
      have hLn : (placesL A.toNat D.toNat).length ≤ 144 := by
        rw [places_len]
        exact Nat.le_trans (Nat.mul_le_mul (show D.toNat ≤ 12 by omega) (show A.toNat ≤ 12 by omega)) (by decide)
      refine ⟨_, rfl, _, rfl, sl, rfl, ⟨_, SqL.of (e24 _ _ hys)⟩, fun Dd nD => ?_⟩
      refine lcL evoSame (K := K) (a := sl) (xs := ys) (fun H e => SqL.of (e _ _ (e24 _ _ hys))) (fun i => okT f g t ((placesL A.toNat D.toNat).getD i (0, 0))) (fun i y H => LMot H (t, (placesL A.toNat D.toNat).getD i (0, 0)) y) nD (by omega) (fun i y H H' e h => h.kp e) (fun i x H9 Kc Kn hx9 e9 hc hno => ?_) (fun H9 zs2 e9 hDd al => ?_)
      · have hi9 : i < (placesL A.toNat D.toNat).length := by
          rw [← hL]
          exact (List.getElem?_eq_some_iff.mp hx9).1
        obtain ⟨z', hz', r', rfl, hr'⟩ := paired_at pys (List.getElem?_eq_getElem hi9)
        rw [hx9] at hz'
        cases hz'
        obtain ⟨c, hc9⟩ : ∃ c, (placesL A.toNat D.toNat)[i] = c := ⟨_, rfl⟩
        rw [hc9] at hr'
        have hgd : (placesL A.toNat D.toNat).getD i (0, 0) = c := getD_at (by rw [List.getElem?_eq_getElem hi9, hc9])
        rw [hgd] at hc hno
        have e09 := e02.trans (e24.trans e9)
        have hr9 := e9 _ _ (e24 _ _ hr')
        refine ⟨rfl, _, rfl, _, rfl, _, rfl, _, rfl, _, rfl, p, t, r', p2, (n : Int), f, g, c.1, c.2, rfl, hp.same e09, hp2.same e09, htf, htg, by omega, SqT.of hr9, fun b H10 e10 hb => ⟨_, rfl, ?_⟩⟩
        have eb := okT_eq hb
        cases b with
        | true =>
          refine iteT ⟨_, rfl, _, rfl, two_le, fun m hm => ?_⟩
          have e11 := same_new (o := .tup [.str t.str, .ref r']) hm
          refine hc _ _ eb.symm (e10.trans e11) ⟨m, r', rfl, upd_same, ?_⟩
          exact e11 _ _ (e10 _ _ hr9)
        | false => exact iteF (hno _ eb.symm e10)
      · rw [hL] at al
        have al2 : Paired (fun m y => LMot H9 m y) (msT f g A.toNat D.toNat t) zs2 := paired_map (F := fun m y => LMot H9 m y) (fun c => (t, c)) (paired_filter (F := fun c y => LMot H9 (t, c) y) (d := (0, 0)) (k := okT f g t) al)
        refine ⟨fl, Dd, zs, zs2, rfl, rfl, e9 _ _ hfl, hDd, ?_, fun l2 nl2 => ?_⟩
        · have l1 := paired_len pz
          have l2 := paired_len al2
          have l3 := msF_len f g A.toNat D.toNat (Tn.all.take i)
          have l4 := msT_len f g A.toNat D.toNat t
          have l5 : (Tn.all.take i).length ≤ 8 := by rw [List.length_take]; exact Nat.min_le_right _ _
          rw [places_len] at hLn
          have l6 : (Tn.all.take i).length * (D.toNat * A.toNat) ≤ 8 * 144 := Nat.mul_le_mul l5 hLn
          have : (100000 : Nat) ≤ sizeLine := by decide
          omega
        · have e10 := same_new (o := .lst (zs ++ zs2)) nl2
          refine ⟨l2, _, _, rfl, e4.trans (e9.trans e10), upd_same, ?_⟩
          rw [htake, List.flatMap_append, List.flatMap_cons, List.flatMap_nil, List.append_nil]
          exact paired_app (paired_imp (fun m y h => h.kp (Kp.of (e9.trans e10))) pz) (paired_imp (fun m y h => h.kp (Kp.of e10)) al2)
    · rintro σ H4 ⟨fl, wv, zs, rfl, e4, hfl, pz⟩
      have e8 : (Tn.all.map fun t => V.str t.str).length = Tn.all.length := List.length_map ..
      rw [e8, List.take_length] at pz
      exact ⟨_, rfl, q fl H4 zs A B D (e02.trans (e3.trans e4)) hfl hle pz⟩
end
end K84
set_option Elab.async false
set_option linter.all false
set_option maxRecDepth 100000
set_option maxHeartbeats 1000000
/-! the law's own defs: least_form -/
namespace K84
open PySem PySem.Spec PyProof.Rows L2
section
variable {P : Program} {w : World} {K : PySem.W.Frag} {mg : Str → Option Value} {base : Heap}
theorem sc_llf : FnScope ["_law_table_here", "_law_many", "_law_least", "_law_word", "_law_turned", "_law_lattice_here", "_law_shift", "_law_form_here"] ["_law_table_here", "_law_many"] d__law_least_form.scope := ⟨rfl, rfl, rfl, by decide +kernel, rfl, by decide +kernel, by decide +kernel⟩
theorem ok_l_least (T : Txt w K mg) : Good P w K mg base 4 "_law_least_form" ["_law_table_here", "_law_many"] (fun vs H Q _ => ∃ (p : Addr) (n : Nat) (f : Int → Int → Nat), vs = [.ref p, .int (n : Int)] ∧ TabO H p (n : Int) f ∧ Tor f (n : Int) ∧ 0 < n ∧ n ≤ 12 ∧ (∀ x y, 48 ≤ f x y ∧ f x y ≤ 57) ∧
    ∀ r H' F, Same H H' → FmAt H' r F → LeastFm f F → Q (.ref r) H') := by
  refine good_mk (d := d__law_least_form) T.d__law_least_form rfl rfl T.g__law_least_form sc_llf
    (fun _ _ _ _ _ _ us hl => match us, hl with | [_, _], _ => rfl) (fun vs H Q E h => ?_) (fun f0 cdv Ar outer st H vs Q E hr h => ?_)
  · obtain ⟨p, n, f, rfl, _⟩ := h
    rfl
  · obtain ⟨p, n, f, rfl, hp, htor, hn, hn12, hrg, q⟩ := h
    have nd := sc_llf.nd
    refine ⟨_, (pss_cons (ps_set (i := 2) nd rfl (Or.inl rfl) pe_non)
      (pss_cons (ps_for PassesOwn.never rfl (pi_list (pe_fn0 (ok_l_turns T) hr)) (pg_name (i := 3) nd rfl (Or.inl rfl))
        (pss_cons (ps_set (i := 4) nd rfl (Or.inl rfl) (pe_fn (ok_l_moved T) hr (pa_cons (pv 0) (pa_cons (pv 3) (pa_cons (pe_tup (pa_cons pe_int (pa_cons pe_int pa_nil))) (pa_cons (pv 1) pa_nil))))))
        (pss_cons (ps_set (i := 5) nd rfl (Or.inl rfl) (pe_fn (ok_l_lattice T) hr (pa_cons (pv 4) (pa_cons (pv 1) pa_nil))))
        (pss_one (ps_for PassesOwn.never rfl (pi_list (pe_fn (ok_shifts T) hr (pa_cons (pv 5) pa_nil))) (pg_name (i := 6) nd rfl (Or.inl rfl))
          (pss_cons (ps_set (i := 7) nd rfl (Or.inl rfl) (pe_fn (ok_l_form T) hr (pa_cons (pv 4) (pa_cons (pv 5) (pa_cons (pv 6) (pa_cons (pv 1) pa_nil))))))
          (pss_one (ps_if (PW.pt (pw_or (pt_cmpR op_isN (pv 2) pe_non (nomark _)) (pw_or1 (pt_val (pe_fn (ok_less T) hr (pa_cons (pv 7) (pa_cons (pv 2) pa_nil))))))) (pss_one (ps_set (i := 2) nd rfl (Or.inl rfl) (pv 7))) pss_nil))))))))
      (pss_one (ps_ret (pv 2))))), ?_⟩
    refine ⟨rfl, fun tl ntl => ?_⟩
    have e1 := same_new (o := .lst (Tn.all.map fun t => V.str t.str)) ntl
    have htl : (upd H tl (.lst (Tn.all.map fun t => V.str t.str))) tl = some (.lst (Tn.all.map fun t => V.str t.str)) := upd_same
    refine ⟨tl, rfl, ⟨_, SqL.of htl⟩, for_list (K := K) (a := tl) (xs := Tn.all.map fun t => V.str t.str) (fun i σ H2 => ∃ lv a b c d e, σ = [some (.ref p), some (.int (n : Int)), lv, a, b, c, d, e] ∧ Same (upd H tl (.lst (Tn.all.map fun t => V.str t.str))) H2 ∧ LS f (fun G => ∃ t ∈ Tn.all.take i, IsForm f t G) H2 lv ∧ (0 < i → lv ≠ some .non))
      ⟨some .non, none, none, none, none, none, rfl, Same.refl _, .inl ⟨rfl, fun G ⟨t, ht, _⟩ => by cases ht⟩, fun z => absurd z (Nat.lt_irrefl _)⟩ (fun i σ H2 _ ⟨_, _, _, _, _, _, _, e2, _⟩ => SqL.of (e2 _ _ htl)) ?_ ?_⟩
    · rintro i x σ H2 hx ⟨lv, a, b, c, d, e, rfl, e2, hls, hne⟩
      have hi : i < Tn.all.length := by
        have := (List.getElem?_eq_some_iff.mp hx).1
        simpa using this
      rw [List.getElem?_map, List.getElem?_eq_getElem hi] at hx
      obtain ⟨t, ht⟩ : ∃ t, Tn.all[i] = t := ⟨_, rfl⟩
      rw [ht] at hx
      cases hx
      have htake : Tn.all.take (i + 1) = Tn.all.take i ++ [t] := by rw [List.take_succ, List.getElem?_eq_getElem hi, ht]; rfl
      have e12 := e1.trans e2
      refine ⟨_, rfl, _, rfl, two_le, fun z hz => ?_⟩
      have e3 := e12.trans (same_new (o := .tup [.int 0, .int 0]) hz)
      refine ⟨_, rfl, p, z, (n : Int), f, t, 0, 0, rfl, hp.same e3, htor, by omega, SqT.of upd_same, fun tp H3 e4 ntp htp => ?_⟩
      have s4 := (same_new (o := .tup [.int 0, .int 0]) hz).trans e4
      have ht2 := htor.movd t 0 0
      refine ⟨_, rfl, _, rfl, tp, n, movd t 0 0 f, rfl, htp, ht2, hn, hn12, fun l H4 A B D e5 hl hle hA hD => ?_⟩
      obtain ⟨b1, b2, b3, b4⟩ := id hle.1
      have hbs : BasS A B D := ⟨hle.1, by omega, by omega⟩
      have s5 := s4.trans e5
      refine ⟨_, rfl, l, A, B, D, rfl, SqT.of hl, hbs, fun sl H5 e6 nsl ⟨ys, hys, pys⟩ => ?_⟩
      have s6 := s5.trans e6
      have htp5 := htp.same (e5.trans e6)
      have hl5 := e6 _ _ hl
      have hL : ys.length = (placesL A.toNat D.toNat).length := paired_len pys
      have hLpos : 0 < (placesL A.toNat D.toNat).length := by
        rw [places_len]
        exact Nat.mul_pos (by omega) (by omega)
      refine ⟨sl, rfl, ⟨_, SqL.of hys⟩, for_list (K := K) (a := sl) (xs := ys) (fun j σ H7 => ∃ lv d e, σ = [some (.ref p), some (.int (n : Int)), lv, some (.str t.str), some (.ref tp), some (.ref l), d, e] ∧ Same H5 H7 ∧ (LS f (fun G => (∃ t ∈ Tn.all.take i, IsForm f t G) ∨ ∃ c ∈ (placesL A.toNat D.toNat).take j, G = (A, B, D, rowsS (movd t c.1 c.2 f) A.toNat D.toNat)) H7 lv) ∧ (0 < j → lv ≠ some .non))
        ⟨_, _, _, rfl, Same.refl _, (hls.same s6).done (fun G z => z.elim id (fun ⟨c, hc, _⟩ => by cases hc)), fun z => absurd z (Nat.lt_irrefl _)⟩ (fun j σ H7 _ ⟨_, _, _, _, e7, _⟩ => SqL.of (e7 _ _ hys)) ?_ ?_⟩
      · rintro j x σ H7 hx7 ⟨lv7, d7, e7', rfl, e7, hl7, hne7⟩
        have hj : j < (placesL A.toNat D.toNat).length := by
          rw [← hL]
          exact (List.getElem?_eq_some_iff.mp hx7).1
        obtain ⟨z', hz', r', rfl, hr'⟩ := paired_at pys (List.getElem?_eq_getElem hj)
        rw [hx7] at hz'
        cases hz'
        obtain ⟨c, hc9⟩ : ∃ c, (placesL A.toNat D.toNat)[j] = c := ⟨_, rfl⟩
        have hcm : c ∈ placesL A.toNat D.toNat := hc9 ▸ List.getElem_mem hj
        have htk : (placesL A.toNat D.toNat).take (j + 1) = (placesL A.toNat D.toNat).take j ++ [c] := by
          rw [List.take_succ, List.getElem?_eq_getElem hj, hc9]
          rfl
        rw [hc9] at hr'
        refine ⟨_, rfl, _, rfl, _, rfl, _, rfl, tp, l, r', (n : Int), movd t 0 0 f, A, B, D, c.1, c.2, rfl, htp5.same e7, ht2, by omega, fun x y => hrg _ _, SqT.of (e7 _ _ hl5), hbs, SqT.of (e7 _ _ hr'), fun tt H8 e8 hG => ?_⟩
        rw [movd_stay] at hG
        have hGF : IsForm f t (A, B, D, rowsS (movd t c.1 c.2 f) A.toNat D.toNat) := ⟨A, B, D, c, hle, hcm, rfl⟩
        have e78 := e7.trans e8
        rcases hl7.same e8 with ⟨rfl, hno⟩ | ⟨lf7, F7, t7, rfl, hF7, hiF7, hlF7⟩
        · refine ⟨_, rfl, rfl, _, rfl, ?_⟩
          rw [decide_eq_true rfl]
          refine iteT (iteT ⟨_, rfl, _, _, _, rfl, e78, .inr ⟨tt, _, t, rfl, hG, hGF, fun G' z => ?_⟩, fun _ z => by cases z⟩)
          rcases z with z | ⟨c', hc', rfl⟩
          · exact absurd (.inl z) (hno G')
          · rw [htk] at hc'
            rcases List.mem_append.mp hc' with z | z
            · exact absurd (.inr ⟨c', z, rfl⟩) (hno _)
            · rw [List.mem_singleton.mp z]
              exact fLt_irrefl _
        · refine ⟨_, rfl, rfl, _, rfl, ?_⟩
          rw [decide_eq_false (fun z => by cases z)]
          refine iteF ⟨_, rfl, _, rfl, tt, lf7, _, F7, rfl, hG, hF7, fun H9 e9 => ⟨_, rfl, ?_⟩⟩
          have e79 := e78.trans e9
          cases hlt : fLt (A, B, D, rowsS (movd t c.1 c.2 f) A.toNat D.toNat) F7 with
          | true =>
            refine iteT ⟨_, rfl, _, _, _, rfl, e79, .inr ⟨tt, _, t, rfl, hG.same e9, hGF, fun G' z => ?_⟩, fun _ z => by cases z⟩
            rcases z with z | ⟨c', hc', rfl⟩
            · exact fLt_down hlt (hlF7 G' (.inl z))
            · rw [htk] at hc'
              rcases List.mem_append.mp hc' with z | z
              · exact fLt_down hlt (hlF7 _ (.inr ⟨c', z, rfl⟩))
              · rw [List.mem_singleton.mp z]
                exact fLt_irrefl _
          | false =>
            refine iteF ⟨_, _, _, rfl, e79, .inr ⟨lf7, F7, t7, rfl, hF7.same e9, hiF7, fun G' z => ?_⟩, fun _ z => by cases z⟩
            rcases z with z | ⟨c', hc', rfl⟩
            · exact hlF7 G' (.inl z)
            · rw [htk] at hc'
              rcases List.mem_append.mp hc' with z | z
              · exact hlF7 _ (.inr ⟨c', z, rfl⟩)
              · rw [List.mem_singleton.mp z]
                exact hlt
      · rintro σ H7 ⟨lv7, d7, e7', rfl, e7, hl7, hne7⟩
        refine ⟨lv7, _, _, _, _, _, rfl, e2.trans (s6.trans e7), hl7.done fun G' ⟨t2, ht2, hG2⟩ => ?_, fun _ => hne7 (by rw [hL]; exact hLpos)⟩
        rw [htake] at ht2
        rcases List.mem_append.mp ht2 with z | z
        · exact .inl ⟨t2, z, hG2⟩
        · rw [List.mem_singleton.mp z] at hG2
          obtain ⟨A9, B9, D9, c9, hle9, hc9, rfl⟩ := hG2
          obtain ⟨rfl, rfl, rfl⟩ := hle9.uniq hle
          exact .inr ⟨c9, by rw [hL, List.take_length]; exact hc9, rfl⟩
    · rintro σ H2 ⟨lv, a, b, c, d, e, rfl, e2, hls, hne⟩
      have e8 : (Tn.all.map fun t => V.str t.str).length = Tn.all.length := List.length_map ..
      rw [e8] at hls hne
      rcases hls with ⟨rfl, _⟩ | ⟨lf, F, tF, rfl, hF, hiF, hlF⟩
      · exact absurd rfl (hne (by decide))
      · refine ⟨_, rfl, q lf H2 F (e1.trans e2) hF ⟨⟨tF, hiF⟩, fun t G hG => hlF G ⟨t, ?_, hG⟩⟩⟩
        rw [List.take_length]
        exact Tn.mem_all t
end
end K84
set_option Elab.async false
set_option linter.all false
set_option maxRecDepth 100000
set_option maxHeartbeats 1000000
/-! the law's own defs: small -/
namespace K84
open PySem PySem.Spec PyProof.Rows L2
theorem pool_ne {pl D : Addr} {H : Hp} (h : PoolAt H pl) (n : H D = none) : D ≠ pl := fun z => by
  obtain ⟨a, b, e⟩ := h
  rw [z, e] at n
  cases n
theorem Po.put {pl D : Addr} {H1 H : Hp} {o : HO} (h : Po pl H1 H) (n : H1 D = none) : Po pl H1 (upd H D o) := by
  have hne := pool_ne h.1 n
  obtain ⟨a, b, e⟩ := h.2.1
  exact ⟨h.1, ⟨a, b, by rw [upd_ne (Ne.symm hne)]; exact e⟩, fun c u z m => by rw [upd_ne (ne_of_none z n)]; exact h.2.2 c u z m⟩
/-- the loop of a comprehension that draws -/
theorem lcP {pl : Addr} {lo : Int} {n : Nat} {g : TG} {te : TE} {vs : List Nat} {σ : L2.St} {H1 : Hp} {D : Addr} {Qd : Hp → Prop} (R : Nat → V → Hp → Prop)
    (hpl : PoolAt H1 pl) (nD : H1 D = none) (hn : n ≤ 100000) (hR : ∀ i y H H', Kp H H' → R i y H → R i y H')
    (hs : ∀ (i : Nat) H (Kc : V → Hp → Prop), i < n → Po pl H1 H → (∀ y H4, Po pl H H4 → R i y H4 → Kc y H4) → g (.int (lo + (i : Int))) (wipe σ vs) H fun σ2 H2 => wipe σ2 vs = wipe σ vs ∧ te σ2 H2 Kc)
    (hd : ∀ H ys, Po pl H1 H → H D = some (.lst ys) → Paired (fun i y => R i y H) (List.range n) ys → Qd H)
    (hmono : ∀ (v : V) (σ : L2.St) (H : Hp) (Q1 Q2 : L2.St → Hp → Prop), (∀ σ H, Q1 σ H → Q2 σ H) → g v σ H Q1 → g v σ H Q2) :
    ∃ W : Nat → Nat → Hp → Prop, (∃ m, W 0 m (upd H1 D (.lst []))) ∧ ∀ i m H, W i m H → ((Itr lo n).stop i H ∧ Qd H) ∨ ((Itr lo n).go i H ∧ ∃ Nx : Hp → Prop, (∀ H', Nx H' → ∃ m', m' < m ∧ W (i + 1) m' H') ∧
      ∀ x H', (Itr lo n).yld i H x H' → g x (wipe σ vs) H' fun σ2 H2 => wipe σ2 vs = wipe σ vs ∧ tYes σ2 H2 fun b H3 => if b = true then te σ2 H3 fun y H4 => ∃ acc, H4 D = some (.lst acc) ∧ acc.length < sizeLine ∧ Nx (upd H4 D (.lst (acc ++ [y]))) else Nx H3) := by
  have hDp := pool_ne hpl nD
  refine ⟨fun i m H => m = n - i ∧ i ≤ n ∧ Po pl H1 H ∧ ∃ ys, H D = some (.lst ys) ∧ Paired (fun i y => R i y H) (List.range i) ys, ⟨n, rfl, Nat.zero_le _, (Po.refl hpl).put nD, [], upd_same, .nil⟩, ?_⟩
  rintro i m H ⟨rfl, hi, e, ys, hD, a⟩
  by_cases hlt : i < n
  · refine .inr ⟨hlt, fun H' => Po pl H1 H' ∧ ∃ ys, H' D = some (.lst ys) ∧ Paired (fun i y => R i y H') (List.range (i + 1)) ys, fun H' ⟨e', r⟩ => ⟨n - (i + 1), by omega, rfl, hlt, e', r⟩, fun x H' y => ?_⟩
    obtain ⟨rfl, rfl⟩ := y
    refine hmono _ _ _ _ _ ?_ (hs i _ (fun y H4 => ∃ acc, H4 D = some (.lst acc) ∧ acc.length < sizeLine ∧ (fun H' => Po pl H1 H' ∧ ∃ ys, H' D = some (.lst ys) ∧ Paired (fun i y => R i y H') (List.range (i + 1)) ys) (upd H4 D (.lst (acc ++ [y])))) hlt e fun z H4 e4 r => ?_)
    · intro σ2 H2 ⟨h1, h2⟩
      exact ⟨h1, h2⟩
    · have hD4 := e4.2.2 _ _ hD hDp
      have hlen := paired_len a
      rw [List.length_range] at hlen
      refine ⟨ys, hD4, ?_, (e.trans e4).put nD, ys ++ [z], upd_same, ?_⟩
      · have : (100000 : Nat) ≤ sizeLine := by decide
        omega
      · have kp : Kp H4 (upd H4 D (.lst (ys ++ [z]))) := Kp.put hD4
        rw [List.range_succ]
        exact Paired.snoc (paired_imp (fun j y' q => hR j y' _ _ (e4.kp.trans kp) q) a) (hR i z _ _ kp r)
  · have ei : i = n := by omega
    subst ei
    exact .inl ⟨Nat.le_refl _, hd H ys e hD a⟩
theorem gName_mono {k : Nat} (v : V) (σ : L2.St) (H : Hp) (Q1 Q2 : L2.St → Hp → Prop) (h : ∀ σ H, Q1 σ H → Q2 σ H) (q : gName k v σ H Q1) : gName k v σ H Q2 := h _ _ q
/-- signs, joined -/
theorem join_cs (cs : List Nat) : Txt.join (Str.ofString "") (cs.map sg) = ⟨cs.toArray⟩ := by
  have e : cs.map sg = (List.range cs.length).map fun i => sg (cs.getD i 0) := by
    conv => lhs; rw [← range_getD cs 0]
    rw [List.map_map]
    rfl
  rw [e, join_sg, range_getD]
theorem cs_sum {cs : List Nat} (h : cs.length ≤ 1000) : ((cs.map sg).map (·.length)).sum + (cs.map sg).length * (Str.ofString "").length ≤ 16777216 := by
  have e : cs.map sg = (List.range cs.length).map fun i => sg (cs.getD i 0) := by
    conv => lhs; rw [← range_getD cs 0]
    rw [List.map_map]
    rfl
  rw [e]
  exact sg_sum h
theorem digs {n : Nat} {H : Hp} : ∀ {l : List Nat} {ys : List V}, Paired (fun (_ : Nat) y => ∃ c, y = V.str (sg c) ∧ 48 ≤ c ∧ c ≤ 57) l ys → ∃ cs : List Nat, ys = (cs.map sg).map V.str ∧ cs.length = l.length ∧ ∀ c ∈ cs, 48 ≤ c ∧ c ≤ 57
  | _, _, .nil => ⟨[], rfl, rfl, fun _ h => by cases h⟩
  | _, _, .cons r t => by
    obtain ⟨cs, e1, e2, e3⟩ := digs (n := n) (H := H) t
    obtain ⟨c, rfl, c1, c2⟩ := r
    exact ⟨c :: cs, by rw [e1]; rfl, by simp [e2], fun x hx => by
      rcases List.mem_cons.mp hx with z | z
      · rw [z]
        exact ⟨c1, c2⟩
      · exact e3 x z⟩
theorem rows_of {a : Int} : ∀ {l : List Nat} {ys : List V}, Paired (fun (_ : Nat) y => ∃ z : Str, y = V.str z ∧ (z.cps.size : Int) = a ∧ ∀ c ∈ z.cps.toList, 48 ≤ c ∧ c ≤ 57) l ys → ∃ rows : List Str, ys = rows.map V.str ∧ rows.length = l.length ∧ ∀ r ∈ rows, (r.cps.size : Int) = a ∧ ∀ c ∈ r.cps.toList, 48 ≤ c ∧ c ≤ 57
  | _, _, .nil => ⟨[], rfl, rfl, fun _ h => by cases h⟩
  | _, _, .cons r t => by
    obtain ⟨rows, e1, e2, e3⟩ := rows_of t
    obtain ⟨z, rfl, c1, c2⟩ := r
    exact ⟨z :: rows, by rw [e1]; rfl, by simp [e2], fun x hx => by
      rcases List.mem_cons.mp hx with y | y
      · rw [y]
        exact ⟨c1, c2⟩
      · exact e3 x y⟩
/-- a size that fits -/
def Fits (n : Int) (H : Hp) (y : V) : Prop := ∃ r a d, y = .ref r ∧ H r = some (.tup [.int a, .int d]) ∧ 1 ≤ a ∧ a ≤ n ∧ 1 ≤ d ∧ a * d ∣ n
theorem Fits.kp {n : Int} {H H' : Hp} (e : Kp H H') {y : V} (h : Fits n H y) : Fits n H' y := let ⟨r, a, d, h1, h2, h3⟩ := h; ⟨r, a, d, h1, e.tup h2, h3⟩
section
variable {P : Program} {w : World} {K : PySem.W.Frag} {mg : Str → Option Value} {base : Heap}
theorem sc_sm : FnScope ["_law_pool_here", "_law_many", "_law_fits", "_law_a", "_law_d", "_law_some", "_law_y", "_law_x"] ["_law_pool_here", "_law_many"] d__law_small.scope := ⟨rfl, rfl, rfl, by decide +kernel, rfl, by decide +kernel, by decide +kernel⟩
def lcSM : Scope := { kind := .function, names := [(".0", .local), ("_law_y", .local), ("range", .globalImplicit), ("_law_a", .cell), ("_law_pool_here", .cell), ("_law_some", .cell)], isGenerator := false, isCoroutine := false }
theorem four_strs (x : V) (h : x ∈ ([.str "01", .str "01", .str "012", .str "0123"] : List V)) : ∃ z : Str, x = .str z ∧ z.cps.toList ≠ [] ∧ z.cps.toList.length ≤ 10 ∧ ∀ c ∈ z.cps.toList, 48 ≤ c ∧ c ≤ 57 := by
  simp only [List.mem_cons, List.not_mem_nil, or_false] at h
  rcases h with rfl | rfl | rfl | rfl <;> exact ⟨_, rfl, by decide +kernel, by decide +kernel, by decide +kernel⟩
theorem ok_small (T : Txt w K mg) : Good P w K mg base 3 "_law_small" ["_law_pool_here", "_law_many"] (fun vs H Q _ => ∃ (pl : Addr) (n : Nat), vs = [.ref pl, .int (n : Int)] ∧ PoolAt H pl ∧ 0 < n ∧ n ≤ 12 ∧
    ∀ t H' a b d rows, Po pl H H' → FmAt H' t (a, b, d, rows) → Bas a b d → a * d ∣ (n : Int) → RowsOk a d rows → Q (.ref t) H') := by
  refine good_mk (d := d__law_small) T.d__law_small rfl rfl T.g__law_small sc_sm
    (fun _ _ _ _ _ _ us hl => match us, hl with | [_, _], _ => rfl) (fun vs H Q E h => ?_) (fun f0 cdv Ar outer st H vs Q E hr h => ?_)
  · obtain ⟨pl, n, rfl, _⟩ := h
    rfl
  · obtain ⟨pl, n, rfl, hpl, hn, hn12, q⟩ := h
    have nd := sc_sm.nd
    refine ⟨_, (pss_cons (ps_set (i := 2) nd rfl (Or.inl rfl) (pe_lst pa_nil))
      (pss_cons (ps_for PassesOwn.never rfl (pi_range2 (by rfl) T.f_range (pa_cons pe_int (pa_cons (pe_op op_add (pv 1) pe_int) pa_nil))) (pg_name (i := 3) nd rfl (by first | exact Or.inl rfl | exact Or.inr rfl))
        (pss_one (ps_set (i := 2) nd rfl (Or.inl rfl) (pe_op op_cat (pv 2) (pe_lc (own := [("_law_d", 4)]) rfl nd (pi_list (pe_lst (pa_cons (pe_op op_fdiv (pv 1) (pv 3)) (pa_cons pe_int (pa_cons pe_int pa_nil))))) (blkOk_by (own := [("_law_d", 4)]) (N := ["_law_pool_here", "_law_many", "_law_fits", "_law_a", "_law_d", "_law_some", "_law_y", "_law_x"]) (sc := d__law_small.scope) (by decide +kernel)) (fun _ _ _ _ _ => (pg_name (i := 4) nd rfl (Or.inl rfl))) (fun _ _ _ _ _ => pts_one (PW.pt (pw_and (pt_cmpR op_gt (pv 4) pe_int (nomark _)) (pw_and1 (pt_cmpR op_eq (pe_op op_mod (pe_callTy call_int1 (by rfl) T.f_int b_int (pa_cons (pv 1) pa_nil)) (pe_callTy call_int1 (by rfl) T.f_int b_int (pa_cons (pe_op op_mul (pv 3) (pv 4)) pa_nil))) pe_int (nomark _)))))) (fun _ _ _ _ _ => (pe_tup (pa_cons (pv 3) (pa_cons (pv 4) pa_nil)))))))))
      (pss_cons (ps_asg (pe_fn (ok_pick T) hr (pa_cons (pv 0) (pa_cons (pv 2) pa_nil))) (pg_tup rfl (pgs_cons (pg_name (i := 3) nd rfl (by first | exact Or.inl rfl | exact Or.inr rfl)) (pgs_cons (pg_name (i := 4) nd rfl (by first | exact Or.inl rfl | exact Or.inr rfl)) pgs_nil))))
      (pss_cons (ps_set (i := 5) nd rfl (by first | exact Or.inl rfl | exact Or.inr rfl) (pe_fn (ok_pick T) hr (pa_cons (pv 0) (pa_cons (pe_lst (pa_cons pe_str (pa_cons pe_str (pa_cons pe_str (pa_cons pe_str pa_nil))))) pa_nil))))
      (pss_one (ps_ret (pe_tup (pa_cons (pv 3) (pa_cons (pe_fn (ok_draw T) hr (pa_cons (pv 0) (pa_cons (pv 3) pa_nil))) (pa_cons (pv 4) (pa_cons (pe_callTy call_tuple_of (by rfl) T.f_tuple b_tuple (pa_cons (pe_lc (own := [("_law_y", 6)]) rfl nd (pi_range1 (by rfl) T.f_range (pa_cons (pv 4) pa_nil)) (blkOk_by (own := [("_law_y", 6)]) (N := ["_law_pool_here", "_law_many", "_law_fits", "_law_a", "_law_d", "_law_some", "_law_y", "_law_x"]) (sc := d__law_small.scope) (by decide +kernel)) (fun _ _ _ _ _ => (pg_name (i := 6) nd rfl (Or.inl rfl))) (fun _ _ _ _ _ => pts_nil)
        (fun _ _ _ _ _ => (pe_joinK (K := K) rfl pe_str (pe_lc (own := [("_law_x", 7)]) rfl nd (pi_range1 (by rfl) T.f_range (pa_cons (pv 3) pa_nil)) (blkOk_by (own := [("_law_x", 7)]) (N := ["_law_pool_here", "_law_many", "_law_fits", "_law_a", "_law_d", "_law_some", "_law_y", "_law_x"]) (sc := lcSM) (by decide +kernel)) (fun _ _ _ _ _ => (pg_name (i := 7) nd rfl (Or.inl rfl))) (fun _ _ _ _ _ => pts_nil) (fun _ _ _ _ _ => (pe_fn (ok_pick T) hr (pa_cons (pv 0) (pa_cons (pv 5) pa_nil)))))))) pa_nil)) pa_nil))))))))))), ?_⟩
    have bd : -(2 ^ 62) ≤ (1 : Int) ∧ (1 : Int) < 2 ^ 62 ∧ -(2 ^ 62) ≤ ((n : Nat) : Int) + 1 ∧ ((n : Nat) : Int) + 1 < 2 ^ 62 := by omega
    have en : ((n : Int) + 1 - 1).toNat = n := by omega
    refine ⟨Nat.zero_le _, fun fp nfp => ?_⟩
    refine ⟨_, rfl, _, _, rfl, rfl, _, _, rfl, bd, ?_⟩
    rw [en]
    refine for_range (lo := 1) (n := n) (fun i σ H2 => ∃ av fl ys, σ = [some (.ref pl), some (.int (n : Int)), some (.ref fl), av, none, none, none, none] ∧ Same H H2 ∧ H fl = none ∧ H2 fl = some (.lst ys) ∧ (∀ y ∈ ys, Fits (n : Int) H2 y) ∧ ys.length ≤ 3 * i ∧ (0 < i → ys ≠ []))
      ⟨none, fp, [], rfl, same_new nfp, nfp, upd_same, fun y h => (by cases h), Nat.le_refl _, fun h => absurd h (Nat.lt_irrefl _)⟩ ?_ ?_
    · rintro i σ H2 hi ⟨av, fl, ys, rfl, e2, nfl, hfl, hys, hyl, hyn⟩
      have ha : (0 : Int) < 1 + (i : Int) := by omega
      refine ⟨_, rfl, _, rfl, _, rfl, _, _, rfl, rfl, ⟨ha, show 1 + (i : Int) < 1073741824 by omega⟩, (by show 3 ≤ sizeLine; decide), fun ll nll => ?_⟩
      obtain ⟨ds, hds⟩ : ∃ ds : List Int, ds = [(n : Int) / (1 + (i : Int)), 1, 2] := ⟨_, rfl⟩
      have e3 : Same H2 (upd H2 ll (.lst (ds.map V.int))) := same_new nll
      have hll : (upd H2 ll (.lst (ds.map V.int))) ll = some (.lst (ds.map V.int)) := upd_same
      have hdl : ds.length = 3 := by rw [hds]; rfl
      rw [show ([V.int ((n : Int) / (1 + (i : Int))), V.int 1, V.int 2] : List V) = ds.map V.int by rw [hds]; rfl]
      refine ⟨ll, rfl, ⟨_, SqL.of hll⟩, fun Dd nD => ?_⟩
      refine lcL evoSame (K := K) (a := ll) (xs := ds.map V.int) (fun H e => SqL.of (e _ _ hll)) (fun j => decide (0 < ds.getD j 0) && decide ((n : Int) % ((1 + (i : Int)) * ds.getD j 0) = 0)) (fun j y H => Fits (n : Int) H y) nD (by rw [List.length_map, hdl]; decide) (fun j y H H' e h => h.kp e) (fun j x H4 Kc Kn hx e4 hc hno => ?_) (fun H4 zs e4 hDd al => ?_)
      · rw [List.getElem?_map] at hx
        obtain ⟨dj, hj1, rfl⟩ := Option.map_eq_some_iff.mp hx
        rw [getD_at hj1] at hc hno
        refine ⟨rfl, _, rfl, _, _, rfl, rfl, _, rfl, ?_⟩
        by_cases h0 : 0 < dj
        · rw [decide_eq_true h0]
          have hpos : 0 < (1 + (i : Int)) * dj := Int.mul_pos ha h0
          refine iteT ⟨_, rfl, .inl ⟨_, rfl, _, rfl, _, rfl, _, _, rfl, rfl, .inl ⟨by omega, by omega⟩, .inl ⟨_, rfl, _, _, rfl, rfl, hpos, rfl, _, rfl, ?_⟩⟩⟩
          by_cases h1 : (n : Int) % ((1 + (i : Int)) * dj) = 0
          · rw [show decide (V.int ((n : Int) % ((1 + (i : Int)) * dj)) = V.int 0) = true from decide_eq_true (by rw [h1])]
            refine iteT ⟨_, rfl, _, rfl, two_le, fun r hr' => ?_⟩
            have e5 := same_new (o := .tup [.int (1 + (i : Int)), .int dj]) hr'
            exact hc _ _ (by rw [decide_eq_true h0, decide_eq_true h1]; rfl) e5 ⟨r, _, _, rfl, upd_same, by omega, by omega, by omega, Int.dvd_of_emod_eq_zero h1⟩
          · rw [show decide (V.int ((n : Int) % ((1 + (i : Int)) * dj)) = V.int 0) = false from decide_eq_false (fun z => h1 (V.int.inj z))]
            exact iteF (hno _ (by rw [decide_eq_true h0, decide_eq_false h1]; rfl) (Same.refl _))
        · rw [decide_eq_false h0]
          exact iteF (iteF (hno _ (by rw [decide_eq_false h0]; rfl) (Same.refl _)))
      · have hzl := al.le
        rw [List.length_map, hdl] at hzl
        have hall : ∀ y ∈ zs, Fits (n : Int) H4 y := fun y hy => (Paired.right al y hy).elim fun _ h => h
        have lz : zs.length = _ := paired_len al
        refine ⟨fl, Dd, ys, zs, rfl, rfl, e4 _ _ (e3 _ _ hfl), hDd, ?_, fun p2 hp2 => ?_⟩
        · have : (100000 : Nat) ≤ sizeLine := by decide
          omega
        · have e5 := same_new (o := .lst (ys ++ zs)) hp2
          have e25 := e3.trans (e4.trans e5)
          refine ⟨_, p2, _, rfl, e2.trans e25, none_back (e2.trans (e3.trans e4)) hp2, upd_same, fun y hy => ?_, ?_, fun _ => ?_⟩
          · rcases List.mem_append.mp hy with z | z
            · exact (hys y z).kp (Kp.of e25)
            · exact (hall y z).kp (Kp.of e5)
          · rw [List.length_append]
            omega
          · by_cases hi0 : i = 0
            · subst hi0
              intro z
              have hz := (List.append_eq_nil_iff.mp z).2
              rw [hz, List.length_map, hdl] at lz
              have hm : (1 : Nat) ∈ (List.range 3).filter (fun j => decide (0 < ds.getD j 0) && decide ((n : Int) % ((1 + ((0 : Nat) : Int)) * ds.getD j 0) = 0)) := by
                rw [List.mem_filter]
                refine ⟨by decide, ?_⟩
                have : ds.getD 1 0 = 1 := by rw [hds]; rfl
                rw [this]
                simp
              have := List.length_pos_of_mem hm
              rw [← lz] at this
              exact absurd this (by simp)
            · exact fun z => hyn (by omega) (List.append_eq_nil_iff.mp z).1
    · rintro σ H2 ⟨av, fl, ys, rfl, e2, nfl, hfl, hys, hyl, hyn⟩
      have p2 := Po.same hpl e2
      have hflp := pool_ne hpl nfl
      refine ⟨_, rfl, _, rfl, pl, .ref fl, ys, rfl, p2.2.1, .inl ⟨fl, rfl, .inl (SqL.of hfl)⟩, fun a0 b0 => .inl ⟨fl, rfl, .inl (SqL.of (by rw [upd_ne hflp]; exact hfl))⟩, hyn hn, by omega, fun x a0 b0 hx => ?_⟩
      have p3 := p2.trans (Po.set p2.2.1 a0 b0)
      obtain ⟨r, a, d, rfl, hr1, k1, k2, k3, k4⟩ := (hys x hx).kp (Po.set p2.2.1 a0 b0).kp
      refine ⟨r, _, rfl, SqT.of hr1, rfl, _, _, rfl, _, _, rfl, rfl, ?_⟩
      refine ⟨_, rfl, (by show 4 ≤ sizeLine; decide), fun sl nsl => ?_⟩
      have p4 := p3.trans (Po.same p3.2.1 (same_new (o := .lst [.str "01", .str "01", .str "012", .str "0123"]) nsl))
      have hslp := pool_ne p3.2.1 nsl
      refine ⟨pl, .ref sl, _, rfl, p4.2.1, .inl ⟨sl, rfl, .inl (SqL.of upd_same)⟩, fun a1 b1 => .inl ⟨sl, rfl, .inl (SqL.of (by rw [upd_ne hslp]; exact upd_same))⟩, by decide, by decide, fun x a1 b1 hx => ?_⟩
      obtain ⟨z, rfl, z1, z2, z3⟩ := four_strs x hx
      have p5 := p4.trans (Po.set p4.2.1 a1 b1)
      have han : a * d ≤ n := Int.le_of_dvd (by omega) k4
      have hdn : d ≤ n := by
        have : 1 * d ≤ a * d := Int.mul_le_mul_of_nonneg_right k1 (by omega)
        omega
      refine ⟨_, rfl, _, rfl, _, rfl, pl, a, rfl, p5.2.1, k1, by omega, fun b a2 b2 hb0 hb1 => ?_⟩
      have p6 := p5.trans (Po.set p5.2.1 a2 b2)
      refine ⟨_, rfl, _, rfl, _, rfl, by omega, by omega, fun D nD => ?_⟩
      refine lcP (pl := pl) (lo := 0) (n := d.toNat) (fun _ y _ => ∃ z : Str, y = V.str z ∧ (z.cps.size : Int) = a ∧ ∀ c ∈ z.cps.toList, 48 ≤ c ∧ c ≤ 57) p6.2.1 nD (by omega) (fun _ _ _ _ _ h => h) (fun i H7 Kc hi p7 hc => ?_) (fun H7 ws p7 hD al => ?_) gName_mono
      · refine ⟨rfl, ⟨_, rfl⟩, _, rfl, _, rfl, by omega, by omega, fun D2 nD2 => ?_⟩
        refine lcP (pl := pl) (lo := 0) (n := a.toNat) (fun _ y _ => ∃ c, y = V.str (sg c) ∧ 48 ≤ c ∧ c ≤ 57) p7.2.1 nD2 (by omega) (fun _ _ _ _ _ h => h) (fun j H8 Kc' hj p8 hc' => ?_) (fun H8 vs' p8 hD2 al2 => ?_) gName_mono
        · refine ⟨rfl, _, rfl, _, rfl, pl, .str z, _, rfl, p8.2.1, .inr ⟨z, rfl, rfl⟩, fun _ _ => .inr ⟨z, rfl, rfl⟩, ?_, ?_, fun x a3 b3 hx3 => ?_⟩
          · intro e
            exact z1 (List.map_eq_nil_iff.mp e)
          · rw [List.length_map]
            omega
          · obtain ⟨c, hc1, rfl⟩ := List.mem_map.mp hx3
            exact hc' _ _ (Po.set p8.2.1 a3 b3) ⟨c, rfl, z3 c hc1⟩
        · obtain ⟨cs, ec, lc, dc⟩ := digs (n := 0) (H := H8) al2
          rw [List.length_range] at lc
          refine ⟨_, D2, cs.map sg, rfl, rfl, .inl (SqL.of (by rw [hD2, ec])), cs_sum (by omega), ?_⟩
          refine hc _ _ p8 ⟨_, rfl, ?_, ?_⟩
          · rw [join_cs]
            show ((cs.toArray.size : Nat) : Int) = a
            rw [List.size_toArray]
            omega
          · rw [join_cs]
            exact dc
      · obtain ⟨rows, er, lr, hrows⟩ := rows_of al
        rw [List.length_range] at lr
        refine ⟨D, _, rfl, .inl ⟨SqL.of hD, fun rt nrt => ⟨(by show 4 ≤ sizeLine; decide), fun t nt => ?_⟩⟩⟩
        have s1 := same_new (o := .tup ws) nrt
        have s2 := same_new (o := .tup [.int a, .int b, .int d, .ref rt]) nt
        refine q t _ a b d rows (p6.trans (p7.trans (Po.same p7.2.1 (s1.trans s2)))) ⟨rt, upd_same, ?_⟩ ⟨k1, hb0, hb1, k3⟩ k4 ⟨by omega, hrows⟩
        rw [← er]
        exact s2 _ _ upd_same
end
end K84
set_option Elab.async false
set_option linter.all false
set_option maxRecDepth 100000
set_option maxHeartbeats 1000000
/-! the plain law: least forms are the same iff some motion leads -/
namespace K84
open PySem PySem.Spec PyProof.Rows L2
theorem Tn.comp (s t : Tn) : ∃ r : Tn, ∀ x y : Int, r.lx x y = s.lx (t.lx x y) (t.ly x y) ∧ r.ly x y = s.ly (t.lx x y) (t.ly x y) := by
  cases s <;> cases t <;> first
    | (refine ⟨.stay, fun x y => ?_⟩; simp [Tn.lx, Tn.ly]; done)
    | (refine ⟨.left, fun x y => ?_⟩; simp [Tn.lx, Tn.ly]; done)
    | (refine ⟨.back, fun x y => ?_⟩; simp [Tn.lx, Tn.ly]; done)
    | (refine ⟨.right, fun x y => ?_⟩; simp [Tn.lx, Tn.ly]; done)
    | (refine ⟨.mirror, fun x y => ?_⟩; simp [Tn.lx, Tn.ly]; done)
    | (refine ⟨.flip, fun x y => ?_⟩; simp [Tn.lx, Tn.ly]; done)
    | (refine ⟨.swap, fun x y => ?_⟩; simp [Tn.lx, Tn.ly]; done)
    | (refine ⟨.cross, fun x y => ?_⟩; simp [Tn.lx, Tn.ly]; done)
theorem Tn.inv_inv (t : Tn) : t.inv.inv = t := by cases t <;> rfl
theorem movd_comp (s t : Tn) (e1 e2 c1 c2 : Int) (f : Int → Int → Nat) : ∃ (r : Tn) (u v : Int), movd s e1 e2 (movd t c1 c2 f) = movd r u v f := by
  obtain ⟨r, hr⟩ := Tn.comp s t
  have hinv : ∀ x y : Int, r.inv.lx x y = t.inv.lx (s.inv.lx x y) (s.inv.ly x y) ∧ r.inv.ly x y = t.inv.ly (s.inv.lx x y) (s.inv.ly x y) := fun x y => by
    have h := hr (t.inv.lx (s.inv.lx x y) (s.inv.ly x y)) (t.inv.ly (s.inv.lx x y) (s.inv.ly x y))
    rw [Tn.lx_inv, Tn.ly_inv, Tn.lx_inv, Tn.ly_inv] at h
    have a := Tn.inv_lx r (t.inv.lx (s.inv.lx x y) (s.inv.ly x y)) (t.inv.ly (s.inv.lx x y) (s.inv.ly x y))
    have b := Tn.inv_ly r (t.inv.lx (s.inv.lx x y) (s.inv.ly x y)) (t.inv.ly (s.inv.lx x y) (s.inv.ly x y))
    rw [h.1, h.2] at a b
    exact ⟨a, b⟩
  refine ⟨r, s.lx c1 c2 + e1, s.ly c1 c2 + e2, ?_⟩
  funext x y
  have hx : s.inv.lx (x - (s.lx c1 c2 + e1)) (y - (s.ly c1 c2 + e2)) = s.inv.lx (x - e1) (y - e2) - c1 := by
    rw [show x - (s.lx c1 c2 + e1) = (x - e1) - s.lx c1 c2 by omega, show y - (s.ly c1 c2 + e2) = (y - e2) - s.ly c1 c2 by omega, Tn.lx_sub, Tn.inv_lx]
  have hy : s.inv.ly (x - (s.lx c1 c2 + e1)) (y - (s.ly c1 c2 + e2)) = s.inv.ly (x - e1) (y - e2) - c2 := by
    rw [show x - (s.lx c1 c2 + e1) = (x - e1) - s.lx c1 c2 by omega, show y - (s.ly c1 c2 + e2) = (y - e2) - s.ly c1 c2 by omega, Tn.ly_sub, Tn.inv_ly]
  show f (t.inv.lx (s.inv.lx (x - e1) (y - e2) - c1) (s.inv.ly (x - e1) (y - e2) - c2)) (t.inv.ly (s.inv.lx (x - e1) (y - e2) - c1) (s.inv.ly (x - e1) (y - e2) - c2)) = f (r.inv.lx (x - (s.lx c1 c2 + e1)) (y - (s.ly c1 c2 + e2))) (r.inv.ly (x - (s.lx c1 c2 + e1)) (y - (s.ly c1 c2 + e2)))
  rw [(hinv _ _).1, (hinv _ _).2, hx, hy]
theorem movd_back {t : Tn} {u v : Int} {f g : Int → Int → Nat} (h : movd t u v f = g) : ∃ (r : Tn) (u' v' : Int), movd r u' v' g = f := by
  refine ⟨t.inv, -(t.inv.lx u v), -(t.inv.ly u v), ?_⟩
  funext x y
  rw [← h]
  unfold movd
  rw [Tn.inv_inv, Int.sub_neg, Int.sub_neg, Tn.lx_add, Tn.ly_add, Tn.lx_inv, Tn.ly_inv, Int.add_sub_cancel, Int.add_sub_cancel, Tn.inv_lx, Tn.inv_ly]
/-- a shift may be taken by its place -/
theorem shift_place {h : Int → Int → Nat} {A B D : Int} (hA : 1 ≤ A) (hD : 1 ≤ D) (pA : IsPer h A 0) (pD : IsPer h B D) (u v : Int) : movd .stay u v h = movd .stay ((u - v / D * B) % A) (v % D) h := by
  funext x y
  show h (x - u) (y - v) = h (x - (u - v / D * B) % A) (y - v % D)
  have p : IsPer h ((u - v / D * B) / A * A + v / D * B) (v / D * D) := ((pA.mul _).add (pD.mul (v / D))).cast rfl (by simp)
  have := p (x - u) (y - v)
  rw [← this]
  have e1 := Int.emod_add_mul_ediv v D
  have e2 := Int.emod_add_mul_ediv (u - v / D * B) A
  rw [Int.mul_comm D] at e1
  rw [Int.mul_comm A] at e2
  congr 1 <;> omega
theorem place_mem {A D : Int} (hA : 1 ≤ A) (hD : 1 ≤ D) (x y : Int) : (x % A, y % D) ∈ placesL A.toNat D.toNat := by
  have n1 := Int.emod_nonneg x (show A ≠ 0 by omega)
  have l1 := Int.emod_lt_of_pos x (show 0 < A by omega)
  have n2 := Int.emod_nonneg y (show D ≠ 0 by omega)
  have l2 := Int.emod_lt_of_pos y (show 0 < D by omega)
  exact mem_places.mpr ⟨n1, by omega, n2, by omega⟩
theorem form_any {f : Int → Int → Nat} {t : Tn} {A B D : Int} (h : LeastOf (movd t 0 0 f) A B D) (u v : Int) : IsForm f t (A, B, D, rowsS (movd t u v f) A.toNat D.toNat) := by
  obtain ⟨b1, b2, b3, b4⟩ := id h.1
  refine ⟨A, B, D, _, h, place_mem b1 b4 (u - v / D * B) v, ?_⟩
  have := shift_place b1 b4 h.pA h.pD u v
  rw [movd_stay, movd_stay] at this
  rw [this]
theorem least_of_moved {f : Int → Int → Nat} {t : Tn} {u v A B D : Int} (h : LeastOf (movd t u v f) A B D) : LeastOf (movd t 0 0 f) A B D := by
  rw [← movd_stay] at h
  exact ⟨h.1, fun x y => (stay_per (u := u) (v := v)).symm.trans (h.2 x y)⟩
theorem forms_sub {f g : Int → Int → Nat} {t : Tn} {u v : Int} (h : movd t u v f = g) {s : Tn} {G : Fm} (hG : IsForm g s G) : ∃ r, IsForm f r G := by
  obtain ⟨A, B, D, c, hle, hc, rfl⟩ := hG
  have hle2 := stay_least (u := c.1) (v := c.2) hle
  rw [movd_stay] at hle2
  rw [← h] at hle2 ⊢
  obtain ⟨r, u', v', e⟩ := movd_comp s t c.1 c.2 u v f
  rw [e] at hle2 ⊢
  exact ⟨r, form_any (least_of_moved hle2) u' v'⟩
theorem least_moved {f g : Int → Int → Nat} {t : Tn} {u v : Int} (h : movd t u v f = g) {F : Fm} (hF : LeastFm f F) : LeastFm g F := by
  obtain ⟨r, u', v', hb⟩ := movd_back h
  obtain ⟨⟨s, hs⟩, hl⟩ := hF
  refine ⟨forms_sub hb hs, fun s2 G hG => ?_⟩
  obtain ⟨r2, hr2⟩ := forms_sub h hG
  exact hl r2 G hr2
theorem msL_mem {f g : Int → Int → Nat} {A D : Nat} : msL f g A D ≠ [] ↔ ∃ t c, c ∈ placesL A D ∧ movd t c.1 c.2 f = g := by
  constructor
  · intro h
    obtain ⟨m, hm⟩ := List.exists_mem_of_ne_nil _ h
    obtain ⟨t, _, hm2⟩ := List.mem_flatMap.mp hm
    obtain ⟨c, hc, _⟩ := List.mem_map.mp hm2
    rw [List.mem_filter, okT_iff] at hc
    exact ⟨t, c, hc.1, hc.2⟩
  · rintro ⟨t, c, hc, e⟩ z
    have : (t, c) ∈ msL f g A D := List.mem_flatMap.mpr ⟨t, Tn.mem_all t, List.mem_map.mpr ⟨c, List.mem_filter.mpr ⟨hc, okT_iff.mpr e⟩, rfl⟩⟩
    rw [z] at this
    cases this
theorem msL_any {f g : Int → Int → Nat} {A B D : Int} (hg : LeastOf g A B D) {t : Tn} {u v : Int} (h : movd t u v f = g) : msL f g A.toNat D.toNat ≠ [] := by
  obtain ⟨b1, b2, b3, b4⟩ := id hg.1
  have hl := least_of_moved (f := f) (t := t) (u := u) (v := v) (by rw [h]; exact hg)
  refine msL_mem.mpr ⟨t, _, place_mem b1 b4 (u - v / D * B) v, ?_⟩
  have := shift_place b1 b4 hl.pA hl.pD u v
  rw [movd_stay, movd_stay] at this
  rw [← this]
  exact h
theorem least_iff {f g : Int → Int → Nat} {F G : Fm} {A B D : Int} (hF : LeastFm f F) (hG : LeastFm g G) (hg : LeastOf g A B D) : F = G ↔ msL f g A.toNat D.toNat ≠ [] := by
  constructor
  · rintro rfl
    obtain ⟨⟨t, A1, B1, D1, c1, hl1, hc1, e1⟩, _⟩ := hF
    obtain ⟨⟨s, A2, B2, D2, c2, hl2, hc2, e2⟩, _⟩ := hG
    rw [e1] at e2
    simp only [Prod.mk.injEq] at e2
    obtain ⟨rfl, rfl, rfl, er⟩ := e2
    have k1 := stay_least (u := c1.1) (v := c1.2) hl1
    have k2 := stay_least (u := c2.1) (v := c2.2) hl2
    rw [movd_stay] at k1 k2
    have e := (rowsS_inj k1 k2).mp er
    obtain ⟨r, u', v', hb⟩ := movd_back (f := g) (g := movd s c2.1 c2.2 g) rfl
    rw [← e] at hb
    obtain ⟨r2, u2, v2, e3⟩ := movd_comp r t u' v' c1.1 c1.2 f
    rw [e3] at hb
    exact msL_any hg hb
  · intro h
    obtain ⟨t, c, _, e⟩ := msL_mem.mp h
    exact (least_moved e hF).uniq hG
end K84
set_option Elab.async false
set_option linter.all false
set_option maxRecDepth 100000
set_option maxHeartbeats 1000000
/-! the law's own defs: is_right: what it needs -/
namespace K84
open PySem PySem.Spec PyProof.Rows L2
/-- all but the pool and the tables stays -/
def PG (K : PySem.W.Frag) (pl : Addr) (H H' : Hp) : Prop := (∀ b o, H b = some o → b ≠ pl → (∀ ps, o ≠ .tbl ps) → H' b = some o) ∧ (LamX.Tabs (tb K) H → LamX.Tabs (tb K) H')
theorem PG.trans {K : PySem.W.Frag} {pl : Addr} {H H1 H2 : Hp} (a : PG K pl H H1) (b : PG K pl H1 H2) : PG K pl H H2 := ⟨fun c o e n m => b.1 c o (a.1 c o e n m) n m, fun t => b.2 (a.2 t)⟩
theorem PG.gr {K : PySem.W.Frag} {pl : Addr} {H H' : Hp} (h : Gr K H H') : PG K pl H H' := ⟨fun c o e _ m => h.1 c o e m, h.2⟩
theorem PG.po {K : PySem.W.Frag} {pl : Addr} {H H' : Hp} (h : Po pl H H') : PG K pl H H' := by
  refine ⟨fun c o e n _ => h.2.2 c o e n, fun t p hp => ?_⟩
  obtain ⟨x, y, q⟩ := h.1
  obtain ⟨ps, h1, h2, h3⟩ := t p hp
  refine ⟨ps, h.2.2 _ _ h1 fun z => (by rw [z, q] at h1; cases h1), h2, fun pos cv hc => ?_⟩
  obtain ⟨c, e1, e2⟩ := h3 pos cv hc
  exact ⟨c, e1, h.2.2 _ _ e2 fun z => by rw [z, q] at e2; unfold LamX.CodeO at e2; cases e2⟩
/-- the data of a motion -/
def mD (m : Tn × (Int × Int)) : PyData := .tuple [.str m.1.str, .tuple [.int m.2.1, .int m.2.2]]
def MItem (K : PySem.W.Frag) (H : Hp) (m : Tn × (Int × Int)) (y : V) : Prop := ∃ r s, y = .ref r ∧ SqT K H r [.str m.1.str, .ref s] ∧ SqT K H s [.int m.2.1, .int m.2.2]
theorem dpa_ms {K : PySem.W.Frag} {H : Hp} : ∀ {ms : List (Tn × (Int × Int))} {zs : List V}, Paired (MItem K H) ms zs → DpAll K H zs (ms.map mD)
  | _, _, .nil => .nil
  | _, _, .cons r t => by
    obtain ⟨r, s, rfl, h1, h2⟩ := r
    exact .cons (.tup h1 (.cons (.str _) (.cons (.tup h2 (.cons (.int _) (.cons (.int _) .nil))) .nil))) (dpa_ms t)
theorem lay_ms : ∀ ms : List (Tn × (Int × Int)), PyData.canLayAll0 (ms.map mD) = true
  | [] => rfl
  | m :: ms => by
    rw [List.map_cons, PyData.canLayAll0, lay_ms ms, Bool.and_true]
    unfold mD
    simp only [PyData.canLay0, PyData.canLayAll0, Bool.and_true]
    cases m.1 <;> decide +kernel
theorem dep_ms : ∀ ms : List (Tn × (Int × Int)), PyData.depthAll (ms.map mD) ≤ 2
  | [] => Nat.zero_le _
  | m :: ms => by
    rw [List.map_cons, PyData.depthAll]
    have := dep_ms ms
    have h : (mD m).depth = 2 := by
      unfold mD
      simp only [PyData.depth, PyData.depthAll]
      decide
    rw [h]
    omega
theorem shp_ms (ms : List (Tn × (Int × Int))) : SeqAt.shaped (.list (ms.map mD)) = true := by
  unfold SeqAt.shaped
  rw [PyData.canLay0, lay_ms, Bool.true_and]
  refine decide_eq_true ?_
  rw [PyData.depth]
  have := dep_ms ms
  omega
theorem alike_ms : ∀ ms : List (Tn × (Int × Int)), PySem.W.alikeAll (ms.map mD) (ms.map mD) = true
  | [] => by simp [PySem.W.alikeAll]
  | m :: ms => by
    rw [List.map_cons, PySem.W.alikeAll, alike_ms ms, Bool.and_true]
    unfold mD
    simp [PySem.W.alike, PySem.W.alikeAll]
theorem eqv_ms (ms : List (Tn × (Int × Int))) : PyData.eqv (.list (ms.map mD)) (.list (ms.map mD)) = true := PySem.W.eqv_refl_alike _ (by rw [PySem.W.alike]; exact alike_ms ms)
theorem shp_fm {F : Fm} (h : ∀ r ∈ F.2.2.2, PyData.strOk r = true) : SeqAt.shaped (fmD F) = true := by
  unfold SeqAt.shaped fmD
  simp only [PyData.canLay0, PyData.canLayAll0, lay_strs h, PyData.depth, PyData.depthAll, dep_strs]
  decide
theorem eqv_fm (F G : Fm) : PyData.eqv (fmD F) (fmD G) = decide (F = G) := by
  unfold fmD
  obtain ⟨a, b, c, d⟩ := F
  obtain ⟨a', b', c', d'⟩ := G
  simp only [PyData.eqv, PyData.eqvAll, eqvA_strs]
  rw [Bool.eq_iff_iff]
  simp [Prod.mk.injEq, and_assoc]
section
variable {P : Program} {w : World} {K : PySem.W.Frag} {mg : Str → Option Value} {base : Heap}
abbrev NIR : List Str := ["_law_pool_here", "_law_many", "_law_told", "_law_other_told", "_law_one", "_law_other", "_law_table_here", "_law_beside", "_law_word", "_law_shift", "_law_due", "_law_least", "_law_form_here", "_law_motion_here"]
theorem sc_rt : FnScope NIR ["_law_pool_here"] d__law_is_right.scope := ⟨rfl, rfl, rfl, by decide +kernel, rfl, by decide +kernel, by decide +kernel⟩
end
end K84
set_option Elab.async false
set_option linter.all false
set_option maxRecDepth 100000
set_option maxHeartbeats 0
/-! is_right, from its own motions on -/
namespace K84
open PySem PySem.Spec PyProof.Rows L2
theorem four_ints (x : V) (h : x ∈ ([.int 4, .int 4, .int 6, .int 8] : List V)) : ∃ n : Nat, x = .int (n : Int) ∧ 0 < n ∧ n ≤ 12 := by
  simp only [List.mem_cons, List.not_mem_nil, or_false] at h
  rcases h with rfl | rfl | rfl | rfl
  · exact ⟨4, rfl, by decide, by decide⟩
  · exact ⟨4, rfl, by decide, by decide⟩
  · exact ⟨6, rfl, by decide, by decide⟩
  · exact ⟨8, rfl, by decide, by decide⟩
theorem tor_told {a b d : Int} {rows : List Str} {n : Nat} (h : Bas a b d) (hd : a * d ∣ (n : Int)) : Tor (colr a b d rows) (n : Int) := by
  obtain ⟨k, hk⟩ := hd
  have pa := colr_a (rows := rows) h
  have pb := colr_b (rows := rows) h
  constructor
  · exact (pa.mul (d * k)).cast (by rw [hk, Int.mul_comm (d * k) a, ← Int.mul_assoc]) (by simp)
  · have p1 := (pb.mul (a * k)).sub (pa.mul (k * b))
    refine p1.cast ?_ ?_
    · rw [Int.mul_assoc a k b, Int.mul_comm (k * b) a]
      omega
    · rw [hk, Int.mul_zero, Int.sub_zero, Int.mul_assoc a k d, Int.mul_comm k d, ← Int.mul_assoc]
theorem FmAt.kp {H H' : Hp} (e : Kp H H') {p : Addr} {F : Fm} (h : FmAt H p F) : FmAt H' p F := let ⟨rn, h1, h2⟩ := h; ⟨rn, e.tup h1, e.tup h2⟩
theorem MItem.kp {K : PySem.W.Frag} {H H' : Hp} (e : Kp H H') {m : Tn × (Int × Int)} {y : V} (h : MItem K H m y) : MItem K H' m y := let ⟨r, s, a, b, c⟩ := h; ⟨r, s, a, e.sqT b, e.sqT c⟩
theorem lmot_item {K : PySem.W.Frag} {H : Hp} {m : Tn × (Int × Int)} {y : V} (h : LMot H m y) : MItem K H m y := let ⟨r, s, a, b, c⟩ := h; ⟨r, s, a, SqT.of b, SqT.of c⟩
theorem mitems {K : PySem.W.Frag} {H : Hp} {l : List (Tn × (Int × Int))} {zs : List V} (h : Paired (fun i y => MItem K H (l.getD i (.stay, 0, 0)) y) (List.range l.length) zs) : Paired (MItem K H) l zs := by
  have h2 := paired_map (F := MItem K H) (fun i => l.getD i (.stay, 0, 0)) h
  rw [range_getD] at h2
  exact h2
theorem msL_small {f g : Int → Int → Nat} {A D : Int} (hA : 0 ≤ A) (hD : 0 ≤ D) (h : A * D ≤ 144) : (msL f g A.toNat D.toNat).length ≤ 100000 := by
  have l1 := msF_len f g A.toNat D.toNat Tn.all
  have l2 : D.toNat * A.toNat ≤ 144 := by
    have : ((D.toNat * A.toNat : Nat) : Int) = A * D := by rw [Int.natCast_mul, Int.toNat_of_nonneg hD, Int.toNat_of_nonneg hA, Int.mul_comm]
    omega
  have l3 : Tn.all.length * (D.toNat * A.toNat) ≤ 8 * 144 := Nat.mul_le_mul (show Tn.all.length ≤ 8 by decide) l2
  exact Nat.le_trans l1 (Nat.le_trans l3 (by decide))
theorem movd_zero (g : Int → Int → Nat) : movd .stay 0 0 g = g := by
  funext x y
  show g (x - 0) (y - 0) = g x y
  rw [Int.sub_zero, Int.sub_zero]
section
variable {P : Program} {w : World} {K : PySem.W.Frag} {mg : Str → Option Value} {base : Heap}
theorem right_rest2 (T : Txt w K mg) (TB : TBs K base mg) {f0 : Addr} {cdv : Value} {Ar : Around} {outer : List Env} {st : Shared} {H : Hp} {E : XK} (hr : Room 15 (Ar.deeper (envOfC d__law_is_right.qual d__law_is_right.scope st.heap.objs.size f0 cdv))) :
    ∃ t2, PSs (cxOf CX0 P w K mg base NIR d__law_is_right.qual d__law_is_right.scope f0 cdv Ar outer st H E).nox (d__law_is_right.body.drop 8) t2 ∧
    ∀ (pl o1 oth tb1 bes due : Addr) (x2 x3 wv sv : Option V) (n : Nat) (f g : Int → Int → Nat) (A B D A2 B2 D2 : Int) (dz : List V) (HH : Hp) (Q : VK), CarAt K HH o1 f A B D → CarAt K HH oth g A2 B2 D2 → TabO HH tb1 (n : Int) f → TabO HH bes (n : Int) g → Tor f (n : Int) → Tor g (n : Int) →
      (∀ x y, 48 ≤ g x y ∧ g x y ≤ 57) → 0 < n → n ≤ 12 → LamX.Tabs (tb K) HH → HH due = some (.lst dz) → (dz = [] ↔ msL f g A2.toNat D2.toNat = []) → (∀ H', Gr K HH H' → Q (.bl true) H') →
      t2 { nx := fun _ H' => Q .non H', rt := Q } [some (.ref pl), some (.int (n : Int)), x2, x3, some (.ref o1), some (.ref oth), some (.ref tb1), some (.ref bes), wv, sv, some (.ref due), none, none, none] HH := by
    have nd := sc_rt.nd
    refine ⟨_, (pss_cons (ps_if (pt_cmpR (op_neD (un64 hr)) (pe_lc (own := [("_law_motion_here", 13)]) rfl nd (pi_list (pe_fn (ok_own_motions T TB) hr (pa_cons (pv 4) pa_nil))) (blkOk_by (own := [("_law_motion_here", 13)]) (N := NIR) (sc := d__law_is_right.scope) (by decide +kernel)) (fun _ _ _ _ _ => (pg_name (i := 13) nd rfl (Or.inl rfl))) (fun _ _ _ _ _ => pts_nil) (fun _ _ _ _ _ => (pe_tup (pa_cons (pe_fldK (K := K) rfl (pv 13) rfl) (pa_cons (pe_fldK (K := K) rfl (pv 13) rfl) pa_nil))))) (pe_fn (ok_between T) hr (pa_cons (pv 6) (pa_cons (pv 6) (pa_cons (pv 1) pa_nil)))) (nomark _)) (pss_one (ps_ret pe_bl)) pss_nil)
      (pss_cons (ps_par (i := 11) (j := 12) rfl nd rfl rfl (by decide) rfl rfl (pa_cons (pe_fn (ok_least_form T TB) hr (pa_cons (pv 5) pa_nil)) (pa_cons (pe_fn (ok_l_least T) hr (pa_cons (pv 7) (pa_cons (pv 1) pa_nil))) pa_nil)) (by rfl))
      (pss_cons (ps_if (PW.pt (pw_or (pt_cmpR op_ne (pe_fn (ok_are_like T TB) hr (pa_cons (pv 4) (pa_cons (pv 5) pa_nil))) (pe_cmpR (op_neEmpty hr.units0) (pv 10) (pe_lst pa_nil) (nomark _)) (nomark _)) (pw_or1 (pt_cmpR (op_neD (un64 hr)) (pe_tup (pa_cons (pe_fld (pv 11) rfl) (pa_cons (pe_fld (pv 11) rfl) (pa_cons (pe_fld (pv 11) rfl) (pa_cons (pe_callTy call_tuple_of (by rfl) T.f_tuple b_tuple (pa_cons (pe_fld (pv 11) rfl) pa_nil)) pa_nil))))) (pv 12) (nomark _))))) (pss_one (ps_ret pe_bl)) pss_nil)
      (pss_one (ps_ret (pe_cmpR op_eq (pe_cmpR (op_eqD (un64 hr)) (pe_m0 (K := K) rfl (ok_c_normal T) T.c_Carpet T.m_Carpet_normal hr (pe_fn (ok_least_form T TB) hr (pa_cons (pv 4) pa_nil))) (pe_m0 (K := K) rfl (ok_c_normal T) T.c_Carpet T.m_Carpet_normal hr (pv 11)) (nomark _)) (pe_cmpR (op_neEmpty hr.units0) (pv 10) (pe_lst pa_nil) (nomark _)) (nomark _))))))), ?_⟩
    intro pl o1 oth tb1 bes due x2 x3 wv sv n f g A B D A2 B2 D2 dz HH Q hone hoth ht1 ht2 htf htg hrg hn hn12 hTb hdue hdz q
    obtain ⟨a8, b8, d8, rows8, co8⟩ := id hone
    obtain ⟨a9, b9, d9, rows9, co9⟩ := id hoth
    refine ⟨_, rfl, o1, f, A, B, D, rfl, hone, hTb, fun ml H23 mz g23 nml hml pml => ⟨ml, rfl, ⟨_, SqL.of hml⟩, fun Dd nD => ?_⟩⟩
    have lmz := paired_len pml
    have lms : (msL f f A.toNat D.toNat).length ≤ 100000 := msL_small (by have := co8.le.1; unfold Bas at this; omega) (by have := co8.le.1; unfold Bas at this; omega) co8.least_sz
    refine lcL evoSame (K := K) (a := ml) (xs := mz) (fun H e => SqL.of (e _ _ hml)) (fun _ => true) (fun i y H => MItem K H ((msL f f A.toNat D.toNat).getD i (.stay, 0, 0)) y) nD (by omega) (fun i y H H' e h => h.kp e) (fun i x H24 Kc Kn hx e24 hc _ => ?_) (fun H24 zs e24 hD al => ?_)
    · have hi : i < (msL f f A.toNat D.toNat).length := by
        rw [← lmz]
        exact (List.getElem?_eq_some_iff.mp hx).1
      obtain ⟨z', hz', pm, rfl, ⟨dm0, sm0, hm1, hm2⟩⟩ := paired_at pml (List.getElem?_eq_getElem hi)
      rw [hx] at hz'
      cases hz'
      rw [getD_at (List.getElem?_eq_getElem hi)] at hc
      have hm1' := e24 _ _ hm1
      refine ⟨rfl, _, rfl, pm, _, dm0, _, _, rfl, hm1', T.c_Motion, T.n_Motion_turn, motF_turn, _, rfl, pm, _, dm0, _, _, rfl, hm1', T.c_Motion, T.n_Motion_shift, motF_shift, two_le, fun ri hri => ?_⟩
      have e25 := same_new (o := .tup [.str (msL f f A.toNat D.toNat)[i].1.str, .ref sm0]) hri
      exact hc _ _ rfl e25 ⟨ri, sm0, rfl, SqT.of upd_same, sqT_same (e24.trans e25) hm2⟩
    rw [lmz] at al
    unfold Al at al
    rw [filter_yes] at al
    have pit := mitems al
    have g24 : Gr K HH H24 := (evoGr K).trans g23 ((evoGr K).same e24)
    have k24 := (evoGr K).kp g24
    refine ⟨_, rfl, _, rfl, _, rfl, tb1, tb1, n, f, f, rfl, ht1.kp k24, ht1.kp k24, htf, htf, hn, hn12, fun du2 H25 dz2 A5 B5 D5 e25 hdu2 hle5 pdu2 => ?_⟩
    obtain ⟨eA5, eB5, eD5⟩ := hle5.uniq co8.le
    rw [eA5, eD5] at pdu2
    refine ⟨_, _, .lst (SqL.of (e25 _ _ hD)) (dpa_ms (paired_imp (fun m y h => h.kp (Kp.of e25)) pit)), .lst (SqL.of hdu2) (dpa_ms (paired_imp (fun m y h => lmot_item (K := K) h) pdu2)), shp_ms _, shp_ms _, _, rfl, ?_⟩
    rw [eqv_ms]
    refine iteF ?_
    have g25 : Gr K HH H25 := (evoGr K).trans g24 ((evoGr K).same e25)
    have k25 := (evoGr K).kp g25
    refine ⟨_, rfl, oth, g, A2, B2, D2, rfl, hoth.kp k25, g25.tabs hTb, fun xl H28 hf A6 B6 D6 g28 hlf cn => ?_⟩
    have g028 : Gr K HH H28 := (evoGr K).trans g25 g28
    have k28 := (evoGr K).kp g028
    refine ⟨_, rfl, _, rfl, bes, n, g, rfl, ht2.kp k28, htg, hn, hn12, hrg, fun lf H29 F29 e29 hF29 hlf29 => ?_⟩
    have eF := hlf.uniq hlf29
    subst eF
    have g029 : Gr K HH H29 := (evoGr K).trans g028 ((evoGr K).same e29)
    have k29 := (evoGr K).kp g029
    have cn29 := cn.kp (Kp.of e29)
    obtain ⟨dxl, rl, ll, shl, hl1, hl2, hl3, hl4⟩ := cn29.ob
    refine ⟨_, _, rfl, _, rfl, _, rfl, o1, oth, f, g, A, B, D, A2, B2, D2, rfl, hone.kp k29, hoth.kp k29, g029.tabs hTb, fun b H30 g30 hb => ?_⟩
    have g030 : Gr K HH H30 := (evoGr K).trans g029 g30
    have hdue30 := (evoGr K).lst g030 hdue
    refine ⟨_, rfl, Nat.zero_le _, fun el hel => ⟨due, el, dz, rfl, rfl, SqL.of (same_new hel _ _ hdue30), SqL.of upd_same, rfl, _, rfl, ?_⟩⟩
    have ebd : b = !decide (dz = []) := by
      rw [Bool.eq_iff_iff, hb]
      simp [hdz]
    rw [show decide (V.bl b = V.bl (!decide (dz = []))) = true from decide_eq_true (by rw [ebd])]
    refine iteF ?_
    have e31 : Same H30 (upd H30 el (.lst [])) := same_new hel
    have g3031 : Gr K H29 (upd H30 el (.lst [])) := (evoGr K).trans g30 ((evoGr K).same e31)
    have k31 := (evoGr K).kp g3031
    have hl1' := k31.ins hl1
    have hl2' := k31.sqT hl2
    refine ⟨_, rfl, xl, _, dxl, _, _, rfl, hl1', T.c_Carpet, T.n_Carpet_a, carF_a, _, rfl, xl, _, dxl, _, _, rfl, hl1', T.c_Carpet, T.n_Carpet_b, carF_b, _, rfl, xl, _, dxl, _, _, rfl, hl1', T.c_Carpet, T.n_Carpet_d, carF_d, _, rfl, xl, _, dxl, _, _, rfl, hl1', T.c_Carpet, T.n_Carpet_rows, carF_rows, rl, _, rfl, .inr ⟨hl2', ?_⟩⟩
    refine ⟨(by show 4 ≤ sizeLine; decide), fun tt htt => ?_⟩
    have e32 : Same (upd H30 el (.lst [])) (upd (upd H30 el (.lst [])) tt (.tup [.int A6, .int B6, .int D6, .ref rl])) := same_new htt
    have g2932 : Gr K H29 (upd (upd H30 el (.lst [])) tt (.tup [.int A6, .int B6, .int D6, .ref rl])) := (evoGr K).trans g3031 ((evoGr K).same e32)
    have g032 : Gr K HH (upd (upd H30 el (.lst [])) tt (.tup [.int A6, .int B6, .int D6, .ref rl])) := (evoGr K).trans g029 g2932
    have hF32 := FmAt.kp ((evoGr K).kp g2932) hF29
    have dT : Dp K (upd (upd H30 el (.lst [])) tt (.tup [.int A6, .int B6, .int D6, .ref rl])) (.ref tt) (fmD (A6, B6, D6, rowsS hf A6.toNat D6.toNat)) := .tup (SqT.of upd_same) (.cons (.int _) (.cons (.int _) (.cons (.int _) (.cons (dp_strs (sqT_same e32 hl2')) .nil))))
    refine ⟨_, rfl, fmD (A6, B6, D6, rowsS hf A6.toNat D6.toNat), _, dT, dp_fm hF32, shp_fm cn.ro.strs, shp_fm cn.ro.strs, _, rfl, ?_⟩
    rw [eqv_fm, decide_eq_true rfl]
    refine iteF ?_
    have k032 := (evoGr K).kp g032
    refine ⟨_, rfl, o1, f, A, B, D, rfl, hone.kp k032, g032.tabs hTb, fun xo H33 ho A7 B7 D7 g33 hlo co => ?_⟩
    obtain ⟨dxo, ro, lo, sho, ho1, ho2, ho3, ho4⟩ := co.ob
    have cn33 := (cn29.kp ((evoGr K).kp g2932)).kp ((evoGr K).kp g33)
    obtain ⟨dx3, rl3, ll3, sh3, hl31, hl32, hl33, hl34⟩ := cn33.ob
    have g033 : Gr K HH H33 := (evoGr K).trans g032 g33
    refine ⟨xo, dxo, _, rfl, ho1, carF_no (by decide +kernel), xo, ho, A7, B7, D7, rfl, ⟨_, _, _, _, co⟩, fun sh1 hsh1 => ?_⟩
    refine ⟨_, rfl, xl, dx3, _, rfl, hl31, carF_no (by decide +kernel), xl, hf, A6, B6, D6, rfl, ⟨_, _, _, _, cn33⟩, fun sh2 hsh2 => ?_⟩
    refine ⟨_, _, dp_fm (show FmAt H33 sh1 (A7, B7, D7, rowsS ho A7.toNat D7.toNat) from hsh1), dp_fm (show FmAt H33 sh2 (A6, B6, D6, rowsS hf A6.toNat D6.toNat) from hsh2), shp_fm co.ro.strs, shp_fm cn.ro.strs, ?_⟩
    refine ⟨_, rfl, Nat.zero_le _, fun el2 hel2 => ⟨due, el2, dz, rfl, rfl, SqL.of (same_new hel2 _ _ ((evoGr K).lst g033 hdue)), SqL.of upd_same, rfl, ?_⟩⟩
    have efin : PyData.eqv (fmD (A7, B7, D7, rowsS ho A7.toNat D7.toNat)) (fmD (A6, B6, D6, rowsS hf A6.toNat D6.toNat)) = !decide (dz = []) := by
      rw [eqv_fm, Bool.eq_iff_iff, decide_eq_true_iff, least_iff hlo hlf co9.le]
      simp [hdz]
    rw [efin]
    rw [show decide (V.bl (!decide (dz = [])) = V.bl (!decide (dz = []))) = true from decide_eq_true rfl]
    exact q _ ((evoGr K).trans g033 ((evoGr K).same (same_new hel2)))
end
end K84
set_option Elab.async false
set_option linter.all false
set_option maxRecDepth 100000
set_option maxHeartbeats 0
/-! is_right, behind the draws -/
namespace K84
open PySem PySem.Spec PyProof.Rows L2
section
variable {P : Program} {w : World} {K : PySem.W.Frag} {mg : Str → Option Value} {base : Heap}
theorem right_rest (T : Txt w K mg) (TB : TBs K base mg) {f0 : Addr} {cdv : Value} {Ar : Around} {outer : List Env} {st : Shared} {H : Hp} {E : XK} (hr : Room 15 (Ar.deeper (envOfC d__law_is_right.qual d__law_is_right.scope st.heap.objs.size f0 cdv))) :
    ∃ t2, PSs (cxOf CX0 P w K mg base NIR d__law_is_right.qual d__law_is_right.scope f0 cdv Ar outer st H E).nox (d__law_is_right.body.drop 5) t2 ∧
    ∀ (pl o1 oth tb1 bes : Addr) (x2 x3 wv sv : Option V) (n : Nat) (f g : Int → Int → Nat) (A B D A2 B2 D2 : Int) (HH : Hp) (Q : VK), CarAt K HH o1 f A B D → CarAt K HH oth g A2 B2 D2 → TabO HH tb1 (n : Int) f → TabO HH bes (n : Int) g → Tor f (n : Int) → Tor g (n : Int) →
      (∀ x y, 48 ≤ g x y ∧ g x y ≤ 57) → 0 < n → n ≤ 12 → LamX.Tabs (tb K) HH → (∀ H', Gr K HH H' → Q (.bl true) H') →
      t2 { nx := fun _ H' => Q .non H', rt := Q } [some (.ref pl), some (.int (n : Int)), x2, x3, some (.ref o1), some (.ref oth), some (.ref tb1), some (.ref bes), wv, sv, none, none, none, none] HH := by
    have nd := sc_rt.nd
    obtain ⟨t3, ht3, hrest⟩ := right_rest2 (P := P) (w := w) (K := K) (mg := mg) (base := base) (f0 := f0) (cdv := cdv) (Ar := Ar) (outer := outer) (st := st) (H := H) (E := E) T TB hr
    refine ⟨_, (pss_cons (ps_if (pt_cmpR (op_neD (un64 hr)) (pe_m0 (K := K) rfl (ok_c_normal T) T.c_Carpet T.m_Carpet_normal hr (pv 5)) (pe_fn (ok_l_form T) hr (pa_cons (pv 7) (pa_cons (pe_fn (ok_l_lattice T) hr (pa_cons (pv 7) (pa_cons (pv 1) pa_nil))) (pa_cons (pe_tup (pa_cons pe_int (pa_cons pe_int pa_nil))) (pa_cons (pv 1) pa_nil))))) (nomark _)) (pss_one (ps_ret pe_bl)) pss_nil)
      (pss_cons (ps_set (i := 10) nd rfl (Or.inl rfl) (pe_fn (ok_between T) hr (pa_cons (pv 6) (pa_cons (pv 7) (pa_cons (pv 1) pa_nil)))))
      (pss_cons (ps_if (pt_cmpR (op_neD (un64 hr)) (pe_lc (own := [("_law_motion_here", 13)]) rfl nd (pi_list (pe_fn (ok_motions_between T TB) hr (pa_cons (pv 4) (pa_cons (pv 5) pa_nil)))) (blkOk_by (own := [("_law_motion_here", 13)]) (N := NIR) (sc := d__law_is_right.scope) (by decide +kernel)) (fun _ _ _ _ _ => (pg_name (i := 13) nd rfl (Or.inl rfl))) (fun _ _ _ _ _ => pts_nil) (fun _ _ _ _ _ => (pe_tup (pa_cons (pe_fldK (K := K) rfl (pv 13) rfl) (pa_cons (pe_fldK (K := K) rfl (pv 13) rfl) pa_nil))))) (pv 10) (nomark _)) (pss_one (ps_ret pe_bl)) pss_nil) ht3))), ?_⟩
    intro pl o1 oth tb1 bes x2 x3 wv sv n f g A B D A2 B2 D2 HH Q hone hoth ht1 ht2 htf htg hrg hn hn12 hTb q
    obtain ⟨a9, b9, d9, rows9, co9⟩ := id hoth
    obtain ⟨dx9, r9, l9, sh9, h91, _⟩ := co9.ob
    refine ⟨_, rfl, oth, dx9, _, rfl, h91, carF_no (by decide +kernel), oth, g, A2, B2, D2, rfl, hoth, fun sh hsh => ?_⟩
    refine ⟨_, rfl, _, rfl, _, rfl, bes, n, g, rfl, ht2, htg, hn, hn12, fun l H20 A3 B3 D3 e20 hl3 hle3 hA3 hD3 => ?_⟩
    obtain ⟨rfl, rfl, rfl⟩ := hle3.uniq co9.le
    have hbs3 : BasS A3 B3 D3 := bas_small co9.le.1 co9.least_sz
    refine ⟨two_le, fun z0 hz0 => ?_⟩
    have e21 := same_new (o := .tup [.int 0, .int 0]) hz0
    refine ⟨_, rfl, bes, l, z0, (n : Int), g, A3, B3, D3, 0, 0, rfl, ht2.same (e20.trans e21), htg, by omega, hrg, SqT.of (e21 _ _ hl3), hbs3, SqT.of upd_same, fun r H21 e22 hFm => ?_⟩
    rw [movd_zero] at hFm
    have e2021 := e20.trans (e21.trans e22)
    have hro3 : RowsOk A3 D3 (rowsS g A3.toNat D3.toNat) := rowsOk_of hrg (by have := co9.le.1; unfold Bas at this; omega) (by have := co9.le.1; unfold Bas at this; omega)
    refine ⟨_, _, dp_fm (show FmAt H21 sh (A3, B3, D3, rowsS g A3.toNat D3.toNat) from hsh.kp (Kp.of e2021)), dp_fm hFm, shp_fm hro3.strs, shp_fm hro3.strs, _, rfl, ?_⟩
    rw [eqv_fm, decide_eq_true rfl]
    refine iteF ?_
    refine ⟨_, rfl, _, rfl, _, rfl, tb1, bes, n, f, g, rfl, ht1.same e2021, ht2.same e2021, htf, htg, hn, hn12, fun due H22 dz A4 B4 D4 e23 hdue hle4 pdue => ?_⟩
    obtain ⟨eA4, eB4, eD4⟩ := hle4.uniq co9.le
    rw [eA4, eD4] at pdue
    have e22' := e2021.trans e23
    refine ⟨_, rfl, _, rfl, o1, oth, f, g, A, B, D, A3, B3, D3, rfl, hone.kp (Kp.of e22'), hoth.kp (Kp.of e22'), hTb.ext e22', fun ml H23 mz g23 nml hml pml => ⟨ml, rfl, ⟨_, SqL.of hml⟩, fun Dd nD => ?_⟩⟩
    have lmz := paired_len pml
    have lms : (msL f g A3.toNat D3.toNat).length ≤ 100000 := msL_small (by have := co9.le.1; unfold Bas at this; omega) (by have := co9.le.1; unfold Bas at this; omega) co9.least_sz
    refine lcL evoSame (K := K) (a := ml) (xs := mz) (fun H e => SqL.of (e _ _ hml)) (fun _ => true) (fun i y H => MItem K H ((msL f g A3.toNat D3.toNat).getD i (.stay, 0, 0)) y) nD (by omega) (fun i y H H' e h => h.kp e) (fun i x H24 Kc Kn hx e24 hc _ => ?_) (fun H24 zs e24 hD al => ?_)
    · have hi : i < (msL f g A3.toNat D3.toNat).length := by
        rw [← lmz]
        exact (List.getElem?_eq_some_iff.mp hx).1
      obtain ⟨z', hz', pm, rfl, ⟨dm0, sm0, hm1, hm2⟩⟩ := paired_at pml (List.getElem?_eq_getElem hi)
      rw [hx] at hz'
      cases hz'
      rw [getD_at (List.getElem?_eq_getElem hi)] at hc
      have hm1' := e24 _ _ hm1
      refine ⟨rfl, _, rfl, pm, _, dm0, _, _, rfl, hm1', T.c_Motion, T.n_Motion_turn, motF_turn, _, rfl, pm, _, dm0, _, _, rfl, hm1', T.c_Motion, T.n_Motion_shift, motF_shift, two_le, fun ri hri => ?_⟩
      have e25 := same_new (o := .tup [.str (msL f g A3.toNat D3.toNat)[i].1.str, .ref sm0]) hri
      exact hc _ _ rfl e25 ⟨ri, sm0, rfl, SqT.of upd_same, sqT_same (e24.trans e25) hm2⟩
    rw [lmz] at al
    unfold Al at al
    rw [filter_yes] at al
    have pit := mitems al
    have hdue24 := e24 _ _ ((evoGr K).lst g23 hdue)
    have pdue24 := paired_imp (fun m y h => lmot_item (K := K) (h.kp ((evoGr K).kp ((evoGr K).trans g23 ((evoGr K).same e24))))) pdue
    refine ⟨_, rfl, _, _, .lst (SqL.of hD) (dpa_ms pit), .lst (SqL.of hdue24) (dpa_ms pdue24), shp_ms _, shp_ms _, _, rfl, ?_⟩
    rw [eqv_ms]
    refine iteF ?_
    have g024 : Gr K HH H24 := (evoGr K).trans ((evoGr K).same e22') ((evoGr K).trans g23 ((evoGr K).same e24))
    have k024 := (evoGr K).kp g024
    have hdz : dz = [] ↔ msL f g A3.toNat D3.toNat = [] := by
      have := paired_len pdue
      rw [← List.length_eq_zero_iff, ← List.length_eq_zero_iff, this]
    exact hrest pl o1 oth tb1 bes due x2 x3 wv sv n f g A B D A3 B3 D3 dz H24 Q (hone.kp k024) (hoth.kp k024) (ht1.kp k024) (ht2.kp k024) htf htg hrg hn hn12 (g024.tabs hTb) hdue24 hdz fun H' g' => q H' ((evoGr K).trans g024 g')
end
end K84
set_option Elab.async false
set_option linter.all false
set_option maxRecDepth 100000
set_option maxHeartbeats 0
/-! is_right -/
namespace K84
open PySem PySem.Spec PyProof.Rows L2
section
variable {P : Program} {w : World} {K : PySem.W.Frag} {mg : Str → Option Value} {base : Heap}
theorem ok_is_right (T : Txt w K mg) (TB : TBs K base mg) : Good P w K mg base 16 "_law_is_right" ["_law_pool_here"] (fun vs H Q _ => ∃ pl, vs = [.ref pl] ∧ PoolAt H pl ∧ LamX.Tabs (tb K) H ∧ ∀ H', PG K pl H H' → Q (.bl true) H') := by
  refine good_mk (d := d__law_is_right) T.d__law_is_right rfl rfl T.g__law_is_right sc_rt
    (fun _ _ _ _ _ _ us hl => match us, hl with | [_], _ => rfl) (fun vs H Q E h => ?_) (fun f0 cdv Ar outer st H vs Q E hr h => ?_)
  · obtain ⟨pl, rfl, _⟩ := h
    rfl
  · obtain ⟨pl, rfl, hpl, hT, q⟩ := h
    have nd := sc_rt.nd
    obtain ⟨fm, FM, ⟨ds1, vM1, bM1⟩, ⟨ds2, vM2, bM2⟩⟩ := ok_mot_init (P := P) (w := w) (base := base) (mg := mg) T
    obtain ⟨t2, ht2, hrest⟩ := right_rest (P := P) (w := w) (K := K) (mg := mg) (base := base) (f0 := f0) (cdv := cdv) (Ar := Ar) (outer := outer) (st := st) (H := H) (E := E) T TB hr
    refine ⟨_, (pss_cons (ps_set (i := 1) nd rfl (Or.inl rfl) (pe_fn (ok_pick T) hr (pa_cons (pv 0) (pa_cons (pe_lst (pa_cons pe_int (pa_cons pe_int (pa_cons pe_int (pa_cons pe_int pa_nil))))) pa_nil))))
      (pss_cons (ps_par (i := 2) (j := 3) rfl nd rfl rfl (by decide) rfl rfl (pa_cons (pe_fn (ok_small T) hr (pa_cons (pv 0) (pa_cons (pv 1) pa_nil))) (pa_cons (pe_fn (ok_small T) hr (pa_cons (pv 0) (pa_cons (pv 1) pa_nil))) pa_nil)) (by rfl))
      (pss_cons (ps_par (i := 4) (j := 5) rfl nd rfl rfl (by decide) rfl rfl (pa_cons (pe_fn (ok_l_woven T) hr (pa_cons (pv 2) pa_nil)) (pa_cons (pe_fn (ok_l_woven T) hr (pa_cons (pv 3) pa_nil)) pa_nil)) (by rfl))
      (pss_cons (ps_par (i := 6) (j := 7) rfl nd rfl rfl (by decide) rfl rfl (pa_cons (pe_fn (ok_table T) hr (pa_cons (pv 2) (pa_cons (pv 1) pa_nil))) (pa_cons (pe_fn (ok_table T) hr (pa_cons (pv 3) (pa_cons (pv 1) pa_nil))) pa_nil)) (by rfl))
      (pss_cons (ps_if (pt_cmpR op_gt (pe_fn (ok_draw T) hr (pa_cons (pv 0) (pa_cons pe_int pa_nil))) pe_int (nomark _)) (pss_cons (ps_asg (pe_fn (ok_l_motion T) hr (pa_cons (pv 0) pa_nil)) (pg_tup rfl (pgs_cons (pg_name (i := 8) nd rfl (Or.inl rfl)) (pgs_cons (pg_name (i := 9) nd rfl (Or.inl rfl)) pgs_nil))))
        (pss_cons (ps_set (i := 7) nd rfl (Or.inl rfl) (pe_fn (ok_l_moved T) hr (pa_cons (pv 6) (pa_cons (pv 8) (pa_cons (pv 9) (pa_cons (pv 1) pa_nil))))))
        (pss_one (ps_set (i := 5) nd rfl (Or.inl rfl) (pe_fn (ok_moved T TB) hr (pa_cons (pe_make T.mk_Motion FM (hr.mono (by decide)) (by rfl) T.g_Motion bM2 vM2 pass0 (pa_cons (pv 8) (pa_cons (pv 9) pa_nil))) (pa_cons (pv 4) pa_nil))))))) pss_nil) ht2))))), ?_⟩
    refine ⟨_, rfl, (by show 4 ≤ sizeLine; decide), fun nl nnl => ?_⟩
    have p1 := Po.same hpl (same_new (o := .lst [.int 4, .int 4, .int 6, .int 8]) nnl)
    have hnlp := pool_ne hpl nnl
    refine ⟨pl, .ref nl, _, rfl, p1.2.1, .inl ⟨nl, rfl, .inl (SqL.of upd_same)⟩, fun a1 b1 => .inl ⟨nl, rfl, .inl (SqL.of (by rw [upd_ne hnlp]; exact upd_same))⟩, by decide, by decide, fun x a1 b1 hx => ?_⟩
    obtain ⟨n, rfl, hn, hn12⟩ := four_ints x hx
    have p2 := p1.trans (Po.set p1.2.1 a1 b1)
    refine ⟨_, rfl, _, rfl, pl, n, rfl, p2.2.1, hn, hn12, fun t1 H3 a b d rows p3 hF1 hb1 hdv1 hro1 => ?_⟩
    refine ⟨_, rfl, _, rfl, pl, n, rfl, p3.2.1, hn, hn12, fun tt2 H4 a' b' d' rows' p4 hF2 hb2 hdv2 hro2 => ?_⟩
    have s34 : a * d ≤ 144 := Int.le_trans (Int.le_of_dvd (by omega) hdv1) (by omega)
    have s34' : a' * d' ≤ 144 := Int.le_trans (Int.le_of_dvd (by omega) hdv2) (by omega)
    have hF1' := FmAt.kp p4.kp hF1
    have p04 := p2.trans (p3.trans p4)
    refine ⟨_, _, rfl, _, rfl, t1, a, b, d, rows, rfl, hF1', hb1, s34, hro1, fun o1 H5 A B D e5 c5 => ?_⟩
    refine ⟨_, rfl, tt2, a', b', d', rows', rfl, hF2.same e5, hb2, s34', hro2, fun o2 H6 A' B' D' e6 c6 => ?_⟩
    refine ⟨_, _, rfl, _, rfl, _, rfl, t1, n, a, b, d, rows, rfl, hF1'.same (e5.trans e6), bas_small hb1 s34, hro1, hn12, fun tb1 H7 e7 ntb1 htb1 => ?_⟩
    refine ⟨_, rfl, _, rfl, tt2, n, a', b', d', rows', rfl, hF2.same (e5.trans (e6.trans e7)), bas_small hb2 s34', hro2, hn12, fun tb2 H8 e8 ntb2 htb2 => ?_⟩
    have p08 := p04.trans (Po.same p04.2.1 (e5.trans (e6.trans (e7.trans e8))))
    have c58 := c5.kp (Kp.of (e6.trans (e7.trans e8)))
    have c68 := c6.kp (Kp.of (e7.trans e8))
    have htb18 := htb1.same e8
    have htf := tor_told (rows := rows) hb1 hdv1
    have htg0 := tor_told (rows := rows') hb2 hdv2
    have hrf : ∀ x y, 48 ≤ colr a b d rows x y ∧ colr a b d rows x y ≤ 57 := fun x y => colr_range hb1 hro1 x y
    have hrg0 : ∀ x y, 48 ≤ colr a' b' d' rows' x y ∧ colr a' b' d' rows' x y ≤ 57 := fun x y => colr_range hb2 hro2 x y
    have hone8 : CarAt K H8 o1 (colr a b d rows) A B D := ⟨_, _, _, _, c58⟩
    have hoth8 : CarAt K H8 o2 (colr a' b' d' rows') A' B' D' := ⟨_, _, _, _, c68⟩
    have g08 : PG K pl H H8 := PG.po p08
    generalize colr a b d rows = f at htf hrf hone8 htb18
    generalize colr a' b' d' rows' = g0 at htg0 hrg0 hoth8 htb2
    refine ⟨_, _, rfl, _, rfl, pl, 4, rfl, p08.2.1, by decide, by decide, fun r a0 b0 r0 r1 => ⟨_, _, rfl, rfl, _, rfl, ?_⟩⟩
    have p09 := p08.trans (Po.set p08.2.1 a0 b0)
    have k89 := (Po.set p08.2.1 a0 b0).kp
    have hone9 := hone8.kp k89
    have hoth9 := hoth8.kp k89
    have ht19 := htb18.kp k89
    have ht29 := htb2.kp k89
    by_cases hr0 : 0 < r
    · rw [decide_eq_true hr0]
      refine iteT ⟨_, rfl, pl, rfl, p09.2.1, fun m s t u v H10 p10 hm hs hu hv => ?_⟩
      refine ⟨m, _, rfl, SqT.of hm, rfl, _, _, rfl, _, _, rfl, rfl, ?_⟩
      refine ⟨_, rfl, _, rfl, _, rfl, _, rfl, tb1, s, (n : Int), f, t, u, v, rfl, ht19.kp p10.kp, htf, by omega, SqT.of hs, fun bes H11 e11 nbes hbes => ?_⟩
      refine ⟨_, rfl, _, rfl, ?_⟩
      intro mo dm nmo ndm nemo
      refine make_mot2 (K := K) (t := t) (SqT.of (e11 _ _ hs)) nmo ndm fun H12 e12 hmo => ⟨rfl, ?_⟩
      have p012 := (p09.trans p10).trans (Po.same p10.2.1 (e11.trans e12))
      refine ⟨_, rfl, mo, o1, t, u, v, f, A, B, D, rfl, hmo, ((hone9.kp p10.kp).kp (Kp.of (e11.trans e12))), (PG.po p012 (K := K)).2 hT, fun oth HH A2 B2 D2 gHH cn => ?_⟩
      have hpg : PG K pl H HH := (PG.po p012).trans (PG.gr gHH)
      have kHH : Kp _ HH := (evoGr K).kp gHH
      have hone := ((hone9.kp p10.kp).kp (Kp.of (e11.trans e12))).kp kHH
      have hoth : CarAt K HH oth (movd t u v f) A2 B2 D2 := ⟨_, _, _, _, cn⟩
      have ht1 := ((ht19.kp p10.kp).kp (Kp.of (e11.trans e12))).kp kHH
      have htt2 := (hbes.kp (Kp.of e12)).kp kHH
      have htg := htf.movd t u v
      have hrg : ∀ x y, 48 ≤ movd t u v f x y ∧ movd t u v f x y ≤ 57 := fun x y => hrf _ _
      generalize movd t u v f = g at hoth htt2 htg hrg
      exact hrest pl o1 oth tb1 bes _ _ _ _ n f g A B D A2 B2 D2 HH Q hone hoth ht1 htt2 htf htg hrg hn hn12 (hpg.2 hT) fun H' g' => q H' (hpg.trans (PG.gr g'))
    · rw [decide_eq_false hr0]
      refine iteF ?_
      obtain ⟨oth, hoo⟩ : ∃ oth, oth = o2 := ⟨_, rfl⟩
      obtain ⟨bes, hbb⟩ : ∃ bes, bes = tb2 := ⟨_, rfl⟩
      obtain ⟨HH, hHH⟩ : ∃ HH, HH = upd H8 pl (.lst [.int a0, .int b0]) := ⟨_, rfl⟩
      rw [← hHH] at p09 hone9 hoth9 ht19 ht29 ⊢
      have hpg : PG K pl H HH := PG.po p09
      rw [← hoo] at hoth9
      rw [← hbb] at ht29
      rw [← hoo, ← hbb]
      obtain ⟨A2, hA2⟩ : ∃ A2, A2 = A' := ⟨_, rfl⟩
      obtain ⟨B2, hB2⟩ : ∃ B2, B2 = B' := ⟨_, rfl⟩
      obtain ⟨D2, hD2⟩ : ∃ D2, D2 = D' := ⟨_, rfl⟩
      rw [← hA2, ← hB2, ← hD2] at hoth9
      have hone := hone9
      have hoth := hoth9
      have ht1 := ht19
      have htt2 := ht29
      have htg := htg0
      have hrg := hrg0
      generalize g0 = g at hoth htt2 htg hrg
      exact hrest pl o1 oth tb1 bes _ _ _ _ n f g A B D A2 B2 D2 HH Q hone hoth ht1 htt2 htf htg hrg hn hn12 (hpg.2 hT) fun H' g' => q H' (hpg.trans (PG.gr g'))
end
end K84
set_option Elab.async false
set_option linter.all false
set_option maxRecDepth 100000
set_option maxHeartbeats 1000000
/-! law -/
namespace K84
open PySem PySem.Spec PyProof.Rows L2
theorem b_max : bootBuiltins "max" = some (.builtin "max") := by decide +kernel
theorem b_min : bootBuiltins "min" = some (.builtin "min") := by decide +kernel
theorem sqL_same {K : PySem.W.Frag} {a : Addr} {H H1 : Hp} {xs : List V} (h : SqL K H a xs) (e1 : Same H H1) : SqL K H1 a xs := by
  rcases h with (h | ⟨z, h⟩) | h
  · exact .inl (.inl (e1 _ _ h))
  · exact .inl (.inr ⟨z, e1 _ _ h⟩)
  · exact .inr h
theorem sqL_run {K : PySem.W.Frag} {pl a : Addr} {H H1 H2 : Hp} {xs : List V} (h : SqL K H a xs) (e1 : Same H H1) (np : H pl = none) (e2 : PG K pl H1 H2) : SqL K H2 a xs := by
  rcases h with (h | ⟨z, h⟩) | h
  · exact .inl (.inl (e2.1 _ _ (e1 _ _ h) (fun y => by rw [y, np] at h; cases h) (fun ps y => by cases y)))
  · exact .inl (.inr ⟨z, e2.1 _ _ (e1 _ _ h) (fun y => by rw [y, np] at h; cases h) (fun ps y => by cases y)⟩)
  · exact .inr h
theorem many_le (n : Int) : (if (if (2 : Int) < n then (2 : Int) else n) > 1 then (if (2 : Int) < n then (2 : Int) else n) else 1) ≤ 2 ∧ 0 ≤ (if (if (2 : Int) < n then (2 : Int) else n) > 1 then (if (2 : Int) < n then (2 : Int) else n) else 1) := by
  by_cases h : (2 : Int) < n
  · rw [if_pos h]
    exact ⟨by decide, by decide⟩
  · rw [if_neg h]
    by_cases h2 : n > 1
    · rw [if_pos h2]
      omega
    · rw [if_neg h2]
      omega
def spLaw (K : PySem.W.Frag) : Sp := fun vs H Q _ => ∃ (a : Addr) (ns : List Int), vs = [.ref a] ∧ SqL K H a (ns.map V.int) ∧ LamX.Tabs (tb K) H ∧ ∀ H', Q (.bl true) H'
section
variable {P : Program} {w : World} {K : PySem.W.Frag} {mg : Str → Option Value} {base : Heap}
theorem sc_law : FnScope ["_law_script", "_law_k"] ["_law_script"] d_law.scope := ⟨rfl, rfl, rfl, by decide +kernel, rfl, by decide +kernel, by decide +kernel⟩
theorem law_body (T : Txt w K mg) (TB : TBs K base mg) : Body P w K mg base 16 d_law ["_law_script", "_law_k"] (spLaw K) := by
  intro f0 cdv Ar outer st H vs Q E hr h
  obtain ⟨a, ns, rfl, hs, hT, q⟩ := h
  have nd := sc_law.nd
  refine ⟨_, (pss_cons (ps_for PassesOwn.never rfl (pi_range1 (by rfl) T.f_range (pa_cons (pe_callB (call_max2 rfl) (by rfl) T.f_max b_max (pa_cons pe_int (pa_cons (pe_callB (call_min2 rfl) (by rfl) T.f_min b_min (pa_cons (pe_callB call_len (by rfl) T.f_len b_len (pa_cons (pv 0) pa_nil)) (pa_cons pe_int pa_nil))) pa_nil))) pa_nil)) (pg_name (i := 1) nd rfl (Or.inl rfl))
        (pss_one (ps_if (pt_not (pt_val (pe_fn (ok_is_right T TB) hr (pa_cons (pe_fn (ok_pool T) hr (pa_cons (pv 0) (pa_cons (pv 1) pa_nil))) pa_nil)))) (pss_one (ps_ret pe_bl)) pss_nil)))
      (pss_one (ps_ret pe_bl))), ?_⟩
  obtain ⟨m1, m2⟩ := many_le ((ns.length : Nat) : Int)
  refine ⟨_, rfl, _, ns.length, rfl, .inl ⟨_, hs, by simp⟩, _, _, rfl, _, _, rfl, _, rfl, by omega, by omega, ?_⟩
  refine for_range (fun i σ H2 => ∃ c, σ = [some (.ref a), c] ∧ SqL K H2 a (ns.map V.int) ∧ LamX.Tabs (tb K) H2) ⟨none, rfl, hs, hT⟩ ?_ ?_
  · rintro i σ H2 hi ⟨c, rfl, hs2, ht2⟩
    refine ⟨_, rfl, _, rfl, a, ns, _, rfl, hs2, by omega, by omega, fun H' e => sqL_same hs2 e, fun p H3 e3 np hp => ?_⟩
    refine ⟨p, rfl, hp, ht2.ext e3, fun H4 g => ⟨_, rfl, iteF ⟨_, rfl, sqL_run hs2 e3 np g, g.2 (ht2.ext e3)⟩⟩⟩
  · rintro σ H2 ⟨c, rfl, hs2, ht2⟩
    exact q H2
theorem ok_law {fd : FuncData} (F : FunD K d_law.name d_law.qual d_law.params d_law.body d_law.scope (d_law.dvs K) (d_law.kws K) (He.fAd K d_law.at_) fd) (T : Txt w K mg) (TB : TBs K base mg) : FnOk P w K mg base CX0 17 (He.ga K "law") fd ["_law_script"] (spLaw K) := by
  have e : He.fAd K d_law.at_ = He.ga K "law" := rfl
  have e2 : d_law.dvs K = [] := rfl
  rw [e, e2] at F
  refine F.ok sc_law (fun vs H Q E h => ?_) (fun cdv A outer s H vs Q E hr hs => ?_)
  · obtain ⟨a, ns, rfl, _⟩ := h
    rfl
  · obtain ⟨t, a, b⟩ := law_body T TB _ cdv A outer s H vs Q E hr hs
    exact ⟨t, a.nox, b⟩
theorem law_at {l : PySem.W.OpenLaw} {h : Heap} {f : Addr} {n : Nat} (Y : hk.says w h) (G : h.Ns mainGlobals mg) (hfa : mg ("law" : Str) = some (.ref f)) : ∃ K : PySem.W.Frag, K.In h ∧ LamX.LawAtS l w K CX0 17 n "_law_script" mg f h := by
  obtain ⟨K, KX, c⟩ := Y
  have T : Txt w K mg := ⟨h, KX, G, c⟩
  obtain ⟨fd, F⟩ := T.d_law
  have e := hfa.symm.trans T.g_law
  cases e
  have b := FunD.bindsA (ps := ["_law_script"]) (show FunD K d_law.name d_law.qual d_law.params d_law.body d_law.scope [] (d_law.kws K) (He.ga K "law") fd from F) fun _ _ _ _ _ _ us hl => match us, hl with | [_], _ => rfl
  refine ⟨K, KX, fd, tf.map (He.cT K), spLaw K, ?_, ?_, ?_, fun s u => b s [u] rfl, ?_, fun base KB GB TB => ok_law F T TB⟩
  · intro p hp
    obtain ⟨x, hx, rfl⟩ := List.mem_map.mp hp
    exact c.empty x hx
  · intro p hp
    obtain ⟨x, hx, rfl⟩ := List.mem_map.mp hp
    exact c.out x hx
  · intro p hp
    obtain ⟨x, hx, rfl⟩ := List.mem_map.mp hp
    exact PySem.W.codeHd_of_K KX (c.hd x hx)
  · intro H a ns _ _ hH hS
    refine ⟨a, ns, rfl, hS, fun p hp => ?_, fun _ => rfl⟩
    have h1 := hH (He.cT K ("moved_carpet", none)) (List.mem_map.mpr ⟨_, List.mem_cons_self .., rfl⟩)
    have h2 := hH (He.cT K ("woven", none)) (List.mem_map.mpr ⟨_, List.mem_cons_of_mem _ (List.mem_cons_self ..), rfl⟩)
    unfold tb at hp
    rcases List.mem_cons.mp hp with rfl | hp
    · exact LamX.TabS.nil h1
    · rw [List.mem_singleton.mp hp]
      exact LamX.TabS.nil h2
end
end K84
set_option Elab.async false
set_option linter.all false
set_option maxRecDepth 100000
set_option maxHeartbeats 0
open PySem PySem.W PySem.Calls PyProof.Rows
theorem PySem.Challenge.cw_endlessplane_k84_whole_likeness_of_small_holds : PySem.Challenge.rw_endlessplane_k84_whole_likeness_of_small.Holds := by
  w_on; o_law
  refine HandSHeadRun.head_any (r := OpenLaw.row PySem.Challenge.rw_endlessplane_k84_whole_likeness_of_small) (q := view (OpenLaw.row PySem.Challenge.rw_endlessplane_k84_whole_likeness_of_small).prog [86]) (H := K84.hk) (ob := K84.ob) (M := 6000) (loose := K84.loose) (d := HandSHeadRun.topDef (OpenLaw.row PySem.Challenge.rw_endlessplane_k84_whole_likeness_of_small).prog 86) (kwd := []) K84.ob_eq
    (by kernel_rfl) (fun s => by kernel_rfl) K84.run (by kernel_rfl) (by kernel_rfl) (by kernel_rfl) (by rfl) (by first | assumption | decide +kernel) (by decide +kernel) ⟨rfl, rfl, rfl, rfl, rfl, by decide +kernel⟩ ?hw ?hc
  case hw => w_witness2
  case hc =>
    refine LamX.walk_ofTsE (l := PySem.Challenge.rw_endlessplane_k84_whole_likeness_of_small) (n := 63) (k := 17) (x := "_law_script") (CX := fun _ => L2.CX0) rfl (by decide) (by kernel_rfl) ⟨rfl, by decide, by decide⟩ ?F (fun _ _ _ _ _ z => z)
    intro w mg fa h Y G hmg0
    have hmg : mg ("law" : PySem.Str) = some (.ref fa) := by
      have e : (HandSHeadRun.topDef (OpenLaw.row PySem.Challenge.rw_endlessplane_k84_whole_likeness_of_small).prog 86).name = ("law" : PySem.Str) := by kernel_rfl
      rw [← e]
      exact hmg0
    exact K84.law_at Y G hmg
