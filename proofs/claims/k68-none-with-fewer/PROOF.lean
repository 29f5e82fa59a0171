import PyProof.Rows.All
import Wide.All
import OpenK.AllK
import Wide.FinOn
import KE.KStateDown
import KE.KDictKeyed
import KE.KeyNested
import KE.SortData
import KE.GoesZip
import KE.GoesNew
import KE.GoesMore
import HandS.Walk
import Lean
import HandS.ForMost
import HandS.Deep
import HandS.IsInst
import HandS.TupAny
import HandS.TupSets
import HandS.Flow
import HandS.Zip
import HandS.ClsMeth
import HandS.SortKw
import KE.DataMinMax
import KE.DataFind
import KE.KDictSum
import KE.KDictOf
import HandS.Defaults
import HandS.Head0
import HandS.Head1
import HandS.Head2
import HandS.HeadEnd
import HandS.HeadHook1
import HandS.HeadHook2
import HandS.HeadNt
import PySem.Challenge.RW_slanttiles_k68_whole_none_does_with_fewe
set_option Elab.async false
set_option linter.all false
set_option maxRecDepth 100000
set_option maxHeartbeats 0
/-! part K1text -/
section PtK1text
namespace SL
open PySem PySem.Spec PyProof.Rows L2
def topS (i : Nat) : Stmt := PySem.Challenge.pw_slanttiles_k68_whole_none_does_with_fewe.main.body.getD i (.Pass ⟨0, 0, 0, 0⟩)
abbrev s_leans_of : Stmt := topS 2
abbrev s_last_use : Stmt := topS 3
abbrev s_need_row : Stmt := topS 11
abbrev s_need_wanted : Stmt := topS 12
abbrev s_ends_of : Stmt := topS 13
abbrev s_least_room : Stmt := topS 14
abbrev s_slots_wanted : Stmt := topS 15
abbrev s_crowd_at : Stmt := topS 16
abbrev s_is_whole : Stmt := topS 20
abbrev s_is_between : Stmt := topS 21
abbrev s_is_rim : Stmt := topS 22
abbrev s_Rim_init : Stmt := inClass (topS 23) 0
abbrev s_Rim_at_number : Stmt := inClass (topS 23) 1
abbrev s_MirrorRim_at_number : Stmt := inClass (topS 24) 0
abbrev s_FixedRim_init : Stmt := inClass (topS 25) 0
abbrev s_FixedRim_at_number : Stmt := inClass (topS 25) 1
abbrev s_rim_of : Stmt := topS 26
abbrev s_Term_below : Stmt := inClass (topS 34) 0
abbrev s_Term_own_take : Stmt := inClass (topS 34) 3
abbrev s_Term_own_wrong : Stmt := inClass (topS 34) 4
abbrev s_Term_first_wrong : Stmt := inClass (topS 34) 5
abbrev s_Term_takes : Stmt := inClass (topS 34) 6
abbrev s_Term_depth : Stmt := inClass (topS 34) 7
abbrev s_Term_parts : Stmt := inClass (topS 34) 8
abbrev s_Number_init : Stmt := inClass (topS 35) 0
abbrev s_Number_own_wrong : Stmt := inClass (topS 35) 3
abbrev s_Take_init : Stmt := inClass (topS 36) 0
abbrev s_Take_own_take : Stmt := inClass (topS 36) 3
abbrev s_Take_own_wrong : Stmt := inClass (topS 36) 4
abbrev s_Paired_init : Stmt := inClass (topS 37) 0
abbrev s_Paired_below : Stmt := inClass (topS 37) 1
abbrev s_lines_of : Stmt := topS 40
abbrev s_check_term : Stmt := topS 41
abbrev s_is_first : Stmt := topS 46
abbrev s_Job_init : Stmt := inClass (topS 47) 0
abbrev s_Job_deep : Stmt := inClass (topS 47) 1
abbrev s_Job_all_spots : Stmt := inClass (topS 47) 2
abbrev s_Job_is_spot : Stmt := inClass (topS 47) 3
abbrev s_Job_where_of : Stmt := inClass (topS 47) 4
abbrev s_Job_reads_of : Stmt := inClass (topS 47) 5
abbrev s_Grid_init : Stmt := inClass (topS 51) 0
abbrev s_Grid_lines : Stmt := inClass (topS 51) 1
abbrev s_Grid_places_many : Stmt := inClass (topS 51) 2
abbrev s_Grid_all_places : Stmt := inClass (topS 51) 3
abbrev s_Grid_has_place : Stmt := inClass (topS 51) 4
abbrev s_Grid_beside : Stmt := inClass (topS 51) 5
abbrev s_law_cell_at : Stmt := topS 53
abbrev s_law_tape : Stmt := topS 54
abbrev s_law_draw : Stmt := topS 55
abbrev s_law_world : Stmt := topS 56
abbrev s_law_places : Stmt := topS 57
abbrev s_law_spots : Stmt := topS 58
abbrev s_law_there : Stmt := topS 59
abbrev s_law_leans : Stmt := topS 60
abbrev s_law_job : Stmt := topS 61
abbrev s_law_row : Stmt := topS 62
abbrev s_law_goes : Stmt := topS 63
abbrev s_law_all_ways : Stmt := topS 64
abbrev s_law_none_goes : Stmt := topS 65
abbrev s_law_crowd_right : Stmt := topS 66
abbrev s_law : Stmt := topS 67
theorem sc_leans_of : FnScope ["job", "spot", "where", "take"] ["job", "spot"] (defScope s_leans_of) := ⟨rfl, rfl, rfl, by decide +kernel, rfl, by decide +kernel, by decide +kernel⟩
theorem sc_last_use : FnScope ["job", "row", "found", "number", "spot", "one"] ["job", "row"] (defScope s_last_use) := ⟨rfl, rfl, rfl, by decide +kernel, rfl, by decide +kernel, by decide +kernel⟩
theorem sc_need_row : FnScope ["job", "row", "seen", "spot", "one"] ["job", "row"] (defScope s_need_row) := ⟨rfl, rfl, rfl, by decide +kernel, rfl, by decide +kernel, by decide +kernel⟩
theorem sc_need_wanted : FnScope ["job", "wanted", "seen", "spot"] ["job", "wanted"] (defScope s_need_wanted) := ⟨rfl, rfl, rfl, by decide +kernel, rfl, by decide +kernel, by decide +kernel⟩
theorem sc_ends_of : FnScope ["job", "row", "wanted", "found", "spot"] ["job", "row", "wanted"] (defScope s_ends_of) := ⟨rfl, rfl, rfl, by decide +kernel, rfl, by decide +kernel, by decide +kernel⟩
theorem sc_least_room : FnScope ["job", "row", "wanted", "ends", "lasts", "found", "place", "spot", "free", "number", "other"] ["job", "row", "wanted"] (defScope s_least_room) := ⟨rfl, rfl, rfl, by decide +kernel, rfl, by decide +kernel, by decide +kernel⟩
theorem sc_slots_wanted : FnScope ["job", "row", "wanted"] ["job", "row", "wanted"] (defScope s_slots_wanted) := ⟨rfl, rfl, rfl, by decide +kernel, rfl, by decide +kernel, by decide +kernel⟩
theorem sc_crowd_at : FnScope ["job", "row", "wanted", "ends", "best", "place", "spot", "crowd", "one"] ["job", "row", "wanted"] (defScope s_crowd_at) := ⟨rfl, rfl, rfl, by decide +kernel, rfl, by decide +kernel, by decide +kernel⟩
theorem sc_is_whole : FnScope ["thing"] ["thing"] (defScope s_is_whole) := ⟨rfl, rfl, rfl, by decide +kernel, rfl, by decide +kernel, by decide +kernel⟩
theorem sc_is_between : FnScope ["thing", "low", "high"] ["thing", "low", "high"] (defScope s_is_between) := ⟨rfl, rfl, rfl, by decide +kernel, rfl, by decide +kernel, by decide +kernel⟩
theorem sc_is_rim : FnScope ["thing"] ["thing"] (defScope s_is_rim) := ⟨rfl, rfl, rfl, by decide +kernel, rfl, by decide +kernel, by decide +kernel⟩
theorem sc_Rim_init : FnScope ["self", "size"] ["self", "size"] (defScope s_Rim_init) := ⟨rfl, rfl, rfl, by decide +kernel, rfl, by decide +kernel, by decide +kernel⟩
theorem sc_Rim_at_number : FnScope ["self", "number"] ["self", "number"] (defScope s_Rim_at_number) := ⟨rfl, rfl, rfl, by decide +kernel, rfl, by decide +kernel, by decide +kernel⟩
theorem sc_MirrorRim_at_number : FnScope ["self", "number", "there"] ["self", "number"] (defScope s_MirrorRim_at_number) := ⟨rfl, rfl, rfl, by decide +kernel, rfl, by decide +kernel, by decide +kernel⟩
theorem sc_FixedRim_init : FnScope ["self", "size", "beyond"] ["self", "size", "beyond"] (defScope s_FixedRim_init) := ⟨rfl, rfl, rfl, by decide +kernel, rfl, by decide +kernel, by decide +kernel⟩
theorem sc_FixedRim_at_number : FnScope ["self", "number"] ["self", "number"] (defScope s_FixedRim_at_number) := ⟨rfl, rfl, rfl, by decide +kernel, rfl, by decide +kernel, by decide +kernel⟩
theorem sc_rim_of : FnScope ["size", "told"] ["size", "told"] (defScope s_rim_of) := ⟨rfl, rfl, rfl, by decide +kernel, rfl, by decide +kernel, by decide +kernel⟩
theorem sc_Term_below : FnScope ["self"] ["self"] (defScope s_Term_below) := ⟨rfl, rfl, rfl, by decide +kernel, rfl, by decide +kernel, by decide +kernel⟩
theorem sc_Term_own_take : FnScope ["self"] ["self"] (defScope s_Term_own_take) := ⟨rfl, rfl, rfl, by decide +kernel, rfl, by decide +kernel, by decide +kernel⟩
theorem sc_Term_own_wrong : FnScope ["self"] ["self"] (defScope s_Term_own_wrong) := ⟨rfl, rfl, rfl, by decide +kernel, rfl, by decide +kernel, by decide +kernel⟩
theorem sc_Term_first_wrong : FnScope ["self", "one", "word"] ["self"] (defScope s_Term_first_wrong) := ⟨rfl, rfl, rfl, by decide +kernel, rfl, by decide +kernel, by decide +kernel⟩
theorem sc_Term_takes : FnScope ["self", "found", "one", "take"] ["self"] (defScope s_Term_takes) := ⟨rfl, rfl, rfl, by decide +kernel, rfl, by decide +kernel, by decide +kernel⟩
theorem sc_Term_depth : FnScope ["self", "one"] ["self"] (defScope s_Term_depth) := ⟨rfl, rfl, rfl, by decide +kernel, rfl, by decide +kernel, by decide +kernel⟩
theorem sc_Term_parts : FnScope ["self", "one"] ["self"] (defScope s_Term_parts) := ⟨rfl, rfl, rfl, by decide +kernel, rfl, by decide +kernel, by decide +kernel⟩
theorem sc_Number_init : FnScope ["self", "value"] ["self", "value"] (defScope s_Number_init) := ⟨rfl, rfl, rfl, by decide +kernel, rfl, by decide +kernel, by decide +kernel⟩
theorem sc_Number_own_wrong : FnScope ["self"] ["self"] (defScope s_Number_own_wrong) := ⟨rfl, rfl, rfl, by decide +kernel, rfl, by decide +kernel, by decide +kernel⟩
theorem sc_Take_init : FnScope ["self", "back", "steps"] ["self", "back", "steps"] (defScope s_Take_init) := ⟨rfl, rfl, rfl, by decide +kernel, rfl, by decide +kernel, by decide +kernel⟩
theorem sc_Take_own_take : FnScope ["self"] ["self"] (defScope s_Take_own_take) := ⟨rfl, rfl, rfl, by decide +kernel, rfl, by decide +kernel, by decide +kernel⟩
theorem sc_Take_own_wrong : FnScope ["self", "step"] ["self"] (defScope s_Take_own_wrong) := ⟨rfl, rfl, rfl, by decide +kernel, rfl, by decide +kernel, by decide +kernel⟩
theorem sc_Paired_init : FnScope ["self", "one", "other"] ["self", "one", "other"] (defScope s_Paired_init) := ⟨rfl, rfl, rfl, by decide +kernel, rfl, by decide +kernel, by decide +kernel⟩
theorem sc_Paired_below : FnScope ["self"] ["self"] (defScope s_Paired_below) := ⟨rfl, rfl, rfl, by decide +kernel, rfl, by decide +kernel, by decide +kernel⟩
theorem sc_lines_of : FnScope ["term", "found", "back", "steps"] ["term"] (defScope s_lines_of) := ⟨rfl, rfl, rfl, by decide +kernel, rfl, by decide +kernel, by decide +kernel⟩
theorem sc_check_term : FnScope ["term", "word"] ["term"] (defScope s_check_term) := ⟨rfl, rfl, rfl, by decide +kernel, rfl, by decide +kernel, by decide +kernel⟩
theorem sc_is_first : FnScope ["first", "deep", "many", "modulus", "row", "worth"] ["first", "deep", "many", "modulus"] (defScope s_is_first) := ⟨rfl, rfl, rfl, by decide +kernel, rfl, by decide +kernel, by decide +kernel⟩
theorem sc_Job_init : FnScope ["self", "grid", "term", "modulus", "rounds", "first", "row"] ["self", "grid", "term", "modulus", "rounds", "first"] (defScope s_Job_init) := ⟨rfl, rfl, rfl, by decide +kernel, rfl, by decide +kernel, by decide +kernel⟩
theorem sc_Job_deep : FnScope ["self", "back", "steps"] ["self"] (defScope s_Job_deep) := ⟨rfl, rfl, rfl, by decide +kernel, rfl, by decide +kernel, by decide +kernel⟩
theorem sc_Job_all_spots : FnScope ["self", "found", "turn", "place"] ["self"] (defScope s_Job_all_spots) := ⟨rfl, rfl, rfl, by decide +kernel, rfl, by decide +kernel, by decide +kernel⟩
theorem sc_Job_is_spot : FnScope ["self", "thing"] ["self", "thing"] (defScope s_Job_is_spot) := ⟨rfl, rfl, rfl, by decide +kernel, rfl, by decide +kernel, by decide +kernel⟩
theorem sc_Job_where_of : FnScope ["self", "spot", "take", "word", "there", "turn"] ["self", "spot", "take"] (defScope s_Job_where_of) := ⟨rfl, rfl, rfl, by decide +kernel, rfl, by decide +kernel, by decide +kernel⟩
theorem sc_Job_reads_of : FnScope ["self", "spot", "take"] ["self", "spot"] (defScope s_Job_reads_of) := ⟨rfl, rfl, rfl, by decide +kernel, rfl, by decide +kernel, by decide +kernel⟩
theorem sc_Grid_init : FnScope ["self", "sizes", "rims", "many", "k", "size", "rim"] ["self", "sizes", "rims"] (defScope s_Grid_init) := ⟨rfl, rfl, rfl, by decide +kernel, rfl, by decide +kernel, by decide +kernel⟩
theorem sc_Grid_lines : FnScope ["self"] ["self"] (defScope s_Grid_lines) := ⟨rfl, rfl, rfl, by decide +kernel, rfl, by decide +kernel, by decide +kernel⟩
theorem sc_Grid_places_many : FnScope ["self"] ["self"] (defScope s_Grid_places_many) := ⟨rfl, rfl, rfl, by decide +kernel, rfl, by decide +kernel, by decide +kernel⟩
theorem sc_Grid_all_places : FnScope ["self", "found", "size", "longer", "place", "number"] ["self"] (defScope s_Grid_all_places) := ⟨rfl, rfl, rfl, by decide +kernel, rfl, by decide +kernel, by decide +kernel⟩
theorem sc_Grid_has_place : FnScope ["self", "thing", "number", "size"] ["self", "thing"] (defScope s_Grid_has_place) := ⟨rfl, rfl, rfl, by decide +kernel, rfl, by decide +kernel, by decide +kernel⟩
theorem sc_Grid_beside : FnScope ["self", "place", "steps", "found", "edge", "number", "step", "there"] ["self", "place", "steps"] (defScope s_Grid_beside) := ⟨rfl, rfl, rfl, by decide +kernel, rfl, by decide +kernel, by decide +kernel⟩
theorem sc_law_cell_at : FnScope ["_law_script", "_law_k"] ["_law_script", "_law_k"] (defScope s_law_cell_at) := ⟨rfl, rfl, rfl, by decide +kernel, rfl, by decide +kernel, by decide +kernel⟩
theorem sc_law_tape : FnScope ["_law_cell"] ["_law_cell"] (defScope s_law_tape) := ⟨rfl, rfl, rfl, by decide +kernel, rfl, by decide +kernel, by decide +kernel⟩
theorem sc_law_draw : FnScope ["_law_tape_here", "_law_many", "_law_number"] ["_law_tape_here", "_law_many"] (defScope s_law_draw) := ⟨rfl, rfl, rfl, by decide +kernel, rfl, by decide +kernel, by decide +kernel⟩
theorem sc_law_world : FnScope ["_law_tape_here", "_law_sizes", "_law_rims", "_law_size", "_law_takes", "_law_k", "_law_back", "_law_steps"] ["_law_tape_here"] (defScope s_law_world) := ⟨rfl, rfl, rfl, by decide +kernel, rfl, by decide +kernel, by decide +kernel⟩
theorem sc_law_places : FnScope ["_law_sizes", "_law_found", "_law_size", "_law_longer", "_law_place", "_law_k"] ["_law_sizes"] (defScope s_law_places) := ⟨rfl, rfl, rfl, by decide +kernel, rfl, by decide +kernel, by decide +kernel⟩
theorem sc_law_spots : FnScope ["_law_world_here", "_law_found", "_law_turn", "_law_place"] ["_law_world_here"] (defScope s_law_spots) := ⟨rfl, rfl, rfl, by decide +kernel, rfl, by decide +kernel, by decide +kernel⟩
theorem sc_law_there : FnScope ["_law_world_here", "_law_place", "_law_steps", "_law_found", "_law_k", "_law_size", "_law_at"] ["_law_world_here", "_law_place", "_law_steps"] (defScope s_law_there) := ⟨rfl, rfl, rfl, by decide +kernel, rfl, by decide +kernel, by decide +kernel⟩
theorem sc_law_leans : FnScope ["_law_world_here", "_law_spot", "_law_found", "_law_back", "_law_steps", "_law_there_here"] ["_law_world_here", "_law_spot"] (defScope s_law_leans) := ⟨rfl, rfl, rfl, by decide +kernel, rfl, by decide +kernel, by decide +kernel⟩
theorem sc_law_job : FnScope ["_law_world_here", "_law_tape_here", "_law_term", "_law_back", "_law_steps", "_law_deep", "_law_first", "_law_place", "_law_turn"] ["_law_world_here", "_law_tape_here"] (defScope s_law_job) := ⟨rfl, rfl, rfl, by decide +kernel, rfl, by decide +kernel, by decide +kernel⟩
theorem sc_law_row : FnScope ["_law_world_here", "_law_tape_here", "_law_left", "_law_found", "_law_ready", "_law_one", "_law_spot"] ["_law_world_here", "_law_tape_here"] (defScope s_law_row) := ⟨rfl, rfl, rfl, by decide +kernel, rfl, by decide +kernel, by decide +kernel⟩
theorem sc_law_goes : FnScope ["_law_leans_here", "_law_row_here", "_law_slots", "_law_wanted", "_law_room", "_law_spot", "_law_one"] ["_law_leans_here", "_law_row_here", "_law_slots", "_law_wanted"] (defScope s_law_goes) := ⟨rfl, rfl, rfl, by decide +kernel, rfl, by decide +kernel, by decide +kernel⟩
theorem sc_law_all_ways : FnScope ["_law_row_here", "_law_many", "_law_found", "_law_spot", "_law_longer", "_law_slots", "_law_number", "_law_more"] ["_law_row_here", "_law_many"] (defScope s_law_all_ways) := ⟨rfl, rfl, rfl, by decide +kernel, rfl, by decide +kernel, by decide +kernel⟩
theorem sc_law_none_goes : FnScope ["_law_leans_here", "_law_row_here", "_law_wanted", "_law_many", "_law_tape_here", "_law_ways", "_law_spot", "_law_k", "_law_slots"] ["_law_leans_here", "_law_row_here", "_law_wanted", "_law_many", "_law_tape_here"] (defScope s_law_none_goes) := ⟨rfl, rfl, rfl, by decide +kernel, rfl, by decide +kernel, by decide +kernel⟩
theorem sc_law_crowd_right : FnScope ["_law_leans_here", "_law_row_here", "_law_wanted", "_law_crowd", "_law_apart", "_law_spot", "_law_number", "_law_pairs", "_law_k", "_law_one", "_law_other", "_law_slots"] ["_law_leans_here", "_law_row_here", "_law_wanted", "_law_crowd"] (defScope s_law_crowd_right) := ⟨rfl, rfl, rfl, by decide +kernel, rfl, by decide +kernel, by decide +kernel⟩
theorem sc_law : FnScope ["_law_script", "_law_world_here", "_law_tape_here", "_law_job_here", "_law_leans_here", "_law_cell", "_law_rows", "_law_row_here", "_law_wanted", "_law_spot", "_law_many", "_law_slots", "_law_crowd"] ["_law_script"] (defScope s_law) := ⟨rfl, rfl, rfl, by decide +kernel, rfl, by decide +kernel, by decide +kernel⟩
def d_leans_of : He.DefD := ⟨("leans_of", none), "leans_of", "leans_of", defArgs s_leans_of, defBody s_leans_of, defScope s_leans_of, [], []⟩
def d_last_use : He.DefD := ⟨("last_use", none), "last_use", "last_use", defArgs s_last_use, defBody s_last_use, defScope s_last_use, [], []⟩
def d_need_row : He.DefD := ⟨("need_row", none), "need_row", "need_row", defArgs s_need_row, defBody s_need_row, defScope s_need_row, [], []⟩
def d_need_wanted : He.DefD := ⟨("need_wanted", none), "need_wanted", "need_wanted", defArgs s_need_wanted, defBody s_need_wanted, defScope s_need_wanted, [], []⟩
def d_ends_of : He.DefD := ⟨("ends_of", none), "ends_of", "ends_of", defArgs s_ends_of, defBody s_ends_of, defScope s_ends_of, [], []⟩
def d_least_room : He.DefD := ⟨("least_room", none), "least_room", "least_room", defArgs s_least_room, defBody s_least_room, defScope s_least_room, [], []⟩
def d_slots_wanted : He.DefD := ⟨("slots_wanted", none), "slots_wanted", "slots_wanted", defArgs s_slots_wanted, defBody s_slots_wanted, defScope s_slots_wanted, [], []⟩
def d_crowd_at : He.DefD := ⟨("crowd_at", none), "crowd_at", "crowd_at", defArgs s_crowd_at, defBody s_crowd_at, defScope s_crowd_at, [], []⟩
def d_is_whole : He.DefD := ⟨("is_whole", none), "is_whole", "is_whole", defArgs s_is_whole, defBody s_is_whole, defScope s_is_whole, [], []⟩
def d_is_between : He.DefD := ⟨("is_between", none), "is_between", "is_between", defArgs s_is_between, defBody s_is_between, defScope s_is_between, [], []⟩
def d_is_rim : He.DefD := ⟨("is_rim", none), "is_rim", "is_rim", defArgs s_is_rim, defBody s_is_rim, defScope s_is_rim, [], []⟩
def d_Rim_init : He.DefD := ⟨("Rim", some "__init__"), "__init__", "Rim.__init__", defArgs s_Rim_init, defBody s_Rim_init, defScope s_Rim_init, [], []⟩
def d_Rim_at_number : He.DefD := ⟨("Rim", some "at_number"), "at_number", "Rim.at_number", defArgs s_Rim_at_number, defBody s_Rim_at_number, defScope s_Rim_at_number, [], []⟩
def d_MirrorRim_at_number : He.DefD := ⟨("MirrorRim", some "at_number"), "at_number", "MirrorRim.at_number", defArgs s_MirrorRim_at_number, defBody s_MirrorRim_at_number, defScope s_MirrorRim_at_number, [], []⟩
def d_FixedRim_init : He.DefD := ⟨("FixedRim", some "__init__"), "__init__", "FixedRim.__init__", defArgs s_FixedRim_init, defBody s_FixedRim_init, defScope s_FixedRim_init, [], []⟩
def d_FixedRim_at_number : He.DefD := ⟨("FixedRim", some "at_number"), "at_number", "FixedRim.at_number", defArgs s_FixedRim_at_number, defBody s_FixedRim_at_number, defScope s_FixedRim_at_number, [], []⟩
def d_rim_of : He.DefD := ⟨("rim_of", none), "rim_of", "rim_of", defArgs s_rim_of, defBody s_rim_of, defScope s_rim_of, [], []⟩
def d_Term_below : He.DefD := ⟨("Term", some "below"), "below", "Term.below", defArgs s_Term_below, defBody s_Term_below, defScope s_Term_below, [], []⟩
def d_Term_own_take : He.DefD := ⟨("Term", some "own_take"), "own_take", "Term.own_take", defArgs s_Term_own_take, defBody s_Term_own_take, defScope s_Term_own_take, [], []⟩
def d_Term_own_wrong : He.DefD := ⟨("Term", some "own_wrong"), "own_wrong", "Term.own_wrong", defArgs s_Term_own_wrong, defBody s_Term_own_wrong, defScope s_Term_own_wrong, [], []⟩
def d_Term_first_wrong : He.DefD := ⟨("Term", some "first_wrong"), "first_wrong", "Term.first_wrong", defArgs s_Term_first_wrong, defBody s_Term_first_wrong, defScope s_Term_first_wrong, [], []⟩
def d_Term_takes : He.DefD := ⟨("Term", some "takes"), "takes", "Term.takes", defArgs s_Term_takes, defBody s_Term_takes, defScope s_Term_takes, [], []⟩
def d_Term_depth : He.DefD := ⟨("Term", some "depth"), "depth", "Term.depth", defArgs s_Term_depth, defBody s_Term_depth, defScope s_Term_depth, [], []⟩
def d_Term_parts : He.DefD := ⟨("Term", some "parts"), "parts", "Term.parts", defArgs s_Term_parts, defBody s_Term_parts, defScope s_Term_parts, [], []⟩
def d_Number_init : He.DefD := ⟨("Number", some "__init__"), "__init__", "Number.__init__", defArgs s_Number_init, defBody s_Number_init, defScope s_Number_init, [], []⟩
def d_Number_own_wrong : He.DefD := ⟨("Number", some "own_wrong"), "own_wrong", "Number.own_wrong", defArgs s_Number_own_wrong, defBody s_Number_own_wrong, defScope s_Number_own_wrong, [], []⟩
def d_Take_init : He.DefD := ⟨("Take", some "__init__"), "__init__", "Take.__init__", defArgs s_Take_init, defBody s_Take_init, defScope s_Take_init, [], []⟩
def d_Take_own_take : He.DefD := ⟨("Take", some "own_take"), "own_take", "Take.own_take", defArgs s_Take_own_take, defBody s_Take_own_take, defScope s_Take_own_take, [], []⟩
def d_Take_own_wrong : He.DefD := ⟨("Take", some "own_wrong"), "own_wrong", "Take.own_wrong", defArgs s_Take_own_wrong, defBody s_Take_own_wrong, defScope s_Take_own_wrong, [], []⟩
def d_Paired_init : He.DefD := ⟨("Paired", some "__init__"), "__init__", "Paired.__init__", defArgs s_Paired_init, defBody s_Paired_init, defScope s_Paired_init, [], []⟩
def d_Paired_below : He.DefD := ⟨("Paired", some "below"), "below", "Paired.below", defArgs s_Paired_below, defBody s_Paired_below, defScope s_Paired_below, [], []⟩
def d_lines_of : He.DefD := ⟨("lines_of", none), "lines_of", "lines_of", defArgs s_lines_of, defBody s_lines_of, defScope s_lines_of, [], []⟩
def d_check_term : He.DefD := ⟨("check_term", none), "check_term", "check_term", defArgs s_check_term, defBody s_check_term, defScope s_check_term, [], []⟩
def d_is_first : He.DefD := ⟨("is_first", none), "is_first", "is_first", defArgs s_is_first, defBody s_is_first, defScope s_is_first, [], []⟩
def d_Job_init : He.DefD := ⟨("Job", some "__init__"), "__init__", "Job.__init__", defArgs s_Job_init, defBody s_Job_init, defScope s_Job_init, [], []⟩
def d_Job_deep : He.DefD := ⟨("Job", some "deep"), "deep", "Job.deep", defArgs s_Job_deep, defBody s_Job_deep, defScope s_Job_deep, [], []⟩
def d_Job_all_spots : He.DefD := ⟨("Job", some "all_spots"), "all_spots", "Job.all_spots", defArgs s_Job_all_spots, defBody s_Job_all_spots, defScope s_Job_all_spots, [], []⟩
def d_Job_is_spot : He.DefD := ⟨("Job", some "is_spot"), "is_spot", "Job.is_spot", defArgs s_Job_is_spot, defBody s_Job_is_spot, defScope s_Job_is_spot, [], []⟩
def d_Job_where_of : He.DefD := ⟨("Job", some "where_of"), "where_of", "Job.where_of", defArgs s_Job_where_of, defBody s_Job_where_of, defScope s_Job_where_of, [], []⟩
def d_Job_reads_of : He.DefD := ⟨("Job", some "reads_of"), "reads_of", "Job.reads_of", defArgs s_Job_reads_of, defBody s_Job_reads_of, defScope s_Job_reads_of, [], []⟩
def d_Grid_init : He.DefD := ⟨("Grid", some "__init__"), "__init__", "Grid.__init__", defArgs s_Grid_init, defBody s_Grid_init, defScope s_Grid_init, [], []⟩
def d_Grid_lines : He.DefD := ⟨("Grid", some "lines"), "lines", "Grid.lines", defArgs s_Grid_lines, defBody s_Grid_lines, defScope s_Grid_lines, [], []⟩
def d_Grid_places_many : He.DefD := ⟨("Grid", some "places_many"), "places_many", "Grid.places_many", defArgs s_Grid_places_many, defBody s_Grid_places_many, defScope s_Grid_places_many, [], []⟩
def d_Grid_all_places : He.DefD := ⟨("Grid", some "all_places"), "all_places", "Grid.all_places", defArgs s_Grid_all_places, defBody s_Grid_all_places, defScope s_Grid_all_places, [], []⟩
def d_Grid_has_place : He.DefD := ⟨("Grid", some "has_place"), "has_place", "Grid.has_place", defArgs s_Grid_has_place, defBody s_Grid_has_place, defScope s_Grid_has_place, [], []⟩
def d_Grid_beside : He.DefD := ⟨("Grid", some "beside"), "beside", "Grid.beside", defArgs s_Grid_beside, defBody s_Grid_beside, defScope s_Grid_beside, [], []⟩
def d_law_cell_at : He.DefD := ⟨("_law_cell_at", none), "_law_cell_at", "_law_cell_at", defArgs s_law_cell_at, defBody s_law_cell_at, defScope s_law_cell_at, [], []⟩
def d_law_tape : He.DefD := ⟨("_law_tape", none), "_law_tape", "_law_tape", defArgs s_law_tape, defBody s_law_tape, defScope s_law_tape, [], []⟩
def d_law_draw : He.DefD := ⟨("_law_draw", none), "_law_draw", "_law_draw", defArgs s_law_draw, defBody s_law_draw, defScope s_law_draw, [], []⟩
def d_law_world : He.DefD := ⟨("_law_world", none), "_law_world", "_law_world", defArgs s_law_world, defBody s_law_world, defScope s_law_world, [], []⟩
def d_law_places : He.DefD := ⟨("_law_places", none), "_law_places", "_law_places", defArgs s_law_places, defBody s_law_places, defScope s_law_places, [], []⟩
def d_law_spots : He.DefD := ⟨("_law_spots", none), "_law_spots", "_law_spots", defArgs s_law_spots, defBody s_law_spots, defScope s_law_spots, [], []⟩
def d_law_there : He.DefD := ⟨("_law_there", none), "_law_there", "_law_there", defArgs s_law_there, defBody s_law_there, defScope s_law_there, [], []⟩
def d_law_leans : He.DefD := ⟨("_law_leans", none), "_law_leans", "_law_leans", defArgs s_law_leans, defBody s_law_leans, defScope s_law_leans, [], []⟩
def d_law_job : He.DefD := ⟨("_law_job", none), "_law_job", "_law_job", defArgs s_law_job, defBody s_law_job, defScope s_law_job, [], []⟩
def d_law_row : He.DefD := ⟨("_law_row", none), "_law_row", "_law_row", defArgs s_law_row, defBody s_law_row, defScope s_law_row, [], []⟩
def d_law_goes : He.DefD := ⟨("_law_goes", none), "_law_goes", "_law_goes", defArgs s_law_goes, defBody s_law_goes, defScope s_law_goes, [], []⟩
def d_law_all_ways : He.DefD := ⟨("_law_all_ways", none), "_law_all_ways", "_law_all_ways", defArgs s_law_all_ways, defBody s_law_all_ways, defScope s_law_all_ways, [], []⟩
def d_law_none_goes : He.DefD := ⟨("_law_none_goes", none), "_law_none_goes", "_law_none_goes", defArgs s_law_none_goes, defBody s_law_none_goes, defScope s_law_none_goes, [], []⟩
def d_law_crowd_right : He.DefD := ⟨("_law_crowd_right", none), "_law_crowd_right", "_law_crowd_right", defArgs s_law_crowd_right, defBody s_law_crowd_right, defScope s_law_crowd_right, [], []⟩
def d_law : He.DefD := ⟨("law", none), "law", "law", defArgs s_law, defBody s_law, defScope s_law, [], []⟩
def fn1 : List He.DefD := [d_leans_of, d_last_use, d_need_row, d_need_wanted, d_ends_of, d_least_room, d_slots_wanted, d_crowd_at, d_is_whole, d_is_between, d_is_rim, d_Rim_init, d_Rim_at_number, d_MirrorRim_at_number, d_FixedRim_init, d_FixedRim_at_number, d_rim_of, d_Term_below, d_Term_own_take, d_Term_own_wrong, d_Term_first_wrong, d_Term_takes, d_Term_depth, d_Term_parts, d_Number_init, d_Number_own_wrong, d_Take_init, d_Take_own_take, d_Take_own_wrong, d_Paired_init, d_Paired_below, d_lines_of]
def fn2 : List He.DefD := [d_check_term, d_is_first, d_Job_init, d_Job_deep, d_Job_all_spots, d_Job_is_spot, d_Job_where_of, d_Job_reads_of, d_Grid_init, d_Grid_lines, d_Grid_places_many, d_Grid_all_places, d_Grid_has_place, d_Grid_beside, d_law_cell_at, d_law_tape, d_law_draw, d_law_world, d_law_places, d_law_spots, d_law_there, d_law_leans, d_law_job, d_law_row, d_law_goes, d_law_all_ways, d_law_none_goes, d_law_crowd_right, d_law]
def fa0 : List He.Fa := [.glo "leans_of", .glo "last_use", .glo "need_row", .glo "need_wanted", .glo "ends_of", .glo "least_room", .glo "slots_wanted", .glo "crowd_at", .glo "is_whole", .glo "is_between", .glo "is_rim", .glo "rim_of", .glo "lines_of", .glo "check_term", .glo "is_first", .glo "_law_cell_at", .glo "_law_tape", .glo "_law_draw", .glo "_law_world", .glo "_law_places", .glo "_law_spots", .glo "_law_there", .glo "_law_leans", .glo "_law_job", .glo "_law_row", .glo "_law_goes", .glo "_law_all_ways", .glo "_law_none_goes", .glo "_law_crowd_right", .glo "law", .glo "Rim", .glo "MirrorRim", .glo "FixedRim", .glo "Number", .glo "Take"]
def fa1 : List He.Fa := [.glo "Added", .glo "Multiplied", .glo "Job", .glo "Grid", .free "len", .free "isinstance", .free "sorted", .free "set", .free "enumerate", .free "range", .free "zip", .free "max", .free "min", .free "sum", .free "all", .free "list", .free "tuple", .free "dict", .free "int", .free "bool", .int "MOST_SIZE" 9, .int "MOST_FIXED" 1000000000, .int "MOST_NUMBER" 1000000000000, .int "MOST_BACK" 3, .int "MOST_STEP" 9, .int "MOST_DEPTH" 12, .int "MOST_PARTS" 60, .int "MOST_TAKES" 6, .int "MOST_MODULUS" 1000000000, .int "MOST_ROUNDS" 12, .int "MOST_SPOTS" 120, .int "MOST_LINES" 3, .int "MOST_PLACES" 40, .cls "Rim", .cls "MirrorRim"]
def fa2 : List He.Fa := [.cls "FixedRim", .cls "Number", .cls "Take", .cls "Added", .cls "Multiplied", .cls "Job", .cls "Grid", .mkr "Rim", .mkr "MirrorRim", .mkr "FixedRim", .mkr "Number", .mkr "Take", .mkr "Added", .mkr "Multiplied", .mkr "Job", .mkr "Grid", .noat "Rim" "size", .noat "MirrorRim" "size", .noat "FixedRim" "size", .noat "FixedRim" "beyond", .noat "Number" "value", .noat "Take" "back", .noat "Take" "steps", .noat "Added" "one", .noat "Added" "other", .noat "Multiplied" "one", .noat "Multiplied" "other", .noat "Job" "grid", .noat "Job" "term", .noat "Job" "taken", .noat "Job" "modulus", .noat "Job" "rounds", .noat "Job" "first", .noat "Grid" "sizes", .noat "Grid" "rims"]
def fa3 : List He.Fa := [.noat "Grid" "edges", .meth "Rim" "at_number", .meth "MirrorRim" "at_number", .meth "FixedRim" "at_number", .meth "Number" "below", .meth "Number" "own_take", .meth "Number" "own_wrong", .meth "Number" "first_wrong", .meth "Number" "takes", .meth "Number" "depth", .meth "Number" "parts", .meth "Take" "below", .meth "Take" "own_take", .meth "Take" "own_wrong", .meth "Take" "first_wrong", .meth "Take" "takes", .meth "Take" "depth", .meth "Take" "parts", .meth "Added" "below", .meth "Added" "own_take", .meth "Added" "own_wrong", .meth "Added" "first_wrong", .meth "Added" "takes", .meth "Added" "depth", .meth "Added" "parts", .meth "Multiplied" "below", .meth "Multiplied" "own_take", .meth "Multiplied" "own_wrong", .meth "Multiplied" "first_wrong", .meth "Multiplied" "takes", .meth "Multiplied" "depth", .meth "Multiplied" "parts", .meth "Job" "deep", .meth "Job" "all_spots", .meth "Job" "is_spot"]
def fa4 : List He.Fa := [.meth "Job" "where_of", .meth "Job" "reads_of", .meth "Grid" "lines", .meth "Grid" "places_many", .meth "Grid" "all_places", .meth "Grid" "has_place", .meth "Grid" "beside"]
def fas : List He.Fa := fa0 ++ fa1 ++ fa2 ++ fa3 ++ fa4
def fns : List He.DefD := fn1 ++ fn2
/-- methods that a class has from another -/
def eqs : List (Str × Str × Str) := [("Number", "Term", "below"), ("Number", "Term", "own_take"), ("Number", "Term", "first_wrong"), ("Number", "Term", "takes"), ("Number", "Term", "depth"), ("Number", "Term", "parts"), ("Take", "Term", "below"), ("Take", "Term", "first_wrong"), ("Take", "Term", "takes"), ("Take", "Term", "depth"), ("Take", "Term", "parts"), ("Added", "Paired", "below"), ("Added", "Term", "own_take"), ("Added", "Term", "own_wrong"), ("Added", "Term", "first_wrong"), ("Added", "Term", "takes"), ("Added", "Term", "depth"), ("Added", "Term", "parts"), ("Multiplied", "Paired", "below"), ("Multiplied", "Term", "own_take"), ("Multiplied", "Term", "own_wrong"), ("Multiplied", "Term", "first_wrong"), ("Multiplied", "Term", "takes"), ("Multiplied", "Term", "depth"), ("Multiplied", "Term", "parts"), ("Added", "Paired", "__init__"), ("Multiplied", "Paired", "__init__"), ("MirrorRim", "Rim", "__init__")]
def sameM (K : PySem.W.Frag) (e : Str × Str × Str) : Bool := decide (He.ma K (He.ga K e.1) e.2.2 = He.ma K (He.ga K e.2.1) e.2.2)
/-- what the top has left -/
def extra (K : PySem.W.Frag) : Bool := eqs.all (sameM K) && (PySem.W.readsIn K (He.ga K "Rim") (.type "type") && (He.eqO (PySem.W.specialIn K (.ref (He.ga K "Rim")) "__getattribute__") (some (some (.builtin "type.__getattribute__"))) && (match PySem.W.findCls K (.ref (He.ga K "Rim")) (.type "type") "__init__" with
  | some (.val (.ref f)) => decide (f = He.ma K (He.ga K "Rim") "__init__")
  | _ => false)))
def Txt (K : PySem.W.Frag) (mg : Str → Option Value) : Prop := ∃ h : Heap, K.In h ∧ h.Ns mainGlobals mg ∧ He.SaysD fas fns K ∧ extra K = true
def fdA (K : PySem.W.Frag) (p : Str × Option Str) : FuncData := match K.lookup (He.fAd K p) with
  | some ⟨_, _, .func fd, _⟩ => fd
  | _ => default
theorem fun_at {K : PySem.W.Frag} {mg : Str → Option Value} (T : Txt K mg) {x qual : Str} {st : Stmt} {p : Str × Option Str} (i : Nat) (d : He.DefD) (e : d = ⟨p, x, qual, defArgs st, defBody st, defScope st, [], []⟩) (h : fns[i]? = some d) : Fun K x qual st (He.fAd K p) (fdA K p) := by
  obtain ⟨_, _, _, c, _⟩ := T
  subst e
  obtain ⟨fd, F⟩ := c.def_ i h
  have G := He5.fun_of F
  obtain ⟨oc, od, kV, doc, pm, an, cdv, ct, osl, e1, e2, e3⟩ := G.ex
  have ef : fdA K p = fd := by
    unfold fdA
    rw [e2]
  rw [ef]
  exact G
section
variable {K : PySem.W.Frag} {mg : Str → Option Value}
theorem glo_leans_of (T : Txt K mg) : mg "leans_of" = some (.ref (He.ga K "leans_of")) := let ⟨_, X, G, c, _⟩ := T; He.glo_ok X G (c.fact 0 rfl)
theorem glo_last_use (T : Txt K mg) : mg "last_use" = some (.ref (He.ga K "last_use")) := let ⟨_, X, G, c, _⟩ := T; He.glo_ok X G (c.fact 1 rfl)
theorem glo_need_row (T : Txt K mg) : mg "need_row" = some (.ref (He.ga K "need_row")) := let ⟨_, X, G, c, _⟩ := T; He.glo_ok X G (c.fact 2 rfl)
theorem glo_need_wanted (T : Txt K mg) : mg "need_wanted" = some (.ref (He.ga K "need_wanted")) := let ⟨_, X, G, c, _⟩ := T; He.glo_ok X G (c.fact 3 rfl)
theorem glo_ends_of (T : Txt K mg) : mg "ends_of" = some (.ref (He.ga K "ends_of")) := let ⟨_, X, G, c, _⟩ := T; He.glo_ok X G (c.fact 4 rfl)
theorem glo_least_room (T : Txt K mg) : mg "least_room" = some (.ref (He.ga K "least_room")) := let ⟨_, X, G, c, _⟩ := T; He.glo_ok X G (c.fact 5 rfl)
theorem glo_slots_wanted (T : Txt K mg) : mg "slots_wanted" = some (.ref (He.ga K "slots_wanted")) := let ⟨_, X, G, c, _⟩ := T; He.glo_ok X G (c.fact 6 rfl)
theorem glo_crowd_at (T : Txt K mg) : mg "crowd_at" = some (.ref (He.ga K "crowd_at")) := let ⟨_, X, G, c, _⟩ := T; He.glo_ok X G (c.fact 7 rfl)
theorem glo_is_whole (T : Txt K mg) : mg "is_whole" = some (.ref (He.ga K "is_whole")) := let ⟨_, X, G, c, _⟩ := T; He.glo_ok X G (c.fact 8 rfl)
theorem glo_is_between (T : Txt K mg) : mg "is_between" = some (.ref (He.ga K "is_between")) := let ⟨_, X, G, c, _⟩ := T; He.glo_ok X G (c.fact 9 rfl)
theorem glo_is_rim (T : Txt K mg) : mg "is_rim" = some (.ref (He.ga K "is_rim")) := let ⟨_, X, G, c, _⟩ := T; He.glo_ok X G (c.fact 10 rfl)
theorem glo_rim_of (T : Txt K mg) : mg "rim_of" = some (.ref (He.ga K "rim_of")) := let ⟨_, X, G, c, _⟩ := T; He.glo_ok X G (c.fact 11 rfl)
theorem glo_lines_of (T : Txt K mg) : mg "lines_of" = some (.ref (He.ga K "lines_of")) := let ⟨_, X, G, c, _⟩ := T; He.glo_ok X G (c.fact 12 rfl)
theorem glo_check_term (T : Txt K mg) : mg "check_term" = some (.ref (He.ga K "check_term")) := let ⟨_, X, G, c, _⟩ := T; He.glo_ok X G (c.fact 13 rfl)
theorem glo_is_first (T : Txt K mg) : mg "is_first" = some (.ref (He.ga K "is_first")) := let ⟨_, X, G, c, _⟩ := T; He.glo_ok X G (c.fact 14 rfl)
theorem glo_law_cell_at (T : Txt K mg) : mg "_law_cell_at" = some (.ref (He.ga K "_law_cell_at")) := let ⟨_, X, G, c, _⟩ := T; He.glo_ok X G (c.fact 15 rfl)
theorem glo_law_tape (T : Txt K mg) : mg "_law_tape" = some (.ref (He.ga K "_law_tape")) := let ⟨_, X, G, c, _⟩ := T; He.glo_ok X G (c.fact 16 rfl)
theorem glo_law_draw (T : Txt K mg) : mg "_law_draw" = some (.ref (He.ga K "_law_draw")) := let ⟨_, X, G, c, _⟩ := T; He.glo_ok X G (c.fact 17 rfl)
theorem glo_law_world (T : Txt K mg) : mg "_law_world" = some (.ref (He.ga K "_law_world")) := let ⟨_, X, G, c, _⟩ := T; He.glo_ok X G (c.fact 18 rfl)
theorem glo_law_places (T : Txt K mg) : mg "_law_places" = some (.ref (He.ga K "_law_places")) := let ⟨_, X, G, c, _⟩ := T; He.glo_ok X G (c.fact 19 rfl)
theorem glo_law_spots (T : Txt K mg) : mg "_law_spots" = some (.ref (He.ga K "_law_spots")) := let ⟨_, X, G, c, _⟩ := T; He.glo_ok X G (c.fact 20 rfl)
theorem glo_law_there (T : Txt K mg) : mg "_law_there" = some (.ref (He.ga K "_law_there")) := let ⟨_, X, G, c, _⟩ := T; He.glo_ok X G (c.fact 21 rfl)
theorem glo_law_leans (T : Txt K mg) : mg "_law_leans" = some (.ref (He.ga K "_law_leans")) := let ⟨_, X, G, c, _⟩ := T; He.glo_ok X G (c.fact 22 rfl)
theorem glo_law_job (T : Txt K mg) : mg "_law_job" = some (.ref (He.ga K "_law_job")) := let ⟨_, X, G, c, _⟩ := T; He.glo_ok X G (c.fact 23 rfl)
theorem glo_law_row (T : Txt K mg) : mg "_law_row" = some (.ref (He.ga K "_law_row")) := let ⟨_, X, G, c, _⟩ := T; He.glo_ok X G (c.fact 24 rfl)
theorem glo_law_goes (T : Txt K mg) : mg "_law_goes" = some (.ref (He.ga K "_law_goes")) := let ⟨_, X, G, c, _⟩ := T; He.glo_ok X G (c.fact 25 rfl)
theorem glo_law_all_ways (T : Txt K mg) : mg "_law_all_ways" = some (.ref (He.ga K "_law_all_ways")) := let ⟨_, X, G, c, _⟩ := T; He.glo_ok X G (c.fact 26 rfl)
theorem glo_law_none_goes (T : Txt K mg) : mg "_law_none_goes" = some (.ref (He.ga K "_law_none_goes")) := let ⟨_, X, G, c, _⟩ := T; He.glo_ok X G (c.fact 27 rfl)
theorem glo_law_crowd_right (T : Txt K mg) : mg "_law_crowd_right" = some (.ref (He.ga K "_law_crowd_right")) := let ⟨_, X, G, c, _⟩ := T; He.glo_ok X G (c.fact 28 rfl)
theorem glo_law (T : Txt K mg) : mg "law" = some (.ref (He.ga K "law")) := let ⟨_, X, G, c, _⟩ := T; He.glo_ok X G (c.fact 29 rfl)
theorem glo_Rim (T : Txt K mg) : mg "Rim" = some (.ref (He.ga K "Rim")) := let ⟨_, X, G, c, _⟩ := T; He.glo_ok X G (c.fact 30 rfl)
theorem glo_MirrorRim (T : Txt K mg) : mg "MirrorRim" = some (.ref (He.ga K "MirrorRim")) := let ⟨_, X, G, c, _⟩ := T; He.glo_ok X G (c.fact 31 rfl)
theorem glo_FixedRim (T : Txt K mg) : mg "FixedRim" = some (.ref (He.ga K "FixedRim")) := let ⟨_, X, G, c, _⟩ := T; He.glo_ok X G (c.fact 32 rfl)
theorem glo_Number (T : Txt K mg) : mg "Number" = some (.ref (He.ga K "Number")) := let ⟨_, X, G, c, _⟩ := T; He.glo_ok X G (c.fact 33 rfl)
theorem glo_Take (T : Txt K mg) : mg "Take" = some (.ref (He.ga K "Take")) := let ⟨_, X, G, c, _⟩ := T; He.glo_ok X G (c.fact 34 rfl)
theorem glo_Added (T : Txt K mg) : mg "Added" = some (.ref (He.ga K "Added")) := let ⟨_, X, G, c, _⟩ := T; He.glo_ok X G (c.fact 35 rfl)
theorem glo_Multiplied (T : Txt K mg) : mg "Multiplied" = some (.ref (He.ga K "Multiplied")) := let ⟨_, X, G, c, _⟩ := T; He.glo_ok X G (c.fact 36 rfl)
theorem glo_Job (T : Txt K mg) : mg "Job" = some (.ref (He.ga K "Job")) := let ⟨_, X, G, c, _⟩ := T; He.glo_ok X G (c.fact 37 rfl)
theorem glo_Grid (T : Txt K mg) : mg "Grid" = some (.ref (He.ga K "Grid")) := let ⟨_, X, G, c, _⟩ := T; He.glo_ok X G (c.fact 38 rfl)
theorem free_len (T : Txt K mg) : mg "len" = none := let ⟨_, X, G, c, _⟩ := T; He.free_ok X G (c.fact 39 rfl)
theorem free_isinstance (T : Txt K mg) : mg "isinstance" = none := let ⟨_, X, G, c, _⟩ := T; He.free_ok X G (c.fact 40 rfl)
theorem free_sorted (T : Txt K mg) : mg "sorted" = none := let ⟨_, X, G, c, _⟩ := T; He.free_ok X G (c.fact 41 rfl)
theorem free_set (T : Txt K mg) : mg "set" = none := let ⟨_, X, G, c, _⟩ := T; He.free_ok X G (c.fact 42 rfl)
theorem free_enumerate (T : Txt K mg) : mg "enumerate" = none := let ⟨_, X, G, c, _⟩ := T; He.free_ok X G (c.fact 43 rfl)
theorem free_range (T : Txt K mg) : mg "range" = none := let ⟨_, X, G, c, _⟩ := T; He.free_ok X G (c.fact 44 rfl)
theorem free_zip (T : Txt K mg) : mg "zip" = none := let ⟨_, X, G, c, _⟩ := T; He.free_ok X G (c.fact 45 rfl)
theorem free_max (T : Txt K mg) : mg "max" = none := let ⟨_, X, G, c, _⟩ := T; He.free_ok X G (c.fact 46 rfl)
theorem free_min (T : Txt K mg) : mg "min" = none := let ⟨_, X, G, c, _⟩ := T; He.free_ok X G (c.fact 47 rfl)
theorem free_sum (T : Txt K mg) : mg "sum" = none := let ⟨_, X, G, c, _⟩ := T; He.free_ok X G (c.fact 48 rfl)
theorem free_all (T : Txt K mg) : mg "all" = none := let ⟨_, X, G, c, _⟩ := T; He.free_ok X G (c.fact 49 rfl)
theorem free_list (T : Txt K mg) : mg "list" = none := let ⟨_, X, G, c, _⟩ := T; He.free_ok X G (c.fact 50 rfl)
theorem free_tuple (T : Txt K mg) : mg "tuple" = none := let ⟨_, X, G, c, _⟩ := T; He.free_ok X G (c.fact 51 rfl)
theorem free_dict (T : Txt K mg) : mg "dict" = none := let ⟨_, X, G, c, _⟩ := T; He.free_ok X G (c.fact 52 rfl)
theorem free_int (T : Txt K mg) : mg "int" = none := let ⟨_, X, G, c, _⟩ := T; He.free_ok X G (c.fact 53 rfl)
theorem free_bool (T : Txt K mg) : mg "bool" = none := let ⟨_, X, G, c, _⟩ := T; He.free_ok X G (c.fact 54 rfl)
theorem int_MOST_SIZE (T : Txt K mg) : ∃ t, mg "MOST_SIZE" = some (.int 9 t) := let ⟨_, X, G, c, _⟩ := T; He.int_ok X G (c.fact 55 rfl)
theorem int_MOST_FIXED (T : Txt K mg) : ∃ t, mg "MOST_FIXED" = some (.int 1000000000 t) := let ⟨_, X, G, c, _⟩ := T; He.int_ok X G (c.fact 56 rfl)
theorem int_MOST_NUMBER (T : Txt K mg) : ∃ t, mg "MOST_NUMBER" = some (.int 1000000000000 t) := let ⟨_, X, G, c, _⟩ := T; He.int_ok X G (c.fact 57 rfl)
theorem int_MOST_BACK (T : Txt K mg) : ∃ t, mg "MOST_BACK" = some (.int 3 t) := let ⟨_, X, G, c, _⟩ := T; He.int_ok X G (c.fact 58 rfl)
theorem int_MOST_STEP (T : Txt K mg) : ∃ t, mg "MOST_STEP" = some (.int 9 t) := let ⟨_, X, G, c, _⟩ := T; He.int_ok X G (c.fact 59 rfl)
theorem int_MOST_DEPTH (T : Txt K mg) : ∃ t, mg "MOST_DEPTH" = some (.int 12 t) := let ⟨_, X, G, c, _⟩ := T; He.int_ok X G (c.fact 60 rfl)
theorem int_MOST_PARTS (T : Txt K mg) : ∃ t, mg "MOST_PARTS" = some (.int 60 t) := let ⟨_, X, G, c, _⟩ := T; He.int_ok X G (c.fact 61 rfl)
theorem int_MOST_TAKES (T : Txt K mg) : ∃ t, mg "MOST_TAKES" = some (.int 6 t) := let ⟨_, X, G, c, _⟩ := T; He.int_ok X G (c.fact 62 rfl)
theorem int_MOST_MODULUS (T : Txt K mg) : ∃ t, mg "MOST_MODULUS" = some (.int 1000000000 t) := let ⟨_, X, G, c, _⟩ := T; He.int_ok X G (c.fact 63 rfl)
theorem int_MOST_ROUNDS (T : Txt K mg) : ∃ t, mg "MOST_ROUNDS" = some (.int 12 t) := let ⟨_, X, G, c, _⟩ := T; He.int_ok X G (c.fact 64 rfl)
theorem int_MOST_SPOTS (T : Txt K mg) : ∃ t, mg "MOST_SPOTS" = some (.int 120 t) := let ⟨_, X, G, c, _⟩ := T; He.int_ok X G (c.fact 65 rfl)
theorem int_MOST_LINES (T : Txt K mg) : ∃ t, mg "MOST_LINES" = some (.int 3 t) := let ⟨_, X, G, c, _⟩ := T; He.int_ok X G (c.fact 66 rfl)
theorem int_MOST_PLACES (T : Txt K mg) : ∃ t, mg "MOST_PLACES" = some (.int 40 t) := let ⟨_, X, G, c, _⟩ := T; He.int_ok X G (c.fact 67 rfl)
theorem cls_Rim (T : Txt K mg) : Cls K (He.ga K "Rim") := let ⟨_, _, _, c, _⟩ := T; He.cls_ok (c.fact 68 rfl)
theorem cls_MirrorRim (T : Txt K mg) : Cls K (He.ga K "MirrorRim") := let ⟨_, _, _, c, _⟩ := T; He.cls_ok (c.fact 69 rfl)
theorem cls_FixedRim (T : Txt K mg) : Cls K (He.ga K "FixedRim") := let ⟨_, _, _, c, _⟩ := T; He.cls_ok (c.fact 70 rfl)
theorem cls_Number (T : Txt K mg) : Cls K (He.ga K "Number") := let ⟨_, _, _, c, _⟩ := T; He.cls_ok (c.fact 71 rfl)
theorem cls_Take (T : Txt K mg) : Cls K (He.ga K "Take") := let ⟨_, _, _, c, _⟩ := T; He.cls_ok (c.fact 72 rfl)
theorem cls_Added (T : Txt K mg) : Cls K (He.ga K "Added") := let ⟨_, _, _, c, _⟩ := T; He.cls_ok (c.fact 73 rfl)
theorem cls_Multiplied (T : Txt K mg) : Cls K (He.ga K "Multiplied") := let ⟨_, _, _, c, _⟩ := T; He.cls_ok (c.fact 74 rfl)
theorem cls_Job (T : Txt K mg) : Cls K (He.ga K "Job") := let ⟨_, _, _, c, _⟩ := T; He.cls_ok (c.fact 75 rfl)
theorem cls_Grid (T : Txt K mg) : Cls K (He.ga K "Grid") := let ⟨_, _, _, c, _⟩ := T; He.cls_ok (c.fact 76 rfl)
theorem mkr_Rim (T : Txt K mg) : Mk K (He.ga K "Rim") (He.ma K (He.ga K "Rim") "__init__") := let ⟨_, _, _, c, _⟩ := T; He.mkr_ok (c.fact 77 rfl)
theorem mkr_MirrorRim (T : Txt K mg) : Mk K (He.ga K "MirrorRim") (He.ma K (He.ga K "MirrorRim") "__init__") := let ⟨_, _, _, c, _⟩ := T; He.mkr_ok (c.fact 78 rfl)
theorem mkr_FixedRim (T : Txt K mg) : Mk K (He.ga K "FixedRim") (He.ma K (He.ga K "FixedRim") "__init__") := let ⟨_, _, _, c, _⟩ := T; He.mkr_ok (c.fact 79 rfl)
theorem mkr_Number (T : Txt K mg) : Mk K (He.ga K "Number") (He.ma K (He.ga K "Number") "__init__") := let ⟨_, _, _, c, _⟩ := T; He.mkr_ok (c.fact 80 rfl)
theorem mkr_Take (T : Txt K mg) : Mk K (He.ga K "Take") (He.ma K (He.ga K "Take") "__init__") := let ⟨_, _, _, c, _⟩ := T; He.mkr_ok (c.fact 81 rfl)
theorem mkr_Added (T : Txt K mg) : Mk K (He.ga K "Added") (He.ma K (He.ga K "Added") "__init__") := let ⟨_, _, _, c, _⟩ := T; He.mkr_ok (c.fact 82 rfl)
theorem mkr_Multiplied (T : Txt K mg) : Mk K (He.ga K "Multiplied") (He.ma K (He.ga K "Multiplied") "__init__") := let ⟨_, _, _, c, _⟩ := T; He.mkr_ok (c.fact 83 rfl)
theorem mkr_Job (T : Txt K mg) : Mk K (He.ga K "Job") (He.ma K (He.ga K "Job") "__init__") := let ⟨_, _, _, c, _⟩ := T; He.mkr_ok (c.fact 84 rfl)
theorem mkr_Grid (T : Txt K mg) : Mk K (He.ga K "Grid") (He.ma K (He.ga K "Grid") "__init__") := let ⟨_, _, _, c, _⟩ := T; He.mkr_ok (c.fact 85 rfl)
theorem noat_Rim_size (T : Txt K mg) : NoAttr K (He.ga K "Rim") "size" := let ⟨_, _, _, c, _⟩ := T; He.noat_ok (c.fact 86 rfl)
theorem noat_MirrorRim_size (T : Txt K mg) : NoAttr K (He.ga K "MirrorRim") "size" := let ⟨_, _, _, c, _⟩ := T; He.noat_ok (c.fact 87 rfl)
theorem noat_FixedRim_size (T : Txt K mg) : NoAttr K (He.ga K "FixedRim") "size" := let ⟨_, _, _, c, _⟩ := T; He.noat_ok (c.fact 88 rfl)
theorem noat_FixedRim_beyond (T : Txt K mg) : NoAttr K (He.ga K "FixedRim") "beyond" := let ⟨_, _, _, c, _⟩ := T; He.noat_ok (c.fact 89 rfl)
theorem noat_Number_value (T : Txt K mg) : NoAttr K (He.ga K "Number") "value" := let ⟨_, _, _, c, _⟩ := T; He.noat_ok (c.fact 90 rfl)
theorem noat_Take_back (T : Txt K mg) : NoAttr K (He.ga K "Take") "back" := let ⟨_, _, _, c, _⟩ := T; He.noat_ok (c.fact 91 rfl)
theorem noat_Take_steps (T : Txt K mg) : NoAttr K (He.ga K "Take") "steps" := let ⟨_, _, _, c, _⟩ := T; He.noat_ok (c.fact 92 rfl)
theorem noat_Added_one (T : Txt K mg) : NoAttr K (He.ga K "Added") "one" := let ⟨_, _, _, c, _⟩ := T; He.noat_ok (c.fact 93 rfl)
theorem noat_Added_other (T : Txt K mg) : NoAttr K (He.ga K "Added") "other" := let ⟨_, _, _, c, _⟩ := T; He.noat_ok (c.fact 94 rfl)
theorem noat_Multiplied_one (T : Txt K mg) : NoAttr K (He.ga K "Multiplied") "one" := let ⟨_, _, _, c, _⟩ := T; He.noat_ok (c.fact 95 rfl)
theorem noat_Multiplied_other (T : Txt K mg) : NoAttr K (He.ga K "Multiplied") "other" := let ⟨_, _, _, c, _⟩ := T; He.noat_ok (c.fact 96 rfl)
theorem noat_Job_grid (T : Txt K mg) : NoAttr K (He.ga K "Job") "grid" := let ⟨_, _, _, c, _⟩ := T; He.noat_ok (c.fact 97 rfl)
theorem noat_Job_term (T : Txt K mg) : NoAttr K (He.ga K "Job") "term" := let ⟨_, _, _, c, _⟩ := T; He.noat_ok (c.fact 98 rfl)
theorem noat_Job_taken (T : Txt K mg) : NoAttr K (He.ga K "Job") "taken" := let ⟨_, _, _, c, _⟩ := T; He.noat_ok (c.fact 99 rfl)
theorem noat_Job_modulus (T : Txt K mg) : NoAttr K (He.ga K "Job") "modulus" := let ⟨_, _, _, c, _⟩ := T; He.noat_ok (c.fact 100 rfl)
theorem noat_Job_rounds (T : Txt K mg) : NoAttr K (He.ga K "Job") "rounds" := let ⟨_, _, _, c, _⟩ := T; He.noat_ok (c.fact 101 rfl)
theorem noat_Job_first (T : Txt K mg) : NoAttr K (He.ga K "Job") "first" := let ⟨_, _, _, c, _⟩ := T; He.noat_ok (c.fact 102 rfl)
theorem noat_Grid_sizes (T : Txt K mg) : NoAttr K (He.ga K "Grid") "sizes" := let ⟨_, _, _, c, _⟩ := T; He.noat_ok (c.fact 103 rfl)
theorem noat_Grid_rims (T : Txt K mg) : NoAttr K (He.ga K "Grid") "rims" := let ⟨_, _, _, c, _⟩ := T; He.noat_ok (c.fact 104 rfl)
theorem noat_Grid_edges (T : Txt K mg) : NoAttr K (He.ga K "Grid") "edges" := let ⟨_, _, _, c, _⟩ := T; He.noat_ok (c.fact 105 rfl)
theorem meth_Rim_at_number (T : Txt K mg) : Meth K (He.ga K "Rim") "at_number" (He.ma K (He.ga K "Rim") "at_number") := let ⟨_, _, _, c, _⟩ := T; He.meth_ok (c.fact 106 rfl)
theorem meth_MirrorRim_at_number (T : Txt K mg) : Meth K (He.ga K "MirrorRim") "at_number" (He.ma K (He.ga K "MirrorRim") "at_number") := let ⟨_, _, _, c, _⟩ := T; He.meth_ok (c.fact 107 rfl)
theorem meth_FixedRim_at_number (T : Txt K mg) : Meth K (He.ga K "FixedRim") "at_number" (He.ma K (He.ga K "FixedRim") "at_number") := let ⟨_, _, _, c, _⟩ := T; He.meth_ok (c.fact 108 rfl)
theorem meth_Number_below (T : Txt K mg) : Meth K (He.ga K "Number") "below" (He.ma K (He.ga K "Number") "below") := let ⟨_, _, _, c, _⟩ := T; He.meth_ok (c.fact 109 rfl)
theorem meth_Number_own_take (T : Txt K mg) : Meth K (He.ga K "Number") "own_take" (He.ma K (He.ga K "Number") "own_take") := let ⟨_, _, _, c, _⟩ := T; He.meth_ok (c.fact 110 rfl)
theorem meth_Number_own_wrong (T : Txt K mg) : Meth K (He.ga K "Number") "own_wrong" (He.ma K (He.ga K "Number") "own_wrong") := let ⟨_, _, _, c, _⟩ := T; He.meth_ok (c.fact 111 rfl)
theorem meth_Number_first_wrong (T : Txt K mg) : Meth K (He.ga K "Number") "first_wrong" (He.ma K (He.ga K "Number") "first_wrong") := let ⟨_, _, _, c, _⟩ := T; He.meth_ok (c.fact 112 rfl)
theorem meth_Number_takes (T : Txt K mg) : Meth K (He.ga K "Number") "takes" (He.ma K (He.ga K "Number") "takes") := let ⟨_, _, _, c, _⟩ := T; He.meth_ok (c.fact 113 rfl)
theorem meth_Number_depth (T : Txt K mg) : Meth K (He.ga K "Number") "depth" (He.ma K (He.ga K "Number") "depth") := let ⟨_, _, _, c, _⟩ := T; He.meth_ok (c.fact 114 rfl)
theorem meth_Number_parts (T : Txt K mg) : Meth K (He.ga K "Number") "parts" (He.ma K (He.ga K "Number") "parts") := let ⟨_, _, _, c, _⟩ := T; He.meth_ok (c.fact 115 rfl)
theorem meth_Take_below (T : Txt K mg) : Meth K (He.ga K "Take") "below" (He.ma K (He.ga K "Take") "below") := let ⟨_, _, _, c, _⟩ := T; He.meth_ok (c.fact 116 rfl)
theorem meth_Take_own_take (T : Txt K mg) : Meth K (He.ga K "Take") "own_take" (He.ma K (He.ga K "Take") "own_take") := let ⟨_, _, _, c, _⟩ := T; He.meth_ok (c.fact 117 rfl)
theorem meth_Take_own_wrong (T : Txt K mg) : Meth K (He.ga K "Take") "own_wrong" (He.ma K (He.ga K "Take") "own_wrong") := let ⟨_, _, _, c, _⟩ := T; He.meth_ok (c.fact 118 rfl)
theorem meth_Take_first_wrong (T : Txt K mg) : Meth K (He.ga K "Take") "first_wrong" (He.ma K (He.ga K "Take") "first_wrong") := let ⟨_, _, _, c, _⟩ := T; He.meth_ok (c.fact 119 rfl)
theorem meth_Take_takes (T : Txt K mg) : Meth K (He.ga K "Take") "takes" (He.ma K (He.ga K "Take") "takes") := let ⟨_, _, _, c, _⟩ := T; He.meth_ok (c.fact 120 rfl)
theorem meth_Take_depth (T : Txt K mg) : Meth K (He.ga K "Take") "depth" (He.ma K (He.ga K "Take") "depth") := let ⟨_, _, _, c, _⟩ := T; He.meth_ok (c.fact 121 rfl)
theorem meth_Take_parts (T : Txt K mg) : Meth K (He.ga K "Take") "parts" (He.ma K (He.ga K "Take") "parts") := let ⟨_, _, _, c, _⟩ := T; He.meth_ok (c.fact 122 rfl)
theorem meth_Added_below (T : Txt K mg) : Meth K (He.ga K "Added") "below" (He.ma K (He.ga K "Added") "below") := let ⟨_, _, _, c, _⟩ := T; He.meth_ok (c.fact 123 rfl)
theorem meth_Added_own_take (T : Txt K mg) : Meth K (He.ga K "Added") "own_take" (He.ma K (He.ga K "Added") "own_take") := let ⟨_, _, _, c, _⟩ := T; He.meth_ok (c.fact 124 rfl)
theorem meth_Added_own_wrong (T : Txt K mg) : Meth K (He.ga K "Added") "own_wrong" (He.ma K (He.ga K "Added") "own_wrong") := let ⟨_, _, _, c, _⟩ := T; He.meth_ok (c.fact 125 rfl)
theorem meth_Added_first_wrong (T : Txt K mg) : Meth K (He.ga K "Added") "first_wrong" (He.ma K (He.ga K "Added") "first_wrong") := let ⟨_, _, _, c, _⟩ := T; He.meth_ok (c.fact 126 rfl)
theorem meth_Added_takes (T : Txt K mg) : Meth K (He.ga K "Added") "takes" (He.ma K (He.ga K "Added") "takes") := let ⟨_, _, _, c, _⟩ := T; He.meth_ok (c.fact 127 rfl)
theorem meth_Added_depth (T : Txt K mg) : Meth K (He.ga K "Added") "depth" (He.ma K (He.ga K "Added") "depth") := let ⟨_, _, _, c, _⟩ := T; He.meth_ok (c.fact 128 rfl)
theorem meth_Added_parts (T : Txt K mg) : Meth K (He.ga K "Added") "parts" (He.ma K (He.ga K "Added") "parts") := let ⟨_, _, _, c, _⟩ := T; He.meth_ok (c.fact 129 rfl)
theorem meth_Multiplied_below (T : Txt K mg) : Meth K (He.ga K "Multiplied") "below" (He.ma K (He.ga K "Multiplied") "below") := let ⟨_, _, _, c, _⟩ := T; He.meth_ok (c.fact 130 rfl)
theorem meth_Multiplied_own_take (T : Txt K mg) : Meth K (He.ga K "Multiplied") "own_take" (He.ma K (He.ga K "Multiplied") "own_take") := let ⟨_, _, _, c, _⟩ := T; He.meth_ok (c.fact 131 rfl)
theorem meth_Multiplied_own_wrong (T : Txt K mg) : Meth K (He.ga K "Multiplied") "own_wrong" (He.ma K (He.ga K "Multiplied") "own_wrong") := let ⟨_, _, _, c, _⟩ := T; He.meth_ok (c.fact 132 rfl)
theorem meth_Multiplied_first_wrong (T : Txt K mg) : Meth K (He.ga K "Multiplied") "first_wrong" (He.ma K (He.ga K "Multiplied") "first_wrong") := let ⟨_, _, _, c, _⟩ := T; He.meth_ok (c.fact 133 rfl)
theorem meth_Multiplied_takes (T : Txt K mg) : Meth K (He.ga K "Multiplied") "takes" (He.ma K (He.ga K "Multiplied") "takes") := let ⟨_, _, _, c, _⟩ := T; He.meth_ok (c.fact 134 rfl)
theorem meth_Multiplied_depth (T : Txt K mg) : Meth K (He.ga K "Multiplied") "depth" (He.ma K (He.ga K "Multiplied") "depth") := let ⟨_, _, _, c, _⟩ := T; He.meth_ok (c.fact 135 rfl)
theorem meth_Multiplied_parts (T : Txt K mg) : Meth K (He.ga K "Multiplied") "parts" (He.ma K (He.ga K "Multiplied") "parts") := let ⟨_, _, _, c, _⟩ := T; He.meth_ok (c.fact 136 rfl)
theorem meth_Job_deep (T : Txt K mg) : Meth K (He.ga K "Job") "deep" (He.ma K (He.ga K "Job") "deep") := let ⟨_, _, _, c, _⟩ := T; He.meth_ok (c.fact 137 rfl)
theorem meth_Job_all_spots (T : Txt K mg) : Meth K (He.ga K "Job") "all_spots" (He.ma K (He.ga K "Job") "all_spots") := let ⟨_, _, _, c, _⟩ := T; He.meth_ok (c.fact 138 rfl)
theorem meth_Job_is_spot (T : Txt K mg) : Meth K (He.ga K "Job") "is_spot" (He.ma K (He.ga K "Job") "is_spot") := let ⟨_, _, _, c, _⟩ := T; He.meth_ok (c.fact 139 rfl)
theorem meth_Job_where_of (T : Txt K mg) : Meth K (He.ga K "Job") "where_of" (He.ma K (He.ga K "Job") "where_of") := let ⟨_, _, _, c, _⟩ := T; He.meth_ok (c.fact 140 rfl)
theorem meth_Job_reads_of (T : Txt K mg) : Meth K (He.ga K "Job") "reads_of" (He.ma K (He.ga K "Job") "reads_of") := let ⟨_, _, _, c, _⟩ := T; He.meth_ok (c.fact 141 rfl)
theorem meth_Grid_lines (T : Txt K mg) : Meth K (He.ga K "Grid") "lines" (He.ma K (He.ga K "Grid") "lines") := let ⟨_, _, _, c, _⟩ := T; He.meth_ok (c.fact 142 rfl)
theorem meth_Grid_places_many (T : Txt K mg) : Meth K (He.ga K "Grid") "places_many" (He.ma K (He.ga K "Grid") "places_many") := let ⟨_, _, _, c, _⟩ := T; He.meth_ok (c.fact 143 rfl)
theorem meth_Grid_all_places (T : Txt K mg) : Meth K (He.ga K "Grid") "all_places" (He.ma K (He.ga K "Grid") "all_places") := let ⟨_, _, _, c, _⟩ := T; He.meth_ok (c.fact 144 rfl)
theorem meth_Grid_has_place (T : Txt K mg) : Meth K (He.ga K "Grid") "has_place" (He.ma K (He.ga K "Grid") "has_place") := let ⟨_, _, _, c, _⟩ := T; He.meth_ok (c.fact 145 rfl)
theorem meth_Grid_beside (T : Txt K mg) : Meth K (He.ga K "Grid") "beside" (He.ma K (He.ga K "Grid") "beside") := let ⟨_, _, _, c, _⟩ := T; He.meth_ok (c.fact 146 rfl)
theorem F_leans_of (T : Txt K mg) : Fun K "leans_of" "leans_of" s_leans_of (He.fAd K ("leans_of", none)) (fdA K ("leans_of", none)) := fun_at T 0 d_leans_of rfl rfl
theorem b_leans_of (T : Txt K mg) : Binds K (fdA K ("leans_of", none)) ["job", "spot"] [] := (F_leans_of T).binds fun _ _ _ _ _ _ us hl => match us, hl with | [_, _], _ => rfl
theorem F_last_use (T : Txt K mg) : Fun K "last_use" "last_use" s_last_use (He.fAd K ("last_use", none)) (fdA K ("last_use", none)) := fun_at T 1 d_last_use rfl rfl
theorem b_last_use (T : Txt K mg) : Binds K (fdA K ("last_use", none)) ["job", "row"] [] := (F_last_use T).binds fun _ _ _ _ _ _ us hl => match us, hl with | [_, _], _ => rfl
theorem F_need_row (T : Txt K mg) : Fun K "need_row" "need_row" s_need_row (He.fAd K ("need_row", none)) (fdA K ("need_row", none)) := fun_at T 2 d_need_row rfl rfl
theorem b_need_row (T : Txt K mg) : Binds K (fdA K ("need_row", none)) ["job", "row"] [] := (F_need_row T).binds fun _ _ _ _ _ _ us hl => match us, hl with | [_, _], _ => rfl
theorem F_need_wanted (T : Txt K mg) : Fun K "need_wanted" "need_wanted" s_need_wanted (He.fAd K ("need_wanted", none)) (fdA K ("need_wanted", none)) := fun_at T 3 d_need_wanted rfl rfl
theorem b_need_wanted (T : Txt K mg) : Binds K (fdA K ("need_wanted", none)) ["job", "wanted"] [] := (F_need_wanted T).binds fun _ _ _ _ _ _ us hl => match us, hl with | [_, _], _ => rfl
theorem F_ends_of (T : Txt K mg) : Fun K "ends_of" "ends_of" s_ends_of (He.fAd K ("ends_of", none)) (fdA K ("ends_of", none)) := fun_at T 4 d_ends_of rfl rfl
theorem b_ends_of (T : Txt K mg) : Binds K (fdA K ("ends_of", none)) ["job", "row", "wanted"] [] := (F_ends_of T).binds fun _ _ _ _ _ _ us hl => match us, hl with | [_, _, _], _ => rfl
theorem F_least_room (T : Txt K mg) : Fun K "least_room" "least_room" s_least_room (He.fAd K ("least_room", none)) (fdA K ("least_room", none)) := fun_at T 5 d_least_room rfl rfl
theorem b_least_room (T : Txt K mg) : Binds K (fdA K ("least_room", none)) ["job", "row", "wanted"] [] := (F_least_room T).binds fun _ _ _ _ _ _ us hl => match us, hl with | [_, _, _], _ => rfl
theorem F_slots_wanted (T : Txt K mg) : Fun K "slots_wanted" "slots_wanted" s_slots_wanted (He.fAd K ("slots_wanted", none)) (fdA K ("slots_wanted", none)) := fun_at T 6 d_slots_wanted rfl rfl
theorem b_slots_wanted (T : Txt K mg) : Binds K (fdA K ("slots_wanted", none)) ["job", "row", "wanted"] [] := (F_slots_wanted T).binds fun _ _ _ _ _ _ us hl => match us, hl with | [_, _, _], _ => rfl
theorem F_crowd_at (T : Txt K mg) : Fun K "crowd_at" "crowd_at" s_crowd_at (He.fAd K ("crowd_at", none)) (fdA K ("crowd_at", none)) := fun_at T 7 d_crowd_at rfl rfl
theorem b_crowd_at (T : Txt K mg) : Binds K (fdA K ("crowd_at", none)) ["job", "row", "wanted"] [] := (F_crowd_at T).binds fun _ _ _ _ _ _ us hl => match us, hl with | [_, _, _], _ => rfl
theorem F_is_whole (T : Txt K mg) : Fun K "is_whole" "is_whole" s_is_whole (He.fAd K ("is_whole", none)) (fdA K ("is_whole", none)) := fun_at T 8 d_is_whole rfl rfl
theorem b_is_whole (T : Txt K mg) : Binds K (fdA K ("is_whole", none)) ["thing"] [] := (F_is_whole T).binds fun _ _ _ _ _ _ us hl => match us, hl with | [_], _ => rfl
theorem F_is_between (T : Txt K mg) : Fun K "is_between" "is_between" s_is_between (He.fAd K ("is_between", none)) (fdA K ("is_between", none)) := fun_at T 9 d_is_between rfl rfl
theorem b_is_between (T : Txt K mg) : Binds K (fdA K ("is_between", none)) ["thing", "low", "high"] [] := (F_is_between T).binds fun _ _ _ _ _ _ us hl => match us, hl with | [_, _, _], _ => rfl
theorem F_is_rim (T : Txt K mg) : Fun K "is_rim" "is_rim" s_is_rim (He.fAd K ("is_rim", none)) (fdA K ("is_rim", none)) := fun_at T 10 d_is_rim rfl rfl
theorem b_is_rim (T : Txt K mg) : Binds K (fdA K ("is_rim", none)) ["thing"] [] := (F_is_rim T).binds fun _ _ _ _ _ _ us hl => match us, hl with | [_], _ => rfl
theorem F_Rim_init (T : Txt K mg) : Fun K "__init__" "Rim.__init__" s_Rim_init (He.fAd K ("Rim", some "__init__")) (fdA K ("Rim", some "__init__")) := fun_at T 11 d_Rim_init rfl rfl
theorem b_Rim_init (T : Txt K mg) : Binds K (fdA K ("Rim", some "__init__")) ["self", "size"] [] := (F_Rim_init T).binds fun _ _ _ _ _ _ us hl => match us, hl with | [_, _], _ => rfl
theorem F_Rim_at_number (T : Txt K mg) : Fun K "at_number" "Rim.at_number" s_Rim_at_number (He.fAd K ("Rim", some "at_number")) (fdA K ("Rim", some "at_number")) := fun_at T 12 d_Rim_at_number rfl rfl
theorem b_Rim_at_number (T : Txt K mg) : Binds K (fdA K ("Rim", some "at_number")) ["self", "number"] [] := (F_Rim_at_number T).binds fun _ _ _ _ _ _ us hl => match us, hl with | [_, _], _ => rfl
theorem F_MirrorRim_at_number (T : Txt K mg) : Fun K "at_number" "MirrorRim.at_number" s_MirrorRim_at_number (He.fAd K ("MirrorRim", some "at_number")) (fdA K ("MirrorRim", some "at_number")) := fun_at T 13 d_MirrorRim_at_number rfl rfl
theorem b_MirrorRim_at_number (T : Txt K mg) : Binds K (fdA K ("MirrorRim", some "at_number")) ["self", "number"] [] := (F_MirrorRim_at_number T).binds fun _ _ _ _ _ _ us hl => match us, hl with | [_, _], _ => rfl
theorem F_FixedRim_init (T : Txt K mg) : Fun K "__init__" "FixedRim.__init__" s_FixedRim_init (He.fAd K ("FixedRim", some "__init__")) (fdA K ("FixedRim", some "__init__")) := fun_at T 14 d_FixedRim_init rfl rfl
theorem b_FixedRim_init (T : Txt K mg) : Binds K (fdA K ("FixedRim", some "__init__")) ["self", "size", "beyond"] [] := (F_FixedRim_init T).binds fun _ _ _ _ _ _ us hl => match us, hl with | [_, _, _], _ => rfl
theorem F_FixedRim_at_number (T : Txt K mg) : Fun K "at_number" "FixedRim.at_number" s_FixedRim_at_number (He.fAd K ("FixedRim", some "at_number")) (fdA K ("FixedRim", some "at_number")) := fun_at T 15 d_FixedRim_at_number rfl rfl
theorem b_FixedRim_at_number (T : Txt K mg) : Binds K (fdA K ("FixedRim", some "at_number")) ["self", "number"] [] := (F_FixedRim_at_number T).binds fun _ _ _ _ _ _ us hl => match us, hl with | [_, _], _ => rfl
theorem F_rim_of (T : Txt K mg) : Fun K "rim_of" "rim_of" s_rim_of (He.fAd K ("rim_of", none)) (fdA K ("rim_of", none)) := fun_at T 16 d_rim_of rfl rfl
theorem b_rim_of (T : Txt K mg) : Binds K (fdA K ("rim_of", none)) ["size", "told"] [] := (F_rim_of T).binds fun _ _ _ _ _ _ us hl => match us, hl with | [_, _], _ => rfl
theorem F_Term_below (T : Txt K mg) : Fun K "below" "Term.below" s_Term_below (He.fAd K ("Term", some "below")) (fdA K ("Term", some "below")) := fun_at T 17 d_Term_below rfl rfl
theorem b_Term_below (T : Txt K mg) : Binds K (fdA K ("Term", some "below")) ["self"] [] := (F_Term_below T).binds fun _ _ _ _ _ _ us hl => match us, hl with | [_], _ => rfl
theorem F_Term_own_take (T : Txt K mg) : Fun K "own_take" "Term.own_take" s_Term_own_take (He.fAd K ("Term", some "own_take")) (fdA K ("Term", some "own_take")) := fun_at T 18 d_Term_own_take rfl rfl
theorem b_Term_own_take (T : Txt K mg) : Binds K (fdA K ("Term", some "own_take")) ["self"] [] := (F_Term_own_take T).binds fun _ _ _ _ _ _ us hl => match us, hl with | [_], _ => rfl
theorem F_Term_own_wrong (T : Txt K mg) : Fun K "own_wrong" "Term.own_wrong" s_Term_own_wrong (He.fAd K ("Term", some "own_wrong")) (fdA K ("Term", some "own_wrong")) := fun_at T 19 d_Term_own_wrong rfl rfl
theorem b_Term_own_wrong (T : Txt K mg) : Binds K (fdA K ("Term", some "own_wrong")) ["self"] [] := (F_Term_own_wrong T).binds fun _ _ _ _ _ _ us hl => match us, hl with | [_], _ => rfl
theorem F_Term_first_wrong (T : Txt K mg) : Fun K "first_wrong" "Term.first_wrong" s_Term_first_wrong (He.fAd K ("Term", some "first_wrong")) (fdA K ("Term", some "first_wrong")) := fun_at T 20 d_Term_first_wrong rfl rfl
theorem b_Term_first_wrong (T : Txt K mg) : Binds K (fdA K ("Term", some "first_wrong")) ["self"] [] := (F_Term_first_wrong T).binds fun _ _ _ _ _ _ us hl => match us, hl with | [_], _ => rfl
theorem F_Term_takes (T : Txt K mg) : Fun K "takes" "Term.takes" s_Term_takes (He.fAd K ("Term", some "takes")) (fdA K ("Term", some "takes")) := fun_at T 21 d_Term_takes rfl rfl
theorem b_Term_takes (T : Txt K mg) : Binds K (fdA K ("Term", some "takes")) ["self"] [] := (F_Term_takes T).binds fun _ _ _ _ _ _ us hl => match us, hl with | [_], _ => rfl
theorem F_Term_depth (T : Txt K mg) : Fun K "depth" "Term.depth" s_Term_depth (He.fAd K ("Term", some "depth")) (fdA K ("Term", some "depth")) := fun_at T 22 d_Term_depth rfl rfl
theorem b_Term_depth (T : Txt K mg) : Binds K (fdA K ("Term", some "depth")) ["self"] [] := (F_Term_depth T).binds fun _ _ _ _ _ _ us hl => match us, hl with | [_], _ => rfl
theorem F_Term_parts (T : Txt K mg) : Fun K "parts" "Term.parts" s_Term_parts (He.fAd K ("Term", some "parts")) (fdA K ("Term", some "parts")) := fun_at T 23 d_Term_parts rfl rfl
theorem b_Term_parts (T : Txt K mg) : Binds K (fdA K ("Term", some "parts")) ["self"] [] := (F_Term_parts T).binds fun _ _ _ _ _ _ us hl => match us, hl with | [_], _ => rfl
theorem F_Number_init (T : Txt K mg) : Fun K "__init__" "Number.__init__" s_Number_init (He.fAd K ("Number", some "__init__")) (fdA K ("Number", some "__init__")) := fun_at T 24 d_Number_init rfl rfl
theorem b_Number_init (T : Txt K mg) : Binds K (fdA K ("Number", some "__init__")) ["self", "value"] [] := (F_Number_init T).binds fun _ _ _ _ _ _ us hl => match us, hl with | [_, _], _ => rfl
theorem F_Number_own_wrong (T : Txt K mg) : Fun K "own_wrong" "Number.own_wrong" s_Number_own_wrong (He.fAd K ("Number", some "own_wrong")) (fdA K ("Number", some "own_wrong")) := fun_at T 25 d_Number_own_wrong rfl rfl
theorem b_Number_own_wrong (T : Txt K mg) : Binds K (fdA K ("Number", some "own_wrong")) ["self"] [] := (F_Number_own_wrong T).binds fun _ _ _ _ _ _ us hl => match us, hl with | [_], _ => rfl
theorem F_Take_init (T : Txt K mg) : Fun K "__init__" "Take.__init__" s_Take_init (He.fAd K ("Take", some "__init__")) (fdA K ("Take", some "__init__")) := fun_at T 26 d_Take_init rfl rfl
theorem b_Take_init (T : Txt K mg) : Binds K (fdA K ("Take", some "__init__")) ["self", "back", "steps"] [] := (F_Take_init T).binds fun _ _ _ _ _ _ us hl => match us, hl with | [_, _, _], _ => rfl
theorem F_Take_own_take (T : Txt K mg) : Fun K "own_take" "Take.own_take" s_Take_own_take (He.fAd K ("Take", some "own_take")) (fdA K ("Take", some "own_take")) := fun_at T 27 d_Take_own_take rfl rfl
theorem b_Take_own_take (T : Txt K mg) : Binds K (fdA K ("Take", some "own_take")) ["self"] [] := (F_Take_own_take T).binds fun _ _ _ _ _ _ us hl => match us, hl with | [_], _ => rfl
theorem F_Take_own_wrong (T : Txt K mg) : Fun K "own_wrong" "Take.own_wrong" s_Take_own_wrong (He.fAd K ("Take", some "own_wrong")) (fdA K ("Take", some "own_wrong")) := fun_at T 28 d_Take_own_wrong rfl rfl
theorem b_Take_own_wrong (T : Txt K mg) : Binds K (fdA K ("Take", some "own_wrong")) ["self"] [] := (F_Take_own_wrong T).binds fun _ _ _ _ _ _ us hl => match us, hl with | [_], _ => rfl
theorem F_Paired_init (T : Txt K mg) : Fun K "__init__" "Paired.__init__" s_Paired_init (He.fAd K ("Paired", some "__init__")) (fdA K ("Paired", some "__init__")) := fun_at T 29 d_Paired_init rfl rfl
theorem b_Paired_init (T : Txt K mg) : Binds K (fdA K ("Paired", some "__init__")) ["self", "one", "other"] [] := (F_Paired_init T).binds fun _ _ _ _ _ _ us hl => match us, hl with | [_, _, _], _ => rfl
theorem F_Paired_below (T : Txt K mg) : Fun K "below" "Paired.below" s_Paired_below (He.fAd K ("Paired", some "below")) (fdA K ("Paired", some "below")) := fun_at T 30 d_Paired_below rfl rfl
theorem b_Paired_below (T : Txt K mg) : Binds K (fdA K ("Paired", some "below")) ["self"] [] := (F_Paired_below T).binds fun _ _ _ _ _ _ us hl => match us, hl with | [_], _ => rfl
theorem F_lines_of (T : Txt K mg) : Fun K "lines_of" "lines_of" s_lines_of (He.fAd K ("lines_of", none)) (fdA K ("lines_of", none)) := fun_at T 31 d_lines_of rfl rfl
theorem b_lines_of (T : Txt K mg) : Binds K (fdA K ("lines_of", none)) ["term"] [] := (F_lines_of T).binds fun _ _ _ _ _ _ us hl => match us, hl with | [_], _ => rfl
theorem F_check_term (T : Txt K mg) : Fun K "check_term" "check_term" s_check_term (He.fAd K ("check_term", none)) (fdA K ("check_term", none)) := fun_at T 32 d_check_term rfl rfl
theorem b_check_term (T : Txt K mg) : Binds K (fdA K ("check_term", none)) ["term"] [] := (F_check_term T).binds fun _ _ _ _ _ _ us hl => match us, hl with | [_], _ => rfl
theorem F_is_first (T : Txt K mg) : Fun K "is_first" "is_first" s_is_first (He.fAd K ("is_first", none)) (fdA K ("is_first", none)) := fun_at T 33 d_is_first rfl rfl
theorem b_is_first (T : Txt K mg) : Binds K (fdA K ("is_first", none)) ["first", "deep", "many", "modulus"] [] := (F_is_first T).binds fun _ _ _ _ _ _ us hl => match us, hl with | [_, _, _, _], _ => rfl
theorem F_Job_init (T : Txt K mg) : Fun K "__init__" "Job.__init__" s_Job_init (He.fAd K ("Job", some "__init__")) (fdA K ("Job", some "__init__")) := fun_at T 34 d_Job_init rfl rfl
theorem b_Job_init (T : Txt K mg) : Binds K (fdA K ("Job", some "__init__")) ["self", "grid", "term", "modulus", "rounds", "first"] [] := (F_Job_init T).binds fun _ _ _ _ _ _ us hl => match us, hl with | [_, _, _, _, _, _], _ => rfl
theorem F_Job_deep (T : Txt K mg) : Fun K "deep" "Job.deep" s_Job_deep (He.fAd K ("Job", some "deep")) (fdA K ("Job", some "deep")) := fun_at T 35 d_Job_deep rfl rfl
theorem b_Job_deep (T : Txt K mg) : Binds K (fdA K ("Job", some "deep")) ["self"] [] := (F_Job_deep T).binds fun _ _ _ _ _ _ us hl => match us, hl with | [_], _ => rfl
theorem F_Job_all_spots (T : Txt K mg) : Fun K "all_spots" "Job.all_spots" s_Job_all_spots (He.fAd K ("Job", some "all_spots")) (fdA K ("Job", some "all_spots")) := fun_at T 36 d_Job_all_spots rfl rfl
theorem b_Job_all_spots (T : Txt K mg) : Binds K (fdA K ("Job", some "all_spots")) ["self"] [] := (F_Job_all_spots T).binds fun _ _ _ _ _ _ us hl => match us, hl with | [_], _ => rfl
theorem F_Job_is_spot (T : Txt K mg) : Fun K "is_spot" "Job.is_spot" s_Job_is_spot (He.fAd K ("Job", some "is_spot")) (fdA K ("Job", some "is_spot")) := fun_at T 37 d_Job_is_spot rfl rfl
theorem b_Job_is_spot (T : Txt K mg) : Binds K (fdA K ("Job", some "is_spot")) ["self", "thing"] [] := (F_Job_is_spot T).binds fun _ _ _ _ _ _ us hl => match us, hl with | [_, _], _ => rfl
theorem F_Job_where_of (T : Txt K mg) : Fun K "where_of" "Job.where_of" s_Job_where_of (He.fAd K ("Job", some "where_of")) (fdA K ("Job", some "where_of")) := fun_at T 38 d_Job_where_of rfl rfl
theorem b_Job_where_of (T : Txt K mg) : Binds K (fdA K ("Job", some "where_of")) ["self", "spot", "take"] [] := (F_Job_where_of T).binds fun _ _ _ _ _ _ us hl => match us, hl with | [_, _, _], _ => rfl
theorem F_Job_reads_of (T : Txt K mg) : Fun K "reads_of" "Job.reads_of" s_Job_reads_of (He.fAd K ("Job", some "reads_of")) (fdA K ("Job", some "reads_of")) := fun_at T 39 d_Job_reads_of rfl rfl
theorem b_Job_reads_of (T : Txt K mg) : Binds K (fdA K ("Job", some "reads_of")) ["self", "spot"] [] := (F_Job_reads_of T).binds fun _ _ _ _ _ _ us hl => match us, hl with | [_, _], _ => rfl
theorem F_Grid_init (T : Txt K mg) : Fun K "__init__" "Grid.__init__" s_Grid_init (He.fAd K ("Grid", some "__init__")) (fdA K ("Grid", some "__init__")) := fun_at T 40 d_Grid_init rfl rfl
theorem b_Grid_init (T : Txt K mg) : Binds K (fdA K ("Grid", some "__init__")) ["self", "sizes", "rims"] [] := (F_Grid_init T).binds fun _ _ _ _ _ _ us hl => match us, hl with | [_, _, _], _ => rfl
theorem F_Grid_lines (T : Txt K mg) : Fun K "lines" "Grid.lines" s_Grid_lines (He.fAd K ("Grid", some "lines")) (fdA K ("Grid", some "lines")) := fun_at T 41 d_Grid_lines rfl rfl
theorem b_Grid_lines (T : Txt K mg) : Binds K (fdA K ("Grid", some "lines")) ["self"] [] := (F_Grid_lines T).binds fun _ _ _ _ _ _ us hl => match us, hl with | [_], _ => rfl
theorem F_Grid_places_many (T : Txt K mg) : Fun K "places_many" "Grid.places_many" s_Grid_places_many (He.fAd K ("Grid", some "places_many")) (fdA K ("Grid", some "places_many")) := fun_at T 42 d_Grid_places_many rfl rfl
theorem b_Grid_places_many (T : Txt K mg) : Binds K (fdA K ("Grid", some "places_many")) ["self"] [] := (F_Grid_places_many T).binds fun _ _ _ _ _ _ us hl => match us, hl with | [_], _ => rfl
theorem F_Grid_all_places (T : Txt K mg) : Fun K "all_places" "Grid.all_places" s_Grid_all_places (He.fAd K ("Grid", some "all_places")) (fdA K ("Grid", some "all_places")) := fun_at T 43 d_Grid_all_places rfl rfl
theorem b_Grid_all_places (T : Txt K mg) : Binds K (fdA K ("Grid", some "all_places")) ["self"] [] := (F_Grid_all_places T).binds fun _ _ _ _ _ _ us hl => match us, hl with | [_], _ => rfl
theorem F_Grid_has_place (T : Txt K mg) : Fun K "has_place" "Grid.has_place" s_Grid_has_place (He.fAd K ("Grid", some "has_place")) (fdA K ("Grid", some "has_place")) := fun_at T 44 d_Grid_has_place rfl rfl
theorem b_Grid_has_place (T : Txt K mg) : Binds K (fdA K ("Grid", some "has_place")) ["self", "thing"] [] := (F_Grid_has_place T).binds fun _ _ _ _ _ _ us hl => match us, hl with | [_, _], _ => rfl
theorem F_Grid_beside (T : Txt K mg) : Fun K "beside" "Grid.beside" s_Grid_beside (He.fAd K ("Grid", some "beside")) (fdA K ("Grid", some "beside")) := fun_at T 45 d_Grid_beside rfl rfl
theorem b_Grid_beside (T : Txt K mg) : Binds K (fdA K ("Grid", some "beside")) ["self", "place", "steps"] [] := (F_Grid_beside T).binds fun _ _ _ _ _ _ us hl => match us, hl with | [_, _, _], _ => rfl
theorem F_law_cell_at (T : Txt K mg) : Fun K "_law_cell_at" "_law_cell_at" s_law_cell_at (He.fAd K ("_law_cell_at", none)) (fdA K ("_law_cell_at", none)) := fun_at T 46 d_law_cell_at rfl rfl
theorem b_law_cell_at (T : Txt K mg) : Binds K (fdA K ("_law_cell_at", none)) ["_law_script", "_law_k"] [] := (F_law_cell_at T).binds fun _ _ _ _ _ _ us hl => match us, hl with | [_, _], _ => rfl
theorem F_law_tape (T : Txt K mg) : Fun K "_law_tape" "_law_tape" s_law_tape (He.fAd K ("_law_tape", none)) (fdA K ("_law_tape", none)) := fun_at T 47 d_law_tape rfl rfl
theorem b_law_tape (T : Txt K mg) : Binds K (fdA K ("_law_tape", none)) ["_law_cell"] [] := (F_law_tape T).binds fun _ _ _ _ _ _ us hl => match us, hl with | [_], _ => rfl
theorem F_law_draw (T : Txt K mg) : Fun K "_law_draw" "_law_draw" s_law_draw (He.fAd K ("_law_draw", none)) (fdA K ("_law_draw", none)) := fun_at T 48 d_law_draw rfl rfl
theorem b_law_draw (T : Txt K mg) : Binds K (fdA K ("_law_draw", none)) ["_law_tape_here", "_law_many"] [] := (F_law_draw T).binds fun _ _ _ _ _ _ us hl => match us, hl with | [_, _], _ => rfl
theorem F_law_world (T : Txt K mg) : Fun K "_law_world" "_law_world" s_law_world (He.fAd K ("_law_world", none)) (fdA K ("_law_world", none)) := fun_at T 49 d_law_world rfl rfl
theorem b_law_world (T : Txt K mg) : Binds K (fdA K ("_law_world", none)) ["_law_tape_here"] [] := (F_law_world T).binds fun _ _ _ _ _ _ us hl => match us, hl with | [_], _ => rfl
theorem F_law_places (T : Txt K mg) : Fun K "_law_places" "_law_places" s_law_places (He.fAd K ("_law_places", none)) (fdA K ("_law_places", none)) := fun_at T 50 d_law_places rfl rfl
theorem b_law_places (T : Txt K mg) : Binds K (fdA K ("_law_places", none)) ["_law_sizes"] [] := (F_law_places T).binds fun _ _ _ _ _ _ us hl => match us, hl with | [_], _ => rfl
theorem F_law_spots (T : Txt K mg) : Fun K "_law_spots" "_law_spots" s_law_spots (He.fAd K ("_law_spots", none)) (fdA K ("_law_spots", none)) := fun_at T 51 d_law_spots rfl rfl
theorem b_law_spots (T : Txt K mg) : Binds K (fdA K ("_law_spots", none)) ["_law_world_here"] [] := (F_law_spots T).binds fun _ _ _ _ _ _ us hl => match us, hl with | [_], _ => rfl
theorem F_law_there (T : Txt K mg) : Fun K "_law_there" "_law_there" s_law_there (He.fAd K ("_law_there", none)) (fdA K ("_law_there", none)) := fun_at T 52 d_law_there rfl rfl
theorem b_law_there (T : Txt K mg) : Binds K (fdA K ("_law_there", none)) ["_law_world_here", "_law_place", "_law_steps"] [] := (F_law_there T).binds fun _ _ _ _ _ _ us hl => match us, hl with | [_, _, _], _ => rfl
theorem F_law_leans (T : Txt K mg) : Fun K "_law_leans" "_law_leans" s_law_leans (He.fAd K ("_law_leans", none)) (fdA K ("_law_leans", none)) := fun_at T 53 d_law_leans rfl rfl
theorem b_law_leans (T : Txt K mg) : Binds K (fdA K ("_law_leans", none)) ["_law_world_here", "_law_spot"] [] := (F_law_leans T).binds fun _ _ _ _ _ _ us hl => match us, hl with | [_, _], _ => rfl
theorem F_law_job (T : Txt K mg) : Fun K "_law_job" "_law_job" s_law_job (He.fAd K ("_law_job", none)) (fdA K ("_law_job", none)) := fun_at T 54 d_law_job rfl rfl
theorem b_law_job (T : Txt K mg) : Binds K (fdA K ("_law_job", none)) ["_law_world_here", "_law_tape_here"] [] := (F_law_job T).binds fun _ _ _ _ _ _ us hl => match us, hl with | [_, _], _ => rfl
theorem F_law_row (T : Txt K mg) : Fun K "_law_row" "_law_row" s_law_row (He.fAd K ("_law_row", none)) (fdA K ("_law_row", none)) := fun_at T 55 d_law_row rfl rfl
theorem b_law_row (T : Txt K mg) : Binds K (fdA K ("_law_row", none)) ["_law_world_here", "_law_tape_here"] [] := (F_law_row T).binds fun _ _ _ _ _ _ us hl => match us, hl with | [_, _], _ => rfl
theorem F_law_goes (T : Txt K mg) : Fun K "_law_goes" "_law_goes" s_law_goes (He.fAd K ("_law_goes", none)) (fdA K ("_law_goes", none)) := fun_at T 56 d_law_goes rfl rfl
theorem b_law_goes (T : Txt K mg) : Binds K (fdA K ("_law_goes", none)) ["_law_leans_here", "_law_row_here", "_law_slots", "_law_wanted"] [] := (F_law_goes T).binds fun _ _ _ _ _ _ us hl => match us, hl with | [_, _, _, _], _ => rfl
theorem F_law_all_ways (T : Txt K mg) : Fun K "_law_all_ways" "_law_all_ways" s_law_all_ways (He.fAd K ("_law_all_ways", none)) (fdA K ("_law_all_ways", none)) := fun_at T 57 d_law_all_ways rfl rfl
theorem b_law_all_ways (T : Txt K mg) : Binds K (fdA K ("_law_all_ways", none)) ["_law_row_here", "_law_many"] [] := (F_law_all_ways T).binds fun _ _ _ _ _ _ us hl => match us, hl with | [_, _], _ => rfl
theorem F_law_none_goes (T : Txt K mg) : Fun K "_law_none_goes" "_law_none_goes" s_law_none_goes (He.fAd K ("_law_none_goes", none)) (fdA K ("_law_none_goes", none)) := fun_at T 58 d_law_none_goes rfl rfl
theorem b_law_none_goes (T : Txt K mg) : Binds K (fdA K ("_law_none_goes", none)) ["_law_leans_here", "_law_row_here", "_law_wanted", "_law_many", "_law_tape_here"] [] := (F_law_none_goes T).binds fun _ _ _ _ _ _ us hl => match us, hl with | [_, _, _, _, _], _ => rfl
theorem F_law_crowd_right (T : Txt K mg) : Fun K "_law_crowd_right" "_law_crowd_right" s_law_crowd_right (He.fAd K ("_law_crowd_right", none)) (fdA K ("_law_crowd_right", none)) := fun_at T 59 d_law_crowd_right rfl rfl
theorem b_law_crowd_right (T : Txt K mg) : Binds K (fdA K ("_law_crowd_right", none)) ["_law_leans_here", "_law_row_here", "_law_wanted", "_law_crowd"] [] := (F_law_crowd_right T).binds fun _ _ _ _ _ _ us hl => match us, hl with | [_, _, _, _], _ => rfl
theorem F_law (T : Txt K mg) : Fun K "law" "law" s_law (He.fAd K ("law", none)) (fdA K ("law", none)) := fun_at T 60 d_law rfl rfl
theorem b_law (T : Txt K mg) : Binds K (fdA K ("law", none)) ["_law_script"] [] := (F_law T).binds fun _ _ _ _ _ _ us hl => match us, hl with | [_], _ => rfl
theorem eqs_ok (T : Txt K mg) : eqs.all (sameM K) = true := by
  obtain ⟨_, _, _, _, x⟩ := T
  unfold extra at x
  exact (Bool.and_eq_true_iff.mp x).1
theorem eq_of (T : Txt K mg) (i : Nat) {e : Str × Str × Str} (h : eqs[i]? = some e) : He.ma K (He.ga K e.1) e.2.2 = He.ma K (He.ga K e.2.1) e.2.2 := of_decide_eq_true (List.all_eq_true.mp (eqs_ok T) e (List.mem_of_getElem? h))
theorem rim_reads (T : Txt K mg) : PySem.W.readsIn K (He.ga K "Rim") (.type "type") = true := by
  obtain ⟨_, _, _, _, x⟩ := T
  unfold extra at x
  exact (Bool.and_eq_true_iff.mp (Bool.and_eq_true_iff.mp x).2).1
theorem rim_ga (T : Txt K mg) : PySem.W.specialIn K (.ref (He.ga K "Rim")) "__getattribute__" = some (some (.builtin "type.__getattribute__")) := by
  obtain ⟨_, _, _, _, x⟩ := T
  unfold extra at x
  exact He.eqO_ok (Bool.and_eq_true_iff.mp (Bool.and_eq_true_iff.mp (Bool.and_eq_true_iff.mp x).2).2).1
theorem rim_at (T : Txt K mg) : PySem.W.findCls K (.ref (He.ga K "Rim")) (.type "type") "__init__" = some (.val (.ref (He.ma K (He.ga K "Rim") "__init__"))) := by
  obtain ⟨_, _, _, _, x⟩ := T
  unfold extra at x
  have y := (Bool.and_eq_true_iff.mp (Bool.and_eq_true_iff.mp (Bool.and_eq_true_iff.mp x).2).2).2
  split at y
  · rename_i f e
    rw [e, of_decide_eq_true y]
  · cases y
theorem eq_Number_below (T : Txt K mg) : He.ma K (He.ga K "Number") "below" = He.ma K (He.ga K "Term") "below" := eq_of T 0 rfl
theorem eq_Number_own_take (T : Txt K mg) : He.ma K (He.ga K "Number") "own_take" = He.ma K (He.ga K "Term") "own_take" := eq_of T 1 rfl
theorem eq_Number_first_wrong (T : Txt K mg) : He.ma K (He.ga K "Number") "first_wrong" = He.ma K (He.ga K "Term") "first_wrong" := eq_of T 2 rfl
theorem eq_Number_takes (T : Txt K mg) : He.ma K (He.ga K "Number") "takes" = He.ma K (He.ga K "Term") "takes" := eq_of T 3 rfl
theorem eq_Number_depth (T : Txt K mg) : He.ma K (He.ga K "Number") "depth" = He.ma K (He.ga K "Term") "depth" := eq_of T 4 rfl
theorem eq_Number_parts (T : Txt K mg) : He.ma K (He.ga K "Number") "parts" = He.ma K (He.ga K "Term") "parts" := eq_of T 5 rfl
theorem eq_Take_below (T : Txt K mg) : He.ma K (He.ga K "Take") "below" = He.ma K (He.ga K "Term") "below" := eq_of T 6 rfl
theorem eq_Take_first_wrong (T : Txt K mg) : He.ma K (He.ga K "Take") "first_wrong" = He.ma K (He.ga K "Term") "first_wrong" := eq_of T 7 rfl
theorem eq_Take_takes (T : Txt K mg) : He.ma K (He.ga K "Take") "takes" = He.ma K (He.ga K "Term") "takes" := eq_of T 8 rfl
theorem eq_Take_depth (T : Txt K mg) : He.ma K (He.ga K "Take") "depth" = He.ma K (He.ga K "Term") "depth" := eq_of T 9 rfl
theorem eq_Take_parts (T : Txt K mg) : He.ma K (He.ga K "Take") "parts" = He.ma K (He.ga K "Term") "parts" := eq_of T 10 rfl
theorem eq_Added_below (T : Txt K mg) : He.ma K (He.ga K "Added") "below" = He.ma K (He.ga K "Paired") "below" := eq_of T 11 rfl
theorem eq_Added_own_take (T : Txt K mg) : He.ma K (He.ga K "Added") "own_take" = He.ma K (He.ga K "Term") "own_take" := eq_of T 12 rfl
theorem eq_Added_own_wrong (T : Txt K mg) : He.ma K (He.ga K "Added") "own_wrong" = He.ma K (He.ga K "Term") "own_wrong" := eq_of T 13 rfl
theorem eq_Added_first_wrong (T : Txt K mg) : He.ma K (He.ga K "Added") "first_wrong" = He.ma K (He.ga K "Term") "first_wrong" := eq_of T 14 rfl
theorem eq_Added_takes (T : Txt K mg) : He.ma K (He.ga K "Added") "takes" = He.ma K (He.ga K "Term") "takes" := eq_of T 15 rfl
theorem eq_Added_depth (T : Txt K mg) : He.ma K (He.ga K "Added") "depth" = He.ma K (He.ga K "Term") "depth" := eq_of T 16 rfl
theorem eq_Added_parts (T : Txt K mg) : He.ma K (He.ga K "Added") "parts" = He.ma K (He.ga K "Term") "parts" := eq_of T 17 rfl
theorem eq_Multiplied_below (T : Txt K mg) : He.ma K (He.ga K "Multiplied") "below" = He.ma K (He.ga K "Paired") "below" := eq_of T 18 rfl
theorem eq_Multiplied_own_take (T : Txt K mg) : He.ma K (He.ga K "Multiplied") "own_take" = He.ma K (He.ga K "Term") "own_take" := eq_of T 19 rfl
theorem eq_Multiplied_own_wrong (T : Txt K mg) : He.ma K (He.ga K "Multiplied") "own_wrong" = He.ma K (He.ga K "Term") "own_wrong" := eq_of T 20 rfl
theorem eq_Multiplied_first_wrong (T : Txt K mg) : He.ma K (He.ga K "Multiplied") "first_wrong" = He.ma K (He.ga K "Term") "first_wrong" := eq_of T 21 rfl
theorem eq_Multiplied_takes (T : Txt K mg) : He.ma K (He.ga K "Multiplied") "takes" = He.ma K (He.ga K "Term") "takes" := eq_of T 22 rfl
theorem eq_Multiplied_depth (T : Txt K mg) : He.ma K (He.ga K "Multiplied") "depth" = He.ma K (He.ga K "Term") "depth" := eq_of T 23 rfl
theorem eq_Multiplied_parts (T : Txt K mg) : He.ma K (He.ga K "Multiplied") "parts" = He.ma K (He.ga K "Term") "parts" := eq_of T 24 rfl
theorem eq_Added_init (T : Txt K mg) : He.ma K (He.ga K "Added") "__init__" = He.ma K (He.ga K "Paired") "__init__" := eq_of T 25 rfl
theorem eq_Multiplied_init (T : Txt K mg) : He.ma K (He.ga K "Multiplied") "__init__" = He.ma K (He.ga K "Paired") "__init__" := eq_of T 26 rfl
theorem eq_MirrorRim_init (T : Txt K mg) : He.ma K (He.ga K "MirrorRim") "__init__" = He.ma K (He.ga K "Rim") "__init__" := eq_of T 27 rfl
end
def names0 : List Str := ["_wall", "leans_of", "last_use", "TileError", "NoGrid", "NoTerm", "NoJob", "NoPaper", "need_row", "need_wanted", "ends_of", "least_room", "slots_wanted", "crowd_at", "MOST_SIZE", "MOST_FIXED"]
def names1 : List Str := ["is_whole", "is_between", "is_rim", "Rim", "MirrorRim", "FixedRim", "rim_of", "MOST_NUMBER", "MOST_BACK", "MOST_STEP", "MOST_DEPTH", "MOST_PARTS", "MOST_TAKES", "Term", "Number", "Take"]
def names2 : List Str := ["Paired", "Added", "Multiplied", "lines_of", "check_term", "MOST_MODULUS", "MOST_ROUNDS", "MOST_SPOTS", "is_first", "Job", "MOST_LINES", "MOST_PLACES", "Grid", "_law_cell_at", "_law_tape", "_law_draw"]
def names3 : List Str := ["_law_world", "_law_places", "_law_spots", "_law_there", "_law_leans", "_law_job", "_law_row", "_law_goes", "_law_all_ways", "_law_none_goes", "_law_crowd_right"]
def names : List Str := names0 ++ names1 ++ names2 ++ names3
def lawAt : Nat := 67
end SL
end PtK1text
/-! part K9head -/
section PtK9head
namespace SL
open PySem PySem.Spec PyProof.Rows L2
abbrev R : PySem.W.OpenRow := PySem.W.OpenLaw.row PySem.Challenge.rw_slanttiles_k68_whole_none_does_with_fewe
def obsX (K : PySem.W.Frag) : He.AlD × Bool := (He.obsD fas fns K, extra K)
def asX (g : Addr → Option Obj) : List Addr := He.asD g 5 ++ [cStatics]
def hk : PySem.W.Hook where
  α := He.AlD × Bool
  obs := fun s => obsX (He.frG s.heap.get? (asX s.heap.get?))
  val := fun _ => (He.valD fns, true)
  says := fun _ h => ∃ K : PySem.W.Frag, K.In h ∧ He.SaysD fas fns K ∧ extra K = true
  of := fun _ _ e => ⟨_, He.frG_in, congrArg Prod.fst e, congrArg Prod.snd e⟩
  keeps := fun _ _ _ ⟨K, hK, c⟩ k => ⟨K, PySem.W.Frag.In.keeps hK k, c⟩
def ob (s : PySem.W.SharedT) : He.AlD × Bool := obsX (He.frG (HandSHeadRun.getT s) (asX (HandSHeadRun.getT s)))
theorem ob_eq (s : PySem.W.SharedT) : ob s = hk.obs s.abs := by
  have e : HandSHeadRun.getT s = s.abs.heap.get? := funext (HandSHeadRun.getT_eq s)
  unfold ob
  rw [e] <;> rfl
theorem run (w : World) : HandSHeadRun.RunEq R (PySem.W.view R.prog [lawAt]) hk ob 20000 names w := by
  intro os
  kernel_rfl
end SL
end PtK9head
/-! part K2a -/
section PtK2a
/-! K2a: spots (turn, place) as tuples in the heap; lists of such; ==, in, sorted. -/
namespace SL
open PySem PySem.Spec PyProof.Rows L2
/-! ### pairs of lists -/
section
variable {α β : Type} {R S : α → β → Prop}
theorem prLen : ∀ {xs : List α} {ys : List β}, Paired R xs ys → xs.length = ys.length
  | _, _, .nil => rfl
  | _, _, .cons _ t => by rw [List.length_cons, List.length_cons, prLen t]
theorem prAt1 : ∀ {xs : List α} {ys : List β} {i : Nat} {x : α}, Paired R xs ys → xs[i]? = some x → ∃ y, ys[i]? = some y ∧ R x y
  | _, _, _, _, .nil, e => by simp at e
  | _, _, 0, _, .cons h _, e => by
    cases Option.some.inj e
    exact ⟨_, rfl, h⟩
  | _, _, i + 1, x, .cons _ t, e => prAt1 (i := i) t e
theorem prAt2 : ∀ {xs : List α} {ys : List β} {i : Nat} {y : β}, Paired R xs ys → ys[i]? = some y → ∃ x, xs[i]? = some x ∧ R x y
  | _, _, _, _, .nil, e => by simp at e
  | _, _, 0, _, .cons h _, e => by
    cases Option.some.inj e
    exact ⟨_, rfl, h⟩
  | _, _, i + 1, x, .cons _ t, e => prAt2 (i := i) t e
theorem prImp (f : ∀ a b, R a b → S a b) : ∀ {xs : List α} {ys : List β}, Paired R xs ys → Paired S xs ys
  | _, _, .nil => .nil
  | _, _, .cons h t => .cons (f _ _ h) (prImp f t)
theorem prApp : ∀ {xs xs' : List α} {ys ys' : List β}, Paired R xs ys → Paired R xs' ys' → Paired R (xs ++ xs') (ys ++ ys')
  | _, _, _, _, .nil, q => q
  | _, _, _, _, .cons h t, q => .cons h (prApp t q)
theorem prTake : ∀ {xs : List α} {ys : List β} (n : Nat), Paired R xs ys → Paired R (xs.take n) (ys.take n)
  | _, _, 0, _ => .nil
  | _, _, _ + 1, .nil => .nil
  | _, _, n + 1, .cons h t => .cons h (prTake n t)
theorem prDrop : ∀ {xs : List α} {ys : List β} (n : Nat), Paired R xs ys → Paired R (xs.drop n) (ys.drop n)
  | _, _, 0, q => q
  | _, _, _ + 1, .nil => .nil
  | _, _, n + 1, .cons _ t => prDrop n t
theorem prSet {x : α} {y : β} (h : R x y) : ∀ {xs : List α} {ys : List β} (i : Nat), Paired R xs ys → Paired R (xs.set i x) (ys.set i y)
  | _, _, _, .nil => .nil
  | _, _, 0, .cons _ t => .cons h t
  | _, _, i + 1, .cons q t => .cons q (prSet h i t)
theorem prErase : ∀ {xs : List α} {ys : List β} (i : Nat), Paired R xs ys → Paired R (xs.eraseIdx i) (ys.eraseIdx i)
  | _, _, _, .nil => .nil
  | _, _, 0, .cons _ t => t
  | _, _, i + 1, .cons q t => .cons q (prErase i t)
theorem prAll {P : β → Prop} : ∀ {xs : List α} {ys : List β}, Paired R xs ys → (∀ x y, R x y → P y) → ∀ y ∈ ys, P y
  | _, _, .nil, _, y, h => by cases h
  | _, _, .cons q t, f, y, h => by
    rcases List.mem_cons.mp h with e | h
    · rw [e]; exact f _ _ q
    · exact prAll t f y h
theorem prMap {γ : Type} {g : γ → α} {h : γ → β} : ∀ (l : List γ), (∀ c ∈ l, R (g c) (h c)) → Paired R (l.map g) (l.map h)
  | [], _ => .nil
  | c :: l, f => .cons (f c List.mem_cons_self) (prMap l fun d hd => f d (List.mem_cons_of_mem _ hd))
end
/-! ### heaps -/
/-- the tuples stay -/
def TK (H H' : Hp) : Prop := ∀ b xs, H b = some (.tup xs) → H' b = some (.tup xs)
theorem TK.refl (H : Hp) : TK H H := fun _ _ h => h
theorem TK.trans {H H1 H2 : Hp} (a : TK H H1) (b : TK H1 H2) : TK H H2 := fun c o h => b c o (a c o h)
theorem TK.of {H H' : Hp} (h : Same H H') : TK H H' := fun b xs e => h b _ e
/-- all but the object at t stays -/
def But (t : Addr) (H H' : Hp) : Prop := ∀ b o, H b = some o → b ≠ t → H' b = some o
theorem But.refl (t : Addr) (H : Hp) : But t H H := fun _ _ h _ => h
theorem But.trans {t : Addr} {H H1 H2 : Hp} (a : But t H H1) (b : But t H1 H2) : But t H H2 := fun c o h n => b c o (a c o h n) n
theorem But.of {t : Addr} {H H' : Hp} (h : Same H H') : But t H H' := fun b o e _ => h b o e
theorem But.tk {t : Addr} {H H' : Hp} {xs : List V} (h : But t H H') (ht : H t = some (.lst xs)) : TK H H' := fun b ys e => h b _ e (fun z => by rw [z, ht] at e; cases e)
theorem but_upd {t : Addr} {H : Hp} {o : HO} : But t H (upd H t o) := fun b u e n => by rw [upd_ne n]; exact e
theorem same_new {H : Hp} {p : Addr} {o : HO} (h : H p = none) : Same H (upd H p o) := fun b u e => by
  rw [upd_ne (ne_of_none e h)]
  exact e
/-- an object that was not there at H changes -/
theorem same_mut {H H' : Hp} {p : Addr} {o : HO} (s : Same H H') (h : H p = none) : Same H (upd H' p o) := fun b u e => by
  rw [upd_ne (ne_of_none e h)]
  exact s b u e
theorem tk_upd {H : Hp} {p : Addr} {o : HO} (h : ∀ xs, H p ≠ some (.tup xs)) : TK H (upd H p o) := fun b xs e => by
  rw [upd_ne (fun z => h xs (by rw [← z]; exact e))]
  exact e
theorem tk_lst {H : Hp} {p : Addr} {o : HO} {ys : List V} (h : H p = some (.lst ys)) : TK H (upd H p o) := tk_upd fun xs e => by rw [h] at e; cases e
theorem tk_new {H : Hp} {p : Addr} {o : HO} (h : H p = none) : TK H (upd H p o) := TK.of (same_new h)
theorem Same.at {H H' : Hp} {a : Addr} {o : HO} (s : Same H H') (h : H a = some o) : H' a = some o := s a o h
theorem But.at {t : Addr} {H H' : Hp} {a : Addr} {o : HO} (s : But t H H') (h : H a = some o) (n : a ≠ t) : H' a = some o := s a o h n
theorem TK.at {H H' : Hp} {a : Addr} {xs : List V} (s : TK H H') (h : H a = some (.tup xs)) : H' a = some (.tup xs) := s a xs h
/-! ### places, spots -/
abbrev Spot := Int × List Int
def IsPl (H : Hp) (v : V) (xs : List Int) : Prop := ∃ a, v = .ref a ∧ H a = some (.tup (xs.map V.int))
def IsSp (H : Hp) (v : V) (s : Spot) : Prop := ∃ a p, v = .ref a ∧ H a = some (.tup [.int s.1, p]) ∧ IsPl H p s.2
theorem IsPl.mono {H H' : Hp} {v : V} {xs : List Int} (t : TK H H') (h : IsPl H v xs) : IsPl H' v xs := let ⟨a, e, q⟩ := h; ⟨a, e, t _ _ q⟩
theorem IsSp.mono {H H' : Hp} {v : V} {s : Spot} (t : TK H H') (h : IsSp H v s) : IsSp H' v s := let ⟨a, p, e, q, r⟩ := h; ⟨a, p, e, t _ _ q, r.mono t⟩
theorem sps_mono {H H' : Hp} {vs : List V} {ss : List Spot} (t : TK H H') (h : Paired (IsSp H) vs ss) : Paired (IsSp H') vs ss := prImp (fun _ _ q => q.mono t) h
theorem pls_mono {H H' : Hp} {vs : List V} {ss : List (List Int)} (t : TK H H') (h : Paired (IsPl H) vs ss) : Paired (IsPl H') vs ss := prImp (fun _ _ q => q.mono t) h
/-- a list of spots stands at a -/
def SpL (H : Hp) (a : Addr) (ss : List Spot) : Prop := ∃ vs, H a = some (.lst vs) ∧ Paired (IsSp H) vs ss
theorem SpL.mono {H H' : Hp} {a : Addr} {ss : List Spot} (s : Same H H') (h : SpL H a ss) : SpL H' a ss := let ⟨vs, e, q⟩ := h; ⟨vs, s _ _ e, sps_mono (TK.of s) q⟩
def PlL (H : Hp) (a : Addr) (ss : List (List Int)) : Prop := ∃ vs, H a = some (.lst vs) ∧ Paired (IsPl H) vs ss
theorem PlL.mono {H H' : Hp} {a : Addr} {ss : List (List Int)} (s : Same H H') (h : PlL H a ss) : PlL H' a ss := let ⟨vs, e, q⟩ := h; ⟨vs, s _ _ e, pls_mono (TK.of s) q⟩
/-! ### as data -/
def plD (xs : List Int) : PyData := .tuple (xs.map .int)
def spD (s : Spot) : PyData := .tuple [.int s.1, plD s.2]
theorem dpInts (K : PySem.W.Frag) (H : Hp) : ∀ xs : List Int, DpAll K H (xs.map V.int) (xs.map .int)
  | [] => .nil
  | x :: xs => .cons (.int x) (dpInts K H xs)
theorem IsPl.dp {K : PySem.W.Frag} {H : Hp} {v : V} {xs : List Int} (h : IsPl H v xs) : Dp K H v (plD xs) := by
  obtain ⟨a, rfl, e⟩ := h
  exact .tup (SqT.of e) (dpInts K H xs)
theorem IsSp.dp {K : PySem.W.Frag} {H : Hp} {v : V} {s : Spot} (h : IsSp H v s) : Dp K H v (spD s) := by
  obtain ⟨a, p, rfl, e, q⟩ := h
  exact .tup (SqT.of e) (.cons (.int _) (.cons q.dp .nil))
theorem dpSps {K : PySem.W.Frag} {H : Hp} : ∀ {vs : List V} {ss : List Spot}, Paired (IsSp H) vs ss → DpAll K H vs (ss.map spD)
  | _, _, .nil => .nil
  | _, _, .cons h t => .cons h.dp (dpSps t)
theorem eqvInts : ∀ xs ys : List Int, PyData.eqvAll (xs.map .int) (ys.map .int) = decide (xs = ys)
  | [], [] => by simp [PyData.eqvAll]
  | [], _ :: _ => by simp [PyData.eqvAll]
  | _ :: _, [] => by simp [PyData.eqvAll]
  | x :: xs, y :: ys => by
    have ih := eqvInts xs ys
    show PyData.eqvAll (.int x :: xs.map .int) (.int y :: ys.map .int) = _
    rw [PyData.eqvAll, ih, PyData.eqv]
    by_cases h : x = y
    · by_cases h2 : xs = ys
      · simp [h, h2]
      · simp [h, h2]
    · simp [h]
theorem eqvPl (xs ys : List Int) : PyData.eqv (plD xs) (plD ys) = decide (xs = ys) := by
  unfold plD
  rw [PyData.eqv, eqvInts]
theorem eqvSp (s t : Spot) : PyData.eqv (spD s) (spD t) = decide (s = t) := by
  unfold spD
  rw [PyData.eqv, PyData.eqvAll, PyData.eqvAll, PyData.eqvAll, eqvPl, PyData.eqv]
  obtain ⟨a, x⟩ := s
  obtain ⟨b, y⟩ := t
  by_cases h : a = b
  · by_cases h2 : x = y
    · simp [h, h2]
    · simp [h, h2]
  · simp [h]
theorem layInts : ∀ xs : List Int, PyData.canLayAll0 (xs.map .int) = true
  | [] => by simp [PyData.canLayAll0]
  | x :: xs => by simp [PyData.canLayAll0, PyData.canLay0, layInts xs]
theorem depInts : ∀ xs : List Int, PyData.depthAll (xs.map .int) = 0
  | [] => by simp [PyData.depthAll]
  | x :: xs => by simp [PyData.depthAll, PyData.depth, depInts xs]
theorem laySp (s : Spot) : (spD s).canLay0 = true := by simp [spD, plD, PyData.canLay0, PyData.canLayAll0, layInts]
theorem depSp (s : Spot) : (spD s).depth = 2 := by simp [spD, plD, PyData.depth, PyData.depthAll, depInts]
theorem shPl (xs : List Int) : SeqAt.shaped (plD xs) = true := by
  simp [SeqAt.shaped, plD, PyData.canLay0, PyData.depth, layInts, depInts]
theorem shSp (s : Spot) : SeqAt.shaped (spD s) = true := by
  show ((spD s).canLay0 && decide ((spD s).depth ≤ 64)) = true
  rw [laySp, depSp]
  decide
theorem layOf {α : Type} {f : α → PyData} (h : ∀ a, (f a).canLay0 = true) : ∀ l : List α, PyData.canLayAll0 (l.map f) = true
  | [] => by simp [PyData.canLayAll0]
  | a :: l => by simp [PyData.canLayAll0, h a, layOf h l]
theorem depOf {α : Type} {f : α → PyData} {n : Nat} (h : ∀ a, (f a).depth ≤ n) : ∀ l : List α, PyData.depthAll (l.map f) ≤ n
  | [] => by simp [PyData.depthAll]
  | a :: l => by
    have h1 := h a
    have h2 := depOf h l
    simp only [List.map_cons, PyData.depthAll]
    omega
theorem shOf {α : Type} {f : α → PyData} {n : Nat} (hl : ∀ a, (f a).canLay0 = true) (hd : ∀ a, (f a).depth ≤ n) (hn : n < 64) (l : List α) : SeqAt.shaped (.list (l.map f)) = true := by
  have h2 := depOf hd l
  show (PyData.canLay0 (.list (l.map f)) && decide (PyData.depth (.list (l.map f)) ≤ 64)) = true
  rw [Bool.and_eq_true]
  refine ⟨by simp only [PyData.canLay0]; exact layOf hl l, decide_eq_true ?_⟩
  simp only [PyData.depth]
  omega
theorem shSps (ss : List Spot) : SeqAt.shaped (.list (ss.map spD)) = true := shOf laySp (fun s => Nat.le_of_eq (depSp s)) (by decide) ss
theorem shInts (ss : List Int) : SeqAt.shaped (.list (ss.map .int)) = true := shOf (fun _ => by simp [PyData.canLay0]) (fun _ => Nat.le_of_eq (by simp [PyData.depth])) (by decide : 0 < 64) ss
theorem SpL.dp {K : PySem.W.Frag} {H : Hp} {a : Addr} {ss : List Spot} (h : SpL H a ss) : Dp K H (.ref a) (.list (ss.map spD)) := by
  obtain ⟨vs, e, q⟩ := h
  exact .lst (SqL.of e) (dpSps q)
theorem anySp (ss : List Spot) (s : Spot) : ((ss.map spD).any fun z => PyData.eqv z (spD s)) = decide (s ∈ ss) := by
  induction ss with
  | nil => simp
  | cons t ss ih =>
    rw [List.map_cons, List.any_cons, ih, eqvSp]
    by_cases h : t = s
    · simp [h]
    · by_cases h2 : s ∈ ss
      · simp [h2]
      · have h3 : ¬ s = t := fun e => h e.symm
        simp [h, h2, h3]
theorem eqvNil (K : List PyData) : PyData.eqvAll K [] = K.isEmpty := by cases K <;> simp [PyData.eqvAll]
/-! ### readings of ==, !=, in, not in -/
section
variable {K : PySem.W.Frag} {H : Hp} {x y : V} {s t : Spot} {Q : VK}
theorem g_eqSp (hx : IsSp H x s) (hy : IsSp H y t) (q : Q (.bl (decide (s = t))) H) : rEqD K x y H Q := ⟨_, _, hx.dp, hy.dp, shSp s, shSp t, by rw [eqvSp]; exact q⟩
theorem g_neSp (hx : IsSp H x s) (hy : IsSp H y t) (q : Q (.bl (!decide (s = t))) H) : rNeD K x y H Q := ⟨_, _, hx.dp, hy.dp, shSp s, shSp t, by rw [eqvSp]; exact q⟩
/-- None against a spot -/
theorem g_neNon (hy : IsSp H y t) (q : Q (.bl true) H) : rNeD K .non y H Q := ⟨_, _, .non, hy.dp, by decide, shSp t, by unfold spD; rw [PyData.eqv]; exact q⟩
theorem g_inSp {a : Addr} {ss : List Spot} (hx : IsSp H x s) (hy : SpL H a ss) (q : Q (.bl (decide (s ∈ ss))) H) : rInD K x (.ref a) H Q := ⟨_, _, hx.dp, hy.dp, shSp s, shSps ss, by rw [anySp]; exact q⟩
theorem g_ninSp {a : Addr} {ss : List Spot} (hx : IsSp H x s) (hy : SpL H a ss) (q : Q (.bl (!decide (s ∈ ss))) H) : rNotInD K x (.ref a) H Q := ⟨_, _, hx.dp, hy.dp, shSp s, shSps ss, by rw [anySp]; exact q⟩
/-- a list against [] -/
theorem g_eqNil {a b : Addr} {vs : List V} {ds : List PyData} (ha : H a = some (.lst vs)) (hd : DpAll K H vs ds) (hs : SeqAt.shaped (.list ds) = true) (hb : H b = some (.lst [])) (q : Q (.bl ds.isEmpty) H) : rEqD K (.ref a) (.ref b) H Q :=
  ⟨_, _, .lst (SqL.of ha) hd, .lst (SqL.of hb) .nil, hs, by decide, by rw [PyData.eqv, eqvNil]; exact q⟩
theorem g_neNil {a b : Addr} {vs : List V} {ds : List PyData} (ha : H a = some (.lst vs)) (hd : DpAll K H vs ds) (hs : SeqAt.shaped (.list ds) = true) (hb : H b = some (.lst [])) (q : Q (.bl (!ds.isEmpty)) H) : rNeD K (.ref a) (.ref b) H Q :=
  ⟨_, _, .lst (SqL.of ha) hd, .lst (SqL.of hb) .nil, hs, by decide, by rw [PyData.eqv, eqvNil]; exact q⟩
end
/-! ### sorted lists of spots -/
abbrev spLe : Spot → Spot → Bool := PySem.W.dataLe false spD
/-- how sorted lays spots -/
def srt (ss : List Spot) : List Spot := ss.mergeSort spLe
theorem srt_perm (ss : List Spot) : (srt ss).Perm ss := List.mergeSort_perm ss spLe
theorem alikeSp (s t : Spot) : PySem.W.alike (spD s) (spD t) = true := by
  unfold spD plD
  rw [PySem.W.alike, PySem.W.alikeAll, PySem.W.alikeAll, PySem.W.alike, PySem.W.alike, PySem.W.alike_ints]
  simp [PySem.W.alikeAll]
theorem alikeSps (ss : List Spot) : PySem.W.AllAlike (ss.map spD) := PySem.W.AllAlike.of alikeSp
theorem sortSps (ss : List Spot) : PySem.W.Sortable (ss.map spD) := PySem.W.Sortable.tuples fun s => ⟨_, _, rfl⟩
section
variable {X : Cx} {pins : List (Addr × Obj)} {σ : L2.St} {H : Hp} {s : Shared}
/-- values that are spots of the heap: the relation that sorting carries -/
def VSp (H : Hp) (u : Value) (t : Spot) : Prop := ∃ a, u = .ref a ∧ IsSp H (.ref a) t
theorem vsp_of : ∀ {vs : List V} {us : List Value} {ss : List Spot}, Paired (IsSp H) vs ss → Vals vs us → PySem.W.EachIs (VSp H) us ss
  | _, _, _, .nil, .nil => .nil
  | _, _, _, .cons h t, .cons r q => by
    obtain ⟨a, p, e, z⟩ := id h
    subst e
    cases r
    exact .cons ⟨a, rfl, h⟩ (vsp_of t q)
theorem of_vsp : ∀ {us : List Value} {ss : List Spot}, PySem.W.EachIs (VSp H) us ss → ∃ vs, Paired (IsSp H) vs ss ∧ Vals vs us
  | _, _, .nil => ⟨[], .nil, .nil⟩
  | _, _, .cons ⟨a, e, h⟩ t => by
    obtain ⟨vs, q, r⟩ := of_vsp t
    exact ⟨.ref a :: vs, .cons h q, .cons e r⟩
theorem vsp_reads (I : Inv X pins σ H s) : ∀ {us : List Value} {ss : List Spot}, PySem.W.EachIs (VSp H) us ss → PySem.W.EachIs (fun v b => ∃ as, Reads s.heap v (spD b) as) us ss
  | _, _, .nil => .nil
  | _, _, .cons ⟨a, e, h⟩ t => .cons (Dp.reads I _ _ _ (h.dp (K := X.K)) e) (vsp_reads I t)
end
/-- sorted(xs), xs a list of spots -/
def rSortSp (K : PySem.W.Frag) : List V → Hp → VK → Prop := fun xs H Q => ∃ (l : Addr) (ss : List Spot), xs = [.ref l] ∧ SpL H l ss ∧ ∀ p H', H p = none → Same H H' → SpL H' p (srt ss) → Q (.ref p) H'
theorem len_each {α β : Type} {R : α → β → Prop} : ∀ {as : List α} {bs : List β}, PySem.W.EachIs R as bs → as.length = bs.length
  | _, _, .nil => rfl
  | _, _, .cons _ t => by rw [List.length_cons, List.length_cons, len_each t]
theorem cr_sortSp {X : Cx} (hu : X.A.units + 64 < cLine) : CallR X (.builtin "sorted") (rSortSp X.K) := by
  intro pins s σ H xs us Q I r h
  obtain ⟨l, ss, rfl, ⟨vs, e, hp⟩, q⟩ := h
  obtain ⟨u, eu, rx⟩ := vals1 r
  subst eu
  cases rx
  obtain ⟨z, its, n, rv, ho⟩ := I.hok l _ e
  have ev := vsp_of hp rv
  have hlen : ss.length = vs.length := (prLen hp).symm
  refine PySem.W.sorted_data (enc := spD) (R := VSp H) (vs := its) (l := l) ⟨_, ho, rfl, n, rfl⟩ ev (vsp_reads I ev) (alikeSps ss) (sortSps ss) (by omega) (fun b _ => by rw [depSp]; omega) fun out ho2 eo => ?_
  obtain ⟨c, hc⟩ := PyProof.Rows.sortedAll_at s.heap its (List.toArray out)
  have hnew : s.heap.objs.size ≤ s.heap.objs.size + 1 := Nat.le_succ _
  obtain ⟨ws, hw, hv⟩ := of_vsp eo
  have hn : H (s.heap.objs.size + 1) = none := I.hok.fresh hnew
  have hwl : ws.length ≤ sizeLine := by
    have h1 : ws.length = ss.length := (prLen hw).trans (srt_perm ss).length_eq
    rw [h1, hlen]
    exact z
  refine ⟨.ref (s.heap.objs.size + 1), upd H (s.heap.objs.size + 1) (.lst ws), I.laid (t' := s.toks) (fun b o q => PyProof.Rows.sortedAll_old q) hnew ⟨hwl, out, c, hv, hc⟩, rfl, ?_⟩
  exact q _ _ hn (same_new hn) ⟨ws, upd_same, sps_mono (tk_new hn) hw⟩
end SL
end PtK2a
/-! part K2b -/
section PtK2b
/-! K2b: dicts whose keys are spots. -/
namespace SL
open PySem PySem.Spec PyProof.Rows L2
/-! ### spots as keys -/
def nkPl (xs : List Int) : NestedKey := .tup (xs.map .num)
def nkSp (s : Spot) : NestedKey := .tup [.num s.1, nkPl s.2]
theorem nums_inj : ∀ {xs ys : List Int}, xs.map NestedKey.num = ys.map NestedKey.num → xs = ys
  | [], [], _ => rfl
  | [], _ :: _, h => by simp at h
  | _ :: _, [], h => by simp at h
  | x :: xs, y :: ys, h => by
    rw [List.map_cons, List.map_cons] at h
    injection h with h1 h2
    injection h1 with h1
    rw [h1, nums_inj h2]
theorem nkSp_inj {s t : Spot} (h : nkSp s = nkSp t) : s = t := by
  unfold nkSp nkPl at h
  injection h with h
  injection h with h1 h
  injection h with h2 _
  injection h1 with h1
  injection h2 with h2
  exact Prod.ext h1 (nums_inj h2)
theorem nkSp_dec (s t : Spot) : decide (nkSp s = nkSp t) = decide (s = t) := by
  by_cases h : s = t
  · rw [h, decide_eq_true rfl, decide_eq_true rfl]
  · rw [decide_eq_false h, decide_eq_false fun e => h (nkSp_inj e)]
theorem nums_depth : ∀ xs : List Int, NestedKey.depthAll (xs.map .num) = 0
  | [] => rfl
  | x :: xs => by
    rw [List.map_cons, NestedKey.depthAll, nums_depth xs]
    rfl
theorem nkSp_depth (s : Spot) : (nkSp s).depth = 2 := by
  unfold nkSp nkPl
  simp [NestedKey.depth, NestedKey.depthAll, nums_depth]
/-- the kind of keys: spots -/
def spotKind (P : Program) (w : World) : HeapKind P w Spot where
  is := fun h s a => (nestedKind P w).is h (nkSp s) a
  hash := fun s => (nestedKind P w).hash (nkSp s)
  draws := fun s => (nestedKind P w).draws (nkSp s)
  room := fun A => A.units + 8 < cLine
  inj := fun hx hy => nkSp_inj ((nestedKind P w).inj hx hy)
  keeps := fun hx ho hd hs => (nestedKind P w).keeps hx ho hd hs
  pyHash := fun hu hk h => (nestedKind P w).pyHash hu hk h
  eqBool := fun hu hx hy h => (nestedKind P w).eqBool hu hx hy (by rw [nkSp_dec]; exact h)
  quiet := fun hk h => (nestedKind P w).quiet hk h
section
variable {P : Program} {w : World} {H : Hp} {h : Heap}
theorem nested_ints : ∀ {xs : List Int} {us : List Value}, Vals (xs.map V.int) us → NestedAll h (xs.map .num) us
  | [], _, .nil => .nil
  | x :: xs, _, .cons r t => by
    obtain ⟨tk, rfl⟩ := r
    exact .cons (.int _ _) (nested_ints t)
theorem IsPl.nested (ok : HOk P w H h) {a : Addr} {xs : List Int} (e : H a = some (.tup (xs.map V.int))) : NestedIs h (nkPl xs) (.ref a) := by
  obtain ⟨_, its, rv, o, ho, hc, n, hd⟩ := (show ObjOk P w H h a _ from ok a _ e)
  exact .tup ho hc hd (by simpa using nested_ints rv)
theorem IsSp.key (ok : HOk P w H h) {a : Addr} {s : Spot} (e : IsSp H (.ref a) s) : (spotKind P w).is h s a := by
  obtain ⟨a', p, ea, e, q⟩ := e
  cases ea
  obtain ⟨b, rfl, eb⟩ := q
  obtain ⟨_, its, rv, o, ho, hc, n, hd⟩ := (show ObjOk P w H h a _ from ok a _ e)
  refine ⟨?_, by rw [nkSp_depth]; decide⟩
  cases rv with
  | cons r1 rv =>
    cases rv with
    | cons r2 rv =>
      cases rv
      obtain ⟨tk, rfl⟩ := r1
      cases r2
      exact .tup ho hc hd (.cons (.int _ _) (.cons (IsPl.nested ok eb) .nil))
end
/-! ### the dict at d -/
/-- what stands at d: the entries ys (a key, where its tuple stands, the value) -/
def dPhi (P : Program) (w : World) (d : Addr) (ys : List (Spot × Addr × Value)) (h : Heap) : Prop :=
  (d == sysModules) = false ∧ ys.length ≤ sizeLine ∧ (ys.map (·.1)).Nodup ∧ ∃ o es ep, h.get? d = some o ∧ o.ExactDict ∧ o.data = .dict es ep ∧ es.toList = ys.map (entryOfKey (spotKind P w))
def dOb (P : Program) (w : World) (d : Addr) (ys : List (Spot × Addr × Value)) : HO := .ext (dPhi P w d ys)
theorem dOb_ok {P : Program} {w : World} {H : Hp} {h : Heap} {d : Addr} {ys : List (Spot × Addr × Value)} (p : dPhi P w d ys h) : ObjOk P w H h d (dOb P w d ys) := by
  have ⟨z1, z2, z3, o, es, ep, e, r⟩ := p
  refine ⟨p, ⟨o, e⟩, fun h1 h2 q k => ?_⟩
  obtain ⟨y1, y2, y3, o, es, ep, e, r⟩ := q
  exact ⟨y1, y2, y3, o, es, ep, k o e, r⟩
/-- the dict with the pairs kvs, in order -/
def DN (P : Program) (w : World) (H : Hp) (d : Addr) (kvs : List (Spot × V)) : Prop :=
  ∃ ys, H d = some (dOb P w d ys) ∧ (∀ y ∈ ys, IsSp H (.ref y.2.1) y.1) ∧ KV kvs (pairsH ys)
section
variable {P : Program} {w : World} {H H' : Hp} {h : Heap} {d : Addr} {kvs : List (Spot × V)}
theorem DN.mono (t : TK H H') (hd : ∀ o, H d = some o → H' d = some o) (x : DN P w H d kvs) : DN P w H' d kvs := by
  obtain ⟨ys, e, k, v⟩ := x
  exact ⟨ys, hd _ e, fun y hy => (k y hy).mono t, v⟩
theorem DN.same (s : Same H H') (x : DN P w H d kvs) : DN P w H' d kvs := x.mono (TK.of s) fun o e => s _ o e
theorem DN.but {t : Addr} (s : But t H H') (tk : TK H H') (n : d ≠ t) (x : DN P w H d kvs) : DN P w H' d kvs := x.mono tk fun o e => s _ o e n
theorem DN.hasExt (x : DN P w H d kvs) : ∃ φ, H d = some (.ext φ) := let ⟨ys, e, _⟩ := x; ⟨_, e⟩
theorem DN.notup (x : DN P w H d kvs) : ∀ xs, H d ≠ some (.tup xs) := fun xs e => by
  obtain ⟨φ, e'⟩ := x.hasExt
  rw [e'] at e
  cases e
theorem pairsH_keys {V' : Type} (ys : List (Spot × Addr × Value)) : (pairsH ys).map (·.1) = ys.map (·.1) := by
  unfold pairsH
  rw [List.map_map]
  rfl
theorem DN.len (x : DN P w H d kvs) (ok : HOk P w H h) : kvs.length ≤ sizeLine := by
  obtain ⟨ys, e, k, v⟩ := x
  have z := (ok d _ e).1.2.1
  rw [v.length, pairsH_length]
  exact z
theorem DN.of (x : DN P w H d kvs) (ok : HOk P w H h) : ∃ ys, (d == sysModules) = false ∧ ys.length ≤ sizeLine ∧ h.DictOfH (spotKind P w) d ys ∧ KV kvs (pairsH ys) ∧ (∀ y ∈ ys, IsSp H (.ref y.2.1) y.1) ∧ H d = some (dOb P w d ys) := by
  obtain ⟨ys, e, k, v⟩ := x
  obtain ⟨z1, z2, z3, o, es, ep, e1, e2, e3, e4⟩ := (ok d _ e).1
  exact ⟨ys, z1, z2, ⟨o, es, ep, e1, e2, e3, e4, fun y hy => (k y hy).key ok, z3⟩, v, k, e⟩
/-- behind a store: the entries zs stand at d -/
theorem dn_laid {X : Cx} {pins : List (Addr × Obj)} {σ : L2.St} {H : Hp} {s : Shared} {d : Addr} {h' : Heap} {tk : Nat} {zs : List (Spot × Addr × Value)} (I : Inv X pins σ H s) (mu : Mut (H d)) (hs : Heap.SameBut d s.heap h')
    (hm : (d == sysModules) = false) (hz : zs.length ≤ sizeLine) (dd : h'.DictOfH (spotKind X.prog X.w) d zs) : Inv X pins σ (upd H d (dOb X.prog X.w d zs)) { s with heap := h', toks := tk } := by
  obtain ⟨o, es, ep, e1, e2, e3, e4, e5, e6⟩ := dd
  exact d_write I mu hs ⟨o, e1⟩ (dOb_ok ⟨hm, hz, e6, o, es, ep, e1, e2, e3, e4⟩)
theorem dn_keys {zs : List (Spot × Addr × Value)} (hk : ∀ y ∈ zs, IsSp H (.ref y.2.1) y.1) (hd : ∀ xs, H d ≠ some (.tup xs)) : ∀ y ∈ zs, IsSp (upd H d (dOb P w d zs)) (.ref y.2.1) y.1 := fun y hy => (hk y hy).mono (tk_upd hd)
theorem mem_storedH {ys : List (Spot × Addr × Value)} {k : Spot} {a : Addr} {v : Value} {G : Spot → Addr → Prop} (hk : ∀ y ∈ ys, G y.1 y.2.1) (ha : G k a) : ∀ y ∈ storedH ys k a v, G y.1 y.2.1 := by
  intro y hy
  unfold storedH at hy
  split at hy
  · obtain ⟨z, hz, e⟩ := List.mem_map.mp hy
    rw [← e]
    unfold putAt
    split <;> exact hk z hz
  · rcases List.mem_append.mp hy with hy | hy
    · exact hk y hy
    · rw [List.mem_singleton.mp hy]; exact ha
theorem kv_put {kvs : List (Spot × V)} {vs : List (Spot × Value)} (r : KV kvs vs) (k : Spot) {y : V} {u : Value} (ry : RelV y u) : KV (putK kvs k y) (stored vs k u) := KV.put r k ry
end
/-! ### d[k], k in d, d[k] = v, d.setdefault(k, v) -/
/-- a key is asked of the dict at a -/
def NGet (P : Program) (w : World) (H : Hp) (a : Addr) (y : V) (r : Option V) : Prop := ∃ kvs k, DN P w H a kvs ∧ IsSp H y k ∧ r = valV kvs k
theorem NGet.of {P : Program} {w : World} {H : Hp} {a : Addr} {y : V} {kvs : List (Spot × V)} {k : Spot} (d : DN P w H a kvs) (h : IsSp H y k) : NGet P w H a y (valV kvs k) := ⟨kvs, k, d, h, rfl⟩
section
variable {X : Cx} {pins : List (Addr × Obj)} {σ : L2.St} {H : Hp} {s : Shared} {a : Addr} {y v : V} {u r : Value} {A : Around} {E : Value → Shared → Prop} {o : Option V} {kvs : List (Spot × V)} {k : Spot}
theorem nd_getItem {Q : Value → Shared → Prop} (hu : A.units + 9 < cLine) (I : Inv X pins σ H s) (g : NGet X.prog X.w H a y (some v)) (ry : RelV y u) (h : ∀ w' s', Inv X pins σ H s' → RelV v w' → Q w' s') :
    wpAny (model X.prog X.w) A (getItem (.ref a) u) Q E s := by
  obtain ⟨kvs, k, d, hk, l⟩ := g
  obtain ⟨b, p, ey, _⟩ := id hk
  subst ey
  cases ry
  obtain ⟨ys, hd, hz, dd, kv, _, _⟩ := d.of I.hok
  obtain ⟨w', hw, rw'⟩ := RelO.some_of (v := v) (o := valueAt (pairsH ys) k) (by rw [l]; exact kv.val k)
  rw [valueAt_pairsH] at hw
  obtain ⟨p, hp, hp2⟩ := Option.map_eq_some_iff.mp hw
  refine wpAny_getItem_heap (knd := spotKind X.prog X.w) (by show A.units + 1 + 8 < cLine; omega) (hk.key I.hok) dd hp ?_
  rw [hp2]
  exact h w' _ (I.tok _) rw'
theorem nd_in {Q : Value → Shared → Prop} (hu : A.units + 9 < cLine) (I : Inv X pins σ H s) (g : NGet X.prog X.w H a y o) (ry : RelV y u) (h : ∀ s', Inv X pins σ H s' → Q (.bool o.isSome) s') :
    wpAny (model X.prog X.w) A (compareOp .In u (.ref a)) Q E s := by
  obtain ⟨kvs, k, d, hk, l⟩ := g
  obtain ⟨b, p, ey, _⟩ := id hk
  subst ey
  cases ry
  obtain ⟨ys, hd, hz, dd, kv, _, _⟩ := d.of I.hok
  refine wpAny_in_heap (knd := spotKind X.prog X.w) (by show A.units + 1 + 8 < cLine; omega) (hk.key I.hok) hd dd ?_
  have q := (kv.val k).isSome_eq
  rw [valueAt_pairsH, Option.isSome_map] at q
  rw [← q, ← l]
  exact h _ (I.tok _)
theorem nd_setItem {Q : Unit → Shared → Prop} (hu : A.units + 9 < cLine) (I : Inv X pins σ H s) (d : DN X.prog X.w H a kvs) (hk : IsSp H y k) (hl : kvs.length < sizeLine) (ry : RelV y u) (rv : RelV v r)
    (h : ∀ s' H', But a H H' → (∀ b, H b = none → H' b = none) → TK H H' → DN X.prog X.w H' a (putK kvs k v) → Inv X pins σ H' s' → Q () s') : wpAny (model X.prog X.w) A (setItem (.ref a) u r) Q E s := by
  obtain ⟨b, p, ey, _⟩ := id hk
  subst ey
  cases ry
  obtain ⟨ys, hd, hz, dd, kv, kk, e⟩ := d.of I.hok
  have hyl : ys.length < sizeLine := by
    have q := kv.length
    rw [pairsH_length] at q
    omega
  refine wpAny_setItem_heap (knd := spotKind X.prog X.w) (by show A.units + 1 + 8 < cLine; omega) (hk.key I.hok) dd (fun h' dd' hs => ?_) hz
  have hz' : (storedH ys k b r).length ≤ sizeLine := Nat.le_trans (storedH_length _ _ _ _) hyl
  refine h _ (upd H a (dOb X.prog X.w a (storedH ys k b r))) but_upd (fun c hc => ?_) (tk_upd d.notup) ⟨_, upd_same, dn_keys (mem_storedH (G := fun k a => IsSp H (.ref a) k) kk hk) d.notup, ?_⟩ (dn_laid I (by rw [e]; exact True.intro) hs hd hz' dd')
  · rw [upd_ne (fun z => by rw [z, e] at hc; cases hc)]
    exact hc
  · rw [pairsH_storedH]
    exact kv_put kv k rv
theorem nd_setdefault {Q : Value → Shared → Prop} (hu : A.units + 9 < cLine) (I : Inv X pins σ H s) (d : DN X.prog X.w H a kvs) (hk : IsSp H y k) (hl : kvs.length < sizeLine) (ry : RelV y u) (rv : RelV v r)
    (h1 : ∀ v0, valV kvs k = some v0 → ∀ w' s', Inv X pins σ H s' → RelV v0 w' → Q w' s')
    (h2 : valV kvs k = none → ∀ w' s' H', But a H H' → (∀ b, H b = none → H' b = none) → TK H H' → DN X.prog X.w H' a (putK kvs k v) → Inv X pins σ H' s' → RelV v w' → Q w' s') :
    wpAny (model X.prog X.w) A (call (.builtin "dict.setdefault") [.ref a, u, r]) Q E s := by
  obtain ⟨b, p, ey, _⟩ := id hk
  subst ey
  cases ry
  obtain ⟨ys, hd, hz, dd, kv, kk, e⟩ := d.of I.hok
  have hyl : ys.length < sizeLine := by
    have q := kv.length
    rw [pairsH_length] at q
    omega
  have q := kv.val k
  rw [valueAt_pairsH] at q
  refine call_setdefault_heap (knd := spotKind X.prog X.w) (by show A.units + 1 + 8 < cLine; omega) (hk.key I.hok) hd dd (fun p hp => ?_) (fun hn h' dd' hs => ?_) hz
  · rw [hp] at q
    cases q0 : valV kvs k with
    | none => rw [q0] at q; exact (show False from q).elim
    | some v0 =>
      rw [q0] at q
      exact h1 v0 q0 _ _ (I.tok _) q
  · rw [hn] at q
    have hn0 : valV kvs k = none := by
      cases q0 : valV kvs k with
      | none => rfl
      | some v0 => rw [q0] at q; exact (show False from q).elim
    have hz' : (storedH ys k b r).length ≤ sizeLine := Nat.le_trans (storedH_length _ _ _ _) hyl
    refine h2 hn0 _ _ (upd H a (dOb X.prog X.w a (storedH ys k b r))) but_upd (fun c hc => ?_) (tk_upd d.notup) ⟨_, upd_same, dn_keys (mem_storedH (G := fun k a => IsSp H (.ref a) k) kk hk) d.notup, ?_⟩ (dn_laid I (by rw [e]; exact True.intro) hs hd hz' dd') rv
    · rw [upd_ne (fun z => by rw [z, e] at hc; cases hc)]
      exact hc
    · rw [pairsH_storedH]
      exact kv_put kv k rv
theorem dn_type (I : Inv X pins σ H s) (d : DN X.prog X.w H a kvs) : s.TypeIs (.ref a) "dict" ∧ ∀ b, Value.ref a = .ref b → ∃ ob, s.heap.get? b = some ob ∧ ob.dict = none := by
  obtain ⟨ys, hd, hz, ⟨o, es, ep, e1, e2, e3⟩, _⟩ := d.of I.hok
  exact ⟨⟨o, e1, e2.1⟩, fun b q => by cases q; exact ⟨o, e1, e2.2.1⟩⟩
end
/-- d[y] -/
def tNGet (P : Program) (w : World) (td ty : TE) : TE := fun σ H Q => td σ H fun x H1 => ty σ H1 fun y H2 => ∃ a v, x = .ref a ∧ NGet P w H2 a y (some v) ∧ Q v H2
/-- y in d -/
def tNIn (P : Program) (w : World) (ty td : TE) : TE := fun σ H Q => ty σ H fun y H1 => td σ H1 fun x H2 => ∃ a o, x = .ref a ∧ NGet P w H2 a y o ∧ Q (.bl o.isSome) H2
/-- what is left behind a store into the dict at a -/
def NPut (P : Program) (w : World) (H : Hp) (a : Addr) (y v : V) (R : Hp → Prop) : Prop := ∃ kvs k, DN P w H a kvs ∧ IsSp H y k ∧ kvs.length < sizeLine ∧ ∀ H', But a H H' → (∀ b, H b = none → H' b = none) → TK H H' → DN P w H' a (putK kvs k v) → R H'
/-- d[y] = v -/
def sNPut (P : Program) (w : World) (td ty tv : TE) : TS := fun D σ H => tv σ H fun v H1 => td σ H1 fun x H2 => ty σ H2 fun y H3 => ∃ a, x = .ref a ∧ NPut P w H3 a y v fun H' => D.nx σ H'
/-- d.setdefault(y, v) -/
def tNSetd (P : Program) (w : World) (td ty tx : TE) : TE := fun σ H Q => td σ H fun x H1 => ∃ a, x = .ref a ∧ (∃ kvs, DN P w H1 a kvs) ∧ ty σ H1 fun y H2 => tx σ H2 fun z H3 => ∃ kvs k, DN P w H3 a kvs ∧ IsSp H3 y k ∧ kvs.length < sizeLine ∧
  (∀ v, valV kvs k = some v → Q v H3) ∧ (valV kvs k = none → ∀ H', But a H3 H' → (∀ b, H3 b = none → H' b = none) → TK H3 H' → DN P w H' a (putK kvs k z) → Q z H')
section
variable {X : Cx} {o i e f value : Expr} {pos pos' tpos apos cpos : Pos} {td ty tv tx : TE}
theorem pe_nget (hu : X.A.units + 64 < cLine) (ho : PE X o td) (hi : PE X i ty) (hs : NoSl i) : PE X (.Subscript o i pos) (tNGet X.prog X.w td ty) := by
  refine ⟨fun pins s σ H Q I h => ?_⟩
  refine subD_of PySem.F.slot_dict_getitem.lookup hs (thn (ho.run pins s σ H _ I h) fun u s1 ⟨x, H1, I1, rx, q1⟩ => thn (hi.run pins s1 σ H1 _ I1 q1) fun iv s2 ⟨y, H2, I2, ry, a, v, ex, g, q2⟩ => ?_)
  subst ex
  obtain rfl : u = Value.ref a := rx
  obtain ⟨kvs, k, d, hk, l⟩ := id g
  exact ⟨(dn_type I2 d).1, nd_getItem (by omega) I2 g ry fun w' s3 I3 rw' => ⟨v, H2, I3, rw', q2⟩⟩
theorem pc_nin (hu : X.A.units + 64 < cLine) (hi : PE X i ty) (ho : PE X o td) : PC X .In i o (tNIn X.prog X.w ty td) := by
  refine ⟨fun pins s σ H Q I h => ?_⟩
  refine thn (hi.run pins s σ H _ I h) fun iv s1 ⟨y, H1, I1, ry, q1⟩ => thn (ho.run pins s1 σ H1 _ I1 q1) fun u s2 ⟨x, H2, I2, rx, a, ov, ex, g, q2⟩ => ?_
  subst ex
  obtain rfl : u = Value.ref a := rx
  exact nd_in (by omega) I2 g ry fun s3 I3 => ⟨.bl ov.isSome, H2, I3, rfl, q2⟩
theorem ps_nput (hu : X.A.units + 64 < cLine) (ho : PE X o td) (hi : PE X i ty) (hv : PE X value tv) (hs : swapsWith value (some (.Subscript o i pos')) pos.line X.env = pure false) :
    PS X (.Assign [.Subscript o i pos'] value pos) (sNPut X.prog X.w td ty tv) := by
  refine ⟨fun pins s σ H D I h => ?_⟩
  refine wpAny_Assign_Subscript (thn (hv.run pins s σ H _ I h) fun r s1 ⟨v, H1, I1, rv, q1⟩ => thn (ho.run pins s1 σ H1 _ I1 q1) fun u s2 ⟨x, H2, I2, rx, q2⟩ => thn (hi.run pins s2 σ H2 _ I2 q2) fun iv s3 ⟨y, H3, I3, ry, a, ex, kvs, k, d, hk, hl, q3⟩ => ?_) hs
  subst ex
  obtain rfl : u = Value.ref a := rx
  exact nd_setItem (by omega) I3 d hk hl ry rv fun s4 H4 b1 b2 b3 b4 I4 => ⟨σ, H4, I4, q3 H4 b1 b2 b3 b4⟩
theorem pe_nsetd (hu : X.A.units + 64 < cLine) (ho : PE X o td) (he : PE X e ty) (hf : PE X f tx) (m : M2 X o "setdefault" apos e f cpos) : PE X (.Call (.Attribute o "setdefault" apos) [e, f] [] cpos) (tNSetd X.prog X.w td ty tx) := by
  refine ⟨fun pins s σ H Q I h => ?_⟩
  refine wpAny_Call_method m.base m.few m.line PySem.F.plainAttrs_dict PySem.F.slot_dict_setdefault PySem.F.type_dict_setdefault (thn (ho.run pins s σ H _ I h) fun u s1 ⟨x, H1, I1, rx, a, ex, ⟨kvs0, d0⟩, q1⟩ => ?_)
  subst ex
  obtain rfl : u = Value.ref a := rx
  obtain ⟨t1, t2⟩ := dn_type I1 d0
  refine ⟨t1, t2, ?_⟩
  rw [m.trees]
  refine Calls.callWith_builtin rfl (Calls.evalArgs_plain (Calls.spliced_cons (thn (he.run pins s1 σ H1 _ I1 q1) fun iv s2 ⟨y, H2, I2, ry, q2⟩ =>
    Calls.spliced_cons (thn (hf.run pins s2 σ H2 _ I2 q2) fun fv s3 ⟨z, H3, I3, rz, kvs, k, d, hk, hl, q3, q4⟩ => Calls.spliced_nil ?_))))
  exact nd_setdefault (by omega) I3 d hk hl ry rz (fun v hv w' s4 I4 rw' => ⟨v, _, I4, rw', q3 v hv⟩) fun hn w' s4 H4 b1 b2 b3 b4 I4 rw' => ⟨z, H4, I4, rw', q4 hn H4 b1 b2 b3 b4⟩
/-- {} whose keys will be spots -/
def tNNew (P : Program) (w : World) : TE := fun _ H Q => ∀ p H', H p = none → Same H H' → DN P w H' p [] → Q (.ref p) H'
theorem pe_nnew : PE X (.Dict [] [] pos) (tNNew X.prog X.w) := ⟨fun pins s σ H Q I h => by
  have hn : H s.heap.objs.size = none := I.hok.fresh (Nat.le_refl _)
  exact wpAny_Dict_empty ⟨.ref s.heap.objs.size, _, I.laid (a := s.heap.objs.size) (o := dOb X.prog X.w s.heap.objs.size []) (t' := s.toks) (fun _ _ q => Heap.get?_push_of_some _ q) (Nat.le_refl _)
    (dOb_ok ⟨beq_eq_false_iff_ne.mpr (Ne.symm (Nat.ne_of_lt I.big)), Nat.zero_le _, List.nodup_nil, _, #[], 0, Heap.get?_push_size _ rfl, ⟨rfl, rfl, rfl⟩, rfl, rfl⟩), rfl, h _ _ hn (same_new hn) ⟨[], upd_same, (fun _ hy => nomatch hy), Paired.nil⟩⟩⟩
end
end SL
end PtK2b
/-! part K2c -/
section PtK2c
/-! K2c: sorted of dicts, dict(pairs), dict(d), list(d.values()), max with default, list.remove of spots. -/
namespace SL
open PySem PySem.Spec PyProof.Rows L2
/-! ### reads of spots -/
theorem readsInts {h : Heap} : ∀ {xs : List Int} {us : List Value}, Vals (xs.map V.int) us → ReadsAll h us (xs.map .int) []
  | [], _, .nil => .nil
  | x :: xs, _, .cons r t => by
    obtain ⟨tk, rfl⟩ := r
    exact ReadsAll.cons (as := []) (bs := []) (.int _ _) (readsInts t)
theorem readsSp {P : Program} {w : World} {H : Hp} {h : Heap} (ok : HOk P w H h) {a : Addr} {s : Spot} (e : IsSp H (.ref a) s) : Reads h (.ref a) (spD s) [] := by
  obtain ⟨a', p, ea, e, q⟩ := e
  cases ea
  obtain ⟨b, rfl, eb⟩ := q
  obtain ⟨_, its, rv, o, ho, hc, n, hd⟩ := (show ObjOk P w H h a _ from ok a _ e)
  obtain ⟨_, its2, rv2, o2, ho2, hc2, n2, hd2⟩ := (show ObjOk P w H h b _ from ok b _ eb)
  cases rv with
  | cons r1 rv =>
    cases rv with
    | cons r2 rv =>
      cases rv
      obtain ⟨tk, rfl⟩ := r1
      cases r2
      exact .tuple ho hc hd (ReadsAll.cons (as := []) (bs := []) (.int _ _) (ReadsAll.cons (as := []) (bs := []) (.tuple ho2 hc2 hd2 (by simpa using readsInts rv2)) .nil))
theorem vsp_reads0 {P : Program} {w : World} {H : Hp} {h : Heap} (ok : HOk P w H h) : ∀ {us : List Value} {ss : List Spot}, PySem.W.EachIs (VSp H) us ss → PySem.W.EachIs (fun v b => Reads h v (spD b) []) us ss
  | _, _, .nil => .nil
  | _, _, .cons ⟨a, e, h1⟩ t => by
    subst e
    exact .cons (readsSp ok h1) (vsp_reads0 ok t)
theorem each_imp {α β : Type} {R S : α → β → Prop} (f : ∀ a b, R a b → S a b) : ∀ {xs : List α} {ys : List β}, PySem.W.EachIs R xs ys → PySem.W.EachIs S xs ys
  | _, _, .nil => .nil
  | _, _, .cons h t => .cons (f _ _ h) (each_imp f t)
/-! ### sorted: behind the collecting -/
theorem sort_tail {P : Program} {w : World} {A : Around} {E : Value → Shared → Prop} {s : Shared} {vs : List Value} {ss : List Spot} {R : Value → Spot → Prop} {Q : PySem.Fin → Shared → Prop}
    (e : PySem.W.EachIs R vs ss) (er : PySem.W.EachIs (fun v b => Reads s.heap v (spD b) []) vs ss) (hL : ss.length ≤ sizeLine) (hu : A.units + 8 < cLine)
    (h : ∀ h' out c, (∀ b o, s.heap.get? b = some o → h'.get? b = some o) → h'.get? s.heap.objs.size = some (seqObj "list" (List.toArray out) c) → PySem.W.EachIs R out (srt ss) → Q (.done (.ret (.ref s.heap.objs.size))) { s with heap := h' }) :
    wpAny (model P w) A (do
      let l ← newList vs
      let _ ← holding [l] (call (.builtin "list.sort") [l] [])
      ret l) Q E s := by
  refine wpAny_bind (wpAny_newList ?_ (by rw [len_each e]; exact hL))
  have ho : (s.heap.push (seqObj "list" vs.toArray 0)).get? s.heap.objs.size = some (seqObj "list" vs.toArray 0) := Heap.get?_push_size _ rfl
  refine wpAny_bind (wpAny_holding (PySem.W.list_sort_data (enc := spD) (R := R) (s := { s with heap := s.heap.push (seqObj "list" vs.toArray 0) }) ho e (each_imp (fun v b r => ⟨[], Reads.keeps (fun b o q => Heap.get?_push_of_some _ q) r, by simp⟩) er) (alikeSps ss) (sortSps ss) hL (fun b _ => by rw [depSp]; omega) fun out _ eo => ?_))
  obtain ⟨c, hc⟩ := PyProof.Rows.sortedHeap_at (vs := vs) (out := List.toArray out) ho
  refine wpAny_pure (h _ out c (fun b o q => ?_) hc eo)
  have hlt := Heap.lt_size q
  show (sortedHeap (s.heap.push (seqObj "list" vs.toArray 0)) s.heap.objs.size vs (List.toArray out)).get? b = some o
  rw [PyProof.Rows.sortedHeap_old (Nat.ne_of_lt hlt) (by rw [size_push']; exact Nat.lt_succ_of_lt hlt)]
  exact Heap.get?_push_of_some _ q
section
variable {X : Cx}
/-- what stands at the new list -/
theorem sort_laid {pins : List (Addr × Obj)} {σ : L2.St} {H : Hp} {s : Shared} {h' : Heap} {tk : Nat} {out : List Value} {c : Nat} {ss : List Spot} (I : Inv X pins σ H s) (hk : ∀ b o, s.heap.get? b = some o → h'.get? b = some o) {p : Addr} (hp : s.heap.objs.size ≤ p)
    (ho : h'.get? p = some (seqObj "list" (List.toArray out) c)) (eo : PySem.W.EachIs (VSp H) out (srt ss)) (hL : ss.length ≤ sizeLine) :
    ∃ H', Inv X pins σ H' { s with heap := h', toks := tk } ∧ H p = none ∧ Same H H' ∧ SpL H' p (srt ss) := by
  obtain ⟨ws, hw, hv⟩ := of_vsp eo
  have hn : H p = none := I.hok.fresh hp
  have hwl : ws.length ≤ sizeLine := by
    have h1 : ws.length = ss.length := (prLen hw).trans (srt_perm ss).length_eq
    rw [h1]
    exact hL
  exact ⟨upd H p (.lst ws), I.laid (t' := tk) hk hp ⟨hwl, out, c, hv, ho⟩, hn, same_new hn, ⟨ws, upd_same, sps_mono (tk_new hn) hw⟩⟩
/-- sorted(d), d a dict keyed by spots -/
def rSortDN (P : Program) (w : World) : List V → Hp → VK → Prop := fun xs H Q => ∃ (d : Addr) (kvs : List (Spot × V)), xs = [.ref d] ∧ DN P w H d kvs ∧ ∀ p H', H p = none → Same H H' → SpL H' p (srt (kvs.map (·.1))) → Q (.ref p) H'
theorem cr_sortDN (hc : X.calm = true) (hu : X.A.units + 64 < cLine) : CallR X (.builtin "sorted") (rSortDN X.prog X.w) := by
  intro pins s σ H xs us Q I r h
  obtain ⟨d, kvs, rfl, dn, q⟩ := h
  obtain ⟨u, eu, rx⟩ := vals1 r
  subst eu
  cases rx
  obtain ⟨ys, hd, hz, dd, kv, kk, _⟩ := dn.of I.hok
  obtain ⟨es, ep, hr, hs, he⟩ := dd.raw
  refine Calls.call_function_entry PyProof.Rows.kind_sorted PyProof.Rows.plain_sorted PyProof.Rows.entry_sorted (PyProof.Rows.args_sorted1 _) ?_
  unfold Builtin.«sorted»
  refine wpAny_bind (m := checkCount "sorted" 1 1 _) (wpAny_pure ?_)
  refine wpAny_bind (PySem.W.kdu_collect (A := X.A.in1) (KdlSrc.rawDict hd) (I.ok.hd hc) hr (by rw [hs]; exact hz) fun h' tk acc hk hacc => ?_)
  have I1 : Inv X pins σ H { s with heap := h', toks := tk } := I.kept hk
  have keys : kvs.map (·.1) = ys.map (·.1) := kv.keys.trans (pairsH_keys (V' := Unit) ys)
  have hev : PySem.W.EachIs (VSp H) acc.toList (kvs.map (·.1)) := by
    rw [keys]
    have hl : acc.toList.length = ys.length := by rw [Array.length_toList, hacc.1, hs]
    have each : ∀ (l : List Value) (zs : List (Spot × Addr × Value)), l.length = zs.length → (∀ (j : Nat) (v : Value), l[j]? = some v → ∃ y : Spot × Addr × Value, zs[j]? = some y ∧ v = Value.ref y.2.1 ∧ IsSp H (.ref y.2.1) y.1) → PySem.W.EachIs (VSp H) l (zs.map (·.1)) := by
      intro l
      induction l with
      | nil => intro zs hl _; cases zs with
        | nil => exact .nil
        | cons _ _ => cases hl
      | cons v l ih => intro zs hl hj; cases zs with
        | nil => cases hl
        | cons z zs =>
          obtain ⟨y, e1, e2, e3⟩ := hj 0 v rfl
          cases Option.some.inj (show some z = some y from e1)
          exact .cons ⟨_, e2, e3⟩ (ih zs (Nat.succ.inj hl) fun j v' e => hj (j + 1) v' (by simpa using e))
    refine each _ _ hl fun j v e => ?_
    obtain ⟨hj, ev⟩ := hacc.2 j v (by rw [← Array.getElem?_toList]; exact e)
    obtain ⟨y, e1, e2, _⟩ := he j hj
    exact ⟨y, e1, ev.trans e2, kk y (List.mem_of_getElem? e1)⟩
  have hL : (kvs.map (·.1)).length ≤ sizeLine := by rw [keys, List.length_map]; exact hz
  refine sort_tail (s := { s with heap := h', toks := tk }) hev (vsp_reads0 I1.hok hev) hL (by simp only [Around.in1_units]; omega) fun h2 out c hk2 ho eo => ?_
  obtain ⟨H', I2, hn, sm, sl⟩ := sort_laid (tk := tk) I1 hk2 (Nat.le_refl _) ho eo hL
  exact ⟨_, rfl, .ref h'.objs.size, H', I2, rfl, q _ H' hn sm sl⟩
/-! ### max(xs, default=d) of ints -/
def rMaxDf (K : PySem.W.Frag) : List V → List V → Hp → VK → Prop := fun xs zs H Q => ∃ (a : Addr) (ns : List Int) (d : Int), xs = [.ref a] ∧ zs = [.int d] ∧ SqL K H a (ns.map V.int) ∧ (ns = [] → Q (.int d) H) ∧ ∀ m, m ∈ ns → (∀ y ∈ ns, y ≤ m) → Q (.int m) H
theorem maxD_fold (n : Int) (ns : List Int) : (ns.foldl max n) ∈ n :: ns ∧ ∀ y ∈ n :: ns, y ≤ ns.foldl max n := by
  induction ns generalizing n with
  | nil => exact ⟨List.mem_cons_self, fun y hy => by rw [List.mem_singleton.mp hy]; exact Int.le_refl _⟩
  | cons m ns ih =>
    obtain ⟨h1, h2⟩ := ih (max n m)
    rw [List.foldl_cons]
    refine ⟨?_, fun y hy => ?_⟩
    · rcases List.mem_cons.mp h1 with e | h1
      · rw [e]
        by_cases h : n ≤ m
        · rw [Int.max_eq_right h]; exact List.mem_cons_of_mem _ List.mem_cons_self
        · rw [Int.max_eq_left (by omega)]; exact List.mem_cons_self
      · exact List.mem_cons_of_mem _ (List.mem_cons_of_mem _ h1)
    · have h3 := h2 (max n m) List.mem_cons_self
      have h4 : n ≤ max n m := Int.le_max_left _ _
      have h5 : m ≤ max n m := Int.le_max_right _ _
      rcases List.mem_cons.mp hy with e | hy
      · rw [e]; omega
      · rcases List.mem_cons.mp hy with e | hy
        · rw [e]; omega
        · exact h2 y (List.mem_cons_of_mem _ hy)
theorem cr_maxDf (hc : X.calm = true) (hu : X.A.units + 64 < cLine) : CallRK X (.builtin "max") [Str.ofString "default"] (rMaxDf X.K) := by
  intro pins s σ H xs zs us ws Q I r rz h
  obtain ⟨a, ns, d, rfl, rfl, hs, q0, q⟩ := h
  obtain rfl := Vals.ref1 r
  obtain ⟨w1, rfl, e1⟩ := vals1 rz
  obtain ⟨its, rv, hl, _⟩ := I.list hs
  have hd0 : PyData.depthAll (ns.map .int) = 0 := depInts ns
  refine PySem.W.max_list_default (xs := ns.map .int) (as := []) (I.ok.hd hc) hl.isList (by simpa using readsInts rv) ⟨fun x hx y hy => ?_, fun x hx => ?_⟩ (by rw [hd0]; omega) (fun e h' tk hk => ?_) fun y ys i v h' tk bs e hv hr hk => ?_
  · obtain ⟨i, _, rfl⟩ := List.mem_map.mp hx
    obtain ⟨j, _, rfl⟩ := List.mem_map.mp hy
    simp [PySem.W.alike]
  · obtain ⟨i, _, rfl⟩ := List.mem_map.mp hx
    exact fun z => nomatch z
  · exact ⟨.int d, H, I.kept hk, e1, q0 (by cases ns with
      | nil => rfl
      | cons _ _ => cases e)⟩
  · cases ns with
    | nil => cases e
    | cons n ns =>
      rw [List.map_cons] at e
      injection e with ea eb
      subst ea eb
      rw [PySem.W.maxD_ints] at hr
      obtain ⟨h1, h2⟩ := maxD_fold n ns
      have : ∃ t, v = .int (ns.foldl max n) t := by cases hr with | int _ t => exact ⟨t, rfl⟩
      exact ⟨.int (ns.foldl max n), H, I.kept hk, this, q _ h1 h2⟩
/-! ### list.remove of a spot -/
def rRemSp : V → List V → Hp → VK → Prop := fun x xs H Q => ∃ (l : Addr) (y : V) (s : Spot) (vs : List V) (ss : List Spot) (j : Nat), x = .ref l ∧ xs = [y] ∧ H l = some (.lst vs) ∧ Paired (IsSp H) vs ss ∧ IsSp H y s ∧ ss[j]? = some s ∧ (∀ m : Nat, m < j → ss[m]? ≠ some s) ∧ Q .non (upd H l (.lst (vs.eraseIdx j)))
theorem mt_remSp (hu : X.A.units + 65 < cLine) : MtM X "list.remove" rRemSp := by
  intro pins s σ H x xs v us Q I rx rxs h
  obtain ⟨l, y, t, vs, ss, j, rfl, rfl, hH, hp, hy, hj, hno, q⟩ := h
  cases rx
  obtain ⟨u, rfl, ru⟩ := rxs.one
  obtain ⟨z, its, n, r, hl, e⟩ := I.lstM hH
  have ev := vsp_of hp r
  have er := vsp_reads0 I.hok ev
  obtain ⟨b, p, ey, _⟩ := id hy
  subst ey
  cases ru
  have ry := readsSp I.hok hy
  have rall : ReadsAll s.heap its (ss.map spD) [] := by
    have go : ∀ {us : List Value} {zs : List Spot}, PySem.W.EachIs (fun v b => Reads s.heap v (spD b) []) us zs → ReadsAll s.heap us (zs.map spD) [] := by
      intro us zs h
      induction h with
      | nil => exact .nil
      | cons h1 _ ih => exact ReadsAll.cons (as := []) (bs := []) h1 ih
    exact go er
  have hln : vs.length = ss.length := prLen hp
  have hjn : j < ss.length := (List.getElem?_eq_some_iff.mp hj).1
  have hrl : its.length = vs.length := r.length.symm
  have hjl : j < its.toArray.size := by rw [List.size_toArray]; omega
  have at_ : ∀ (m : Nat) (hm : m < its.toArray.size) (z : Spot), ss[m]? = some z → SeqAt.readOf s.heap its.toArray[m] = spD z := fun m hm z hz => by
    have hmap : its.map (SeqAt.readOf s.heap) = ss.map spD := SeqAt.readsAll_map _ its [] (layOf laySp ss) rall
    have hml : m < its.length := by simpa using hm
    have e1 : (its.map (SeqAt.readOf s.heap))[m]? = some (spD z) := by rw [hmap, List.getElem?_map, hz]; rfl
    rw [List.getElem?_map, List.getElem?_eq_getElem hml] at e1
    simpa using e1
  have hroom : X.A.units + 1 + min (PyData.depthAll (ss.map spD)) (spD t).depth < cLine := by
    have := Nat.min_le_right (PyData.depthAll (ss.map spD)) (spD t).depth
    rw [depSp] at this ⊢
    omega
  refine call_meets PySem.F.slot_list_remove ⟨_, e, rfl⟩ PySem.F.entry_list_remove (PySem.F.args_list_remove_2 _ _)
    (SeqAt.list_removeAt l its.toArray n _ _ (.ref b) (fun u => PyData.eqv (SeqAt.readOf s.heap u) (spD t)) j hjl ?_ ?_ (by rw [List.size_toArray, hrl]; exact z)) ⟨e, SeqAt.items_eqAt (vs := its.toArray) (by simpa using rall) ry (layOf laySp ss) (laySp t) hroom, ?_⟩
  · show PyData.eqv _ _ = true
    rw [at_ j hjl t hj, eqvSp]
    exact decide_eq_true rfl
  · intro m hm hmj
    have hms : m < ss.length := by simp at hm; omega
    show PyData.eqv _ _ = false
    rw [at_ m hm _ (List.getElem?_eq_getElem hms), eqvSp]
    exact decide_eq_false fun e => hno m hmj (by rw [List.getElem?_eq_getElem hms, e])
  · refine ⟨.non, _, I.lset (its' := its.eraseIdx j) (t' := s.toks) hH e ?_ (r.eraseIdx j) ?_, rfl, q⟩
    · show its.toArray.eraseIdxIfInBounds j = (its.eraseIdx j).toArray
      rw [List.eraseIdxIfInBounds_toArray]
    · have z2 := len_erase vs j
      omega
end
end SL
end PtK2c
/-! part K2d -/
section PtK2d
/-! K2d: dict(pairs), dict(d), list(d.values()). -/
namespace SL
open PySem PySem.Spec PyProof.Rows L2
theorem spotKind_stays {P : Program} {w : World} : (spotKind P w).Stays where
  stays := fun hk x => (nestedKind_stays (prog := P) (w := w)).stays hk x
  tuple := fun x => (nestedKind_stays (prog := P) (w := w)).tuple x
/-- what dict(pairs) makes: later pairs win, the place is the first one's -/
def mergeS (kvs more : List (Spot × V)) : List (Spot × V) := more.foldl (fun acc kv => putK acc kv.1 kv.2) kvs
theorem mergeS_len : ∀ (more kvs : List (Spot × V)), (mergeS kvs more).length ≤ kvs.length + more.length
  | [], kvs => Nat.le_refl _
  | p :: more, kvs => by
    have h1 := mergeS_len more (putK kvs p.1 p.2)
    have h2 := length_putK kvs p.1 p.2
    show (mergeS (putK kvs p.1 p.2) more).length ≤ _
    rw [List.length_cons]
    omega
theorem kv_merge : ∀ {more : List (Spot × V)} {rs : List (Spot × Addr × Value)} {kvs : List (Spot × V)} {ys : List (Spot × Addr × Value)}, KV more (pairsH rs) → KV kvs (pairsH ys) → KV (mergeS kvs more) (pairsH (storedAllH ys rs))
  | [], [], _, _, _, q => q
  | [], _ :: _, _, _, h, _ => by cases h
  | _ :: _, [], _, _, h, _ => by cases h
  | p :: more, r :: rs, kvs, ys, h, q => by
    cases h with
    | cons h1 h2 =>
      obtain ⟨e1, e2⟩ := h1
      have e1' : p.1 = r.1 := e1
      refine kv_merge (kvs := putK kvs p.1 p.2) (ys := storedH ys r.1 r.2.1 r.2.2) h2 ?_
      rw [pairsH_storedH, e1']
      exact kv_put q r.1 e2
theorem mem_storedAll {rs : List (Spot × Addr × Value)} {G : Spot → Addr → Prop} (hr : ∀ y ∈ rs, G y.1 y.2.1) : ∀ {ys : List (Spot × Addr × Value)}, (∀ y ∈ ys, G y.1 y.2.1) → ∀ y ∈ storedAllH ys rs, G y.1 y.2.1 := by
  induction rs with
  | nil => exact fun h => h
  | cons r rs ih =>
    intro ys h
    exact ih (fun y hy => hr y (List.mem_cons_of_mem _ hy)) (mem_storedH h (hr r List.mem_cons_self))
theorem storedAll_len (rs : List (Spot × Addr × Value)) : ∀ ys : List (Spot × Addr × Value), (storedAllH ys rs).length ≤ ys.length + rs.length := by
  induction rs with
  | nil => exact fun ys => Nat.le_refl _
  | cons r rs ih =>
    intro ys
    have h1 := ih (storedH ys r.1 r.2.1 r.2.2)
    have h2 := storedH_length ys r.1 r.2.1 r.2.2
    show (storedAllH (storedH ys r.1 r.2.1 r.2.2) rs).length ≤ _
    rw [List.length_cons]
    omega
section
variable {X : Cx}
/-- a new dict at the next free place -/
theorem dn_new {pins : List (Addr × Obj)} {σ : L2.St} {H : Hp} {s : Shared} {h' : Heap} {tk : Nat} {zs : List (Spot × Addr × Value)} {kvs : List (Spot × V)} (I : Inv X pins σ H s) (hk : ∀ b o, s.heap.get? b = some o → h'.get? b = some o) (hz : zs.length ≤ sizeLine)
    (dd : h'.DictOfH (spotKind X.prog X.w) s.heap.objs.size zs) (kk : ∀ y ∈ zs, IsSp H (.ref y.2.1) y.1) (kv : KV kvs (pairsH zs)) :
    ∃ H', Inv X pins σ H' { s with heap := h', toks := tk } ∧ H s.heap.objs.size = none ∧ Same H H' ∧ DN X.prog X.w H' s.heap.objs.size kvs := by
  have hn : H s.heap.objs.size = none := I.hok.fresh (Nat.le_refl _)
  obtain ⟨o, es, ep, e1, e2, e3, e4, e5, e6⟩ := dd
  exact ⟨upd H s.heap.objs.size (dOb X.prog X.w s.heap.objs.size zs), I.laid (t' := tk) hk (Nat.le_refl _) (dOb_ok ⟨beq_eq_false_iff_ne.mpr (Ne.symm (Nat.ne_of_lt I.big)), hz, e6, o, es, ep, e1, e2, e3, e4⟩), hn, same_new hn,
    ⟨zs, upd_same, fun y hy => (kk y hy).mono (tk_new hn), kv⟩⟩
/-- the list at a holds pairs (key, value) -/
def PrL (H : Hp) (a : Addr) (kvs : List (Spot × V)) : Prop := ∃ ps : List Addr, H a = some (.lst (ps.map V.ref)) ∧ Paired (fun p (kv : Spot × V) => ∃ k, H p = some (.tup [k, kv.2]) ∧ IsSp H k kv.1) ps kvs
/-- dict(xs) of a list of pairs -/
def rDictPr (P : Program) (w : World) : List V → Hp → VK → Prop := fun xs H Q => ∃ (a : Addr) (kvs : List (Spot × V)), xs = [.ref a] ∧ PrL H a kvs ∧ ∀ p H', H p = none → Same H H' → DN P w H' p (mergeS [] kvs) → Q (.ref p) H'
theorem pr_values {pins : List (Addr × Obj)} {σ : L2.St} {H : Hp} {s : Shared} (I : Inv X pins σ H s) : ∀ {ps : List Addr} {kvs : List (Spot × V)}, Paired (fun p (kv : Spot × V) => ∃ k, H p = some (.tup [k, kv.2]) ∧ IsSp H k kv.1) ps kvs →
    ∃ rs : List (Spot × Addr × Value), KV kvs (pairsH rs) ∧ rs.length = ps.length ∧ (∀ y ∈ rs, IsSp H (.ref y.2.1) y.1) ∧ ∀ (j : Nat) (y : Spot × Addr × Value), rs[j]? = some y → ∃ b, ps[j]? = some b ∧ IsTup s.heap b #[.ref y.2.1, y.2.2]
  | _, _, .nil => ⟨[], .nil, rfl, (fun _ h => nomatch h), fun j y e => by simp at e⟩
  | _, _, .cons (a := p) (b := kv) h t => by
    obtain ⟨rs, q1, q2, q3, q4⟩ := pr_values I t
    obtain ⟨k, e, hk⟩ := h
    obtain ⟨a, _, ek, _⟩ := id hk
    subst ek
    obtain ⟨_, its, rv, ht⟩ := (show ObjOk X.prog X.w H s.heap p _ from I.hok p _ e)
    obtain ⟨u1, u2, ei, r1, r2⟩ := vals2 rv
    subst ei
    cases r1
    refine ⟨(kv.1, a, u2) :: rs, .cons ⟨rfl, r2⟩ q1, by rw [List.length_cons, List.length_cons, q2], fun y hy => ?_, fun j y ej => ?_⟩
    · rcases List.mem_cons.mp hy with ey | hy
      · rw [ey]; exact hk
      · exact q3 y hy
    · cases j with
      | zero =>
        cases Option.some.inj (show some (kv.1, a, u2) = some y from ej)
        exact ⟨p, rfl, ht⟩
      | succ j =>
        obtain ⟨b, e1, e2⟩ := q4 j y (by simpa using ej)
        exact ⟨b, by simpa using e1, e2⟩
theorem cr_dictPr (hc : X.calm = true) (hu : X.A.units + 64 < cLine) : CallR X (.type "dict") (rDictPr X.prog X.w) := by
  intro pins s σ H xs us Q I r h
  obtain ⟨a, kvs, rfl, ⟨ps, e, hp⟩, q⟩ := h
  obtain ⟨u, eu, rx⟩ := vals1 r
  subst eu
  cases rx
  obtain ⟨rs, kv, hl, kk, hat⟩ := pr_values I hp
  obtain ⟨z, its, n, rv, ho⟩ := I.hok a _ e
  have ei := refs_at rv
  subst ei
  rw [List.length_map] at z
  have items : ∀ (j : Nat) (k v : Value), (rs.map fun y => (Value.ref y.2.1, y.2.2))[j]? = some (k, v) → ∃ y, rs[j]? = some y ∧ k = .ref y.2.1 ∧ v = y.2.2 := fun j k v ej => by
    rw [List.getElem?_map] at ej
    obtain ⟨y, ey, e2⟩ := Option.map_eq_some_iff.mp ej
    cases e2
    exact ⟨y, ey, rfl, rfl⟩
  refine PySem.call_dict_pairsH (knd := spotKind X.prog X.w) (ps := rs) (PairArg.list a (ps.map Value.ref).toArray (fun j => ps.getD j 0) (rs.map fun y => (Value.ref y.2.1, y.2.2))) (I.ok.hd hc) (by show X.A.units + 1 + 1 + 8 < cLine; omega) ⟨⟨_, n, ho, rfl, rfl, rfl⟩, ?_⟩ ⟨by rw [List.length_map], fun i key v hr => ?_⟩ (fun h' hk x hx => ?_) (by rw [List.length_map, hl]; exact z) fun h' tk dd hk => ?_
  · refine ⟨by simp [hl], fun j k v ej => ?_⟩
    obtain ⟨y, ey, rfl, rfl⟩ := items j k v ej
    obtain ⟨b, e1, e2⟩ := hat j y ey
    obtain ⟨o, g1, g2, n2, g3⟩ := e2
    refine ⟨by simp [e1], ?_⟩
    simp only [List.getD_eq_getElem?_getD, e1, Option.getD_some]
    exact .inl ⟨o, g1, g2, n2, g3⟩
  · obtain ⟨y, ey, e1, e2⟩ := items i key v hr
    exact ⟨y.1, y.2.1, by rw [ey, e2], e1⟩
  · refine spotKind_stays.stays (fun b o vs m e1 e2 => ?_) ((kk x hx).key I.hok)
    exact hk b o (Nat.ne_of_lt (Heap.lt_size e1)) (by simp) e1
  · have hz : (storedAllH [] rs).length ≤ sizeLine := by
      have := storedAll_len rs []
      rw [List.length_nil] at this
      omega
    obtain ⟨H', I2, hn, sm, dn⟩ := dn_new (tk := tk) I (fun b o e => hk b o (by simp) e) hz dd (mem_storedAll (G := fun k a => IsSp H (.ref a) k) kk (fun _ h => nomatch h)) (kv_merge kv .nil)
    exact ⟨.ref _, H', I2, rfl, q _ H' hn sm dn⟩
/-- dict(d): a copy -/
def rDictCp (P : Program) (w : World) : List V → Hp → VK → Prop := fun xs H Q => ∃ (d : Addr) (kvs : List (Spot × V)), xs = [.ref d] ∧ DN P w H d kvs ∧ (kvs.map fun kv => (spotKind P w).hash kv.1).Nodup ∧ ∀ p H', H p = none → Same H H' → DN P w H' p kvs → Q (.ref p) H'
theorem cr_dictCp (hu : X.A.units + 64 < cLine) : CallR X (.type "dict") (rDictCp X.prog X.w) := by
  intro pins s σ H xs us Q I r h
  obtain ⟨d, kvs, rfl, dn, hnd, q⟩ := h
  obtain ⟨u, eu, rx⟩ := vals1 r
  subst eu
  cases rx
  obtain ⟨ys, hd, hz, dd, kv, kk, _⟩ := dn.of I.hok
  have hap : (ys.map fun y => (spotKind X.prog X.w).hash y.1).Nodup := by
    have e : (kvs.map fun kv => (spotKind X.prog X.w).hash kv.1) = ys.map fun y => (spotKind X.prog X.w).hash y.1 := by
      have h1 : kvs.map (·.1) = ys.map (·.1) := kv.keys.trans (pairsH_keys (V' := Unit) ys)
      have h2 := congrArg (List.map fun k => (spotKind X.prog X.w).hash k) h1
      rw [List.map_map, List.map_map] at h2
      exact h2
    rw [← e]
    exact hnd
  have hnd2 := dd.nodup
  refine callType_codes (Q₁ := fun obj s1 => obj = .ref s.heap.objs.size ∧ s1 = { s with heap := s.heap.push { cls := .type "dict", data := .dict #[] } }) F.kt_called_dict (F.kt_typeCall_dict_1 _) F.entry_dict_init (kt_code_dict_new _ ⟨rfl, rfl⟩) ?_
  rintro obj s1 ⟨rfl, rfl⟩
  have hnew : (s.heap.push { cls := .type "dict", data := .dict #[] }).DictOfH (spotKind X.prog X.w) s.heap.objs.size [] := Heap.DictOfH.new s.heap
  have ho : (s.heap.push { cls := .type "dict", data := .dict #[] }).DictOfH (spotKind X.prog X.w) d ys := dd.at' (fun o e => Heap.get?_push_of_some _ e) fun y hy => spotKind_stays.stays (fun b o vs m e1 _ => Heap.get?_push_of_some _ e1) ((kk y hy).key I.hok)
  have hdo : s.heap.objs.size ≠ d := by
    obtain ⟨_, _, _, hg, _⟩ := dd
    exact fun e => absurd (Heap.lt_size hg) (by rw [e]; exact Nat.lt_irrefl _)
  refine ⟨hnew.typeIs, F.args_dict_init_2 _ _, ?_⟩
  unfold Builtin.«dict.__init__»
  refine wpAny_bind ?_
  unfold Builtin.Dict.selfAndRest
  refine wpAny_bind (wpAny_notOrdered_dict hnew.typeIs ?_)
  show wpAny _ _ (pure (s.heap.objs.size, [Value.ref d])) _ _ _
  refine wpAny_pure ?_
  show wpAny _ _ (Builtin.Dict.updateFrom "dict.__init__" s.heap.objs.size (.ref d) [] .none) _ _ _
  refine updateFrom_dictH (A := X.A.in1) (knd := spotKind X.prog X.w) .none (by show X.A.units + 1 + 1 + 8 < cLine; omega) hdo hd hnew ho (.inr ⟨fun y hy => (spotKind_stays (P := X.prog) (w := X.w)).tuple (s := { s with heap := s.heap.push { cls := .type "dict", data := .dict #[] } }) (spotKind_stays.stays (fun b o vs m e1 _ => Heap.get?_push_of_some _ e1) ((kk y hy).key I.hok)), hap⟩) (by simpa using hz) fun h' dd' _ hs => ?_
  rw [storedAllH_nil_of_nodup ys hnd2] at dd'
  obtain ⟨H', I2, hn, sm, dn'⟩ := dn_new (tk := s.toks) I (fun b o e => (hs.2 b (Nat.ne_of_lt (Heap.lt_size e))).trans (Heap.get?_push_of_some _ e)) hz dd' kk kv
  exact ⟨rfl, .ref _, H', I2, rfl, q _ H' hn sm dn'⟩
/-- list(d.values()) -/
def tNVals (P : Program) (w : World) (te : TE) : TE := fun σ H Q => te σ H fun x H1 => ∃ (d : Addr) (kvs : List (Spot × V)), x = .ref d ∧ DN P w H1 d kvs ∧ ∀ p H', H1 p = none → Same H1 H' → H' p = some (.lst (kvs.map (·.2))) → Q (.ref p) H'
theorem pe_nvals {e : Expr} {te : TE} {p apos cpos pos : Pos} (hc : X.calm = true) (he : PE X e te) (hg : Gl X "list") (hm : X.mg "list" = none) (hv : bootBuiltins "list" = some (.type "list")) (hbase : attributeBase e "values" X.env (eval e X.env) = eval e X.env := by rfl) (hline : (apos.endLine == cpos.line) = true := by rfl)
    (hs : starEach [.Call (.Attribute e "values" apos) [] [] cpos] X.env = (false, eval (.Call (.Attribute e "values" apos) [] [] cpos) X.env) :: starEach [] X.env := by rfl) :
    PE X (.Call (.Name "list" p) [.Call (.Attribute e "values" apos) [] [] cpos] [] pos) (tNVals X.prog X.w te) := by
  refine ⟨fun pins s σ H Q I hq => ?_⟩
  refine wpAny_Call_Name_kw (ld_blt I hg hm hv ?_)
  refine PyProof.Rows.callWith_type1 ?_ hs rfl
  rw [hs]
  show wpAny _ _ (spliced ((false, eval (.Call (.Attribute e "values" apos) [] [] cpos) X.env) :: backTo pos (starEach [] X.env))) _ _ s
  refine Calls.spliced_cons ?_
  refine wpAny_Call_method (T := "dict") (id := "dict.values") hbase rfl hline F.plainAttrs_dict F.slot_dict_values F.type_dict_values (thn (he.run pins s σ H _ I hq) fun u s1 ⟨x, H1, I1, rx, d, kvs, ex, dn, q⟩ => ?_)
  subst ex
  obtain rfl : u = Value.ref d := rx
  obtain ⟨t1, t2⟩ := dn_type I1 dn
  obtain ⟨ys, hd, hz, dd, kv, kk, _⟩ := dn.of I1.hok
  obtain ⟨es, ep, hr, hsz, hen⟩ := dd.raw
  have I2 : Inv X pins σ H1 { s1 with heap := s1.heap.push { cls := .type "dict_values", data := .fields #[.ref d] } } := I1.kept (t' := s1.toks) fun b ob q => Heap.get?_push_of_some _ q
  refine ⟨t1, t2, ?_⟩
  show wpAny _ _ (callWith cpos (.builtin "dict.values") [.ref d] [] []) _ X.xe s1
  refine method_meetsIn F.slot_dict_values F.entry_dict_values rfl (PySem.evalArgs_none ⟨rfl, t1, F.args_dict_values_1 _, _, meets_dict_values_raw d hd, ⟨es, ep, hr⟩, ?_⟩)
  refine Calls.spliced_nil ?_
  refine PySem.W.kdl_call (KdlSrc.rawValues) (I1.ok.hd hc) ⟨⟨_, Heap.get?_push_size _ rfl, rfl, rfl⟩, hr.push _⟩ (by rw [hsz]; exact hz) fun h' tk acc c hk hS hacc => ?_
  have hlk : kvs.length = ys.length := by rw [kv.length, pairsH_length]
  have hva : Vals (kvs.map (·.2)) acc.toList := by
    have hl : acc.toList.length = kvs.length := by rw [Array.length_toList, hacc.1, hsz, hlk]
    have each : ∀ (l : List Value) (zs : List (Spot × V)), l.length = zs.length → (∀ (j : Nat) (v : Value), l[j]? = some v → ∃ z : Spot × V, zs[j]? = some z ∧ RelV z.2 v) → Vals (zs.map (·.2)) l := by
      intro l
      induction l with
      | nil => intro zs hl _; cases zs with
        | nil => exact .nil
        | cons _ _ => cases hl
      | cons v l ih => intro zs hl hj; cases zs with
        | nil => cases hl
        | cons z zs =>
          obtain ⟨y, e1, e2⟩ := hj 0 v rfl
          cases Option.some.inj (show some z = some y from e1)
          exact .cons e2 (ih zs (Nat.succ.inj hl) fun j v' e => hj (j + 1) v' (by simpa using e))
    refine each _ _ hl fun j v ej => ?_
    obtain ⟨hj, ev⟩ := hacc.2 j v (by rw [← Array.getElem?_toList]; exact ej)
    obtain ⟨y, e1, _, e3, _⟩ := hen j hj
    have e4 : (pairsH ys)[j]? = some (y.1, y.2.2) := by unfold pairsH; rw [List.getElem?_map, e1]; rfl
    obtain ⟨z, z1, z2⟩ := prAt2 kv e4
    exact ⟨z, z1, by rw [ev, e3]; exact z2.2⟩
  have hn : H1 (s1.heap.push { cls := .type "dict_values", data := .fields #[.ref d] }).objs.size = none := I2.hok.fresh (Nat.le_refl _)
  exact ⟨.ref _, _, I2.laid (o := .lst (kvs.map (·.2))) (t' := tk) hk (Nat.le_refl _) ⟨by rw [List.length_map, hlk]; exact hz, acc.toList, c, hva, by rw [Array.toArray_toList]; exact hS⟩, rfl, q _ _ hn (same_new hn) upd_same⟩
end
end SL
end PtK2d
/-! part K2e -/
section PtK2e
/-! K2e: zip of a list and two tuples; zip of a tuple and a list. -/
namespace SL
open PySem PySem.Spec PyProof.Rows L2
theorem off_lt {n k : Nat} {a : Addr} (h : a < n) : a ≠ n + k := fun e => absurd h (by rw [e]; exact Nat.not_lt.mpr (Nat.le_add_right n k))
theorem off_ne (n : Nat) {j k : Nat} (h : j ≠ k) : (n + j : Nat) ≠ n + k := fun e => h (Nat.add_left_cancel e)
/-! ### for a, b, c in zip(list, tuple, tuple) -/
def Itz3 (K : PySem.W.Frag) (a b c : Addr) : It :=
  ⟨fun i H => ∃ (xs ys zs : List V), SqL K H a xs ∧ SqT K H b ys ∧ SqT K H c zs ∧ i < xs.length ∧ ys.length = xs.length ∧ zs.length = xs.length,
    fun i H v H' => ∃ T x y z, v = .ref T ∧ H T = none ∧ H' = upd H T (.tup [x, y, z]) ∧ (∀ xs, SqL K H a xs → xs[i]? = some x) ∧ (∀ ys, SqT K H b ys → ys[i]? = some y) ∧ ∀ zs, SqT K H c zs → zs[i]? = some z,
    fun i H => ∃ (xs ys zs : List V), SqL K H a xs ∧ SqT K H b ys ∧ SqT K H c zs ∧ xs.length = i ∧ ys.length = xs.length ∧ zs.length = xs.length⟩
def Z3 (z TI TO i1 i2 i3 a b c : Addr) (i : Nat) (h : Heap) : Prop := IsZip h z TI TO .none ∧ IsTupOf3 h TI (.ref i1) (.ref i2) (.ref i3) ∧ (∃ a1 a2 a3, IsTupOf3 h TO a1 a2 a3) ∧ h.IsListIter i1 a i ∧ h.IsTupleIter i2 b i ∧ h.IsTupleIter i3 c i
theorem turn_zip3 {P : Program} {w : World} {K : PySem.W.Frag} {elts : List Expr} {kk : Nat} {tpos : Pos} {z TI TO i1 i2 i3 a b c : Addr} (S : ZipSep3 z TI TO i1 i2 i3 [i1, a] [i2, b] [i3, c]) (na : a ≠ i1) (nb : b ≠ i2) (nc : c ≠ i3) :
    Turn P w K (.Tuple elts kk tpos) (Itz3 K a b c) [z, TI, TO, i1, i2, i3] z (Z3 z TI TO i1 i2 i3 a b c) where
  mem := by simp
  obj := fun i h st d hd => by
    obtain ⟨h1, h2, ⟨_, _, _, h3⟩, ⟨o4, e4, _, d4⟩, ⟨o5, e5, _, d5⟩, ⟨o6, e6, _, d6⟩⟩ := st
    have q : d = z ∨ d = TI ∨ d = TO ∨ d = i1 ∨ d = i2 ∨ d = i3 := by simpa using hd
    rcases q with q | q | q | q | q | q
    · rw [q]; exact ⟨_, h1, fun v q => nomatch q⟩
    · rw [q]; exact ⟨_, h2, fun v q => nomatch q⟩
    · rw [q]; exact ⟨_, h3, fun v q => nomatch q⟩
    · rw [q]; exact ⟨o4, e4, fun v q => by rw [d4] at q; cases q⟩
    · rw [q]; exact ⟨o5, e5, fun v q => by rw [d5] at q; cases q⟩
    · rw [q]; exact ⟨o6, e6, fun v q => by rw [d6] at q; cases q⟩
  keep := fun i h h' st k => by
    obtain ⟨h1, h2, ⟨a1, a2, a3, h3⟩, h4, h5, h6⟩ := st
    exact ⟨k z (by simp) _ h1, k TI (by simp) _ h2, ⟨a1, a2, a3, k TO (by simp) _ h3⟩, h4.at fun o q => k i1 (by simp) o q, h5.at fun o q => k i2 (by simp) o q, h6.at fun o q => k i3 (by simp) o q⟩
  item := by
    intro X hP hw hK hc i pins s σ H E I hf st hg
    subst hP hw hK
    obtain ⟨xs, ys, zs, hx, hy, hz, hi, ey, ez⟩ := hg
    obtain ⟨its, rv, p, _⟩ := I.list hx
    obtain ⟨its2, rv2, p2, _⟩ := I.tuple hy
    obtain ⟨its3, rv3, p3, _⟩ := I.tuple hz
    have l1 := rv.length
    have l2 := rv2.length
    have l3 := rv3.length
    obtain ⟨h1, h2, h3, h4, h5, h6⟩ := st
    have hd : X.A.in1.handled = none := I.ok.hd hc
    have W := GoesN.zip3 (elts := elts) (x1 := kk) (pos := tpos) (A := X.A) (prog := X.prog) (w := X.w) S (Draws.list hd i1 a na its.toArray) (Draws.tuple hd i2 b nb its2.toArray) (Draws.tuple hd i3 c nc its3.toArray)
    refine W.goes i s _ E (by simp only [List.size_toArray]; omega) ⟨h1, h2, h3, ⟨h4, p.isList⟩, ⟨h5, p2⟩, ⟨h6, p3⟩⟩ fun v h' tk hY st' hk htk => ?_
    obtain ⟨T, x, y, u, rfl, hT, q1, q2, q3, hTu⟩ := hY
    obtain ⟨g1, g2, g3, ⟨g4, _⟩, ⟨g5, _⟩, ⟨g6, _⟩⟩ := st'
    have hxi := List.getElem?_eq_getElem hi
    have hyi := List.getElem?_eq_getElem (show i < ys.length by omega)
    have hzi := List.getElem?_eq_getElem (show i < zs.length by omega)
    obtain ⟨u1, hu1, r1⟩ := rv.get hxi
    obtain ⟨u2, hu2, r2⟩ := rv2.get hyi
    obtain ⟨u3, hu3, r3⟩ := rv3.get hzi
    have e1 : x = u1 := by
      have q1' : its[i]? = some x := by simpa using q1
      exact Option.some.inj (q1'.symm.trans hu1)
    have e2 : y = u2 := by
      have q2' : its2[i]? = some y := by simpa using q2
      exact Option.some.inj (q2'.symm.trans hu2)
    have e3 : u = u3 := by
      have q3' : its3[i]? = some u := by simpa using q3
      exact Option.some.inj (q3'.symm.trans hu3)
    subst e1 e2 e3
    have hn : H T = none := I.hok.fresh hT
    have ch : ∀ d ∈ [z, TO, i1, i2, i3], FpOk X pins H d := fun d hd => hf d (by
      have q : d = z ∨ d = TO ∨ d = i1 ∨ d = i2 ∨ d = i3 := by simpa using hd
      rcases q with q | q | q | q | q <;> simp [q])
    have new : ObjOk X.prog X.w (upd H T (.tup [xs[i], ys[i], zs[i]])) h' T (.tup [xs[i], ys[i], zs[i]]) := ⟨by show 3 ≤ sizeLine; decide, [x, y, u], .cons r1 (.cons r2 (.cons r3 .nil)), hTu⟩
    refine ⟨.ref T, upd H T (.tup [xs[i], ys[i], zs[i]]), I.turnedNew (t' := tk) hk ch hT new, rfl, ⟨T, _, _, _, rfl, hn, rfl, fun l hl => by rw [I.list_inj hl hx]; exact hxi, fun l hl => by rw [I.tuple_inj hl hy]; exact hyi, fun l hl => by rw [I.tuple_inj hl hz]; exact hzi⟩, ⟨g1, g2, g3, g4, g5, g6⟩, fun d hdm => ?_⟩
    obtain ⟨o, eo, _⟩ : ∃ o, s.heap.get? d = some o ∧ True := by
      obtain ⟨a1, a2, a3, h3⟩ := h3
      obtain ⟨o4, e4, _⟩ := h4
      obtain ⟨o5, e5, _⟩ := h5
      obtain ⟨o6, e6, _⟩ := h6
      have q : d = z ∨ d = TI ∨ d = TO ∨ d = i1 ∨ d = i2 ∨ d = i3 := by simpa using hdm
      rcases q with q | q | q | q | q | q
      · rw [q]; exact ⟨_, h1, trivial⟩
      · rw [q]; exact ⟨_, h2, trivial⟩
      · rw [q]; exact ⟨_, h3, trivial⟩
      · rw [q]; exact ⟨_, e4, trivial⟩
      · rw [q]; exact ⟨_, e5, trivial⟩
      · rw [q]; exact ⟨_, e6, trivial⟩
    rw [upd_ne (Nat.ne_of_lt (Nat.lt_of_lt_of_le (Heap.lt_size eo) hT))]
    exact (hf d hdm).1
  done := by
    intro X hP hw hK hc i pins s σ H E I hf st hg
    subst hP hw hK
    obtain ⟨xs, ys, zs, hx, hy, hz, hi, ey, ez⟩ := hg
    obtain ⟨its, rv, p, _⟩ := I.list hx
    obtain ⟨its2, rv2, p2, _⟩ := I.tuple hy
    obtain ⟨its3, rv3, p3, _⟩ := I.tuple hz
    have l1 := rv.length
    have l2 := rv2.length
    have l3 := rv3.length
    obtain ⟨h1, h2, h3, h4, h5, h6⟩ := st
    have hd : X.A.in1.handled = none := I.ok.hd hc
    have W := GoesN.zip3 (elts := elts) (x1 := kk) (pos := tpos) (A := X.A) (prog := X.prog) (w := X.w) S (Draws.list hd i1 a na its.toArray) (Draws.tuple hd i2 b nb its2.toArray) (Draws.tuple hd i3 c nc its3.toArray)
    have en : min (min its.toArray.size its2.toArray.size) its3.toArray.size = i := by simp only [List.size_toArray]; omega
    rw [en] at W
    refine W.stops s _ E ⟨h1, h2, h3, ⟨h4, p.isList⟩, ⟨h5, p2⟩, ⟨h6, p3⟩⟩ fun h' tk hk _ => ?_
    exact I.turnedL (t' := tk) hk fun d hd => hf d (by
      have q : d = z ∨ d = TO ∨ d = i1 ∨ d = i2 ∨ d = i3 := by simpa using hd
      rcases q with q | q | q | q | q <;> simp [q])
  self := fun A i s Q E st h => wpAny_pyIter_zip st.1 h
def iZip3 (K : PySem.W.Frag) (ta : TA) : TI := fun σ H R => ta σ H fun vs H1 => ∃ a b c xs ys zs, vs = [.ref a, .ref b, .ref c] ∧ SqL K H1 a xs ∧ SqT K H1 b ys ∧ SqT K H1 c zs ∧ R (Itz3 K a b c) H1
theorem vals3 {x y z : V} {us : List Value} (h : Vals [x, y, z] us) : ∃ u v w, us = [u, v, w] ∧ RelV x u ∧ RelV y v ∧ RelV z w := by
  cases h with
  | cons r t =>
    obtain ⟨v, w, rfl, r2, r3⟩ := vals2 t
    exact ⟨_, v, w, rfl, r, r2, r3⟩
theorem pi_zip3 {X : Cx} {e e2 e3 : Expr} {ta : TA} {p pos tpos : Pos} {elts : List Expr} {kk : Nat} (hg : Gl X "zip") (hm : X.mg "zip" = none) (ha : PA X [e, e2, e3] ta)
    (hs : starEach [e, e2, e3] X.env = (false, eval e X.env) :: starEach [e2, e3] X.env := by rfl) (hpl : (backTo pos (starEach [e2, e3] X.env)).any (·.1) = false := by rfl) :
    PI X (.Tuple elts kk tpos) (.Call (.Name "zip" p) [e, e2, e3] [] pos) (iZip3 X.K ta) := by
  refine ⟨fun pins s σ H R I h => ?_⟩
  refine Call_ (ld_blt I hg hm PyProof.Rows.boot_zip (PyProof.Rows.callWith_type1 (thn (ha.run pos pins s σ H _ I h) fun us s1 ⟨vs, H1, I1, r1, q1⟩ => ?_) hs hpl))
  obtain ⟨a, b, c, xs, ys, zs, ex, hx, hy, hz, q⟩ := q1
  subst ex
  obtain ⟨u1, u2, u3, rfl, r, r', r''⟩ := vals3 r1
  cases r
  cases r'
  cases r''
  obtain ⟨its, rv, p1, _⟩ := I1.list hx
  obtain ⟨its2, rv2, p2, _⟩ := I1.tuple hy
  obtain ⟨its3, rv3, p3, _⟩ := I1.tuple hz
  have la : a < s1.heap.objs.size := p1.lt
  have lb : b < s1.heap.objs.size := p2.lt
  have lc : c < s1.heap.objs.size := p3.lt
  refine zip_begins3 (begins_list a its.toArray) (begins_tuple b its2.toArray) (begins_tuple c its3.toArray) p1.isList p2 p3 fun h' g1 g2 g3 g4 g5 g6 hsz hk => wpAny_pyIter_zip g1 ?_
  have I2 : Inv X pins σ H1 { s1 with heap := h' } := I1.kept (t' := s1.toks) hk
  generalize hn : s1.heap.objs.size = n at *
  have z0 : (n : Nat) = n + 0 := rfl
  have S : ZipSep3 (n + 5) (n + 3) (n + 4) n (n + 1) (n + 2) [n, a] [n + 1, b] [n + 2, c] := by
    have d : ∀ {j k : Nat}, j ≠ k → (n + j : Nat) ≠ n + k := fun h => off_ne n h
    have d0 : ∀ {k : Nat}, k ≠ 0 → (n + k : Nat) ≠ n := fun h e => h (Nat.add_left_cancel (show n + _ = n + 0 from e))
    have d0' : ∀ {k : Nat}, k ≠ 0 → (n : Nat) ≠ n + k := fun h e => d0 h e.symm
    have oa : ∀ {k : Nat}, (n + k : Nat) ≠ a := fun e => off_lt la e.symm
    have ob : ∀ {k : Nat}, (n + k : Nat) ≠ b := fun e => off_lt lb e.symm
    have oc : ∀ {k : Nat}, (n + k : Nat) ≠ c := fun e => off_lt lc e.symm
    have oa0 : (n : Nat) ≠ a := fun e => off_lt (k := 0) la e.symm
    have ob0 : (n : Nat) ≠ b := fun e => off_lt (k := 0) lb e.symm
    have oc0 : (n : Nat) ≠ c := fun e => off_lt (k := 0) lc e.symm
    have two : ∀ {x y u : Addr}, x ≠ y → x ≠ u → x ∉ [y, u] := fun h1 h2 h => by
      rcases List.mem_cons.mp h with e | h
      · exact h1 e
      · exact h2 (List.mem_singleton.mp h)
    exact ⟨d (by decide), d (by decide), d (by decide), d0 (by decide), List.mem_cons_self, two (d0 (by decide)) oa, two (d0 (by decide)) oa, d (by decide), List.mem_cons_self, two (d (by decide)) ob, two (d (by decide)) ob, d (by decide), List.mem_cons_self, two (d (by decide)) oc, two (d (by decide)) oc,
      two (d0' (by decide)) ob0, two (d0' (by decide)) oc0, two (d0 (by decide)) oa, two (d (by decide)) oc, two (d0 (by decide)) oa, two (d (by decide)) ob⟩
  refine ⟨n + 5, [n + 5, n + 3, n + 4, n, n + 1, n + 2], _, _, H1, rfl, I2, turn_zip3 S (Nat.ne_of_lt la) (off_lt lb) (off_lt lc), ⟨g1, g2, ⟨_, _, _, g3⟩, ⟨_, g4, rfl, rfl⟩, ⟨_, g5, rfl, rfl⟩, ⟨_, g6, rfl, rfl⟩⟩, fun d hd => ?_, q⟩
  have e' : d = n + 5 ∨ d = n + 3 ∨ d = n + 4 ∨ d = n ∨ d = n + 1 ∨ d = n + 2 := by simpa using hd
  have hle : n ≤ d := by
    rcases e' with z | z | z | z | z | z
    · rw [z]; exact Nat.le_add_right _ _
    · rw [z]; exact Nat.le_add_right _ _
    · rw [z]; exact Nat.le_add_right _ _
    · rw [z]; exact Nat.le_refl _
    · rw [z]; exact Nat.le_add_right _ _
    · rw [z]; exact Nat.le_add_right _ _
  have hle2 : s1.heap.objs.size ≤ d := by rw [hn]; exact hle
  exact I1.fpOk hle2 (I1.hok.fresh hle2)
end SL
end PtK2e
/-! part K2f -/
section PtK2f
/-! K2f: zip of a tuple and a list; walks over both zips; a module's int. -/
namespace SL
open PySem PySem.Spec PyProof.Rows L2
/-! ### for a, b in zip(tuple, list) -/
def Itz2 (K : PySem.W.Frag) (a b : Addr) : It :=
  ⟨fun i H => ∃ (xs ys : List V), SqT K H a xs ∧ SqL K H b ys ∧ i < xs.length ∧ ys.length = xs.length,
    fun i H v H' => ∃ T x y, v = .ref T ∧ H T = none ∧ H' = upd H T (.tup [x, y]) ∧ (∀ xs, SqT K H a xs → xs[i]? = some x) ∧ (∀ ys, SqL K H b ys → ys[i]? = some y),
    fun i H => ∃ (xs ys : List V), SqT K H a xs ∧ SqL K H b ys ∧ xs.length = i ∧ ys.length = xs.length⟩
def Z2 (z TI TO i1 i2 a b : Addr) (i : Nat) (h : Heap) : Prop := IsZip h z TI TO .none ∧ IsTupOf2 h TI (.ref i1) (.ref i2) ∧ (∃ a1 a2, IsTupOf2 h TO a1 a2) ∧ h.IsTupleIter i1 a i ∧ h.IsListIter i2 b i
theorem turn_zip2 {P : Program} {w : World} {K : PySem.W.Frag} {elts : List Expr} {kk : Nat} {tpos : Pos} {z TI TO i1 i2 a b : Addr} (S : ZipSep2 z TI TO i1 i2 [i1, a] [i2, b]) (na : a ≠ i1) (nb : b ≠ i2) :
    Turn P w K (.Tuple elts kk tpos) (Itz2 K a b) [z, TI, TO, i1, i2] z (Z2 z TI TO i1 i2 a b) where
  mem := by simp
  obj := fun i h st d hd => by
    obtain ⟨h1, h2, ⟨_, _, h3⟩, ⟨o4, e4, _, d4⟩, ⟨o5, e5, _, d5⟩⟩ := st
    have q : d = z ∨ d = TI ∨ d = TO ∨ d = i1 ∨ d = i2 := by simpa using hd
    rcases q with q | q | q | q | q
    · rw [q]; exact ⟨_, h1, fun v q => nomatch q⟩
    · rw [q]; exact ⟨_, h2, fun v q => nomatch q⟩
    · rw [q]; exact ⟨_, h3, fun v q => nomatch q⟩
    · rw [q]; exact ⟨o4, e4, fun v q => by rw [d4] at q; cases q⟩
    · rw [q]; exact ⟨o5, e5, fun v q => by rw [d5] at q; cases q⟩
  keep := fun i h h' st k => by
    obtain ⟨h1, h2, ⟨a1, a2, h3⟩, h4, h5⟩ := st
    exact ⟨k z (by simp) _ h1, k TI (by simp) _ h2, ⟨a1, a2, k TO (by simp) _ h3⟩, h4.at fun o q => k i1 (by simp) o q, h5.at fun o q => k i2 (by simp) o q⟩
  item := by
    intro X hP hw hK hc i pins s σ H E I hf st hg
    subst hP hw hK
    obtain ⟨xs, ys, hx, hy, hi, ey⟩ := hg
    obtain ⟨its, rv, p, _⟩ := I.tuple hx
    obtain ⟨its2, rv2, p2, _⟩ := I.list hy
    have l1 := rv.length
    have l2 := rv2.length
    obtain ⟨h1, h2, h3, h4, h5⟩ := st
    have hd : X.A.in1.handled = none := I.ok.hd hc
    have W := GoesN.zip2 (elts := elts) (x1 := kk) (pos := tpos) (A := X.A) (prog := X.prog) (w := X.w) S (Draws.tuple hd i1 a na its.toArray) (Draws.list hd i2 b nb its2.toArray)
    refine W.goes i s _ E (by simp only [List.size_toArray]; omega) ⟨h1, h2, h3, ⟨h4, p⟩, ⟨h5, p2.isList⟩⟩ fun v h' tk hY st' hk htk => ?_
    obtain ⟨T, x, y, rfl, hT, q1, q2, hTu⟩ := hY
    obtain ⟨g1, g2, g3, ⟨g4, _⟩, ⟨g5, _⟩⟩ := st'
    have hxi := List.getElem?_eq_getElem hi
    have hyi := List.getElem?_eq_getElem (show i < ys.length by omega)
    obtain ⟨u1, hu1, r1⟩ := rv.get hxi
    obtain ⟨u2, hu2, r2⟩ := rv2.get hyi
    have e1 : x = u1 := by
      have q1' : its[i]? = some x := by simpa using q1
      exact Option.some.inj (q1'.symm.trans hu1)
    have e2 : y = u2 := by
      have q2' : its2[i]? = some y := by simpa using q2
      exact Option.some.inj (q2'.symm.trans hu2)
    subst e1 e2
    have hn : H T = none := I.hok.fresh hT
    have ch : ∀ d ∈ [z, TO, i1, i2], FpOk X pins H d := fun d hd => hf d (by
      have q : d = z ∨ d = TO ∨ d = i1 ∨ d = i2 := by simpa using hd
      rcases q with q | q | q | q <;> simp [q])
    have new : ObjOk X.prog X.w (upd H T (.tup [xs[i], ys[i]])) h' T (.tup [xs[i], ys[i]]) := ⟨by show 2 ≤ sizeLine; decide, [x, y], .cons r1 (.cons r2 .nil), hTu⟩
    refine ⟨.ref T, upd H T (.tup [xs[i], ys[i]]), I.turnedNew (t' := tk) hk ch hT new, rfl, ⟨T, _, _, rfl, hn, rfl, fun l hl => by rw [I.tuple_inj hl hx]; exact hxi, fun l hl => by rw [I.list_inj hl hy]; exact hyi⟩, ⟨g1, g2, g3, g4, g5⟩, fun d hdm => ?_⟩
    obtain ⟨o, eo, _⟩ : ∃ o, s.heap.get? d = some o ∧ True := by
      obtain ⟨a1, a2, h3⟩ := h3
      obtain ⟨o4, e4, _⟩ := h4
      obtain ⟨o5, e5, _⟩ := h5
      have q : d = z ∨ d = TI ∨ d = TO ∨ d = i1 ∨ d = i2 := by simpa using hdm
      rcases q with q | q | q | q | q
      · rw [q]; exact ⟨_, h1, trivial⟩
      · rw [q]; exact ⟨_, h2, trivial⟩
      · rw [q]; exact ⟨_, h3, trivial⟩
      · rw [q]; exact ⟨_, e4, trivial⟩
      · rw [q]; exact ⟨_, e5, trivial⟩
    rw [upd_ne (Nat.ne_of_lt (Nat.lt_of_lt_of_le (Heap.lt_size eo) hT))]
    exact (hf d hdm).1
  done := by
    intro X hP hw hK hc i pins s σ H E I hf st hg
    subst hP hw hK
    obtain ⟨xs, ys, hx, hy, hi, ey⟩ := hg
    obtain ⟨its, rv, p, _⟩ := I.tuple hx
    obtain ⟨its2, rv2, p2, _⟩ := I.list hy
    have l1 := rv.length
    have l2 := rv2.length
    obtain ⟨h1, h2, h3, h4, h5⟩ := st
    have hd : X.A.in1.handled = none := I.ok.hd hc
    have W := GoesN.zip2 (elts := elts) (x1 := kk) (pos := tpos) (A := X.A) (prog := X.prog) (w := X.w) S (Draws.tuple hd i1 a na its.toArray) (Draws.list hd i2 b nb its2.toArray)
    have en : min its.toArray.size its2.toArray.size = i := by simp only [List.size_toArray]; omega
    rw [en] at W
    refine W.stops s _ E ⟨h1, h2, h3, ⟨h4, p⟩, ⟨h5, p2.isList⟩⟩ fun h' tk hk _ => ?_
    exact I.turnedL (t' := tk) hk fun d hd => hf d (by
      have q : d = z ∨ d = TO ∨ d = i1 ∨ d = i2 := by simpa using hd
      rcases q with q | q | q | q <;> simp [q])
  self := fun A i s Q E st h => wpAny_pyIter_zip st.1 h
def iZip2 (K : PySem.W.Frag) (ta : TA) : TI := fun σ H R => ta σ H fun vs H1 => ∃ a b xs ys, vs = [.ref a, .ref b] ∧ SqT K H1 a xs ∧ SqL K H1 b ys ∧ R (Itz2 K a b) H1
theorem pi_zip2 {X : Cx} {e e2 : Expr} {ta : TA} {p pos tpos : Pos} {elts : List Expr} {kk : Nat} (hg : Gl X "zip") (hm : X.mg "zip" = none) (ha : PA X [e, e2] ta)
    (hs : starEach [e, e2] X.env = (false, eval e X.env) :: starEach [e2] X.env := by rfl) (hpl : (backTo pos (starEach [e2] X.env)).any (·.1) = false := by rfl) :
    PI X (.Tuple elts kk tpos) (.Call (.Name "zip" p) [e, e2] [] pos) (iZip2 X.K ta) := by
  refine ⟨fun pins s σ H R I h => ?_⟩
  refine Call_ (ld_blt I hg hm PyProof.Rows.boot_zip (PyProof.Rows.callWith_type1 (thn (ha.run pos pins s σ H _ I h) fun us s1 ⟨vs, H1, I1, r1, q1⟩ => ?_) hs hpl))
  obtain ⟨a, b, xs, ys, ex, hx, hy, q⟩ := q1
  subst ex
  obtain ⟨u1, u2, rfl, r, r'⟩ := vals2 r1
  cases r
  cases r'
  obtain ⟨its, rv, p1, _⟩ := I1.tuple hx
  obtain ⟨its2, rv2, p2, _⟩ := I1.list hy
  have la : a < s1.heap.objs.size := p1.lt
  have lb : b < s1.heap.objs.size := p2.lt
  refine zip_begins2 (begins_tuple a its.toArray) (begins_list b its2.toArray) p1 p2.isList fun h' g1 g2 g3 g4 g5 hsz hk => wpAny_pyIter_zip g1 ?_
  have I2 : Inv X pins σ H1 { s1 with heap := h' } := I1.kept (t' := s1.toks) hk
  generalize hn : s1.heap.objs.size = n at *
  have S : ZipSep2 (n + 4) (n + 2) (n + 3) n (n + 1) [n, a] [n + 1, b] := by
    have d : ∀ {j k : Nat}, j ≠ k → (n + j : Nat) ≠ n + k := fun h => off_ne n h
    have d0 : ∀ {k : Nat}, k ≠ 0 → (n + k : Nat) ≠ n := fun h e => h (Nat.add_left_cancel (show n + _ = n + 0 from e))
    have d0' : ∀ {k : Nat}, k ≠ 0 → (n : Nat) ≠ n + k := fun h e => d0 h e.symm
    have oa : ∀ {k : Nat}, (n + k : Nat) ≠ a := fun e => off_lt la e.symm
    have ob : ∀ {k : Nat}, (n + k : Nat) ≠ b := fun e => off_lt lb e.symm
    have ob0 : (n : Nat) ≠ b := fun e => off_lt (k := 0) lb e.symm
    have two : ∀ {x y u : Addr}, x ≠ y → x ≠ u → x ∉ [y, u] := fun h1 h2 h => by
      rcases List.mem_cons.mp h with e | h
      · exact h1 e
      · exact h2 (List.mem_singleton.mp h)
    exact ⟨d (by decide), d (by decide), d (by decide), d0 (by decide), List.mem_cons_self, two (d0 (by decide)) oa, two (d0 (by decide)) oa, d (by decide), List.mem_cons_self, two (d (by decide)) ob, two (d (by decide)) ob,
      two (d0' (by decide)) ob0, two (d0 (by decide)) oa⟩
  refine ⟨n + 4, [n + 4, n + 2, n + 3, n, n + 1], _, _, H1, rfl, I2, turn_zip2 S (Nat.ne_of_lt la) (off_lt lb), ⟨g1, g2, ⟨_, _, g3⟩, ⟨_, g4, rfl, rfl⟩, ⟨_, g5, rfl, rfl⟩⟩, fun d hd => ?_, q⟩
  have e' : d = n + 4 ∨ d = n + 2 ∨ d = n + 3 ∨ d = n ∨ d = n + 1 := by simpa using hd
  have hle : n ≤ d := by
    rcases e' with z | z | z | z | z
    · rw [z]; exact Nat.le_add_right _ _
    · rw [z]; exact Nat.le_add_right _ _
    · rw [z]; exact Nat.le_add_right _ _
    · rw [z]; exact Nat.le_refl _
    · rw [z]; exact Nat.le_add_right _ _
  have hle2 : s1.heap.objs.size ≤ d := by rw [hn]; exact hle
  exact I1.fpOk hle2 (I1.hok.fresh hle2)
/-! ### their walks -/
section
variable {K : PySem.W.Frag} {a b c : Addr} {xs ys zs : List V}
theorem walk_zip2 (hn : ys.length = xs.length) : Walk (Itz2 K a b) xs.length (fun H => SqT K H a xs ∧ SqL K H b ys) (YPair (fun i => xs[i]?) (fun i => ys[i]?)) := by
  refine ⟨fun i _ hi q => ⟨xs, ys, q.1, q.2, hi, hn⟩, fun _ q => ⟨xs, ys, q.1, q.2, rfl, hn⟩, fun i H v H' _ q y => ?_⟩
  obtain ⟨T, x, z, h1, h2, h3, h4, h5⟩ := y
  exact ⟨T, x, z, h1, h2, h3, h4 xs q.1, h5 ys q.2⟩
def YTrip (xs ys zs : Nat → Option V) : Nat → Hp → V → Hp → Prop := fun i H v H' => ∃ T x y z, v = .ref T ∧ H T = none ∧ H' = upd H T (.tup [x, y, z]) ∧ xs i = some x ∧ ys i = some y ∧ zs i = some z
theorem walk_zip3 (hn : ys.length = xs.length) (hn2 : zs.length = xs.length) : Walk (Itz3 K a b c) xs.length (fun H => SqL K H a xs ∧ SqT K H b ys ∧ SqT K H c zs) (YTrip (fun i => xs[i]?) (fun i => ys[i]?) (fun i => zs[i]?)) := by
  refine ⟨fun i _ hi q => ⟨xs, ys, zs, q.1, q.2.1, q.2.2, hi, hn, hn2⟩, fun _ q => ⟨xs, ys, zs, q.1, q.2.1, q.2.2, rfl, hn, hn2⟩, fun i H v H' _ q y => ?_⟩
  obtain ⟨T, x, y, z, h1, h2, h3, h4, h5, h6⟩ := y
  exact ⟨T, x, y, z, h1, h2, h3, h4 xs q.1, h5 ys q.2.1, h6 zs q.2.2⟩
end
end SL
end PtK2f
/-! part K2g -/
section PtK2g
/-! K2g: calls: by name, of a method whose class the reading tells, of Rim.__init__ off the class; a class made; a module's int. -/
namespace SL
open PySem PySem.Spec PyProof.Rows L2
/-- a promise: arguments by x, what is asked of heap and answer -/
def SpF {α : Type} (args : α → List V) (pre : α → Hp → VK → Prop) : Sp := fun vs H Q _ => ∃ x, vs = args x ∧ pre x H Q
section
variable {P : Program} {w : World} {K : PySem.W.Frag} {mg : Str → Option Value} {base : Heap} {k : Nat}
theorem spf_len {α : Type} {args : α → List V} {pre : α → Hp → VK → Prop} {n : Nat} (h : ∀ x, (args x).length = n) : ∀ vs H Q E, SpF args pre vs H Q E → vs.length = n := by
  rintro vs H Q E ⟨x, rfl, _⟩
  exact h x
/-- a def that may be called by its name -/
structure Cal (P : Program) (w : World) (K : PySem.W.Frag) (mg : Str → Option Value) (base : Heap) (k : Nat) (x : Str) (sp : Sp) : Prop where
  ex : ∃ (f : Addr) (fd : FuncData) (ps : List Str), FnOk P w K mg base CX0 k f fd ps sp ∧ mg x = some (.ref f) ∧ PySem.W.keepIn K (.ref f) = true ∧ Binds K fd ps []
/-- a def at f -/
structure At (P : Program) (w : World) (K : PySem.W.Frag) (mg : Str → Option Value) (base : Heap) (k : Nat) (f : Addr) (sp : Sp) : Prop where
  ex : ∃ (fd : FuncData) (ps : List Str), FnOk P w K mg base CX0 k f fd ps sp ∧ PySem.W.keepIn K (.ref f) = true ∧ Binds K fd ps []
/-- a method of the class at C -/
structure Met (P : Program) (w : World) (K : PySem.W.Frag) (mg : Str → Option Value) (base : Heap) (k : Nat) (C : Addr) (m : Str) (sp : Sp) : Prop where
  ex : ∃ (f : Addr) (fd : FuncData) (ps : List Str), Cls K C ∧ Meth K C m f ∧ FnOk P w K mg base CX0 k f fd ps sp ∧ Binds K fd ps []
/-- a class that is made by its name -/
structure Mak (P : Program) (w : World) (K : PySem.W.Frag) (mg : Str → Option Value) (base : Heap) (k : Nat) (x : Str) (C : Addr) (sp : Sp) : Prop where
  ex : ∃ (f : Addr) (fd : FuncData) (ps : List Str), Mk K C f ∧ FnOk P w K mg base CX0 k f fd ps sp ∧ mg x = some (.ref C) ∧ Binds K fd ps []
theorem At.of {x qual : Str} {st : Stmt} {f : Addr} {fd : FuncData} {N ps : List Str} {sp : Sp} (F : Fun K x qual st f fd) (S : FnScope N ps (defScope st)) (b : Binds K fd ps []) (len : ∀ vs H Q E, sp vs H Q E → vs.length = ps.length)
    (hbody : ∀ (cdv : Value) (A : Around) (outer : List Env) (s : Shared) (H : Hp) (vs : List V) (Q : VK) (E : XK), Room k (A.deeper (envOfC qual (defScope st) s.heap.objs.size f cdv)) → sp vs H Q E →
      ∃ t, PSs (cxOf CX0 P w K mg base N qual (defScope st) f cdv A outer s H E).nox (defBody st) t ∧ t { nx := fun _ H' => Q .non H', rt := Q } (start N vs) H) : At P w K mg base (k + 1) f sp :=
  ⟨fd, ps, F.ok S len hbody, F.kp, b⟩
theorem Cal.of {x : Str} {f : Addr} {sp : Sp} (a : At P w K mg base k f sp) (hm : mg x = some (.ref f)) : Cal P w K mg base k x sp := let ⟨fd, ps, F, kp, b⟩ := a.ex; ⟨f, fd, ps, F, hm, kp, b⟩
theorem Met.of {C f : Addr} {m : Str} {sp : Sp} (a : At P w K mg base k f sp) (c : Cls K C) (hm : Meth K C m f) : Met P w K mg base k C m sp := let ⟨fd, ps, F, kp, b⟩ := a.ex; ⟨f, fd, ps, c, hm, F, b⟩
theorem Mak.of {x : Str} {C f : Addr} {sp : Sp} (a : At P w K mg base k f sp) (hm : mg x = some (.ref C)) (M : Mk K C f) : Mak P w K mg base k x C sp := let ⟨fd, ps, F, kp, b⟩ := a.ex; ⟨f, fd, ps, M, F, hm, b⟩
end
section
variable {X : Cx} {k j : Nat} {C : Addr} {x m : Str} {sp : Sp} {p pos apos : Pos} {e o : Expr} {es : List Expr} {ta : TE} {t : TA}
/-- a call: sp's promise -/
def tCl (sp : Sp) (t : TA) : TE := fun σ H Q => t σ H fun vs H1 => sp vs H1 Q E0
theorem pe_c (c : Cal X.prog X.w X.K X.mg X.base k x sp) (hr : Room j X.A) (hg : Gl X x) (ha : PA X (e :: es) t) (hk : k ≤ j := by first | decide | omega)
    (hdb : (x == ("__debug__" : Str)) = false := by decide) (he : starEach (e :: es) X.env = (false, eval e X.env) :: starEach es X.env := by rfl) (hpl : (backTo pos (starEach es X.env)).any (·.1) = false := by rfl) :
    PE X (.Call (.Name x p) (e :: es) [] pos) (tCl sp t) := by
  obtain ⟨f, fd, ps, F, hm, kp, b⟩ := c.ex
  refine ⟨fun pins s σ H Q I h => (pe_call F (hr.mono hk) hg hm kp b .nil pass0 ha hdb he hpl).run pins s σ H Q I ?_⟩
  unfold tCall
  simp only [List.append_nil]
  exact h
def tMk (C : Addr) (sp : Sp) (t : TA) : TE := fun σ H Q => t σ H fun vs H1 => ∀ x dx, H1 x = none → H1 dx = none → dx ≠ x →
  sp (.ref x :: vs) (upd (upd H1 dx (.own x)) x (.ins C dx [])) (fun v H2 => v = .non ∧ Q (.ref x) H2) E0
theorem pe_mk (c : Mak X.prog X.w X.K X.mg X.base k x C sp) (hr : Room j X.A) (hg : Gl X x) (ha : PA X (e :: es) t) (hk : k + 1 ≤ j := by first | decide | omega)
    (hdb : (x == ("__debug__" : Str)) = false := by decide) (he : starEach (e :: es) X.env = (false, eval e X.env) :: starEach es X.env := by rfl) (hpl : (backTo pos (starEach es X.env)).any (·.1) = false := by rfl) :
    PE X (.Call (.Name x p) (e :: es) [] pos) (tMk C sp t) := by
  obtain ⟨f, fd, ps, M, F, hm, b⟩ := c.ex
  refine ⟨fun pins s σ H Q I h => (pe_make M F (hr.mono hk) hg hm b .nil pass0 ha hdb he hpl).run pins s σ H Q I ?_⟩
  unfold tMake
  simp only [List.append_nil]
  exact h
/-- o.m(..): the class and the promise are told by the reading -/
def tMt (D : Addr → Sp → Prop) (m : Str) (ta : TE) (t : TA) : TE := fun σ H Q => ta σ H fun x H1 => ∃ C sp a dx fs, D C sp ∧ x = .ref a ∧ H1 a = some (.ins C dx fs) ∧ fs.lookup m = none ∧ t σ H1 fun vs H2 => sp (x :: vs) H2 Q E0
theorem pe_md {pl : Sem Bool} {D : Addr → Sp → Prop} (c : ∀ C sp, D C sp → Met X.prog X.w X.K X.mg X.base k C m sp) (hr : Room j X.A) (he : PE X o ta) (ha : PA X (e :: es) t) (hk : k ≤ j := by first | decide | omega)
    (hst : starEach (e :: es) X.env = (false, eval e X.env) :: starEach es X.env := by rfl) (hpl : (backTo pos (starEach es X.env)).any (·.1) = false := by rfl)
    (ht : eval (.Call (.Attribute o m apos) (e :: es) [] pos) X.env = (do
      let ov ← eval o X.env
      standAt apos.atName
      let (f, first) ← holding [ov] (getMethod ov m pl)
      callWith pos f first (backTo pos (starEach (e :: es) X.env)) (backToKw pos (keywordEach [] X.env))) := by rfl) :
    PE X (.Call (.Attribute o m apos) (e :: es) [] pos) (tMt D m ta t) := by
  refine ⟨fun pins s σ H Q I h => ?_⟩
  refine PySem.W.methodCall_KW (pl := pl) (thn (he.run pins s σ H _ I h) fun u s1 ⟨x, H1, I1, rx, C, sp, a, dx, fs, d, ex, ea, l, q⟩ => ?_) ht
  subst ex
  obtain rfl : u = Value.ref a := rx
  obtain ⟨f, fd, ps, hc, hm, F, b⟩ := (c C sp d).ex
  refine getmeth_ok I1 ea hc hm l ?_
  refine PySem.W.callWith_K (first := [.ref a]) (h₀ := X.base) I.ok.mod.kin hm.kp (thn (ha.run pos pins s1 σ H1 _ I1 q) fun us s2 ⟨vs, H2, I2, r, q2⟩ => ⟨I2.kIn, ?_⟩) hst hpl
  exact run_fn (us := .ref a :: us) (vs := .ref a :: vs) F (hr.mono hk) b .nil pass0 I2 (.cons rfl r) (by rw [List.append_nil]; exact q2)
theorem pe_md0 {pl : Sem Bool} {D : Addr → Sp → Prop} (c : ∀ C sp, D C sp → Met X.prog X.w X.K X.mg X.base k C m sp) (hr : Room j X.A) (he : PE X o ta) (hk : k ≤ j := by first | decide | omega)
    (ht : eval (.Call (.Attribute o m apos) [] [] pos) X.env = (do
      let ov ← eval o X.env
      standAt apos.atName
      let (f, first) ← holding [ov] (getMethod ov m pl)
      callWith pos f first (backTo pos (starEach [] X.env)) (backToKw pos (keywordEach [] X.env))) := by rfl) :
    PE X (.Call (.Attribute o m apos) [] [] pos) (tMt D m ta tNil) := by
  refine ⟨fun pins s σ H Q I h => ?_⟩
  refine PySem.W.methodCall_KW (pl := pl) (thn (he.run pins s σ H _ I h) fun u s1 ⟨x, H1, I1, rx, C, sp, a, dx, fs, d, ex, ea, l, q⟩ => ?_) ht
  subst ex
  obtain rfl : u = Value.ref a := rx
  obtain ⟨f, fd, ps, hc, hm, F, b⟩ := (c C sp d).ex
  refine getmeth_ok I1 ea hc hm l ?_
  exact PySem.W.callWith_K0 (first := [.ref a]) I1.kIn hm.kp (run_fn (us := [.ref a]) (vs := [.ref a]) F (hr.mono hk) b .nil pass0 I1 (.cons rfl .nil) q)
/-- the class known -/
def One (C : Addr) (sp : Sp) : Addr → Sp → Prop := fun C' sp' => C' = C ∧ sp' = sp
def tM1 (C : Addr) (sp : Sp) (m : Str) (ta : TE) (t : TA) : TE := fun σ H Q => ta σ H fun x H1 => ∃ a dx fs, x = .ref a ∧ H1 a = some (.ins C dx fs) ∧ fs.lookup m = none ∧ t σ H1 fun vs H2 => sp (x :: vs) H2 Q E0
theorem pe_m {pl : Sem Bool} (c : Met X.prog X.w X.K X.mg X.base k C m sp) (hr : Room j X.A) (he : PE X o ta) (ha : PA X (e :: es) t) (hk : k ≤ j := by first | decide | omega)
    (hst : starEach (e :: es) X.env = (false, eval e X.env) :: starEach es X.env := by rfl) (hpl : (backTo pos (starEach es X.env)).any (·.1) = false := by rfl)
    (ht : eval (.Call (.Attribute o m apos) (e :: es) [] pos) X.env = (do
      let ov ← eval o X.env
      standAt apos.atName
      let (f, first) ← holding [ov] (getMethod ov m pl)
      callWith pos f first (backTo pos (starEach (e :: es) X.env)) (backToKw pos (keywordEach [] X.env))) := by rfl) :
    PE X (.Call (.Attribute o m apos) (e :: es) [] pos) (tM1 C sp m ta t) := by
  obtain ⟨f, fd, ps, hc, hm, F, b⟩ := c.ex
  refine ⟨fun pins s σ H Q I h => (pe_meth (pl := pl) he hc hm F (hr.mono hk) b .nil pass0 ha hst hpl ht).run pins s σ H Q I ?_⟩
  unfold tMeth
  simp only [List.append_nil]
  exact h
theorem pe_m0 {pl : Sem Bool} (c : Met X.prog X.w X.K X.mg X.base k C m sp) (hr : Room j X.A) (he : PE X o ta) (hk : k ≤ j := by first | decide | omega)
    (ht : eval (.Call (.Attribute o m apos) [] [] pos) X.env = (do
      let ov ← eval o X.env
      standAt apos.atName
      let (f, first) ← holding [ov] (getMethod ov m pl)
      callWith pos f first (backTo pos (starEach [] X.env)) (backToKw pos (keywordEach [] X.env))) := by rfl) :
    PE X (.Call (.Attribute o m apos) [] [] pos) (tM1 C sp m ta tNil) := by
  obtain ⟨f, fd, ps, hc, hm, F, b⟩ := c.ex
  refine ⟨fun pins s σ H Q I h => (pe_meth0 (pl := pl) he hc hm F (hr.mono hk) b .nil pass0 ht).run pins s σ H Q I ?_⟩
  unfold tMeth
  simp only [List.append_nil]
  exact h
/-- a module's int -/
theorem pe_gi {i : Int} (hg : Gl X x) (hm : ∃ t, X.mg x = some (.int i t)) (hd : (x == ("__debug__" : Str)) = false := by decide) : PE X (.Name x pos) (tC (.int i)) := by
  obtain ⟨t, h⟩ := hm
  exact pe_glob hg h ⟨t, rfl⟩ hd
/-- C.m(e, ..), a plain function read off a class -/
theorem pe_clsfn {f : Addr} {mc : Value} {pl : Sem Bool} (a : At X.prog X.w X.K X.mg X.base k f sp) (hr : Room j X.A) (hg : Gl X x) (hm : X.mg x = some (.ref C)) (hrd : PySem.W.readsIn X.K C mc = true)
    (hga : PySem.W.specialIn X.K (.ref C) "__getattribute__" = some (some (.builtin "type.__getattribute__"))) (hf : PySem.W.findCls X.K (.ref C) mc m = some (.val (.ref f))) (ha : PA X (e :: es) t) (hk : k ≤ j := by first | decide | omega)
    (hd : (x == ("__debug__" : Str)) = false := by decide)
    (hst : starEach (e :: es) X.env = (false, eval e X.env) :: starEach es X.env := by rfl) (hpl : (backTo pos (starEach es X.env)).any (·.1) = false := by rfl)
    (ht : eval (.Call (.Attribute (.Name x p) m apos) (e :: es) [] pos) X.env = (do
      let ov ← eval (.Name x p) X.env
      standAt apos.atName
      let (f, first) ← holding [ov] (getMethod ov m pl)
      callWith pos f first (backTo pos (starEach (e :: es) X.env)) (backToKw pos (keywordEach [] X.env))) := by rfl) :
    PE X (.Call (.Attribute (.Name x p) m apos) (e :: es) [] pos) (tCl sp t) := by
  obtain ⟨fd, ps, F, kp, b⟩ := a.ex
  refine ⟨fun pins s σ H Q I h => ?_⟩
  refine PySem.W.methodCall_KW (pl := pl) (ld_glob I hg hm ?_ hd) ht
  refine PySem.W.method_cls I.kIn hga (PySem.W.cls_value I.kIn hrd hf rfl ?_)
  have I1 : Inv X pins σ H { s with toks := s.toks + 1 } := I.tok _
  refine PySem.W.callWith_K (first := []) (h₀ := X.base) I.ok.mod.kin kp (thn (ha.run pos pins _ σ H _ I1 h) fun us s2 ⟨vs, H2, I2, r, q2⟩ => ⟨I2.kIn, ?_⟩) hst hpl
  exact run_fn (us := us) (vs := vs) F (hr.mono hk) b .nil pass0 I2 r (by rw [List.append_nil]; exact q2)
end
end SL
end PtK2g
/-! part K2h -/
section PtK2h
/-! K2h: sorted(set(xs)), xs a list of at most three spots. -/
namespace SL
open PySem PySem.Spec PyProof.Rows L2
abbrev shash (P : Program) (w : World) (s : Spot) : Int := (spotKind P w).hash s
section
variable {P : Program} {w : World} {A : Around} {E : Value → Shared → Prop} {s : Shared}
/-! ### what the search asks of a spot -/
theorem ask_cls {n : Nat} {b : Addr} {o : Obj} {items : Array Value} {c : Nat} {Q : Bool → Shared → Prop} (ho : s.heap.get? b = some o) (hc : o.cls = .type "tuple") (hd : o.data = .seq items c)
    (hi : ∀ v ∈ items.toList, ∀ Q : Bool → Shared → Prop, Q false s → wpAny (model P w) A (ofAClassStatement n v) Q E s) (h : Q false s) : wpAny (model P w) A (ofAClassStatement (n + 1) (.ref b)) Q E s := by
  unfold ofAClassStatement
  refine wpAny_bind (wpAny_typeOf ⟨o, ho, hc⟩ ?_)
  dsimp only
  have e : (("tuple" : String) == "tuple") = true := by decide
  simp only [e, if_true, Bool.not_true, Bool.false_eq_true, if_false]
  try refine wpAny_bind (wpAny_pure ?_)
  try simp only [Bool.not_true, Bool.false_eq_true, if_false]
  show wpAny _ _ (seqItems? (.ref b) >>= _) _ _ s
  refine wpAny_bind (wpAny_seqItems ho hd ?_)
  dsimp only
  refine wpAny_bind ?_
  show wpAny _ _ (forIn items _ _) _ _ s
  rw [← Array.forIn_toList]
  refine wpAny_forIn_list _ (fun rest r s' => r.1 = none ∧ s' = s ∧ ∀ v ∈ rest, v ∈ items.toList) _ ?_ ?_ _ _ ⟨rfl, rfl, fun _ z => z⟩
  · rintro v rest r s' ⟨hr, rfl, all⟩
    refine wpAny_bind (hi v (all v List.mem_cons_self) _ ?_)
    simp only [Bool.false_eq_true, if_false]
    exact wpAny_pure ⟨rfl, rfl, fun u hu => all u (List.mem_cons_of_mem _ hu)⟩
  · rintro ⟨r1, r2⟩ s' ⟨hr, rfl, _⟩
    simp only at hr
    subst hr
    exact wpAny_pure h
theorem ask_hash {n : Nat} {b : Addr} {o : Obj} {items : Array Value} {c : Nat} {Q : Bool → Shared → Prop} (ho : s.heap.get? b = some o) (hc : o.cls = .type "tuple") (hd : o.data = .seq items c)
    (hi : ∀ v ∈ items.toList, ∀ Q : Bool → Shared → Prop, Q true s → wpAny (model P w) A (hashByValue n v) Q E s) (h : Q true s) : wpAny (model P w) A (hashByValue (n + 1) (.ref b)) Q E s := by
  unfold hashByValue
  refine wpAny_bind (wpAny_specialOf (show s.TypeIs (.ref b) "tuple" from ⟨o, ho, hc⟩) F.slot_tuple_hash.lookup ?_)
  show wpAny _ _ (seqItems? (.ref b) >>= _) _ _ s
  refine wpAny_bind (wpAny_seqItems ho hd ?_)
  refine wpAny_bind ?_
  show wpAny _ _ (forIn items _ _) _ _ s
  rw [← Array.forIn_toList]
  refine wpAny_forIn_list _ (fun rest r s' => r.1 = none ∧ s' = s ∧ ∀ v ∈ rest, v ∈ items.toList) _ ?_ ?_ _ _ ⟨rfl, rfl, fun _ z => z⟩
  · rintro v rest r s' ⟨hr, rfl, all⟩
    refine wpAny_bind (hi v (all v List.mem_cons_self) _ ?_)
    simp only [Bool.not_true, Bool.false_eq_true, if_false]
    exact wpAny_pure ⟨rfl, rfl, fun u hu => all u (List.mem_cons_of_mem _ hu)⟩
  · rintro ⟨r1, r2⟩ s' ⟨hr, rfl, _⟩
    simp only at hr
    subst hr
    exact wpAny_pure h
theorem nums_items {h : Heap} : ∀ {xs : List Int} {us : List Value}, NestedAll h (xs.map .num) us → ∀ v ∈ us, (∃ i t, v = .int i t) ∨ ∃ b, v = .bool b
  | [], _, .nil, v, hv => by cases hv
  | x :: xs, _, .cons r t, v, hv => by
    rcases List.mem_cons.mp hv with e | hv
    · subst e
      cases r with
      | bool _ => exact .inr ⟨_, rfl⟩
      | int i t => exact .inl ⟨_, _, rfl⟩
    · exact nums_items t v hv
theorem spot_cls {k : Spot} {b : Addr} {Q : Bool → Shared → Prop} (hk : (spotKind P w).is s.heap k b) (h : Q false s) : wpAny (model P w) A (ofAClassStatement 8 (.ref b)) Q E s := by
  obtain ⟨hn, _⟩ := hk
  cases hn with
  | tup ho hc hd ha =>
    refine ask_cls (n := 7) ho hc hd (fun v hv Q q => ?_) h
    generalize hus : Array.toList _ = us at ha hv
    cases ha with
    | cons r1 ha =>
      cases ha with
      | cons r2 ha =>
        cases ha
        rcases List.mem_cons.mp hv with e | hv
        · subst e
          cases r1 with
          | bool _ => exact wpAny_pure q
          | int _ _ => exact wpAny_pure q
        · rw [List.mem_singleton.mp hv]
          cases r2 with
          | tup ho2 hc2 hd2 ha2 =>
            refine ask_cls (n := 6) ho2 hc2 hd2 (fun v hv Q q => ?_) q
            rcases nums_items ha2 v hv with ⟨i, t, e⟩ | ⟨b, e⟩
            · subst e
              exact wpAny_pure q
            · subst e
              exact wpAny_pure q
theorem spot_hash {k : Spot} {b : Addr} {Q : Bool → Shared → Prop} (hk : (spotKind P w).is s.heap k b) (h : Q true s) : wpAny (model P w) A (hashByValue 8 (.ref b)) Q E s := by
  obtain ⟨hn, _⟩ := hk
  cases hn with
  | tup ho hc hd ha =>
    refine ask_hash (n := 7) ho hc hd (fun v hv Q q => ?_) h
    generalize hus : Array.toList _ = us at ha hv
    cases ha with
    | cons r1 ha =>
      cases ha with
      | cons r2 ha =>
        cases ha
        rcases List.mem_cons.mp hv with e | hv
        · subst e
          cases r1 with
          | bool _ => exact wpAny_pure q
          | int _ _ => exact wpAny_pure q
        · rw [List.mem_singleton.mp hv]
          cases r2 with
          | tup ho2 hc2 hd2 ha2 =>
            refine ask_hash (n := 6) ho2 hc2 hd2 (fun v hv Q q => ?_) q
            rcases nums_items ha2 v hv with ⟨i, t, e⟩ | ⟨b, e⟩
            · subst e
              exact wpAny_pure q
            · subst e
              exact wpAny_pure q
theorem spot_seen {k : Spot} {b : Addr} {Q : Bool → Shared → Prop} (hk : (spotKind P w).is s.heap k b) {ys : List Value} (hy : ∀ y ∈ ys, ∃ k' c, y = Value.ref c ∧ (spotKind P w).is s.heap k' c) (h : Q false s) :
    wpAny (model P w) A (searchCouldBeSeen (.ref b) ys) Q E s := by
  unfold searchCouldBeSeen
  refine wpAny_bind ?_
  refine wpAny_forIn_list _ (fun rest r s' => r.1 = none ∧ s' = s ∧ ∀ y ∈ rest, y ∈ ys) _ ?_ ?_ _ _ ⟨rfl, rfl, fun _ z => z⟩
  · rintro v rest r s' ⟨hr, rfl, all⟩
    obtain ⟨k', c, e, hc⟩ := hy v (all v List.mem_cons_self)
    subst e
    have rest' : ∀ y ∈ rest, y ∈ ys := fun u hu => all u (List.mem_cons_of_mem _ hu)
    dsimp only
    by_cases hv : (b == c || (carriedByValue (.ref b) && carriedByValue (.ref c))) = true
    · exact wp_if_pos hv (wpAny_pure ⟨rfl, rfl, rest'⟩)
    · refine wp_if_neg hv (wpAny_bind ((spotKind P w).quiet hk ?_))
      simp only [Bool.not_true, Bool.false_eq_true, if_false]
      refine wpAny_bind ((spotKind P w).quiet hc ?_)
      simp only [Bool.not_true, Bool.false_eq_true, if_false]
      refine wpAny_bind (spot_cls hk ?_)
      simp only [Bool.false_eq_true, if_false]
      refine wpAny_bind (spot_cls hc ?_)
      simp only [Bool.false_eq_true, if_false]
      exact wpAny_pure ⟨rfl, rfl, rest'⟩
  · rintro ⟨r1, r2⟩ s' ⟨hr, rfl, _⟩
    simp only at hr
    subst hr
    exact wpAny_pure h
/-! ### the set -/
def rowS (P : Program) (w : World) (L : List (Addr × Spot)) : List (Int × Value) := L.map fun p => (shash P w p.2, Value.ref p.1)
structure SetS (P : Program) (w : World) (h : Heap) (a : Addr) (L : List (Addr × Spot)) (es : Array (Int × Value)) (ep : Nat) (t : SetTable) : Prop where
  ob : ∃ o, h.get? a = some o ∧ o.ExactSet ∧ o.data = .set es ep t
  rows : es.toList = rowS P w L
  tab : TabOk t (L.map fun p => shash P w p.2)
  key : ∀ p ∈ L, (spotKind P w).is h p.2 p.1
  plain : t.plain = true
  led : w.params.followText "set-order" = true ∨ t.led = true
  m7 : t.mask = 7
  few : L.length ≤ 4
variable {a : Addr} {L : List (Addr × Spot)} {es : Array (Int × Value)} {ep : Nat} {t : SetTable}
theorem SetS.size (R : SetS P w s.heap a L es ep t) : es.size = L.length := by
  have h := congrArg List.length R.rows
  unfold rowS at h
  rwa [Array.length_toList, List.length_map] at h
theorem SetS.place (R : SetS P w s.heap a L es ep t) : t.place.size = L.length := by
  have h := R.tab.sz
  rwa [List.length_map] at h
theorem SetS.fits (R : SetS P w s.heap a L es ep t) : t.fits es.size = true := by
  have h1 := R.place
  have h2 := R.size
  have h3 := R.few
  have h4 := R.m7
  unfold SetTable.fits SetTable.fill
  rw [R.tab.dm, Bool.and_eq_true, beq_iff_eq, decide_eq_true_eq]
  show t.place.size = es.size ∧ t.place.size + 0 ≤ t.mask
  omega
theorem SetS.entry (R : SetS P w s.heap a L es ep t) {i : Nat} {p : Addr × Spot} (h : L[i]? = some p) : es[i]? = some (shash P w p.2, Value.ref p.1) := by
  rw [← Array.getElem?_toList, R.rows]
  unfold rowS
  rw [List.getElem?_map, h] <;> rfl
theorem SetS.gw (R : SetS P w s.heap a L es ep t) : ¬ t.gaveWay = true := by
  unfold SetTable.gaveWay
  rw [mask_odd R.tab.mok]
  decide
theorem SetS.keep {h h' : Heap} (R : SetS P w h a L es ep t) (ha : ∀ o, h.get? a = some o → h'.get? a = some o) (hk : ∀ p ∈ L, (spotKind P w).is h' p.2 p.1) : SetS P w h' a L es ep t := by
  obtain ⟨o, ho, r⟩ := R.ob
  exact ⟨⟨o, ha o ho, r⟩, R.rows, R.tab, hk, R.plain, R.led, R.m7, R.few⟩
/-- the search, from the c-th step on -/
theorem seekS (R : SetS P w s.heap a L es ep t) {x : Addr} {k : Spot} (hx : (spotKind P w).is s.heap k x) (hu : A.units + 8 < cLine) {K : Nat} (hKf : K < 10 * SetTable.turns t.mask)
    (hK : way t.mask (shash P w k) K ∉ t.place.toList) (hKb : ∀ c, c < K → way t.mask (shash P w k) c ∈ t.place.toList) {Q : SetFound → Shared → Prop}
    (hin : k ∈ L.map (·.2) → Q (.there none) s) (hout : Q (.free (way t.mask (shash P w k) K) false) s) :
    ∀ (f c : Nat) (stand : Option SetTable.Probe), stand.getD (t.probeStart (shash P w k)) = nth t.mask (runAt t.mask (SetTable.bits (shash P w k) % (t.mask + 1)) (SetTable.bits (shash P w k))) c → c ≤ K → K - c < f →
      wpAny (model P w) A (setSearchFrom a (.ref x) (shash P w k) true f stand) Q E s
  | 0, c, stand, _, _, hf => absurd hf (Nat.not_lt_zero _)
  | f + 1, c, stand, hst, hc, hf => by
    obtain ⟨o, ho, hex, hd⟩ := R.ob
    rw [setSearchFrom_succ]
    refine wpAny_bind (wpAny_setState_of ho hd R.fits ?_)
    dsimp only
    refine wp_if_neg R.gw ?_
    try refine wpAny_bind (wpAny_pure ?_)
    generalize hp0 : runAt t.mask (SetTable.bits (shash P w k) % (t.mask + 1)) (SetTable.bits (shash P w k)) = p0 at hst
    have nodum : ∀ (n : Nat) (p : SetTable.Probe), p.dummy = none → (nth t.mask p n).dummy = none := by
      intro n
      induction n with
      | zero => intro p h; exact h
      | succ n ih =>
        intro p h
        refine ih (adv t.mask p) ?_
        unfold adv
        split <;> exact h
    have hnd : (nth t.mask p0 c).dummy = none := nodum c p0 (by rw [← hp0]; rfl)
    have sh : ∀ q, nth t.mask (nth t.mask p0 c) q = nth t.mask p0 (c + q) := fun q => (nth_add t.mask c p0 q).symm
    have e1 : ∀ q, (nth t.mask (nth t.mask p0 c) q).j = way t.mask (shash P w k) (c + q) := fun q => by
      rw [sh, ← hp0]
    have ecK : c + (K - c) = K := by omega
    have spec := go_spec t R.tab.ris R.tab.dm (fun i => (es[i]?.map (·.1)).getD 0) (shash P w k) (10 * SetTable.turns t.mask) (K - c) _ hnd (by omega)
      (fun q hq => by rw [e1]; exact hKb (c + q) (by omega)) (by rw [e1, ecK]; exact hK)
    rcases spec with ⟨q, i, hq, hi, hh, hno, hpr⟩ | ⟨hno, hpr⟩
    · have hpr' : t.probe (fun i => (es[i]?.map (·.1)).getD 0) (shash P w k) (stand.getD (t.probeStart (shash P w k))) = some (.candidate (way t.mask (shash P w k) (c + q)) i (nth t.mask p0 (c + (q + 1)))) := by
        rw [hst, ← e1, ← sh]
        exact hpr
      rw [hpr']
      dsimp only
      rw [e1] at hi
      have hil : i < L.length := by
        have h1 : i < t.place.toList.length := (List.getElem?_eq_some_iff.mp hi).1
        rwa [Array.length_toList, R.place] at h1
      have hp : L[i]? = some L[i] := List.getElem?_eq_getElem hil
      generalize hpe : L[i] = p at hp
      have hmem : p ∈ L := List.mem_of_getElem? hp
      have rest : wpAny (model P w) A (searchRest a (.ref x) (shash P w k) true f es t (way t.mask (shash P w k) (c + q)) i (nth t.mask p0 (c + (q + 1)))) Q E s := by
        unfold searchRest
        rw [R.entry hp]
        dsimp only
        refine wpAny_bind (wpAny_holding ((spotKind P w).eqBool hu (R.key p hmem) hx ?_))
        refine wpAny_bind (wpAny_setState_of ho hd R.fits ?_)
        dsimp only
        by_cases hkk : p.2 = k
        · refine wp_if_pos (by simp [hkk]) ?_
          exact wpAny_pure (hin (List.mem_map.mpr ⟨p, hmem, hkk⟩))
        · refine wp_if_neg (by simp [hkk]) ?_
          try refine wpAny_bind (wpAny_pure ?_)
          rw [sameMem]
          dsimp only
          simp only [if_true, slot_live R.tab.ris hi, R.entry hp]
          refine wpAny_bind (wpAny_isSame_ref_self (wpAny_bind (wpAny_pure ?_)))
          simp only [if_true]
          refine wp_if_neg (by simp [hkk]) ?_
          exact seekS R hx hu hKf hK hKb hin hout f (c + (q + 1)) _ (by rw [hp0]; rfl) (by omega) (by omega)
      by_cases hl : t.led = true
      · refine wp_if_neg (by simp [hl]) ?_
        try refine wpAny_bind (wpAny_pure ?_)
        exact rest
      · refine wp_if_pos (by simp [hl]) ?_
        refine wpAny_bind (spot_seen hx (fun y hy => ?_) ?_)
        · obtain ⟨e, he, ee⟩ := List.mem_map.mp hy
          have he1 : e ∈ es ∧ e.1 = shash P w k := by simpa using he
          have he2 : e ∈ es.toList := by simpa using he1.1
          rw [R.rows] at he2
          obtain ⟨p2, hp2, e2⟩ := List.mem_map.mp he2
          exact ⟨p2.2, p2.1, by rw [← ee, ← e2], R.key p2 hp2⟩
        · refine wp_if_neg (by decide) ?_
          try refine wpAny_bind (wpAny_pure ?_)
          exact rest
    · have hpr' : t.probe (fun i => (es[i]?.map (·.1)).getD 0) (shash P w k) (stand.getD (t.probeStart (shash P w k))) = some (.empty (way t.mask (shash P w k) K) none) := by
        have e2 : way t.mask (shash P w k) K = (nth t.mask (nth t.mask p0 c) (K - c)).j := by rw [e1, ecK]
        rw [hst, e2]
        exact hpr
      rw [hpr']
      exact wpAny_pure hout
theorem seekS0 (R : SetS P w s.heap a L es ep t) {x : Addr} {k : Spot} (hx : (spotKind P w).is s.heap k x) (hu : A.units + 8 < cLine) {Q : SetFound → Shared → Prop}
    (hin : k ∈ L.map (·.2) → Q (.there none) s)
    (hout : ∀ K, way t.mask (shash P w k) K ∉ t.place.toList → (∀ c, c < K → way t.mask (shash P w k) c ∈ t.place.toList) → Q (.free (way t.mask (shash P w k) K) false) s) :
    wpAny (model P w) A (setSearch a (.ref x) (shash P w k) true) Q E s := by
  have h7 := R.m7
  have hfew := R.few
  obtain ⟨K, hKf, hK, hKb⟩ := R.tab.first (by rw [List.length_map]; omega) (shash P w k)
  have hbig : K < 100000 := by
    have : 10 * SetTable.turns t.mask ≤ 1420 := by
      unfold SetTable.turns
      omega
    omega
  unfold setSearch
  exact seekS R hx hu hKf hK hKb hin (hout K hK hKb) 100000 0 none rfl (Nat.zero_le _) (by omega)
theorem is_same {h h' : Heap} {k : Spot} {a b : Addr} {o : Obj} {es : Array (Int × Value)} {ep : Nat} {t : SetTable} (hb : (spotKind P w).is h k b) (ho : h.get? a = some o) (hd : o.data = .set es ep t) (hs : Heap.SameBut a h h') : (spotKind P w).is h' k b :=
  spotKind_stays.stays (fun c u vs n e d => by
    have hne : c ≠ a := by
      rintro rfl
      obtain rfl : u = o := Option.some.inj (e.symm.trans ho)
      rw [hd] at d
      exact nomatch d
    exact (hs.2 c hne).trans e) hb
/-- one more -/
theorem addS (R : SetS P w s.heap a L es ep t) {x : Addr} {k : Spot} (hx : (spotKind P w).is s.heap k x) (hu : A.units + 8 < cLine) (hfew : L.length ≤ 3) {Q : Bool → Shared → Prop}
    (hQ : ∀ b h' L' es' ep' t', Heap.SameBut a s.heap h' → SetS P w h' a L' es' ep' t' → (L' = L ∧ k ∈ L.map (·.2)) ∨ L'.Perm ((x, k) :: L) → Q b { s with heap := h' }) :
    wpAny (model P w) A (setAddHashed a (.ref x) (shash P w k)) Q E s := by
  obtain ⟨o, ho, hex, hd⟩ := R.ob
  have h7 := R.m7
  unfold setAddHashed
  refine wpAny_holding ?_
  rw [show (100000 : Nat) = 99999 + 1 from rfl, setAddHashedIn_succ]
  refine wpAny_bind (wpAny_setState_of ho hd R.fits ?_)
  dsimp only
  refine wp_if_neg (by simp [byScan, Value.scannable]) ?_
  try refine wpAny_bind (wpAny_pure ?_)
  refine wpAny_bind (seekS0 R hx hu (fun hm => ?_) fun K hK hb => ?_)
  · dsimp only
    exact wpAny_pure (hQ false s.heap L es ep t (Heap.SameBut.refl a s.heap) R (.inl ⟨rfl, hm⟩))
  · dsimp only
    refine wpAny_bind (wpAny_setState_of ho hd R.fits ?_)
    dsimp only
    obtain ⟨q1, q2, q3, q4, q5, q6, q7, q8, q9⟩ := R.tab.put hK hb
    have hp1 : (t.put (way t.mask (shash P w k) K)).1.plain = true := by rw [q6]; exact R.plain
    generalize hpt : t.put (way t.mask (shash P w k) K) = pt at q1 q3 q4 q5 q6 q7 q8 q9 hp1 ⊢
    obtain ⟨t1, p⟩ := pt
    dsimp only at q1 q3 q4 q5 q6 q7 q8 q9 hp1 ⊢
    subst q1
    first
      | (refine wpAny_bind ?_; refine wp_if_pos hp1 ?_; refine spot_hash hx ?_)
      | refine wp_if_pos hp1 (wpAny_bind (spot_hash hx ?_))
    simp only [if_true]
    generalize hpp : SetTable.below t.place (way t.mask (shash P w k) K) = p at q2 q3 ⊢
    have hin : (SetTable.insertAt es p (shash P w k, Value.ref x)).toList = rowS P w (L.take p ++ (x, k) :: L.drop p) := by
      rw [SetTable.toList_insertAt, R.rows]
      unfold rowS
      rw [List.map_append, List.map_cons, List.map_take, List.map_drop]
    have pm := put_perm L p (x, k)
    have hlen : (L.take p ++ (x, k) :: L.drop p).length = L.length + 1 := pm.length_eq
    have hhs : (L.take p ++ (x, k) :: L.drop p).map (fun p => shash P w p.2) = (L.map fun p => shash P w p.2).take p ++ shash P w k :: (L.map fun p => shash P w p.2).drop p := by
      rw [List.map_append, List.map_cons, List.map_take, List.map_drop]
    rw [← hhs] at q3
    have hes : (SetTable.insertAt es p (shash P w k, Value.ref x)).size = L.length + 1 := by
      have h := congrArg List.length hin
      unfold rowS at h
      rwa [Array.length_toList, List.length_map, hlen] at h
    generalize SetTable.insertAt es p (shash P w k, Value.ref x) = es1 at hin hes ⊢
    generalize L.take p ++ (x, k) :: L.drop p = L1 at pm hlen q3 hin
    refine wpAny_bind (wpAny_storeSet_of ho hd ?_ (by rw [hes, sizeLine_eq]; omega))
    have sb : Heap.SameBut a s.heap (s.heap.update a (Obj.putSet es1 t1)) := Heap.SameBut.update ..
    have ho1 := store_at (es' := es1) (t' := t1) ho hd
    generalize s.heap.update a (Obj.putSet es1 t1) = h1 at sb ho1 ⊢
    have key1 : ∀ p ∈ L1, (spotKind P w).is h1 p.2 p.1 := fun p hp => by
      rcases List.mem_cons.mp (pm.mem_iff.mp hp) with e | hp
      · rw [e]; exact is_same hx ho hd sb
      · exact is_same (R.key p hp) ho hd sb
    have hf : ¬ t1.tooFull = true := by
      unfold SetTable.tooFull
      rw [decide_eq_true_eq, q9, List.length_map, q4]
      omega
    first
      | refine wp_if_neg (by simp [hf]) ?_
      | (refine wpAny_bind ?_; refine wp_if_neg (by simp [hf]) ?_; refine wpAny_pure ?_)
    exact wpAny_pure (hQ true h1 L1 es1 (ep + 1) t1 sb ⟨⟨_, ho1, ⟨hex.1, hex.2.1, hex.2.2⟩, rfl⟩, hin, q3, key1, hp1, by rw [q5]; exact R.led, by rw [q4]; exact h7, by rw [hlen]; omega⟩ (.inr pm))
end
end SL
end PtK2h
/-! part K2i -/
section PtK2i
/-! K2i: set(xs), sorted of it: the rule. -/
namespace SL
open PySem PySem.Spec PyProof.Rows L2
/-- what the set has of the first i items -/
structure Has (ks : List (Addr × Spot)) (i : Nat) (L : List (Addr × Spot)) : Prop where
  sub : ∀ p ∈ L, p ∈ ks.take i
  all : ∀ p ∈ ks.take i, p.2 ∈ L.map (·.2)
  len : L.length ≤ i
theorem Has.next {ks L L' : List (Addr × Spot)} {i : Nat} {x : Addr × Spot} (g : Has ks i L) (h : ks[i]? = some x) (c : (L' = L ∧ x.2 ∈ L.map (·.2)) ∨ L'.Perm (x :: L)) : Has ks (i + 1) L' := by
  have et : ks.take (i + 1) = ks.take i ++ [x] := by rw [List.take_succ, h] <;> rfl
  rcases c with ⟨e, hm⟩ | pm
  · subst e
    refine ⟨fun p hp => ?_, fun p hp => ?_, Nat.le_succ_of_le g.len⟩
    · rw [et]
      exact List.mem_append_left _ (g.sub p hp)
    · rw [et] at hp
      rcases List.mem_append.mp hp with z | z
      · exact g.all p z
      · rw [List.mem_singleton.mp z]; exact hm
  · refine ⟨fun p hp => ?_, fun p hp => ?_, ?_⟩
    · rw [et]
      rcases List.mem_cons.mp (pm.mem_iff.mp hp) with e | z
      · rw [e]; exact List.mem_append_right _ (List.mem_singleton.mpr rfl)
      · exact List.mem_append_left _ (g.sub p z)
    · rw [(pm.map (·.2)).mem_iff, List.map_cons]
      rw [et] at hp
      rcases List.mem_append.mp hp with z | z
      · exact List.mem_cons_of_mem _ (g.all p z)
      · rw [List.mem_singleton.mp z]; exact List.mem_cons_self
    · rw [pm.length_eq, List.length_cons]
      exact Nat.succ_le_succ g.len
section
variable {P : Program} {w : World} {A : Around} {E : Value → Shared → Prop} {s : Shared}
theorem is_keep {h h' : Heap} {k : Spot} {b : Addr} (x : (spotKind P w).is h k b) (hk : ∀ c o, h.get? c = some o → h'.get? c = some o) : (spotKind P w).is h' k b := spotKind_stays.stays (fun c u _ _ e _ => hk c u e) x
theorem setS_fresh {h : Heap} {a : Addr} (ho : h.get? a = some { cls := .type "set", dict := none, data := .set #[] 0 (.fresh 0 0 (!w.params.followText "set-order")) }) : SetS P w h a [] #[] 0 (.fresh 0 0 (!w.params.followText "set-order")) where
  ob := ⟨_, ho, ⟨rfl, rfl, rfl⟩, rfl⟩
  rows := rfl
  tab := ⟨List.Pairwise.nil, rfl, rfl, .inl rfl, fun x hx => (by cases hx), fun i h j hi => (by simp at hi)⟩
  key := fun p hp => (by cases hp)
  plain := rfl
  led := by
    show _ ∨ (!w.params.followText "set-order") = true
    cases w.params.followText "set-order"
    · exact .inr rfl
    · exact .inl rfl
  m7 := rfl
  few := Nat.zero_le _
theorem updS {I : Addr} {fp wr : List Addr} {G : Array GenState → Array GenState → Prop} {n : Nat} {Pv : Nat → Value → Prop} {St : Nat → Shared → Prop} {R : Result → Shared → Prop}
    (W : WalksS P w A.in1 I fp wr G n Pv St) (S : Addr) (hSf : S ∉ fp) (ks : List (Addr × Spot)) (hn : n = ks.length) (hfew : ks.length ≤ 3) (hval : ∀ i v, Pv i v → ∃ p, ks[i]? = some p ∧ v = .ref p.1)
    (h0 : Heap) (hk : ∀ p ∈ ks, (spotKind P w).is h0 p.2 p.1) (hS0 : h0.get? S = none) (hw0 : ∀ b ∈ wr, h0.get? b = none) (hu : A.in1.units + 8 < cLine) :
    ∀ (k i : Nat) (s : Shared), n - i = k → i ≤ n → St i s → (∀ b o, h0.get? b = some o → s.heap.get? b = some o) → (∃ L es ep t, SetS P w s.heap S L es ep t ∧ Has ks i L) →
      (∀ s' L es ep t, Moved (S :: wr) G s s' → SetS P w s'.heap S L es ep t → Has ks n L → (∀ b o, h0.get? b = some o → s'.heap.get? b = some o) → R (.ok (.ret .none)) s') →
      codeAny (model P w) A (.builtin "set.update.loop" ⟨[.ref S, .ref I], []⟩) R s := by
  have hSw : S ∉ wr := fun h => hSf (W.sub _ h)
  have hsub : ∀ b ∈ wr, b ∈ S :: wr := fun b hb => List.mem_cons_of_mem _ hb
  have keepM : ∀ {s s' : Shared}, Moved wr G s s' → (∀ b o, h0.get? b = some o → s.heap.get? b = some o) → ∀ b o, h0.get? b = some o → s'.heap.get? b = some o := fun hm hkp b o e =>
    hm.heap b o (fun hb => by rw [hw0 b hb] at e; cases e) (hkp b o e)
  intro k
  induction k with
  | zero =>
    intro i s hk' hi hst hkp ⟨L, es, ep, t, hS, g⟩ hR
    have hin : i = n := by omega
    subst hin
    refine codeAny_builtin F.entry_set_update_loop ?_
    rw [Around.under_plainId F.plain_set_update_loop _]
    show wpAny _ A.in1 (pyNext (.ref I) >>= _) _ _ s
    refine wpAny_bind (W.done s _ _ hst fun s' hm => ?_)
    show wpAny _ A.in1 (ret Value.none) _ _ s'
    have hkp' := keepM hm hkp
    have sub : ∀ p ∈ L, p ∈ ks := fun p hp => List.mem_of_mem_take (g.sub p hp)
    exact wpAny_pure (hR s' L es ep t (hm.mono hsub) (hS.keep (fun o e => hm.heap S o hSw e) fun p hp => is_keep (hk p (sub p hp)) hkp') g hkp')
  | succ k ih =>
    intro i s hk' hi hst hkp ⟨L, es, ep, t, hS, g⟩ hR
    have hlt : i < n := by omega
    refine codeAny_builtin F.entry_set_update_loop ?_
    rw [Around.under_plainId F.plain_set_update_loop _]
    show wpAny _ A.in1 (pyNext (.ref I) >>= _) _ _ s
    refine wpAny_bind (W.item i s _ _ hlt hst fun v s' hP hst' hm => ?_)
    obtain ⟨p, hp, rfl⟩ := hval i v hP
    have hkp' := keepM hm hkp
    have sub : ∀ p ∈ L, p ∈ ks := fun p hp => List.mem_of_mem_take (g.sub p hp)
    have hS' : SetS P w s'.heap S L es ep t := hS.keep (fun o e => hm.heap S o hSw e) fun q hq => is_keep (hk q (sub q hq)) hkp'
    have hx : (spotKind P w).is s'.heap p.2 p.1 := is_keep (hk p (List.mem_of_getElem? hp)) hkp'
    show wpAny _ A.in1 (holding [Value.ref p.1] (setAdd S (.ref p.1)) >>= _) _ _ s'
    refine wpAny_bind (wpAny_holding ?_)
    unfold setAdd
    refine wpAny_holding ?_
    refine wpAny_bind ((spotKind P w).pyHash hu hx ?_)
    refine addS (s := { s' with toks := s'.toks + (spotKind P w).draws p.2 }) hS' hx hu (by have := g.len; omega) fun b h' L' es' ep' t' hsb hS2 c1 => ?_
    have g' : Has ks (i + 1) L' := g.next hp c1
    have hkp2 : ∀ b o, h0.get? b = some o → h'.get? b = some o := fun b o e => (hsb.2 b (fun z => by rw [z, hS0] at e; cases e)).trans (hkp' b o e)
    refine wpAny_pure ⟨plainId_quiet F.plain_set_update_loop _, ih (i + 1) _ (by omega) hlt (W.frame _ s' _ _ hst' (Nat.le_add_right _ _) fun b hb o e => ?_) hkp2 ⟨L', es', ep', t', hS2, g'⟩ fun s'' L2 es2 ep2 t2 hm'' hS'' g'' hkp'' => ?_⟩
    · rw [hsb.2 b (fun h : b = S => hSf (by rw [← h]; exact hb))]; exact e
    · refine hR s'' L2 es2 ep2 t2 (Moved.trans W.gtrans ((hm.mono hsub).then_heap (Nat.le_add_right _ _) fun b o hb e => ?_) hm'') hS'' g'' hkp''
      rw [hsb.2 b (fun h : b = S => hb (by rw [h]; exact List.mem_cons_self))]; exact e
/-- set(xs) -/
theorem newS {l : Addr} {items : Array Value} (ks : List (Addr × Spot)) {Q : Value → Shared → Prop} (hh : A.handled = none) (hl : s.heap.IsList l items) (hit : items.toList = ks.map fun p => Value.ref p.1)
    (hk : ∀ p ∈ ks, (spotKind P w).is s.heap p.2 p.1) (hfew : ks.length ≤ 3) (hu : A.units + 16 < cLine)
    (h : ∀ (h' : Heap) (tk : Nat) L es ep t, SetS P w h' s.heap.objs.size L es ep t → Has ks ks.length L → (∀ b o, s.heap.get? b = some o → h'.get? b = some o) → Q (.ref s.heap.objs.size) { s with heap := h', toks := tk }) :
    wpAny (model P w) A (call (.type "set") [.ref l]) Q E s := by
  have hisz : items.size = ks.length := by
    have q := congrArg List.length hit
    rwa [Array.length_toList, List.length_map] at q
  obtain ⟨c, tl, hmro⟩ := F.called_set.mro
  have hmade := F.called_set.made
  have hsub := F.called_set.sub
  refine wpAny_call (codeAny_of_tree ?_)
  show wpAny _ _ (callAny (.type "set") _) _ _ _
  refine wpAny_pure ⟨Code.quiet_builtin _ (by decide +kernel), codeAny_builtin F.entry_type_call ?_⟩
  rw [Around.under_plain (weight_type_call_type "set" [.ref l] []) rfl]
  have h1 := F.called_set.notType
  have h2 := F.called_set.canCreate
  have hct := F.typeCall_set_1 (.ref l)
  repeat (any_goals (first | assumption | wp_step))
  refine codeAny_mono (code_set_led1 (.ref l) (E := E) (Q₁ := fun obj s₁ => obj = .ref s.heap.objs.size ∧ s₁ = { s with heap := s.heap.push { cls := .type "set", dict := none, data := .set #[] 0 (.fresh 0 0 (!w.params.followText "set-order")) } }) ⟨rfl, rfl⟩) fun r s₁ hr => ?_
  cases r with
  | error e => exact hr
  | ok fl =>
    cases fl with
    | ret obj =>
      obtain ⟨rfl, rfl⟩ := hr
      have hS : (s.heap.push { cls := .type "set", dict := none, data := .set #[] 0 (.fresh 0 0 (!w.params.followText "set-order")) }).get? s.heap.objs.size = some { cls := .type "set", dict := none, data := .set #[] 0 (.fresh 0 0 (!w.params.followText "set-order")) } := Heap.get?_push_size _ rfl
      have hT : Shared.TypeIs { s with heap := s.heap.push { cls := .type "set", dict := none, data := .set #[] 0 (.fresh 0 0 (!w.params.followText "set-order")) } } (.ref s.heap.objs.size) "set" := ⟨_, hS, rfl⟩
      have hli := F.called_set.init.lookup
      have hbi := F.called_set.init.bind (.ref s.heap.objs.size)
      repeat (any_goals (first | assumption | wp_step))
      refine codeAny_mono (codeAny_call_builtin (R := wants (fun r s₂ => r = .none ∧ ∃ h' tk L es ep t, s₂ = { s with heap := h', toks := tk } ∧ SetS P w h' s.heap.objs.size L es ep t ∧ Has ks ks.length L ∧
          (∀ b o, s.heap.get? b = some o → h'.get? b = some o)) E) F.called_set.init.plain F.entry_set_init (check_set_init_1 hT ?_)) fun r₂ s₂ hr₂ => ?_
      · obtain ⟨ol, hol, hcl, nl, hdl⟩ := hl
        obtain ⟨ocls, odict, odata, oslots⟩ := ol
        simp only at hcl hdl
        subst hcl; subst hdl
        have hol' : (s.heap.push { cls := .type "set", dict := none, data := .set #[] 0 (.fresh 0 0 (!w.params.followText "set-order")) }).get? l = some { cls := .type "list", dict := odict, data := .seq items nl, slots := oslots } := Heap.get?_push_of_some _ hol
        have hsls := F.sub_list_set
        have hslf := F.sub_list_frozenset
        have hne : (Value.type "list" == Value.type "dict") = false := by decide
        have hl1 : (s.heap.push { cls := .type "set", dict := none, data := .set #[] 0 (.fresh 0 0 (!w.params.followText "set-order")) }).IsList l items := ⟨_, hol', rfl, nl, rfl⟩
        unfold Builtin.«set.__init__» noKeywords Builtin.Frozenset.updateFrom
        generalize hPI : pyIter = PI
        wp_walk
        subst hPI
        refine wpAny_pyIter_list hl1 ?_
        refine wpAny_bind (wpAny_runValue ?_)
        have hlS : l < s.heap.objs.size := Heap.lt_size hol
        have hh3 : A.in1.in1.in1.handled = none := by simp [hh]
        have hz1 : (s.heap.push { cls := .type "set", dict := none, data := .set #[] 0 (.fresh 0 0 (!w.params.followText "set-order")) }).objs.size = s.heap.objs.size + 1 := Heap.size_push ..
        have hneI : l ≠ (s.heap.push { cls := .type "set", dict := none, data := .set #[] 0 (.fresh 0 0 (!w.params.followText "set-order")) }).objs.size := by
          rw [hz1]; exact Nat.ne_of_lt (Nat.lt_succ_of_lt hlS)
        have hSf : s.heap.objs.size ∉ [(s.heap.push { cls := .type "set", dict := none, data := .set #[] 0 (.fresh 0 0 (!w.params.followText "set-order")) }).objs.size, l] := by
          rw [hz1]; simp only [List.mem_cons, List.mem_singleton, List.not_mem_nil, or_false, not_or]
          exact ⟨Nat.ne_of_lt (Nat.lt_succ_self _), Nat.ne_of_gt hlS⟩
        have hval : ∀ (i : Nat) (v : Value), items[i]? = some v → ∃ p, ks[i]? = some p ∧ v = .ref p.1 := fun i v hv => by
          have q : items.toList[i]? = some v := by rw [Array.getElem?_toList]; exact hv
          rw [hit, List.getElem?_map] at q
          cases hq : ks[i]? with
          | none => rw [hq] at q; cases q
          | some p =>
            rw [hq] at q
            exact ⟨p, rfl, (Option.some.inj q).symm⟩
        have none_of : ∀ b, s.heap.objs.size ≤ b → s.heap.get? b = none := fun b hb => by
          cases q : s.heap.get? b with
          | none => rfl
          | some o => exact absurd (Nat.lt_of_lt_of_le (Heap.lt_size q) hb) (Nat.lt_irrefl _)
        refine updS ((Walks.list hh3 _ l hneI items).toS) s.heap.objs.size
          hSf ks hisz hfew hval s.heap hk (none_of _ (Nat.le_refl _)) (fun b hb => none_of b (by
            rw [List.mem_singleton.mp hb, hz1]
            exact Nat.le_succ _)) (show A.units + 3 + 8 < cLine by omega) (items.size - 0) 0 _ (by omega) (Nat.zero_le _)
          ⟨⟨_, Heap.get?_push_size _ rfl, rfl, rfl⟩, (hl1.push _)⟩ (fun b o e => Heap.get?_push_of_some _ (Heap.get?_push_of_some _ e)) ?hS0 ?hR
        case hS0 =>
          have hget := Heap.get?_push_of_some { cls := .type "list_iterator", data := .fields #[.ref l, .int 0 0] } hS
          exact ⟨[], #[], 0, _, setS_fresh hget, ⟨fun p h => (by cases h), fun p h => (by simp at h), Nat.le_refl _⟩⟩
        case hR =>
          intro s' L es ep t hm hS' g' hkp
          obtain ⟨h', g2, d', tk', os'⟩ := s'
          have eg : g2 = s.gens := hm.gens
          have ed : d' = s.drawn := hm.drawn
          have eo : os' = s.os := hm.os
          subst eg; subst ed; subst eo
          show wpAny _ _ _ _ _ _
          refine wpAny_pure ?_
          show wpAny _ _ (ret Value.none) _ _ _
          rw [hisz] at g'
          exact wpAny_pure ⟨rfl, h', tk', L, es, ep, t, rfl, hS', g', hkp⟩
      · cases r₂ with
        | error e => exact hr₂
        | ok fl₂ =>
          cases fl₂ with
          | ret r =>
            obtain ⟨rfl, h', tk, L, es, ep, t, rfl, hS', g', hk'⟩ := hr₂
            repeat (any_goals (first | assumption | wp_step))
            exact h _ _ _ _ _ _ hS' g' hk'
          | _ => exact hr₂.elim
    | _ => exact hr.elim
end
end SL
end PtK2i
/-! part K2j -/
section PtK2j
/-! K2j: sorted(set(xs)): the rule. -/
namespace SL
open PySem PySem.Spec PyProof.Rows L2
/-- items and their spots -/
theorem rows_of {X : Cx} {pins : List (Addr × Obj)} {σ : L2.St} {H : Hp} {s : Shared} (I : Inv X pins σ H s) : ∀ {vs : List V} {us : List Value} {ss : List Spot}, Paired (IsSp H) vs ss → Vals vs us →
    ∃ ks : List (Addr × Spot), us = ks.map (fun p => Value.ref p.1) ∧ ks.map (·.2) = ss ∧ ∀ p ∈ ks, IsSp H (.ref p.1) p.2
  | _, _, _, .nil, .nil => ⟨[], rfl, rfl, fun _ h => nomatch h⟩
  | _, _, _, .cons h t, .cons r q => by
    obtain ⟨a, p, e, z⟩ := id h
    subst e
    cases r
    obtain ⟨ks, e1, e2, e3⟩ := rows_of I t q
    refine ⟨(a, _) :: ks, by rw [List.map_cons, e1], by rw [List.map_cons, e2], fun p hp => ?_⟩
    rcases List.mem_cons.mp hp with e | hp
    · rw [e]; exact h
    · exact e3 p hp
/-- sorted(set(xs)) -/
def tSrtSet (ta : TE) : TE := fun σ H Q => ta σ H fun x H1 => ∃ (l : Addr) (ss : List Spot), x = .ref l ∧ SpL H1 l ss ∧ ss.length ≤ 3 ∧ ∀ p H' ts, H1 p = none → Same H1 H' → SpL H' p ts → ts.length ≤ 4 → (∀ s, s ∈ ts ↔ s ∈ ss) → Q (.ref p) H'
theorem pe_srtset {X : Cx} {a : Expr} {ta : TE} {p p2 q pos : Pos} (hg : Gl X "sorted") (hm : X.mg "sorted" = none) (hg2 : Gl X "set") (hm2 : X.mg "set" = none) (ha : PE X a ta) (hu : X.A.units + 64 < cLine) (hc : X.calm = true := by rfl)
    (na : starEach [a] X.env = (false, eval a X.env) :: starEach [] X.env := by rfl) : PE X (.Call (.Name "sorted" p) [.Call (.Name "set" p2) [a] [] q] [] pos) (tSrtSet ta) := by
  refine ⟨fun pins s σ H Q I h => ?_⟩
  refine Call_ (ld_blt I hg hm (by decide +kernel : bootBuiltins "sorted" = some (.builtin "sorted")) ?_)
  refine PyProof.Rows.callWith_builtin1 (PyProof.Rows.args_cons ?_ rfl) rfl rfl
  refine Call_ (ld_blt I hg2 hm2 boot_set ?_)
  refine PyProof.Rows.callWith_type1 (PyProof.Rows.args_cons (thn (ha.run pins s σ H _ I h) fun v s1 ⟨x, H1, I1, r1, q1⟩ => PyProof.Rows.args_nil ?_) na) na rfl
  obtain ⟨l, ss, rfl, ⟨vs, e, hp⟩, hl, q1⟩ := q1
  cases r1
  obtain ⟨z, its, n, rv, ho⟩ := I1.hok l _ e
  obtain ⟨ks, e1, e2, e3⟩ := rows_of I1 hp rv
  have hkl : ks.length ≤ 3 := by
    have q := congrArg List.length e2
    rw [List.length_map] at q
    omega
  have hd : X.A.handled = none := I1.ok.hd hc
  refine newS (items := its.toArray) ks hd ⟨_, ho, rfl, n, rfl⟩ (by simpa using e1) (fun p hp => (e3 p hp).key I1.hok) hkl (by omega) fun h' tk L es ep t R g hk => ?_
  refine PyProof.Rows.args_nil ?_
  have I2 : Inv X pins σ H1 { s1 with heap := h', toks := tk } := I1.kept fun b o e => hk b o e
  have hx := R.ob
  obtain ⟨o, ho2, hex, hdt⟩ := hx
  refine Calls.call_function_entry kind_sorted plain_sorted entry_sorted (args_sorted1 _) ?_
  unfold Builtin.«sorted»
  refine wpAny_bind (m := checkCount "sorted" 1 1 _) (wpAny_pure ?_)
  have hes : es.toList.map (·.2) = L.map fun q => Value.ref q.1 := by
    rw [R.rows]
    unfold rowS
    rw [List.map_map] <;> rfl
  refine wpAny_bind (collect_set (s := { s1 with heap := h', toks := tk }) (A := X.A.in1) hd ⟨o, ho2, hex.1, hdt⟩ (SetS.fits (s := { s1 with heap := h', toks := tk }) R) (by have := SetS.size (s := { s1 with heap := h', toks := tk }) R; have := R.few; unfold scanBound; show es.size < _; omega) R.tab.ris R.led fun s2 us k1 hz g1 o1 pm => ?_)
  rw [hes] at pm
  have sub : ∀ q ∈ L, q ∈ ks := fun q hq => List.mem_of_mem_take (g.sub q hq)
  have I3 : Inv X pins σ H1 s2 := by
    exact Inv.call' (ch := []) I2 o1 (Un.kept k1) (I2.hok.kept k1) (by rw [g1]; exact I2.bare) (fun _ z => nomatch z)
  have ord : ∀ us : List Value, (∀ v ∈ us, ∃ q ∈ L, v = Value.ref q.1) → ∃ ts : List (Addr × Spot), us = ts.map (fun q => Value.ref q.1) ∧ ∀ q ∈ ts, q ∈ L := by
    intro us
    induction us with
    | nil => intro _; exact ⟨[], rfl, fun q hq => (by cases hq)⟩
    | cons v vs ih =>
      intro hv
      obtain ⟨q, hq, e⟩ := hv v List.mem_cons_self
      obtain ⟨ts, e1, hs⟩ := ih fun u hu => hv u (List.mem_cons_of_mem _ hu)
      refine ⟨q :: ts, by rw [List.map_cons, e, e1], fun r hr => ?_⟩
      rcases List.mem_cons.mp hr with z | z
      · rw [z]; exact hq
      · exact hs r z
  obtain ⟨ts, et, hts⟩ := ord us fun v hv => by
    obtain ⟨q, hq, e⟩ := List.mem_map.mp (pm.mem_iff.mp hv)
    exact ⟨q, hq, e.symm⟩
  have each : ∀ ts : List (Addr × Spot), (∀ q ∈ ts, IsSp H1 (.ref q.1) q.2) → PySem.W.EachIs (VSp H1) (ts.map fun q => Value.ref q.1) (ts.map (·.2)) := by
    intro ts
    induction ts with
    | nil => intro _; exact .nil
    | cons q ts ih => exact fun h => .cons ⟨q.1, rfl, h q List.mem_cons_self⟩ (ih fun r hr => h r (List.mem_cons_of_mem _ hr))
  have ev := each ts fun q hq => e3 q (sub q (hts q hq))
  rw [← et] at ev
  have hlen : us.length ≤ 4 := by
    rw [pm.length_eq, List.length_map]
    exact R.few
  have hlen2 : (ts.map (·.2)).length ≤ sizeLine := by
    have := len_each ev
    rw [sizeLine_eq]
    omega
  refine sort_tail ev (vsp_reads0 I3.hok ev) hlen2 (by show X.A.units + 1 + 8 < cLine; omega) fun h2 out c hk2 ho3 eo => ?_
  obtain ⟨H', I4, hn, sm, sp⟩ := sort_laid (tk := s2.toks) I3 hk2 (Nat.le_refl _) ho3 eo hlen2
  refine ⟨_, rfl, .ref _, H', I4, rfl, q1 _ H' _ hn sm sp (by rw [(srt_perm _).length_eq, ← len_each ev]; exact hlen) fun s => ?_⟩
  rw [(srt_perm _).mem_iff, ← e2]
  constructor
  · intro hs
    obtain ⟨q, hq, e⟩ := List.mem_map.mp hs
    exact List.mem_map.mpr ⟨q, sub q (hts q hq), e⟩
  · intro hs
    obtain ⟨q, hq, e⟩ := List.mem_map.mp hs
    have h1 := g.all q (by rw [List.take_length]; exact hq)
    rw [e] at h1
    obtain ⟨r, hr, er⟩ := List.mem_map.mp h1
    have h2 : Value.ref r.1 ∈ us := pm.mem_iff.mpr (List.mem_map.mpr ⟨r, hr, rfl⟩)
    rw [et] at h2
    obtain ⟨y, hy, ey⟩ := List.mem_map.mp h2
    injection ey with ey
    have a1 := R.key r hr
    have a2 := R.key y (hts y hy)
    rw [← ey] at a1
    have e4 := (spotKind X.prog X.w).inj a1 a2
    exact List.mem_map.mpr ⟨y, hy, by rw [← e4]; exact er⟩
end SL
end PtK2j
/-! part K3 -/
section PtK3
/-! K3: steps through readings, the heaps opaque. -/
namespace SL
open PySem PySem.Spec PyProof.Rows L2
section
variable {K : PySem.W.Frag} {σ : L2.St} {H H' : Hp} {Q : VK} {D : Ends} {v x y : V} {i j : Int} {a l : Addr} {xs ys zs : List V}
/-! ### heaps -/
theorem But.lst {t : Addr} {H H' : Hp} {xs : List V} (h : But t H H') (ht : H t = some (.lst xs)) : TK H H' := h.tk ht
/-- what was not there at H0 changes -/
theorem _root_.L2.Same.but {H0 H H' : Hp} {t : Addr} (s : L2.Same H0 H) (b : But t H H') (h : H0 t = none) : Same H0 H' := fun c o e => b c o (s c o e) (fun z => by rw [z, h] at e; cases e)
theorem Same.ne {H H' : Hp} {p b : Addr} {o : HO} (h : H p = none) (e : H b = some o) : b ≠ p := fun z => by rw [z, h] at e; cases e
theorem But.same {H0 H H' : Hp} {t : Addr} (b : But t H0 H) (s : Same H H') : But t H0 H' := fun c o e n => s c o (b c o e n)
theorem But.two {H0 H H' : Hp} {t p : Addr} (b : But t H0 H) (s : But p H H') (hp : H0 p = none) : But t H0 H' := fun c o e n => s c o (b c o e n) (fun z => by rw [z, hp] at e; cases e)
theorem Same.none {H H' : Hp} (s : Same H H') {p : Addr} (h : H' p = none) : H p = none := s.free h
/-! ### steps -/
theorem w_seq {t u : TS} (h : t { D with nx := u D } σ H) : tSeq t u D σ H := h
theorem w_next (h : D.nx σ H) : tNext D σ H := h
theorem w_asg {te : TE} {g : TG} (h : te σ H fun x H1 => g x σ H1 D.nx) : tAsg te g D σ H := h
theorem w_name {n : Nat} {Q : L2.St → Hp → Prop} (h : Q (σ.set n (some v)) H) : gName n v σ H Q := h
theorem w_var {n : Nat} (h : σ[n]? = some (some v)) (q : Q v H) : tVar n σ H Q := ⟨v, h, q⟩
theorem w_c (q : Q v H) : tC v σ H Q := q
theorem w_op {r : R2} {ta tb : TE} (h : ta σ H fun x H1 => tb σ H1 fun y H2 => r x y H2 Q) : tOp r ta tb σ H Q := h
theorem w_un {r : V → Hp → VK → Prop} {ta : TE} (h : ta σ H fun x H1 => r x H1 Q) : tUn r ta σ H Q := h
theorem w_rU {g : Int → V} (q : Q (g i) H) : rU g (.int i) H Q := ⟨i, rfl, q⟩
theorem w_rI0 {g : Int → Int → V} (q : Q (g i j) H) : rI0 g (.int i) (.int j) H Q := ⟨i, j, rfl, rfl, q⟩
theorem w_rI {C : Int → Int → Prop} {g : Int → Int → V} (c : C i j) (q : Q (g i j) H) : rI C g (.int i) (.int j) H Q := ⟨i, j, rfl, rfl, c, q⟩
theorem w_rEq (c : scal x y = true) (q : Q (.bl (decide (x = y))) H) : rEq x y H Q := ⟨c, q⟩
theorem w_rNe (c : scal x y = true) (q : Q (.bl (!decide (x = y))) H) : rNe x y H Q := ⟨c, q⟩
theorem w_test {t : TE} {Q : Bool → Hp → Prop} (h : t σ H fun x H' => ∃ k, x = .bl k ∧ Q k H') : tTest t σ H Q := h
theorem w_tb {t : TE} {Q : Bool → Hp → Prop} (h : t σ H fun x H' => ∃ k, x = .bl k ∧ Q k H') : tB t σ H Q := h
theorem w_bl {k : Bool} {Q : Bool → Hp → Prop} (q : Q k H) : ∃ k', V.bl k = .bl k' ∧ Q k' H := ⟨k, rfl, q⟩
theorem w_ifs {c : TT} {t u : TS} (h : c σ H fun b H1 => if b = true then t D σ H1 else u D σ H1) : tIfS c t u D σ H := h
theorem w_not {t : TT} {Q : Bool → Hp → Prop} (h : t σ H fun c H1 => Q (!c) H1) : tNot t σ H Q := h
theorem w_and {t u : TT} {Q : Bool → Hp → Prop} (h : t σ H fun c H1 => if c = true then u σ H1 Q else Q false H1) : tAnd t u σ H Q := h
theorem w_or {t u : TT} {Q : Bool → Hp → Prop} (h : t σ H fun c H1 => if c = true then Q true H1 else u σ H1 Q) : tOr t u σ H Q := h
theorem w_andV {ta tb : TE} (h : ta σ H fun x H1 => ∃ c, x = .bl c ∧ if c = true then tb σ H1 Q else Q (.bl false) H1) : tAndV ta tb σ H Q := h
theorem w_orV {ta tb : TE} (h : ta σ H fun x H1 => ∃ c, x = .bl c ∧ if c = true then Q (.bl true) H1 else tb σ H1 Q) : tOrV ta tb σ H Q := h
theorem w_notV {ta : TE} (h : ta σ H fun x H1 => ∃ c, x = .bl c ∧ Q (.bl (!c)) H1) : tNotV ta σ H Q := h
theorem w_blV {k : Bool} {A B : Prop} (q : if k = true then A else B) : ∃ c, V.bl k = .bl c ∧ if c = true then A else B := ⟨k, rfl, q⟩
theorem w_chain {r r' : R2} {ta tb tc : TE} (h : ta σ H fun x H1 => tb σ H1 fun y H2 => r x y H2 fun z H3 => ∃ k, z = .bl k ∧ (if k = true then tc σ H3 fun w' H4 => r' y w' H4 Q else Q (.bl false) H3)) : tChain r r' ta tb tc σ H Q := h
theorem w_isN {ta : TE} (h : ta σ H fun x H1 => Q (.bl (decide (x = .non))) H1) : tIsN ta σ H Q := h
theorem w_notN {ta : TE} (h : ta σ H fun x H1 => Q (.bl (!decide (x = .non))) H1) : tNotN ta σ H Q := h
theorem w_cons {ta : TE} {tr : TA} {Q : List V → Hp → Prop} (h : ta σ H fun x H1 => tr σ H1 fun xs H2 => Q (x :: xs) H2) : tCons ta tr σ H Q := h
theorem w_nil {Q : List V → Hp → Prop} (q : Q [] H) : tNil σ H Q := q
theorem w_cl {sp : Sp} {t : TA} (h : t σ H fun vs H1 => sp vs H1 Q E0) : tCl sp t σ H Q := h
theorem w_cb {r : List V → Hp → VK → Prop} {t : TA} (h : t σ H fun vs H1 => r vs H1 Q) : tCB r t σ H Q := h
theorem w_spf {α : Type} {args : α → List V} {pre : α → Hp → VK → Prop} {vs : List V} {E : XK} (x : α) (e : vs = args x) (h : pre x H Q) : SpF args pre vs H Q E := ⟨x, e, h⟩
theorem w_ret {te : TE} (h : te σ H D.rt) : tRet te D σ H := h
theorem w_drop {te : TE} (h : te σ H fun _ H1 => D.nx σ H1) : tDrop te D σ H := h
theorem w_yes {Q : Bool → Hp → Prop} (q : Q true H) : tYes σ H Q := q
theorem w_ift {A B : Prop} (h : A) : if true = true then A else B := iteT h
theorem w_iff {A B : Prop} (h : B) : if false = true then A else B := iteF h
/-- an attribute -/
theorem w_fld {ta : TE} {f : Str} (h : ta σ H fun x H1 => ∃ a C dx fs v, x = .ref a ∧ H1 a = some (.ins C dx fs) ∧ Cls K C ∧ NoAttr K C f ∧ fs.lookup f = some v ∧ Q v H1) : tFld K ta f σ H Q := h
theorem w_ins {f : Str} {C dx : Addr} {fs : List (Str × V)} (h : H a = some (.ins C dx fs)) (c : Cls K C) (n : NoAttr K C f) (l : fs.lookup f = some v) (q : Q v H) : ∃ a' C dx fs v, V.ref a = .ref a' ∧ H a' = some (.ins C dx fs) ∧ Cls K C ∧ NoAttr K C f ∧ fs.lookup f = some v ∧ Q v H :=
  ⟨a, C, dx, fs, v, rfl, h, c, n, l, q⟩
/-- a method, the class known -/
theorem w_m1 {C : Addr} {sp : Sp} {m : Str} {ta : TE} {t : TA} (h : ta σ H fun x H1 => ∃ a dx fs, x = .ref a ∧ H1 a = some (.ins C dx fs) ∧ fs.lookup m = none ∧ t σ H1 fun vs H2 => sp (x :: vs) H2 Q E0) : tM1 C sp m ta t σ H Q := h
/-- xs[i], t[i], i within -/
theorem w_ixL {n : Nat} (h : H a = some (.lst xs)) (e : xs[n]? = some v) (q : Q v H) : rIxL K (.ref a) (.int (n : Nat)) H Q := ⟨a, xs, _, v, rfl, rfl, SqL.of h, atI_nat e, q⟩
theorem w_ixT {n : Nat} (h : H a = some (.tup xs)) (e : xs[n]? = some v) (q : Q v H) : rIxT K (.ref a) (.int (n : Nat)) H Q := ⟨a, xs, _, v, rfl, rfl, SqT.of h, atI_nat e, q⟩
theorem w_ixLK {n : Nat} (h : SqL K H a xs) (e : xs[n]? = some v) (q : Q v H) : rIxL K (.ref a) (.int (n : Nat)) H Q := ⟨a, xs, _, v, rfl, rfl, h, atI_nat e, q⟩
theorem w_len {n : List V} (h : H a = some (.lst n)) (q : Q (.int n.length) H) : ∃ p ys, [V.ref a] = [.ref p] ∧ (SqL K H p ys ∨ SqT K H p ys) ∧ Q (.int ys.length) H := ⟨a, n, rfl, .inl (SqL.of h), q⟩
theorem w_lenT {n : List V} (h : H a = some (.tup n)) (q : Q (.int n.length) H) : ∃ p ys, [V.ref a] = [.ref p] ∧ (SqL K H p ys ∨ SqT K H p ys) ∧ Q (.int ys.length) H := ⟨a, n, rfl, .inr (SqT.of h), q⟩
/-- targets of two, three names -/
theorem w_two {i j : Nat} {T : Addr} {Q : L2.St → Hp → Prop} (h : H T = some (.tup [x, y])) (q : Q ((σ.set i (some x)).set j (some y)) H) : gTup K 2 (gCons (gName i) (gCons (gName j) gNil)) (.ref T) σ H Q :=
  ⟨T, _, rfl, SqT.of h, rfl, x, _, rfl, y, _, rfl, rfl, q⟩
theorem w_three {i j k : Nat} {T : Addr} {z : V} {Q : L2.St → Hp → Prop} (h : H T = some (.tup [x, y, z])) (q : Q (((σ.set i (some x)).set j (some y)).set k (some z)) H) : gTup K 3 (gCons (gName i) (gCons (gName j) (gCons (gName k) gNil))) (.ref T) σ H Q :=
  ⟨T, _, rfl, SqT.of h, rfl, x, _, rfl, y, _, rfl, z, _, rfl, rfl, q⟩
end
/-! ### rules with opaque heaps -/
/-- behind a change of the list at a -/
def Chg (H : Hp) (a : Addr) (xs : List V) (R : Hp → Prop) : Prop := ∀ H', But a H H' → TK H H' → (∀ b, H b = none → H' b = none) → H' a = some (.lst xs) → R H'
/-- behind a new object -/
def New (H : Hp) (o : HO) (R : Addr → Hp → Prop) : Prop := ∀ p H', H p = none → Same H H' → H' p = some o → R p H'
theorem New.upd {H : Hp} {o : HO} {R : Addr → Hp → Prop} (h : New H o R) : ∀ p, H p = none → R p (upd H p o) := fun p hp => h p _ hp (same_new hp) upd_same
theorem Chg.upd {H : Hp} {a : Addr} {ys xs : List V} {R : Hp → Prop} (e : H a = some (.lst ys)) (h : Chg H a xs R) : R (upd H a (.lst xs)) := h _ but_upd (tk_lst e) (fun b hb => by
  by_cases z : b = a
  · rw [z, e] at hb; cases hb
  · rw [upd_ne z]; exact hb) upd_same
def tTupO (t : TA) : TE := fun σ H Q => t σ H fun xs H1 => xs.length ≤ sizeLine ∧ New H1 (.tup xs) fun p H' => Q (.ref p) H'
def tLstO (t : TA) : TE := fun σ H Q => t σ H fun xs H1 => xs.length ≤ sizeLine ∧ New H1 (.lst xs) fun p H' => Q (.ref p) H'
section
variable {X : Cx} {es : List Expr} {t : TA} {pos : Pos}
theorem pe_tupO {x1} (h : PA X es t) : PE X (.Tuple es x1 pos) (tTupO t) := by
  refine ⟨fun pins s σ H Q I hq => ?_⟩
  refine wpAny_Tuple_spliced (thn (h.run pos pins s σ H _ I hq) fun us s1 ⟨xs, H1, I1, r, z, q⟩ => ⟨by rw [← r.length]; exact z, ?_⟩)
  have hf : H1 s1.heap.objs.size = none := I1.hok.fresh (Nat.le_refl _)
  exact ⟨.ref s1.heap.objs.size, upd H1 s1.heap.objs.size (.tup xs), I1.laid (t' := s1.toks) (fun b u e => Heap.get?_push_of_some _ e) (Nat.le_refl _) ⟨z, us, r, ⟨_, Heap.get?_push_size _ rfl, rfl, _, rfl⟩⟩, rfl, q.upd _ hf⟩
theorem pe_lstO (h : PA X es t) : PE X (.List es pos) (tLstO t) := by
  refine ⟨fun pins s σ H Q I hq => ?_⟩
  refine wpAny_List_spliced (thn (h.run pos pins s σ H _ I hq) fun us s1 ⟨xs, H1, I1, r, z, q⟩ => ⟨by rw [← r.length]; exact z, ?_⟩)
  have hf : H1 s1.heap.objs.size = none := I1.hok.fresh (Nat.le_refl _)
  exact ⟨.ref s1.heap.objs.size, upd H1 s1.heap.objs.size (.lst xs), I1.laid (t' := s1.toks) (fun b u e => Heap.get?_push_of_some _ e) (Nat.le_refl _) ⟨z, us, 0, r, Heap.get?_push_size _ rfl⟩, rfl, q.upd _ hf⟩
def rCatO : R2 := fun x y H Q => ∃ l b xs zs, x = .ref l ∧ y = .ref b ∧ H l = some (.lst xs) ∧ H b = some (.lst zs) ∧ xs.length + zs.length ≤ sizeLine ∧ New H (.lst (xs ++ zs)) fun p H' => Q (.ref p) H'
theorem op_catO : OpR X (binaryOp .Add) rCatO := fun pins s σ H x y v u Q I r1 r2 ⟨l, b, xs, zs, e1, e2, h1, h2, z, n⟩ => op_cat pins s σ H x y v u Q I r1 r2 ⟨l, b, xs, zs, e1, e2, h1, h2, z, n.upd⟩
def rCatTO : R2 := fun x y H Q => ∃ a b xs y', x = .ref a ∧ y = .ref b ∧ H a = some (.tup xs) ∧ H b = some (.tup [y']) ∧ xs.length < sizeLine ∧ (∀ p H', Same H H' → H' p = some (.tup (xs ++ [y'])) → Q (.ref p) H')
/-- t + (x,) -/
theorem op_catTO : OpR X (binaryOp .Add) rCatTO := fun pins s σ H x y v u Q I r1 r2 ⟨a, b, xs, y', e1, e2, h1, h2, z, n⟩ => op_catA pins s σ H x y v u Q I r1 r2 ⟨a, b, xs, [y'], e1, e2, SqT.of h1, SqT.of h2, z,
  fun e => n b H (Same.refl H) (by rw [h2, e]; rfl), fun _ e => (by cases e), fun _ _ p hp => n p _ (same_new hp) upd_same⟩
def rSlO (K : PySem.W.Frag) : V → Option Int → Option Int → Hp → VK → Prop := fun x lo hi H Q => ∃ a xs, x = .ref a ∧ SqL K H a xs ∧ New H (.lst (cutV xs lo hi)) fun p H' => Q (.ref p) H'
theorem sl_listO : SlR X (rSlO X.K) := fun pins s σ H x v vl vu lo hi sl Q I r h1 h2 h3 ⟨a, xs, e, h, n⟩ => sl_list pins s σ H x v vl vu lo hi sl Q I r h1 h2 h3 ⟨a, xs, e, h, n.upd⟩
def rAppO : V → List V → Hp → VK → Prop := fun x vs H Q => ∃ l xs y, x = .ref l ∧ vs = [y] ∧ H l = some (.lst xs) ∧ xs.length < sizeLine ∧ Chg H l (xs ++ [y]) (Q .non)
theorem mt_appO : MtM X "list.append" rAppO := fun pins s σ H x xs v us Q I r1 r2 ⟨l, ys, y, e1, e2, h, z, n⟩ => mt_append pins s σ H x xs v us Q I r1 r2 ⟨l, ys, y, e1, e2, h, z, n.upd h⟩
def rExtO : V → List V → Hp → VK → Prop := fun x vs H Q => ∃ l b xs zs, x = .ref l ∧ vs = [.ref b] ∧ H l = some (.lst xs) ∧ H b = some (.lst zs) ∧ xs.length + zs.length ≤ sizeLine ∧ Chg H l (xs ++ zs) (Q .non)
theorem mt_extO : MtM X "list.extend" rExtO := fun pins s σ H x xs v us Q I r1 r2 ⟨l, b, ys, zs, e1, e2, h1, h2, z, n⟩ => mt_extend pins s σ H x xs v us Q I r1 r2 ⟨l, b, ys, zs, e1, e2, h1, h2, z, n.upd h1⟩
def rRemO : V → List V → Hp → VK → Prop := fun x xs H Q => ∃ (l : Addr) (y : V) (s : Spot) (vs : List V) (ss : List Spot) (j : Nat), x = .ref l ∧ xs = [y] ∧ H l = some (.lst vs) ∧ Paired (IsSp H) vs ss ∧ IsSp H y s ∧ ss[j]? = some s ∧ (∀ m : Nat, m < j → ss[m]? ≠ some s) ∧ Chg H l (vs.eraseIdx j) (Q .non)
theorem mt_remO (hu : X.A.units + 65 < cLine) : MtM X "list.remove" rRemO := fun pins s σ H x xs v us Q I r1 r2 ⟨l, y, k, vs, ss, j, e1, e2, h1, h2, h3, h4, h5, n⟩ => mt_remSp hu pins s σ H x xs v us Q I r1 r2 ⟨l, y, k, vs, ss, j, e1, e2, h1, h2, h3, h4, h5, n.upd h1⟩
theorem ixN_nat0 {n j : Nat} (h : j < n) : ixN n (j : Int) = some j := by
  unfold ixN
  rw [if_pos (Int.natCast_nonneg j), if_pos (by omega)]
  rfl
def rSetO : V → V → V → Hp → (Hp → Prop) → Prop := fun o i v H Q => ∃ (p : Addr) (xs : List V) (k : Nat), o = .ref p ∧ i = .int (k : Nat) ∧ H p = some (.lst xs) ∧ k < xs.length ∧ Chg H p (xs.set k v) Q
theorem set_listO : PSet X rSetO := fun pins s σ H o i v ov iv u Q I r1 r2 r3 ⟨p, xs, k, e1, e2, h, z, n⟩ => set_list pins s σ H o i v ov iv u Q I r1 r2 r3 ⟨p, xs, k, k, e1, e2, h, ixN_nat0 z, n.upd h⟩
def rListO (K : PySem.W.Frag) : List V → Hp → VK → Prop := fun xs H Q => ∃ p ys, xs = [.ref p] ∧ (SqL K H p ys ∨ SqT K H p ys) ∧ New H (.lst ys) fun l H' => Q (.ref l) H'
theorem cr_listO : CallR X (.type "list") (rListO X.K) := fun pins s σ H xs us Q I r ⟨p, ys, e, h, n⟩ => call_list_of pins s σ H xs us Q I r ⟨p, ys, e, h, n.upd⟩
def rTupleO (K : PySem.W.Frag) : List V → Hp → VK → Prop := fun xs H Q => ∃ p ys, xs = [.ref p] ∧ H p = some (.lst ys) ∧ New H (.tup ys) fun l H' => Q (.ref l) H'
theorem cr_tupleO : CallR X (.type "tuple") (rTupleO X.K) := fun pins s σ H xs us Q I r ⟨p, ys, e, h, n⟩ => call_tuple_of pins s σ H xs us Q I r ⟨p, ys, e, .inl ⟨SqL.of h, n.upd⟩⟩
/-- isinstance of a value of the type T itself: int, list, tuple; an int is no bool -/
def rIsA (K : PySem.W.Frag) : List V → Hp → VK → Prop := fun xs H Q => (∃ i, xs = [.int i, .ty "int"] ∧ Q (.bl true) H) ∨ (∃ i, xs = [.int i, .ty "bool"] ∧ Q (.bl false) H) ∨ (∃ a ys, xs = [.ref a, .ty "list"] ∧ H a = some (.lst ys) ∧ Q (.bl true) H) ∨ ∃ a ys, xs = [.ref a, .ty "tuple"] ∧ H a = some (.tup ys) ∧ Q (.bl true) H
theorem cr_isA : CallR X (.builtin "isinstance") (rIsA X.K) := fun pins s σ H xs us Q I r h => call_isi pins s σ H xs us Q I r (by
  rcases h with ⟨i, e, q⟩ | ⟨i, e, q⟩ | ⟨a, ys, e, h, q⟩ | ⟨a, ys, e, h, q⟩
  · exact ⟨_, _, _, _, _, e, .ty _, .base (.int i), kit_ty (by decide +kernel), q⟩
  · exact ⟨_, _, _, _, _, e, .ty _, .base (.int i), kit_ty (by decide +kernel), q⟩
  · exact ⟨_, _, _, _, _, e, .ty _, .base (.lst h), kit_ty (by decide +kernel), q⟩
  · exact ⟨_, _, _, _, _, e, .ty _, .base (.tup h), kit_ty (by decide +kernel), q⟩)
end
/-! ### objects -/
def tMkO (C : Addr) (sp : Sp) (t : TA) : TE := fun σ H Q => t σ H fun vs H1 => ∀ x dx H2, H1 x = none → Same H1 H2 → H2 x = some (.ins C dx []) → sp (.ref x :: vs) H2 (fun v H3 => v = .non ∧ Q (.ref x) H3) E0
def sFldO (K : PySem.W.Frag) (ta tv : TE) (f : Str) : TS := fun D σ H => tv σ H fun y H1 => ta σ H1 fun x H2 => ∃ a C dx fs, x = .ref a ∧ H2 a = some (.ins C dx fs) ∧ Cls K C ∧ NoAttr K C f ∧ fs.length < 1000 ∧
  ∀ H', But a H2 H' → TK H2 H' → (∀ b, H2 b = none → H' b = none) → H' a = some (.ins C dx (putF f y fs)) → D.nx σ H'
section
variable {X : Cx} {k j : Nat} {C : Addr} {x f : Str} {sp : Sp} {p pos pos' : Pos} {e o value : Expr} {es : List Expr} {ta tv : TE} {t : TA}
theorem pe_mkO (c : Mak X.prog X.w X.K X.mg X.base k x C sp) (hr : Room j X.A) (hg : Gl X x) (ha : PA X (e :: es) t) (hk : k + 1 ≤ j := by first | decide | omega)
    (hdb : (x == ("__debug__" : Str)) = false := by decide) (he : starEach (e :: es) X.env = (false, eval e X.env) :: starEach es X.env := by rfl) (hpl : (backTo pos (starEach es X.env)).any (·.1) = false := by rfl) :
    PE X (.Call (.Name x p) (e :: es) [] pos) (tMkO C sp t) := by
  obtain ⟨f, fd, ps, M, F, hm, b⟩ := c.ex
  refine ⟨fun pins s σ H Q I h => ?_⟩
  refine wpAny_Call_Name_kw (ld_glob I hg hm ?_ hdb)
  refine PySem.W.callWith_K (h₀ := X.base) I.ok.mod.kin M.kp (thn (ha.run pos pins s σ H _ I h) fun us s1 ⟨vs, H1, I1, r, q⟩ => ⟨I1.kIn, ?_⟩) he hpl
  refine run_make M F (hr.mono hk) b .nil pass0 I1 r fun x dx hx hdx ne => ?_
  rw [List.append_nil]
  refine q x dx _ hx (fun b o e => ?_) upd_same
  rw [upd_ne (ne_of_none e hx), upd_ne (ne_of_none e hdx)]
  exact e
theorem ps_fldO (ha : PE X o ta) (hv : PE X value tv) (hs : swapsWith value (some (.Attribute o f pos')) pos.line X.env = pure false) : PS X (.Assign [.Attribute o f pos'] value pos) (sFldO X.K ta tv f) := by
  refine ⟨fun pins s σ H D I h => ?_⟩
  refine plainObj_wpAny_Assign_Attribute (thn (hv.run pins s σ H _ I h) fun u s1 ⟨y, H1, I1, ry, q⟩ => thn (ha.run pins s1 σ H1 _ I1 q) fun ov s2 ⟨x, H2, I2, rx, a, C, dx, fs, ex, ea, c, n, l, q2⟩ => ?_) hs
  subst ex
  obtain rfl : ov = Value.ref a := rx
  refine setattr_ok I2 ea c n l ry fun s3 I3 => ⟨σ, _, I3, q2 _ but_upd (tk_upd fun xs e => by rw [ea] at e; cases e) (fun b hb => ?_) upd_same⟩
  by_cases z : b = a
  · rw [z, ea] at hb; cases hb
  · rw [upd_ne z]; exact hb
theorem w_new {H1 : Hp} {Q : VK} {vs : List V} (h : ∀ x dx H2, H1 x = none → Same H1 H2 → H2 x = some (.ins C dx []) → sp (.ref x :: vs) H2 (fun v H3 => v = .non ∧ Q (.ref x) H3) E0) : tMkO C sp (fun _ H Q => Q vs H) [] H1 Q := h
end
def rFor (g : TG) (tb : TS) (D : Ends) (σ : L2.St) (J : It) (H1 : Hp) : Prop := ∃ W : Nat → Nat → L2.St → Hp → Prop, (∃ m, W 0 m σ H1) ∧ ∀ i m σ H, W i m σ H →
  (J.stop i H ∧ D.nx σ H) ∨ (J.go i H ∧ ∃ N : L2.St → Hp → Prop, (∀ σ' H', N σ' H' → ∃ m', m' < m ∧ W (i + 1) m' σ' H') ∧ ∀ x H', J.yld i H x H' → g x σ H' fun σ2 H2 => tb { D with nx := N, ct := N, bk := D.nx } σ2 H2)
def rLc (g : TG) (tt : TT) (te : TE) (vs : List Nat) (σ : L2.St) (J : It) (H1 : Hp) (Q : VK) : Prop := ∀ D, H1 D = none → ∃ W : Nat → Nat → Hp → Prop, (∃ m, W 0 m (upd H1 D (.lst []))) ∧ ∀ i m H, W i m H →
  (J.stop i H ∧ Q (.ref D) H) ∨ (J.go i H ∧ ∃ Nx : Hp → Prop, (∀ H', Nx H' → ∃ m', m' < m ∧ W (i + 1) m' H') ∧ ∀ x H', J.yld i H x H' → g x (wipe σ vs) H' fun σ2 H2 => wipe σ2 vs = wipe σ vs ∧ tt σ2 H2 fun b H3 =>
    if b = true then te σ2 H3 fun y H4 => ∃ acc, H4 D = some (.lst acc) ∧ acc.length < sizeLine ∧ Nx (upd H4 D (.lst (acc ++ [y]))) else Nx H3)
theorem walk_r0 {n : Nat} : Walk (Itr 0 n) n (fun _ => True) (fun i H x H' => H' = H ∧ x = .int (i : Nat)) :=
  ⟨fun _ _ hi _ => hi, fun _ _ => Nat.le_refl _, fun i _ x _ _ _ y => ⟨y.1, by rw [y.2, Int.zero_add]⟩⟩
theorem walk_rl {lo : Int} {n : Nat} : Walk (Itr lo n) n (fun _ => True) (fun i H x H' => H' = H ∧ x = .int (lo + (i : Nat))) :=
  ⟨fun _ _ hi _ => hi, fun _ _ => Nat.le_refl _, fun _ _ _ _ _ _ y => y⟩
/-! ### list comprehensions -/
section
variable {J : It} {n : Nat} {G : Hp → Prop} {Y : Nat → Hp → V → Hp → Prop} {g : TG} {tt : TT} {te : TE} {vs : List Nat} {σ : L2.St} {H1 : Hp} {Q : VK}
def rYN (te : TE) (σ : L2.St) (R : V → Hp → Prop) (N : Hp → Prop) (b : Bool) (H : Hp) : Prop := if b = true then te σ H R else N H
theorem u_yt {H : Hp} {R : V → Hp → Prop} {N : Hp → Prop} (h : te σ H R) : rYN te σ R N true H := iteT h
theorem u_yf {H : Hp} {R : V → Hp → Prop} {N : Hp → Prop} (h : N H) : rYN te σ R N false H := iteF h
theorem u_y2 {H : Hp} {R : V → Hp → Prop} {N : Hp → Prop} {b : Bool} (h1 : b = true → te σ H R) (h2 : b = false → N H) : rYN te σ R N b H := by
  cases b
  · exact iteF (h2 rfl)
  · exact iteT (h1 rfl)
/-- S: how the heap stands to that of the start -/
theorem lc_by (w : Walk J n G Y) (S : Hp → Prop) (Pv : Nat → List V → Hp → Prop) (hn : n < sizeLine) (hS : ∀ D H H', H1 D = none → S H → But D H H' → S H') (hS0 : S H1)
    (h0 : ∀ H', Same H1 H' → Pv 0 [] H') (hG : ∀ i acc H, i ≤ n → S H → Pv i acc H → G H)
    (hs : ∀ D i x acc H H' (R : V → Hp → Prop) (N : Hp → Prop), (∀ y H4, H4 D = some (.lst acc) → S H4 → (∀ H5, But D H4 H5 → TK H4 H5 → S H5 → Pv (i + 1) (acc ++ [y]) H5) → R y H4) → (∀ H3, H3 D = some (.lst acc) → S H3 → Pv (i + 1) acc H3 → N H3) →
      H1 D = none → i < n → S H → Pv i acc H → H D = some (.lst acc) → Y i H x H' → g x (wipe σ vs) H' fun σ2 H2 => wipe σ2 vs = wipe σ vs ∧ tt σ2 H2 fun b H3 => rYN te σ2 R N b H3)
    (hd : ∀ D acc H, H1 D = none → H D = some (.lst acc) → S H → Pv n acc H → Q (.ref D) H) :
    rLc g tt te vs σ J H1 Q := by
  intro D hD
  refine ⟨fun i m H => m = n - i ∧ i ≤ n ∧ S H ∧ ∃ acc, acc.length ≤ i ∧ H D = some (.lst acc) ∧ Pv i acc H, ⟨n, by simp, Nat.zero_le _, hS D H1 _ hD hS0 but_upd, [], Nat.le_refl _, upd_same, h0 _ (same_new hD)⟩, ?_⟩
  rintro i m H ⟨rfl, hi, sH, acc, hl, hH, p⟩
  have q := hG i acc H hi sH p
  by_cases hlt : i < n
  · refine .inr ⟨w.goes i H hlt q, fun H => S H ∧ ∃ acc, acc.length ≤ i + 1 ∧ H D = some (.lst acc) ∧ Pv (i + 1) acc H, fun H' ⟨z1, z2⟩ => ⟨n - (i + 1), by omega, rfl, hlt, z1, z2⟩, fun x H' y => ?_⟩
    refine hs D i x acc H H' _ _ (fun y H4 e s4 k => ⟨acc, e, by omega, ?_⟩) (fun H3 e s3 k => ⟨s3, acc, by omega, e, k⟩) hD hlt sH p hH (w.yields i H x H' hlt q y)
    have s5 := hS D H4 (upd H4 D (.lst (acc ++ [y]))) hD s4 but_upd
    exact ⟨s5, acc ++ [y], by rw [List.length_append, List.length_singleton]; omega, upd_same, k _ but_upd (tk_lst e) s5⟩
  · have e : i = n := by omega
    subst e
    exact .inl ⟨w.stops H q, hd D acc H hD hH sH p⟩
theorem for_by (w : Walk J n G Y) {tb : TS} {D : Ends} {H : Hp} (Pv : Nat → L2.St → Hp → Prop) (h0 : Pv 0 σ H) (hG : ∀ i σ H, i ≤ n → Pv i σ H → G H)
    (hs : ∀ i x σ H H', i < n → Pv i σ H → Y i H x H' → g x σ H' fun σ2 H2 => tb { D with nx := Pv (i + 1), ct := Pv (i + 1), bk := D.nx } σ2 H2) (hd : ∀ σ H, Pv n σ H → D.nx σ H) : rFor g tb D σ J H := for_it w Pv h0 hG hs hd
/-- the two ways a heap stands to that of the start -/
theorem sS {D : Addr} {H H' : Hp} (h : H1 D = none) (s : Same H1 H) (b : But D H H') : Same H1 H' := Same.but s b h
theorem sB {t D : Addr} {H H' : Hp} (h : H1 D = none) (s : But t H1 H) (b : But D H H') : But t H1 H' := s.two b h
end
end SL
end PtK3
/-! part K4 -/
section PtK4
/-! K4: the readings folded: one relation a step, so that a small tactic can walk. -/
namespace SL
open PySem PySem.Spec PyProof.Rows L2
section
variable {K : PySem.W.Frag} {σ : L2.St} {H H' : Hp} {Q : VK} {D : Ends} {v x y : V} {i j : Int} {a l : Addr} {xs ys zs : List V} {P : Program} {w : World}
abbrev BK := Bool → Hp → Prop
def rBl (x : V) (H : Hp) (Q : BK) : Prop := ∃ k, x = .bl k ∧ Q k H
def rIf (t u : TS) (D : Ends) (σ : L2.St) (b : Bool) (H : Hp) : Prop := if b = true then t D σ H else u D σ H
def rAnd (u : TT) (σ : L2.St) (c : Bool) (H : Hp) (Q : BK) : Prop := if c = true then u σ H Q else Q false H
def rOr (u : TT) (σ : L2.St) (c : Bool) (H : Hp) (Q : BK) : Prop := if c = true then Q true H else u σ H Q
def rAndV (tb : TE) (σ : L2.St) (x : V) (H : Hp) (Q : VK) : Prop := ∃ c, x = .bl c ∧ if c = true then tb σ H Q else Q (.bl false) H
def rOrV (tb : TE) (σ : L2.St) (x : V) (H : Hp) (Q : VK) : Prop := ∃ c, x = .bl c ∧ if c = true then Q (.bl true) H else tb σ H Q
def rNotV (x : V) (H : Hp) (Q : VK) : Prop := ∃ c, x = .bl c ∧ Q (.bl (!c)) H
def rCh (r : R2) (tc : TE) (σ : L2.St) (y z : V) (H : Hp) (Q : VK) : Prop := ∃ k, z = .bl k ∧ (if k = true then tc σ H fun w' H4 => r y w' H4 Q else Q (.bl false) H)
def rFld (K : PySem.W.Frag) (f : Str) (x : V) (H : Hp) (Q : VK) : Prop := ∃ a C dx fs v, x = .ref a ∧ H a = some (.ins C dx fs) ∧ Cls K C ∧ NoAttr K C f ∧ fs.lookup f = some v ∧ Q v H
def rTupO (xs : List V) (H : Hp) (Q : VK) : Prop := xs.length ≤ sizeLine ∧ New H (.tup xs) fun p H' => Q (.ref p) H'
def rLstO (xs : List V) (H : Hp) (Q : VK) : Prop := xs.length ≤ sizeLine ∧ New H (.lst xs) fun p H' => Q (.ref p) H'
def rLen (K : PySem.W.Frag) : List V → Hp → VK → Prop := fun xs H Q => ∃ p ys, xs = [.ref p] ∧ (SqL K H p ys ∨ SqT K H p ys) ∧ Q (.int ys.length) H
theorem cr_lenO {X : Cx} : CallR X (.builtin "len") (rLen X.K) := call_len_seq
def rInt1 : List V → Hp → VK → Prop := fun xs H Q => (∃ i, xs = [.int i] ∧ Q (.int i) H) ∨ ∃ k, xs = [.bl k] ∧ Q (.int (if k then 1 else 0)) H
theorem cr_int1 {X : Cx} : CallR X (.type "int") rInt1 := call_int1
def rMin2 : List V → Hp → VK → Prop := fun xs H Q => ∃ i j, xs = [.int i, .int j] ∧ Q (.int (if j < i then j else i)) H
theorem cr_min2 {X : Cx} (hc : X.calm = true) : CallR X (.builtin "min") rMin2 := call_min2 hc
def rBM (K : PySem.W.Frag) (T : String) (r : V → List V → Hp → VK → Prop) (t : TA) (σ : L2.St) (x : V) (H : Hp) (Q : VK) : Prop := tyV K T x H ∧ t σ H fun xs H2 => r x xs H2 Q
def rM1 (C : Addr) (sp : Sp) (m : Str) (t : TA) (σ : L2.St) (x : V) (H : Hp) (Q : VK) : Prop := ∃ a dx fs, x = .ref a ∧ H a = some (.ins C dx fs) ∧ fs.lookup m = none ∧ t σ H fun vs H2 => sp (x :: vs) H2 Q E0
def rMt (Dt : Addr → Sp → Prop) (m : Str) (t : TA) (σ : L2.St) (x : V) (H : Hp) (Q : VK) : Prop := ∃ C sp a dx fs, Dt C sp ∧ x = .ref a ∧ H a = some (.ins C dx fs) ∧ fs.lookup m = none ∧ t σ H fun vs H2 => sp (x :: vs) H2 Q E0
def rMk (C : Addr) (sp : Sp) (vs : List V) (H1 : Hp) (Q : VK) : Prop := ∀ x dx H2, H1 x = none → Same H1 H2 → H2 x = some (.ins C dx []) → sp (.ref x :: vs) H2 (fun v H3 => v = .non ∧ Q (.ref x) H3) E0
def rNGet (P : Program) (w : World) (x y : V) (H : Hp) (Q : VK) : Prop := ∃ a v, x = .ref a ∧ NGet P w H a y (some v) ∧ Q v H
def rNIn (P : Program) (w : World) (y x : V) (H : Hp) (Q : VK) : Prop := ∃ a o, x = .ref a ∧ NGet P w H a y o ∧ Q (.bl o.isSome) H
def rNPut (P : Program) (w : World) (x y v : V) (H : Hp) (R : Hp → Prop) : Prop := ∃ a, x = .ref a ∧ NPut P w H a y v R
def rFldS (K : PySem.W.Frag) (f : Str) (y x : V) (H : Hp) (R : Hp → Prop) : Prop := ∃ a C dx fs, x = .ref a ∧ H a = some (.ins C dx fs) ∧ Cls K C ∧ NoAttr K C f ∧ fs.length < 1000 ∧
  ∀ H', But a H H' → TK H H' → (∀ b, H b = none → H' b = none) → H' a = some (.ins C dx (putF f y fs)) → R H'
def rIL (K : PySem.W.Frag) (x : V) (H : Hp) (R : It → Hp → Prop) : Prop := ∃ a, x = .ref a ∧ (∃ xs, SqL K H a xs) ∧ R (Itl K a) H
def rIT (K : PySem.W.Frag) (x : V) (H : Hp) (R : It → Hp → Prop) : Prop := ∃ a, x = .ref a ∧ (∃ xs, SqT K H a xs) ∧ R (Itt K a) H
def rIE (K : PySem.W.Frag) (vs : List V) (H : Hp) (R : It → Hp → Prop) : Prop := ∃ a xs, vs = [.ref a] ∧ SqL K H a xs ∧ R (Ite K a) H
def rIZ (K : PySem.W.Frag) (vs : List V) (H : Hp) (R : It → Hp → Prop) : Prop := ∃ a b xs ys, vs = [.ref a, .ref b] ∧ SqL K H a xs ∧ SqL K H b ys ∧ R (Itz K a b) H
def rIZ2 (K : PySem.W.Frag) (vs : List V) (H : Hp) (R : It → Hp → Prop) : Prop := ∃ a b xs ys, vs = [.ref a, .ref b] ∧ SqT K H a xs ∧ SqL K H b ys ∧ R (Itz2 K a b) H
def rIZ3 (K : PySem.W.Frag) (vs : List V) (H : Hp) (R : It → Hp → Prop) : Prop := ∃ a b c xs ys zs, vs = [.ref a, .ref b, .ref c] ∧ SqL K H a xs ∧ SqT K H b ys ∧ SqT K H c zs ∧ R (Itz3 K a b c) H
def rR1 (vs : List V) (H : Hp) (R : It → Hp → Prop) : Prop := ∃ j : Int, vs = [.int j] ∧ -(2 ^ 62) ≤ j ∧ j < 2 ^ 62 ∧ R (Itr 0 j.toNat) H
def rR2 (vs : List V) (H : Hp) (R : It → Hp → Prop) : Prop := ∃ i j : Int, vs = [.int i, .int j] ∧ (-(2 ^ 62) ≤ i ∧ i < 2 ^ 62 ∧ -(2 ^ 62) ≤ j ∧ j < 2 ^ 62) ∧ R (Itr i (j - i).toNat) H
/-! ### the unfolding steps -/
theorem u_test {t : TE} {Q : BK} (h : t σ H fun x H' => rBl x H' Q) : tTest t σ H Q := h
theorem u_tb {t : TE} {Q : BK} (h : t σ H fun x H' => rBl x H' Q) : tB t σ H Q := h
theorem u_bl {k : Bool} {Q : BK} (q : Q k H) : rBl (.bl k) H Q := ⟨k, rfl, q⟩
theorem u_ifs {c : TT} {t u : TS} (h : c σ H fun b H1 => rIf t u D σ b H1) : tIfS c t u D σ H := h
theorem u_ift {t u : TS} (h : t D σ H) : rIf t u D σ true H := iteT h
theorem u_iff {t u : TS} (h : u D σ H) : rIf t u D σ false H := iteF h
theorem u_if2 {t u : TS} {b : Bool} (h1 : b = true → t D σ H) (h2 : b = false → u D σ H) : rIf t u D σ b H := by
  cases b
  · exact iteF (h2 rfl)
  · exact iteT (h1 rfl)
def rNotB (c : Bool) (H : Hp) (Q : BK) : Prop := Q (!c) H
theorem u_not {t : TT} {Q : BK} (h : t σ H fun c H1 => rNotB c H1 Q) : tNot t σ H Q := h
theorem u_nott {Q : BK} (h : Q false H) : rNotB true H Q := h
theorem u_notf {Q : BK} (h : Q true H) : rNotB false H Q := h
theorem u_notT {Q : BK} {b : Bool} (e : b = true) (h : Q false H) : rNotB b H Q := by subst e; exact h
theorem u_notF {Q : BK} {b : Bool} (e : b = false) (h : Q true H) : rNotB b H Q := by subst e; exact h
theorem u_ifT {t u : TS} {b : Bool} (e : b = true) (h : t D σ H) : rIf t u D σ b H := by subst e; exact iteT h
theorem u_ifF {t u : TS} {b : Bool} (e : b = false) (h : u D σ H) : rIf t u D σ b H := by subst e; exact iteF h
theorem u_andT {u : TT} {Q : BK} {b : Bool} (e : b = true) (h : u σ H Q) : rAnd u σ b H Q := by subst e; exact iteT h
theorem u_andF {u : TT} {Q : BK} {b : Bool} (e : b = false) (h : Q false H) : rAnd u σ b H Q := by subst e; exact iteF h
theorem u_orT {u : TT} {Q : BK} {b : Bool} (e : b = true) (h : Q true H) : rOr u σ b H Q := by subst e; exact iteT h
theorem u_orF {u : TT} {Q : BK} {b : Bool} (e : b = false) (h : u σ H Q) : rOr u σ b H Q := by subst e; exact iteF h
theorem u_andVT {u : TE} {b : Bool} (e : b = true) (h : u σ H Q) : rAndV u σ (.bl b) H Q := by subst e; exact ⟨_, rfl, iteT h⟩
theorem u_andVF {u : TE} {b : Bool} (e : b = false) (h : Q (.bl false) H) : rAndV u σ (.bl b) H Q := by subst e; exact ⟨_, rfl, iteF h⟩
theorem u_orVT {u : TE} {b : Bool} (e : b = true) (h : Q (.bl true) H) : rOrV u σ (.bl b) H Q := by subst e; exact ⟨_, rfl, iteT h⟩
theorem u_orVF {u : TE} {b : Bool} (e : b = false) (h : u σ H Q) : rOrV u σ (.bl b) H Q := by subst e; exact ⟨_, rfl, iteF h⟩
theorem u_chT {r : R2} {tc : TE} {b : Bool} (e : b = true) (h : tc σ H fun w' H4 => r y w' H4 Q) : rCh r tc σ y (.bl b) H Q := by subst e; exact ⟨_, rfl, iteT h⟩
theorem u_chF {r : R2} {tc : TE} {b : Bool} (e : b = false) (h : Q (.bl false) H) : rCh r tc σ y (.bl b) H Q := by subst e; exact ⟨_, rfl, iteF h⟩
theorem u_and {t u : TT} {Q : BK} (h : t σ H fun c H1 => rAnd u σ c H1 Q) : tAnd t u σ H Q := h
theorem u_or {t u : TT} {Q : BK} (h : t σ H fun c H1 => rOr u σ c H1 Q) : tOr t u σ H Q := h
theorem u_andt {u : TT} {Q : BK} (h : u σ H Q) : rAnd u σ true H Q := iteT h
theorem u_andf {u : TT} {Q : BK} (h : Q false H) : rAnd u σ false H Q := iteF h
theorem u_ort {u : TT} {Q : BK} (h : Q true H) : rOr u σ true H Q := iteT h
theorem u_orf {u : TT} {Q : BK} (h : u σ H Q) : rOr u σ false H Q := iteF h
theorem u_andV {ta tb : TE} (h : ta σ H fun x H1 => rAndV tb σ x H1 Q) : tAndV ta tb σ H Q := h
theorem u_orV {ta tb : TE} (h : ta σ H fun x H1 => rOrV tb σ x H1 Q) : tOrV ta tb σ H Q := h
theorem u_andVt {u : TE} (h : u σ H Q) : rAndV u σ (.bl true) H Q := ⟨_, rfl, iteT h⟩
theorem u_andVf {u : TE} (h : Q (.bl false) H) : rAndV u σ (.bl false) H Q := ⟨_, rfl, iteF h⟩
theorem u_andV2 {u : TE} {b : Bool} (h1 : b = true → u σ H Q) (h2 : b = false → Q (.bl false) H) : rAndV u σ (.bl b) H Q := by
  cases b
  · exact ⟨_, rfl, iteF (h2 rfl)⟩
  · exact ⟨_, rfl, iteT (h1 rfl)⟩
theorem u_orVt {u : TE} (h : Q (.bl true) H) : rOrV u σ (.bl true) H Q := ⟨_, rfl, iteT h⟩
theorem u_orVf {u : TE} (h : u σ H Q) : rOrV u σ (.bl false) H Q := ⟨_, rfl, iteF h⟩
theorem u_notV {ta : TE} (h : ta σ H fun x H1 => rNotV x H1 Q) : tNotV ta σ H Q := h
theorem u_notVb {c : Bool} (h : Q (.bl (!c)) H) : rNotV (.bl c) H Q := ⟨_, rfl, h⟩
theorem u_chain {r r' : R2} {ta tb tc : TE} (h : ta σ H fun x H1 => tb σ H1 fun y H2 => r x y H2 fun z H3 => rCh r' tc σ y z H3 Q) : tChain r r' ta tb tc σ H Q := h
theorem u_cht {r : R2} {tc : TE} (h : tc σ H fun w' H4 => r y w' H4 Q) : rCh r tc σ y (.bl true) H Q := ⟨_, rfl, iteT h⟩
theorem u_chf {r : R2} {tc : TE} (h : Q (.bl false) H) : rCh r tc σ y (.bl false) H Q := ⟨_, rfl, iteF h⟩
theorem u_ch2 {r : R2} {tc : TE} {b : Bool} (h1 : b = true → tc σ H fun w' H4 => r y w' H4 Q) (h2 : b = false → Q (.bl false) H) : rCh r tc σ y (.bl b) H Q := by
  cases b
  · exact ⟨_, rfl, iteF (h2 rfl)⟩
  · exact ⟨_, rfl, iteT (h1 rfl)⟩
theorem u_fld {ta : TE} {f : Str} (h : ta σ H fun x H1 => rFld K f x H1 Q) : tFld K ta f σ H Q := h
theorem u_ins {f : Str} {C dx : Addr} {fs : List (Str × V)} (h : H a = some (.ins C dx fs)) (c : Cls K C) (n : NoAttr K C f) (l : fs.lookup f = some v) (q : Q v H) : rFld K f (.ref a) H Q := ⟨a, C, dx, fs, v, rfl, h, c, n, l, q⟩
theorem u_tup {t : TA} (h : t σ H fun xs H1 => rTupO xs H1 Q) : tTupO t σ H Q := h
theorem u_lst {t : TA} (h : t σ H fun xs H1 => rLstO xs H1 Q) : tLstO t σ H Q := h
theorem u_tupn (z : xs.length ≤ sizeLine) (q : ∀ p H', H p = none → Same H H' → H' p = some (.tup xs) → Q (.ref p) H') : rTupO xs H Q := ⟨z, q⟩
theorem u_lstn (z : xs.length ≤ sizeLine) (q : ∀ p H', H p = none → Same H H' → H' p = some (.lst xs) → Q (.ref p) H') : rLstO xs H Q := ⟨z, q⟩
theorem u_lenL (h : H a = some (.lst xs)) (q : Q (.int xs.length) H) : rLen K [.ref a] H Q := ⟨a, xs, rfl, .inl (SqL.of h), q⟩
theorem u_lenT (h : H a = some (.tup xs)) (q : Q (.int xs.length) H) : rLen K [.ref a] H Q := ⟨a, xs, rfl, .inr (SqT.of h), q⟩
theorem u_lenK (h : SqL K H a xs) (q : Q (.int xs.length) H) : rLen K [.ref a] H Q := ⟨a, xs, rfl, .inl h, q⟩
theorem u_int1 (q : Q (.int i) H) : rInt1 [.int i] H Q := .inl ⟨_, rfl, q⟩
theorem u_intB {k : Bool} (q : Q (.int (if k then 1 else 0)) H) : rInt1 [.bl k] H Q := .inr ⟨_, rfl, q⟩
theorem u_min2 (q : Q (.int (if j < i then j else i)) H) : rMin2 [.int i, .int j] H Q := ⟨_, _, rfl, q⟩
theorem u_bm {T : String} {r : V → List V → Hp → VK → Prop} {to : TE} {t : TA} (h : to σ H fun x H1 => rBM K T r t σ x H1 Q) : tBM K T r to t σ H Q := h
theorem u_bmL {r : V → List V → Hp → VK → Prop} {t : TA} (h : H a = some (.lst xs)) (q : t σ H fun ys H2 => r (.ref a) ys H2 Q) : rBM K "list" r t σ (.ref a) H Q := ⟨.inl ⟨rfl, _, SqL.of h⟩, q⟩
theorem u_app (h : H a = some (.lst xs)) (z : xs.length < sizeLine) (q : ∀ H', But a H H' → TK H H' → (∀ b, H b = none → H' b = none) → H' a = some (.lst (xs ++ [y])) → Q .non H') : rAppO (.ref a) [y] H Q := ⟨_, _, _, rfl, rfl, h, z, q⟩
theorem u_ext (h : H a = some (.lst xs)) (h2 : H l = some (.lst ys)) (z : xs.length + ys.length ≤ sizeLine) (q : ∀ H', But a H H' → TK H H' → (∀ b, H b = none → H' b = none) → H' a = some (.lst (xs ++ ys)) → Q .non H') : rExtO (.ref a) [.ref l] H Q := ⟨_, _, _, _, rfl, rfl, h, h2, z, q⟩
theorem u_set {k : Nat} {R : Hp → Prop} (h : H a = some (.lst xs)) (z : k < xs.length) (q : ∀ H', But a H H' → TK H H' → (∀ b, H b = none → H' b = none) → H' a = some (.lst (xs.set k v)) → R H') : rSetO (.ref a) (.int (k : Nat)) v H R := ⟨_, _, _, rfl, rfl, h, z, q⟩
theorem u_cat (h : H a = some (.lst xs)) (h2 : H l = some (.lst ys)) (z : xs.length + ys.length ≤ sizeLine) (q : ∀ p H', H p = none → Same H H' → H' p = some (.lst (xs ++ ys)) → Q (.ref p) H') : rCatO (.ref a) (.ref l) H Q := ⟨_, _, _, _, rfl, rfl, h, h2, z, q⟩
theorem u_catT (h : H a = some (.tup xs)) (h2 : H l = some (.tup [y])) (z : xs.length < sizeLine) (q : ∀ p H', Same H H' → H' p = some (.tup (xs ++ [y])) → Q (.ref p) H') : rCatTO (.ref a) (.ref l) H Q := ⟨_, _, _, _, rfl, rfl, h, h2, z, q⟩
theorem u_lst_of (h : H a = some (.lst xs)) (q : ∀ p H', H p = none → Same H H' → H' p = some (.lst xs) → Q (.ref p) H') : rListO K [.ref a] H Q := ⟨_, _, rfl, .inl (SqL.of h), q⟩
theorem u_tup_of (h : H a = some (.lst xs)) (q : ∀ p H', H p = none → Same H H' → H' p = some (.tup xs) → Q (.ref p) H') : rTupleO K [.ref a] H Q := ⟨_, _, rfl, h, q⟩
theorem u_sl {r : V → Option Int → Option Int → Hp → VK → Prop} {te : TE} {tl th : TO} (h : te σ H fun x H1 => tl σ H1 fun l H2 => th σ H2 fun u H3 => r x l u H3 Q) : L2.tSl r te tl th σ H Q := h
theorem u_part {t : TE} {Q : Option Int → Hp → Prop} (h : t σ H fun x H1 => ∃ i, x = .int i ∧ Q (some i) H1) : tPart t σ H Q := h
theorem u_parti {Q : Option Int → Hp → Prop} (q : Q (some i) H) : ∃ i', V.int i = .int i' ∧ Q (some i') H := ⟨_, rfl, q⟩
theorem u_nopart {Q : Option Int → Hp → Prop} (q : Q none H) : tNoPart σ H Q := q
theorem u_m1 {C : Addr} {sp : Sp} {m : Str} {ta : TE} {t : TA} (h : ta σ H fun x H1 => rM1 C sp m t σ x H1 Q) : tM1 C sp m ta t σ H Q := h
theorem u_m1i {C dx : Addr} {sp : Sp} {m : Str} {t : TA} {fs : List (Str × V)} (h : H a = some (.ins C dx fs)) (n : fs.lookup m = none) (q : t σ H fun vs H2 => sp (.ref a :: vs) H2 Q E0) : rM1 C sp m t σ (.ref a) H Q := ⟨_, _, _, rfl, h, n, q⟩
theorem u_mt {Dt : Addr → Sp → Prop} {m : Str} {ta : TE} {t : TA} (h : ta σ H fun x H1 => rMt Dt m t σ x H1 Q) : tMt Dt m ta t σ H Q := h
theorem u_mti {C dx : Addr} {sp : Sp} {Dt : Addr → Sp → Prop} {m : Str} {t : TA} {fs : List (Str × V)} (d : Dt C sp) (h : H a = some (.ins C dx fs)) (n : fs.lookup m = none) (q : t σ H fun vs H2 => sp (.ref a :: vs) H2 Q E0) : rMt Dt m t σ (.ref a) H Q := ⟨_, _, _, _, _, d, rfl, h, n, q⟩
theorem u_mk {C : Addr} {sp : Sp} {t : TA} (h : t σ H fun vs H1 => rMk C sp vs H1 Q) : tMkO C sp t σ H Q := h
theorem u_mki {C : Addr} {sp : Sp} {vs : List V} (h : ∀ x dx H2, H x = none → Same H H2 → H2 x = some (.ins C dx []) → sp (.ref x :: vs) H2 (fun v H3 => v = .non ∧ Q (.ref x) H3) E0) : rMk C sp vs H Q := h
theorem u_nget {td ty : TE} (h : td σ H fun x H1 => ty σ H1 fun y H2 => rNGet P w x y H2 Q) : tNGet P w td ty σ H Q := h
theorem u_ngeti {kvs : List (Spot × V)} {k : Spot} (d : DN P w H a kvs) (hk : IsSp H y k) (e : valV kvs k = some v) (q : Q v H) : rNGet P w (.ref a) y H Q := ⟨a, v, rfl, ⟨kvs, k, d, hk, e.symm⟩, q⟩
theorem u_nin {td ty : TE} (h : ty σ H fun y H1 => td σ H1 fun x H2 => rNIn P w y x H2 Q) : tNIn P w ty td σ H Q := h
theorem u_nini {kvs : List (Spot × V)} {k : Spot} (d : DN P w H a kvs) (hk : IsSp H y k) (q : Q (.bl (valV kvs k).isSome) H) : rNIn P w y (.ref a) H Q := ⟨a, _, rfl, ⟨kvs, k, d, hk, rfl⟩, q⟩
theorem u_nput {td ty tv : TE} (h : tv σ H fun v H1 => td σ H1 fun x H2 => ty σ H2 fun y H3 => rNPut P w x y v H3 fun H' => D.nx σ H') : sNPut P w td ty tv D σ H := h
theorem u_nputi {kvs : List (Spot × V)} {k : Spot} {R : Hp → Prop} (d : DN P w H a kvs) (hk : IsSp H y k) (z : kvs.length < sizeLine) (q : ∀ H', But a H H' → (∀ b, H b = none → H' b = none) → TK H H' → DN P w H' a (putK kvs k v) → R H') : rNPut P w (.ref a) y v H R := ⟨a, rfl, kvs, k, d, hk, z, q⟩
theorem u_fldS {ta tv : TE} {f : Str} (h : tv σ H fun y H1 => ta σ H1 fun x H2 => rFldS K f y x H2 fun H' => D.nx σ H') : sFldO K ta tv f D σ H := h
theorem u_fldSi {f : Str} {C dx : Addr} {fs : List (Str × V)} {R : Hp → Prop} (h : H a = some (.ins C dx fs)) (c : Cls K C) (n : NoAttr K C f) (z : fs.length < 1000) (q : ∀ H', But a H H' → TK H H' → (∀ b, H b = none → H' b = none) → H' a = some (.ins C dx (putF f y fs)) → R H') : rFldS K f y (.ref a) H R := ⟨a, C, dx, fs, rfl, h, c, n, z, q⟩
theorem u_for {wi : TI} {g : TG} {tb : TS} (h : wi σ H fun J H1 => rFor g tb D σ J H1) : tFor wi g tb D σ H := h
theorem u_lc {wi : TI} {g : TG} {tt : TT} {te : TE} {vs : List Nat} (h : wi σ H fun J H1 => rLc g tt te vs σ J H1 Q) : tLc wi g tt te vs σ H Q := h
theorem u_iL {tl : TE} {R : It → Hp → Prop} (h : tl σ H fun x H1 => rIL K x H1 R) : iList K tl σ H R := h
theorem u_iLi {R : It → Hp → Prop} (h : SqL K H a xs) (q : R (Itl K a) H) : rIL K (.ref a) H R := ⟨a, rfl, ⟨_, h⟩, q⟩
theorem u_iT {tl : TE} {R : It → Hp → Prop} (h : tl σ H fun x H1 => rIT K x H1 R) : iTup K tl σ H R := h
theorem u_iTi {R : It → Hp → Prop} (h : SqT K H a xs) (q : R (Itt K a) H) : rIT K (.ref a) H R := ⟨a, rfl, ⟨_, h⟩, q⟩
theorem u_iE {ta : TA} {R : It → Hp → Prop} (h : ta σ H fun vs H1 => rIE K vs H1 R) : iEnum K ta σ H R := h
theorem u_iEi {R : It → Hp → Prop} (h : H a = some (.lst xs)) (q : R (Ite K a) H) : rIE K [.ref a] H R := ⟨a, _, rfl, SqL.of h, q⟩
theorem u_iZ {ta : TA} {R : It → Hp → Prop} (h : ta σ H fun vs H1 => rIZ K vs H1 R) : iZip K ta σ H R := h
theorem u_iZi {R : It → Hp → Prop} (h : H a = some (.lst xs)) (h2 : H l = some (.lst ys)) (q : R (Itz K a l) H) : rIZ K [.ref a, .ref l] H R := ⟨a, l, _, _, rfl, SqL.of h, SqL.of h2, q⟩
theorem u_iZ2 {ta : TA} {R : It → Hp → Prop} (h : ta σ H fun vs H1 => rIZ2 K vs H1 R) : iZip2 K ta σ H R := h
theorem u_iZ2i {R : It → Hp → Prop} (h : H a = some (.tup xs)) (h2 : H l = some (.lst ys)) (q : R (Itz2 K a l) H) : rIZ2 K [.ref a, .ref l] H R := ⟨a, l, _, _, rfl, SqT.of h, SqL.of h2, q⟩
theorem u_iZ3 {ta : TA} {R : It → Hp → Prop} (h : ta σ H fun vs H1 => rIZ3 K vs H1 R) : iZip3 K ta σ H R := h
theorem u_iZ3i {c : Addr} {R : It → Hp → Prop} (h : H a = some (.lst xs)) (h2 : H l = some (.tup ys)) (h3 : H c = some (.tup zs)) (q : R (Itz3 K a l c) H) : rIZ3 K [.ref a, .ref l, .ref c] H R := ⟨a, l, c, _, _, _, rfl, SqL.of h, SqT.of h2, SqT.of h3, q⟩
theorem u_iR1 {ta : TA} {R : It → Hp → Prop} (h : ta σ H fun vs H1 => rR1 vs H1 R) : iRng1 ta σ H R := h
theorem u_iR1i {R : It → Hp → Prop} (h1 : -(2 ^ 62) ≤ j) (h2 : j < 2 ^ 62) (q : R (Itr 0 j.toNat) H) : rR1 [.int j] H R := ⟨j, rfl, h1, h2, q⟩
theorem u_iR2 {ta : TA} {R : It → Hp → Prop} (h : ta σ H fun vs H1 => rR2 vs H1 R) : iRng2 ta σ H R := h
theorem u_iR2i {R : It → Hp → Prop} (h1 : -(2 ^ 62) ≤ i ∧ i < 2 ^ 62 ∧ -(2 ^ 62) ≤ j ∧ j < 2 ^ 62) (q : R (Itr i (j - i).toNat) H) : rR2 [.int i, .int j] H R := ⟨i, j, rfl, h1, q⟩
theorem u_nnew (q : ∀ p H', H p = none → Same H H' → DN P w H' p [] → Q (.ref p) H') : tNNew P w σ H Q := q
theorem u_sub {to ti : TE} {t : TSet} {R : L2.St → Hp → Prop} (h : to σ H fun o H1 => ti σ H1 fun i H2 => t o i v H2 fun H3 => R σ H3) : gSub to ti t v σ H R := h
theorem u_isA_int (q : Q (.bl true) H) : rIsA K [.int i, .ty "int"] H Q := .inl ⟨_, rfl, q⟩
theorem u_isA_bool (q : Q (.bl false) H) : rIsA K [.int i, .ty "bool"] H Q := .inr (.inl ⟨_, rfl, q⟩)
theorem u_isA_lst (h : H a = some (.lst xs)) (q : Q (.bl true) H) : rIsA K [.ref a, .ty "list"] H Q := .inr (.inr (.inl ⟨_, _, rfl, h, q⟩))
theorem u_isA_tup (h : H a = some (.tup xs)) (q : Q (.bl true) H) : rIsA K [.ref a, .ty "tuple"] H Q := .inr (.inr (.inr ⟨_, _, rfl, h, q⟩))
theorem u_all {bs : List Bool} (h : H a = some (.lst (bs.map V.bl))) (q : Q (.bl (bs.all id)) H) : rAll K [.ref a] H Q := ⟨_, _, rfl, SqL.of h, q⟩
theorem u_sum {ns : List Int} (h : H a = some (.lst (ns.map V.int))) (q : Q (.int ns.sum) H) : rSum K [.ref a] H Q := ⟨_, _, rfl, SqL.of h, q⟩
theorem u_srt {ta : TE} (h : ta σ H fun x H1 => ∃ (l : Addr) (ss : List Spot), x = .ref l ∧ SpL H1 l ss ∧ ss.length ≤ 3 ∧ ∀ p H' ts, H1 p = none → Same H1 H' → SpL H' p ts → ts.length ≤ 4 → (∀ s, s ∈ ts ↔ s ∈ ss) → Q (.ref p) H') : tSrtSet ta σ H Q := h
theorem u_kw {r : List V → List V → Hp → VK → Prop} {t tk : TA} (h : t σ H fun vs H1 => tk σ H1 fun zs H2 => r vs zs H2 Q) : tCKw r t tk σ H Q := h
def rWh (tb : TS) (D : Ends) (W : Nat → L2.St → Hp → Prop) (m : Nat) (σ : L2.St) (b : Bool) (H1 : Hp) : Prop := if b = true then ∃ N : L2.St → Hp → Prop, (∀ σ' H', N σ' H' → ∃ m', m' < m ∧ W m' σ' H') ∧ tb { D with nx := N, ct := N, bk := D.nx } σ H1 else D.nx σ H1
theorem u_wt {tb : TS} {W : Nat → L2.St → Hp → Prop} {m : Nat} (N : L2.St → Hp → Prop) (h : ∀ σ' H', N σ' H' → ∃ m', m' < m ∧ W m' σ' H') (q : tb { D with nx := N, ct := N, bk := D.nx } σ H) : rWh tb D W m σ true H := iteT ⟨N, h, q⟩
theorem u_wf {tb : TS} {W : Nat → L2.St → Hp → Prop} {m : Nat} (q : D.nx σ H) : rWh tb D W m σ false H := iteF q
theorem u_while {c : TT} {tb : TS} (W : Nat → L2.St → Hp → Prop) (h0 : ∃ m, W m σ H) (h : ∀ m σ H, W m σ H → c σ H fun b H1 => rWh tb D W m σ b H1) : tWhile c tb D σ H := ⟨W, h0, h⟩
end
theorem w_varh {σ : L2.St} {H : Hp} {Q : VK} {n : Nat} (h : ∃ v, σ[n]? = some (some v) ∧ Q v H) : tVar n σ H Q := h
theorem w_rEqh {H : Hp} {Q : VK} {x y : V} (h : scal x y = true ∧ Q (.bl (decide (x = y))) H) : rEq x y H Q := h
theorem w_rNeh {H : Hp} {Q : VK} {x y : V} (h : scal x y = true ∧ Q (.bl (!decide (x = y))) H) : rNe x y H Q := h
end SL
end PtK4
/-! part K5 -/
section PtK5
/-! K5: rules with the text told by name, for use within a comprehension's block. -/
namespace SL
open PySem PySem.Spec PyProof.Rows L2
section
variable {X : Cx} {K : PySem.W.Frag} {P : Program} {w : World}
theorem op_eqDK (hK : X.K = K) (hu : X.A.units + 64 < cLine) : OpR X (compareOp .Eq) (rEqD K) := by subst hK; exact op_eqD hu
theorem op_neDK (hK : X.K = K) (hu : X.A.units + 64 < cLine) : OpR X (compareOp .NotEq) (rNeD K) := by subst hK; exact op_neD hu
theorem op_inDK (hK : X.K = K) (hu : X.A.units + 65 < cLine) : OpR X (compareOp .In) (rInD K) := by subst hK; exact op_inD hu
theorem op_notInDK (hK : X.K = K) (hu : X.A.units + 65 < cLine) : OpR X (compareOp .NotIn) (rNotInD K) := by subst hK; exact op_notInD hu
theorem ix_listK (hK : X.K = K) : IxR X (rIxL K) := by subst hK; exact ix_list
theorem ix_tupK (hK : X.K = K) : IxR X (rIxT K) := by subst hK; exact ix_tup
theorem cr_lenK (hK : X.K = K) : CallR X (.builtin "len") (rLen K) := by subst hK; exact cr_lenO
theorem cr_listK (hK : X.K = K) : CallR X (.type "list") (rListO K) := by subst hK; exact cr_listO
theorem cr_allK (hK : X.K = K) (hc : X.calm = true) : CallR X (.builtin "all") (rAll K) := by subst hK; exact cr_all hc
theorem cr_dictPrK (hP : X.prog = P) (hw : X.w = w) (hc : X.calm = true) (hu : X.A.units + 64 < cLine) : CallR X (.type "dict") (rDictPr P w) := by subst hP hw; exact cr_dictPr hc hu
variable {tg l o i e f : Expr} {tl td ty ta : TE} {pos : Pos}
theorem pi_listK (hK : X.K = K) (hl : PE X l tl) : PI X tg l (iList K tl) := by subst hK; exact pi_list hl
theorem pe_ngetK (hP : X.prog = P) (hw : X.w = w) (hu : X.A.units + 64 < cLine) (ho : PE X o td) (hi : PE X i ty) (hs : NoSl i) : PE X (.Subscript o i pos) (tNGet P w td ty) := by subst hP hw; exact pe_nget hu ho hi hs
theorem pc_ninK (hP : X.prog = P) (hw : X.w = w) (hu : X.A.units + 64 < cLine) (hi : PE X i ty) (ho : PE X o td) : PC X .In i o (tNIn P w ty td) := by subst hP hw; exact pc_nin hu hi ho
theorem pe_fldK {f : Str} (hK : X.K = K) (he : PE X e ta) (hb : attributeBase e f X.env (eval e X.env) = eval e X.env) : PE X (.Attribute e f pos) (tFld K ta f) := by subst hK; exact pe_fld he hb
end
end SL
end PtK5
/-! part D1 -/
section PtD1
/-! D1: is_whole, is_between, rims. -/
namespace SL
open PySem PySem.Spec PyProof.Rows L2
/-- one step that needs nothing -/
local macro_rules | `(tactic| walk_at "sl1") => `(tactic| first
  | (with_reducible refine w_varh ?_; refine ⟨_, rfl, ?_⟩) | (with_reducible refine w_rEqh ?_; refine ⟨rfl, ?_⟩) | (with_reducible refine w_rNeh ?_; refine ⟨rfl, ?_⟩)
  | with_reducible refine w_seq ?_ | with_reducible refine w_asg ?_ | with_reducible refine w_c ?_ | with_reducible refine w_op ?_ | with_reducible refine w_rI0 ?_ | with_reducible refine u_test ?_ | with_reducible refine u_tb ?_ | with_reducible refine u_bl ?_ | with_reducible refine u_ifs ?_ | with_reducible refine u_ift ?_ | with_reducible refine u_iff ?_ | with_reducible refine w_cons ?_ | with_reducible refine w_nil ?_ | with_reducible refine w_cl ?_ | with_reducible refine w_cb ?_ | with_reducible refine w_ret ?_ | with_reducible refine w_drop ?_ | with_reducible refine w_name ?_ | with_reducible refine w_next ?_
  | with_reducible refine u_fld ?_ | with_reducible refine u_tup ?_ | with_reducible refine u_lst ?_ | with_reducible refine u_not ?_ | with_reducible refine u_nott ?_ | with_reducible refine u_notf ?_ | with_reducible refine u_and ?_ | with_reducible refine u_or ?_ | with_reducible refine u_andt ?_ | with_reducible refine u_andf ?_ | with_reducible refine u_ort ?_ | with_reducible refine u_orf ?_ | with_reducible refine u_andV ?_ | with_reducible refine u_orV ?_ | with_reducible refine u_andVt ?_ | with_reducible refine u_andVf ?_ | with_reducible refine u_orVt ?_ | with_reducible refine u_orVf ?_ | with_reducible refine u_notV ?_ | with_reducible refine u_notVb ?_
  | with_reducible refine u_chain ?_ | with_reducible refine u_cht ?_ | with_reducible refine u_chf ?_ | with_reducible refine w_un ?_ | with_reducible refine w_rU ?_ | with_reducible refine w_isN ?_ | with_reducible refine w_notN ?_ | with_reducible refine u_bm ?_ | with_reducible refine u_sl ?_ | with_reducible refine u_part ?_ | with_reducible refine u_parti ?_ | with_reducible refine u_nopart ?_ | with_reducible refine u_m1 ?_ | with_reducible refine u_mt ?_ | with_reducible refine u_mk ?_ | with_reducible refine u_nget ?_ | with_reducible refine u_nin ?_ | with_reducible refine u_nput ?_ | with_reducible refine u_fldS ?_
  | with_reducible refine u_for ?_ | with_reducible refine u_lc ?_ | with_reducible refine u_iL ?_ | with_reducible refine u_iT ?_ | with_reducible refine u_iE ?_ | with_reducible refine u_iZ ?_ | with_reducible refine u_iZ2 ?_ | with_reducible refine u_iZ3 ?_ | with_reducible refine u_iR1 ?_ | with_reducible refine u_iR2 ?_ | with_reducible refine u_sub ?_ | with_reducible refine u_isA_int ?_ | with_reducible refine u_isA_bool ?_ | with_reducible refine u_int1 ?_ | with_reducible refine u_intB ?_ | with_reducible refine u_min2 ?_ | with_reducible refine u_kw ?_ | with_reducible refine w_yes ?_ | with_reducible refine u_srt ?_ | with_reducible refine u_yt ?_ | with_reducible refine u_yf ?_)
local macro_rules | `(tactic| walk_at "go") => `(tactic| repeat walk_at "sl1")
def lcSc : Expr → Scope
  | .ListComp _ _ s _ => s
  | _ => ⟨.function, [], false, false, []⟩
def asgVal : Stmt → Expr
  | .Assign _ v _ => v
  | _ => .Constant .none 0 ⟨0, 0, 0, 0⟩
def bodyOf : Stmt → List Stmt
  | .While _ b _ _ => b
  | .For _ _ b _ _ => b
  | .If _ b _ _ => b
  | _ => []
def noSt : Stmt := .Pass ⟨0, 0, 0, 0⟩
theorem _root_.L2.Room.h {k : Nat} {A : Around} (hr : Room k A) : A.units + 64 < cLine := by have := hr.un; omega
theorem _root_.L2.Room.h5 {k : Nat} {A : Around} (hr : Room k A) : A.units + 65 < cLine := by have := hr.un; omega
theorem _root_.L2.Room.h1 {k : Nat} {A : Around} (hr : Room k A) : A.units + 1 < cLine := by have := hr.un; omega
/-- the ways of a rim -/
inductive Rk | fixed | mirror | round
deriving DecidableEq
def Rk.vs : Rk → List V
  | .fixed => [.str "fixed", .int 7]
  | .mirror => [.str "mirror"]
  | .round => [.str "round"]
def Rk.word : Rk → Str
  | .fixed => "fixed"
  | .mirror => "mirror"
  | .round => "round"
def IsRim (H : Hp) (v : V) (r : Rk) : Prop := ∃ a, v = .ref a ∧ H a = some (.tup r.vs)
theorem IsRim.mono {H H' : Hp} {v : V} {r : Rk} (t : TK H H') (h : IsRim H v r) : IsRim H' v r := let ⟨a, e, q⟩ := h; ⟨a, e, t _ _ q⟩
section
variable {P : Program} {w : World} {K : PySem.W.Frag} {mg : Str → Option Value} {base : Heap}
def spWhole : Sp := SpF (fun i : Int => [.int i]) fun _ H Q => Q (.bl true) H
theorem ok_is_whole (T : Txt K mg) : Cal P w K mg base 1 "is_whole" spWhole := by
  refine .of (.of (F_is_whole T) sc_is_whole (b_is_whole T) (spf_len fun _ => rfl) fun cdv A outer s H vs Q E hr h => ?_) (glo_is_whole T)
  have nd := sc_is_whole.nd
  obtain ⟨i, rfl, q⟩ := h
  refine ⟨_, (pss_one (ps_ret (pe_and (pe_callB cr_isA (by rfl) (free_isinstance T) (by decide +kernel) (pa_cons (pv 0) (pa_cons (pe_bltn (v := .ty "int") (by rfl) (free_int T) (by decide +kernel) rfl) pa_nil))) (pe_one (pe_not (pe_callB cr_isA (by rfl) (free_isinstance T) (by decide +kernel) (pa_cons (pv 0) (pa_cons (pe_bltn (v := .ty "bool") (by rfl) (free_bool T) (by decide +kernel) rfl) pa_nil)))))))), ?_⟩
  exact ⟨_, rfl, .inl ⟨i, rfl, true, rfl, _, rfl, .inr (.inl ⟨i, rfl, false, rfl, q⟩)⟩⟩
def spBetween : Sp := SpF (fun x : Int × Int × Int => [.int x.1, .int x.2.1, .int x.2.2]) fun x H Q => Q (.bl (decide (x.2.1 ≤ x.1) && decide (x.1 ≤ x.2.2))) H
theorem ok_is_between (T : Txt K mg) : Cal P w K mg base 2 "is_between" spBetween := by
  refine .of (.of (F_is_between T) sc_is_between (b_is_between T) (spf_len fun _ => rfl) fun cdv A outer s H vs Q E hr h => ?_) (glo_is_between T)
  have nd := sc_is_between.nd
  have c_is_whole := ok_is_whole (P := P) (w := w) (base := base) T
  obtain ⟨⟨i, a, b⟩, rfl, q⟩ := h
  refine ⟨_, (pss_one (ps_ret (pe_and (pe_c c_is_whole hr (by rfl) (pa_cons (pv 0) pa_nil)) (pe_one (pe_chain op_le op_le (pv 1) (pv 0) (pv 2)))))), ?_⟩
  refine ⟨_, rfl, i, rfl, true, rfl, ?_⟩
  refine ⟨_, rfl, _, rfl, _, _, rfl, rfl, _, rfl, ?_⟩
  by_cases h1 : a ≤ i
  · rw [if_pos (decide_eq_true h1)]
    refine ⟨_, rfl, _, _, rfl, rfl, ?_⟩
    simpa [h1] using q
  · rw [if_neg (by simp [h1])]
    simpa [h1] using q
/-! ### is_rim -/
def spIsRim : Sp := SpF (fun v : V => [v]) fun v H Q => ∃ r, IsRim H v r ∧ ∀ H', Same H H' → Q (.bl true) H'
theorem eqvStr1 (x y : Str) : PyData.eqv (.tuple [.str x]) (.tuple [.str y]) = decide (x = y) := by
  rw [PyData.eqv, PyData.eqvAll, PyData.eqvAll, PyData.eqv]
  by_cases h : x = y
  · simp [h]
  · have h2 : (x == y) = false := beq_eq_false_iff_ne.mpr h
    rw [h2, decide_eq_false h]
    rfl
theorem dpStr1 {H : Hp} {a : Addr} {x : Str} (h : H a = some (.tup [.str x])) : Dp K H (.ref a) (.tuple [.str x]) := .tup (SqT.of h) (.cons (.str x) .nil)
theorem shStr1 (x : Str) (h : PyData.strOk x = true) : SeqAt.shaped (.tuple [.str x]) = true := by
  simp [SeqAt.shaped, PyData.canLay0, PyData.canLayAll0, PyData.depth, PyData.depthAll, h]
theorem ok_is_rim (T : Txt K mg) : Cal P w K mg base 3 "is_rim" spIsRim := by
  refine .of (.of (F_is_rim T) sc_is_rim (b_is_rim T) (spf_len fun _ => rfl) fun cdv A outer s H vs Q E hr h => ?_) (glo_is_rim T)
  have nd := sc_is_rim.nd
  have hu := hr.h
  have c_is_between := ok_is_between (P := P) (w := w) (base := base) T
  obtain ⟨v, rfl, r, ⟨a, rfl, h⟩, q⟩ := h
  refine ⟨_, (pss_cons (ps_if (PW.pt (pw_or (pt_not (pt_val (pe_callB cr_isA (by rfl) (free_isinstance T) (by decide +kernel) (pa_cons (pv 0) (pa_cons (pe_bltn (v := .ty "tuple") (by rfl) (free_tuple T) (by decide +kernel) rfl) pa_nil))))) (pw_or1 (pt_cmpR op_lt (pe_callB cr_lenO (by rfl) (free_len T) PySem.boot_len (pa_cons (pv 0) pa_nil)) pe_int (nomark _))))) (pss_one (ps_ret pe_bl)) pss_nil)
    (pss_cons (ps_if (pt_cmpR op_eq (pe_ix ix_tup (pv 0) pe_int (fun _ _ => rfl)) pe_str (nomark _)) (pss_one (ps_ret (pe_and (pe_cmpR op_eq (pe_callB cr_lenO (by rfl) (free_len T) PySem.boot_len (pa_cons (pv 0) pa_nil)) pe_int (nomark _)) (pe_one (pe_c c_is_between hr (by rfl) (pa_cons (pe_ix ix_tup (pv 0) pe_int (fun _ _ => rfl)) (pa_cons pe_int (pa_cons (pe_gi (by rfl) (int_MOST_FIXED T)) pa_nil)))))))) pss_nil)
    (pss_one (ps_ret (pe_or (pe_cmpR (op_eqD hu) (pv 0) (pe_tupO (pa_cons pe_str pa_nil)) (nomark _)) (pe_one (pe_cmpR (op_eqD hu) (pv 0) (pe_tupO (pa_cons pe_str pa_nil)) (nomark _)))))))), ?_⟩
  have h0 : r.vs[0]? = some (V.str r.word) := by cases r <;> rfl
  walk_at "go"
  refine u_isA_tup h ?_
  walk_at "go"
  refine u_lenT h ?_
  walk_at "go"
  refine u_ifF (by cases r <;> decide) ?_
  walk_at "go"
  refine w_ixT (n := 0) h h0 ?_
  walk_at "go"
  cases r with
  | fixed =>
    walk_at "go"
    refine u_ifT rfl ?_
    walk_at "go"
    refine u_lenT h ?_
    walk_at "go"
    refine u_andVT rfl ?_
    walk_at "go"
    refine w_ixT (n := 1) h rfl ?_
    walk_at "go"
    exact ⟨(7, 0, 1000000000), rfl, q H (Same.refl H)⟩
  | mirror =>
    refine u_ifF (by decide) ?_
    walk_at "go"
    refine u_tupn (by decide) fun p H1 hp s1 h1 => ?_
    refine ⟨_, _, dpStr1 (s1 _ _ h), dpStr1 h1, shStr1 _ (by decide +kernel), shStr1 _ (by decide +kernel), ?_⟩
    rw [eqvStr1]
    exact u_orVT (by decide) (q _ s1)
  | round =>
    refine u_ifF (by decide) ?_
    walk_at "go"
    refine u_tupn (by decide) fun p H1 hp s1 h1 => ?_
    refine ⟨_, _, dpStr1 (s1 _ _ h), dpStr1 h1, shStr1 _ (by decide +kernel), shStr1 _ (by decide +kernel), ?_⟩
    rw [eqvStr1]
    refine u_orVF (by decide) ?_
    walk_at "go"
    refine u_tupn (by decide) fun p2 H2 hp2 s2 h2 => ?_
    refine ⟨_, _, dpStr1 (s2 _ _ (s1 _ _ h)), dpStr1 h2, shStr1 _ (by decide +kernel), shStr1 _ (by decide +kernel), ?_⟩
    rw [eqvStr1]
    exact q _ (s1.trans s2)
end
end SL
end PtD1
/-! part D2 -/
section PtD2
/-! D2: the rims' classes. -/
namespace SL
open PySem PySem.Spec PyProof.Rows L2
/-- one step that needs nothing -/
local macro_rules | `(tactic| walk_at "sl1") => `(tactic| first
  | (with_reducible refine w_varh ?_; refine ⟨_, rfl, ?_⟩) | (with_reducible refine w_rEqh ?_; refine ⟨rfl, ?_⟩) | (with_reducible refine w_rNeh ?_; refine ⟨rfl, ?_⟩)
  | with_reducible refine w_seq ?_ | with_reducible refine w_asg ?_ | with_reducible refine w_c ?_ | with_reducible refine w_op ?_ | with_reducible refine w_rI0 ?_ | with_reducible refine u_test ?_ | with_reducible refine u_tb ?_ | with_reducible refine u_bl ?_ | with_reducible refine u_ifs ?_ | with_reducible refine u_ift ?_ | with_reducible refine u_iff ?_ | with_reducible refine w_cons ?_ | with_reducible refine w_nil ?_ | with_reducible refine w_cl ?_ | with_reducible refine w_cb ?_ | with_reducible refine w_ret ?_ | with_reducible refine w_drop ?_ | with_reducible refine w_name ?_ | with_reducible refine w_next ?_
  | with_reducible refine u_fld ?_ | with_reducible refine u_tup ?_ | with_reducible refine u_lst ?_ | with_reducible refine u_not ?_ | with_reducible refine u_nott ?_ | with_reducible refine u_notf ?_ | with_reducible refine u_and ?_ | with_reducible refine u_or ?_ | with_reducible refine u_andt ?_ | with_reducible refine u_andf ?_ | with_reducible refine u_ort ?_ | with_reducible refine u_orf ?_ | with_reducible refine u_andV ?_ | with_reducible refine u_orV ?_ | with_reducible refine u_andVt ?_ | with_reducible refine u_andVf ?_ | with_reducible refine u_orVt ?_ | with_reducible refine u_orVf ?_ | with_reducible refine u_notV ?_ | with_reducible refine u_notVb ?_
  | with_reducible refine u_chain ?_ | with_reducible refine u_cht ?_ | with_reducible refine u_chf ?_ | with_reducible refine w_un ?_ | with_reducible refine w_rU ?_ | with_reducible refine w_isN ?_ | with_reducible refine w_notN ?_ | with_reducible refine u_bm ?_ | with_reducible refine u_sl ?_ | with_reducible refine u_part ?_ | with_reducible refine u_parti ?_ | with_reducible refine u_nopart ?_ | with_reducible refine u_m1 ?_ | with_reducible refine u_mt ?_ | with_reducible refine u_mk ?_ | with_reducible refine u_nget ?_ | with_reducible refine u_nin ?_ | with_reducible refine u_nput ?_ | with_reducible refine u_fldS ?_
  | with_reducible refine u_for ?_ | with_reducible refine u_lc ?_ | with_reducible refine u_iL ?_ | with_reducible refine u_iT ?_ | with_reducible refine u_iE ?_ | with_reducible refine u_iZ ?_ | with_reducible refine u_iZ2 ?_ | with_reducible refine u_iZ3 ?_ | with_reducible refine u_iR1 ?_ | with_reducible refine u_iR2 ?_ | with_reducible refine u_sub ?_ | with_reducible refine u_isA_int ?_ | with_reducible refine u_isA_bool ?_ | with_reducible refine u_int1 ?_ | with_reducible refine u_intB ?_ | with_reducible refine u_min2 ?_ | with_reducible refine u_kw ?_ | with_reducible refine w_yes ?_ | with_reducible refine u_srt ?_ | with_reducible refine u_yt ?_ | with_reducible refine u_yf ?_)
local macro_rules | `(tactic| walk_at "go") => `(tactic| repeat walk_at "sl1")
def Rk.cls (K : PySem.W.Frag) : Rk → Addr
  | .fixed => He.ga K "FixedRim"
  | .mirror => He.ga K "MirrorRim"
  | .round => He.ga K "Rim"
def Rk.fs (r : Rk) (s : Int) : List (Str × V) := match r with
  | .fixed => [("size", .int s), ("beyond", .int 7)]
  | .mirror => [("size", .int s)]
  | .round => [("size", .int s)]
def IsEdge (K : PySem.W.Frag) (H : Hp) (v : V) (s : Int) (r : Rk) : Prop := ∃ a dx, v = .ref a ∧ H a = some (.ins (r.cls K) dx (r.fs s))
theorem IsEdge.mono {K : PySem.W.Frag} {H H' : Hp} {v : V} {s : Int} {r : Rk} (t : Same H H') (h : IsEdge K H v s r) : IsEdge K H' v s r := let ⟨a, dx, e, q⟩ := h; ⟨a, dx, e, t _ _ q⟩
theorem IsEdge.but {K : PySem.W.Frag} {H H' : Hp} {v : V} {s : Int} {r : Rk} {t : Addr} {xs : List V} (b : But t H H') (ht : H t = some (.lst xs)) (h : IsEdge K H v s r) : IsEdge K H' v s r := let ⟨a, dx, e, q⟩ := h; ⟨a, dx, e, b _ _ q fun z => by rw [z, ht] at q; cases q⟩
/-- where a rim leads -/
def atN : Rk → Int → Int → Option Int
  | .fixed, s, n => if 0 ≤ n ∧ n < s then some n else none
  | .mirror, s, n => some (if n % (2 * s) < s then n % (2 * s) else 2 * s - 1 - n % (2 * s))
  | .round, s, n => some (n % s)
def ov : Option Int → V
  | none => .non
  | some i => .int i
section
variable {P : Program} {w : World} {K : PySem.W.Frag} {mg : Str → Option Value} {base : Heap}
theorem lkS {k : Str} {v : V} {r : List (Str × V)} : List.lookup k ((k, v) :: r) = some v := by
  have e : (k == k) = true := beq_self_eq_true k
  simp only [List.lookup, e]
theorem lkN {k g : Str} {v : V} {r : List (Str × V)} (h : (k == g) = false) : List.lookup k ((g, v) :: r) = List.lookup k r := by
  simp only [List.lookup, h]
theorem fs_size (r : Rk) (s : Int) : (r.fs s).lookup ("size" : Str) = some (V.int s) := by cases r <;> exact lkS
theorem na_size (T : Txt K mg) (r : Rk) : NoAttr K (r.cls K) "size" := by
  cases r
  · exact noat_FixedRim_size T
  · exact noat_MirrorRim_size T
  · exact noat_Rim_size T
theorem cls_rk (T : Txt K mg) (r : Rk) : Cls K (r.cls K) := by
  cases r
  · exact cls_FixedRim T
  · exact cls_MirrorRim T
  · exact cls_Rim T
theorem fs_at (r : Rk) (s : Int) : (r.fs s).lookup ("at_number" : Str) = none := by cases r <;> (refine (lkN (by decide)).trans ?_) <;> first | rfl | exact (lkN (by decide)).trans rfl
def spAt (K : PySem.W.Frag) (r : Rk) : Sp := SpF (fun x : Addr × Int => [.ref x.1, .int x.2]) fun x H Q => ∃ dx s, 0 < s ∧ H x.1 = some (.ins (r.cls K) dx (r.fs s)) ∧ Q (ov (atN r s x.2)) H
theorem ok_at_round (T : Txt K mg) : Met P w K mg base 1 (Rk.cls K .round) "at_number" (spAt K .round) := by
  refine .of (.of (F_Rim_at_number T) sc_Rim_at_number (b_Rim_at_number T) (spf_len fun _ => rfl) fun cdv A outer s H vs Q E hr h => ?_) (cls_Rim T) (meth_Rim_at_number T)
  have nd := sc_Rim_at_number.nd
  obtain ⟨⟨a, n⟩, rfl, dx, z, hz, h, q⟩ := h
  refine ⟨_, (pss_one (ps_ret (pe_op op_mod (pv 1) (pe_fld (pv 0) rfl)))), ?_⟩
  walk_at "go"
  refine u_ins h (cls_Rim T) (na_size T .round) (fs_size _ _) ?_
  exact w_rI hz q
theorem ok_at_mirror (T : Txt K mg) : Met P w K mg base 1 (Rk.cls K .mirror) "at_number" (spAt K .mirror) := by
  refine .of (.of (F_MirrorRim_at_number T) sc_MirrorRim_at_number (b_MirrorRim_at_number T) (spf_len fun _ => rfl) fun cdv A outer s H vs Q E hr h => ?_) (cls_MirrorRim T) (meth_MirrorRim_at_number T)
  have nd := sc_MirrorRim_at_number.nd
  obtain ⟨⟨a, n⟩, rfl, dx, z, hz, h, q⟩ := h
  have hf := fun {Q : VK} (q : Q (.int z) H) => u_ins (Q := Q) h (cls_MirrorRim T) (na_size T .mirror) (fs_size _ _) q
  refine ⟨_, (pss_cons (ps_set (i := 2) nd rfl (Or.inl rfl) (pe_op op_mod (pv 1) (pe_op op_mul pe_int (pe_fld (pv 0) rfl))))
    (pss_cons (ps_if (pt_cmpR op_lt (pv 2) (pe_fld (pv 0) rfl) (nomark _)) (pss_one (ps_ret (pv 2))) pss_nil)
    (pss_one (ps_ret (pe_op op_sub (pe_op op_sub (pe_op op_mul pe_int (pe_fld (pv 0) rfl)) pe_int) (pv 2)))))), ?_⟩
  walk_at "go"
  refine hf ?_
  refine w_rI (.inl ⟨by decide, by decide⟩) (w_rI (show (0 : Int) < 2 * z by omega) ?_)
  walk_at "go"
  refine hf ?_
  walk_at "go"
  have q' : Q (.int (if n % (2 * z) < z then n % (2 * z) else 2 * z - 1 - n % (2 * z))) H := q
  refine u_if2 (fun c => ?_) fun c => ?_
  · rw [if_pos (of_decide_eq_true c)] at q'
    walk_at "go"
    exact q'
  · rw [if_neg (of_decide_eq_false c)] at q'
    walk_at "go"
    refine hf ?_
    refine w_rI (.inl ⟨by decide, by decide⟩) ?_
    walk_at "go"
    exact q'
theorem ok_at_fixed (T : Txt K mg) : Met P w K mg base 1 (Rk.cls K .fixed) "at_number" (spAt K .fixed) := by
  refine .of (.of (F_FixedRim_at_number T) sc_FixedRim_at_number (b_FixedRim_at_number T) (spf_len fun _ => rfl) fun cdv A outer s H vs Q E hr h => ?_) (cls_FixedRim T) (meth_FixedRim_at_number T)
  have nd := sc_FixedRim_at_number.nd
  obtain ⟨⟨a, n⟩, rfl, dx, z, hz, h, q⟩ := h
  have hf := fun {Q : VK} (q : Q (.int z) H) => u_ins (Q := Q) h (cls_FixedRim T) (na_size T .fixed) (fs_size _ _) q
  have q' : Q (ov (if 0 ≤ n ∧ n < z then some n else none)) H := q
  refine ⟨_, (pss_cons (ps_if (pt_chain op_le op_lt pe_int (pv 1) (pe_fld (pv 0) rfl)) (pss_one (ps_ret (pv 1))) pss_nil)
    (pss_one (ps_ret pe_non))), ?_⟩
  walk_at "go"
  refine u_ch2 (fun c => ?_) fun c => ?_
  · have c1 := of_decide_eq_true c
    walk_at "go"
    refine hf ?_
    walk_at "go"
    refine u_if2 (fun d => ?_) fun d => ?_
    · walk_at "go"
      rw [if_pos ⟨c1, of_decide_eq_true d⟩] at q'
      exact q'
    · walk_at "go"
      rw [if_neg fun e => of_decide_eq_false d e.2] at q'
      exact q'
  · walk_at "go"
    rw [if_neg fun e => of_decide_eq_false c e.1] at q'
    exact q'
def DAt (K : PySem.W.Frag) : Addr → Sp → Prop := fun C sp => ∃ r : Rk, C = r.cls K ∧ sp = spAt K r
theorem ok_at (T : Txt K mg) : ∀ C sp, DAt K C sp → Met P w K mg base 1 C "at_number" sp := by
  rintro _ _ ⟨r, rfl, rfl⟩
  cases r
  · exact ok_at_fixed T
  · exact ok_at_mirror T
  · exact ok_at_round T
/-- Rim.__init__, of any class -/
def spRimI (K : PySem.W.Frag) : Sp := SpF (fun x : Addr × Int => [.ref x.1, .int x.2]) fun x H Q => ∃ C dx, Cls K C ∧ NoAttr K C "size" ∧ H x.1 = some (.ins C dx []) ∧ ∀ H', But x.1 H H' → TK H H' → (∀ b, H b = none → H' b = none) → H' x.1 = some (.ins C dx [("size", .int x.2)]) → Q .non H'
theorem ok_rim_init (T : Txt K mg) : At P w K mg base 1 (He.ma K (He.ga K "Rim") "__init__") (spRimI K) := by
  refine .of (F_Rim_init T) sc_Rim_init (b_Rim_init T) (spf_len fun _ => rfl) fun cdv A outer s H vs Q E hr h => ?_
  have nd := sc_Rim_init.nd
  obtain ⟨⟨a, n⟩, rfl, C, dx, c, na, h, q⟩ := h
  refine ⟨_, (pss_one (ps_fldO (pv 0) (pv 1) rfl)), ?_⟩
  walk_at "go"
  exact u_fldSi h c na (by show 0 < 1000; decide) fun H' b t n' e => q H' b t n' e
def spFixI (K : PySem.W.Frag) : Sp := SpF (fun x : Addr × Int => [.ref x.1, .int x.2, .int 7]) fun x H Q => ∃ dx, H x.1 = some (.ins (Rk.cls K .fixed) dx []) ∧ ∀ H', But x.1 H H' → H' x.1 = some (.ins (Rk.cls K .fixed) dx (Rk.fs .fixed x.2)) → Q .non H'
theorem ok_fix_init (T : Txt K mg) : At P w K mg base 2 (He.ma K (He.ga K "FixedRim") "__init__") (spFixI K) := by
  refine .of (F_FixedRim_init T) sc_FixedRim_init (b_FixedRim_init T) (spf_len fun _ => rfl) fun cdv A outer s H vs Q E hr h => ?_
  have nd := sc_FixedRim_init.nd
  have a_Rim_init := ok_rim_init (P := P) (w := w) (base := base) T
  obtain ⟨⟨a, n⟩, rfl, dx, h, q⟩ := h
  refine ⟨_, (pss_cons (ps_expr (pe_clsfn a_Rim_init hr (by rfl) (glo_Rim T) (rim_reads T) (rim_ga T) (rim_at T) (pa_cons (pv 0) (pa_cons (pv 1) pa_nil))))
    (pss_one (ps_fldO (pv 0) (pv 2) rfl))), ?_⟩
  walk_at "go"
  refine ⟨(a, n), rfl, _, dx, cls_FixedRim T, noat_FixedRim_size T, h, fun H1 b1 t1 n1 e1 => ?_⟩
  walk_at "go"
  exact u_fldSi e1 (cls_FixedRim T) (noat_FixedRim_beyond T) (by show 1 < 1000; decide) fun H2 b2 t2 n2 e2 => q H2 (b1.trans b2) e2
def spRimOf (K : PySem.W.Frag) : Sp := SpF (fun x : Int × V => [.int x.1, x.2]) fun x H Q => ∃ r, IsRim H x.2 r ∧ ∀ a H', H a = none → Same H H' → IsEdge K H' (.ref a) x.1 r → Q (.ref a) H'
theorem ok_rim_of (T : Txt K mg) : Cal P w K mg base 4 "rim_of" (spRimOf K) := by
  refine .of (.of (F_rim_of T) sc_rim_of (b_rim_of T) (spf_len fun _ => rfl) fun cdv A outer s H vs Q E hr h => ?_) (glo_rim_of T)
  have nd := sc_rim_of.nd
  have a1 := ok_rim_init (P := P) (w := w) (base := base) T
  have a2 := ok_fix_init (P := P) (w := w) (base := base) T
  have k_Rim := Mak.of a1 (glo_Rim T) (mkr_Rim T)
  have k_MirrorRim := Mak.of (eq_MirrorRim_init T ▸ a1) (glo_MirrorRim T) (mkr_MirrorRim T)
  have k_FixedRim := Mak.of a2 (glo_FixedRim T) (mkr_FixedRim T)
  obtain ⟨⟨n, v⟩, rfl, r, ⟨a, rfl, h⟩, q⟩ := h
  have h0 : r.vs[0]? = some (V.str r.word) := by cases r <;> rfl
  refine ⟨_, (pss_cons (ps_if (pt_cmpR op_eq (pe_ix ix_tup (pv 1) pe_int (fun _ _ => rfl)) pe_str (nomark _)) (pss_one (ps_ret (pe_mkO k_MirrorRim hr (by rfl) (pa_cons (pv 0) pa_nil)))) pss_nil)
    (pss_cons (ps_if (pt_cmpR op_eq (pe_ix ix_tup (pv 1) pe_int (fun _ _ => rfl)) pe_str (nomark _)) (pss_one (ps_ret (pe_mkO k_Rim hr (by rfl) (pa_cons (pv 0) pa_nil)))) pss_nil)
    (pss_one (ps_ret (pe_mkO k_FixedRim hr (by rfl) (pa_cons (pv 0) (pa_cons (pe_ix ix_tup (pv 1) pe_int (fun _ _ => rfl)) pa_nil))))))), ?_⟩
  walk_at "go"
  refine w_ixT (n := 0) h h0 ?_
  cases r with
  | mirror =>
    walk_at "go"
    refine u_ifT (by decide) ?_
    walk_at "go"
    refine u_mki fun x dx H2 hx s2 e2 => ⟨(x, n), rfl, _, dx, cls_MirrorRim T, noat_MirrorRim_size T, e2, fun H3 b3 t3 n3 e3 => ⟨rfl, q _ H3 hx (s2.but b3 hx) ⟨x, dx, rfl, e3⟩⟩⟩
  | round =>
    walk_at "go"
    refine u_ifF (by decide) ?_
    walk_at "go"
    refine w_ixT (n := 0) h h0 ?_
    walk_at "go"
    refine u_ifT (by decide) ?_
    walk_at "go"
    refine u_mki fun x dx H2 hx s2 e2 => ⟨(x, n), rfl, _, dx, cls_Rim T, noat_Rim_size T, e2, fun H3 b3 t3 n3 e3 => ⟨rfl, q _ H3 hx (s2.but b3 hx) ⟨x, dx, rfl, e3⟩⟩⟩
  | fixed =>
    walk_at "go"
    refine u_ifF (by decide) ?_
    walk_at "go"
    refine w_ixT (n := 0) h h0 ?_
    walk_at "go"
    refine u_ifF (by decide) ?_
    walk_at "go"
    refine w_ixT (n := 1) h rfl ?_
    walk_at "go"
    refine u_mki fun x dx H2 hx s2 e2 => ⟨(x, n), rfl, dx, e2, fun H3 b3 e3 => ⟨rfl, q _ H3 hx (s2.but b3 hx) ⟨x, dx, rfl, e3⟩⟩⟩
end
end SL
end PtD2
/-! part D3 -/
section PtD3
/-! D3: places: the loops that Grid.all_places and the law's places share. -/
namespace SL
open PySem PySem.Spec PyProof.Rows L2
/-- one step that needs nothing -/
local macro_rules | `(tactic| walk_at "sl1") => `(tactic| first
  | (with_reducible refine w_varh ?_; refine ⟨_, rfl, ?_⟩) | (with_reducible refine w_rEqh ?_; refine ⟨rfl, ?_⟩) | (with_reducible refine w_rNeh ?_; refine ⟨rfl, ?_⟩)
  | with_reducible refine w_seq ?_ | with_reducible refine w_asg ?_ | with_reducible refine w_c ?_ | with_reducible refine w_op ?_ | with_reducible refine w_rI0 ?_ | with_reducible refine u_test ?_ | with_reducible refine u_tb ?_ | with_reducible refine u_bl ?_ | with_reducible refine u_ifs ?_ | with_reducible refine u_ift ?_ | with_reducible refine u_iff ?_ | with_reducible refine w_cons ?_ | with_reducible refine w_nil ?_ | with_reducible refine w_cl ?_ | with_reducible refine w_cb ?_ | with_reducible refine w_ret ?_ | with_reducible refine w_drop ?_ | with_reducible refine w_name ?_ | with_reducible refine w_next ?_
  | with_reducible refine u_fld ?_ | with_reducible refine u_tup ?_ | with_reducible refine u_lst ?_ | with_reducible refine u_not ?_ | with_reducible refine u_nott ?_ | with_reducible refine u_notf ?_ | with_reducible refine u_and ?_ | with_reducible refine u_or ?_ | with_reducible refine u_andt ?_ | with_reducible refine u_andf ?_ | with_reducible refine u_ort ?_ | with_reducible refine u_orf ?_ | with_reducible refine u_andV ?_ | with_reducible refine u_orV ?_ | with_reducible refine u_andVt ?_ | with_reducible refine u_andVf ?_ | with_reducible refine u_orVt ?_ | with_reducible refine u_orVf ?_ | with_reducible refine u_notV ?_ | with_reducible refine u_notVb ?_
  | with_reducible refine u_chain ?_ | with_reducible refine u_cht ?_ | with_reducible refine u_chf ?_ | with_reducible refine w_un ?_ | with_reducible refine w_rU ?_ | with_reducible refine w_isN ?_ | with_reducible refine w_notN ?_ | with_reducible refine u_bm ?_ | with_reducible refine u_sl ?_ | with_reducible refine u_part ?_ | with_reducible refine u_parti ?_ | with_reducible refine u_nopart ?_ | with_reducible refine u_m1 ?_ | with_reducible refine u_mt ?_ | with_reducible refine u_mk ?_ | with_reducible refine u_nget ?_ | with_reducible refine u_nin ?_ | with_reducible refine u_nput ?_ | with_reducible refine u_fldS ?_
  | with_reducible refine u_for ?_ | with_reducible refine u_lc ?_ | with_reducible refine u_iL ?_ | with_reducible refine u_iT ?_ | with_reducible refine u_iE ?_ | with_reducible refine u_iZ ?_ | with_reducible refine u_iZ2 ?_ | with_reducible refine u_iZ3 ?_ | with_reducible refine u_iR1 ?_ | with_reducible refine u_iR2 ?_ | with_reducible refine u_sub ?_ | with_reducible refine u_isA_int ?_ | with_reducible refine u_isA_bool ?_ | with_reducible refine u_int1 ?_ | with_reducible refine u_intB ?_ | with_reducible refine u_min2 ?_ | with_reducible refine u_kw ?_ | with_reducible refine w_yes ?_ | with_reducible refine u_srt ?_ | with_reducible refine u_yt ?_ | with_reducible refine u_yf ?_)
local macro_rules | `(tactic| walk_at "go") => `(tactic| repeat walk_at "sl1")
/-- one line more -/
def plsAt (n : Nat) (p : List Int) : List (List Int) := (List.range n).map fun (k : Nat) => p ++ [(k : Int)]
def stepPl (found : List (List Int)) (s : Int) : List (List Int) := found.flatMap (plsAt s.toNat)
def placesOf (ss : List Int) : List (List Int) := ss.foldl stepPl [[]]
def SzB (ss : List Int) : Prop := ss.length ≤ 3 ∧ ∀ s ∈ ss, 1 ≤ s ∧ s ≤ 9
theorem l0 : ([] : List V).length ≤ sizeLine := Nat.zero_le _
theorem l1 {x : V} : [x].length ≤ sizeLine := by show 1 ≤ sizeLine; decide
theorem l2 {x y : V} : [x, y].length ≤ sizeLine := by show 2 ≤ sizeLine; decide
theorem l3 {x y z : V} : [x, y, z].length ≤ sizeLine := by show 3 ≤ sizeLine; decide
theorem l4 {x y z u : V} : [x, y, z, u].length ≤ sizeLine := by show 4 ≤ sizeLine; decide
theorem small_line {n : Nat} (h : n ≤ 100000) : n < sizeLine := Nat.lt_of_le_of_lt h (by decide)
theorem plsAt_len (n : Nat) (p : List Int) : (plsAt n p).length = n := by simp [plsAt]
theorem stepPl_len (found : List (List Int)) (s : Int) : (stepPl found s).length = found.length * s.toNat := by
  unfold stepPl
  induction found with
  | nil => simp
  | cons p found ih =>
    rw [List.flatMap_cons, List.length_append, ih, plsAt_len, List.length_cons, Nat.succ_mul]
    omega
theorem places_app (ss : List Int) (s : Int) : placesOf (ss ++ [s]) = stepPl (placesOf ss) s := by
  unfold placesOf
  rw [List.foldl_append]
  rfl
theorem take_succ_of {α : Type} {l : List α} {i : Nat} {x : α} (h : l[i]? = some x) : l.take (i + 1) = l.take i ++ [x] := by
  rw [List.take_succ, h] <;> rfl
theorem places_take_len {ss : List Int} (hs : ∀ s ∈ ss, 1 ≤ s ∧ s ≤ 9) : ∀ i, i ≤ ss.length → (placesOf (ss.take i)).length ≤ 9 ^ i
  | 0, _ => by simp [placesOf]
  | i + 1, hi => by
    have hx : ss[i]? = some ss[i] := List.getElem?_eq_getElem hi
    have ih := places_take_len hs i (Nat.le_of_lt hi)
    have hb := hs ss[i] (List.getElem_mem hi)
    rw [take_succ_of hx, places_app, stepPl_len, Nat.pow_succ]
    exact Nat.mul_le_mul ih (by omega)
theorem pow9 {i : Nat} (h : i ≤ 3) : 9 ^ i ≤ 729 := Nat.pow_le_pow_right (n := 9) (by decide) h
theorem len_of_mem {ss : List Int} : ∀ p ∈ placesOf ss, p.length = ss.length := by
  have key : ∀ (ss : List Int) (found : List (List Int)) (n : Nat), (∀ p ∈ found, p.length = n) → ∀ p ∈ ss.foldl stepPl found, p.length = n + ss.length := by
    intro ss
    induction ss with
    | nil => intro found n h p hp; exact h p hp
    | cons s ss ih =>
      intro found n h p hp
      rw [List.foldl_cons] at hp
      have := ih (stepPl found s) (n + 1) (fun p hp => by
        obtain ⟨q, hq, hp⟩ := List.mem_flatMap.mp hp
        obtain ⟨k, _, e⟩ := List.mem_map.mp hp
        rw [← e, List.length_append, h q hq]
        rfl) p hp
      rw [this, List.length_cons]
      omega
  intro p hp
  have := key ss [[]] 0 (fun p hp => by rw [List.mem_singleton.mp hp]; rfl) p hp
  omega
section
variable {K : PySem.W.Frag} {σ : L2.St} {B H : Hp} {Q : VK} {D : Ends}
theorem vals_map {α : Type} {f : α → V} {l : List α} {i : Nat} {x : V} (h : (l.map f)[i]? = some x) : ∃ a, l[i]? = some a ∧ x = f a := by
  rw [List.getElem?_map] at h
  cases e : l[i]? with
  | none => rw [e] at h; cases h
  | some a => rw [e] at h; exact ⟨a, rfl, (Option.some.inj h).symm⟩
/-- [place + (k,) for k in range(n)] -/
theorem lc_places {i j : Nat} {v : V} {pl : List Int} {n : Nat} (hj : σ[j]? = some (some v)) (ne : i ≠ j) (hi : i < σ.length) (hv : IsPl H v pl) (hn : n ≤ 1000) (hl : pl.length ≤ 1000)
    (q : ∀ p H', H p = none → Same H H' → PlL H' p (plsAt n pl) → Q (.ref p) H') : rLc (gName i) tYes (tOp rCatTO (tVar j) (tTupO (tCons (tVar i) tNil))) [i] σ (Itr 0 n) H Q := by
  refine lc_by walk_range (Same H) (fun m acc H' => Paired (IsPl H') acc ((plsAt n pl).take m)) (small_line (by omega)) (fun D H1 H2 hD s b => sS hD s b) (Same.refl H) (fun H' s => by rw [List.take_zero]; exact .nil) (fun _ _ _ _ _ _ => trivial) ?_ ?_
  · intro D m x acc H1 H2 R N put skip hD hm s p hacc y
    obtain ⟨rfl, rfl⟩ := y
    have hw : (wipe σ [i]).set i (some (V.int (0 + (m : Nat)))) = σ.set i (some (V.int (0 + (m : Nat)))) := by
      show (σ.set i none).set i _ = _
      rw [List.set_set]
    show wipe ((wipe σ [i]).set i _) [i] = wipe σ [i] ∧ _
    refine ⟨?_, ?_⟩
    · rw [hw]
      show (σ.set i _).set i none = σ.set i none
      rw [List.set_set]
    · refine w_yes (u_yt ?_)
      have e1 : ((wipe σ [i]).set i (some (V.int (0 + (m : Nat)))))[j]? = some (some v) := by rw [hw, List.getElem?_set_ne ne]; exact hj
      have e2 : ((wipe σ [i]).set i (some (V.int (0 + (m : Nat)))))[i]? = some (some (V.int (0 + (m : Nat)))) := by rw [hw, List.getElem?_set_self hi]
      obtain ⟨a, rfl, ha⟩ := hv.mono (TK.of s)
      refine ⟨_, e1, _, e2, l1, fun t H3 ht s3 h3 => ?_⟩
      have hD3 := s3 _ _ hacc
      refine u_catT (s3 _ _ ha) h3 (small_line (by rw [List.length_map]; omega)) fun r H4 s4 h4 => ?_
      refine put _ _ (s4 _ _ hD3) ((s.trans s3).trans s4) fun H5 b5 t5 s5 => ?_
      have hx : (plsAt n pl)[m]? = some (pl ++ [(m : Int)]) := by
        unfold plsAt
        rw [List.getElem?_map, List.getElem?_range hm]
        rfl
      rw [take_succ_of hx]
      refine prApp (pls_mono ((TK.of (s3.trans s4)).trans t5) p) (.cons ⟨r, rfl, t5 _ _ ?_⟩ .nil)
      rw [h4, List.map_append, Int.zero_add]
      rfl
  · intro D acc H1 hD hacc s p
    refine q D H1 hD s ⟨acc, hacc, ?_⟩
    rw [List.take_of_length_le (by rw [plsAt_len]; exact Nat.le_refl _)] at p
    exact p
abbrev tbPl (K : PySem.W.Frag) : TS := tSeq (tAsg (tLstO tNil) (gName 3)) (tSeq (tFor (iList K (tVar 1)) (gName 4) (tDrop (tBM K "list" rExtO (tVar 3) (tCons (tLc (iRng1 (tCons (tVar 2) tNil)) (gName 5) tYes (tOp rCatTO (tVar 4) (tTupO (tCons (tVar 5) tNil))) [5]) tNil)))) (tAsg (tVar 3) (gName 1)))
theorem PlL.len {H : Hp} {a : Addr} {ps : List (List Int)} (h : PlL H a ps) {vs : List V} (e : H a = some (.lst vs)) : vs.length = ps.length := by
  obtain ⟨us, e', q⟩ := h
  rw [e] at e'
  cases e'
  exact prLen q
/-- the loop -/
theorem for_places {a f : Addr} {v0 : Option V} {ss : List Int} {x2 x3 x4 x5 : Option V} (hB : Same B H) (ha : B a = some (.lst (ss.map V.int))) (hf : B f = none) (hz : SzB ss) (hp : PlL H f [[]])
    (q : ∀ f' y2 y3 y4 y5 H', B f' = none → Same B H' → PlL H' f' (placesOf ss) → D.nx [v0, some (.ref f'), y2, y3, y4, y5] H') :
    rFor (gName 2) (tbPl K) D [v0, some (.ref f), x2, x3, x4, x5] (Itl K a) H := by
  obtain ⟨hz1, hz2⟩ := hz
  refine for_by (walk_list (xs := ss.map V.int)) (fun i σ H' => ∃ f x2 x3 x4 x5, σ = [v0, some (.ref f), x2, x3, x4, x5] ∧ Same B H' ∧ B f = none ∧ PlL H' f (placesOf (ss.take i))) ⟨f, x2, x3, x4, x5, rfl, hB, hf, hp⟩ ?_ ?_ ?_
  · rintro i σ H' _ ⟨_, _, _, _, _, rfl, s, _⟩
    exact SqL.of (s _ _ ha)
  · rintro i x σ H1 H2 hi ⟨f, x2, x3, x4, x5, rfl, s, hf, hp⟩ ⟨rfl, hx⟩
    rw [List.length_map] at hi
    obtain ⟨z, hz, rfl⟩ := vals_map hx
    have hzb := hz2 z (List.mem_of_getElem? hz)
    have hlen := places_take_len hz2 i (Nat.le_of_lt hi)
    have h9 := pow9 (i := i) (by omega)
    generalize hpls : placesOf (ss.take i) = pls at hp hlen
    have hnext : placesOf (ss.take (i + 1)) = stepPl pls z := by rw [take_succ_of hz, places_app, hpls]
    have hpl : ∀ p ∈ pls, p.length ≤ 3 := fun p hp => by
      rw [← hpls] at hp
      rw [len_of_mem p hp, List.length_take]
      omega
    rw [hnext]
    walk_at "go"
    refine u_lstn (xs := []) (Nat.zero_le _) fun l H3 hl s3 e3 => ?_
    have hBl : B l = none := s.free hl
    have nf : f ≠ l := by
      obtain ⟨_, e, _⟩ := hp
      exact ne_of_none e hl
    walk_at "go"
    obtain ⟨vs, ef, pf⟩ := hp.mono s3
    have hvl : vs.length = pls.length := prLen pf
    refine u_iLi (SqL.of ef) ?_
    refine for_by (walk_list (xs := vs)) (fun j σ H' => ∃ x4 x5, σ = [v0, some (.ref f), some (.int z), some (.ref l), x4, x5] ∧ Same B H' ∧ H' f = some (.lst vs) ∧ Paired (IsPl H') vs pls ∧ PlL H' l ((pls.take j).flatMap (plsAt z.toNat))) ⟨x4, x5, rfl, s.trans s3, ef, pf, [], e3, .nil⟩ ?_ ?_ ?_
    · rintro j σ H' _ ⟨_, _, rfl, _, e, _⟩
      exact SqL.of e
    · rintro j x σ H4 H5 hj ⟨x4, x5, rfl, s4, ef4, pf4, hl4⟩ ⟨rfl, hxj⟩
      obtain ⟨p, hpj, hxp⟩ := prAt1 pf4 hxj
      obtain ⟨us, el, pl⟩ := hl4
      walk_at "go"
      refine u_bmL el ?_
      walk_at "go"
      refine u_iR1i (by omega) (by omega) ?_
      have hll : us.length ≤ 729 * 9 := by
        rw [prLen pl]
        have e := stepPl_len (pls.take j) z
        unfold stepPl at e
        rw [e, List.length_take]
        exact Nat.mul_le_mul (by omega) (by omega)
      refine lc_places (v := x) (pl := p) rfl (by decide) (show 5 < 6 by decide) hxp (by omega) (by have := hpl p (List.mem_of_getElem? hpj); omega) fun c H6 hc s6 hL => ?_
      walk_at "go"
      obtain ⟨ws, ew, pw⟩ := hL
      have hwl : ws.length = z.toNat := by rw [prLen pw, plsAt_len]
      refine u_ext (s6 _ _ el) ew (Nat.le_of_lt (small_line (by omega))) fun H7 b7 t7 n7 e7 => ?_
      refine ⟨_, _, rfl, (s4.trans s6).but b7 hBl, b7 _ _ (s6 _ _ ef4) nf, pls_mono ((TK.of s6).trans t7) pf4, _, e7, ?_⟩
      rw [take_succ_of hpj, List.flatMap_append, List.flatMap_singleton]
      exact pls_mono t7 (prApp (pls_mono (TK.of s6) pl) pw)
    · rintro σ H4 ⟨x4, x5, rfl, s4, ef4, pf4, hl4⟩
      walk_at "go"
      rw [hvl, List.take_length] at hl4
      exact ⟨l, _, _, _, _, rfl, s4, hBl, hl4⟩
  · rintro σ H' ⟨f, x2, x3, x4, x5, rfl, s, hf, hp⟩
    rw [List.length_map, List.take_length] at hp
    exact q f x2 x3 x4 x5 H' hf s hp
end
end SL
end PtD3
/-! part D4 -/
section PtD4
/-! D4: Grid. -/
namespace SL
open PySem PySem.Spec PyProof.Rows L2
/-- one step that needs nothing -/
local macro_rules | `(tactic| walk_at "sl1") => `(tactic| first
  | (with_reducible refine w_varh ?_; refine ⟨_, rfl, ?_⟩) | (with_reducible refine w_rEqh ?_; refine ⟨rfl, ?_⟩) | (with_reducible refine w_rNeh ?_; refine ⟨rfl, ?_⟩)
  | with_reducible refine w_seq ?_ | with_reducible refine w_asg ?_ | with_reducible refine w_c ?_ | with_reducible refine w_op ?_ | with_reducible refine w_rI0 ?_ | with_reducible refine u_test ?_ | with_reducible refine u_tb ?_ | with_reducible refine u_bl ?_ | with_reducible refine u_ifs ?_ | with_reducible refine u_ift ?_ | with_reducible refine u_iff ?_ | with_reducible refine w_cons ?_ | with_reducible refine w_nil ?_ | with_reducible refine w_cl ?_ | with_reducible refine w_cb ?_ | with_reducible refine w_ret ?_ | with_reducible refine w_drop ?_ | with_reducible refine w_name ?_ | with_reducible refine w_next ?_
  | with_reducible refine u_fld ?_ | with_reducible refine u_tup ?_ | with_reducible refine u_lst ?_ | with_reducible refine u_not ?_ | with_reducible refine u_nott ?_ | with_reducible refine u_notf ?_ | with_reducible refine u_and ?_ | with_reducible refine u_or ?_ | with_reducible refine u_andt ?_ | with_reducible refine u_andf ?_ | with_reducible refine u_ort ?_ | with_reducible refine u_orf ?_ | with_reducible refine u_andV ?_ | with_reducible refine u_orV ?_ | with_reducible refine u_andVt ?_ | with_reducible refine u_andVf ?_ | with_reducible refine u_orVt ?_ | with_reducible refine u_orVf ?_ | with_reducible refine u_notV ?_ | with_reducible refine u_notVb ?_
  | with_reducible refine u_chain ?_ | with_reducible refine u_cht ?_ | with_reducible refine u_chf ?_ | with_reducible refine w_un ?_ | with_reducible refine w_rU ?_ | with_reducible refine w_isN ?_ | with_reducible refine w_notN ?_ | with_reducible refine u_bm ?_ | with_reducible refine u_sl ?_ | with_reducible refine u_part ?_ | with_reducible refine u_parti ?_ | with_reducible refine u_nopart ?_ | with_reducible refine u_m1 ?_ | with_reducible refine u_mt ?_ | with_reducible refine u_mk ?_ | with_reducible refine u_nget ?_ | with_reducible refine u_nin ?_ | with_reducible refine u_nput ?_ | with_reducible refine u_fldS ?_
  | with_reducible refine u_for ?_ | with_reducible refine u_lc ?_ | with_reducible refine u_iL ?_ | with_reducible refine u_iT ?_ | with_reducible refine u_iE ?_ | with_reducible refine u_iZ ?_ | with_reducible refine u_iZ2 ?_ | with_reducible refine u_iZ3 ?_ | with_reducible refine u_iR1 ?_ | with_reducible refine u_iR2 ?_ | with_reducible refine u_sub ?_ | with_reducible refine u_isA_int ?_ | with_reducible refine u_isA_bool ?_ | with_reducible refine u_int1 ?_ | with_reducible refine u_intB ?_ | with_reducible refine u_min2 ?_ | with_reducible refine u_kw ?_ | with_reducible refine w_yes ?_ | with_reducible refine u_srt ?_ | with_reducible refine u_yt ?_ | with_reducible refine u_yf ?_)
local macro_rules | `(tactic| walk_at "go") => `(tactic| repeat walk_at "sl1")
/-- the grid at a: its lines' sizes and rims -/
def IsGrid (K : PySem.W.Frag) (H : Hp) (a : Addr) (es : List (Int × Rk)) : Prop :=
  ∃ dx ls le vr ve, H a = some (.ins (He.ga K "Grid") dx [("sizes", .ref ls), ("rims", vr), ("edges", .ref le)]) ∧ H ls = some (.lst (es.map fun e => V.int e.1)) ∧ H le = some (.lst ve) ∧ Paired (fun v e => IsEdge K H v e.1 e.2) ve es
theorem IsGrid.mono {K : PySem.W.Frag} {H H' : Hp} {a : Addr} {es : List (Int × Rk)} (s : Same H H') (h : IsGrid K H a es) : IsGrid K H' a es := by
  obtain ⟨dx, ls, le, vr, ve, h1, h2, h3, h4⟩ := h
  exact ⟨dx, ls, le, vr, ve, s _ _ h1, s _ _ h2, s _ _ h3, prImp (fun _ _ q => q.mono s) h4⟩
def szs (es : List (Int × Rk)) : List Int := es.map (·.1)
theorem szs_int (es : List (Int × Rk)) : (es.map fun e => V.int e.1) = (szs es).map V.int := by
  unfold szs
  rw [List.map_map]
  rfl
/-- what a grid's constructor takes -/
structure GrOk (es : List (Int × Rk)) : Prop where
  lo : 1 ≤ es.length
  hi : es.length ≤ 3
  sz : ∀ e ∈ es, 1 ≤ e.1 ∧ e.1 ≤ 9
  few : (szs es).foldl (· * ·) 1 ≤ 40
theorem GrOk.szb {es : List (Int × Rk)} (g : GrOk es) : SzB (szs es) := by
  refine ⟨by unfold szs; rw [List.length_map]; exact g.hi, fun s hs => ?_⟩
  obtain ⟨e, he, rfl⟩ := List.mem_map.mp hs
  exact g.sz e he
section
variable {P : Program} {w : World} {K : PySem.W.Frag} {mg : Str → Option Value} {base : Heap}
theorem g_sizes {v x y : V} : ([("sizes", v), ("rims", x), ("edges", y)] : List (Str × V)).lookup ("sizes" : Str) = some v := lkS
theorem g_edges {v x y : V} : ([("sizes", v), ("rims", x), ("edges", y)] : List (Str × V)).lookup ("edges" : Str) = some y := (lkN (by decide)).trans ((lkN (by decide)).trans lkS)
theorem g_no {v x y : V} {m : Str} (h1 : (m == ("sizes" : Str)) = false) (h2 : (m == ("rims" : Str)) = false) (h3 : (m == ("edges" : Str)) = false) : ([("sizes", v), ("rims", x), ("edges", y)] : List (Str × V)).lookup m = none := (lkN h1).trans ((lkN h2).trans ((lkN h3).trans rfl))
def spLines (K : PySem.W.Frag) : Sp := SpF (fun a : Addr => [.ref a]) fun a H Q => ∃ es, IsGrid K H a es ∧ Q (.int (es.length : Nat)) H
theorem ok_lines (T : Txt K mg) : Met P w K mg base 1 (He.ga K "Grid") "lines" (spLines K) := by
  refine .of (.of (F_Grid_lines T) sc_Grid_lines (b_Grid_lines T) (spf_len fun _ => rfl) fun cdv A outer s H vs Q E hr h => ?_) (cls_Grid T) (meth_Grid_lines T)
  have nd := sc_Grid_lines.nd
  obtain ⟨a, rfl, es, ⟨dx, ls, le, vr, ve, h1, h2, h3, h4⟩, q⟩ := h
  refine ⟨_, (pss_one (ps_ret (pe_callB cr_lenO (by rfl) (free_len T) PySem.boot_len (pa_cons (pe_fld (pv 0) rfl) pa_nil)))), ?_⟩
  walk_at "go"
  refine u_ins h1 (cls_Grid T) (noat_Grid_sizes T) g_sizes ?_
  walk_at "go"
  refine u_lenL h2 ?_
  rw [List.length_map]
  exact q
def spAllPl (K : PySem.W.Frag) : Sp := SpF (fun a : Addr => [.ref a]) fun a H Q => ∃ es, IsGrid K H a es ∧ GrOk es ∧ ∀ p H', H p = none → Same H H' → PlL H' p (placesOf (szs es)) → Q (.ref p) H'
theorem ok_all_places (T : Txt K mg) : Met P w K mg base 1 (He.ga K "Grid") "all_places" (spAllPl K) := by
  refine .of (.of (F_Grid_all_places T) sc_Grid_all_places (b_Grid_all_places T) (spf_len fun _ => rfl) fun cdv A outer s H vs Q E hr h => ?_) (cls_Grid T) (meth_Grid_all_places T)
  have nd := sc_Grid_all_places.nd
  obtain ⟨a, rfl, es, ⟨dx, ls, le, vr, ve, h1, h2, h3, h4⟩, g, q⟩ := h
  rw [szs_int] at h2
  refine ⟨_, (pss_cons (ps_set (i := 1) nd rfl (Or.inl rfl) (pe_lstO (pa_cons (pe_tupO pa_nil) pa_nil)))
    (pss_cons (ps_for PassesOwn.never rfl (pi_list (pe_fld (pv 0) rfl)) (pg_name (i := 2) nd rfl (Or.inl rfl)) (pss_cons (ps_set (i := 3) nd rfl (Or.inl rfl) (pe_lstO pa_nil))
    (pss_cons (ps_for PassesOwn.never rfl (pi_list (pv 1)) (pg_name (i := 4) nd rfl (Or.inr rfl)) (pss_one (ps_expr (pe_bm PySem.F.plainAttrs_list PySem.F.slot_list_extend PySem.F.type_list_extend mt_extO (pv 3) (pa_cons (pe_lc (own := [("number", 5)]) (g := (gName 5)) (tt := tYes)  rfl nd (pi_range1 (by rfl) (free_range T) (pa_cons (pv 2) pa_nil)) (blkOk_by (N := ["self", "found", "size", "longer", "place", "number"]) (sc := (defScope s_Grid_all_places)) (by decide +kernel)) (fun _ _ _ _ _ => (pg_name (i := 5) nd rfl (Or.inl rfl))) (fun _ _ _ _ _ => pts_nil) (fun _ _ _ _ _ => (pe_op op_catTO (pv 4) (pe_tupO (pa_cons (pv 5) pa_nil))))) pa_nil)))))
    (pss_one (ps_set (i := 1) nd rfl (Or.inl rfl) (pv 3))))))
    (pss_one (ps_ret (pv 1))))), ?_⟩
  walk_at "go"
  refine u_tupn l0 fun t H1 ht s1 e1 => ?_
  walk_at "go"
  refine u_lstn l1 fun f H2 hf s2 e2 => ?_
  walk_at "go"
  refine u_ins (s2 _ _ (s1 _ _ h1)) (cls_Grid T) (noat_Grid_sizes T) g_sizes ?_
  refine u_iLi (SqL.of (s2 _ _ (s1 _ _ h2))) ?_
  refine for_places (s1.trans s2) h2 (s1.free hf) g.szb ⟨_, e2, .cons ⟨t, rfl, s2 _ _ e1⟩ .nil⟩ fun f' y2 y3 y4 y5 H' hf' sH hp => ?_
  walk_at "go"
  exact q f' H' hf' sH hp
def spMany (K : PySem.W.Frag) : Sp := SpF (fun a : Addr => [.ref a]) fun a H Q => ∃ es, IsGrid K H a es ∧ GrOk es ∧ ∀ H', Same H H' → Q (.int ((placesOf (szs es)).length : Nat)) H'
theorem ok_many (T : Txt K mg) : Met P w K mg base 2 (He.ga K "Grid") "places_many" (spMany K) := by
  refine .of (.of (F_Grid_places_many T) sc_Grid_places_many (b_Grid_places_many T) (spf_len fun _ => rfl) fun cdv A outer s H vs Q E hr h => ?_) (cls_Grid T) (meth_Grid_places_many T)
  have nd := sc_Grid_places_many.nd
  have m_all_places := ok_all_places (P := P) (w := w) (base := base) T
  obtain ⟨a, rfl, es, G, g, q⟩ := h
  refine ⟨_, (pss_one (ps_ret (pe_callB cr_lenO (by rfl) (free_len T) PySem.boot_len (pa_cons (pe_m0 m_all_places hr (pv 0)) pa_nil)))), ?_⟩
  walk_at "go"
  obtain ⟨dx, ls, le, vr, ve, h1, h2⟩ := id G
  refine u_m1i h1 (g_no (by decide) (by decide) (by decide)) ?_
  walk_at "go"
  refine ⟨a, rfl, es, G, g, fun p H' hp s1 hl => ?_⟩
  obtain ⟨vs, e, pr⟩ := hl
  walk_at "go"
  refine u_lenL e ?_
  rw [prLen pr]
  exact q H' s1
/-- a place of the grid -/
def InB (es : List (Int × Rk)) (pl : List Int) : Prop := pl.length = es.length ∧ ∀ (i : Nat) (x : Int) (e : Int × Rk), pl[i]? = some x → es[i]? = some e → 0 ≤ x ∧ x < e.1
def spHas (K : PySem.W.Frag) : Sp := SpF (fun x : Addr × V => [.ref x.1, x.2]) fun x H Q => ∃ es pl, IsGrid K H x.1 es ∧ IsPl H x.2 pl ∧ GrOk es ∧ InB es pl ∧ ∀ H', Same H H' → Q (.bl true) H'
theorem ok_has (T : Txt K mg) : Met P w K mg base 3 (He.ga K "Grid") "has_place" (spHas K) := by
  refine .of (.of (F_Grid_has_place T) sc_Grid_has_place (b_Grid_has_place T) (spf_len fun _ => rfl) fun cdv A outer s H vs Q E hr h => ?_) (cls_Grid T) (meth_Grid_has_place T)
  have nd := sc_Grid_has_place.nd
  have c_is_between := ok_is_between (P := P) (w := w) (base := base) T
  obtain ⟨⟨a, v⟩, rfl, es, pl, G, ⟨b, e, hb⟩, g, ⟨hl, hin⟩, q⟩ := h
  dsimp only at e q
  subst e
  obtain ⟨dx, ls, le, vr, ve, h1, h2, h3, h4⟩ := id G
  have hes := g.hi
  refine ⟨_, (pss_cons (ps_if (PW.pt (pw_or (pt_not (pt_val (pe_callB cr_isA (by rfl) (free_isinstance T) (by decide +kernel) (pa_cons (pv 1) (pa_cons (pe_bltn (v := .ty "tuple") (by rfl) (free_tuple T) (by decide +kernel) rfl) pa_nil))))) (pw_or1 (pt_cmpR op_ne (pe_callB cr_lenO (by rfl) (free_len T) PySem.boot_len (pa_cons (pv 1) pa_nil)) (pe_callB cr_lenO (by rfl) (free_len T) PySem.boot_len (pa_cons (pe_fld (pv 0) rfl) pa_nil)) (nomark _))))) (pss_one (ps_ret pe_bl)) pss_nil)
    (pss_one (ps_ret (pe_callB (cr_all rfl) (by rfl) (free_all T) (by decide +kernel) (pa_cons (pe_lc (own := [("number", 2), ("size", 3)]) (g := (gTup K 2 (gCons (gName 2) (gCons (gName 3) gNil)))) (tt := tYes)  rfl nd (pi_zip2 (by rfl) (free_zip T) (pa_cons (pv 1) (pa_cons (pe_fld (pv 0) rfl) pa_nil))) (blkOk_by (N := ["self", "thing", "number", "size"]) (sc := (defScope s_Grid_has_place)) (by decide +kernel)) (fun _ _ _ _ _ => (pg_tup rfl (pgs_cons (pg_name (i := 2) nd rfl (Or.inl rfl)) (pgs_cons (pg_name (i := 3) nd rfl (Or.inl rfl)) pgs_nil)))) (fun _ _ _ _ _ => pts_nil) (fun _ _ _ _ _ => (pe_c c_is_between hr (by rfl) (pa_cons (pv 2) (pa_cons pe_int (pa_cons (pe_op op_sub (pv 3) pe_int) pa_nil)))))) pa_nil))))), ?_⟩
  walk_at "go"
  refine u_isA_tup hb ?_
  walk_at "go"
  refine u_lenT hb ?_
  walk_at "go"
  refine u_ins h1 (cls_Grid T) (noat_Grid_sizes T) g_sizes ?_
  walk_at "go"
  refine u_lenL h2 ?_
  walk_at "go"
  refine u_ifF (by rw [List.length_map, List.length_map, hl]; simp) ?_
  walk_at "go"
  refine u_ins h1 (cls_Grid T) (noat_Grid_sizes T) g_sizes ?_
  walk_at "go"
  refine u_iZ2i hb h2 ?_
  refine lc_by (walk_zip2 (by rw [List.length_map, List.length_map, hl])) (Same H) (fun i acc H' => acc = (List.replicate i true).map V.bl) (small_line (by rw [List.length_map]; omega)) (fun D H1 H2 hD s b => sS hD s b) (Same.refl H) (fun H' s => rfl)
    (fun i acc H' _ s _ => ⟨SqT.of (s _ _ hb), SqL.of (s _ _ h2)⟩) ?_ ?_
  · intro D i x acc H1 H2 R N put skip hD hi s hacc e y
    obtain ⟨t, x1, y1, rfl, ht, rfl, f1, f2⟩ := y
    obtain ⟨p, hp, rfl⟩ := vals_map f1
    obtain ⟨e0, he, rfl⟩ := vals_map f2
    obtain ⟨b1, b2⟩ := hin i p e0 hp he
    refine w_two upd_same ⟨rfl, ?_⟩
    walk_at "go"
    refine ⟨(p, 0, e0.1 - 1), rfl, ?_⟩
    have eb : (decide ((0 : Int) ≤ p) && decide (p ≤ e0.1 - 1)) = true := by
      rw [decide_eq_true b1, decide_eq_true (by omega : p ≤ e0.1 - 1)]
      rfl
    show R (V.bl (decide ((0 : Int) ≤ p) && decide (p ≤ e0.1 - 1))) _
    rw [eb]
    have s2 := same_new (H := H1) (o := .tup [V.int p, V.int e0.1]) ht
    refine put _ _ (s2 _ _ e) (s.trans s2) fun H5 _ _ _ => ?_
    subst hacc
    rw [List.replicate_succ']
    simp
  · intro D acc H1 hD e s hacc
    subst hacc
    walk_at "go"
    refine u_all e ?_
    have ea : ((List.replicate (pl.map V.int).length true).all id) = true := by
      rw [List.all_eq_true]
      intro b hb
      rw [(List.mem_replicate.mp hb).2]
      rfl
    rw [ea]
    exact q H1 s
end
end SL
end PtD4
/-! part D5 -/
section PtD5
/-! D5: Grid.beside, Grid.__init__. -/
namespace SL
open PySem PySem.Spec PyProof.Rows L2
/-- one step that needs nothing -/
local macro_rules | `(tactic| walk_at "sl1") => `(tactic| first
  | (with_reducible refine w_varh ?_; refine ⟨_, rfl, ?_⟩) | (with_reducible refine w_rEqh ?_; refine ⟨rfl, ?_⟩) | (with_reducible refine w_rNeh ?_; refine ⟨rfl, ?_⟩)
  | with_reducible refine w_seq ?_ | with_reducible refine w_asg ?_ | with_reducible refine w_c ?_ | with_reducible refine w_op ?_ | with_reducible refine w_rI0 ?_ | with_reducible refine u_test ?_ | with_reducible refine u_tb ?_ | with_reducible refine u_bl ?_ | with_reducible refine u_ifs ?_ | with_reducible refine u_ift ?_ | with_reducible refine u_iff ?_ | with_reducible refine w_cons ?_ | with_reducible refine w_nil ?_ | with_reducible refine w_cl ?_ | with_reducible refine w_cb ?_ | with_reducible refine w_ret ?_ | with_reducible refine w_drop ?_ | with_reducible refine w_name ?_ | with_reducible refine w_next ?_
  | with_reducible refine u_fld ?_ | with_reducible refine u_tup ?_ | with_reducible refine u_lst ?_ | with_reducible refine u_not ?_ | with_reducible refine u_nott ?_ | with_reducible refine u_notf ?_ | with_reducible refine u_and ?_ | with_reducible refine u_or ?_ | with_reducible refine u_andt ?_ | with_reducible refine u_andf ?_ | with_reducible refine u_ort ?_ | with_reducible refine u_orf ?_ | with_reducible refine u_andV ?_ | with_reducible refine u_orV ?_ | with_reducible refine u_andVt ?_ | with_reducible refine u_andVf ?_ | with_reducible refine u_orVt ?_ | with_reducible refine u_orVf ?_ | with_reducible refine u_notV ?_ | with_reducible refine u_notVb ?_
  | with_reducible refine u_chain ?_ | with_reducible refine u_cht ?_ | with_reducible refine u_chf ?_ | with_reducible refine w_un ?_ | with_reducible refine w_rU ?_ | with_reducible refine w_isN ?_ | with_reducible refine w_notN ?_ | with_reducible refine u_bm ?_ | with_reducible refine u_sl ?_ | with_reducible refine u_part ?_ | with_reducible refine u_parti ?_ | with_reducible refine u_nopart ?_ | with_reducible refine u_m1 ?_ | with_reducible refine u_mt ?_ | with_reducible refine u_mk ?_ | with_reducible refine u_nget ?_ | with_reducible refine u_nin ?_ | with_reducible refine u_nput ?_ | with_reducible refine u_fldS ?_
  | with_reducible refine u_for ?_ | with_reducible refine u_lc ?_ | with_reducible refine u_iL ?_ | with_reducible refine u_iT ?_ | with_reducible refine u_iE ?_ | with_reducible refine u_iZ ?_ | with_reducible refine u_iZ2 ?_ | with_reducible refine u_iZ3 ?_ | with_reducible refine u_iR1 ?_ | with_reducible refine u_iR2 ?_ | with_reducible refine u_sub ?_ | with_reducible refine u_isA_int ?_ | with_reducible refine u_isA_bool ?_ | with_reducible refine u_int1 ?_ | with_reducible refine u_intB ?_ | with_reducible refine u_min2 ?_ | with_reducible refine u_kw ?_ | with_reducible refine w_yes ?_ | with_reducible refine u_srt ?_ | with_reducible refine u_yt ?_ | with_reducible refine u_yf ?_)
local macro_rules | `(tactic| walk_at "go") => `(tactic| repeat walk_at "sl1")
/-- steps from a place: none where a fixed rim is met -/
def bsd : List (Int × Rk) → List Int → List Int → List Int → Option (List Int)
  | e :: es, p :: pl, s :: st, acc => match atN e.2 e.1 (p + s) with
    | none => none
    | some q => bsd es pl st (acc ++ [q])
  | _, _, _, acc => some acc
theorem drop_at {α : Type} {l : List α} {i : Nat} {x : α} (h : l[i]? = some x) : l.drop i = x :: l.drop (i + 1) := by
  obtain ⟨hi, e⟩ := List.getElem?_eq_some_iff.mp h
  rw [List.drop_eq_getElem_cons hi, e]
theorem bsd_none {e : Int × Rk} {es : List (Int × Rk)} {p s : Int} {pl st acc : List Int} (h : atN e.2 e.1 (p + s) = none) : bsd (e :: es) (p :: pl) (s :: st) acc = none := by
  unfold bsd
  rw [h]
theorem bsd_some {e : Int × Rk} {es : List (Int × Rk)} {p s q : Int} {pl st acc : List Int} (h : atN e.2 e.1 (p + s) = some q) : bsd (e :: es) (p :: pl) (s :: st) acc = bsd es pl st (acc ++ [q]) := by
  rw [bsd.eq_def]
  simp only [h]
/-- the pair that beside answers -/
def IsBs (H : Hp) (v : V) : Option (List Int) → Prop
  | none => ∃ a, v = .ref a ∧ H a = some (.tup [.str "rim", .int 7])
  | some pl => ∃ a y, v = .ref a ∧ H a = some (.tup [.str "place", y]) ∧ IsPl H y pl
section
variable {P : Program} {w : World} {K : PySem.W.Frag} {mg : Str → Option Value} {base : Heap}
theorem fs_beyond (s : Int) : (Rk.fs .fixed s).lookup ("beyond" : Str) = some (V.int 7) := (lkN (by decide)).trans lkS
theorem atN_none {r : Rk} {s n : Int} (h : atN r s n = none) : r = .fixed := by
  cases r
  · rfl
  · cases h
  · cases h
def spBeside (K : PySem.W.Frag) : Sp := SpF (fun x : Addr × V × V => [.ref x.1, x.2.1, x.2.2]) fun x H Q => ∃ es pl st, IsGrid K H x.1 es ∧ IsPl H x.2.1 pl ∧ IsPl H x.2.2 st ∧ GrOk es ∧ pl.length = es.length ∧ st.length = es.length ∧
  ∀ v H', Same H H' → IsBs H' v (bsd es pl st []) → Q v H'
theorem ok_beside (T : Txt K mg) : Met P w K mg base 2 (He.ga K "Grid") "beside" (spBeside K) := by
  refine .of (.of (F_Grid_beside T) sc_Grid_beside (b_Grid_beside T) (spf_len fun _ => rfl) fun cdv A outer s H vs Q E hr h => ?_) (cls_Grid T) (meth_Grid_beside T)
  have nd := sc_Grid_beside.nd
  have d_at_number := ok_at (P := P) (w := w) (base := base) T
  obtain ⟨⟨a, v1, v2⟩, rfl, es, pl, st, G, ⟨b, e, hb⟩, ⟨c, e', hc⟩, g, lp, ls, q⟩ := h
  dsimp only at e e' q
  subst e e'
  obtain ⟨dx, l1', le, vr, ve, h1, h2, h3, h4⟩ := id G
  have hes := g.hi
  have lve : ve.length = es.length := prLen h4
  refine ⟨_, (pss_cons (ps_set (i := 3) nd rfl (Or.inl rfl) (pe_tupO pa_nil))
    (pss_cons (ps_for PassesOwn.never rfl (pi_zip3 (by rfl) (free_zip T) (pa_cons (pe_fld (pv 0) rfl) (pa_cons (pv 1) (pa_cons (pv 2) pa_nil)))) (pg_tup rfl (pgs_cons (pg_name (i := 4) nd rfl (Or.inl rfl)) (pgs_cons (pg_name (i := 5) nd rfl (Or.inl rfl)) (pgs_cons (pg_name (i := 6) nd rfl (Or.inl rfl)) pgs_nil)))) (pss_cons (ps_set (i := 7) nd rfl (Or.inl rfl) (pe_md d_at_number hr (pv 4) (pa_cons (pe_op op_add (pv 5) (pv 6)) pa_nil)))
    (pss_cons (ps_if (pt_cmp (pc_isN (pv 7))) (pss_one (ps_ret (pe_tupO (pa_cons pe_str (pa_cons (pe_fld (pv 4) rfl) pa_nil))))) pss_nil)
    (pss_one (ps_set (i := 3) nd rfl (Or.inl rfl) (pe_op op_catTO (pv 3) (pe_tupO (pa_cons (pv 7) pa_nil))))))))
    (pss_one (ps_ret (pe_tupO (pa_cons pe_str (pa_cons (pv 3) pa_nil))))))), ?_⟩
  walk_at "go"
  refine u_tupn l0 fun f H1 hf s1 e1 => ?_
  walk_at "go"
  refine u_ins (s1 _ _ h1) (cls_Grid T) (noat_Grid_edges T) g_edges ?_
  walk_at "go"
  refine u_iZ3i (s1 _ _ h3) (s1 _ _ hb) (s1 _ _ hc) ?_
  refine for_by (walk_zip3 (xs := ve) (ys := pl.map V.int) (zs := st.map V.int) (by rw [List.length_map, lp, lve]) (by rw [List.length_map, ls, lve])) (fun i σ H' => ∃ f x4 x5 x6 x7 acc, σ = [some (.ref a), some (.ref b), some (.ref c), some f, x4, x5, x6, x7] ∧ Same H H' ∧ IsPl H' f acc ∧ acc.length = i ∧ bsd es pl st [] = bsd (es.drop i) (pl.drop i) (st.drop i) acc)
    ⟨.ref f, _, _, _, _, [], rfl, s1, ⟨f, rfl, e1⟩, rfl, rfl⟩ ?_ ?_ ?_
  · rintro i σ H' _ ⟨_, _, _, _, _, _, rfl, s, _⟩
    exact ⟨SqL.of (s _ _ h3), SqT.of (s _ _ hb), SqT.of (s _ _ hc)⟩
  · rintro i x σ H2 H3 hi ⟨f, x4, x5, x6, x7, acc, rfl, s2, hf2, hacc, hbs⟩ ⟨t, x, y, z, rfl, ht, rfl, f1, f2, f3⟩
    obtain ⟨p, hp, rfl⟩ := vals_map f2
    obtain ⟨n, hn, rfl⟩ := vals_map f3
    obtain ⟨e0, he, hE⟩ := prAt1 h4 f1
    have hz := g.sz e0 (List.mem_of_getElem? he)
    have s3 := s2.trans (same_new (H := H2) (o := .tup [x, V.int p, V.int n]) ht)
    rw [drop_at he, drop_at hp, drop_at hn] at hbs
    obtain ⟨ea, edx, rfl, hea⟩ := hE.mono s3
    have hf3 := hf2.mono (tk_new (o := .tup [V.ref ea, V.int p, V.int n]) ht)
    refine w_three upd_same ?_
    walk_at "go"
    refine u_mti ⟨e0.2, rfl, rfl⟩ hea (fs_at _ _) ?_
    walk_at "go"
    refine ⟨(ea, p + n), rfl, edx, e0.1, by omega, hea, ?_⟩
    cases hat : atN e0.2 e0.1 (p + n) with
    | none =>
      rw [bsd_none hat] at hbs
      have er := atN_none hat
      rw [er] at hea
      walk_at "go"
      refine u_ifT rfl ?_
      walk_at "go"
      refine u_ins hea (cls_FixedRim T) (noat_FixedRim_beyond T) (fs_beyond _) ?_
      walk_at "go"
      refine u_tupn l2 fun r H4 hr4 s4 h4 => ?_
      refine q _ _ (s3.trans s4) ?_
      rw [hbs]
      exact ⟨r, rfl, h4⟩
    | some m =>
      rw [bsd_some hat] at hbs
      walk_at "go"
      refine u_ifF rfl ?_
      walk_at "go"
      refine u_tupn l1 fun r H4 hr4 s4 h4 => ?_
      obtain ⟨fa, rfl, hfa⟩ := hf3
      refine u_catT (s4 _ _ hfa) h4 (small_line (by rw [List.length_map]; rw [lve] at hi; omega)) fun r' H5 s5 h5 => ?_
      walk_at "go"
      refine ⟨.ref r', _, _, _, _, acc ++ [m], rfl, (s3.trans s4).trans s5, ⟨r', rfl, ?_⟩, by rw [List.length_append, hacc]; rfl, hbs⟩
      rw [h5, List.map_append]
      rfl
  · rintro σ H2 ⟨f, x4, x5, x6, x7, acc, rfl, s2, hf2, hacc, hbs⟩
    rw [lve] at hbs
    have z1 : es.drop es.length = [] := List.drop_length
    rw [z1] at hbs
    have hbs : bsd es pl st [] = some acc := hbs
    walk_at "go"
    refine u_tupn l2 fun r H3 hr3 s3 h3 => ?_
    refine q _ _ (s2.trans s3) ?_
    rw [hbs]
    exact ⟨r, f, rfl, h3, hf2.mono (TK.of s3)⟩
/-! ### Grid.__init__ -/
def spGridI (K : PySem.W.Frag) : Sp := SpF (fun x : Addr × Addr × Addr => [.ref x.1, .ref x.2.1, .ref x.2.2]) fun x H Q => ∃ dx es vr, GrOk es ∧ H x.1 = some (.ins (He.ga K "Grid") dx []) ∧ H x.2.1 = some (.lst (es.map fun e => V.int e.1)) ∧
  H x.2.2 = some (.lst vr) ∧ Paired (fun v (e : Int × Rk) => IsRim H v e.2) vr es ∧ ∀ H', But x.1 H H' → IsGrid K H' x.1 es → Q .non H'
theorem len_out {n : Nat} (h1 : 1 ≤ n) (h2 : n ≤ 3) : (decide ((1 : Int) ≤ (n : Nat)) = true) ∧ (decide (((n : Nat) : Int) ≤ 3) = true) := ⟨decide_eq_true (by omega), decide_eq_true (by omega)⟩
theorem ok_grid_init (T : Txt K mg) : At P w K mg base 5 (He.ma K (He.ga K "Grid") "__init__") (spGridI K) := by
  refine .of (F_Grid_init T) sc_Grid_init (b_Grid_init T) (spf_len fun _ => rfl) fun cdv A outer s H vs Q E hr h => ?_
  have nd := sc_Grid_init.nd
  have c_is_between := ok_is_between (P := P) (w := w) (base := base) T
  have c_is_rim := ok_is_rim (P := P) (w := w) (base := base) T
  have c_rim_of := ok_rim_of (P := P) (w := w) (base := base) T
  obtain ⟨⟨p, a, b⟩, rfl, dx, es, vr, g, hp, ha, hb, hr0, q⟩ := h
  have lvr : vr.length = es.length := prLen hr0
  have lo := g.lo
  have hi := g.hi
  have la : (es.map fun e => V.int e.1).length = es.length := List.length_map _
  refine ⟨_, (pss_cons (ps_if (PW.pt (pw_or (pt_not (pt_chain op_le op_le pe_int (pe_callB cr_lenO (by rfl) (free_len T) PySem.boot_len (pa_cons (pv 1) pa_nil)) (pe_gi (by rfl) (int_MOST_LINES T)))) (pw_or1 (pt_cmpR op_ne (pe_callB cr_lenO (by rfl) (free_len T) PySem.boot_len (pa_cons (pv 2) pa_nil)) (pe_callB cr_lenO (by rfl) (free_len T) PySem.boot_len (pa_cons (pv 1) pa_nil)) (nomark _))))) pss_never pss_nil)
    (pss_cons (ps_set (i := 3) nd rfl (Or.inl rfl) pe_int)
    (pss_cons (ps_for PassesOwn.never rfl (pi_range1 (by rfl) (free_range T) (pa_cons (pe_callB cr_lenO (by rfl) (free_len T) PySem.boot_len (pa_cons (pv 1) pa_nil)) pa_nil)) (pg_name (i := 4) nd rfl (Or.inl rfl)) (pss_cons (ps_if (PW.pt (pw_or (pt_not (pt_val (pe_c c_is_between hr (by rfl) (pa_cons (pe_ix ix_list (pv 1) (pv 4) (fun _ _ => rfl)) (pa_cons pe_int (pa_cons (pe_gi (by rfl) (int_MOST_SIZE T)) pa_nil)))))) (pw_or1 (pt_not (pt_val (pe_c c_is_rim hr (by rfl) (pa_cons (pe_ix ix_list (pv 2) (pv 4) (fun _ _ => rfl)) pa_nil))))))) pss_never pss_nil)
    (pss_one (ps_set (i := 3) nd rfl (Or.inl rfl) (pe_op op_mul (pv 3) (pe_ix ix_list (pv 1) (pv 4) (fun _ _ => rfl)))))))
    (pss_cons (ps_if (pt_cmpR op_gt (pv 3) (pe_gi (by rfl) (int_MOST_PLACES T)) (nomark _)) pss_never pss_nil)
    (pss_cons (ps_fldO (pv 0) (pe_callTy cr_listO (by rfl) (free_list T) (by decide +kernel) (pa_cons (pv 1) pa_nil)) rfl)
    (pss_cons (ps_fldO (pv 0) (pe_callTy cr_listO (by rfl) (free_list T) (by decide +kernel) (pa_cons (pv 2) pa_nil)) rfl)
    (pss_one (ps_fldO (pv 0) (pe_lc (own := [("size", 5), ("rim", 6)]) (g := (gTup K 2 (gCons (gName 5) (gCons (gName 6) gNil)))) (tt := tYes)  rfl nd (pi_zip (by rfl) (free_zip T) (pa_cons (pv 1) (pa_cons (pv 2) pa_nil))) (blkOk_by (N := ["self", "sizes", "rims", "many", "k", "size", "rim"]) (sc := (defScope s_Grid_init)) (by decide +kernel)) (fun _ _ _ _ _ => (pg_tup rfl (pgs_cons (pg_name (i := 5) nd rfl (Or.inl rfl)) (pgs_cons (pg_name (i := 6) nd rfl (Or.inl rfl)) pgs_nil)))) (fun _ _ _ _ _ => pts_nil) (fun _ _ _ _ _ => (pe_c c_rim_of hr (by rfl) (pa_cons (pv 5) (pa_cons (pv 6) pa_nil))))) rfl)))))))), ?_⟩
  walk_at "go"
  refine u_lenL ha ?_
  walk_at "go"
  refine u_chT (decide_eq_true (by omega)) ?_
  walk_at "go"
  refine u_notT (decide_eq_true (by omega)) ?_
  walk_at "go"
  refine u_lenL hb ?_
  walk_at "go"
  refine u_lenL ha ?_
  walk_at "go"
  refine u_ifF (by rw [la, lvr]; simp) ?_
  walk_at "go"
  refine u_lenL ha ?_
  walk_at "go"
  refine u_iR1i (by omega) (by omega) ?_
  refine for_by walk_r0 (fun i σ H' => ∃ x4 x5 x6, σ = [some (.ref p), some (.ref a), some (.ref b), some (.int (((szs es).take i).foldl (· * ·) 1)), x4, x5, x6] ∧ Same H H') ⟨_, _, _, rfl, Same.refl H⟩ (fun _ _ _ _ _ => trivial) ?_ ?_
  · rintro i x σ H1 H2 hi1 ⟨x4, x5, x6, rfl, s1⟩ ⟨rfl, rfl⟩
    have hi2 : i < es.length := by omega
    have he : es[i]? = some es[i] := List.getElem?_eq_getElem hi2
    generalize hee : es[i] = e at he
    have hz := g.sz e (List.mem_of_getElem? he)
    have hai : (es.map fun e => V.int e.1)[i]? = some (V.int e.1) := by rw [List.getElem?_map, he]; rfl
    obtain ⟨rv, hrv, hri⟩ := prAt2 hr0 he
    walk_at "go"
    refine w_ixL (s1 _ _ ha) hai ?_
    walk_at "go"
    refine ⟨(e.1, 1, 9), rfl, ?_⟩
    refine u_bl (u_notT ?_ ?_)
    · show (decide ((1 : Int) ≤ e.1) && decide (e.1 ≤ 9)) = true
      rw [decide_eq_true hz.1, decide_eq_true hz.2]
      rfl
    walk_at "go"
    refine w_ixL (s1 _ _ hb) hrv ?_
    walk_at "go"
    refine ⟨rv, rfl, e.2, hri.mono (TK.of s1), fun H3 s3 => ?_⟩
    walk_at "go"
    refine w_ixL (s3 _ _ (s1 _ _ ha)) hai ?_
    refine w_rI (.inr ⟨by omega, by omega⟩) ?_
    walk_at "go"
    have hs : (szs es)[i]? = some e.1 := by unfold szs; rw [List.getElem?_map, he]; rfl
    rw [take_succ_of hs, List.foldl_append]
    exact ⟨_, _, _, rfl, s1.trans s3⟩
  · rintro σ H1 ⟨x4, x5, x6, rfl, s1⟩
    have hall : ((szs es).take (((es.map fun e => V.int e.1).length : Int)).toNat) = szs es := by
      rw [la, Int.toNat_natCast]
      unfold szs
      rw [← List.length_map (f := fun e : Int × Rk => e.1), List.take_length]
    rw [hall]
    walk_at "go"
    refine u_ifF (decide_eq_false (by have := g.few; omega)) ?_
    walk_at "go"
    refine u_lst_of (s1 _ _ ha) fun c H2 hc s2 e2 => ?_
    have p1 := s1 _ _ hp
    have ncp : c ≠ p := (ne_of_none p1 hc).symm
    walk_at "go"
    refine u_fldSi (s2 _ _ p1) (cls_Grid T) (noat_Grid_sizes T) (by show 0 < 1000; decide) fun H3 b3 t3 n3 e3 => ?_
    walk_at "go"
    have hb2 := s2 _ _ (s1 _ _ hb)
    have nbp : b ≠ p := fun z => by rw [z, hp] at hb; cases hb
    have nap : a ≠ p := fun z => by rw [z, hp] at ha; cases ha
    refine u_lst_of (b3 _ _ hb2 nbp) fun d H4 hd s4 e4 => ?_
    walk_at "go"
    refine u_fldSi (s4 _ _ e3) (cls_Grid T) (noat_Grid_rims T) (by show 1 < 1000; decide) fun H5 b5 t5 n5 e5 => ?_
    walk_at "go"
    have B5 : But p H H5 := (((But.of (s1.trans s2)).trans b3).same s4).trans b5
    have T5 : TK H H5 := (((TK.of (s1.trans s2)).trans t3).trans (TK.of s4)).trans t5
    refine u_iZi (B5 _ _ ha nap) (B5 _ _ hb nbp) ?_
    refine lc_by (walk_zip (by rw [la, lvr, Nat.min_self])) (Same H5) (fun i acc H' => Paired (fun v (e : Int × Rk) => IsEdge K H' v e.1 e.2 ∧ ∃ x, v = .ref x ∧ H5 x = none) acc (es.take i)) (small_line (by omega)) (fun D H1 H2 hD s b => sS hD s b) (Same.refl H5) (fun H' s => by rw [List.take_zero]; exact .nil)
      (fun i acc H' _ s _ => ⟨SqL.of (s _ _ (B5 _ _ ha nap)), SqL.of (s _ _ (B5 _ _ hb nbp))⟩) ?_ ?_
    · intro D i x acc H6 H7 R N put skip hD hi6 s6 pacc e6 y
      obtain ⟨t, x, y, rfl, ht, rfl, f1, f2⟩ := y
      obtain ⟨e, he, rfl⟩ := vals_map f1
      obtain ⟨e', he', hri⟩ := prAt1 hr0 f2
      rw [he] at he'
      cases he'
      have s7 := same_new (H := H6) (o := .tup [V.int e.1, y]) ht
      refine w_two upd_same ⟨rfl, ?_⟩
      walk_at "go"
      refine ⟨(e.1, y), rfl, e.2, hri.mono ((T5.trans (TK.of s6)).trans (TK.of s7)), fun v H8 hv8 s8 hE => ?_⟩
      refine put _ _ (s8 _ _ (s7 _ _ e6)) ((s6.trans s7).trans s8) fun H9 b9 t9 s9 => ?_
      rw [take_succ_of he]
      have hDl := s8 _ _ (s7 _ _ e6)
      exact prApp (prImp (fun _ _ q => ⟨((q.1.mono (s7.trans s8)).but b9 hDl), q.2⟩) pacc) (.cons ⟨hE.but b9 hDl, v, rfl, s6.free (s7.free hv8)⟩ .nil)
    · intro D acc H6 hD e6 s6 pacc
      rw [List.take_length] at pacc
      walk_at "go"
      have ndp : D ≠ p := (ne_of_none e5 hD).symm
      refine u_fldSi (s6 _ _ e5) (cls_Grid T) (noat_Grid_edges T) (by show 2 < 1000; decide) fun H7 b7 t7 n7 e7 => ?_
      have B7 : But p H H7 := (B5.same s6).trans b7
      have ncp3 : H3 c = some (.lst (es.map fun e => V.int e.1)) := b3 _ _ e2 ncp
      have ncp5 : H5 c = some (.lst (es.map fun e => V.int e.1)) := b5 _ _ (s4 _ _ ncp3) ncp
      refine q H7 B7 ⟨dx, c, D, _, acc, e7, b7 _ _ (s6 _ _ ncp5) ncp, b7 _ _ e6 ndp, prImp (fun v e z => ?_) pacc⟩
      obtain ⟨⟨x, dx', rfl, hx⟩, x', ex, hn⟩ := z
      cases ex
      exact ⟨x, dx', rfl, b7 _ _ hx (ne_of_none e5 hn).symm⟩
end
end SL
end PtD5
/-! part D6 -/
section PtD6
/-! D6: terms. -/
namespace SL
open PySem PySem.Spec PyProof.Rows L2
/-- one step that needs nothing -/
local macro_rules | `(tactic| walk_at "sl1") => `(tactic| first
  | (with_reducible refine w_varh ?_; refine ⟨_, rfl, ?_⟩) | (with_reducible refine w_rEqh ?_; refine ⟨rfl, ?_⟩) | (with_reducible refine w_rNeh ?_; refine ⟨rfl, ?_⟩)
  | with_reducible refine w_seq ?_ | with_reducible refine w_asg ?_ | with_reducible refine w_c ?_ | with_reducible refine w_op ?_ | with_reducible refine w_rI0 ?_ | with_reducible refine u_test ?_ | with_reducible refine u_tb ?_ | with_reducible refine u_bl ?_ | with_reducible refine u_ifs ?_ | with_reducible refine u_ift ?_ | with_reducible refine u_iff ?_ | with_reducible refine w_cons ?_ | with_reducible refine w_nil ?_ | with_reducible refine w_cl ?_ | with_reducible refine w_cb ?_ | with_reducible refine w_ret ?_ | with_reducible refine w_drop ?_ | with_reducible refine w_name ?_ | with_reducible refine w_next ?_
  | with_reducible refine u_fld ?_ | with_reducible refine u_tup ?_ | with_reducible refine u_lst ?_ | with_reducible refine u_not ?_ | with_reducible refine u_nott ?_ | with_reducible refine u_notf ?_ | with_reducible refine u_and ?_ | with_reducible refine u_or ?_ | with_reducible refine u_andt ?_ | with_reducible refine u_andf ?_ | with_reducible refine u_ort ?_ | with_reducible refine u_orf ?_ | with_reducible refine u_andV ?_ | with_reducible refine u_orV ?_ | with_reducible refine u_andVt ?_ | with_reducible refine u_andVf ?_ | with_reducible refine u_orVt ?_ | with_reducible refine u_orVf ?_ | with_reducible refine u_notV ?_ | with_reducible refine u_notVb ?_
  | with_reducible refine u_chain ?_ | with_reducible refine u_cht ?_ | with_reducible refine u_chf ?_ | with_reducible refine w_un ?_ | with_reducible refine w_rU ?_ | with_reducible refine w_isN ?_ | with_reducible refine w_notN ?_ | with_reducible refine u_bm ?_ | with_reducible refine u_sl ?_ | with_reducible refine u_part ?_ | with_reducible refine u_parti ?_ | with_reducible refine u_nopart ?_ | with_reducible refine u_m1 ?_ | with_reducible refine u_mt ?_ | with_reducible refine u_mk ?_ | with_reducible refine u_nget ?_ | with_reducible refine u_nin ?_ | with_reducible refine u_nput ?_ | with_reducible refine u_fldS ?_
  | with_reducible refine u_for ?_ | with_reducible refine u_lc ?_ | with_reducible refine u_iL ?_ | with_reducible refine u_iT ?_ | with_reducible refine u_iE ?_ | with_reducible refine u_iZ ?_ | with_reducible refine u_iZ2 ?_ | with_reducible refine u_iZ3 ?_ | with_reducible refine u_iR1 ?_ | with_reducible refine u_iR2 ?_ | with_reducible refine u_sub ?_ | with_reducible refine u_isA_int ?_ | with_reducible refine u_isA_bool ?_ | with_reducible refine u_int1 ?_ | with_reducible refine u_intB ?_ | with_reducible refine u_min2 ?_ | with_reducible refine u_kw ?_ | with_reducible refine w_yes ?_ | with_reducible refine u_srt ?_ | with_reducible refine u_yt ?_ | with_reducible refine u_yf ?_)
local macro_rules | `(tactic| walk_at "go") => `(tactic| repeat walk_at "sl1")
inductive Tc | num | take | add | mul
inductive Tm
  | num (n : Int)
  | take (t : Spot)
  | add (a b : Tm)
  | mul (a b : Tm)
def Tc.cls (K : PySem.W.Frag) : Tc → Addr
  | .num => He.ga K "Number"
  | .take => He.ga K "Take"
  | .add => He.ga K "Added"
  | .mul => He.ga K "Multiplied"
def Tm.tc : Tm → Tc
  | .num _ => .num
  | .take _ => .take
  | .add _ _ => .add
  | .mul _ _ => .mul
def Tm.kids : Tm → List Tm
  | .num _ => []
  | .take _ => []
  | .add a b => [a, b]
  | .mul a b => [a, b]
def IsTm (K : PySem.W.Frag) (H : Hp) : V → Tm → Prop
  | v, .num n => ∃ a dx, v = .ref a ∧ H a = some (.ins (Tc.cls K .num) dx [("value", .int n)])
  | v, .take t => ∃ a dx y, v = .ref a ∧ H a = some (.ins (Tc.cls K .take) dx [("back", .int t.1), ("steps", y)]) ∧ IsPl H y t.2
  | v, .add t u => ∃ a dx x y, v = .ref a ∧ H a = some (.ins (Tc.cls K .add) dx [("one", x), ("other", y)]) ∧ IsTm K H x t ∧ IsTm K H y u
  | v, .mul t u => ∃ a dx x y, v = .ref a ∧ H a = some (.ins (Tc.cls K .mul) dx [("one", x), ("other", y)]) ∧ IsTm K H x t ∧ IsTm K H y u
theorem IsTm.mono {K : PySem.W.Frag} {H H' : Hp} (s : Same H H') : ∀ {tm : Tm} {v : V}, IsTm K H v tm → IsTm K H' v tm
  | .num n, v, ⟨a, dx, e, h⟩ => ⟨a, dx, e, s _ _ h⟩
  | .take t, v, ⟨a, dx, y, e, h, p⟩ => ⟨a, dx, y, e, s _ _ h, p.mono (TK.of s)⟩
  | .add t u, v, ⟨a, dx, x, y, e, h, p, q⟩ => ⟨a, dx, x, y, e, s _ _ h, p.mono s, q.mono s⟩
  | .mul t u, v, ⟨a, dx, x, y, e, h, p, q⟩ => ⟨a, dx, x, y, e, s _ _ h, p.mono s, q.mono s⟩
/-- the mathematics of terms -/
def addTk (found more : List Spot) : List Spot := found ++ more.filter fun t => decide (t ∉ found)
def Tm.tks : Tm → List Spot
  | .num _ => srt []
  | .take t => srt [t]
  | .add a b => srt (addTk (addTk [] a.tks) b.tks)
  | .mul a b => srt (addTk (addTk [] a.tks) b.tks)
def Tm.dep : Tm → Int
  | .num _ => 1
  | .take _ => 1
  | .add a b => 1 + max a.dep b.dep
  | .mul a b => 1 + max a.dep b.dep
def Tm.parts : Tm → Int
  | .num _ => 1
  | .take _ => 1
  | .add a b => 1 + (a.parts + b.parts)
  | .mul a b => 1 + (a.parts + b.parts)
def Tm.ht : Tm → Nat
  | .num _ => 0
  | .take _ => 0
  | .add a b => 1 + max a.ht b.ht
  | .mul a b => 1 + max a.ht b.ht
def Tm.ok : Tm → Prop
  | .num n => -1000000000000 ≤ n ∧ n ≤ 1000000000000
  | .take t => (1 ≤ t.1 ∧ t.1 ≤ 3) ∧ (1 ≤ t.2.length ∧ t.2.length ≤ 3) ∧ ∀ s ∈ t.2, -9 ≤ s ∧ s ≤ 9
  | .add a b => a.ok ∧ b.ok
  | .mul a b => a.ok ∧ b.ok
theorem kids_ht {tm t : Tm} (h : t ∈ tm.kids) : t.ht < tm.ht := by
  cases tm with
  | num n => cases h
  | take t => cases h
  | add a b =>
    have e : (Tm.add a b).ht = 1 + max a.ht b.ht := rfl
    rcases List.mem_cons.mp h with z | h
    · rw [z, e]; omega
    · rw [List.mem_singleton.mp h, e]; omega
  | mul a b =>
    have e : (Tm.mul a b).ht = 1 + max a.ht b.ht := rfl
    rcases List.mem_cons.mp h with z | h
    · rw [z, e]; omega
    · rw [List.mem_singleton.mp h, e]; omega
theorem kids_ok {tm t : Tm} (o : tm.ok) (h : t ∈ tm.kids) : t.ok := by
  cases tm with
  | num n => cases h
  | take t => cases h
  | add a b =>
    rcases List.mem_cons.mp h with z | h
    · rw [z]; exact o.1
    · rw [List.mem_singleton.mp h]; exact o.2
  | mul a b =>
    rcases List.mem_cons.mp h with z | h
    · rw [z]; exact o.1
    · rw [List.mem_singleton.mp h]; exact o.2
section
variable {P : Program} {w : World} {K : PySem.W.Frag} {mg : Str → Option Value} {base : Heap}
def tmNames : List Str := ["below", "own_take", "own_wrong", "first_wrong", "takes", "depth", "parts"]
theorem lk2 {k a b : Str} {x y : V} (h1 : (k == a) = false) (h2 : (k == b) = false) : ([(a, x), (b, y)] : List (Str × V)).lookup k = none := (lkN h1).trans ((lkN h2).trans rfl)
/-- a term is an instance of its class, and no method's name is an attribute -/
theorem tm_ins {H : Hp} {v : V} {tm : Tm} (h : IsTm K H v tm) : ∃ a dx fs, v = .ref a ∧ H a = some (.ins (tm.tc.cls K) dx fs) ∧ ∀ m ∈ tmNames, fs.lookup m = none := by
  have key1 : ∀ m ∈ tmNames, ∀ x : V, ([("value", x)] : List (Str × V)).lookup m = none := fun m hm x => by
    have e : tmNames.all (fun m => !(m == ("value" : Str))) = true := by decide +kernel
    have q := List.all_eq_true.mp e m hm
    exact (lkN (by simpa using q)).trans rfl
  have key2 : ∀ (a b : Str), tmNames.all (fun m => !(m == a) && !(m == b)) = true → ∀ m ∈ tmNames, ∀ x y : V, ([(a, x), (b, y)] : List (Str × V)).lookup m = none := fun a b e m hm x y => by
    have q := List.all_eq_true.mp e m hm
    rw [Bool.and_eq_true] at q
    exact lk2 (by simpa using q.1) (by simpa using q.2)
  cases tm with
  | num n =>
    obtain ⟨a, dx, e, h⟩ := h
    exact ⟨a, dx, _, e, h, fun m hm => key1 m hm _⟩
  | take t =>
    obtain ⟨a, dx, y, e, h, _⟩ := h
    exact ⟨a, dx, _, e, h, fun m hm => key2 _ _ (by decide +kernel) m hm _ _⟩
  | add t u =>
    obtain ⟨a, dx, x, y, e, h, _⟩ := h
    exact ⟨a, dx, _, e, h, fun m hm => key2 _ _ (by decide +kernel) m hm _ _⟩
  | mul t u =>
    obtain ⟨a, dx, x, y, e, h, _⟩ := h
    exact ⟨a, dx, _, e, h, fun m hm => key2 _ _ (by decide +kernel) m hm _ _⟩
theorem tc_cls (T : Txt K mg) (c : Tc) : Cls K (c.cls K) := by
  cases c
  · exact cls_Number T
  · exact cls_Take T
  · exact cls_Added T
  · exact cls_Multiplied T
/-! ### below -/
def spBelow (K : PySem.W.Frag) (c : Tc) : Sp := SpF (fun a : Addr => [.ref a]) fun a H Q => ∃ tm : Tm, tm.tc = c ∧ IsTm K H (.ref a) tm ∧ ∀ p vs H', H p = none → Same H H' → H' p = some (.lst vs) → Paired (IsTm K H') vs tm.kids → Q (.ref p) H'
def DBelow (K : PySem.W.Frag) : Addr → Sp → Prop := fun C sp => ∃ c : Tc, C = c.cls K ∧ sp = spBelow K c
theorem ok_below0 (T : Txt K mg) (c : Tc) (h0 : ∀ tm : Tm, tm.tc = c → tm.kids = []) : At P w K mg base 1 (He.ma K (He.ga K "Term") "below") (spBelow K c) := by
  refine .of (F_Term_below T) sc_Term_below (b_Term_below T) (spf_len fun _ => rfl) fun cdv A outer s H vs Q E hr h => ?_
  have nd := sc_Term_below.nd
  obtain ⟨a, rfl, tm, hc, h, q⟩ := h
  refine ⟨_, (pss_one (ps_ret (pe_lstO pa_nil))), ?_⟩
  walk_at "go"
  exact u_lstn l0 fun p H' hp s e => q p [] H' hp s e (by rw [h0 tm hc]; exact .nil)
theorem pr_at {x y : V} {f g : Str} (hfg : (g == f) = false) : ([(f, x), (g, y)] : List (Str × V)).lookup f = some x ∧ ([(f, x), (g, y)] : List (Str × V)).lookup g = some y := ⟨lkS, (lkN hfg).trans lkS⟩
theorem ok_below2 (T : Txt K mg) (c : Tc) (hc2 : c = .add ∨ c = .mul) : At P w K mg base 1 (He.ma K (He.ga K "Paired") "below") (spBelow K c) := by
  refine .of (F_Paired_below T) sc_Paired_below (b_Paired_below T) (spf_len fun _ => rfl) fun cdv A outer s H vs Q E hr h => ?_
  have nd := sc_Paired_below.nd
  obtain ⟨a, rfl, tm, hc, h, q⟩ := h
  obtain ⟨dx, x, y, t, u, e, h1, h2, n1, n2, hk⟩ : ∃ dx x y t u, H a = some (.ins (c.cls K) dx [("one", x), ("other", y)]) ∧ IsTm K H x t ∧ IsTm K H y u ∧ NoAttr K (c.cls K) "one" ∧ NoAttr K (c.cls K) "other" ∧ tm.kids = [t, u] := by
    cases tm with
    | num n => subst hc; rcases hc2 with z | z <;> cases z
    | take n => subst hc; rcases hc2 with z | z <;> cases z
    | add t u =>
      obtain ⟨a', dx, x, y, e, h, h1, h2⟩ := h
      cases e
      subst hc
      exact ⟨dx, x, y, t, u, h, h1, h2, noat_Added_one T, noat_Added_other T, rfl⟩
    | mul t u =>
      obtain ⟨a', dx, x, y, e, h, h1, h2⟩ := h
      cases e
      subst hc
      exact ⟨dx, x, y, t, u, h, h1, h2, noat_Multiplied_one T, noat_Multiplied_other T, rfl⟩
  obtain ⟨f1, f2⟩ := pr_at (x := x) (y := y) (f := "one") (g := "other") (by decide)
  refine ⟨_, (pss_one (ps_ret (pe_lstO (pa_cons (pe_fld (pv 0) rfl) (pa_cons (pe_fld (pv 0) rfl) pa_nil))))), ?_⟩
  walk_at "go"
  refine u_ins e (tc_cls T c) n1 f1 ?_
  walk_at "go"
  refine u_ins e (tc_cls T c) n2 f2 ?_
  walk_at "go"
  exact u_lstn l2 fun p H' hp s e => q p _ H' hp s e (by rw [hk]; exact .cons (h1.mono s) (.cons (h2.mono s) .nil))
theorem ok_below (T : Txt K mg) : ∀ C sp, DBelow K C sp → Met P w K mg base 1 C "below" sp := by
  rintro _ _ ⟨c, rfl, rfl⟩
  cases c
  · exact .of (eq_Number_below T ▸ ok_below0 T .num fun tm h => by cases tm <;> first | rfl | cases h) (cls_Number T) (meth_Number_below T)
  · exact .of (eq_Take_below T ▸ ok_below0 T .take fun tm h => by cases tm <;> first | rfl | cases h) (cls_Take T) (meth_Take_below T)
  · exact .of (eq_Added_below T ▸ ok_below2 T .add (.inl rfl)) (cls_Added T) (meth_Added_below T)
  · exact .of (eq_Multiplied_below T ▸ ok_below2 T .mul (.inr rfl)) (cls_Multiplied T) (meth_Multiplied_below T)
/-! ### own_take -/
def Tm.own : Tm → List Spot
  | .take t => [t]
  | _ => []
def spOwnT (K : PySem.W.Frag) (c : Tc) : Sp := SpF (fun a : Addr => [.ref a]) fun a H Q => ∃ tm : Tm, tm.tc = c ∧ IsTm K H (.ref a) tm ∧ ∀ p H', H p = none → Same H H' → SpL H' p tm.own → Q (.ref p) H'
def DOwnT (K : PySem.W.Frag) : Addr → Sp → Prop := fun C sp => ∃ c : Tc, C = c.cls K ∧ sp = spOwnT K c
theorem ok_ownt0 (T : Txt K mg) (c : Tc) (h0 : ∀ tm : Tm, tm.tc = c → tm.own = []) : At P w K mg base 1 (He.ma K (He.ga K "Term") "own_take") (spOwnT K c) := by
  refine .of (F_Term_own_take T) sc_Term_own_take (b_Term_own_take T) (spf_len fun _ => rfl) fun cdv A outer s H vs Q E hr h => ?_
  have nd := sc_Term_own_take.nd
  obtain ⟨a, rfl, tm, hc, h, q⟩ := h
  refine ⟨_, (pss_one (ps_ret (pe_lstO pa_nil))), ?_⟩
  walk_at "go"
  exact u_lstn l0 fun p H' hp s e => q p H' hp s ⟨_, e, by rw [h0 tm hc]; exact .nil⟩
theorem ok_ownt1 (T : Txt K mg) : At P w K mg base 1 (He.ma K (He.ga K "Take") "own_take") (spOwnT K .take) := by
  refine .of (F_Take_own_take T) sc_Take_own_take (b_Take_own_take T) (spf_len fun _ => rfl) fun cdv A outer s H vs Q E hr h => ?_
  have nd := sc_Take_own_take.nd
  obtain ⟨a, rfl, tm, hc, h, q⟩ := h
  cases tm with
  | num n => cases hc
  | add t u => cases hc
  | mul t u => cases hc
  | take t =>
    obtain ⟨a', dx, y, e, h, hp⟩ := h
    cases e
    obtain ⟨f1, f2⟩ := pr_at (x := V.int t.1) (y := y) (f := "back") (g := "steps") (by decide)
    refine ⟨_, (pss_one (ps_ret (pe_lstO (pa_cons (pe_tupO (pa_cons (pe_fld (pv 0) rfl) (pa_cons (pe_fld (pv 0) rfl) pa_nil))) pa_nil)))), ?_⟩
    walk_at "go"
    refine u_ins h (cls_Take T) (noat_Take_back T) f1 ?_
    walk_at "go"
    refine u_ins h (cls_Take T) (noat_Take_steps T) f2 ?_
    walk_at "go"
    refine u_tupn l2 fun p H1 hp1 s1 e1 => ?_
    walk_at "go"
    exact u_lstn l1 fun l H2 hl s2 e2 => q l H2 (s1.free hl) (s1.trans s2) ⟨_, e2, .cons ⟨p, y, rfl, s2 _ _ e1, hp.mono (TK.of (s1.trans s2))⟩ .nil⟩
theorem ok_ownt (T : Txt K mg) : ∀ C sp, DOwnT K C sp → Met P w K mg base 1 C "own_take" sp := by
  rintro _ _ ⟨c, rfl, rfl⟩
  cases c
  · exact .of (eq_Number_own_take T ▸ ok_ownt0 T .num fun tm h => by cases tm <;> first | rfl | cases h) (cls_Number T) (meth_Number_own_take T)
  · exact .of (ok_ownt1 T) (cls_Take T) (meth_Take_own_take T)
  · exact .of (eq_Added_own_take T ▸ ok_ownt0 T .add fun tm h => by cases tm <;> first | rfl | cases h) (cls_Added T) (meth_Added_own_take T)
  · exact .of (eq_Multiplied_own_take T ▸ ok_ownt0 T .mul fun tm h => by cases tm <;> first | rfl | cases h) (cls_Multiplied T) (meth_Multiplied_own_take T)
/-! ### own_wrong -/
def spOwnW (K : PySem.W.Frag) (c : Tc) : Sp := SpF (fun a : Addr => [.ref a]) fun a H Q => ∃ tm : Tm, tm.tc = c ∧ IsTm K H (.ref a) tm ∧ tm.ok ∧ ∀ H', Same H H' → Q .non H'
def DOwnW (K : PySem.W.Frag) : Addr → Sp → Prop := fun C sp => ∃ c : Tc, C = c.cls K ∧ sp = spOwnW K c
theorem ok_ownw0 (T : Txt K mg) (c : Tc) : At P w K mg base 1 (He.ma K (He.ga K "Term") "own_wrong") (spOwnW K c) := by
  refine .of (F_Term_own_wrong T) sc_Term_own_wrong (b_Term_own_wrong T) (spf_len fun _ => rfl) fun cdv A outer s H vs Q E hr h => ?_
  have nd := sc_Term_own_wrong.nd
  obtain ⟨a, rfl, tm, hc, h, o, q⟩ := h
  refine ⟨_, (pss_one (ps_ret pe_non)), ?_⟩
  walk_at "go"
  exact q H (Same.refl H)
theorem ok_ownwN (T : Txt K mg) : At P w K mg base 3 (He.ma K (He.ga K "Number") "own_wrong") (spOwnW K .num) := by
  refine .of (F_Number_own_wrong T) sc_Number_own_wrong (b_Number_own_wrong T) (spf_len fun _ => rfl) fun cdv A outer s H vs Q E hr h => ?_
  have nd := sc_Number_own_wrong.nd
  have c_is_between := ok_is_between (P := P) (w := w) (base := base) T
  obtain ⟨a, rfl, tm, hc, h, o, q⟩ := h
  cases tm with
  | take n => cases hc
  | add t u => cases hc
  | mul t u => cases hc
  | num n =>
    obtain ⟨a', dx, e, h⟩ := h
    cases e
    refine ⟨_, (pss_cons (ps_if (pt_val (pe_c c_is_between hr (by rfl) (pa_cons (pe_fld (pv 0) rfl) (pa_cons (pe_un un_neg (pe_gi (by rfl) (int_MOST_NUMBER T))) (pa_cons (pe_gi (by rfl) (int_MOST_NUMBER T)) pa_nil))))) (pss_one (ps_ret pe_non)) pss_nil)
    (pss_one (ps_ret pe_str))), ?_⟩
    walk_at "go"
    refine u_ins h (cls_Number T) (noat_Number_value T) lkS ?_
    walk_at "go"
    refine ⟨(n, -1000000000000, 1000000000000), rfl, ?_⟩
    refine u_bl (u_ifT ?_ ?_)
    · show (decide ((-1000000000000 : Int) ≤ n) && decide (n ≤ 1000000000000)) = true
      rw [decide_eq_true o.1, decide_eq_true o.2]
      rfl
    walk_at "go"
    exact q H (Same.refl H)
theorem ok_ownwT (T : Txt K mg) : At P w K mg base 3 (He.ma K (He.ga K "Take") "own_wrong") (spOwnW K .take) := by
  refine .of (F_Take_own_wrong T) sc_Take_own_wrong (b_Take_own_wrong T) (spf_len fun _ => rfl) fun cdv A outer s H vs Q E hr h => ?_
  have nd := sc_Take_own_wrong.nd
  have c_is_between := ok_is_between (P := P) (w := w) (base := base) T
  obtain ⟨a, rfl, tm, hc, h, o, q⟩ := h
  cases tm with
  | num n => cases hc
  | add t u => cases hc
  | mul t u => cases hc
  | take t =>
    obtain ⟨a', dx, y, e, h, b, rfl, hp⟩ := h
    cases e
    obtain ⟨o1, o2, o3⟩ := o
    obtain ⟨f1, f2⟩ := pr_at (x := V.int t.1) (y := .ref b) (f := "back") (g := "steps") (by decide)
    refine ⟨_, (pss_cons (ps_if (pt_not (pt_val (pe_c c_is_between hr (by rfl) (pa_cons (pe_fld (pv 0) rfl) (pa_cons pe_int (pa_cons (pe_gi (by rfl) (int_MOST_BACK T)) pa_nil)))))) (pss_one (ps_ret pe_str)) pss_nil)
    (pss_cons (ps_if (PW.pt (pw_or (pt_not (pt_chain op_le op_le pe_int (pe_callB cr_lenO (by rfl) (free_len T) PySem.boot_len (pa_cons (pe_fld (pv 0) rfl) pa_nil)) pe_int)) (pw_or1 (pt_not (pt_val (pe_callB (cr_all rfl) (by rfl) (free_all T) (by decide +kernel) (pa_cons (pe_lc (own := [("step", 1)]) (g := (gName 1)) (tt := tYes)  rfl nd (pi_tup (pe_fld (pv 0) rfl)) (blkOk_by (N := ["self", "step"]) (sc := (defScope s_Take_own_wrong)) (by decide +kernel)) (fun _ _ _ _ _ => (pg_name (i := 1) nd rfl (Or.inl rfl))) (fun _ _ _ _ _ => pts_nil) (fun _ _ _ _ _ => (pe_c c_is_between hr (by rfl) (pa_cons (pv 1) (pa_cons (pe_un un_neg (pe_gi (by rfl) (int_MOST_STEP T))) (pa_cons (pe_gi (by rfl) (int_MOST_STEP T)) pa_nil)))))) pa_nil))))))) (pss_one (ps_ret pe_str)) pss_nil)
    (pss_one (ps_ret pe_non)))), ?_⟩
    walk_at "go"
    refine u_ins h (cls_Take T) (noat_Take_back T) f1 ?_
    walk_at "go"
    refine ⟨(t.1, 1, 3), rfl, ?_⟩
    refine u_bl (u_notT ?_ (u_iff ?_))
    · show (decide ((1 : Int) ≤ t.1) && decide (t.1 ≤ 3)) = true
      rw [decide_eq_true o1.1, decide_eq_true o1.2]
      rfl
    walk_at "go"
    refine u_ins h (cls_Take T) (noat_Take_steps T) f2 ?_
    walk_at "go"
    refine u_lenT hp ?_
    walk_at "go"
    refine u_chT (decide_eq_true (by rw [List.length_map]; omega)) ?_
    walk_at "go"
    refine u_notT (decide_eq_true (by rw [List.length_map]; omega)) ?_
    walk_at "go"
    refine u_ins h (cls_Take T) (noat_Take_steps T) f2 ?_
    walk_at "go"
    refine u_iTi (SqT.of hp) ?_
    refine lc_by (walk_tup (xs := t.2.map V.int)) (Same H) (fun i acc H' => acc = (List.replicate i true).map V.bl) (small_line (by rw [List.length_map]; omega)) (fun D H1 H2 hD s b => sS hD s b) (Same.refl H) (fun H' s => rfl)
      (fun i acc H' _ s _ => SqT.of (s _ _ hp)) ?_ ?_
    · intro D i x acc H1 H2 R N put skip hD hi s hacc e y
      obtain ⟨rfl, hx⟩ := y
      obtain ⟨z, hz, rfl⟩ := vals_map hx
      obtain ⟨b1, b2⟩ := o3 z (List.mem_of_getElem? hz)
      refine w_name ⟨rfl, ?_⟩
      walk_at "go"
      refine ⟨(z, -9, 9), rfl, ?_⟩
      have eb : (decide ((-9 : Int) ≤ z) && decide (z ≤ 9)) = true := by
        rw [decide_eq_true b1, decide_eq_true b2]
        rfl
      show R (V.bl (decide ((-9 : Int) ≤ z) && decide (z ≤ 9))) _
      rw [eb]
      refine put _ _ e s fun H5 _ _ _ => ?_
      subst hacc
      rw [List.replicate_succ']
      simp
    · intro D acc H1 hD e s hacc
      subst hacc
      walk_at "go"
      refine u_all e ?_
      have ea : ((List.replicate (t.2.map V.int).length true).all id) = true := by
        rw [List.all_eq_true]
        intro b hb
        rw [(List.mem_replicate.mp hb).2]
        rfl
      rw [ea]
      walk_at "go"
      exact q H1 s
theorem At.mono {j k : Nat} {f : Addr} {sp : Sp} (h : j ≤ k) (a : At P w K mg base j f sp) : At P w K mg base k f sp := by
  obtain ⟨fd, ps, F, kp, b⟩ := a.ex
  exact ⟨fd, ps, ⟨F.len, fun A outer s H args us vs Q E hr => F.run A outer s H args us vs Q E (hr.mono h)⟩, kp, b⟩
theorem ok_ownw (T : Txt K mg) : ∀ C sp, DOwnW K C sp → Met P w K mg base 3 C "own_wrong" sp := by
  rintro _ _ ⟨c, rfl, rfl⟩
  cases c
  · exact .of (ok_ownwN T) (cls_Number T) (meth_Number_own_wrong T)
  · exact .of (ok_ownwT T) (cls_Take T) (meth_Take_own_wrong T)
  · exact .of (eq_Added_own_wrong T ▸ At.mono (by decide) (ok_ownw0 T .add)) (cls_Added T) (meth_Added_own_wrong T)
  · exact .of (eq_Multiplied_own_wrong T ▸ At.mono (by decide) (ok_ownw0 T .mul)) (cls_Multiplied T) (meth_Multiplied_own_wrong T)
end
end SL
end PtD6
/-! part D7 -/
section PtD7
/-! D7: the terms' methods that call themselves. -/
namespace SL
open PySem PySem.Spec PyProof.Rows L2
/-- one step that needs nothing -/
local macro_rules | `(tactic| walk_at "sl1") => `(tactic| first
  | (with_reducible refine w_varh ?_; refine ⟨_, rfl, ?_⟩) | (with_reducible refine w_rEqh ?_; refine ⟨rfl, ?_⟩) | (with_reducible refine w_rNeh ?_; refine ⟨rfl, ?_⟩)
  | with_reducible refine w_seq ?_ | with_reducible refine w_asg ?_ | with_reducible refine w_c ?_ | with_reducible refine w_op ?_ | with_reducible refine w_rI0 ?_ | with_reducible refine u_test ?_ | with_reducible refine u_tb ?_ | with_reducible refine u_bl ?_ | with_reducible refine u_ifs ?_ | with_reducible refine u_ift ?_ | with_reducible refine u_iff ?_ | with_reducible refine w_cons ?_ | with_reducible refine w_nil ?_ | with_reducible refine w_cl ?_ | with_reducible refine w_cb ?_ | with_reducible refine w_ret ?_ | with_reducible refine w_drop ?_ | with_reducible refine w_name ?_ | with_reducible refine w_next ?_
  | with_reducible refine u_fld ?_ | with_reducible refine u_tup ?_ | with_reducible refine u_lst ?_ | with_reducible refine u_not ?_ | with_reducible refine u_nott ?_ | with_reducible refine u_notf ?_ | with_reducible refine u_and ?_ | with_reducible refine u_or ?_ | with_reducible refine u_andt ?_ | with_reducible refine u_andf ?_ | with_reducible refine u_ort ?_ | with_reducible refine u_orf ?_ | with_reducible refine u_andV ?_ | with_reducible refine u_orV ?_ | with_reducible refine u_andVt ?_ | with_reducible refine u_andVf ?_ | with_reducible refine u_orVt ?_ | with_reducible refine u_orVf ?_ | with_reducible refine u_notV ?_ | with_reducible refine u_notVb ?_
  | with_reducible refine u_chain ?_ | with_reducible refine u_cht ?_ | with_reducible refine u_chf ?_ | with_reducible refine w_un ?_ | with_reducible refine w_rU ?_ | with_reducible refine w_isN ?_ | with_reducible refine w_notN ?_ | with_reducible refine u_bm ?_ | with_reducible refine u_sl ?_ | with_reducible refine u_part ?_ | with_reducible refine u_parti ?_ | with_reducible refine u_nopart ?_ | with_reducible refine u_m1 ?_ | with_reducible refine u_mt ?_ | with_reducible refine u_mk ?_ | with_reducible refine u_nget ?_ | with_reducible refine u_nin ?_ | with_reducible refine u_nput ?_ | with_reducible refine u_fldS ?_
  | with_reducible refine u_for ?_ | with_reducible refine u_lc ?_ | with_reducible refine u_iL ?_ | with_reducible refine u_iT ?_ | with_reducible refine u_iE ?_ | with_reducible refine u_iZ ?_ | with_reducible refine u_iZ2 ?_ | with_reducible refine u_iZ3 ?_ | with_reducible refine u_iR1 ?_ | with_reducible refine u_iR2 ?_ | with_reducible refine u_sub ?_ | with_reducible refine u_isA_int ?_ | with_reducible refine u_isA_bool ?_ | with_reducible refine u_int1 ?_ | with_reducible refine u_intB ?_ | with_reducible refine u_min2 ?_ | with_reducible refine u_kw ?_ | with_reducible refine w_yes ?_ | with_reducible refine u_srt ?_ | with_reducible refine u_yt ?_ | with_reducible refine u_yf ?_)
local macro_rules | `(tactic| walk_at "go") => `(tactic| repeat walk_at "sl1")
section
variable {P : Program} {w : World} {K : PySem.W.Frag} {mg : Str → Option Value} {base : Heap}
/-- a method that all classes have from Term -/
theorem met_all {k : Nat} {m : Str} {sp : Sp} (T : Txt K mg) (a : At P w K mg base k (He.ma K (He.ga K "Term") m) sp) (hm : m = "first_wrong" ∨ m = "takes" ∨ m = "depth" ∨ m = "parts") (c : Tc) : Met P w K mg base k (c.cls K) m sp := by
  rcases hm with e | e | e | e <;> subst e <;> cases c
  · exact .of (eq_Number_first_wrong T ▸ a) (cls_Number T) (meth_Number_first_wrong T)
  · exact .of (eq_Take_first_wrong T ▸ a) (cls_Take T) (meth_Take_first_wrong T)
  · exact .of (eq_Added_first_wrong T ▸ a) (cls_Added T) (meth_Added_first_wrong T)
  · exact .of (eq_Multiplied_first_wrong T ▸ a) (cls_Multiplied T) (meth_Multiplied_first_wrong T)
  · exact .of (eq_Number_takes T ▸ a) (cls_Number T) (meth_Number_takes T)
  · exact .of (eq_Take_takes T ▸ a) (cls_Take T) (meth_Take_takes T)
  · exact .of (eq_Added_takes T ▸ a) (cls_Added T) (meth_Added_takes T)
  · exact .of (eq_Multiplied_takes T ▸ a) (cls_Multiplied T) (meth_Multiplied_takes T)
  · exact .of (eq_Number_depth T ▸ a) (cls_Number T) (meth_Number_depth T)
  · exact .of (eq_Take_depth T ▸ a) (cls_Take T) (meth_Take_depth T)
  · exact .of (eq_Added_depth T ▸ a) (cls_Added T) (meth_Added_depth T)
  · exact .of (eq_Multiplied_depth T ▸ a) (cls_Multiplied T) (meth_Multiplied_depth T)
  · exact .of (eq_Number_parts T ▸ a) (cls_Number T) (meth_Number_parts T)
  · exact .of (eq_Take_parts T ▸ a) (cls_Take T) (meth_Take_parts T)
  · exact .of (eq_Added_parts T ▸ a) (cls_Added T) (meth_Added_parts T)
  · exact .of (eq_Multiplied_parts T ▸ a) (cls_Multiplied T) (meth_Multiplied_parts T)
/-- the classes of terms, one promise -/
def DAll (K : PySem.W.Frag) (sp : Sp) : Addr → Sp → Prop := fun C s => ∃ c : Tc, C = c.cls K ∧ s = sp
def DNo : Addr → Sp → Prop := fun _ _ => False
/-- where a child is called: none at height 0 -/
def DSub (K : PySem.W.Frag) (f : Nat → Sp) : Nat → Addr → Sp → Prop
  | 0 => DNo
  | n + 1 => DAll K (f n)
theorem sub_met {m : Str} {f : Nat → Sp} {n k : Nat} (h : ∀ j, j < n → ∀ c : Tc, Met P w K mg base (k + j) (c.cls K) m (f j)) : ∀ C sp, DSub K f n C sp → Met P w K mg base (k + n - 1) C m sp := by
  intro C sp hd
  cases n with
  | zero => exact hd.elim
  | succ n =>
    obtain ⟨c, rfl, rfl⟩ := hd
    exact h n (Nat.lt_succ_self n) c
theorem sub_at {tm t : Tm} {n : Nat} (f : Nat → Sp) (hn : tm.ht ≤ n) (h : t ∈ tm.kids) : ∃ j, n = j + 1 ∧ t.ht ≤ j ∧ DSub K f n (t.tc.cls K) (f j) := by
  have hk := kids_ht h
  cases n with
  | zero => omega
  | succ n => exact ⟨n, rfl, by omega, t.tc, rfl, rfl⟩
/-! ### first_wrong -/
def spFw (K : PySem.W.Frag) (n : Nat) : Sp := SpF (fun a : Addr => [.ref a]) fun a H Q => ∃ tm : Tm, tm.ht ≤ n ∧ IsTm K H (.ref a) tm ∧ tm.ok ∧ ∀ H', Same H H' → Q .non H'
theorem ok_fw (T : Txt K mg) (n : Nat) : At P w K mg base (4 + n) (He.ma K (He.ga K "Term") "first_wrong") (spFw K n) := by
  induction n using Nat.strongRecOn with
  | ind n ih =>
  have d_first_wrong := sub_met (k := 4) (n := n) (f := spFw K) fun j hj c => met_all T (ih j hj) (.inl rfl) c
  have d_below := ok_below (P := P) (w := w) (base := base) T
  have d_own_wrong := ok_ownw (P := P) (w := w) (base := base) T
  rw [show 4 + n = 3 + n + 1 by omega]
  refine .of (F_Term_first_wrong T) sc_Term_first_wrong (b_Term_first_wrong T) (spf_len fun _ => rfl) fun cdv A outer s H vs Q E hr h => ?_
  have nd := sc_Term_first_wrong.nd
  obtain ⟨a, rfl, tm, hn, h, o, q⟩ := h
  refine ⟨_, (pss_cons (ps_for PassesOwn.never rfl (pi_list (pe_md0 d_below hr (pv 0))) (pg_name (i := 1) nd rfl (Or.inl rfl)) (pss_cons (ps_set (i := 2) nd rfl (Or.inl rfl) (pe_md0 d_first_wrong hr (pv 1)))
    (pss_one (ps_if (pt_cmp (pc_notN (pv 2))) (pss_one (ps_ret (pv 2))) pss_nil))))
    (pss_one (ps_ret (pe_md0 d_own_wrong hr (pv 0))))), ?_⟩
  obtain ⟨a', dx, fs, e, ha, hno⟩ := tm_ins h
  cases e
  walk_at "go"
  refine u_mti ⟨tm.tc, rfl, rfl⟩ ha (hno _ (by decide)) ?_
  walk_at "go"
  refine ⟨a, rfl, tm, rfl, h, fun l vs H1 hl s1 e1 k1 => ?_⟩
  refine u_iLi (SqL.of e1) ?_
  refine for_by (walk_list (xs := vs)) (fun i σ H' => ∃ x1 x2, σ = [some (.ref a), x1, x2] ∧ Same H1 H') ⟨_, _, rfl, Same.refl H1⟩ (fun i σ H' _ ⟨_, _, _, s⟩ => SqL.of (s _ _ e1)) ?_ ?_
  · rintro i x σ H2 H3 hi ⟨x1, x2, rfl, s2⟩ ⟨rfl, hx⟩
    obtain ⟨t, ht, hT⟩ := prAt1 k1 hx
    have htm := List.mem_of_getElem? ht
    obtain ⟨b, dx', fs', rfl, hb, hno'⟩ := tm_ins (hT.mono s2)
    obtain ⟨j, rfl, hj, dj⟩ := sub_at (K := K) (spFw K) hn htm
    walk_at "go"
    refine u_mti dj hb (hno' _ (by decide)) ?_
    walk_at "go"
    refine ⟨b, rfl, t, hj, hT.mono s2, kids_ok o htm, fun H4 s4 => ?_⟩
    walk_at "go"
    refine u_ifF rfl ?_
    walk_at "go"
    exact ⟨_, _, rfl, s2.trans s4⟩
  · rintro σ H2 ⟨x1, x2, rfl, s2⟩
    walk_at "go"
    have s12 := s1.trans s2
    refine u_mti ⟨tm.tc, rfl, rfl⟩ (s12 _ _ ha) (hno _ (by decide)) ?_
    walk_at "go"
    exact ⟨a, rfl, tm, rfl, h.mono s12, o, fun H3 s3 => q H3 (s12.trans s3)⟩
/-! ### depth, parts -/
def spDep (K : PySem.W.Frag) (n : Nat) : Sp := SpF (fun a : Addr => [.ref a]) fun a H Q => ∃ tm : Tm, tm.ht ≤ n ∧ IsTm K H (.ref a) tm ∧ ∀ H', Same H H' → Q (.int tm.dep) H'
def spPart (K : PySem.W.Frag) (n : Nat) : Sp := SpF (fun a : Addr => [.ref a]) fun a H Q => ∃ tm : Tm, tm.ht ≤ n ∧ IsTm K H (.ref a) tm ∧ ∀ H', Same H H' → Q (.int tm.parts) H'
theorem kids_len (tm : Tm) : tm.kids.length ≤ 2 := by cases tm <;> simp [Tm.kids]
theorem dep_max {tm : Tm} : (tm.kids.map Tm.dep = [] → tm.dep = 1 + 0) ∧ ∀ m, m ∈ tm.kids.map Tm.dep → (∀ y ∈ tm.kids.map Tm.dep, y ≤ m) → tm.dep = 1 + m := by
  have key : ∀ a b : Tm, ∀ m, m ∈ [a, b].map Tm.dep → (∀ y ∈ [a, b].map Tm.dep, y ≤ m) → 1 + max a.dep b.dep = 1 + m := fun a b m hm h => by
    have h1 := h a.dep (by simp)
    have h2 := h b.dep (by simp)
    have h3 : m = a.dep ∨ m = b.dep := by simpa using hm
    omega
  cases tm with
  | num n => exact ⟨fun _ => rfl, fun m hm => by cases hm⟩
  | take t => exact ⟨fun _ => rfl, fun m hm => by cases hm⟩
  | add a b => exact ⟨fun h => by simp [Tm.kids] at h, key a b⟩
  | mul a b => exact ⟨fun h => by simp [Tm.kids] at h, key a b⟩
theorem part_sum (tm : Tm) : tm.parts = 1 + (tm.kids.map Tm.parts).sum := by
  cases tm <;> simp [Tm.kids, Tm.parts]
theorem ok_dep (T : Txt K mg) (n : Nat) : At P w K mg base (2 + n) (He.ma K (He.ga K "Term") "depth") (spDep K n) := by
  induction n using Nat.strongRecOn with
  | ind n ih =>
  have d_depth := sub_met (k := 2) (n := n) (f := spDep K) fun j hj c => met_all T (ih j hj) (.inr (.inr (.inl rfl))) c
  have d_below := ok_below (P := P) (w := w) (base := base) T
  rw [show 2 + n = 1 + n + 1 by omega]
  refine .of (F_Term_depth T) sc_Term_depth (b_Term_depth T) (spf_len fun _ => rfl) fun cdv A outer s H vs Q E hr h => ?_
  have nd := sc_Term_depth.nd
  have hu := hr.h
  obtain ⟨a, rfl, tm, hn, h, q⟩ := h
  refine ⟨_, (pss_one (ps_ret (pe_op op_add pe_int (pe_callBK (cr_maxDf rfl hu) (by rfl) (free_max T) (by decide +kernel) (pa_cons (pe_lc (own := [("one", 1)]) (g := (gName 1)) (tt := tYes)  rfl nd (pi_list (pe_md0 d_below hr (pv 0))) (blkOk_by (N := ["self", "one"]) (sc := (defScope s_Term_depth)) (by decide +kernel)) (fun _ _ _ _ _ => (pg_name (i := 1) nd rfl (Or.inl rfl))) (fun _ _ _ _ _ => pts_nil) (fun _ _ _ _ _ => (pe_md0 d_depth hr (pv 1)))) pa_nil) (pk_cons pe_int pk_nil))))), ?_⟩
  obtain ⟨a', dx, fs, e, ha, hno⟩ := tm_ins h
  cases e
  walk_at "go"
  refine u_mti ⟨tm.tc, rfl, rfl⟩ ha (hno _ (by decide)) ?_
  walk_at "go"
  refine ⟨a, rfl, tm, rfl, h, fun l vs H1 hl s1 e1 k1 => ?_⟩
  refine u_iLi (SqL.of e1) ?_
  have lv : vs.length = tm.kids.length := prLen k1
  have lk := kids_len tm
  refine lc_by (walk_list (xs := vs)) (Same H1) (fun i acc H' => acc = ((tm.kids.take i).map Tm.dep).map V.int) (small_line (by omega)) (fun D H1 H2 hD s b => sS hD s b) (Same.refl H1) (fun H' s => rfl) (fun i acc H' _ s _ => SqL.of (s _ _ e1)) ?_ ?_
  · intro D i x acc H2 H3 R N put skip hD hi s2 hacc e2 y
    obtain ⟨rfl, hx⟩ := y
    obtain ⟨t, ht, hT⟩ := prAt1 k1 hx
    have htm := List.mem_of_getElem? ht
    obtain ⟨b, dx', fs', rfl, hb, hno'⟩ := tm_ins (hT.mono s2)
    obtain ⟨j, rfl, hj, dj⟩ := sub_at (K := K) (spDep K) hn htm
    refine w_name ⟨rfl, ?_⟩
    walk_at "go"
    refine u_mti dj hb (hno' _ (by decide)) ?_
    walk_at "go"
    refine ⟨b, rfl, t, hj, hT.mono s2, fun H4 s4 => ?_⟩
    refine put _ _ (s4 _ _ e2) (s2.trans s4) fun H5 _ _ _ => ?_
    rw [hacc, take_succ_of ht]
    simp
  · intro D acc H2 hD e2 s2 hacc
    rw [lv, List.take_length] at hacc
    subst hacc
    walk_at "go"
    refine ⟨D, _, 0, rfl, rfl, SqL.of e2, fun e => ?_, fun m hm hmax => ?_⟩
    · walk_at "go"
      rw [← dep_max.1 e]
      exact q H2 (s1.trans s2)
    · walk_at "go"
      rw [← dep_max.2 m hm hmax]
      exact q H2 (s1.trans s2)
theorem ok_part (T : Txt K mg) (n : Nat) : At P w K mg base (2 + n) (He.ma K (He.ga K "Term") "parts") (spPart K n) := by
  induction n using Nat.strongRecOn with
  | ind n ih =>
  have d_parts := sub_met (k := 2) (n := n) (f := spPart K) fun j hj c => met_all T (ih j hj) (.inr (.inr (.inr rfl))) c
  have d_below := ok_below (P := P) (w := w) (base := base) T
  rw [show 2 + n = 1 + n + 1 by omega]
  refine .of (F_Term_parts T) sc_Term_parts (b_Term_parts T) (spf_len fun _ => rfl) fun cdv A outer s H vs Q E hr h => ?_
  have nd := sc_Term_parts.nd
  obtain ⟨a, rfl, tm, hn, h, q⟩ := h
  refine ⟨_, (pss_one (ps_ret (pe_op op_add pe_int (pe_callB (cr_sum rfl) (by rfl) (free_sum T) (by decide +kernel) (pa_cons (pe_lc (own := [("one", 1)]) (g := (gName 1)) (tt := tYes)  rfl nd (pi_list (pe_md0 d_below hr (pv 0))) (blkOk_by (N := ["self", "one"]) (sc := (defScope s_Term_parts)) (by decide +kernel)) (fun _ _ _ _ _ => (pg_name (i := 1) nd rfl (Or.inl rfl))) (fun _ _ _ _ _ => pts_nil) (fun _ _ _ _ _ => (pe_md0 d_parts hr (pv 1)))) pa_nil))))), ?_⟩
  obtain ⟨a', dx, fs, e, ha, hno⟩ := tm_ins h
  cases e
  walk_at "go"
  refine u_mti ⟨tm.tc, rfl, rfl⟩ ha (hno _ (by decide)) ?_
  walk_at "go"
  refine ⟨a, rfl, tm, rfl, h, fun l vs H1 hl s1 e1 k1 => ?_⟩
  refine u_iLi (SqL.of e1) ?_
  have lv : vs.length = tm.kids.length := prLen k1
  have lk := kids_len tm
  refine lc_by (walk_list (xs := vs)) (Same H1) (fun i acc H' => acc = ((tm.kids.take i).map Tm.parts).map V.int) (small_line (by omega)) (fun D H1 H2 hD s b => sS hD s b) (Same.refl H1) (fun H' s => rfl) (fun i acc H' _ s _ => SqL.of (s _ _ e1)) ?_ ?_
  · intro D i x acc H2 H3 R N put skip hD hi s2 hacc e2 y
    obtain ⟨rfl, hx⟩ := y
    obtain ⟨t, ht, hT⟩ := prAt1 k1 hx
    have htm := List.mem_of_getElem? ht
    obtain ⟨b, dx', fs', rfl, hb, hno'⟩ := tm_ins (hT.mono s2)
    obtain ⟨j, rfl, hj, dj⟩ := sub_at (K := K) (spPart K) hn htm
    refine w_name ⟨rfl, ?_⟩
    walk_at "go"
    refine u_mti dj hb (hno' _ (by decide)) ?_
    walk_at "go"
    refine ⟨b, rfl, t, hj, hT.mono s2, fun H4 s4 => ?_⟩
    refine put _ _ (s4 _ _ e2) (s2.trans s4) fun H5 _ _ _ => ?_
    rw [hacc, take_succ_of ht]
    simp
  · intro D acc H2 hD e2 s2 hacc
    rw [lv, List.take_length] at hacc
    subst hacc
    walk_at "go"
    refine u_sum e2 ?_
    walk_at "go"
    rw [← part_sum]
    exact q H2 (s1.trans s2)
/-! ### takes -/
def spTks (K : PySem.W.Frag) (n : Nat) : Sp := SpF (fun a : Addr => [.ref a]) fun a H Q => ∃ tm : Tm, tm.ht ≤ n ∧ n ≤ 12 ∧ IsTm K H (.ref a) tm ∧ ∀ p H', H p = none → Same H H' → SpL H' p tm.tks → Q (.ref p) H'
def foldTk (own : List Spot) (ts : List Tm) : List Spot := ts.foldl (fun f t => addTk f t.tks) own
theorem tks_fold (tm : Tm) : tm.tks = srt (foldTk tm.own tm.kids) := by cases tm <;> rfl
theorem addTk_len (f m : List Spot) : (addTk f m).length ≤ f.length + m.length := by
  unfold addTk
  rw [List.length_append]
  have := List.length_filter_le (fun t => decide (t ∉ f)) m
  omega
theorem tks_len : ∀ tm : Tm, tm.tks.length ≤ 2 ^ tm.ht
  | .num n => by show (srt []).length ≤ 1; rw [(srt_perm []).length_eq]; exact Nat.zero_le _
  | .take t => by show (srt [t]).length ≤ 1; rw [(srt_perm [t]).length_eq]; exact Nat.le_refl _
  | .add a b => by
    have h1 := tks_len a
    have h2 := tks_len b
    have e : (Tm.add a b).tks.length = (addTk (addTk [] a.tks) b.tks).length := (srt_perm _).length_eq
    have l1 := addTk_len [] a.tks
    have l2 := addTk_len (addTk [] a.tks) b.tks
    have p1 : 2 ^ a.ht ≤ 2 ^ max a.ht b.ht := Nat.pow_le_pow_right (by decide) (Nat.le_max_left _ _)
    have p2 : 2 ^ b.ht ≤ 2 ^ max a.ht b.ht := Nat.pow_le_pow_right (by decide) (Nat.le_max_right _ _)
    show (Tm.add a b).tks.length ≤ 2 ^ (1 + max a.ht b.ht)
    rw [e, Nat.pow_add]
    simp only [List.length_nil] at l1
    omega
  | .mul a b => by
    have h1 := tks_len a
    have h2 := tks_len b
    have e : (Tm.mul a b).tks.length = (addTk (addTk [] a.tks) b.tks).length := (srt_perm _).length_eq
    have l1 := addTk_len [] a.tks
    have l2 := addTk_len (addTk [] a.tks) b.tks
    have p1 : 2 ^ a.ht ≤ 2 ^ max a.ht b.ht := Nat.pow_le_pow_right (by decide) (Nat.le_max_left _ _)
    have p2 : 2 ^ b.ht ≤ 2 ^ max a.ht b.ht := Nat.pow_le_pow_right (by decide) (Nat.le_max_right _ _)
    show (Tm.mul a b).tks.length ≤ 2 ^ (1 + max a.ht b.ht)
    rw [e, Nat.pow_add]
    simp only [List.length_nil] at l1
    omega
theorem own_len (tm : Tm) : tm.own.length ≤ 1 := by cases tm <;> simp [Tm.own]
theorem fold_len (own : List Spot) (c : Nat) : ∀ ts : List Tm, (∀ t ∈ ts, t.tks.length ≤ c) → (foldTk own ts).length ≤ own.length + ts.length * c := by
  intro ts
  induction ts generalizing own with
  | nil => intro _; simp [foldTk]
  | cons t ts ih =>
    intro h
    have h1 := ih (addTk own t.tks) fun u hu => h u (List.mem_cons_of_mem _ hu)
    have h2 := addTk_len own t.tks
    have h3 := h t List.mem_cons_self
    show (foldTk (addTk own t.tks) ts).length ≤ _
    rw [List.length_cons, Nat.succ_mul]
    omega
theorem filter_take_at {p : Spot → Bool} {l : List Spot} {i : Nat} {x : Spot} (h : l[i]? = some x) : (l.take (i + 1)).filter p = (l.take i).filter p ++ (if p x = true then [x] else []) := by
  rw [take_succ_of h, List.filter_append]
  congr 1
  by_cases c : p x = true
  · rw [if_pos c]; simp [c]
  · rw [if_neg c]; simp [c]
theorem IsTm.but {H H' : Hp} {t : Addr} {xs : List V} (b : But t H H') (ht : H t = some (.lst xs)) : ∀ {tm : Tm} {v : V}, IsTm K H v tm → IsTm K H' v tm := by
  have ni : ∀ {a : Addr} {C dx : Addr} {fs : List (Str × V)}, H a = some (.ins C dx fs) → H' a = some (.ins C dx fs) := fun e => b _ _ e fun z => by rw [z, ht] at e; cases e
  have nt : TK H H' := b.tk ht
  intro tm
  induction tm with
  | num n => rintro v ⟨a, dx, e, h⟩; exact ⟨a, dx, e, ni h⟩
  | take t => rintro v ⟨a, dx, y, e, h, p⟩; exact ⟨a, dx, y, e, ni h, p.mono nt⟩
  | add t u i1 i2 => rintro v ⟨a, dx, x, y, e, h, p, q⟩; exact ⟨a, dx, x, y, e, ni h, i1 p, i2 q⟩
  | mul t u i1 i2 => rintro v ⟨a, dx, x, y, e, h, p, q⟩; exact ⟨a, dx, x, y, e, ni h, i1 p, i2 q⟩
theorem ok_tks (T : Txt K mg) (n : Nat) : At P w K mg base (2 + n) (He.ma K (He.ga K "Term") "takes") (spTks K n) := by
  induction n using Nat.strongRecOn with
  | ind n ih =>
  have d_takes := sub_met (k := 2) (n := n) (f := spTks K) fun j hj c => met_all T (ih j hj) (.inr (.inl rfl)) c
  have d_below := ok_below (P := P) (w := w) (base := base) T
  have d_own_take := ok_ownt (P := P) (w := w) (base := base) T
  rw [show 2 + n = 1 + n + 1 by omega]
  refine .of (F_Term_takes T) sc_Term_takes (b_Term_takes T) (spf_len fun _ => rfl) fun cdv A outer s H vs Q E hr h => ?_
  have nd := sc_Term_takes.nd
  have hu := hr.h
  have hu5 := hr.h5
  obtain ⟨a, rfl, tm, hn, h12, h, q⟩ := h
  refine ⟨_, (pss_cons (ps_set (i := 1) nd rfl (Or.inr rfl) (pe_md0 d_own_take hr (pv 0)))
    (pss_cons (ps_for PassesOwn.never rfl (pi_list (pe_md0 d_below hr (pv 0))) (pg_name (i := 2) nd rfl (Or.inl rfl)) (pss_one (ps_expr (pe_bm PySem.F.plainAttrs_list PySem.F.slot_list_extend PySem.F.type_list_extend mt_extO (pv 1) (pa_cons (pe_lc (own := [("take", 3)]) (g := (gName 3))  rfl nd (pi_list (pe_md0 d_takes hr (pv 2))) (blkOk_by (N := ["self", "found", "one", "take"]) (sc := (defScope s_Term_takes)) (by decide +kernel)) (fun _ _ _ _ _ => (pg_name (i := 3) nd rfl (Or.inl rfl))) (fun _ _ _ _ _ => (pts_one (pt_cmpR (op_notInDK (K := K) rfl hu5) (pv 3) (pv 1) rfl))) (fun _ _ _ _ _ => (pv 3))) pa_nil)))))
    (pss_one (ps_ret (pe_callB (cr_sortSp hu) (by rfl) (free_sorted T) (by decide +kernel) (pa_cons (pv 1) pa_nil)))))), ?_⟩
  obtain ⟨a', dx, fs, e, ha, hno⟩ := tm_ins h
  cases e
  walk_at "go"
  refine u_mti ⟨tm.tc, rfl, rfl⟩ ha (hno _ (by decide)) ?_
  walk_at "go"
  refine ⟨a, rfl, tm, rfl, h, fun f H1 hf s1 hfo => ?_⟩
  walk_at "go"
  refine u_mti ⟨tm.tc, rfl, rfl⟩ (s1 _ _ ha) (hno _ (by decide)) ?_
  walk_at "go"
  refine ⟨a, rfl, tm, rfl, h.mono s1, fun l vs H2 hl s2 e2 k2 => ?_⟩
  refine u_iLi (SqL.of e2) ?_
  have lv : vs.length = tm.kids.length := prLen k2
  have lk := kids_len tm
  have hb : ∀ t ∈ tm.kids, t.tks.length ≤ 4096 := fun t ht => Nat.le_trans (tks_len t) (show 2 ^ t.ht ≤ 2 ^ 12 from Nat.pow_le_pow_right (by decide) (by have := kids_ht ht; omega))
  have s12 := s1.trans s2
  obtain ⟨fv0, hf0, _⟩ := id hfo
  have hf2 := s2 _ _ hf0
  have nlf : l ≠ f := by
    obtain ⟨_, e, _⟩ := hfo
    exact (ne_of_none e hl).symm
  have nfk : ∀ {H' : Hp} {b x : Addr} {vs ws : List V}, H' f = some (.lst vs) → H' b = some (.tup ws) → b ≠ f := fun e1 e2 z => by rw [z, e1] at e2; cases e2
  refine for_by (walk_list (xs := vs)) (fun i σ H' => ∃ x2 x3, σ = [some (.ref a), some (.ref f), x2, x3] ∧ But f H2 H' ∧ SpL H' f (foldTk tm.own (tm.kids.take i))) ⟨_, _, rfl, But.refl f H2, hfo.mono s2⟩
    (fun i σ H' _ ⟨_, _, _, b, _⟩ => SqL.of (b _ _ e2 nlf)) ?_ ?_
  · rintro i x σ H4 H3 hi ⟨x2, x3, rfl, b3, hf3⟩ ⟨rfl, hx⟩
    obtain ⟨t, ht, hT⟩ := prAt1 k2 hx
    have htm := List.mem_of_getElem? ht
    have SH : Same H H3 := s12.but b3 hf
    have hT3 : IsTm K H3 x t := hT.but b3 hf2
    obtain ⟨b, dx', fs', rfl, hb', hno'⟩ := tm_ins hT3
    obtain ⟨j, rfl, hj, dj⟩ := sub_at (K := K) (spTks K) hn htm
    obtain ⟨fv, ef, pf⟩ := hf3
    have hfl : fv.length ≤ 1 + 2 * 4096 := by
      rw [prLen pf]
      have h1 := fold_len tm.own 4096 (tm.kids.take i) fun t ht => hb t (List.mem_of_mem_take ht)
      have h2 := own_len tm
      rw [List.length_take] at h1
      have h3 : min i tm.kids.length * 4096 ≤ 2 * 4096 := Nat.mul_le_mul_right _ (by omega)
      omega
    walk_at "go"
    refine u_bmL ef ?_
    walk_at "go"
    refine u_mti dj hb' (hno' _ (by decide)) ?_
    walk_at "go"
    refine ⟨b, rfl, t, hj, by omega, hT3, fun g H5 hg s5 hgl => ?_⟩
    obtain ⟨gv, eg, pg⟩ := hgl
    refine u_iLi (SqL.of eg) ?_
    have lg : gv.length = t.tks.length := prLen pg
    have htl := hb t htm
    generalize hfd : foldTk tm.own (tm.kids.take i) = fd at pf
    refine lc_by (walk_list (xs := gv)) (Same H5) (fun k acc H' => Paired (IsSp H') acc ((t.tks.take k).filter fun t => decide (t ∉ fd))) (small_line (by omega)) (fun D H1 H2 hD s b => sS hD s b) (Same.refl H5) (fun H' s => by rw [List.take_zero]; exact .nil) (fun k acc H' _ s _ => SqL.of (s _ _ eg)) ?_ ?_
    · intro D k x acc H7 H6 R N put skip hD hk s6 pacc e6 y
      obtain ⟨rfl, hxk⟩ := y
      obtain ⟨tk, htk, hS⟩ := prAt1 pg hxk
      have hS6 := hS.mono (TK.of s6)
      refine w_name ⟨rfl, ?_⟩
      walk_at "go"
      have hf6 : SpL H6 f fd := ⟨fv, s6 _ _ (s5 _ _ ef), sps_mono (TK.of (s5.trans s6)) pf⟩
      refine g_ninSp hS6 hf6 (u_bl ?_)
      refine u_y2 (fun c => ?_) fun c => ?_
      · walk_at "go"
        refine put _ _ e6 s6 fun H8 b8 t8 s8 => ?_
        rw [filter_take_at htk, if_pos (by simpa using c)]
        exact prApp (sps_mono t8 pacc) (.cons (hS6.mono t8) .nil)
      · refine skip _ e6 s6 ?_
        rw [filter_take_at htk, if_neg (by simpa using c), List.append_nil]
        exact pacc
    · intro D acc H6 hD e6 s6 pacc
      rw [lg, List.take_length] at pacc
      walk_at "go"
      have la : acc.length ≤ 4096 := by
        rw [prLen pacc]
        exact Nat.le_trans (List.length_filter_le _ _) htl
      refine u_ext (s6 _ _ (s5 _ _ ef)) e6 (Nat.le_of_lt (small_line (by omega))) fun H8 b8 t8 n8 e8 => ?_
      walk_at "go"
      refine ⟨_, _, rfl, (b3.same (s5.trans s6)).trans b8, _, e8, ?_⟩
      rw [take_succ_of ht]
      show Paired (IsSp H8) _ ((tm.kids.take i ++ [t]).foldl (fun f t => addTk f t.tks) tm.own)
      rw [List.foldl_append]
      show Paired (IsSp H8) _ (addTk (foldTk tm.own (tm.kids.take i)) t.tks)
      rw [hfd]
      exact prApp (sps_mono ((TK.of (s5.trans s6)).trans t8) pf) (sps_mono t8 pacc)
  · rintro σ H3 ⟨x2, x3, rfl, b3, hf3⟩
    rw [lv, List.take_length] at hf3
    walk_at "go"
    refine ⟨f, _, rfl, hf3, fun p H4 hp s4 hp4 => ?_⟩
    have SH : Same H H3 := s12.but b3 hf
    rw [← tks_fold] at hp4
    exact q p H4 (SH.free hp) (SH.trans s4) hp4
end
end SL
end PtD7
/-! part D8 -/
section PtD8
/-! D8: terms: constructors, lines_of, check_term. -/
namespace SL
open PySem PySem.Spec PyProof.Rows L2
/-- one step that needs nothing -/
local macro_rules | `(tactic| walk_at "sl1") => `(tactic| first
  | (with_reducible refine w_varh ?_; refine ⟨_, rfl, ?_⟩) | (with_reducible refine w_rEqh ?_; refine ⟨rfl, ?_⟩) | (with_reducible refine w_rNeh ?_; refine ⟨rfl, ?_⟩)
  | with_reducible refine w_seq ?_ | with_reducible refine w_asg ?_ | with_reducible refine w_c ?_ | with_reducible refine w_op ?_ | with_reducible refine w_rI0 ?_ | with_reducible refine u_test ?_ | with_reducible refine u_tb ?_ | with_reducible refine u_bl ?_ | with_reducible refine u_ifs ?_ | with_reducible refine u_ift ?_ | with_reducible refine u_iff ?_ | with_reducible refine w_cons ?_ | with_reducible refine w_nil ?_ | with_reducible refine w_cl ?_ | with_reducible refine w_cb ?_ | with_reducible refine w_ret ?_ | with_reducible refine w_drop ?_ | with_reducible refine w_name ?_ | with_reducible refine w_next ?_
  | with_reducible refine u_fld ?_ | with_reducible refine u_tup ?_ | with_reducible refine u_lst ?_ | with_reducible refine u_not ?_ | with_reducible refine u_nott ?_ | with_reducible refine u_notf ?_ | with_reducible refine u_and ?_ | with_reducible refine u_or ?_ | with_reducible refine u_andt ?_ | with_reducible refine u_andf ?_ | with_reducible refine u_ort ?_ | with_reducible refine u_orf ?_ | with_reducible refine u_andV ?_ | with_reducible refine u_orV ?_ | with_reducible refine u_andVt ?_ | with_reducible refine u_andVf ?_ | with_reducible refine u_orVt ?_ | with_reducible refine u_orVf ?_ | with_reducible refine u_notV ?_ | with_reducible refine u_notVb ?_
  | with_reducible refine u_chain ?_ | with_reducible refine u_cht ?_ | with_reducible refine u_chf ?_ | with_reducible refine w_un ?_ | with_reducible refine w_rU ?_ | with_reducible refine w_isN ?_ | with_reducible refine w_notN ?_ | with_reducible refine u_bm ?_ | with_reducible refine u_sl ?_ | with_reducible refine u_part ?_ | with_reducible refine u_parti ?_ | with_reducible refine u_nopart ?_ | with_reducible refine u_m1 ?_ | with_reducible refine u_mt ?_ | with_reducible refine u_mk ?_ | with_reducible refine u_nget ?_ | with_reducible refine u_nin ?_ | with_reducible refine u_nput ?_ | with_reducible refine u_fldS ?_
  | with_reducible refine u_for ?_ | with_reducible refine u_lc ?_ | with_reducible refine u_iL ?_ | with_reducible refine u_iT ?_ | with_reducible refine u_iE ?_ | with_reducible refine u_iZ ?_ | with_reducible refine u_iZ2 ?_ | with_reducible refine u_iZ3 ?_ | with_reducible refine u_iR1 ?_ | with_reducible refine u_iR2 ?_ | with_reducible refine u_sub ?_ | with_reducible refine u_isA_int ?_ | with_reducible refine u_isA_bool ?_ | with_reducible refine u_int1 ?_ | with_reducible refine u_intB ?_ | with_reducible refine u_min2 ?_ | with_reducible refine u_kw ?_ | with_reducible refine w_yes ?_ | with_reducible refine u_srt ?_ | with_reducible refine u_yt ?_ | with_reducible refine u_yf ?_)
local macro_rules | `(tactic| walk_at "go") => `(tactic| repeat walk_at "sl1")
section
variable {P : Program} {w : World} {K : PySem.W.Frag} {mg : Str → Option Value} {base : Heap}
def spNumI (K : PySem.W.Frag) : Sp := SpF (fun x : Addr × Int => [.ref x.1, .int x.2]) fun x H Q => ∃ dx, H x.1 = some (.ins (He.ga K "Number") dx []) ∧ ∀ H', But x.1 H H' → H' x.1 = some (.ins (He.ga K "Number") dx [("value", .int x.2)]) → Q .non H'
theorem ok_num_init (T : Txt K mg) : At P w K mg base 1 (He.ma K (He.ga K "Number") "__init__") (spNumI K) := by
  refine .of (F_Number_init T) sc_Number_init (b_Number_init T) (spf_len fun _ => rfl) fun cdv A outer s H vs Q E hr h => ?_
  have nd := sc_Number_init.nd
  obtain ⟨⟨a, n⟩, rfl, dx, h, q⟩ := h
  refine ⟨_, (pss_one (ps_fldO (pv 0) (pv 1) rfl)), ?_⟩
  walk_at "go"
  exact u_fldSi h (cls_Number T) (noat_Number_value T) (by show 0 < 1000; decide) fun H' b t n' e => q H' b e
def spTakI (K : PySem.W.Frag) : Sp := SpF (fun x : Addr × V × V => [.ref x.1, x.2.1, x.2.2]) fun x H Q => ∃ dx, H x.1 = some (.ins (He.ga K "Take") dx []) ∧ ∀ H', But x.1 H H' → H' x.1 = some (.ins (He.ga K "Take") dx [("back", x.2.1), ("steps", x.2.2)]) → Q .non H'
theorem ok_take_init (T : Txt K mg) : At P w K mg base 1 (He.ma K (He.ga K "Take") "__init__") (spTakI K) := by
  refine .of (F_Take_init T) sc_Take_init (b_Take_init T) (spf_len fun _ => rfl) fun cdv A outer s H vs Q E hr h => ?_
  have nd := sc_Take_init.nd
  obtain ⟨⟨a, x, y⟩, rfl, dx, h, q⟩ := h
  refine ⟨_, (pss_cons (ps_fldO (pv 0) (pv 1) rfl)
    (pss_one (ps_fldO (pv 0) (pv 2) rfl))), ?_⟩
  walk_at "go"
  refine u_fldSi h (cls_Take T) (noat_Take_back T) (by show 0 < 1000; decide) fun H1 b1 t n' e1 => ?_
  walk_at "go"
  exact u_fldSi e1 (cls_Take T) (noat_Take_steps T) (by show 1 < 1000; decide) fun H2 b2 t n' e2 => q H2 (b1.trans b2) e2
def spPaiI (K : PySem.W.Frag) (c : Tc) : Sp := SpF (fun x : Addr × V × V => [.ref x.1, x.2.1, x.2.2]) fun x H Q => ∃ dx, H x.1 = some (.ins (c.cls K) dx []) ∧ ∀ H', But x.1 H H' → H' x.1 = some (.ins (c.cls K) dx [("one", x.2.1), ("other", x.2.2)]) → Q .non H'
theorem ok_pair_init (T : Txt K mg) (c : Tc) (n1 : NoAttr K (c.cls K) "one") (n2 : NoAttr K (c.cls K) "other") : At P w K mg base 1 (He.ma K (He.ga K "Paired") "__init__") (spPaiI K c) := by
  refine .of (F_Paired_init T) sc_Paired_init (b_Paired_init T) (spf_len fun _ => rfl) fun cdv A outer s H vs Q E hr h => ?_
  have nd := sc_Paired_init.nd
  obtain ⟨⟨a, x, y⟩, rfl, dx, h, q⟩ := h
  refine ⟨_, (pss_cons (ps_fldO (pv 0) (pv 1) rfl)
    (pss_one (ps_fldO (pv 0) (pv 2) rfl))), ?_⟩
  walk_at "go"
  refine u_fldSi h (tc_cls T c) n1 (by show 0 < 1000; decide) fun H1 b1 t n' e1 => ?_
  walk_at "go"
  exact u_fldSi e1 (tc_cls T c) n2 (by show 1 < 1000; decide) fun H2 b2 t n' e2 => q H2 (b1.trans b2) e2
theorem mk_Number (T : Txt K mg) : Mak P w K mg base 1 "Number" (He.ga K "Number") (spNumI K) := .of (ok_num_init T) (glo_Number T) (mkr_Number T)
theorem mk_Take (T : Txt K mg) : Mak P w K mg base 1 "Take" (He.ga K "Take") (spTakI K) := .of (ok_take_init T) (glo_Take T) (mkr_Take T)
theorem mk_Added (T : Txt K mg) : Mak P w K mg base 1 "Added" (He.ga K "Added") (spPaiI K .add) := .of (eq_Added_init T ▸ ok_pair_init T .add (noat_Added_one T) (noat_Added_other T)) (glo_Added T) (mkr_Added T)
theorem mk_Multiplied (T : Txt K mg) : Mak P w K mg base 1 "Multiplied" (He.ga K "Multiplied") (spPaiI K .mul) := .of (eq_Multiplied_init T ▸ ok_pair_init T .mul (noat_Multiplied_one T) (noat_Multiplied_other T)) (glo_Multiplied T) (mkr_Multiplied T)
/-! ### lines_of -/
theorem d_takes12 (T : Txt K mg) : ∀ C sp, DAll K (spTks K 12) C sp → Met P w K mg base 14 C "takes" sp := by
  rintro _ _ ⟨c, rfl, rfl⟩
  exact met_all T (ok_tks T 12) (.inr (.inl rfl)) c
def spLin (K : PySem.W.Frag) : Sp := SpF (fun a : Addr => [.ref a]) fun a H Q => ∃ (tm : Tm) (L : Nat), tm.ht ≤ 12 ∧ IsTm K H (.ref a) tm ∧ (∀ t ∈ tm.tks, t.2.length = L) ∧ ∀ H', Same H H' → Q (if tm.tks = [] then .non else .int (L : Nat)) H'
theorem ok_lines_of (T : Txt K mg) : Cal P w K mg base 15 "lines_of" (spLin K) := by
  refine .of (.of (F_lines_of T) sc_lines_of (b_lines_of T) (spf_len fun _ => rfl) fun cdv A outer s H vs Q E hr h => ?_) (glo_lines_of T)
  have nd := sc_lines_of.nd
  have d_takes := d_takes12 (P := P) (w := w) (base := base) T
  obtain ⟨a, rfl, tm, L, hn, h, hL, q⟩ := h
  obtain ⟨a', dx, fs, e, ha, hno⟩ := tm_ins h
  cases e
  refine ⟨_, (pss_cons (ps_set (i := 1) nd rfl (Or.inl rfl) pe_non)
    (pss_cons (ps_for PassesOwn.never rfl (pi_list (pe_md0 d_takes hr (pv 0))) (pg_tup rfl (pgs_cons (pg_name (i := 2) nd rfl (Or.inl rfl)) (pgs_cons (pg_name (i := 3) nd rfl (Or.inl rfl)) pgs_nil))) (pss_cons (ps_if (PW.pt (pw_and (pt_cmp (pc_notN (pv 1))) (pw_and1 (pt_cmpR op_ne (pv 1) (pe_callB cr_lenO (by rfl) (free_len T) PySem.boot_len (pa_cons (pv 3) pa_nil)) (nomark _))))) pss_never pss_nil)
    (pss_one (ps_set (i := 1) nd rfl (Or.inl rfl) (pe_callB cr_lenO (by rfl) (free_len T) PySem.boot_len (pa_cons (pv 3) pa_nil))))))
    (pss_one (ps_ret (pv 1))))), ?_⟩
  walk_at "go"
  refine u_mti ⟨tm.tc, rfl, rfl⟩ ha (hno _ (by decide)) ?_
  walk_at "go"
  refine ⟨a, rfl, tm, hn, by decide, h, fun l H1 hl s1 hsp => ?_⟩
  obtain ⟨vs, e1, ps⟩ := hsp
  have lv : vs.length = tm.tks.length := prLen ps
  refine u_iLi (SqL.of e1) ?_
  refine for_by (walk_list (xs := vs)) (fun i σ H' => ∃ x2 x3, σ = [some (.ref a), some (if i = 0 then .non else .int (L : Nat)), x2, x3] ∧ Same H1 H') ⟨_, _, rfl, Same.refl H1⟩ (fun i σ H' _ ⟨_, _, _, s⟩ => SqL.of (s _ _ e1)) ?_ ?_
  · rintro i x σ H3 H2 hi ⟨x2, x3, rfl, s2⟩ ⟨rfl, hx⟩
    obtain ⟨t, ht, hS⟩ := prAt1 ps hx
    obtain ⟨b, y, rfl, hb, c, rfl, hc⟩ := hS.mono (TK.of s2)
    have hlen : (t.2.map V.int).length = L := by rw [List.length_map]; exact hL t (List.mem_of_getElem? ht)
    refine w_two hb ?_
    walk_at "go"
    by_cases hi0 : i = 0
    · refine u_andF (by simp [hi0]) ?_
      walk_at "go"
      refine u_lenT hc ?_
      walk_at "go"
      refine ⟨some (.int t.1), some (.ref c), ?_, s2⟩
      rw [hlen, if_neg (Nat.succ_ne_zero i)]
      rfl
    · refine u_andT (by simp [hi0]) ?_
      walk_at "go"
      refine u_lenT hc ?_
      rw [if_neg hi0, hlen]
      walk_at "go"
      refine u_ifF (by simp) ?_
      walk_at "go"
      refine u_lenT hc ?_
      walk_at "go"
      refine ⟨some (.int t.1), some (.ref c), ?_, s2⟩
      rw [hlen, if_neg (Nat.succ_ne_zero i)]
      rfl
  · rintro σ H2 ⟨x2, x3, rfl, s2⟩
    walk_at "go"
    have q' := q H2 (s1.trans s2)
    rw [lv]
    by_cases ht : tm.tks = []
    · rw [if_pos ht] at q'
      rw [ht]
      exact q'
    · rw [if_neg ht] at q'
      rw [if_neg (by rw [List.length_eq_zero_iff]; exact ht)]
      exact q'
/-! ### check_term -/
structure TmFit (tm : Tm) (L : Nat) : Prop where
  ht : tm.ht ≤ 12
  ok : tm.ok
  len : ∀ t ∈ tm.tks, t.2.length = L
  dep : tm.dep ≤ 12
  parts : tm.parts ≤ 60
  few : tm.tks.length ≤ 6
def spChk (K : PySem.W.Frag) : Sp := SpF (fun a : Addr => [.ref a]) fun a H Q => ∃ (tm : Tm) (L : Nat), TmFit tm L ∧ IsTm K H (.ref a) tm ∧ ∀ H', Same H H' → Q .non H'
theorem ok_check_term (T : Txt K mg) : Cal P w K mg base 17 "check_term" (spChk K) := by
  refine .of (.of (F_check_term T) sc_check_term (b_check_term T) (spf_len fun _ => rfl) fun cdv A outer s H vs Q E hr h => ?_) (glo_check_term T)
  have nd := sc_check_term.nd
  have d_takes := d_takes12 (P := P) (w := w) (base := base) T
  have d_first_wrong : ∀ C sp, DAll K (spFw K 12) C sp → Met P w K mg base 16 C "first_wrong" sp := by
    rintro _ _ ⟨c, rfl, rfl⟩
    exact met_all T (ok_fw T 12) (.inl rfl) c
  have d_depth : ∀ C sp, DAll K (spDep K 12) C sp → Met P w K mg base 14 C "depth" sp := by
    rintro _ _ ⟨c, rfl, rfl⟩
    exact met_all T (ok_dep T 12) (.inr (.inr (.inl rfl))) c
  have d_parts : ∀ C sp, DAll K (spPart K 12) C sp → Met P w K mg base 14 C "parts" sp := by
    rintro _ _ ⟨c, rfl, rfl⟩
    exact met_all T (ok_part T 12) (.inr (.inr (.inr rfl))) c
  have c_lines_of := ok_lines_of (P := P) (w := w) (base := base) T
  obtain ⟨a, rfl, tm, L, fit, h, q⟩ := h
  obtain ⟨a', dx, fs, e, ha, hno⟩ := tm_ins h
  cases e
  refine ⟨_, (pss_cons (ps_set (i := 1) nd rfl (Or.inl rfl) (pe_md0 d_first_wrong hr (pv 0)))
    (pss_cons (ps_if (pt_cmp (pc_notN (pv 1))) pss_never pss_nil)
    (pss_cons (ps_expr (pe_c c_lines_of hr (by rfl) (pa_cons (pv 0) pa_nil)))
    (pss_cons (ps_if (pt_cmpR op_gt (pe_md0 d_depth hr (pv 0)) (pe_gi (by rfl) (int_MOST_DEPTH T)) (nomark _)) pss_never pss_nil)
    (pss_cons (ps_if (pt_cmpR op_gt (pe_md0 d_parts hr (pv 0)) (pe_gi (by rfl) (int_MOST_PARTS T)) (nomark _)) pss_never pss_nil)
    (pss_one (ps_if (pt_cmpR op_gt (pe_callB cr_lenO (by rfl) (free_len T) PySem.boot_len (pa_cons (pe_md0 d_takes hr (pv 0)) pa_nil)) (pe_gi (by rfl) (int_MOST_TAKES T)) (nomark _)) pss_never pss_nil))))))), ?_⟩
  walk_at "go"
  refine u_mti ⟨tm.tc, rfl, rfl⟩ ha (hno _ (by decide)) ?_
  walk_at "go"
  refine ⟨a, rfl, tm, fit.ht, h, fit.ok, fun H1 s1 => ?_⟩
  walk_at "go"
  refine u_ifF rfl ?_
  walk_at "go"
  refine ⟨a, rfl, tm, L, fit.ht, h.mono s1, fit.len, fun H2 s2 => ?_⟩
  have s12 := s1.trans s2
  walk_at "go"
  refine u_mti ⟨tm.tc, rfl, rfl⟩ (s12 _ _ ha) (hno _ (by decide)) ?_
  walk_at "go"
  refine ⟨a, rfl, tm, fit.ht, h.mono s12, fun H3 s3 => ?_⟩
  walk_at "go"
  refine u_ifF (decide_eq_false (by have := fit.dep; omega)) ?_
  have s13 := s12.trans s3
  walk_at "go"
  refine u_mti ⟨tm.tc, rfl, rfl⟩ (s13 _ _ ha) (hno _ (by decide)) ?_
  walk_at "go"
  refine ⟨a, rfl, tm, fit.ht, h.mono s13, fun H4 s4 => ?_⟩
  walk_at "go"
  refine u_ifF (decide_eq_false (by have := fit.parts; omega)) ?_
  have s14 := s13.trans s4
  walk_at "go"
  refine u_mti ⟨tm.tc, rfl, rfl⟩ (s14 _ _ ha) (hno _ (by decide)) ?_
  walk_at "go"
  refine ⟨a, rfl, tm, fit.ht, by decide, h.mono s14, fun l H5 hl s5 hsp => ?_⟩
  obtain ⟨vs, e1, ps⟩ := hsp
  walk_at "go"
  refine u_lenL e1 ?_
  walk_at "go"
  refine u_ifF (decide_eq_false (by rw [prLen ps]; have := fit.few; omega)) ?_
  walk_at "go"
  exact q H5 (s14.trans s5)
end
end SL
end PtD8
/-! part D9 -/
section PtD9
/-! D9: Job's methods. -/
namespace SL
open PySem PySem.Spec PyProof.Rows L2
/-- one step that needs nothing -/
local macro_rules | `(tactic| walk_at "sl1") => `(tactic| first
  | (with_reducible refine w_varh ?_; refine ⟨_, rfl, ?_⟩) | (with_reducible refine w_rEqh ?_; refine ⟨rfl, ?_⟩) | (with_reducible refine w_rNeh ?_; refine ⟨rfl, ?_⟩)
  | with_reducible refine w_seq ?_ | with_reducible refine w_asg ?_ | with_reducible refine w_c ?_ | with_reducible refine w_op ?_ | with_reducible refine w_rI0 ?_ | with_reducible refine u_test ?_ | with_reducible refine u_tb ?_ | with_reducible refine u_bl ?_ | with_reducible refine u_ifs ?_ | with_reducible refine u_ift ?_ | with_reducible refine u_iff ?_ | with_reducible refine w_cons ?_ | with_reducible refine w_nil ?_ | with_reducible refine w_cl ?_ | with_reducible refine w_cb ?_ | with_reducible refine w_ret ?_ | with_reducible refine w_drop ?_ | with_reducible refine w_name ?_ | with_reducible refine w_next ?_
  | with_reducible refine u_fld ?_ | with_reducible refine u_tup ?_ | with_reducible refine u_lst ?_ | with_reducible refine u_not ?_ | with_reducible refine u_nott ?_ | with_reducible refine u_notf ?_ | with_reducible refine u_and ?_ | with_reducible refine u_or ?_ | with_reducible refine u_andt ?_ | with_reducible refine u_andf ?_ | with_reducible refine u_ort ?_ | with_reducible refine u_orf ?_ | with_reducible refine u_andV ?_ | with_reducible refine u_orV ?_ | with_reducible refine u_andVt ?_ | with_reducible refine u_andVf ?_ | with_reducible refine u_orVt ?_ | with_reducible refine u_orVf ?_ | with_reducible refine u_notV ?_ | with_reducible refine u_notVb ?_
  | with_reducible refine u_chain ?_ | with_reducible refine u_cht ?_ | with_reducible refine u_chf ?_ | with_reducible refine w_un ?_ | with_reducible refine w_rU ?_ | with_reducible refine w_isN ?_ | with_reducible refine w_notN ?_ | with_reducible refine u_bm ?_ | with_reducible refine u_sl ?_ | with_reducible refine u_part ?_ | with_reducible refine u_parti ?_ | with_reducible refine u_nopart ?_ | with_reducible refine u_m1 ?_ | with_reducible refine u_mt ?_ | with_reducible refine u_mk ?_ | with_reducible refine u_nget ?_ | with_reducible refine u_nin ?_ | with_reducible refine u_nput ?_ | with_reducible refine u_fldS ?_
  | with_reducible refine u_for ?_ | with_reducible refine u_lc ?_ | with_reducible refine u_iL ?_ | with_reducible refine u_iT ?_ | with_reducible refine u_iE ?_ | with_reducible refine u_iZ ?_ | with_reducible refine u_iZ2 ?_ | with_reducible refine u_iZ3 ?_ | with_reducible refine u_iR1 ?_ | with_reducible refine u_iR2 ?_ | with_reducible refine u_sub ?_ | with_reducible refine u_isA_int ?_ | with_reducible refine u_isA_bool ?_ | with_reducible refine u_int1 ?_ | with_reducible refine u_intB ?_ | with_reducible refine u_min2 ?_ | with_reducible refine u_kw ?_ | with_reducible refine w_yes ?_ | with_reducible refine u_srt ?_ | with_reducible refine u_yt ?_ | with_reducible refine u_yf ?_)
local macro_rules | `(tactic| walk_at "go") => `(tactic| repeat walk_at "sl1")
/-- all spots of so many rounds -/
def turnAt (pls : List (List Int)) (t : Int) : List Spot := pls.map fun p => (t, p)
def spotsOf (r : Int) (pls : List (List Int)) : List Spot := (List.range r.toNat).flatMap fun (i : Nat) => turnAt pls (1 + (i : Int))
section
variable {K : PySem.W.Frag} {σ : L2.St} {B H : Hp} {Q : VK} {D : Ends}
theorem SpL.len {H : Hp} {a : Addr} {ps : List Spot} (h : SpL H a ps) {vs : List V} (e : H a = some (.lst vs)) : vs.length = ps.length := by
  obtain ⟨us, e', q⟩ := h
  rw [e] at e'
  cases e'
  exact prLen q
/-- [(turn, place) for place in places] -/
theorem lc_turn {t : Int} {x0 x1 x3 : Option V} {l : Addr} {pls : List (List Int)} (hl : PlL H l pls) (hn : pls.length ≤ 1000)
    (q : ∀ p H', H p = none → Same H H' → SpL H' p (turnAt pls t) → Q (.ref p) H') : rLc (gName 3) tYes (tTupO (tCons (tVar 2) (tCons (tVar 3) tNil))) [3] [x0, x1, some (.int t), x3] (Itl K l) H Q := by
  obtain ⟨vs, e, pv⟩ := hl
  have lv : vs.length = pls.length := prLen pv
  refine lc_by (walk_list (xs := vs)) (Same H) (fun i acc H' => Paired (IsSp H') acc (turnAt (pls.take i) t)) (small_line (by omega)) (fun D H1 H2 hD s b => sS hD s b) (Same.refl H) (fun H' s => by rw [List.take_zero]; exact .nil) (fun i acc H' _ s _ => SqL.of (s _ _ e)) ?_ ?_
  · intro D i x acc H2 H1 R N put skip hD hi s1 pacc e1 y
    obtain ⟨rfl, hx⟩ := y
    obtain ⟨p, hp, hP⟩ := prAt1 pv hx
    refine w_name ⟨rfl, ?_⟩
    walk_at "go"
    refine u_tupn l2 fun a H3 ha s3 e3 => ?_
    refine put _ _ (s3 _ _ e1) (s1.trans s3) fun H4 b4 t4 s4 => ?_
    rw [take_succ_of hp]
    unfold turnAt
    rw [List.map_append]
    exact prApp (sps_mono ((TK.of s3).trans t4) pacc) (.cons ⟨a, x, rfl, t4 _ _ e3, (hP.mono (TK.of (s1.trans s3))).mono t4⟩ .nil)
  · intro D acc H1 hD e1 s1 pacc
    rw [lv, List.take_length] at pacc
    exact q D H1 hD s1 ⟨acc, e1, pacc⟩
theorem turnAt_len (pls : List (List Int)) (t : Int) : (turnAt pls t).length = pls.length := by simp [turnAt]
theorem spots_len (n : Nat) (pls : List (List Int)) : ((List.range n).flatMap fun (i : Nat) => turnAt pls (1 + (i : Int))).length = n * pls.length := by
  induction n with
  | zero => simp
  | succ n ih =>
    rw [List.range_succ, List.flatMap_append, List.length_append, ih, List.flatMap_singleton, turnAt_len, Nat.succ_mul]
/-- for turn in range(1, r + 1): found.extend(..) -/
theorem for_spots {I : TI} {pls : List (List Int)} {x0 x2 x3 : Option V} {f : Addr} {n : Nat} (hB : Same B H) (hf : B f = none) (e : H f = some (.lst [])) (hp : pls.length ≤ 1000) (hn : n ≤ 100)
    (hI : ∀ x2 x3 H' R, Same B H' → (∀ l H2, H' l = none → Same H' H2 → PlL H2 l pls → R (Itl K l) H2) → I [x0, some (.ref f), x2, x3] H' R)
    (q : ∀ y2 y3 H', Same B H' → SpL H' f ((List.range n).flatMap fun (i : Nat) => turnAt pls (1 + (i : Int))) → D.nx [x0, some (.ref f), y2, y3] H') :
    rFor (gName 2) (tDrop (tBM K "list" rExtO (tVar 1) (tCons (tLc I (gName 3) tYes (tTupO (tCons (tVar 2) (tCons (tVar 3) tNil))) [3]) tNil))) D [x0, some (.ref f), x2, x3] (Itr 1 n) H := by
  refine for_by walk_rl (fun i σ H' => ∃ x2 x3, σ = [x0, some (.ref f), x2, x3] ∧ Same B H' ∧ SpL H' f ((List.range i).flatMap fun (i : Nat) => turnAt pls (1 + (i : Int)))) ⟨_, _, rfl, hB, [], e, .nil⟩ (fun _ _ _ _ _ => trivial) ?_ ?_
  · rintro i x σ H2 H1 hi ⟨x2, x3, rfl, s1, vs, e1, p1⟩ ⟨rfl, rfl⟩
    have lv : vs.length = i * pls.length := (prLen p1).trans (spots_len i pls)
    have lb : i * pls.length ≤ 100 * 1000 := Nat.mul_le_mul (by omega) hp
    walk_at "go"
    refine u_bmL e1 ?_
    walk_at "go"
    refine hI _ _ _ _ s1 fun l H2 hl s2 hpl => ?_
    refine lc_turn hpl hp fun c H3 hc s3 h3 => ?_
    walk_at "go"
    obtain ⟨ws, ew, pw⟩ := h3
    have lw : ws.length = pls.length := (prLen pw).trans (turnAt_len _ _)
    refine u_ext (s3 _ _ (s2 _ _ e1)) ew (Nat.le_trans (show vs.length + ws.length ≤ 200000 by omega) (by decide)) fun H4 b4 t4 n4 e4 => ?_
    walk_at "go"
    refine ⟨_, _, rfl, (s1.trans (s2.trans s3)).but b4 hf, _, e4, ?_⟩
    rw [List.range_succ, List.flatMap_append, List.flatMap_singleton]
    exact prApp (sps_mono ((TK.of (s2.trans s3)).trans t4) p1) (sps_mono t4 pw)
  · rintro σ H1 ⟨x2, x3, rfl, s1, h1⟩
    exact q _ _ H1 s1 h1
end
/-- a job -/
structure Jb where
  es : List (Int × Rk)
  tks : List Spot
  r : Int
structure JbOk (J : Jb) : Prop where
  gr : GrOk J.es
  r0 : 0 ≤ J.r
  r12 : J.r ≤ 12
  few : J.tks.length ≤ 3
  len : ∀ t ∈ J.tks, t.2.length = J.es.length
  pls : (placesOf (szs J.es)).length ≤ 40
def Jb.pls (J : Jb) : List (List Int) := placesOf (szs J.es)
def Jb.spots (J : Jb) : List Spot := spotsOf J.r J.pls
def jfs (g : Addr) (tmv : V) (l : Addr) (vm : V) (r : Int) (vf : V) : List (Str × V) := [("grid", .ref g), ("term", tmv), ("taken", .ref l), ("modulus", vm), ("rounds", .int r), ("first", vf)]
def IsJob (K : PySem.W.Frag) (H : Hp) (a : Addr) (J : Jb) : Prop := ∃ dx g tmv l vm vf, H a = some (.ins (He.ga K "Job") dx (jfs g tmv l vm J.r vf)) ∧ IsGrid K H g J.es ∧ SpL H l J.tks
theorem IsJob.mono {K : PySem.W.Frag} {H H' : Hp} {a : Addr} {J : Jb} (s : Same H H') (h : IsJob K H a J) : IsJob K H' a J :=
  let ⟨dx, g, tmv, l, vm, vf, h1, h2, h3⟩ := h
  ⟨dx, g, tmv, l, vm, vf, s _ _ h1, h2.mono s, h3.mono s⟩
theorem j_grid {g l : Addr} {tmv vm vf : V} {r : Int} : (jfs g tmv l vm r vf).lookup ("grid" : Str) = some (.ref g) := lkS
theorem j_taken {g l : Addr} {tmv vm vf : V} {r : Int} : (jfs g tmv l vm r vf).lookup ("taken" : Str) = some (.ref l) := (lkN (by decide)).trans ((lkN (by decide)).trans lkS)
theorem j_rounds {g l : Addr} {tmv vm vf : V} {r : Int} : (jfs g tmv l vm r vf).lookup ("rounds" : Str) = some (.int r) := (lkN (by decide)).trans ((lkN (by decide)).trans ((lkN (by decide)).trans ((lkN (by decide)).trans lkS)))
def jbNames : List Str := ["deep", "all_spots", "is_spot", "where_of", "reads_of"]
theorem j_no {g l : Addr} {tmv vm vf : V} {r : Int} {m : Str} (hm : m ∈ jbNames) : (jfs g tmv l vm r vf).lookup m = none := by
  have e : jbNames.all (fun m => !(m == ("grid" : Str)) && !(m == ("term" : Str)) && !(m == ("taken" : Str)) && !(m == ("modulus" : Str)) && !(m == ("rounds" : Str)) && !(m == ("first" : Str))) = true := by decide +kernel
  have q := List.all_eq_true.mp e m hm
  simp only [Bool.and_eq_true, Bool.not_eq_true'] at q
  obtain ⟨⟨⟨⟨⟨q1, q2⟩, q3⟩, q4⟩, q5⟩, q6⟩ := q
  exact (lkN q1).trans ((lkN q2).trans ((lkN q3).trans ((lkN q4).trans ((lkN q5).trans ((lkN q6).trans rfl)))))
/-- the greatest of so many backs, one if there are none -/
def IsDeep (ts : List Spot) (d : Int) : Prop := (ts = [] ∧ d = 1) ∨ (d ∈ ts.map (·.1) ∧ ∀ y ∈ ts.map (·.1), y ≤ d)
/-- what a take reads -/
inductive Wh | rim | spot (s : Spot) | first
def whOf (es : List (Int × Rk)) (s t : Spot) : Wh := match bsd es s.2 t.2 [] with
  | none => .rim
  | some pl => if s.1 - t.1 > 0 then .spot (s.1 - t.1, pl) else .first
def IsWh (H : Hp) (v : V) : Wh → Prop
  | .rim => ∃ a y, v = .ref a ∧ H a = some (.tup [.str "rim", y])
  | .spot s => ∃ a y, v = .ref a ∧ H a = some (.tup [.str "spot", y]) ∧ IsSp H y s
  | .first => ∃ a y, v = .ref a ∧ H a = some (.tup [.str "first", y])
theorem IsWh.mono {H H' : Hp} {v : V} {x : Wh} (t : TK H H') (h : IsWh H v x) : IsWh H' v x := by
  cases x with
  | rim => obtain ⟨a, y, e, q⟩ := h; exact ⟨a, y, e, t _ _ q⟩
  | spot s => obtain ⟨a, y, e, q, r⟩ := h; exact ⟨a, y, e, t _ _ q, r.mono t⟩
  | first => obtain ⟨a, y, e, q⟩ := h; exact ⟨a, y, e, t _ _ q⟩
section
variable {P : Program} {w : World} {K : PySem.W.Frag} {mg : Str → Option Value} {base : Heap}
def spDeep (K : PySem.W.Frag) : Sp := SpF (fun a : Addr => [.ref a]) fun a H Q => ∃ dx fs l ts, H a = some (.ins (He.ga K "Job") dx fs) ∧ fs.lookup ("taken" : Str) = some (V.ref l) ∧ SpL H l ts ∧ ts.length ≤ 1000 ∧ ∀ d H', IsDeep ts d → Same H H' → Q (.int d) H'
theorem ok_deep (T : Txt K mg) : Met P w K mg base 1 (He.ga K "Job") "deep" (spDeep K) := by
  refine .of (.of (F_Job_deep T) sc_Job_deep (b_Job_deep T) (spf_len fun _ => rfl) fun cdv A outer s H vs Q E hr h => ?_) (cls_Job T) (meth_Job_deep T)
  have nd := sc_Job_deep.nd
  have hu := hr.h
  obtain ⟨a, rfl, dx, fs, l, ts, h, hl, ⟨us, e, pu⟩, hlen, q⟩ := h
  have lu : us.length = ts.length := prLen pu
  refine ⟨_, (pss_one (ps_ret (pe_callBK (cr_maxDf rfl hu) (by rfl) (free_max T) (by decide +kernel) (pa_cons (pe_lc (own := [("back", 1), ("steps", 2)]) (g := (gTup K 2 (gCons (gName 1) (gCons (gName 2) gNil)))) (tt := tYes)  rfl nd (pi_list (pe_fld (pv 0) rfl)) (blkOk_by (N := ["self", "back", "steps"]) (sc := (defScope s_Job_deep)) (by decide +kernel)) (fun _ _ _ _ _ => (pg_tup rfl (pgs_cons (pg_name (i := 1) nd rfl (Or.inl rfl)) (pgs_cons (pg_name (i := 2) nd rfl (Or.inl rfl)) pgs_nil)))) (fun _ _ _ _ _ => pts_nil) (fun _ _ _ _ _ => (pv 1))) pa_nil) (pk_cons pe_int pk_nil)))), ?_⟩
  walk_at "go"
  refine u_ins h (cls_Job T) (noat_Job_taken T) hl ?_
  refine u_iLi (SqL.of e) ?_
  refine lc_by (walk_list (xs := us)) (Same H) (fun i acc H' => acc = ((ts.take i).map fun t => t.1).map V.int) (small_line (by omega)) (fun D H1 H2 hD s b => sS hD s b) (Same.refl H) (fun H' s => rfl) (fun i acc H' _ s _ => SqL.of (s _ _ e)) ?_ ?_
  · intro D i x acc H2 H1 R N put skip hD hi s1 hacc e1 y
    obtain ⟨rfl, hx⟩ := y
    obtain ⟨t, ht, hS⟩ := prAt1 pu hx
    obtain ⟨b, p, rfl, hb, hp⟩ := hS.mono (TK.of s1)
    refine w_two hb ⟨rfl, ?_⟩
    walk_at "go"
    refine put _ _ e1 s1 fun H5 _ _ _ => ?_
    rw [hacc, take_succ_of ht]
    simp
  · intro D acc H1 hD e1 s1 hacc
    rw [lu, List.take_length] at hacc
    subst hacc
    walk_at "go"
    refine ⟨D, _, 1, rfl, rfl, SqL.of e1, fun e => q 1 H1 (.inl ⟨by simpa using e, rfl⟩) s1, fun m hm hmax => q m H1 (.inr ⟨hm, hmax⟩) s1⟩
def spAllSp (K : PySem.W.Frag) : Sp := SpF (fun a : Addr => [.ref a]) fun a H Q => ∃ J, IsJob K H a J ∧ JbOk J ∧ ∀ p H', H p = none → Same H H' → SpL H' p J.spots → Q (.ref p) H'
theorem ok_all_spots (T : Txt K mg) : Met P w K mg base 2 (He.ga K "Job") "all_spots" (spAllSp K) := by
  refine .of (.of (F_Job_all_spots T) sc_Job_all_spots (b_Job_all_spots T) (spf_len fun _ => rfl) fun cdv A outer s H vs Q E hr h => ?_) (cls_Job T) (meth_Job_all_spots T)
  have nd := sc_Job_all_spots.nd
  have m_all_places := ok_all_places (P := P) (w := w) (base := base) T
  obtain ⟨a, rfl, J, ⟨dx, g, tmv, l, vm, vf, h, hg, hl⟩, o, q⟩ := h
  have o1 := o.r0
  have o2 := o.r12
  have o3 := o.pls
  refine ⟨_, (pss_cons (ps_set (i := 1) nd rfl (Or.inl rfl) (pe_lstO pa_nil))
    (pss_cons (ps_for PassesOwn.never rfl (pi_range2 (by rfl) (free_range T) (pa_cons pe_int (pa_cons (pe_op op_add (pe_fld (pv 0) rfl) pe_int) pa_nil))) (pg_name (i := 2) nd rfl (Or.inr rfl)) (pss_one (ps_expr (pe_bm PySem.F.plainAttrs_list PySem.F.slot_list_extend PySem.F.type_list_extend mt_extO (pv 1) (pa_cons (pe_lc (own := [("place", 3)]) (g := (gName 3)) (tt := tYes)  rfl nd (pi_list (pe_m0 m_all_places hr (pe_fld (pv 0) rfl))) (blkOk_by (N := ["self", "found", "turn", "place"]) (sc := (defScope s_Job_all_spots)) (by decide +kernel)) (fun _ _ _ _ _ => (pg_name (i := 3) nd rfl (Or.inl rfl))) (fun _ _ _ _ _ => pts_nil) (fun _ _ _ _ _ => (pe_tupO (pa_cons (pv 2) (pa_cons (pv 3) pa_nil))))) pa_nil)))))
    (pss_one (ps_ret (pv 1))))), ?_⟩
  walk_at "go"
  refine u_lstn l0 fun f H1 hf s1 e1 => ?_
  walk_at "go"
  refine u_ins (s1 _ _ h) (cls_Job T) (noat_Job_rounds T) j_rounds ?_
  walk_at "go"
  refine u_iR2i (by omega) ?_
  have er : J.r + 1 - 1 = J.r := by omega
  rw [er]
  refine for_spots (pls := J.pls) s1 hf e1 (Nat.le_trans o3 (by decide)) (by omega) (fun x2 x3 H' R sB k => ?_) fun y2 y3 H' sB hsp => ?_
  · walk_at "go"
    refine u_ins (sB _ _ h) (cls_Job T) (noat_Job_grid T) j_grid ?_
    have G := hg.mono sB
    obtain ⟨gdx, gls, gle, gvr, gve, h1, h2⟩ := id G
    refine u_m1i h1 (g_no (by decide) (by decide) (by decide)) ?_
    walk_at "go"
    refine ⟨g, rfl, J.es, G, o.gr, fun p H2 hp s2 hpl => ?_⟩
    obtain ⟨us, eu, pu⟩ := id hpl
    exact u_iLi (SqL.of eu) (k p H2 hp s2 hpl)
  · walk_at "go"
    exact q f H' hf sB hsp
/-- a spot of the job -/
def InJ (J : Jb) (s : Spot) : Prop := 1 ≤ s.1 ∧ s.1 ≤ J.r ∧ InB J.es s.2
def spIsSp (K : PySem.W.Frag) : Sp := SpF (fun x : Addr × V => [.ref x.1, x.2]) fun x H Q => ∃ J s, IsJob K H x.1 J ∧ JbOk J ∧ IsSp H x.2 s ∧ InJ J s ∧ ∀ H', Same H H' → Q (.bl true) H'
theorem ok_is_spot (T : Txt K mg) : Met P w K mg base 4 (He.ga K "Job") "is_spot" (spIsSp K) := by
  refine .of (.of (F_Job_is_spot T) sc_Job_is_spot (b_Job_is_spot T) (spf_len fun _ => rfl) fun cdv A outer s H vs Q E hr h => ?_) (cls_Job T) (meth_Job_is_spot T)
  have nd := sc_Job_is_spot.nd
  have c_is_between := ok_is_between (P := P) (w := w) (base := base) T
  have m_has_place := ok_has (P := P) (w := w) (base := base) T
  obtain ⟨⟨a, v⟩, rfl, J, s, ⟨dx, g, tmv, l, vm, vf, h, hg, hl⟩, o, ⟨b, p, e, hb, hp⟩, ⟨i1, i2, i3⟩, q⟩ := h
  dsimp only at e q
  subst e
  refine ⟨_, (pss_cons (ps_if (PW.pt (pw_or (pt_not (pt_val (pe_callB cr_isA (by rfl) (free_isinstance T) (by decide +kernel) (pa_cons (pv 1) (pa_cons (pe_bltn (v := .ty "tuple") (by rfl) (free_tuple T) (by decide +kernel) rfl) pa_nil))))) (pw_or1 (pt_cmpR op_ne (pe_callB cr_lenO (by rfl) (free_len T) PySem.boot_len (pa_cons (pv 1) pa_nil)) pe_int (nomark _))))) (pss_one (ps_ret pe_bl)) pss_nil)
    (pss_one (ps_ret (pe_and (pe_c c_is_between hr (by rfl) (pa_cons (pe_ix ix_tup (pv 1) pe_int (fun _ _ => rfl)) (pa_cons pe_int (pa_cons (pe_fld (pv 0) rfl) pa_nil)))) (pe_one (pe_m m_has_place hr (pe_fld (pv 0) rfl) (pa_cons (pe_ix ix_tup (pv 1) pe_int (fun _ _ => rfl)) pa_nil))))))), ?_⟩
  walk_at "go"
  refine u_isA_tup hb ?_
  walk_at "go"
  refine u_lenT hb ?_
  walk_at "go"
  refine u_ifF (by rfl) ?_
  walk_at "go"
  refine w_ixT (n := 0) hb rfl ?_
  walk_at "go"
  refine u_ins h (cls_Job T) (noat_Job_rounds T) j_rounds ?_
  walk_at "go"
  refine ⟨(s.1, 1, J.r), rfl, ?_⟩
  refine u_andVT ?_ ?_
  · show (decide ((1 : Int) ≤ s.1) && decide (s.1 ≤ J.r)) = true
    rw [decide_eq_true i1, decide_eq_true i2]
    rfl
  walk_at "go"
  refine u_ins h (cls_Job T) (noat_Job_grid T) j_grid ?_
  obtain ⟨gdx, gls, gle, gvr, gve, h1, h2⟩ := id hg
  refine u_m1i h1 (g_no (by decide) (by decide) (by decide)) ?_
  walk_at "go"
  refine w_ixT (n := 1) hb rfl ?_
  walk_at "go"
  exact ⟨(g, p), rfl, J.es, s.2, hg, hp, o.gr, i3, q⟩
def spWhere (K : PySem.W.Frag) : Sp := SpF (fun x : Addr × V × V => [.ref x.1, x.2.1, x.2.2]) fun x H Q => ∃ J s t, IsJob K H x.1 J ∧ JbOk J ∧ IsSp H x.2.1 s ∧ IsSp H x.2.2 t ∧ s.2.length = J.es.length ∧ t.2.length = J.es.length ∧ ∀ v H', Same H H' → IsWh H' v (whOf J.es s t) → Q v H'
theorem ok_where (T : Txt K mg) : Met P w K mg base 3 (He.ga K "Job") "where_of" (spWhere K) := by
  refine .of (.of (F_Job_where_of T) sc_Job_where_of (b_Job_where_of T) (spf_len fun _ => rfl) fun cdv A outer s H vs Q E hr h => ?_) (cls_Job T) (meth_Job_where_of T)
  have nd := sc_Job_where_of.nd
  have m_beside := ok_beside (P := P) (w := w) (base := base) T
  obtain ⟨⟨a, v1, v2⟩, rfl, J, s, t, ⟨dx, g, tmv, l, vm, vf, h, hg, hl⟩, o, ⟨b, p, e, hb, hp⟩, ⟨c, r, e', hc, hr'⟩, k1, k2, q⟩ := h
  dsimp only at e e' q
  subst e e'
  refine ⟨_, (pss_cons (ps_asg (pe_m m_beside hr (pe_fld (pv 0) rfl) (pa_cons (pe_ix ix_tup (pv 1) pe_int (fun _ _ => rfl)) (pa_cons (pe_ix ix_tup (pv 2) pe_int (fun _ _ => rfl)) pa_nil))) (pg_tup rfl (pgs_cons (pg_name (i := 3) nd rfl (Or.inl rfl)) (pgs_cons (pg_name (i := 4) nd rfl (Or.inl rfl)) pgs_nil))))
    (pss_cons (ps_if (pt_cmpR op_eq (pv 3) pe_str (nomark _)) (pss_one (ps_ret (pe_tupO (pa_cons (pv 3) (pa_cons (pv 4) pa_nil))))) pss_nil)
    (pss_cons (ps_set (i := 5) nd rfl (Or.inl rfl) (pe_op op_sub (pe_ix ix_tup (pv 1) pe_int (fun _ _ => rfl)) (pe_ix ix_tup (pv 2) pe_int (fun _ _ => rfl))))
    (pss_cons (ps_if (pt_cmpR op_gt (pv 5) pe_int (nomark _)) (pss_one (ps_ret (pe_tupO (pa_cons pe_str (pa_cons (pe_tupO (pa_cons (pv 5) (pa_cons (pv 4) pa_nil))) pa_nil))))) pss_nil)
    (pss_one (ps_ret (pe_tupO (pa_cons pe_str (pa_cons (pe_tupO (pa_cons (pv 5) (pa_cons (pv 4) pa_nil))) pa_nil))))))))), ?_⟩
  walk_at "go"
  refine u_ins h (cls_Job T) (noat_Job_grid T) j_grid ?_
  obtain ⟨gdx, gls, gle, gvr, gve, h1, h2⟩ := id hg
  refine u_m1i h1 (g_no (by decide) (by decide) (by decide)) ?_
  walk_at "go"
  refine w_ixT (n := 1) hb rfl ?_
  walk_at "go"
  refine w_ixT (n := 1) hc rfl ?_
  walk_at "go"
  refine ⟨(g, p, r), rfl, J.es, s.2, t.2, hg, hp, hr', o.gr, k1, k2, fun v H1 s1 hB => ?_⟩
  unfold whOf at q
  cases hbs : bsd J.es s.2 t.2 [] with
  | none =>
    rw [hbs] at hB q
    obtain ⟨z, rfl, hz⟩ := hB
    refine w_two hz ?_
    walk_at "go"
    refine u_ifT (by decide) ?_
    walk_at "go"
    exact u_tupn l2 fun p2 H2 hp2 s2 e2 => q _ H2 (s1.trans s2) ⟨p2, _, rfl, e2⟩
  | some pl =>
    rw [hbs] at hB q
    obtain ⟨z, y, rfl, hz, hpl⟩ := hB
    refine w_two hz ?_
    walk_at "go"
    refine u_ifF (by decide) ?_
    walk_at "go"
    refine w_ixT (n := 0) (s1 _ _ hb) rfl ?_
    walk_at "go"
    refine w_ixT (n := 0) (s1 _ _ hc) rfl ?_
    walk_at "go"
    have q' : ∀ v H', Same H H' → IsWh H' v (if s.1 - t.1 > 0 then Wh.spot (s.1 - t.1, pl) else Wh.first) → Q v H' := q
    refine u_if2 (fun c => ?_) fun c => ?_
    · rw [if_pos (of_decide_eq_true c)] at q'
      walk_at "go"
      refine u_tupn l2 fun p2 H2 hp2 s2 e2 => ?_
      walk_at "go"
      refine u_tupn l2 fun p3 H3 hp3 s3 e3 => q' _ H3 (s1.trans (s2.trans s3)) ⟨p3, _, rfl, e3, p2, y, rfl, s3 _ _ e2, hpl.mono (TK.of (s2.trans s3))⟩
    · rw [if_neg (of_decide_eq_false c)] at q'
      walk_at "go"
      refine u_tupn l2 fun p2 H2 hp2 s2 e2 => ?_
      walk_at "go"
      refine u_tupn l2 fun p3 H3 hp3 s3 e3 => q' _ H3 (s1.trans (s2.trans s3)) ⟨p3, _, rfl, e3⟩
/-- what a spot reads -/
def RdL (es : List (Int × Rk)) (s : Spot) (ts : List Spot) (H : Hp) (a : Addr) : Prop := ∃ vs, H a = some (.lst vs) ∧ Paired (fun v t => ∃ b x y, v = V.ref b ∧ H b = some (.tup [x, y]) ∧ IsWh H y (whOf es s t)) vs ts
def spReads (K : PySem.W.Frag) : Sp := SpF (fun x : Addr × V => [.ref x.1, x.2]) fun x H Q => ∃ J s, IsJob K H x.1 J ∧ JbOk J ∧ IsSp H x.2 s ∧ s.2.length = J.es.length ∧ ∀ p H', H p = none → Same H H' → RdL J.es s J.tks H' p → Q (.ref p) H'
theorem ok_reads (T : Txt K mg) : Met P w K mg base 4 (He.ga K "Job") "reads_of" (spReads K) := by
  refine .of (.of (F_Job_reads_of T) sc_Job_reads_of (b_Job_reads_of T) (spf_len fun _ => rfl) fun cdv A outer s H vs Q E hr h => ?_) (cls_Job T) (meth_Job_reads_of T)
  have nd := sc_Job_reads_of.nd
  have m_where_of := ok_where (P := P) (w := w) (base := base) T
  obtain ⟨⟨a, v⟩, rfl, J, s, hJ, o, hs, k1, q⟩ := h
  obtain ⟨dx, g, tmv, l, vm, vf, h, hg, us, e, pu⟩ := id hJ
  have lu : us.length = J.tks.length := prLen pu
  have o1 := o.few
  refine ⟨_, (pss_one (ps_ret (pe_lc (own := [("take", 2)]) (g := (gName 2)) (tt := tYes)  rfl nd (pi_list (pe_fld (pv 0) rfl)) (blkOk_by (N := ["self", "spot", "take"]) (sc := (defScope s_Job_reads_of)) (by decide +kernel)) (fun _ _ _ _ _ => (pg_name (i := 2) nd rfl (Or.inl rfl))) (fun _ _ _ _ _ => pts_nil) (fun _ _ _ _ _ => (pe_tupO (pa_cons (pv 2) (pa_cons (pe_m m_where_of hr (pv 0) (pa_cons (pv 1) (pa_cons (pv 2) pa_nil))) pa_nil))))))), ?_⟩
  walk_at "go"
  refine u_ins h (cls_Job T) (noat_Job_taken T) j_taken ?_
  refine u_iLi (SqL.of e) ?_
  refine lc_by (walk_list (xs := us)) (Same H) (fun i acc H' => Paired (fun v t => ∃ b x y, v = V.ref b ∧ H' b = some (.tup [x, y]) ∧ IsWh H' y (whOf J.es s t)) acc (J.tks.take i)) (small_line (by omega)) (fun D H1 H2 hD s b => sS hD s b) (Same.refl H) (fun H' s => by rw [List.take_zero]; exact .nil) (fun i acc H' _ s _ => SqL.of (s _ _ e)) ?_ ?_
  · intro D i x acc H2 H1 R N put skip hD hi s1 pacc e1 y
    obtain ⟨rfl, hx⟩ := y
    obtain ⟨t, ht, hS⟩ := prAt1 pu hx
    refine w_name ⟨rfl, ?_⟩
    walk_at "go"
    refine u_m1i (s1 _ _ h) (j_no (by decide)) ?_
    walk_at "go"
    refine ⟨(a, v, x), rfl, J, s, t, hJ.mono s1, o, hs.mono (TK.of s1), hS.mono (TK.of s1), k1, o.len t (List.mem_of_getElem? ht), fun y H3 s3 hW => ?_⟩
    walk_at "go"
    refine u_tupn l2 fun b H4 hb s4 e4 => ?_
    refine put _ _ (s4 _ _ (s3 _ _ e1)) (s1.trans (s3.trans s4)) fun H5 b5 t5 s5 => ?_
    rw [take_succ_of ht]
    have t35 := (TK.of (s3.trans s4)).trans t5
    refine prApp (prImp (fun v t z => ?_) pacc) (.cons ⟨b, x, y, rfl, t5 _ _ e4, hW.mono ((TK.of s4).trans t5)⟩ .nil)
    obtain ⟨b, x, y, e, h1, h2⟩ := z
    exact ⟨b, x, y, e, t35 _ _ h1, h2.mono t35⟩
  · intro D acc H1 hD e1 s1 pacc
    rw [lu, List.take_length] at pacc
    exact q D H1 hD s1 ⟨acc, e1, pacc⟩
/-! ### leans_of -/
/-- the spots that a spot reads, take by take -/
def lnP (es : List (Int × Rk)) (ts : List Spot) (s : Spot) : List Spot := ts.filterMap fun t => match whOf es s t with
  | .spot x => some x
  | _ => none
theorem lnP_at {es : List (Int × Rk)} {ts : List Spot} {s t : Spot} {i : Nat} (h : ts[i]? = some t) : lnP es (ts.take (i + 1)) s = lnP es (ts.take i) s ++ (match whOf es s t with | .spot x => [x] | _ => []) := by
  unfold lnP
  rw [take_succ_of h, List.filterMap_append]
  congr 1
  cases e : whOf es s t <;> simp [e]
def spLeans (K : PySem.W.Frag) : Sp := SpF (fun x : Addr × V => [.ref x.1, x.2]) fun x H Q => ∃ J s, IsJob K H x.1 J ∧ JbOk J ∧ IsSp H x.2 s ∧ s.2.length = J.es.length ∧ ∀ p H' ts, H p = none → Same H H' → SpL H' p ts → ts.length ≤ 4 → (∀ x, x ∈ ts ↔ x ∈ lnP J.es J.tks s) → Q (.ref p) H'
theorem ok_leans (T : Txt K mg) : Cal P w K mg base 5 "leans_of" (spLeans K) := by
  refine .of (.of (F_leans_of T) sc_leans_of (b_leans_of T) (spf_len fun _ => rfl) fun cdv A outer s H vs Q E hr h => ?_) (glo_leans_of T)
  have nd := sc_leans_of.nd
  have hu := hr.h
  have m_reads_of := ok_reads (P := P) (w := w) (base := base) T
  obtain ⟨⟨a, v⟩, rfl, J, s, hJ, o, hs, k1, q⟩ := h
  obtain ⟨dx, g, tmv, l, vm, vf, h, hg, hl⟩ := id hJ
  have o1 := o.few
  refine ⟨_, (pss_one (ps_ret (pe_srtset (by rfl) (free_sorted T) (by rfl) (free_set T) (pe_lc (own := [("take", 3), ("where", 2)]) (g := (gTup K 2 (gCons (gName 3) (gCons (gName 2) gNil))))  rfl nd (pi_list (pe_m m_reads_of hr (pv 0) (pa_cons (pv 1) pa_nil))) (blkOk_by (N := ["job", "spot", "where", "take"]) (sc := (defScope s_leans_of)) (by decide +kernel)) (fun _ _ _ _ _ => (pg_tup rfl (pgs_cons (pg_name (i := 3) nd rfl (Or.inl rfl)) (pgs_cons (pg_name (i := 2) nd rfl (Or.inl rfl)) pgs_nil)))) (fun _ _ _ _ _ => (pts_one (pt_cmpR op_eq (pe_ix (ix_tupK (K := K) rfl) (pv 2) pe_int (fun _ _ => rfl)) pe_str (nomark _)))) (fun _ _ _ _ _ => (pe_ix (ix_tupK (K := K) rfl) (pv 2) pe_int (fun _ _ => rfl)))) hu))), ?_⟩
  walk_at "go"
  refine u_m1i h (j_no (by decide)) ?_
  walk_at "go"
  refine ⟨(a, v), rfl, J, s, hJ, o, hs, k1, fun c H1 hc s1 hR => ?_⟩
  obtain ⟨us, e, pu⟩ := hR
  have lu : us.length = J.tks.length := prLen pu
  refine u_iLi (SqL.of e) ?_
  refine lc_by (walk_list (xs := us)) (Same H1) (fun i acc H' => Paired (IsSp H') acc (lnP J.es (J.tks.take i) s)) (small_line (by omega)) (fun D H1 H2 hD s b => sS hD s b) (Same.refl H1) (fun H' s => by rw [List.take_zero]; exact .nil) (fun i acc H' _ s _ => SqL.of (s _ _ e)) ?_ ?_
  · intro D i x acc H3 H2 R N put skip hD hi s2 pacc e2 y
    obtain ⟨rfl, hx⟩ := y
    obtain ⟨t, ht, b, x1, y1, rfl, hb, hW⟩ := prAt1 pu hx
    refine w_two (s2 _ _ hb) ⟨rfl, ?_⟩
    have la := lnP_at (es := J.es) (s := s) ht
    have hW2 := hW.mono (TK.of s2)
    walk_at "go"
    cases hw : whOf J.es s t with
    | rim =>
      rw [hw] at hW2 la
      obtain ⟨z, y, rfl, hz⟩ := hW2
      refine w_ixT (n := 0) hz rfl ?_
      walk_at "go"
      refine u_y2 (fun c => absurd c (by decide)) fun c => ?_
      exact skip _ e2 s2 (by rw [la]; simpa using pacc)
    | first =>
      rw [hw] at hW2 la
      obtain ⟨z, y, rfl, hz⟩ := hW2
      refine w_ixT (n := 0) hz rfl ?_
      walk_at "go"
      refine u_y2 (fun c => absurd c (by decide)) fun c => ?_
      exact skip _ e2 s2 (by rw [la]; simpa using pacc)
    | spot x =>
      rw [hw] at hW2 la
      obtain ⟨z, y, rfl, hz, hy⟩ := hW2
      refine w_ixT (n := 0) hz rfl ?_
      walk_at "go"
      refine u_y2 (fun c => ?_) fun c => absurd c (by decide)
      walk_at "go"
      refine w_ixT (n := 1) hz rfl ?_
      refine put _ _ e2 s2 fun H5 b5 t5 s5 => ?_
      rw [la]
      exact prApp (sps_mono t5 pacc) (.cons (hy.mono t5) .nil)
  · intro D acc H2 hD e2 s2 pacc
    rw [lu, List.take_length] at pacc
    refine ⟨D, _, rfl, ⟨acc, e2, pacc⟩, Nat.le_trans (List.length_filterMap_le _ _) o1, fun p H3 ts hp s3 hts h4 hm => ?_⟩
    exact q p H3 ts (s1.free (s2.free hp)) (s1.trans (s2.trans s3)) hts h4 hm
end
end SL
end PtD9
/-! part D10 -/
section PtD10
/-! D10: is_first, Job.__init__. -/
namespace SL
open PySem PySem.Spec PyProof.Rows L2
/-- one step that needs nothing -/
local macro_rules | `(tactic| walk_at "sl1") => `(tactic| first
  | (with_reducible refine w_varh ?_; refine ⟨_, rfl, ?_⟩) | (with_reducible refine w_rEqh ?_; refine ⟨rfl, ?_⟩) | (with_reducible refine w_rNeh ?_; refine ⟨rfl, ?_⟩)
  | with_reducible refine w_seq ?_ | with_reducible refine w_asg ?_ | with_reducible refine w_c ?_ | with_reducible refine w_op ?_ | with_reducible refine w_rI0 ?_ | with_reducible refine u_test ?_ | with_reducible refine u_tb ?_ | with_reducible refine u_bl ?_ | with_reducible refine u_ifs ?_ | with_reducible refine u_ift ?_ | with_reducible refine u_iff ?_ | with_reducible refine w_cons ?_ | with_reducible refine w_nil ?_ | with_reducible refine w_cl ?_ | with_reducible refine w_cb ?_ | with_reducible refine w_ret ?_ | with_reducible refine w_drop ?_ | with_reducible refine w_name ?_ | with_reducible refine w_next ?_
  | with_reducible refine u_fld ?_ | with_reducible refine u_tup ?_ | with_reducible refine u_lst ?_ | with_reducible refine u_not ?_ | with_reducible refine u_nott ?_ | with_reducible refine u_notf ?_ | with_reducible refine u_and ?_ | with_reducible refine u_or ?_ | with_reducible refine u_andt ?_ | with_reducible refine u_andf ?_ | with_reducible refine u_ort ?_ | with_reducible refine u_orf ?_ | with_reducible refine u_andV ?_ | with_reducible refine u_orV ?_ | with_reducible refine u_andVt ?_ | with_reducible refine u_andVf ?_ | with_reducible refine u_orVt ?_ | with_reducible refine u_orVf ?_ | with_reducible refine u_notV ?_ | with_reducible refine u_notVb ?_
  | with_reducible refine u_chain ?_ | with_reducible refine u_cht ?_ | with_reducible refine u_chf ?_ | with_reducible refine w_un ?_ | with_reducible refine w_rU ?_ | with_reducible refine w_isN ?_ | with_reducible refine w_notN ?_ | with_reducible refine u_bm ?_ | with_reducible refine u_sl ?_ | with_reducible refine u_part ?_ | with_reducible refine u_parti ?_ | with_reducible refine u_nopart ?_ | with_reducible refine u_m1 ?_ | with_reducible refine u_mt ?_ | with_reducible refine u_mk ?_ | with_reducible refine u_nget ?_ | with_reducible refine u_nin ?_ | with_reducible refine u_nput ?_ | with_reducible refine u_fldS ?_
  | with_reducible refine u_for ?_ | with_reducible refine u_lc ?_ | with_reducible refine u_iL ?_ | with_reducible refine u_iT ?_ | with_reducible refine u_iE ?_ | with_reducible refine u_iZ ?_ | with_reducible refine u_iZ2 ?_ | with_reducible refine u_iZ3 ?_ | with_reducible refine u_iR1 ?_ | with_reducible refine u_iR2 ?_ | with_reducible refine u_sub ?_ | with_reducible refine u_isA_int ?_ | with_reducible refine u_isA_bool ?_ | with_reducible refine u_int1 ?_ | with_reducible refine u_intB ?_ | with_reducible refine u_min2 ?_ | with_reducible refine u_kw ?_ | with_reducible refine w_yes ?_ | with_reducible refine u_srt ?_ | with_reducible refine u_yt ?_ | with_reducible refine u_yf ?_)
local macro_rules | `(tactic| walk_at "go") => `(tactic| repeat walk_at "sl1")
/-- the first worths: d rows of n small ints -/
def FiL (H : Hp) (f : Addr) (d n : Int) : Prop := ∃ (vs : List V) (wss : List (List Int)), H f = some (.lst vs) ∧ Paired (fun v (ws : List Int) => ∃ b, v = V.ref b ∧ H b = some (.lst (ws.map V.int))) vs wss ∧ (wss.length : Int) = d ∧ (wss.length < 1000) ∧ ∀ ws ∈ wss, (ws.length : Int) = n ∧ ws.length < 1000 ∧ ∀ x ∈ ws, 0 ≤ x ∧ x ≤ 96
theorem FiL.mono {H H' : Hp} {f : Addr} {d n : Int} (s : Same H H') (h : FiL H f d n) : FiL H' f d n := by
  obtain ⟨vs, wss, e, p, r⟩ := h
  exact ⟨vs, wss, s _ _ e, prImp (fun v ws ⟨b, e, q⟩ => ⟨b, e, s _ _ q⟩) p, r⟩
theorem FiL.but {H H' : Hp} {f t : Addr} {d n : Int} {C dx : Addr} {fs : List (Str × V)} (s : But t H H') (ht : H t = some (.ins C dx fs)) (h : FiL H f d n) : FiL H' f d n := by
  obtain ⟨vs, wss, e, p, r⟩ := h
  have nt : ∀ {a : Addr} {xs : List V}, H a = some (.lst xs) → a ≠ t := fun e z => by rw [z, ht] at e; cases e
  exact ⟨vs, wss, s _ _ e (nt e), prImp (fun v ws ⟨b, e, q⟩ => ⟨b, e, s _ _ q (nt q)⟩) p, r⟩
section
variable {P : Program} {w : World} {K : PySem.W.Frag} {mg : Str → Option Value} {base : Heap}
theorem IsGrid.but {H H' : Hp} {p g : Addr} {es : List (Int × Rk)} {C dx : Addr} (b : But p H H') (hp : H p = some (.ins C dx [])) (h : IsGrid K H g es) : IsGrid K H' g es := by
  obtain ⟨dx', ls, le, vr, ve, h1, h2, h3, h4⟩ := h
  have nl : ∀ {a : Addr} {xs : List V}, H a = some (.lst xs) → a ≠ p := fun e z => by rw [z, hp] at e; cases e
  have ni : ∀ {a C' d' : Addr} {x : Str × V} {fs : List (Str × V)}, H a = some (.ins C' d' (x :: fs)) → a ≠ p := fun e z => by rw [z, hp] at e; cases e
  refine ⟨dx', ls, le, vr, ve, b _ _ h1 (ni h1), b _ _ h2 (nl h2), b _ _ h3 (nl h3), prImp (fun v e z => ?_) h4⟩
  obtain ⟨a, d, e1, q⟩ := z
  refine ⟨a, d, e1, b _ _ q ?_⟩
  cases hr : e.2 with
  | fixed => rw [hr] at q; exact ni q
  | mirror => rw [hr] at q; exact ni q
  | round => rw [hr] at q; exact ni q
theorem ins_ne {H : Hp} {a p C C' d d' : Addr} {x : Str × V} {fs : List (Str × V)} (h : H a = some (.ins C d (x :: fs))) (hp : H p = some (.ins C' d' [])) : a ≠ p := fun z => by
  rw [z, hp] at h
  injection h with h
  injection h with _ _ h
  cases h
theorem IsTm.butI {H H' : Hp} {p C dx : Addr} (b : But p H H') (hp : H p = some (.ins C dx [])) : ∀ {tm : Tm} {v : V}, IsTm K H v tm → IsTm K H' v tm := by
  have ni : ∀ {a C' d' : Addr} {x : Str × V} {fs : List (Str × V)}, H a = some (.ins C' d' (x :: fs)) → H' a = some (.ins C' d' (x :: fs)) := fun e => b _ _ e fun z => by rw [z, hp] at e; cases e
  have nt : TK H H' := fun a xs e => b _ _ e fun z => by rw [z, hp] at e; cases e
  intro tm
  induction tm with
  | num n => rintro v ⟨a, dx, e, h⟩; exact ⟨a, dx, e, ni h⟩
  | take t => rintro v ⟨a, dx, y, e, h, p⟩; exact ⟨a, dx, y, e, ni h, p.mono nt⟩
  | add t u i1 i2 => rintro v ⟨a, dx, x, y, e, h, p, q⟩; exact ⟨a, dx, x, y, e, ni h, i1 p, i2 q⟩
  | mul t u i1 i2 => rintro v ⟨a, dx, x, y, e, h, p, q⟩; exact ⟨a, dx, x, y, e, ni h, i1 p, i2 q⟩
def spFirst : Sp := SpF (fun x : Addr × Int × Int => [.ref x.1, .int x.2.1, .int x.2.2, .int 97]) fun x H Q => FiL H x.1 x.2.1 x.2.2 ∧ ∀ H', Same H H' → Q (.bl true) H'
theorem ok_is_first (T : Txt K mg) : Cal P w K mg base 3 "is_first" spFirst := by
  refine .of (.of (F_is_first T) sc_is_first (b_is_first T) (spf_len fun _ => rfl) fun cdv A outer s H vs Q E hr h => ?_) (glo_is_first T)
  have nd := sc_is_first.nd
  have c_is_between := ok_is_between (P := P) (w := w) (base := base) T
  obtain ⟨⟨f, d, n⟩, rfl, ⟨us, wss, e, p, k1, k2, k3⟩, q⟩ := h
  have lu : us.length = wss.length := prLen p
  refine ⟨_, (pss_cons (ps_if (PW.pt (pw_or (pt_not (pt_val (pe_callB cr_isA (by rfl) (free_isinstance T) (by decide +kernel) (pa_cons (pv 0) (pa_cons (pe_bltn (v := .ty "list") (by rfl) (free_list T) (by decide +kernel) rfl) pa_nil))))) (pw_or1 (pt_cmpR op_ne (pe_callB cr_lenO (by rfl) (free_len T) PySem.boot_len (pa_cons (pv 0) pa_nil)) (pv 1) (nomark _))))) (pss_one (ps_ret pe_bl)) pss_nil)
    (pss_cons (ps_for PassesOwn.never rfl (pi_list (pv 0)) (pg_name (i := 4) nd rfl (Or.inl rfl)) (pss_cons (ps_if (PW.pt (pw_or (pt_not (pt_val (pe_callB cr_isA (by rfl) (free_isinstance T) (by decide +kernel) (pa_cons (pv 4) (pa_cons (pe_bltn (v := .ty "list") (by rfl) (free_list T) (by decide +kernel) rfl) pa_nil))))) (pw_or1 (pt_cmpR op_ne (pe_callB cr_lenO (by rfl) (free_len T) PySem.boot_len (pa_cons (pv 4) pa_nil)) (pv 2) (nomark _))))) (pss_one (ps_ret pe_bl)) pss_nil)
    (pss_one (ps_if (pt_not (pt_val (pe_callB (cr_all rfl) (by rfl) (free_all T) (by decide +kernel) (pa_cons (pe_lc (own := [("worth", 5)]) (g := (gName 5)) (tt := tYes)  rfl nd (pi_list (pv 4)) (blkOk_by (N := ["first", "deep", "many", "modulus", "row", "worth"]) (sc := (defScope s_is_first)) (by decide +kernel)) (fun _ _ _ _ _ => (pg_name (i := 5) nd rfl (Or.inl rfl))) (fun _ _ _ _ _ => pts_nil) (fun _ _ _ _ _ => (pe_c c_is_between hr (by rfl) (pa_cons (pv 5) (pa_cons pe_int (pa_cons (pe_op op_sub (pv 3) pe_int) pa_nil)))))) pa_nil)))) (pss_one (ps_ret pe_bl)) pss_nil))))
    (pss_one (ps_ret pe_bl)))), ?_⟩
  walk_at "go"
  refine u_isA_lst e ?_
  walk_at "go"
  refine u_lenL e ?_
  walk_at "go"
  refine u_ifF (by rw [lu, k1]; simp) ?_
  walk_at "go"
  refine u_iLi (SqL.of e) ?_
  refine for_by (walk_list (xs := us)) (fun i σ H' => ∃ x4 x5, σ = [some (.ref f), some (.int d), some (.int n), some (.int 97), x4, x5] ∧ Same H H') ⟨_, _, rfl, Same.refl H⟩ (fun i σ H' _ ⟨_, _, _, s⟩ => SqL.of (s _ _ e)) ?_ ?_
  · rintro i x σ H2 H1 hi ⟨x4, x5, rfl, s1⟩ ⟨rfl, hx⟩
    obtain ⟨ws, hw, b, rfl, hb⟩ := prAt1 p hx
    obtain ⟨m1, m2, m3⟩ := k3 ws (List.mem_of_getElem? hw)
    have hb1 := s1 _ _ hb
    walk_at "go"
    refine u_isA_lst hb1 ?_
    walk_at "go"
    refine u_lenL hb1 ?_
    walk_at "go"
    refine u_ifF (by rw [List.length_map, m1]; simp) ?_
    walk_at "go"
    refine u_iLi (SqL.of hb1) ?_
    refine lc_by (walk_list (xs := ws.map V.int)) (Same H1) (fun i acc H' => acc = (List.replicate i true).map V.bl) (small_line (by rw [List.length_map]; omega)) (fun D H1 H2 hD s b => sS hD s b) (Same.refl H1) (fun H' s => rfl) (fun i acc H' _ s _ => SqL.of (s _ _ hb1)) ?_ ?_
    · intro D j x acc H3 H2 R N put skip hD hj s2 hacc e2 y
      obtain ⟨rfl, hx⟩ := y
      obtain ⟨z, hz, rfl⟩ := vals_map hx
      obtain ⟨b1, b2⟩ := m3 z (List.mem_of_getElem? hz)
      refine w_name ⟨rfl, ?_⟩
      walk_at "go"
      refine ⟨(z, 0, 97 - 1), rfl, ?_⟩
      have eb : (decide ((0 : Int) ≤ z) && decide (z ≤ 97 - 1)) = true := by
        rw [decide_eq_true b1, decide_eq_true (by omega)]
        rfl
      show R (V.bl (decide ((0 : Int) ≤ z) && decide (z ≤ 97 - 1))) _
      rw [eb]
      refine put _ _ e2 s2 fun H5 _ _ _ => ?_
      subst hacc
      rw [List.replicate_succ']
      simp
    · intro D acc H2 hD e2 s2 hacc
      subst hacc
      walk_at "go"
      refine u_all e2 ?_
      have ea : ((List.replicate (ws.map V.int).length true).all id) = true := by
        rw [List.all_eq_true]
        intro b hb
        rw [(List.mem_replicate.mp hb).2]
        rfl
      rw [ea]
      walk_at "go"
      exact ⟨_, _, rfl, s1.trans s2⟩
  · rintro σ H1 ⟨x4, x5, rfl, s1⟩
    walk_at "go"
    exact q H1 s1
def spJobI (K : PySem.W.Frag) : Sp := SpF (fun x : Addr × Addr × V × Int × Addr => [.ref x.1, .ref x.2.1, x.2.2.1, .int 97, .int x.2.2.2.1, .ref x.2.2.2.2]) fun x H Q => ∃ dx es tm d, GrOk es ∧ (placesOf (szs es)).length ≤ 40 ∧ H x.1 = some (.ins (He.ga K "Job") dx []) ∧
  IsGrid K H x.2.1 es ∧ IsTm K H x.2.2.1 tm ∧ TmFit tm es.length ∧ tm.tks.length ≤ 3 ∧ 0 ≤ x.2.2.2.1 ∧ x.2.2.2.1 ≤ 12 ∧ x.2.2.2.1 * ((placesOf (szs es)).length : Nat) ≤ 120 ∧ (∀ d', IsDeep tm.tks d' → d' = d) ∧ FiL H x.2.2.2.2 d ((placesOf (szs es)).length : Nat) ∧
  ∀ H', But x.1 H H' → IsJob K H' x.1 ⟨es, tm.tks, x.2.2.2.1⟩ → Q .non H'
theorem ok_job_init (T : Txt K mg) : At P w K mg base 18 (He.ma K (He.ga K "Job") "__init__") (spJobI K) := by
  refine .of (F_Job_init T) sc_Job_init (b_Job_init T) (spf_len fun _ => rfl) fun cdv A outer s H vs Q E hr h => ?_
  have nd := sc_Job_init.nd
  have hu := hr.h
  have c_is_between := ok_is_between (P := P) (w := w) (base := base) T
  have c_check_term := ok_check_term (P := P) (w := w) (base := base) T
  have c_lines_of := ok_lines_of (P := P) (w := w) (base := base) T
  have c_is_first := ok_is_first (P := P) (w := w) (base := base) T
  have d_takes := d_takes12 (P := P) (w := w) (base := base) T
  have m_lines := ok_lines (P := P) (w := w) (base := base) T
  have m_places_many := ok_many (P := P) (w := w) (base := base) T
  have m_deep := ok_deep (P := P) (w := w) (base := base) T
  obtain ⟨⟨p, g, tv, r, f⟩, rfl, dx, es, tm, d, gr, hpl, hp, hg, ht, fit, few, r0, r12, rm, hd, hf, q⟩ := h
  obtain ⟨ta, tdx, tfs, e, hta, hno⟩ := tm_ins ht
  dsimp only at e hp hg ht hf q rm r0 r12
  subst e
  obtain ⟨gdx, gls, gle, gvr, gve, hg1, _⟩ := id hg
  refine ⟨_, (pss_cons (ps_expr (pe_c c_check_term hr (by rfl) (pa_cons (pv 2) pa_nil)))
    (pss_cons (ps_if (pt_cmpR op_notIn_seq (pe_c c_lines_of hr (by rfl) (pa_cons (pv 2) pa_nil)) (pe_tupO (pa_cons pe_non (pa_cons (pe_m0 m_lines hr (pv 1)) pa_nil))) rfl) pss_never pss_nil)
    (pss_cons (ps_if (pt_not (pt_val (pe_c c_is_between hr (by rfl) (pa_cons (pv 3) (pa_cons pe_int (pa_cons (pe_gi (by rfl) (int_MOST_MODULUS T)) pa_nil)))))) pss_never pss_nil)
    (pss_cons (ps_if (PW.pt (pw_or (pt_not (pt_val (pe_c c_is_between hr (by rfl) (pa_cons (pv 4) (pa_cons pe_int (pa_cons (pe_gi (by rfl) (int_MOST_ROUNDS T)) pa_nil)))))) (pw_or1 (pt_cmpR op_gt (pe_op op_mul (pv 4) (pe_m0 m_places_many hr (pv 1))) (pe_gi (by rfl) (int_MOST_SPOTS T)) (nomark _))))) pss_never pss_nil)
    (pss_cons (ps_fldO (pv 0) (pv 1) rfl)
    (pss_cons (ps_fldO (pv 0) (pv 2) rfl)
    (pss_cons (ps_fldO (pv 0) (pe_md0 d_takes hr (pv 2)) rfl)
    (pss_cons (ps_fldO (pv 0) (pv 3) rfl)
    (pss_cons (ps_fldO (pv 0) (pv 4) rfl)
    (pss_cons (ps_if (pt_not (pt_val (pe_c c_is_first hr (by rfl) (pa_cons (pv 5) (pa_cons (pe_m0 m_deep hr (pv 0)) (pa_cons (pe_m0 m_places_many hr (pv 1)) (pa_cons (pv 3) pa_nil))))))) pss_never pss_nil)
    (pss_one (ps_fldO (pv 0) (pe_lc (own := [("row", 6)]) (g := (gName 6)) (tt := tYes)  rfl nd (pi_list (pv 5)) (blkOk_by (N := ["self", "grid", "term", "modulus", "rounds", "first", "row"]) (sc := (defScope s_Job_init)) (by decide +kernel)) (fun _ _ _ _ _ => (pg_name (i := 6) nd rfl (Or.inl rfl))) (fun _ _ _ _ _ => pts_nil) (fun _ _ _ _ _ => (pe_callTy (cr_listK (K := K) rfl) (by rfl) (free_list T) (by decide +kernel) (pa_cons (pv 6) pa_nil)))) rfl)))))))))))), ?_⟩
  walk_at "go"
  refine ⟨ta, rfl, tm, es.length, fit, ht, fun H1 s1 => ?_⟩
  walk_at "go"
  refine ⟨ta, rfl, tm, es.length, fit.ht, ht.mono s1, fit.len, fun H2 s2 => ?_⟩
  have s12 := s1.trans s2
  walk_at "go"
  refine u_m1i (s12 _ _ hg1) (g_no (by decide) (by decide) (by decide)) ?_
  walk_at "go"
  refine ⟨g, rfl, es, hg.mono s12, ?_⟩
  walk_at "go"
  refine u_tupn l2 fun tt H3 htt s3 e3 => ?_
  have s13 := s12.trans s3
  refine ⟨tt, _, rfl, .inr (SqT.of e3), ?_, by rfl, ?_⟩
  · by_cases z : tm.tks = []
    · rw [if_pos z]; rfl
    · rw [if_neg z]; rfl
  have hin : inV (if tm.tks = [] then V.non else .int (es.length : Nat)) [.non, .int (es.length : Nat)] = true := by
    by_cases z : tm.tks = []
    · rw [if_pos z]; rfl
    · rw [if_neg z]
      show (eqV V.non (.int (es.length : Nat)) || (eqV (.int (es.length : Nat)) (.int (es.length : Nat)) || false)) = true
      simp [eqV]
  rw [hin]
  refine ⟨_, rfl, u_ifF (by rfl) ?_⟩
  walk_at "go"
  refine ⟨(97, 2, 1000000000), rfl, ?_⟩
  refine u_bl (u_notT (by decide) ?_)
  walk_at "go"
  refine ⟨(r, 0, 12), rfl, ?_⟩
  refine u_bl (u_notT ?_ ?_)
  · show (decide ((0 : Int) ≤ r) && decide (r ≤ 12)) = true
    rw [decide_eq_true r0, decide_eq_true r12]
    rfl
  walk_at "go"
  refine u_m1i (s13 _ _ hg1) (g_no (by decide) (by decide) (by decide)) ?_
  walk_at "go"
  refine ⟨g, rfl, es, hg.mono s13, gr, fun H4 s4 => ?_⟩
  refine w_rI (.inl ⟨show -(2 ^ 64) < r by omega, show r < 2 ^ 64 by omega⟩) ?_
  walk_at "go"
  refine u_ifF (decide_eq_false (show ¬ (120 : Int) < r * ((placesOf (szs es)).length : Nat) by omega)) ?_
  have s14 := s13.trans s4
  have hp4 := s14 _ _ hp
  walk_at "go"
  refine u_fldSi hp4 (cls_Job T) (noat_Job_grid T) (by show 0 < 1000; decide) fun H5 b5 t5 n5 e5 => ?_
  walk_at "go"
  refine u_fldSi e5 (cls_Job T) (noat_Job_term T) (by show 1 < 1000; decide) fun H6 b6 t6 n6 e6 => ?_
  walk_at "go"
  have B6 : But p H H6 := ((But.of s14).trans b5).trans b6
  have nta : ta ≠ p := by
    cases tm with
    | num n => obtain ⟨a, dx, e1, h1⟩ := ht; cases e1; exact ins_ne h1 hp
    | take t => obtain ⟨a, dx, y, e1, h1, _⟩ := ht; cases e1; exact ins_ne h1 hp
    | add t u => obtain ⟨a, dx, x, y, e1, h1, _⟩ := ht; cases e1; exact ins_ne h1 hp
    | mul t u => obtain ⟨a, dx, x, y, e1, h1, _⟩ := ht; cases e1; exact ins_ne h1 hp
  refine u_mti ⟨tm.tc, rfl, rfl⟩ (B6 _ _ hta nta) (hno _ (by decide)) ?_
  walk_at "go"
  refine ⟨ta, rfl, tm, fit.ht, by decide, ht.butI B6 hp, fun l H7 hl s7 hsp => ?_⟩
  have nlp : l ≠ p := (ne_of_none e6 hl).symm
  walk_at "go"
  refine u_fldSi (s7 _ _ e6) (cls_Job T) (noat_Job_taken T) (by show 2 < 1000; decide) fun H8 b8 t8 n8 e8 => ?_
  walk_at "go"
  refine u_fldSi e8 (cls_Job T) (noat_Job_modulus T) (by show 3 < 1000; decide) fun H9 b9 t9 n9 e9 => ?_
  walk_at "go"
  refine u_fldSi e9 (cls_Job T) (noat_Job_rounds T) (by show 4 < 1000; decide) fun H10 b10 t10 n10 e10 => ?_
  walk_at "go"
  have b710 := (b8.trans b9).trans b10
  have t710 := (t8.trans t9).trans t10
  have hsp10 : SpL H10 l tm.tks := by
    obtain ⟨us, e, pu⟩ := hsp
    exact ⟨us, b710 _ _ e nlp, sps_mono t710 pu⟩
  have B10 : But p H H10 := (B6.same s7).trans b710
  refine u_m1i e10 (by rfl) ?_
  walk_at "go"
  refine ⟨p, rfl, dx, _, l, tm.tks, e10, by rfl, hsp10, by omega, fun d' H11 hd' s11 => ?_⟩
  have hdd := hd d' hd'
  subst hdd
  walk_at "go"
  have G11 := (hg.but B10 hp).mono s11
  obtain ⟨gdx', gls', gle', gvr', gve', hg11, _⟩ := id G11
  refine u_m1i hg11 (g_no (by decide) (by decide) (by decide)) ?_
  walk_at "go"
  refine ⟨g, rfl, es, G11, gr, fun H12 s12' => ?_⟩
  walk_at "go"
  have s1012 := s11.trans s12'
  have F12 := (hf.but B10 hp).mono s1012
  refine ⟨(f, d', _), rfl, F12, fun H13 s13' => ?_⟩
  walk_at "go"
  have s1013 := s1012.trans s13'
  obtain ⟨us, wss, ef, pw, k1, k2, k3⟩ := F12.mono s13'
  have lu : us.length = wss.length := prLen pw
  refine u_iLi (SqL.of ef) ?_
  refine lc_by (walk_list (xs := us)) (Same H13) (fun i acc H' => True) (small_line (by omega)) (fun D H1 H2 hD s b => sS hD s b) (Same.refl H13) (fun H' s => trivial) (fun i acc H' _ s _ => SqL.of (s _ _ ef)) ?_ ?_
  · intro D j x acc H15 H14 R N put skip hD hj s14' _ e14 y
    obtain ⟨rfl, hx⟩ := y
    obtain ⟨ws, hw, b, rfl, hb⟩ := prAt1 pw hx
    refine w_name ⟨rfl, ?_⟩
    walk_at "go"
    refine u_lst_of (s14' _ _ hb) fun c H16 hc s16 e16 => ?_
    exact put _ _ (s16 _ _ e14) (s14'.trans s16) fun H5 _ _ _ => trivial
  · intro D acc H14 hD e14 s14' _
    walk_at "go"
    have s1014 := s1013.trans s14'
    refine u_fldSi (s1014 _ _ e10) (cls_Job T) (noat_Job_first T) (by show 5 < 1000; decide) fun H15 b15 t15 n15 e15 => ?_
    refine q H15 ((B10.same s1014).trans b15) ⟨dx, g, _, l, _, _, e15, hg.but ((B10.same s1014).trans b15) hp, ?_⟩
    obtain ⟨vs, e, pv⟩ := hsp10.mono s1014
    exact ⟨vs, b15 _ _ e nlp, sps_mono t15 pv⟩
end
end SL
end PtD10
/-! part D11 -/
section PtD11
/-! D11: last_use, need_row, need_wanted, ends_of. -/
namespace SL
open PySem PySem.Spec PyProof.Rows L2
/-- one step that needs nothing -/
local macro_rules | `(tactic| walk_at "sl1") => `(tactic| first
  | (with_reducible refine w_varh ?_; refine ⟨_, rfl, ?_⟩) | (with_reducible refine w_rEqh ?_; refine ⟨rfl, ?_⟩) | (with_reducible refine w_rNeh ?_; refine ⟨rfl, ?_⟩)
  | with_reducible refine w_seq ?_ | with_reducible refine w_asg ?_ | with_reducible refine w_c ?_ | with_reducible refine w_op ?_ | with_reducible refine w_rI0 ?_ | with_reducible refine u_test ?_ | with_reducible refine u_tb ?_ | with_reducible refine u_bl ?_ | with_reducible refine u_ifs ?_ | with_reducible refine u_ift ?_ | with_reducible refine u_iff ?_ | with_reducible refine w_cons ?_ | with_reducible refine w_nil ?_ | with_reducible refine w_cl ?_ | with_reducible refine w_cb ?_ | with_reducible refine w_ret ?_ | with_reducible refine w_drop ?_ | with_reducible refine w_name ?_ | with_reducible refine w_next ?_
  | with_reducible refine u_fld ?_ | with_reducible refine u_tup ?_ | with_reducible refine u_lst ?_ | with_reducible refine u_not ?_ | with_reducible refine u_nott ?_ | with_reducible refine u_notf ?_ | with_reducible refine u_and ?_ | with_reducible refine u_or ?_ | with_reducible refine u_andt ?_ | with_reducible refine u_andf ?_ | with_reducible refine u_ort ?_ | with_reducible refine u_orf ?_ | with_reducible refine u_andV ?_ | with_reducible refine u_orV ?_ | with_reducible refine u_andVt ?_ | with_reducible refine u_andVf ?_ | with_reducible refine u_orVt ?_ | with_reducible refine u_orVf ?_ | with_reducible refine u_notV ?_ | with_reducible refine u_notVb ?_
  | with_reducible refine u_chain ?_ | with_reducible refine u_cht ?_ | with_reducible refine u_chf ?_ | with_reducible refine w_un ?_ | with_reducible refine w_rU ?_ | with_reducible refine w_isN ?_ | with_reducible refine w_notN ?_ | with_reducible refine u_bm ?_ | with_reducible refine u_sl ?_ | with_reducible refine u_part ?_ | with_reducible refine u_parti ?_ | with_reducible refine u_nopart ?_ | with_reducible refine u_m1 ?_ | with_reducible refine u_mt ?_ | with_reducible refine u_mk ?_ | with_reducible refine u_nget ?_ | with_reducible refine u_nin ?_ | with_reducible refine u_nput ?_ | with_reducible refine u_fldS ?_
  | with_reducible refine u_for ?_ | with_reducible refine u_lc ?_ | with_reducible refine u_iL ?_ | with_reducible refine u_iT ?_ | with_reducible refine u_iE ?_ | with_reducible refine u_iZ ?_ | with_reducible refine u_iZ2 ?_ | with_reducible refine u_iZ3 ?_ | with_reducible refine u_iR1 ?_ | with_reducible refine u_iR2 ?_ | with_reducible refine u_sub ?_ | with_reducible refine u_isA_int ?_ | with_reducible refine u_isA_bool ?_ | with_reducible refine u_int1 ?_ | with_reducible refine u_intB ?_ | with_reducible refine u_min2 ?_ | with_reducible refine u_kw ?_ | with_reducible refine w_yes ?_ | with_reducible refine u_srt ?_ | with_reducible refine u_yt ?_ | with_reducible refine u_yf ?_)
local macro_rules | `(tactic| walk_at "go") => `(tactic| repeat walk_at "sl1")
/-- the last place below n whose spot reads s -/
def lastU (ln : Spot → List Spot) (R : List Spot) (s : Spot) : Nat → Option Nat
  | 0 => none
  | n + 1 => if s ∈ ln (R.getD n (0, [])) then some n else lastU ln R s n
def luse (ln : Spot → List Spot) (R : List Spot) (s : Spot) : Int := match lastU ln R s R.length with
  | some k => (k : Nat)
  | none => (R.idxOf s : Nat)
def endsF (ln : Spot → List Spot) (R Wt : List Spot) (s : Spot) : Int := if s ∈ Wt then (R.length : Nat) else luse ln R s
def optI (o : Option Nat) : Option V := o.map fun k => V.int (k : Nat)
/-- a row of all spots, those read ahead of those that read -/
structure RowOk (J : Jb) (R : List Spot) : Prop where
  nd : R.Nodup
  inj : ∀ s ∈ R, InJ J s
  len : R.length = J.spots.length
  few : R.length ≤ 1000
  topo : ∀ (i : Nat) (s : Spot), R[i]? = some s → ∀ x ∈ lnP J.es J.tks s, x ∈ R.take i
theorem RowOk.pl {J : Jb} {R : List Spot} (o : RowOk J R) {s : Spot} (h : s ∈ R) : s.2.length = J.es.length := (o.inj s h).2.2.1
theorem idx_at {R : List Spot} (nd : R.Nodup) {i : Nat} {s : Spot} (h : R[i]? = some s) : R.idxOf s = i := by
  obtain ⟨hi, e⟩ := List.getElem?_eq_some_iff.mp h
  have hj : R.idxOf s < R.length := List.idxOf_lt_length_iff.mpr (List.mem_of_getElem? h)
  have ej := List.getElem_idxOf hj
  rcases Nat.lt_trichotomy (R.idxOf s) i with c | c | c
  · exact absurd (ej.trans e.symm) (List.pairwise_iff_getElem.mp nd _ _ hj hi c)
  · exact c
  · exact absurd (e.trans ej.symm) (List.pairwise_iff_getElem.mp nd _ _ hi hj c)
theorem not_in_take {R : List Spot} (nd : R.Nodup) {i : Nat} {s : Spot} (h : R[i]? = some s) : s ∉ R.take i := by
  intro hm
  obtain ⟨j, hj⟩ := List.mem_iff_getElem?.mp hm
  rw [List.getElem?_take] at hj
  split at hj
  · rename_i hlt
    have h1 := idx_at nd hj
    have h2 := idx_at nd h
    omega
  · cases hj
theorem mem_take_succ {R : List Spot} {i : Nat} {s x : Spot} (h : R[i]? = some s) : x ∈ R.take (i + 1) ↔ x ∈ R.take i ∨ x = s := by
  rw [take_succ_of h]
  simp
section
variable {P : Program} {w : World} {K : PySem.W.Frag} {mg : Str → Option Value} {base : Heap}
def spUse (P : Program) (w : World) (K : PySem.W.Frag) : Sp := SpF (fun x : Addr × Addr => [.ref x.1, .ref x.2]) fun x H Q => ∃ J R, IsJob K H x.1 J ∧ JbOk J ∧ SpL H x.2 R ∧ RowOk J R ∧
  ∀ d H' kvs, H d = none → Same H H' → DN P w H' d kvs → kvs.length ≤ 5 * R.length → (∀ s ∈ R, valV kvs s = some (.int (luse (lnP J.es J.tks) R s))) → Q (.ref d) H'
theorem ok_last_use (T : Txt K mg) : Cal P w K mg base 6 "last_use" (spUse P w K) := by
  refine .of (.of (F_last_use T) sc_last_use (b_last_use T) (spf_len fun _ => rfl) fun cdv A outer s H vs Q E hr h => ?_) (glo_last_use T)
  have nd := sc_last_use.nd
  have hu := hr.h
  have c_leans_of := ok_leans (P := P) (w := w) (base := base) T
  obtain ⟨⟨a, b⟩, rfl, J, R, hJ, o, ⟨us, e, pu⟩, ro, q⟩ := h
  have lu : us.length = R.length := prLen pu
  have hfew := ro.few
  generalize hln : lnP J.es J.tks = ln at q
  refine ⟨_, (pss_cons (ps_set (i := 2) nd rfl (Or.inl rfl) pe_nnew)
    (pss_cons (ps_for PassesOwn.never rfl (pi_enum (by rfl) (free_enumerate T) (pa_cons (pv 1) pa_nil)) (pg_tup rfl (pgs_cons (pg_name (i := 3) nd rfl (Or.inl rfl)) (pgs_cons (pg_name (i := 4) nd rfl (Or.inl rfl)) pgs_nil))) (pss_one (ps_for PassesOwn.never rfl (pi_list (pe_c c_leans_of hr (by rfl) (pa_cons (pv 0) (pa_cons (pv 4) pa_nil)))) (pg_name (i := 5) nd rfl (Or.inl rfl)) (pss_one (ps_nput hu (pv 2) (pv 5) (pv 3) rfl)))))
    (pss_cons (ps_for PassesOwn.never rfl (pi_enum (by rfl) (free_enumerate T) (pa_cons (pv 1) pa_nil)) (pg_tup rfl (pgs_cons (pg_name (i := 3) nd rfl (Or.inl rfl)) (pgs_cons (pg_name (i := 4) nd rfl (Or.inl rfl)) pgs_nil))) (pss_one (ps_expr (pe_nsetd hu (pv 2) (pv 4) (pv 3) ⟨rfl, rfl, rfl, rfl⟩))))
    (pss_one (ps_ret (pv 2)))))), ?_⟩
  walk_at "go"
  refine u_nnew fun d H1 hd s1 D1 => ?_
  walk_at "go"
  refine u_iEi (s1 _ _ e) ?_
  refine for_by (walk_enum (xs := us)) (fun i σ H' => ∃ x3 x4 x5 kvs, σ = [some (.ref a), some (.ref b), some (.ref d), x3, x4, x5] ∧ Same H H' ∧ DN P w H' d kvs ∧ kvs.length ≤ 4 * i ∧ ∀ s, valV kvs s = optI (lastU ln R s i))
    ⟨_, _, _, [], rfl, s1, D1, Nat.le_refl _, fun s => rfl⟩ (fun i σ H' _ ⟨_, _, _, _, _, s, _⟩ => SqL.of (s _ _ e)) ?_ ?_
  · rintro i x σ H2 H3 hi ⟨x3, x4, x5, kvs, rfl, s2, D2, hl2, hv2⟩ ⟨t, x, y, rfl, ht, rfl, f1, f2⟩
    cases f1
    obtain ⟨sp, hsp, hS⟩ := prAt1 pu f2
    have hm : sp ∈ R := List.mem_of_getElem? hsp
    have s3 := same_new (H := H2) (o := .tup [V.int (i : Nat), y]) ht
    have s23 := s2.trans s3
    refine w_two upd_same ?_
    walk_at "go"
    refine ⟨(a, y), rfl, J, sp, hJ.mono s23, o, hS.mono (TK.of s23), ro.pl hm, fun p H4 ts hp s4 hts h4 hmem => ?_⟩
    rw [hln] at hmem
    obtain ⟨ws, ew, pw⟩ := hts
    have lw : ws.length = ts.length := prLen pw
    have D4 := (D2.same s3).same s4
    have s24 := s23.trans s4
    have npd : p ≠ d := by
      obtain ⟨φ, hφ⟩ := (D2.same s3).hasExt
      exact (ne_of_none hφ hp).symm
    refine u_iLi (SqL.of ew) ?_
    refine for_by (walk_list (xs := ws)) (fun j σ H' => ∃ x5 kvs, σ = [some (.ref a), some (.ref b), some (.ref d), some (.int (i : Nat)), some y, x5] ∧ Same H H' ∧ But d H4 H' ∧ TK H4 H' ∧ DN P w H' d kvs ∧ kvs.length ≤ 4 * i + j ∧ ∀ s, valV kvs s = if s ∈ ts.take j then some (.int (i : Nat)) else optI (lastU ln R s i))
      ⟨_, kvs, rfl, s24, But.refl d H4, TK.refl H4, D4, by omega, fun s => by rw [List.take_zero, if_neg (by simp)]; exact hv2 s⟩ (fun j σ H' _ ⟨_, _, _, _, b4, _⟩ => SqL.of (b4 _ _ ew npd)) ?_ ?_
    · rintro j x σ H6 H5 hj ⟨x5, kvs, rfl, s5, b5, t5, D5, hl5, hv5⟩ ⟨rfl, hx⟩
      obtain ⟨k, hk, hSk⟩ := prAt1 pw hx
      walk_at "go"
      refine u_nputi D5 (hSk.mono t5) (small_line (by omega)) fun H7 b7 n7 t7 D7 => ?_
      refine ⟨_, _, rfl, s5.but b7 hd, b5.trans b7, t5.trans t7, D7, Nat.le_trans (length_putK _ _ _) (by omega), fun z => ?_⟩
      rw [valV_put, hv5 z]
      by_cases hz : z = k
      · rw [if_pos hz, if_pos ((mem_take_succ hk).mpr (.inr hz))]
      · rw [if_neg hz]
        by_cases hz2 : z ∈ ts.take j
        · rw [if_pos hz2, if_pos ((mem_take_succ hk).mpr (.inl hz2))]
        · rw [if_neg hz2, if_neg fun h => ((mem_take_succ hk).mp h).elim hz2 hz]
    · rintro σ H5 ⟨x5, kvs, rfl, s5, b5, t5, D5, hl5, hv5⟩
      refine ⟨_, _, _, kvs, rfl, s5, D5, by omega, fun z => ?_⟩
      rw [hv5 z, lw, List.take_length]
      have hg : R.getD i (0, []) = sp := by
        rw [List.getD_eq_getElem?_getD, hsp]
        rfl
      rw [show lastU ln R z (i + 1) = if z ∈ ln (R.getD i (0, [])) then some i else lastU ln R z i from rfl, hg]
      by_cases hz : z ∈ ln sp
      · rw [if_pos ((hmem z).mpr hz), if_pos hz]
        rfl
      · rw [if_neg fun h => hz ((hmem z).mp h), if_neg hz]
  · rintro σ H2 ⟨x3, x4, x5, kvs, rfl, s2, D2, hl2, hv2⟩
    walk_at "go"
    refine u_iEi (s2 _ _ e) ?_
    rw [lu] at hl2 hv2
    refine for_by (walk_enum (xs := us)) (fun i σ H' => ∃ x3 x4 x5 kvs, σ = [some (.ref a), some (.ref b), some (.ref d), x3, x4, x5] ∧ Same H H' ∧ DN P w H' d kvs ∧ kvs.length ≤ 4 * R.length + i ∧ ∀ s, valV kvs s = match lastU ln R s R.length with | some k => some (.int (k : Nat)) | none => if s ∈ R.take i then some (.int (R.idxOf s : Nat)) else none)
      ⟨_, _, _, kvs, rfl, s2, D2, hl2, fun s => ?_⟩ (fun i σ H' _ ⟨_, _, _, _, _, s, _⟩ => SqL.of (s _ _ e)) ?_ ?_
    · rw [hv2 s]
      cases lastU ln R s R.length with
      | none => rw [List.take_zero]; rfl
      | some k => rfl
    · rintro i x σ H3 H4 hi ⟨x3, x4, x5, kvs, rfl, s3, D3, hl3, hv3⟩ ⟨t, x, y, rfl, ht, rfl, f1, f2⟩
      cases f1
      obtain ⟨sp, hsp, hS⟩ := prAt1 pu f2
      have s4 := same_new (H := H3) (o := .tup [V.int (i : Nat), y]) ht
      have s34 := s3.trans s4
      have D4 := D3.same s4
      have hnt := not_in_take ro.nd hsp
      have hix := idx_at ro.nd hsp
      refine w_two upd_same ?_
      walk_at "go"
      refine ⟨_, rfl, d, rfl, ⟨_, D4⟩, _, rfl, _, rfl, kvs, sp, D4, hS.mono (TK.of s34), small_line (by omega), fun v hv => ?_, fun hv H5 b5 n5 t5 D5 => ?_⟩
      · refine ⟨_, _, _, kvs, rfl, s34, D4, by omega, fun z => ?_⟩
        rw [hv3 z]
        have h3 := hv3 sp
        rw [hv] at h3
        cases hz : lastU ln R z R.length with
        | some k => rfl
        | none =>
          by_cases hzs : z = sp
          · rw [hzs] at hz
            rw [hz, if_neg hnt] at h3
            cases h3
          · by_cases hz2 : z ∈ R.take i
            · rw [if_pos hz2, if_pos ((mem_take_succ hsp).mpr (.inl hz2))]
            · rw [if_neg hz2, if_neg fun h => ((mem_take_succ hsp).mp h).elim hz2 hzs]
      · refine ⟨_, _, _, _, rfl, s34.but b5 hd, D5, Nat.le_trans (length_putK _ _ _) (by omega), fun z => ?_⟩
        rw [valV_put, hv3 z]
        have h3 := hv3 sp
        rw [hv] at h3
        by_cases hzs : z = sp
        · rw [if_pos hzs, hzs]
          cases hz : lastU ln R sp R.length with
          | some k => rw [hz] at h3; cases h3
          | none => rw [if_pos ((mem_take_succ hsp).mpr (.inr rfl)), hix]
        · rw [if_neg hzs]
          cases hz : lastU ln R z R.length with
          | some k => rfl
          | none =>
            by_cases hz2 : z ∈ R.take i
            · rw [if_pos hz2, if_pos ((mem_take_succ hsp).mpr (.inl hz2))]
            · rw [if_neg hz2, if_neg fun h => ((mem_take_succ hsp).mp h).elim hz2 hzs]
    · rintro σ H3 ⟨x3, x4, x5, kvs, rfl, s3, D3, hl3, hv3⟩
      walk_at "go"
      refine q d H3 kvs hd s3 D3 (by omega) fun z hz => ?_
      rw [hv3 z, lu, List.take_length, if_pos hz]
      unfold luse
      cases lastU ln R z R.length <;> rfl
/-! ### need_row, need_wanted -/
def spNeedR (P : Program) (w : World) (K : PySem.W.Frag) : Sp := SpF (fun x : Addr × Addr => [.ref x.1, .ref x.2]) fun x H Q => ∃ J R, IsJob K H x.1 J ∧ JbOk J ∧ SpL H x.2 R ∧ RowOk J R ∧ ∀ H', Same H H' → Q .non H'
theorem ok_need_row (T : Txt K mg) : Cal P w K mg base 6 "need_row" (spNeedR P w K) := by
  refine .of (.of (F_need_row T) sc_need_row (b_need_row T) (spf_len fun _ => rfl) fun cdv A outer s H vs Q E hr h => ?_) (glo_need_row T)
  have nd := sc_need_row.nd
  have hu := hr.h
  have c_leans_of := ok_leans (P := P) (w := w) (base := base) T
  have m_all_spots := ok_all_spots (P := P) (w := w) (base := base) T
  have m_is_spot := ok_is_spot (P := P) (w := w) (base := base) T
  obtain ⟨⟨a, b⟩, rfl, J, R, hJ, o, ⟨us, e, pu⟩, ro, q⟩ := h
  have lu : us.length = R.length := prLen pu
  have hfew := ro.few
  obtain ⟨dx, g, tmv, l, vm, vf, hj, hg, hl⟩ := id hJ
  refine ⟨_, (pss_cons (ps_if (PW.pt (pw_or (pt_not (pt_val (pe_callB cr_isA (by rfl) (free_isinstance T) (by decide +kernel) (pa_cons (pv 1) (pa_cons (pe_bltn (v := .ty "list") (by rfl) (free_list T) (by decide +kernel) rfl) pa_nil))))) (pw_or1 (pt_cmpR op_ne (pe_callB cr_lenO (by rfl) (free_len T) PySem.boot_len (pa_cons (pv 1) pa_nil)) (pe_callB cr_lenO (by rfl) (free_len T) PySem.boot_len (pa_cons (pe_m0 m_all_spots hr (pv 0)) pa_nil)) (nomark _))))) pss_never pss_nil)
    (pss_cons (ps_set (i := 2) nd rfl (Or.inr rfl) pe_nnew)
    (pss_one (ps_for PassesOwn.never rfl (pi_list (pv 1)) (pg_name (i := 3) nd rfl (Or.inl rfl)) (pss_cons (ps_if (PW.pt (pw_or (pt_not (pt_val (pe_m m_is_spot hr (pv 0) (pa_cons (pv 3) pa_nil)))) (pw_or (pt_cmp (pc_nin hu (pv 3) (pv 2)) rfl) (pw_or1 (pt_not (pt_val (pe_callB (cr_all rfl) (by rfl) (free_all T) (by decide +kernel) (pa_cons (pe_lc (own := [("one", 4)]) (g := (gName 4)) (tt := tYes)  rfl nd (pi_list (pe_c c_leans_of hr (by rfl) (pa_cons (pv 0) (pa_cons (pv 3) pa_nil)))) (blkOk_by (N := ["job", "row", "seen", "spot", "one"]) (sc := (defScope s_need_row)) (by decide +kernel)) (fun _ _ _ _ _ => (pg_name (i := 4) nd rfl (Or.inl rfl))) (fun _ _ _ _ _ => pts_nil) (fun _ _ _ _ _ => (pe_cmp (pc_ninK (P := P) (w := w) rfl rfl hu (pv 4) (pv 2)) rfl))) pa_nil)))))))) pss_never pss_nil)
    (pss_one (ps_nput hu (pv 2) (pv 3) pe_bl rfl))))))), ?_⟩
  walk_at "go"
  refine u_isA_lst e ?_
  walk_at "go"
  refine u_lenL e ?_
  walk_at "go"
  refine u_m1i hj (j_no (by decide)) ?_
  walk_at "go"
  refine ⟨a, rfl, J, hJ, o, fun p H1 hp s1 hsp => ?_⟩
  obtain ⟨ws, ew, pw⟩ := hsp
  walk_at "go"
  refine u_lenL ew ?_
  walk_at "go"
  refine u_ifF (by rw [lu, prLen pw, ro.len]; simp) ?_
  walk_at "go"
  refine u_nnew fun d H2 hd s2 D2 => ?_
  have s12 := s1.trans s2
  have hBd : H d = none := s1.free hd
  walk_at "go"
  refine u_iLi (SqL.of (s12 _ _ e)) ?_
  refine for_by (walk_list (xs := us)) (fun i σ H' => ∃ x3 x4 kvs, σ = [some (.ref a), some (.ref b), some (.ref d), x3, x4] ∧ Same H H' ∧ DN P w H' d kvs ∧ kvs.length ≤ i ∧ ∀ s, (valV kvs s).isSome = decide (s ∈ R.take i))
    ⟨_, _, [], rfl, s12, D2, Nat.le_refl _, fun s => by simp [valV]⟩ (fun i σ H' _ ⟨_, _, _, _, s, _⟩ => SqL.of (s _ _ e)) ?_ ?_
  · rintro i x σ H4 H3 hi ⟨x3, x4, kvs, rfl, s3, D3, hl3, hv3⟩ ⟨rfl, hx⟩
    obtain ⟨sp, hsp, hS⟩ := prAt1 pu hx
    have hm : sp ∈ R := List.mem_of_getElem? hsp
    walk_at "go"
    refine u_m1i (s3 _ _ hj) (j_no (by decide)) ?_
    walk_at "go"
    refine ⟨(a, x), rfl, J, sp, hJ.mono s3, o, hS.mono (TK.of s3), ro.inj sp hm, fun H4 s4 => ?_⟩
    have s34 := s3.trans s4
    have D4 := D3.same s4
    walk_at "go"
    refine u_nini D4 (hS.mono (TK.of s34)) ?_
    walk_at "go"
    refine u_orF (by rw [hv3 sp]; exact decide_eq_false (not_in_take ro.nd hsp)) ?_
    walk_at "go"
    refine ⟨(a, x), rfl, J, sp, hJ.mono s34, o, hS.mono (TK.of s34), ro.pl hm, fun p H5 ts hp s5 hts h4 hmem => ?_⟩
    obtain ⟨zs, ez, pz⟩ := hts
    have lz : zs.length = ts.length := prLen pz
    have D5 := D4.same s5
    have s35 := s34.trans s5
    refine u_iLi (SqL.of ez) ?_
    refine lc_by (walk_list (xs := zs)) (Same H5) (fun i acc H' => acc = (List.replicate i true).map V.bl) (small_line (by omega)) (fun D H1 H2 hD s b => sS hD s b) (Same.refl H5) (fun H' s => rfl) (fun i acc H' _ s _ => SqL.of (s _ _ ez)) ?_ ?_
    · intro D j y acc H7 H6 Rr N put skip hD hj6 s6 hacc e6 yy
      obtain ⟨rfl, hy⟩ := yy
      obtain ⟨k, hk, hSk⟩ := prAt1 pz hy
      refine w_name ⟨rfl, ?_⟩
      walk_at "go"
      refine u_nini (D5.same s6) (hSk.mono (TK.of s6)) ?_
      have hkin : k ∈ R.take i := ro.topo i sp hsp k ((hmem k).mp (List.mem_of_getElem? hk))
      rw [hv3 k, decide_eq_true hkin]
      refine put _ _ e6 s6 fun H8 _ _ _ => ?_
      subst hacc
      rw [List.replicate_succ']
      simp
    · intro D acc H6 hD e6 s6 hacc
      subst hacc
      walk_at "go"
      refine u_all e6 ?_
      have ea : ((List.replicate zs.length true).all id) = true := by
        rw [List.all_eq_true]
        intro b hb
        rw [(List.mem_replicate.mp hb).2]
        rfl
      rw [ea]
      walk_at "go"
      have s36 := s35.trans s6
      refine u_nputi (D5.same s6) (hS.mono (TK.of s36)) (small_line (by omega)) fun H7 b7 n7 t7 D7 => ?_
      refine ⟨_, _, _, rfl, s36.but b7 hBd, D7, Nat.le_trans (length_putK _ _ _) (by omega), fun z => ?_⟩
      rw [valV_put]
      by_cases hz : z = sp
      · rw [if_pos hz, decide_eq_true ((mem_take_succ hsp).mpr (.inr hz))]
        rfl
      · rw [if_neg hz, hv3 z]
        by_cases hz2 : z ∈ R.take i
        · rw [decide_eq_true hz2, decide_eq_true ((mem_take_succ hsp).mpr (.inl hz2))]
        · rw [decide_eq_false hz2, decide_eq_false fun h => ((mem_take_succ hsp).mp h).elim hz2 hz]
  · rintro σ H3 ⟨x3, x4, kvs, rfl, s3, _⟩
    exact q H3 s3
/-- wanted spots -/
structure WtOk (R Wt : List Spot) : Prop where
  nd : Wt.Nodup
  sub : ∀ s ∈ Wt, s ∈ R
  few : Wt.length ≤ 1000
def spNeedW (P : Program) (w : World) (K : PySem.W.Frag) : Sp := SpF (fun x : Addr × Addr => [.ref x.1, .ref x.2]) fun x H Q => ∃ J R Wt, IsJob K H x.1 J ∧ JbOk J ∧ SpL H x.2 Wt ∧ RowOk J R ∧ WtOk R Wt ∧ ∀ H', Same H H' → Q .non H'
theorem ok_need_wanted (T : Txt K mg) : Cal P w K mg base 6 "need_wanted" (spNeedW P w K) := by
  refine .of (.of (F_need_wanted T) sc_need_wanted (b_need_wanted T) (spf_len fun _ => rfl) fun cdv A outer s H vs Q E hr h => ?_) (glo_need_wanted T)
  have nd := sc_need_wanted.nd
  have hu := hr.h
  have m_is_spot := ok_is_spot (P := P) (w := w) (base := base) T
  obtain ⟨⟨a, b⟩, rfl, J, R, Wt, hJ, o, ⟨us, e, pu⟩, ro, wo, q⟩ := h
  have lu : us.length = Wt.length := prLen pu
  have hfew := wo.few
  obtain ⟨dx, g, tmv, l, vm, vf, hj, hg, hl⟩ := id hJ
  refine ⟨_, (pss_cons (ps_if (pt_not (pt_val (pe_callB cr_isA (by rfl) (free_isinstance T) (by decide +kernel) (pa_cons (pv 1) (pa_cons (pe_bltn (v := .ty "list") (by rfl) (free_list T) (by decide +kernel) rfl) pa_nil))))) pss_never pss_nil)
    (pss_cons (ps_set (i := 2) nd rfl (Or.inl rfl) pe_nnew)
    (pss_one (ps_for PassesOwn.never rfl (pi_list (pv 1)) (pg_name (i := 3) nd rfl (Or.inl rfl)) (pss_cons (ps_if (PW.pt (pw_or (pt_not (pt_val (pe_m m_is_spot hr (pv 0) (pa_cons (pv 3) pa_nil)))) (pw_or1 (pt_cmp (pc_nin hu (pv 3) (pv 2)) rfl)))) pss_never pss_nil)
    (pss_one (ps_nput hu (pv 2) (pv 3) pe_bl rfl))))))), ?_⟩
  walk_at "go"
  refine u_isA_lst e ?_
  walk_at "go"
  refine u_nnew fun d H2 hd s2 D2 => ?_
  walk_at "go"
  refine u_iLi (SqL.of (s2 _ _ e)) ?_
  refine for_by (walk_list (xs := us)) (fun i σ H' => ∃ x3 kvs, σ = [some (.ref a), some (.ref b), some (.ref d), x3] ∧ Same H H' ∧ DN P w H' d kvs ∧ kvs.length ≤ i ∧ ∀ s, (valV kvs s).isSome = decide (s ∈ Wt.take i))
    ⟨_, [], rfl, s2, D2, Nat.le_refl _, fun s => by simp [valV]⟩ (fun i σ H' _ ⟨_, _, _, s, _⟩ => SqL.of (s _ _ e)) ?_ ?_
  · rintro i x σ H4 H3 hi ⟨x3, kvs, rfl, s3, D3, hl3, hv3⟩ ⟨rfl, hx⟩
    obtain ⟨sp, hsp, hS⟩ := prAt1 pu hx
    have hm : sp ∈ R := wo.sub sp (List.mem_of_getElem? hsp)
    walk_at "go"
    refine u_m1i (s3 _ _ hj) (j_no (by decide)) ?_
    walk_at "go"
    refine ⟨(a, x), rfl, J, sp, hJ.mono s3, o, hS.mono (TK.of s3), ro.inj sp hm, fun H4 s4 => ?_⟩
    have s34 := s3.trans s4
    have D4 := D3.same s4
    walk_at "go"
    refine u_nini D4 (hS.mono (TK.of s34)) ?_
    walk_at "go"
    refine u_ifF (by rw [hv3 sp]; exact decide_eq_false (not_in_take wo.nd hsp)) ?_
    walk_at "go"
    refine u_nputi D4 (hS.mono (TK.of s34)) (small_line (by omega)) fun H7 b7 n7 t7 D7 => ?_
    refine ⟨_, _, rfl, s34.but b7 hd, D7, Nat.le_trans (length_putK _ _ _) (by omega), fun z => ?_⟩
    rw [valV_put]
    by_cases hz : z = sp
    · rw [if_pos hz, decide_eq_true ((mem_take_succ hsp).mpr (.inr hz))]
      rfl
    · rw [if_neg hz, hv3 z]
      by_cases hz2 : z ∈ Wt.take i
      · rw [decide_eq_true hz2, decide_eq_true ((mem_take_succ hsp).mpr (.inl hz2))]
      · rw [decide_eq_false hz2, decide_eq_false fun h => ((mem_take_succ hsp).mp h).elim hz2 hz]
  · rintro σ H3 ⟨x3, kvs, rfl, s3, _⟩
    exact q H3 s3
/-! ### ends_of -/
def spEnds (P : Program) (w : World) (K : PySem.W.Frag) : Sp := SpF (fun x : Addr × Addr × Addr => [.ref x.1, .ref x.2.1, .ref x.2.2]) fun x H Q => ∃ J R Wt, IsJob K H x.1 J ∧ JbOk J ∧ SpL H x.2.1 R ∧ SpL H x.2.2 Wt ∧ RowOk J R ∧ WtOk R Wt ∧
  ∀ d H' kvs, H d = none → Same H H' → DN P w H' d kvs → (∀ s ∈ R, valV kvs s = some (.int (endsF (lnP J.es J.tks) R Wt s))) → Q (.ref d) H'
theorem ok_ends_of (T : Txt K mg) : Cal P w K mg base 7 "ends_of" (spEnds P w K) := by
  refine .of (.of (F_ends_of T) sc_ends_of (b_ends_of T) (spf_len fun _ => rfl) fun cdv A outer s H vs Q E hr h => ?_) (glo_ends_of T)
  have nd := sc_ends_of.nd
  have hu := hr.h
  have c_need_row := ok_need_row (P := P) (w := w) (base := base) T
  have c_need_wanted := ok_need_wanted (P := P) (w := w) (base := base) T
  have c_last_use := ok_last_use (P := P) (w := w) (base := base) T
  obtain ⟨⟨a, b, c⟩, rfl, J, R, Wt, hJ, o, hR, hW, ro, wo, q⟩ := h
  refine ⟨_, (pss_cons (ps_expr (pe_c c_need_row hr (by rfl) (pa_cons (pv 0) (pa_cons (pv 1) pa_nil))))
    (pss_cons (ps_expr (pe_c c_need_wanted hr (by rfl) (pa_cons (pv 0) (pa_cons (pv 2) pa_nil))))
    (pss_cons (ps_set (i := 3) nd rfl (Or.inl rfl) (pe_c c_last_use hr (by rfl) (pa_cons (pv 0) (pa_cons (pv 1) pa_nil))))
    (pss_cons (ps_for PassesOwn.never rfl (pi_list (pv 2)) (pg_name (i := 4) nd rfl (Or.inl rfl)) (pss_one (ps_nput hu (pv 3) (pv 4) (pe_callB cr_lenO (by rfl) (free_len T) PySem.boot_len (pa_cons (pv 1) pa_nil)) rfl)))
    (pss_one (ps_ret (pv 3))))))), ?_⟩
  walk_at "go"
  refine ⟨(a, b), rfl, J, R, hJ, o, hR, ro, fun H1 s1 => ?_⟩
  walk_at "go"
  refine ⟨(a, c), rfl, J, R, Wt, hJ.mono s1, o, hW.mono s1, ro, wo, fun H2 s2 => ?_⟩
  have s12 := s1.trans s2
  walk_at "go"
  refine ⟨(a, b), rfl, J, R, hJ.mono s12, o, hR.mono s12, ro, fun d H3 kvs hd s3 D3 hl3 hv3 => ?_⟩
  have s13 := s12.trans s3
  have hBd := s12.free hd
  obtain ⟨us, e, pu⟩ := hR
  obtain ⟨ws, ew, pw⟩ := hW
  have lu : us.length = R.length := prLen pu
  have lw : ws.length = Wt.length := prLen pw
  have f1 := ro.few
  have f2 := wo.few
  walk_at "go"
  refine u_iLi (SqL.of (s13 _ _ ew)) ?_
  refine for_by (walk_list (xs := ws)) (fun i σ H' => ∃ x4 kvs, σ = [some (.ref a), some (.ref b), some (.ref c), some (.ref d), x4] ∧ Same H H' ∧ DN P w H' d kvs ∧ kvs.length ≤ 5 * R.length + i ∧ ∀ s ∈ R, valV kvs s = some (.int (if s ∈ Wt.take i then (R.length : Nat) else luse (lnP J.es J.tks) R s)))
    ⟨_, kvs, rfl, s13, D3, by omega, fun s hs => by rw [List.take_zero, if_neg (by simp)]; exact hv3 s hs⟩ (fun i σ H' _ ⟨_, _, _, s, _⟩ => SqL.of (s _ _ ew)) ?_ ?_
  · rintro i x σ H5 H4 hi ⟨x4, kvs, rfl, s4, D4, hl4, hv4⟩ ⟨rfl, hx⟩
    obtain ⟨sp, hsp, hS⟩ := prAt1 pw hx
    walk_at "go"
    refine u_lenL (s4 _ _ e) ?_
    walk_at "go"
    refine u_nputi D4 (hS.mono (TK.of s4)) (small_line (by omega)) fun H7 b7 n7 t7 D7 => ?_
    refine ⟨_, _, rfl, s4.but b7 hBd, D7, Nat.le_trans (length_putK _ _ _) (by omega), fun z hz => ?_⟩
    rw [valV_put, hv4 z hz, lu]
    by_cases hzs : z = sp
    · rw [if_pos hzs, if_pos ((mem_take_succ hsp).mpr (.inr hzs))]
    · rw [if_neg hzs]
      by_cases hz2 : z ∈ Wt.take i
      · rw [if_pos hz2, if_pos ((mem_take_succ hsp).mpr (.inl hz2))]
      · rw [if_neg hz2, if_neg fun h => ((mem_take_succ hsp).mp h).elim hz2 hzs]
  · rintro σ H4 ⟨x4, kvs, rfl, s4, D4, hl4, hv4⟩
    walk_at "go"
    refine q d H4 kvs hBd s4 D4 fun z hz => ?_
    rw [hv4 z hz, lw, List.take_length]
    rfl
end
end SL
end PtD11
/-! part D12 -/
section PtD12
/-! D12: least_room, slots_wanted, crowd_at. -/
namespace SL
open PySem PySem.Spec PyProof.Rows L2
/-- one step that needs nothing -/
local macro_rules | `(tactic| walk_at "sl1") => `(tactic| first
  | (with_reducible refine w_varh ?_; refine ⟨_, rfl, ?_⟩) | (with_reducible refine w_rEqh ?_; refine ⟨rfl, ?_⟩) | (with_reducible refine w_rNeh ?_; refine ⟨rfl, ?_⟩)
  | with_reducible refine w_seq ?_ | with_reducible refine w_asg ?_ | with_reducible refine w_c ?_ | with_reducible refine w_op ?_ | with_reducible refine w_rI0 ?_ | with_reducible refine u_test ?_ | with_reducible refine u_tb ?_ | with_reducible refine u_bl ?_ | with_reducible refine u_ifs ?_ | with_reducible refine u_ift ?_ | with_reducible refine u_iff ?_ | with_reducible refine w_cons ?_ | with_reducible refine w_nil ?_ | with_reducible refine w_cl ?_ | with_reducible refine w_cb ?_ | with_reducible refine w_ret ?_ | with_reducible refine w_drop ?_ | with_reducible refine w_name ?_ | with_reducible refine w_next ?_
  | with_reducible refine u_fld ?_ | with_reducible refine u_tup ?_ | with_reducible refine u_lst ?_ | with_reducible refine u_not ?_ | with_reducible refine u_nott ?_ | with_reducible refine u_notf ?_ | with_reducible refine u_and ?_ | with_reducible refine u_or ?_ | with_reducible refine u_andt ?_ | with_reducible refine u_andf ?_ | with_reducible refine u_ort ?_ | with_reducible refine u_orf ?_ | with_reducible refine u_andV ?_ | with_reducible refine u_orV ?_ | with_reducible refine u_andVt ?_ | with_reducible refine u_andVf ?_ | with_reducible refine u_orVt ?_ | with_reducible refine u_orVf ?_ | with_reducible refine u_notV ?_ | with_reducible refine u_notVb ?_
  | with_reducible refine u_chain ?_ | with_reducible refine u_cht ?_ | with_reducible refine u_chf ?_ | with_reducible refine w_un ?_ | with_reducible refine w_rU ?_ | with_reducible refine w_isN ?_ | with_reducible refine w_notN ?_ | with_reducible refine u_bm ?_ | with_reducible refine u_sl ?_ | with_reducible refine u_part ?_ | with_reducible refine u_parti ?_ | with_reducible refine u_nopart ?_ | with_reducible refine u_m1 ?_ | with_reducible refine u_mt ?_ | with_reducible refine u_mk ?_ | with_reducible refine u_nget ?_ | with_reducible refine u_nin ?_ | with_reducible refine u_nput ?_ | with_reducible refine u_fldS ?_
  | with_reducible refine u_for ?_ | with_reducible refine u_lc ?_ | with_reducible refine u_iL ?_ | with_reducible refine u_iT ?_ | with_reducible refine u_iE ?_ | with_reducible refine u_iZ ?_ | with_reducible refine u_iZ2 ?_ | with_reducible refine u_iZ3 ?_ | with_reducible refine u_iR1 ?_ | with_reducible refine u_iR2 ?_ | with_reducible refine u_sub ?_ | with_reducible refine u_isA_int ?_ | with_reducible refine u_isA_bool ?_ | with_reducible refine u_int1 ?_ | with_reducible refine u_intB ?_ | with_reducible refine u_min2 ?_ | with_reducible refine u_kw ?_ | with_reducible refine w_yes ?_ | with_reducible refine u_srt ?_ | with_reducible refine u_yt ?_ | with_reducible refine u_yf ?_)
local macro_rules | `(tactic| walk_at "go") => `(tactic| repeat walk_at "sl1")
abbrev d0 : Spot := (0, [])
/-- the slots that are free at place i -/
def frees (E : Spot → Int) (L : List Spot) (i : Nat) : List Nat := (List.range L.length).filter fun k => decide (E (L.getD k d0) ≤ (i : Nat))
def lrStep (E : Spot → Int) (i : Nat) (s : Spot) (st : List Spot × List (Spot × Nat)) : List Spot × List (Spot × Nat) := match frees E st.1 i with
  | [] => (st.1 ++ [s], st.2 ++ [(s, st.1.length)])
  | k :: _ => (st.1.set k s, st.2 ++ [(s, k)])
def lr (E : Spot → Int) (R : List Spot) : Nat → List Spot × List (Spot × Nat)
  | 0 => ([], [])
  | i + 1 => lrStep E i (R.getD i d0) (lr E R i)
def lrS (E : Spot → Int) (R : List Spot) : List (Spot × Nat) := (lr E R R.length).2
def crowdL (E : Spot → Int) (R : List Spot) (i : Nat) : List Spot := R.getD i d0 :: (R.take i).filter fun s => decide ((i : Int) < E s)
def slV (l : List (Spot × Nat)) : List (Spot × V) := l.map fun p => (p.1, V.int (p.2 : Nat))
theorem getD_at {R : List Spot} {i : Nat} {s : Spot} (h : R[i]? = some s) : R.getD i d0 = s := by
  rw [List.getD_eq_getElem?_getD, h]
  rfl
theorem lr_keys (E : Spot → Int) (R : List Spot) : ∀ i, i ≤ R.length → (lr E R i).2.map (·.1) = R.take i
  | 0, _ => by simp [lr]
  | i + 1, hi => by
    have hx : R[i]? = some R[i] := List.getElem?_eq_getElem hi
    have ih := lr_keys E R i (Nat.le_of_lt hi)
    show (lrStep E i (R.getD i d0) (lr E R i)).2.map (·.1) = _
    rw [take_succ_of hx, ← ih, getD_at hx]
    unfold lrStep
    cases frees E (lr E R i).1 i <;> simp
theorem lr_mem (E : Spot → Int) (R : List Spot) : ∀ i, i ≤ R.length → ∀ s ∈ (lr E R i).1, s ∈ R.take i
  | 0, _ => by simp [lr]
  | i + 1, hi => by
    have hx : R[i]? = some R[i] := List.getElem?_eq_getElem hi
    have ih := lr_mem E R i (Nat.le_of_lt hi)
    intro s hs
    have e : lr E R (i + 1) = lrStep E i (R.getD i d0) (lr E R i) := rfl
    rw [e, getD_at hx] at hs
    rw [mem_take_succ hx]
    unfold lrStep at hs
    cases hf : frees E (lr E R i).1 i with
    | nil =>
      rw [hf] at hs
      rcases List.mem_append.mp hs with h | h
      · exact .inl (ih s h)
      · exact .inr (List.mem_singleton.mp h)
    | cons k r =>
      rw [hf] at hs
      rcases List.mem_or_eq_of_mem_set hs with h | h
      · exact .inl (ih s h)
      · exact .inr h
theorem lr_len (E : Spot → Int) (R : List Spot) : ∀ i, (lr E R i).1.length ≤ i
  | 0 => by simp [lr]
  | i + 1 => by
    have ih := lr_len E R i
    show (lrStep E i (R.getD i d0) (lr E R i)).1.length ≤ i + 1
    unfold lrStep
    cases frees E (lr E R i).1 i with
    | nil =>
      show ((lr E R i).1 ++ [R.getD i d0]).length ≤ i + 1
      rw [List.length_append, List.length_singleton]; omega
    | cons k r =>
      show ((lr E R i).1.set k (R.getD i d0)).length ≤ i + 1
      rw [List.length_set]; omega
theorem frees_at {E : Spot → Int} {L : List Spot} {i k : Nat} {s : Spot} (h : L[k]? = some s) : ((List.range (k + 1)).filter fun k => decide (E (L.getD k d0) ≤ (i : Nat))) = ((List.range k).filter fun k => decide (E (L.getD k d0) ≤ (i : Nat))) ++ (if E s ≤ (i : Nat) then [k] else []) := by
  rw [List.range_succ, List.filter_append]
  congr 1
  have e : L.getD k d0 = s := getD_at h
  by_cases c : E s ≤ (i : Nat)
  · rw [if_pos c]; simp [List.filter_cons, h, c]
  · rw [if_neg c]; simp [List.filter_cons, h, c]
theorem valV_none {κ : Type} [DecidableEq κ] {kvs : List (κ × V)} {k : κ} (h : k ∉ kvs.map (·.1)) : valV kvs k = none := by
  unfold valV
  rw [List.find?_eq_none.mpr]
  · rfl
  · intro x hx e
    exact h (List.mem_map.mpr ⟨x, hx, of_decide_eq_true e⟩)
theorem slV_keys (l : List (Spot × Nat)) : (slV l).map (·.1) = l.map (·.1) := by
  unfold slV
  rw [List.map_map]
  rfl
theorem cut_pre (xs : List V) (i : Nat) (h : i ≤ xs.length) : cutV xs none (some (i : Nat)) = xs.take i := by
  unfold cutV
  have e1 : HT.sIx xs.length 0 none = 0 := rfl
  have e2 : HT.sIx xs.length xs.length (some ((i : Nat) : Int)) = i := by
    rw [HT.sIx_nat]
    omega
  rw [e1, e2, List.drop_zero, Nat.sub_zero]
section
variable {P : Program} {w : World} {K : PySem.W.Frag} {mg : Str → Option Value} {base : Heap}
def EOf (J : Jb) (R Wt : List Spot) : Spot → Int := endsF (lnP J.es J.tks) R Wt
/-- what the three are called with -/
structure RmPre (K : PySem.W.Frag) (H : Hp) (x : Addr × Addr × Addr) (J : Jb) (R Wt : List Spot) : Prop where
  job : IsJob K H x.1 J
  ok : JbOk J
  row : SpL H x.2.1 R
  wt : SpL H x.2.2 Wt
  ro : RowOk J R
  wo : WtOk R Wt
theorem RmPre.mono {H H' : Hp} {x : Addr × Addr × Addr} {J : Jb} {R Wt : List Spot} (s : Same H H') (h : RmPre K H x J R Wt) : RmPre K H' x J R Wt := ⟨h.job.mono s, h.ok, h.row.mono s, h.wt.mono s, h.ro, h.wo⟩
def spRoom (P : Program) (w : World) (K : PySem.W.Frag) : Sp := SpF (fun x : Addr × Addr × Addr => [.ref x.1, .ref x.2.1, .ref x.2.2]) fun x H Q => ∃ J R Wt, RmPre K H x J R Wt ∧
  ∀ d H', H d = none → Same H H' → DN P w H' d (slV (lrS (EOf J R Wt) R)) → Q (.ref d) H'
theorem ok_least_room (T : Txt K mg) : Cal P w K mg base 8 "least_room" (spRoom P w K) := by
  refine .of (.of (F_least_room T) sc_least_room (b_least_room T) (spf_len fun _ => rfl) fun cdv A outer s H vs Q E hr h => ?_) (glo_least_room T)
  have nd := sc_least_room.nd
  have hu := hr.h
  have c_ends_of := ok_ends_of (P := P) (w := w) (base := base) T
  obtain ⟨⟨a, b, c⟩, rfl, J, R, Wt, pre, q⟩ := h
  obtain ⟨us, e, pu⟩ := pre.row
  dsimp only at e
  have lu : us.length = R.length := prLen pu
  have f1 := pre.ro.few
  refine ⟨_, (pss_cons (ps_set (i := 3) nd rfl (Or.inr rfl) (pe_c c_ends_of hr (by rfl) (pa_cons (pv 0) (pa_cons (pv 1) (pa_cons (pv 2) pa_nil)))))
    (pss_cons (ps_set (i := 4) nd rfl (Or.inl rfl) (pe_lstO pa_nil))
    (pss_cons (ps_set (i := 5) nd rfl (Or.inl rfl) pe_nnew)
    (pss_cons (ps_for PassesOwn.never rfl (pi_enum (by rfl) (free_enumerate T) (pa_cons (pv 1) pa_nil)) (pg_tup rfl (pgs_cons (pg_name (i := 6) nd rfl (Or.inr rfl)) (pgs_cons (pg_name (i := 7) nd rfl (Or.inl rfl)) pgs_nil))) (pss_cons (ps_setLc (i := 8) (own := [("number", 9), ("other", 10)]) (g := (gTup K 2 (gCons (gName 9) (gCons (gName 10) gNil))))  rfl nd rfl rfl (sw_true rfl rfl rfl (by decide +kernel)) (pi_enum (by rfl) (free_enumerate T) (pa_cons (pv 4) pa_nil)) (blkOk_by (N := ["job", "row", "wanted", "ends", "lasts", "found", "place", "spot", "free", "number", "other"]) (sc := (defScope s_least_room)) (by decide +kernel)) (fun _ _ _ _ _ => (pg_tup rfl (pgs_cons (pg_name (i := 9) nd rfl (Or.inl rfl)) (pgs_cons (pg_name (i := 10) nd rfl (Or.inl rfl)) pgs_nil)))) (fun _ _ _ _ _ => (pts_one (pt_cmpR op_le (pe_ngetK (P := P) (w := w) rfl rfl hu (pv 3) (pv 10) (fun _ _ => rfl)) (pv 6) (nomark _)))) (fun _ _ _ _ _ => (pv 9)))
    (pss_one (ps_if (pt_cmpR (op_eqD hu) (pv 8) (pe_lstO pa_nil) (nomark _)) (pss_cons (ps_nput hu (pv 5) (pv 7) (pe_callB cr_lenO (by rfl) (free_len T) PySem.boot_len (pa_cons (pv 4) pa_nil)) rfl)
    (pss_one (ps_expr (pe_bm PySem.F.plainAttrs_list PySem.F.slot_list_append PySem.F.type_list_append mt_appO (pv 4) (pa_cons (pv 7) pa_nil))))) (pss_cons (ps_nput hu (pv 5) (pv 7) (pe_ix ix_list (pv 8) pe_int (fun _ _ => rfl)) rfl)
    (pss_one (ps_asg (pv 7) (pg_sub (pv 4) (pe_ix ix_list (pv 8) pe_int (fun _ _ => rfl)) set_listO))))))))
    (pss_one (ps_ret (pv 5))))))), ?_⟩
  walk_at "go"
  refine ⟨(a, b, c), rfl, J, R, Wt, pre.job, pre.ok, pre.row, pre.wt, pre.ro, pre.wo, fun ed H1 ek hed s1 D1 hE => ?_⟩
  walk_at "go"
  refine u_lstn l0 fun l H2 hl s2 e2 => ?_
  walk_at "go"
  refine u_nnew fun d H3 hd s3 D3 => ?_
  walk_at "go"
  have hld : l ≠ d := ne_of_none e2 hd
  have hl1 : H1 l = none := hl
  have hd1 : H1 d = none := s2.free hd
  have s13 := s2.trans s3
  refine u_iEi (s13 _ _ (s1 _ _ e)) ?_
  have hE' : ∀ s ∈ R, valV ek s = some (.int (EOf J R Wt s)) := hE
  generalize hEE : EOf J R Wt = Ee at q hE'
  refine for_by (walk_enum (xs := us)) (fun i σ H' => ∃ x6 x7 x8 x9 x10, σ = [some (.ref a), some (.ref b), some (.ref c), some (.ref ed), some (.ref l), some (.ref d), x6, x7, x8, x9, x10] ∧ Same H1 H' ∧ SpL H' l (lr Ee R i).1 ∧ DN P w H' d (slV (lr Ee R i).2))
    ⟨_, _, _, _, _, rfl, s13, ⟨[], s3 _ _ e2, .nil⟩, D3⟩ (fun i σ H' _ ⟨_, _, _, _, _, _, s, _⟩ => SqL.of (s _ _ (s1 _ _ e))) ?_ ?_
  · rintro i x σ H4 H5 hi ⟨x6, x7, x8, x9, x10, rfl, s4, ⟨ls, el, pl⟩, D4⟩ ⟨t, x, y, rfl, ht, rfl, g1, g2⟩
    cases g1
    obtain ⟨sp, hsp, hS⟩ := prAt1 pu g2
    have hiR : i ≤ R.length := by omega
    have s5 := same_new (H := H4) (o := .tup [V.int (i : Nat), y]) ht
    generalize hst : lr Ee R i = st at pl D4
    have hmemR : ∀ s ∈ st.1, s ∈ R := fun s hs => List.mem_of_mem_take (lr_mem Ee R i hiR s (hst ▸ hs))
    have hkeys : st.2.map (·.1) = R.take i := hst ▸ lr_keys Ee R i hiR
    have hlen1 : st.1.length ≤ i := hst ▸ lr_len Ee R i
    have hlen2 : (slV st.2).length ≤ i := by
      unfold slV
      have := congrArg List.length hkeys
      rw [List.length_map, List.length_take] at this
      rw [List.length_map]; omega
    have hnext : lr Ee R (i + 1) = lrStep Ee i sp st := by rw [← hst, ← getD_at hsp]; rfl
    have hnew : valV (slV st.2) sp = none := valV_none (by rw [slV_keys, hkeys]; exact not_in_take pre.ro.nd hsp)
    have lls : ls.length = st.1.length := prLen pl
    refine w_two upd_same ?_
    walk_at "go"
    refine u_iEi (s5 _ _ el) ?_
    refine lc_by (walk_enum (xs := ls)) (Same (upd H4 t (.tup [V.int (i : Nat), y]))) (fun k acc H' => acc = (((List.range k).filter fun k => decide (Ee (st.1.getD k d0) ≤ (i : Nat))).map fun k => V.int (k : Nat))) (small_line (by omega)) (fun D H1 H2 hD s b => sS hD s b) (Same.refl _) (fun H' s => rfl) (fun k acc H' _ s _ => SqL.of (s _ _ (s5 _ _ el))) ?_ ?_
    · intro D k x acc H6 H7 Rr N put skip hD hk s6 hacc e6 yy
      obtain ⟨t2, x, z, rfl, ht2, rfl, g3, g4⟩ := yy
      cases g3
      obtain ⟨sk, hsk, hSk⟩ := prAt1 pl g4
      have s7 := same_new (H := H6) (o := .tup [V.int (k : Nat), z]) ht2
      have s567 := s5.trans (s6.trans s7)
      refine w_two upd_same ⟨rfl, ?_⟩
      walk_at "go"
      refine u_ngeti (D1.same (s4.trans s567)) (hSk.mono (TK.of s567)) (hE' sk (hmemR sk (List.mem_of_getElem? hsk))) ?_
      walk_at "go"
      refine u_y2 (fun c => ?_) fun c => ?_
      · walk_at "go"
        refine put _ _ (s7 _ _ e6) (s6.trans s7) fun H8 _ _ _ => ?_
        rw [frees_at hsk, if_pos (of_decide_eq_true c), hacc, List.map_append]
        rfl
      · refine skip _ (s7 _ _ e6) (s6.trans s7) ?_
        rw [frees_at hsk, if_neg (of_decide_eq_false c), List.append_nil]
        exact hacc
    · intro D acc H6 hD e6 s6 hacc
      rw [lls] at hacc
      have hacc' : acc = (frees Ee st.1 i).map fun k => V.int (k : Nat) := hacc
      have s56 := s5.trans s6
      have s46 := s4.trans s56
      walk_at "go"
      refine u_lstn l0 fun nl H7 hnl s7 e7 => ?_
      have s57 := s56.trans s7
      have s47 := s4.trans s57
      have fr_lt : ∀ k ∈ frees Ee st.1 i, k < st.1.length := fun k hk => List.mem_range.mp (List.mem_filter.mp hk).1
      have dpI : ∀ (is : List Nat), DpAll K H7 (is.map fun k => V.int (k : Nat)) (is.map fun (k : Nat) => PyData.int k) := by
        intro is
        induction is with
        | nil => exact .nil
        | cons k is ih => exact .cons (.int _) ih
      refine g_eqNil (s7 _ _ e6) (by rw [hacc']; exact dpI _) (by have := shInts ((frees Ee st.1 i).map fun (k : Nat) => (k : Int)); rwa [List.map_map] at this) e7 ?_
      walk_at "go"
      have D7 := D4.same s57
      have hS7 := hS.mono (TK.of (s1.trans s47))
      cases hf : frees Ee st.1 i with
      | nil =>
        refine u_ifT (by rfl) ?_
        walk_at "go"
        refine u_lenL (s57 _ _ el) ?_
        walk_at "go"
        refine u_nputi D7 hS7 (small_line (by omega)) fun H8 b8 n8 t8 D8 => ?_
        walk_at "go"
        have el8 := b8 _ _ (s57 _ _ el) hld
        refine u_bmL el8 ?_
        walk_at "go"
        refine u_app el8 (small_line (by omega)) fun H9 b9 t9 n9 e9 => ?_
        walk_at "go"
        refine ⟨_, _, _, _, _, rfl, (s47.but b8 hd1).but b9 hl1, ?_, ?_⟩
        · rw [hnext]
          unfold lrStep
          rw [hf]
          exact ⟨_, e9, prApp (sps_mono (((TK.of s57).trans t8).trans t9) pl) (.cons (hS7.mono (t8.trans t9)) .nil)⟩
        · rw [hnext]
          unfold lrStep
          rw [hf]
          have D9 := D8.but b9 t9 hld.symm
          rw [putK_new _ hnew] at D9
          show DN P w H9 d (slV (st.2 ++ [(sp, st.1.length)]))
          unfold slV at D9 ⊢
          rw [List.map_append]
          rw [lls] at D9
          exact D9
      | cons k r =>
        have hklt := fr_lt k (by rw [hf]; exact List.mem_cons_self)
        rw [hf] at hacc'
        refine u_ifF (by rfl) ?_
        walk_at "go"
        have e7' := s7 _ _ e6
        refine w_ixL (n := 0) e7' (by rw [hacc']; rfl) ?_
        walk_at "go"
        refine u_nputi D7 hS7 (small_line (by omega)) fun H8 b8 n8 t8 D8 => ?_
        walk_at "go"
        have el8 := b8 _ _ (s57 _ _ el) hld
        have hDd : D ≠ d := fun z => by
          obtain ⟨φ, hφ⟩ := D7.hasExt
          rw [← z, e7'] at hφ; cases hφ
        have e8 := b8 _ _ e7' hDd
        refine w_ixL (n := 0) e8 (by rw [hacc']; rfl) ?_
        refine u_set el8 (by rw [lls]; exact hklt) fun H9 b9 t9 n9 e9 => ?_
        refine ⟨_, _, _, _, _, rfl, (s47.but b8 hd1).but b9 hl1, ?_, ?_⟩
        · rw [hnext]
          unfold lrStep
          rw [hf]
          exact ⟨_, e9, prSet (hS7.mono (t8.trans t9)) k (sps_mono (((TK.of s57).trans t8).trans t9) pl)⟩
        · rw [hnext]
          unfold lrStep
          rw [hf]
          have D9 := D8.but b9 t9 hld.symm
          rw [putK_new _ hnew] at D9
          show DN P w H9 d (slV (st.2 ++ [(sp, k)]))
          unfold slV at D9 ⊢
          rw [List.map_append]
          exact D9
  · rintro σ H4 ⟨x6, x7, x8, x9, x10, rfl, s4, _, D4⟩
    walk_at "go"
    rw [lu] at D4
    exact q d H4 (s1.free hd1) (s1.trans s4) D4
def spSlots (P : Program) (w : World) (K : PySem.W.Frag) : Sp := SpF (fun x : Addr × Addr × Addr => [.ref x.1, .ref x.2.1, .ref x.2.2]) fun x H Q => ∃ J R Wt, RmPre K H x J R Wt ∧
  ∀ H', Same H H' → (R = [] → Q (.int 0) H') ∧ ∀ m : Nat, m ∈ (lrS (EOf J R Wt) R).map (·.2) → (∀ y ∈ (lrS (EOf J R Wt) R).map (·.2), y ≤ m) → Q (.int (m + 1 : Nat)) H'
theorem lrS_len (E : Spot → Int) (R : List Spot) : (lrS E R).length = R.length := by
  have h := congrArg List.length (lr_keys E R R.length (Nat.le_refl _))
  rw [List.length_map, List.take_length] at h
  exact h
theorem ok_slots_wanted (T : Txt K mg) : Cal P w K mg base 9 "slots_wanted" (spSlots P w K) := by
  refine .of (.of (F_slots_wanted T) sc_slots_wanted (b_slots_wanted T) (spf_len fun _ => rfl) fun cdv A outer s H vs Q E hr h => ?_) (glo_slots_wanted T)
  have nd := sc_slots_wanted.nd
  have hu := hr.h
  have c_least_room := ok_least_room (P := P) (w := w) (base := base) T
  obtain ⟨⟨a, b, c⟩, rfl, J, R, Wt, pre, q⟩ := h
  refine ⟨_, (pss_one (ps_ret (pe_op op_add (pe_callBK (cr_maxDf rfl hu) (by rfl) (free_max T) (by decide +kernel) (pa_cons (pe_nvals rfl (pe_c c_least_room hr (by rfl) (pa_cons (pv 0) (pa_cons (pv 1) (pa_cons (pv 2) pa_nil)))) (by rfl) (free_list T) (by decide +kernel)) pa_nil) (pk_cons (pe_un un_neg pe_int) pk_nil)) pe_int))), ?_⟩
  walk_at "go"
  show tNVals P w _ _ _ _
  unfold tNVals
  walk_at "go"
  refine ⟨(a, b, c), rfl, J, R, Wt, pre, fun d H1 hd s1 D1 => ?_⟩
  refine ⟨d, _, rfl, D1, fun p H2 hp s2 e2 => ?_⟩
  walk_at "go"
  have s12 := s1.trans s2
  obtain ⟨q1, q2⟩ := q H2 s12
  have ev : (slV (lrS (EOf J R Wt) R)).map (·.2) = ((lrS (EOf J R Wt) R).map fun p => ((p.2 : Nat) : Int)).map V.int := by
    unfold slV
    rw [List.map_map, List.map_map]
    rfl
  rw [ev] at e2
  refine ⟨p, _, -1, rfl, rfl, SqL.of e2, fun e => ?_, fun m hm hmax => ?_⟩
  · walk_at "go"
    have hl := lrS_len (EOf J R Wt) R
    have z := congrArg List.length e
    rw [List.length_map, hl] at z
    exact q1 (List.length_eq_zero_iff.mp z)
  · obtain ⟨y, hy, rfl⟩ := List.mem_map.mp hm
    walk_at "go"
    refine q2 y.2 (List.mem_map.mpr ⟨y, hy, rfl⟩) fun z hz => ?_
    obtain ⟨x, hx, rfl⟩ := List.mem_map.mp hz
    have := hmax _ (List.mem_map.mpr ⟨x, hx, rfl⟩)
    omega
/-- the greatest crowd -/
def IsBest (E : Spot → Int) (R : List Spot) (n : Nat) (C : List Spot) : Prop := ∃ i, i < n ∧ C = srt (crowdL E R i) ∧ ∀ j, j < n → (crowdL E R j).length ≤ C.length
def spCrowd (P : Program) (w : World) (K : PySem.W.Frag) : Sp := SpF (fun x : Addr × Addr × Addr => [.ref x.1, .ref x.2.1, .ref x.2.2]) fun x H Q => ∃ J R Wt, RmPre K H x J R Wt ∧
  ∀ H', Same H H' → (R = [] → Q .non H') ∧ ∀ p x l C, H' p = some (.tup [x, .ref l]) → SpL H' l C → IsBest (EOf J R Wt) R R.length C → Q (.ref p) H'
theorem crowd_at_take {E : Spot → Int} {R : List Spot} {i j : Nat} {s : Spot} (h : (R.take i)[j]? = some s) : ((R.take i).take (j + 1)).filter (fun s => decide ((i : Int) < E s)) = ((R.take i).take j).filter (fun s => decide ((i : Int) < E s)) ++ (if (i : Int) < E s then [s] else []) := by
  rw [take_succ_of h, List.filter_append]
  congr 1
  by_cases c : (i : Int) < E s
  · rw [if_pos c]; simp [c]
  · rw [if_neg c]; simp [c]
theorem ok_crowd_at (T : Txt K mg) : Cal P w K mg base 8 "crowd_at" (spCrowd P w K) := by
  refine .of (.of (F_crowd_at T) sc_crowd_at (b_crowd_at T) (spf_len fun _ => rfl) fun cdv A outer s H vs Q E hr h => ?_) (glo_crowd_at T)
  have nd := sc_crowd_at.nd
  have hu := hr.h
  have c_ends_of := ok_ends_of (P := P) (w := w) (base := base) T
  obtain ⟨⟨a, b, c⟩, rfl, J, R, Wt, pre, q⟩ := h
  obtain ⟨us, e, pu⟩ := pre.row
  dsimp only at e
  have lu : us.length = R.length := prLen pu
  have f1 := pre.ro.few
  refine ⟨_, (pss_cons (ps_set (i := 3) nd rfl (Or.inr rfl) (pe_c c_ends_of hr (by rfl) (pa_cons (pv 0) (pa_cons (pv 1) (pa_cons (pv 2) pa_nil)))))
    (pss_cons (ps_set (i := 4) nd rfl (Or.inl rfl) pe_non)
    (pss_cons (ps_for PassesOwn.never rfl (pi_enum (by rfl) (free_enumerate T) (pa_cons (pv 1) pa_nil)) (pg_tup rfl (pgs_cons (pg_name (i := 5) nd rfl (Or.inr rfl)) (pgs_cons (pg_name (i := 6) nd rfl (Or.inl rfl)) pgs_nil))) (pss_cons (ps_set (i := 7) nd rfl (Or.inl rfl) (pe_op op_catO (pe_lstO (pa_cons (pv 6) pa_nil)) (pe_lc (own := [("one", 8)]) (g := (gName 8))  rfl nd (pi_list (pe_slice sl_listO (pv 1) po_none (po_some (pv 5)))) (blkOk_by (N := ["job", "row", "wanted", "ends", "best", "place", "spot", "crowd", "one"]) (sc := (defScope s_crowd_at)) (by decide +kernel)) (fun _ _ _ _ _ => (pg_name (i := 8) nd rfl (Or.inl rfl))) (fun _ _ _ _ _ => (pts_one (pt_cmpR op_gt (pe_ngetK (P := P) (w := w) rfl rfl hu (pv 3) (pv 8) (fun _ _ => rfl)) (pv 5) (nomark _)))) (fun _ _ _ _ _ => (pv 8)))))
    (pss_one (ps_if (PW.pt (pw_or (pt_cmp (pc_isN (pv 4))) (pw_or1 (pt_cmpR op_gt (pe_callB cr_lenO (by rfl) (free_len T) PySem.boot_len (pa_cons (pv 7) pa_nil)) (pe_callB cr_lenO (by rfl) (free_len T) PySem.boot_len (pa_cons (pe_ix ix_tup (pv 4) pe_int (fun _ _ => rfl)) pa_nil)) (nomark _))))) (pss_one (ps_set (i := 4) nd rfl (Or.inl rfl) (pe_tupO (pa_cons (pv 5) (pa_cons (pe_callB (cr_sortSp hu) (by rfl) (free_sorted T) (by decide +kernel) (pa_cons (pv 7) pa_nil)) pa_nil))))) pss_nil))))
    (pss_one (ps_ret (pv 4)))))), ?_⟩
  walk_at "go"
  refine ⟨(a, b, c), rfl, J, R, Wt, pre.job, pre.ok, pre.row, pre.wt, pre.ro, pre.wo, fun ed H1 ek hed s1 D1 hE => ?_⟩
  walk_at "go"
  have hE' : ∀ s ∈ R, valV ek s = some (.int (EOf J R Wt s)) := hE
  generalize hEE : EOf J R Wt = Ee at q hE'
  refine u_iEi (s1 _ _ e) ?_
  refine for_by (walk_enum (xs := us)) (fun i σ H' => ∃ bv x5 x6 x7 x8, σ = [some (.ref a), some (.ref b), some (.ref c), some (.ref ed), some bv, x5, x6, x7, x8] ∧ Same H1 H' ∧ (i = 0 → bv = .non) ∧ (0 < i → ∃ p x l C, bv = .ref p ∧ H' p = some (.tup [x, .ref l]) ∧ SpL H' l C ∧ IsBest Ee R i C))
    ⟨_, _, _, _, _, rfl, Same.refl H1, fun _ => rfl, fun h => absurd h (Nat.lt_irrefl _)⟩ (fun i σ H' _ ⟨_, _, _, _, _, _, s, _⟩ => SqL.of (s _ _ (s1 _ _ e))) ?_ ?_
  · rintro i x σ H4 H5 hi ⟨bv, x5, x6, x7, x8, rfl, s4, hb0, hb1⟩ ⟨t, x, y, rfl, ht, rfl, g1, g2⟩
    cases g1
    obtain ⟨sp, hsp, hS⟩ := prAt1 pu g2
    have hiR : i < R.length := by omega
    have s5 := same_new (H := H4) (o := .tup [V.int (i : Nat), y]) ht
    have s45 := s4.trans s5
    refine w_two upd_same ?_
    walk_at "go"
    refine u_lstn l1 fun h1 H6 hh1 s6 e6 => ?_
    have s46 := s45.trans s6
    walk_at "go"
    have eR := s46 _ _ (s1 _ _ e)
    refine ⟨_, rfl, b, us, rfl, SqL.of eR, fun c1 H7 hc1 s7 e7 => ?_⟩
    rw [cut_pre us i (by omega)] at e7
    have pt : Paired (IsSp H) (us.take i) (R.take i) := prTake i pu
    have lt : (us.take i).length = (R.take i).length := prLen pt
    have ltk : (us.take i).length ≤ 1000 := by rw [List.length_take]; omega
    refine u_iLi (SqL.of e7) ?_
    refine lc_by (walk_list (xs := us.take i)) (Same H7) (fun j acc H' => Paired (IsSp H') acc (((R.take i).take j).filter fun s => decide ((i : Int) < Ee s))) (small_line (by omega)) (fun D H1 H2 hD s b => sS hD s b) (Same.refl H7) (fun H' s => by rw [List.take_zero]; exact .nil) (fun k acc H' _ s _ => SqL.of (s _ _ e7)) ?_ ?_
    · intro D j z acc H9 H8 Rr N put skip hD hj s8 pacc e8 yy
      obtain ⟨rfl, hz⟩ := yy
      obtain ⟨sj, hsj, hSj⟩ := prAt1 pt hz
      have hmem : sj ∈ R := List.mem_of_mem_take (List.mem_of_getElem? hsj)
      have s48 := s46.trans (s7.trans s8)
      have hS8 := hSj.mono (TK.of (s1.trans s48))
      refine w_name ⟨rfl, ?_⟩
      walk_at "go"
      refine u_ngeti (D1.same s48) hS8 (hE' sj hmem) ?_
      walk_at "go"
      refine u_y2 (fun c => ?_) fun c => ?_
      · walk_at "go"
        refine put _ _ e8 s8 fun H10 b10 t10 s10 => ?_
        rw [crowd_at_take hsj, if_pos (of_decide_eq_true c)]
        exact prApp (sps_mono t10 pacc) (.cons (hS8.mono t10) .nil)
      · refine skip _ e8 s8 ?_
        rw [crowd_at_take hsj, if_neg (of_decide_eq_false c), List.append_nil]
        exact pacc
    · intro D acc H8 hD e8 s8 pacc
      rw [lt, List.take_length] at pacc
      have lacc : acc.length ≤ 1000 := by
        rw [prLen pacc]
        exact Nat.le_trans (List.length_filter_le _ _) (by rw [List.length_take]; omega)
      have s68 := s7.trans s8
      refine u_cat (s68 _ _ e6) e8 (Nat.le_of_lt (small_line (by show 1 + acc.length ≤ 100000; omega))) fun cr H9 hcr s9 e9 => ?_
      have s69 := s68.trans s9
      have s49 := s46.trans s69
      have hcrowd : SpL H9 cr (crowdL Ee R i) := by
        refine ⟨_, e9, ?_⟩
        unfold crowdL
        rw [getD_at hsp]
        exact .cons (hS.mono (TK.of (s1.trans s49))) (sps_mono (TK.of s9) pacc)
      walk_at "go"
      have hbest : ∀ {p x l H'}, H' p = some (.tup [x, .ref l]) → SpL H' l (srt (crowdL Ee R i)) → (∀ j, j < i → (crowdL Ee R j).length ≤ (crowdL Ee R i).length) → ∃ p' x l C, V.ref p = .ref p' ∧ H' p' = some (.tup [x, .ref l]) ∧ SpL H' l C ∧ IsBest Ee R (i + 1) C := fun {p x l H'} h1 h2 h3 =>
        ⟨p, x, l, _, rfl, h1, h2, i, Nat.lt_succ_self i, rfl, fun j hj => by
          rw [(srt_perm _).length_eq]
          rcases Nat.lt_succ_iff_lt_or_eq.mp hj with z | z
          · exact h3 j z
          · rw [z]; exact Nat.le_refl _⟩
      cases hi0 : decide (i = 0) with
      | true =>
        have hi0 := of_decide_eq_true hi0
        rw [hb0 hi0]
        refine u_orT rfl ?_
        walk_at "go"
        refine ⟨cr, _, rfl, hcrowd, fun sl H10 hsl s10 hsp10 => ?_⟩
        walk_at "go"
        refine u_tupn l2 fun bp H11 hbp s11 e11 => ?_
        walk_at "go"
        refine ⟨_, _, _, _, _, rfl, s49.trans (s10.trans s11), fun h => absurd h (Nat.succ_ne_zero i), fun _ => hbest e11 (hsp10.mono s11) fun j hj => absurd hj (by omega)⟩
      | false =>
        have hi0 := of_decide_eq_false hi0
        obtain ⟨p, px, l, C, rfl, hp, hC, hB⟩ := hb1 (by omega)
        refine u_orF rfl ?_
        walk_at "go"
        obtain ⟨cv, ecv, pcv⟩ := hcrowd
        have s59 := s5.trans (s6.trans s69)
        refine u_lenL ecv ?_
        walk_at "go"
        refine w_ixT (n := 1) (s59 _ _ hp) rfl ?_
        walk_at "go"
        obtain ⟨lv, elv, plv⟩ := hC.mono s59
        refine u_lenL elv ?_
        walk_at "go"
        obtain ⟨i0, hi1, hC1, hmax⟩ := hB
        refine u_if2 (fun c => ?_) fun c => ?_
        · have hlt := of_decide_eq_true c
          rw [prLen pcv, prLen plv] at hlt
          walk_at "go"
          refine ⟨cr, _, rfl, ⟨cv, ecv, pcv⟩, fun sl H10 hsl s10 hsp10 => ?_⟩
          walk_at "go"
          refine u_tupn l2 fun bp H11 hbp s11 e11 => ?_
          walk_at "go"
          refine ⟨_, _, _, _, _, rfl, s49.trans (s10.trans s11), fun h => absurd h (Nat.succ_ne_zero i), fun _ => hbest e11 (hsp10.mono s11) fun j hj => by have := hmax j hj; omega⟩
        · have hle := of_decide_eq_false c
          rw [prLen pcv, prLen plv] at hle
          walk_at "go"
          refine ⟨_, _, _, _, _, rfl, s49, fun h => absurd h (Nat.succ_ne_zero i), fun _ => ⟨p, px, l, C, rfl, s59 _ _ hp, hC.mono s59, i0, Nat.lt_succ_of_lt hi1, hC1, fun j hj => ?_⟩⟩
          rcases Nat.lt_succ_iff_lt_or_eq.mp hj with z | z
          · exact hmax j z
          · rw [z]; omega
  · rintro σ H4 ⟨bv, x5, x6, x7, x8, rfl, s4, hb0, hb1⟩
    walk_at "go"
    obtain ⟨q1, q2⟩ := q H4 (s1.trans s4)
    rw [lu] at hb0 hb1
    by_cases hR : R = []
    · rw [hb0 (by rw [hR]; rfl)]
      exact q1 hR
    · obtain ⟨p, px, l, C, rfl, hp, hC, hB⟩ := hb1 (List.length_pos_iff.mpr hR)
      exact q2 p px l C hp hC hB
end
end SL
end PtD12
/-! part D13 -/
section PtD13
/-! D13: the law's cells, tape, draws. -/
namespace SL
open PySem PySem.Spec PyProof.Rows L2
/-- one step that needs nothing -/
local macro_rules | `(tactic| walk_at "sl1") => `(tactic| first
  | (with_reducible refine w_varh ?_; refine ⟨_, rfl, ?_⟩) | (with_reducible refine w_rEqh ?_; refine ⟨rfl, ?_⟩) | (with_reducible refine w_rNeh ?_; refine ⟨rfl, ?_⟩)
  | with_reducible refine w_seq ?_ | with_reducible refine w_asg ?_ | with_reducible refine w_c ?_ | with_reducible refine w_op ?_ | with_reducible refine w_rI0 ?_ | with_reducible refine u_test ?_ | with_reducible refine u_tb ?_ | with_reducible refine u_bl ?_ | with_reducible refine u_ifs ?_ | with_reducible refine u_ift ?_ | with_reducible refine u_iff ?_ | with_reducible refine w_cons ?_ | with_reducible refine w_nil ?_ | with_reducible refine w_cl ?_ | with_reducible refine w_cb ?_ | with_reducible refine w_ret ?_ | with_reducible refine w_drop ?_ | with_reducible refine w_name ?_ | with_reducible refine w_next ?_
  | with_reducible refine u_fld ?_ | with_reducible refine u_tup ?_ | with_reducible refine u_lst ?_ | with_reducible refine u_not ?_ | with_reducible refine u_nott ?_ | with_reducible refine u_notf ?_ | with_reducible refine u_and ?_ | with_reducible refine u_or ?_ | with_reducible refine u_andt ?_ | with_reducible refine u_andf ?_ | with_reducible refine u_ort ?_ | with_reducible refine u_orf ?_ | with_reducible refine u_andV ?_ | with_reducible refine u_orV ?_ | with_reducible refine u_andVt ?_ | with_reducible refine u_andVf ?_ | with_reducible refine u_orVt ?_ | with_reducible refine u_orVf ?_ | with_reducible refine u_notV ?_ | with_reducible refine u_notVb ?_
  | with_reducible refine u_chain ?_ | with_reducible refine u_cht ?_ | with_reducible refine u_chf ?_ | with_reducible refine w_un ?_ | with_reducible refine w_rU ?_ | with_reducible refine w_isN ?_ | with_reducible refine w_notN ?_ | with_reducible refine u_bm ?_ | with_reducible refine u_sl ?_ | with_reducible refine u_part ?_ | with_reducible refine u_parti ?_ | with_reducible refine u_nopart ?_ | with_reducible refine u_m1 ?_ | with_reducible refine u_mt ?_ | with_reducible refine u_mk ?_ | with_reducible refine u_nget ?_ | with_reducible refine u_nin ?_ | with_reducible refine u_nput ?_ | with_reducible refine u_fldS ?_
  | with_reducible refine u_for ?_ | with_reducible refine u_lc ?_ | with_reducible refine u_iL ?_ | with_reducible refine u_iT ?_ | with_reducible refine u_iE ?_ | with_reducible refine u_iZ ?_ | with_reducible refine u_iZ2 ?_ | with_reducible refine u_iZ3 ?_ | with_reducible refine u_iR1 ?_ | with_reducible refine u_iR2 ?_ | with_reducible refine u_sub ?_ | with_reducible refine u_isA_int ?_ | with_reducible refine u_isA_bool ?_ | with_reducible refine u_int1 ?_ | with_reducible refine u_intB ?_ | with_reducible refine u_min2 ?_ | with_reducible refine u_kw ?_ | with_reducible refine w_yes ?_ | with_reducible refine u_srt ?_ | with_reducible refine u_yt ?_ | with_reducible refine u_yf ?_)
local macro_rules | `(tactic| walk_at "go") => `(tactic| repeat walk_at "sl1")
def TapeAt (H : Hp) (t : Addr) : Prop := ∃ x y z : Int, H t = some (.lst [.int x, .int y, .int z])
theorem TapeAt.lst {H : Hp} {t : Addr} (h : TapeAt H t) : ∃ xs, H t = some (.lst xs) := let ⟨_, _, _, e⟩ := h; ⟨_, e⟩
theorem TapeAt.same {H H' : Hp} {t : Addr} (s : Same H H') (h : TapeAt H t) : TapeAt H' t := let ⟨x, y, z, e⟩ := h; ⟨x, y, z, s _ _ e⟩
theorem TapeAt.but {H H' : Hp} {t d : Addr} (b : But d H H') (n : t ≠ d) (h : TapeAt H t) : TapeAt H' t := let ⟨x, y, z, e⟩ := h; ⟨x, y, z, b _ _ e n⟩
theorem TapeAt.tk {H H' : Hp} {t : Addr} (h : TapeAt H t) (b : But t H H') : TK H H' := let ⟨_, e⟩ := h.lst; b.tk e
section
variable {P : Program} {w : World} {K : PySem.W.Frag} {mg : Str → Option Value} {base : Heap}
def spCell (K : PySem.W.Frag) : Sp := SpF (fun x : Addr × Nat => [.ref x.1, .int (x.2 : Nat)]) fun x H Q => ∃ ns : List Int, SqL K H x.1 (ns.map V.int) ∧ ∀ y, Q (.int y) H
theorem ok_cell (T : Txt K mg) : Cal P w K mg base 1 "_law_cell_at" (spCell K) := by
  refine .of (.of (F_law_cell_at T) sc_law_cell_at (b_law_cell_at T) (spf_len fun _ => rfl) fun cdv A outer s H vs Q E hr h => ?_) (glo_law_cell_at T)
  have nd := sc_law_cell_at.nd
  obtain ⟨⟨a, k⟩, rfl, ns, e, q⟩ := h
  refine ⟨_, (pss_cons (ps_if (pt_cmpR op_lt (pv 1) (pe_callB cr_lenO (by rfl) (free_len T) PySem.boot_len (pa_cons (pv 0) pa_nil)) (nomark _)) (pss_one (ps_ret (pe_ix ix_list (pv 0) (pv 1) (fun _ _ => rfl)))) pss_nil)
    (pss_one (ps_ret pe_int))), ?_⟩
  walk_at "go"
  refine u_lenK e ?_
  walk_at "go"
  refine u_if2 (fun c => ?_) fun c => ?_
  · have hk := of_decide_eq_true c
    rw [List.length_map] at hk
    walk_at "go"
    have hx : ns[k]? = some ns[k] := List.getElem?_eq_getElem (by omega)
    exact w_ixLK e (by rw [List.getElem?_map, hx]; rfl) (q _)
  · walk_at "go"
    exact q 0
def spTape : Sp := SpF (fun x : Int => [.int x]) fun x H Q => ∀ p H', H p = none → Same H H' → TapeAt H' p → Q (.ref p) H'
theorem ok_tape (T : Txt K mg) : Cal P w K mg base 1 "_law_tape" spTape := by
  refine .of (.of (F_law_tape T) sc_law_tape (b_law_tape T) (spf_len fun _ => rfl) fun cdv A outer s H vs Q E hr h => ?_) (glo_law_tape T)
  have nd := sc_law_tape.nd
  obtain ⟨n, rfl, q⟩ := h
  refine ⟨_, (pss_one (ps_ret (pe_lstO (pa_cons (pe_op op_mod (pv 0) pe_int) (pa_cons (pe_op op_mul (pe_callTy cr_int1 (by rfl) (free_int T) (by decide +kernel) (pa_cons (pe_cmpR op_ge (pv 0) (pe_op op_pow pe_int pe_int) (nomark _)) pa_nil)) (pv 0)) (pa_cons pe_int pa_nil)))))), ?_⟩
  walk_at "go"
  refine w_rI (by decide) ?_
  walk_at "go"
  refine w_rI ⟨by decide, by decide, by decide⟩ ?_
  walk_at "go"
  refine w_rI (.inl ⟨?_, ?_⟩) ?_
  · split <;> decide
  · split <;> decide
  walk_at "go"
  exact u_lstn l3 fun p H' hp s e => q p H' hp s ⟨_, _, _, e⟩
def spDraw : Sp := SpF (fun x : Addr × Int => [.ref x.1, .int x.2]) fun x H Q => TapeAt H x.1 ∧ 0 < x.2 ∧ x.2 < 1073741824 ∧ ∀ n H', 0 ≤ n → n < x.2 → But x.1 H H' → TK H H' → (∀ b, H b = none → H' b = none) → TapeAt H' x.1 → Q (.int n) H'
theorem call_draw {H : Hp} {t : Addr} {m : Int} {Q : VK} {E : XK} (tp : TapeAt H t) (h0 : 0 < m) (h1 : m < 1073741824) (q : ∀ n H', 0 ≤ n → n < m → But t H H' → TK H H' → (∀ b, H b = none → H' b = none) → TapeAt H' t → Q (.int n) H') : spDraw [.ref t, .int m] H Q E := ⟨(t, m), rfl, tp, h0, h1, q⟩
theorem ok_draw (T : Txt K mg) : Cal P w K mg base 1 "_law_draw" spDraw := by
  refine .of (.of (F_law_draw T) sc_law_draw (b_law_draw T) (spf_len fun _ => rfl) fun cdv A outer s H vs Q E hr h => ?_) (glo_law_draw T)
  have nd := sc_law_draw.nd
  obtain ⟨⟨t, m⟩, rfl, ⟨x, y, z, e⟩, hm, hm2, q⟩ := h
  dsimp only at e hm hm2 q
  refine ⟨_, (pss_cons (ps_if (pt_cmpR op_gt (pe_ix ix_list (pv 0) pe_int (fun _ _ => rfl)) pe_int (nomark _)) (pss_cons (ps_set (i := 2) nd rfl (Or.inl rfl) (pe_op op_mod (pe_ix ix_list (pv 0) pe_int (fun _ _ => rfl)) (pv 1)))
    (pss_cons (ps_asg (pe_op op_fdiv (pe_ix ix_list (pv 0) pe_int (fun _ _ => rfl)) (pv 1)) (pg_sub (pv 0) pe_int set_listO))
    (pss_one (ps_ret (pv 2))))) pss_nil)
    (pss_cons (ps_asg (pe_op op_add (pe_ix ix_list (pv 0) pe_int (fun _ _ => rfl)) pe_int) (pg_sub (pv 0) pe_int set_listO))
    (pss_cons (ps_set (i := 2) nd rfl (Or.inl rfl) (pe_op op_mod (pe_op op_mul (pe_op op_add (pe_op op_add (pe_ix ix_list (pv 0) pe_int (fun _ _ => rfl)) (pe_op op_mul pe_int (pe_ix ix_list (pv 0) pe_int (fun _ _ => rfl)))) pe_int) pe_int) pe_int))
    (pss_cons (ps_set (i := 2) nd rfl (Or.inl rfl) (pe_op op_mod (pe_op op_mul (pv 2) (pe_op op_add (pe_op op_fdiv (pv 2) pe_int) pe_int)) pe_int))
    (pss_one (ps_ret (pe_op op_mod (pe_op op_mod (pe_op op_mul (pv 2) (pe_op op_add (pe_op op_fdiv (pv 2) pe_int) pe_int)) pe_int) (pv 1)))))))), ?_⟩
  walk_at "go"
  refine w_ixL (n := 1) e rfl ?_
  walk_at "go"
  refine u_if2 (fun c => ?_) fun c => ?_
  · walk_at "go"
    refine w_ixL (n := 1) e rfl ?_
    walk_at "go"
    refine w_rI hm ?_
    walk_at "go"
    refine w_ixL (n := 1) e rfl ?_
    walk_at "go"
    refine w_rI ⟨hm, hm2⟩ ?_
    walk_at "go"
    refine u_set (k := 1) e (show 1 < 3 by decide) fun H1 b1 t1 n1 e1 => ?_
    walk_at "go"
    exact q _ H1 (Int.emod_nonneg _ (by omega)) (Int.emod_lt_of_pos _ hm) b1 t1 n1 ⟨_, _, _, e1⟩
  · walk_at "go"
    refine w_ixL (n := 2) e rfl ?_
    walk_at "go"
    refine u_set (k := 2) e (show 2 < 3 by decide) fun H1 b1 t1 n1 e1 => ?_
    walk_at "go"
    refine w_ixL (n := 0) e1 rfl ?_
    walk_at "go"
    refine w_ixL (n := 2) e1 rfl ?_
    refine w_rI (.inl ⟨by decide, by decide⟩) ?_
    walk_at "go"
    refine w_rI (.inr ⟨by decide, by decide⟩) ?_
    walk_at "go"
    refine w_rI (by decide) ?_
    walk_at "go"
    generalize hA : (x + 7919 * (z + 1) + 1) * 48271 % 2147483647 = A1
    have a0 : 0 ≤ A1 := by rw [← hA]; exact Int.emod_nonneg _ (by decide)
    have a1 : A1 < 2147483647 := by rw [← hA]; exact Int.emod_lt_of_pos _ (by decide)
    refine w_rI ⟨by decide, by decide⟩ ?_
    walk_at "go"
    refine w_rI (.inl ⟨by omega, by omega⟩) ?_
    walk_at "go"
    refine w_rI (by decide) ?_
    walk_at "go"
    generalize hB : A1 * (A1 / 1009 + 69621) % 2147483647 = B1
    have b0 : 0 ≤ B1 := by rw [← hB]; exact Int.emod_nonneg _ (by decide)
    have b2 : B1 < 2147483647 := by rw [← hB]; exact Int.emod_lt_of_pos _ (by decide)
    refine w_rI ⟨by decide, by decide⟩ ?_
    walk_at "go"
    refine w_rI (.inl ⟨by omega, by omega⟩) ?_
    walk_at "go"
    refine w_rI (by decide) ?_
    walk_at "go"
    refine w_rI hm ?_
    exact q _ H1 (Int.emod_nonneg _ (by omega)) (Int.emod_lt_of_pos _ hm) b1 t1 n1 ⟨_, _, _, e1⟩
end
end SL
end PtD13
/-! part D14 -/
section PtD14
/-! D14: the law's world. -/
namespace SL
open PySem PySem.Spec PyProof.Rows L2
/-- one step that needs nothing -/
local macro_rules | `(tactic| walk_at "sl1") => `(tactic| first
  | (with_reducible refine w_varh ?_; refine ⟨_, rfl, ?_⟩) | (with_reducible refine w_rEqh ?_; refine ⟨rfl, ?_⟩) | (with_reducible refine w_rNeh ?_; refine ⟨rfl, ?_⟩)
  | with_reducible refine w_seq ?_ | with_reducible refine w_asg ?_ | with_reducible refine w_c ?_ | with_reducible refine w_op ?_ | with_reducible refine w_rI0 ?_ | with_reducible refine u_test ?_ | with_reducible refine u_tb ?_ | with_reducible refine u_bl ?_ | with_reducible refine u_ifs ?_ | with_reducible refine u_ift ?_ | with_reducible refine u_iff ?_ | with_reducible refine w_cons ?_ | with_reducible refine w_nil ?_ | with_reducible refine w_cl ?_ | with_reducible refine w_cb ?_ | with_reducible refine w_ret ?_ | with_reducible refine w_drop ?_ | with_reducible refine w_name ?_ | with_reducible refine w_next ?_
  | with_reducible refine u_fld ?_ | with_reducible refine u_tup ?_ | with_reducible refine u_lst ?_ | with_reducible refine u_not ?_ | with_reducible refine u_nott ?_ | with_reducible refine u_notf ?_ | with_reducible refine u_and ?_ | with_reducible refine u_or ?_ | with_reducible refine u_andt ?_ | with_reducible refine u_andf ?_ | with_reducible refine u_ort ?_ | with_reducible refine u_orf ?_ | with_reducible refine u_andV ?_ | with_reducible refine u_orV ?_ | with_reducible refine u_andVt ?_ | with_reducible refine u_andVf ?_ | with_reducible refine u_orVt ?_ | with_reducible refine u_orVf ?_ | with_reducible refine u_notV ?_ | with_reducible refine u_notVb ?_
  | with_reducible refine u_chain ?_ | with_reducible refine u_cht ?_ | with_reducible refine u_chf ?_ | with_reducible refine w_un ?_ | with_reducible refine w_rU ?_ | with_reducible refine w_isN ?_ | with_reducible refine w_notN ?_ | with_reducible refine u_bm ?_ | with_reducible refine u_sl ?_ | with_reducible refine u_part ?_ | with_reducible refine u_parti ?_ | with_reducible refine u_nopart ?_ | with_reducible refine u_m1 ?_ | with_reducible refine u_mt ?_ | with_reducible refine u_mk ?_ | with_reducible refine u_nget ?_ | with_reducible refine u_nin ?_ | with_reducible refine u_nput ?_ | with_reducible refine u_fldS ?_
  | with_reducible refine u_for ?_ | with_reducible refine u_lc ?_ | with_reducible refine u_iL ?_ | with_reducible refine u_iT ?_ | with_reducible refine u_iE ?_ | with_reducible refine u_iZ ?_ | with_reducible refine u_iZ2 ?_ | with_reducible refine u_iZ3 ?_ | with_reducible refine u_iR1 ?_ | with_reducible refine u_iR2 ?_ | with_reducible refine u_sub ?_ | with_reducible refine u_isA_int ?_ | with_reducible refine u_isA_bool ?_ | with_reducible refine u_int1 ?_ | with_reducible refine u_intB ?_ | with_reducible refine u_min2 ?_ | with_reducible refine u_kw ?_ | with_reducible refine w_yes ?_ | with_reducible refine u_srt ?_ | with_reducible refine u_yt ?_ | with_reducible refine u_yf ?_)
local macro_rules | `(tactic| walk_at "go") => `(tactic| repeat walk_at "sl1")
def cfgs : List (List Int) := [[3], [2, 2], [4], [1], [2, 1], [5], [2, 1, 2], [3, 2]]
structure Wd where
  es : List (Int × Rk)
  tks : List Spot
  r : Int
structure WdOk (W : Wd) : Prop where
  sz : szs W.es ∈ cfgs
  nd : W.tks.Nodup
  few : W.tks.length ≤ 3
  tk : ∀ t ∈ W.tks, (1 ≤ t.1 ∧ t.1 ≤ 3) ∧ t.2.length = W.es.length ∧ ∀ s ∈ t.2, -2 ≤ s ∧ s ≤ 2
  r0 : 0 ≤ W.r
  r5 : W.r ≤ 5
def IsWd (H : Hp) (v : V) (W : Wd) : Prop := ∃ a ls lr lt vr, v = .ref a ∧ H a = some (.tup [.ref ls, .ref lr, .ref lt, .int W.r]) ∧ H ls = some (.lst (W.es.map fun e => V.int e.1)) ∧ H lr = some (.lst vr) ∧ Paired (fun v (e : Int × Rk) => IsRim H v e.2) vr W.es ∧ SpL H lt W.tks
theorem IsWd.mono {H H' : Hp} {v : V} {W : Wd} (s : Same H H') (h : IsWd H v W) : IsWd H' v W := by
  obtain ⟨a, ls, lr, lt, vr, e, h1, h2, h3, h4, h5⟩ := h
  exact ⟨a, ls, lr, lt, vr, e, s _ _ h1, s _ _ h2, s _ _ h3, prImp (fun _ _ q => q.mono (TK.of s)) h4, h5.mono s⟩
theorem SpL.but {H H' : Hp} {a t : Addr} {ss : List Spot} (b : But t H H') (tk : TK H H') (n : a ≠ t) (h : SpL H a ss) : SpL H' a ss := let ⟨vs, e, q⟩ := h; ⟨vs, b _ _ e n, sps_mono tk q⟩
theorem nat_of {n m : Int} (h0 : 0 ≤ n) (h : n < m) : ∃ k : Nat, n = (k : Int) ∧ (k : Int) < m := by
  obtain ⟨k, rfl⟩ := Int.eq_ofNat_of_zero_le h0
  exact ⟨k, rfl, h⟩
theorem cfg_fit : ∀ ss ∈ cfgs, 1 ≤ ss.length ∧ ss.length ≤ 3 ∧ (∀ s ∈ ss, 1 ≤ s ∧ s ≤ 5) ∧ ss.foldl (· * ·) 1 ≤ 6 ∧ (placesOf ss).length ≤ 6 ∧ (placesOf ss).Nodup := by decide +kernel
theorem zip_fst : ∀ {ss : List Int} {rs : List Rk}, rs.length = ss.length → (ss.zip rs).map (fun e => V.int e.1) = ss.map V.int
  | [], [], _ => rfl
  | [], _ :: _, h => by cases h
  | _ :: _, [], h => by cases h
  | s :: ss, r :: rs, h => by
    show V.int s :: ((ss.zip rs).map fun e => V.int e.1) = V.int s :: ss.map V.int
    rw [zip_fst (Nat.succ.inj h)]
theorem zip_szs : ∀ {ss : List Int} {rs : List Rk}, rs.length = ss.length → szs (ss.zip rs) = ss
  | [], [], _ => rfl
  | [], _ :: _, h => by cases h
  | _ :: _, [], h => by cases h
  | s :: ss, r :: rs, h => by
    show s :: szs (ss.zip rs) = s :: ss
    rw [zip_szs (Nat.succ.inj h)]
theorem zip_rim {H : Hp} : ∀ {ss : List Int} {rs : List Rk} {vs : List V}, rs.length = ss.length → Paired (fun v r => IsRim H v r) vs rs → Paired (fun v (e : Int × Rk) => IsRim H v e.2) vs (ss.zip rs)
  | [], [], _, _, .nil => .nil
  | [], _ :: _, _, h, _ => by cases h
  | _ :: _, [], _, h, _ => by cases h
  | s :: ss, r :: rs, _, h, .cons q t => .cons q (zip_rim (Nat.succ.inj h) t)
section
variable {P : Program} {w : World} {K : PySem.W.Frag} {mg : Str → Option Value} {base : Heap}
def spWorld (K : PySem.W.Frag) : Sp := SpF (fun t : Addr => [.ref t]) fun t H Q => TapeAt H t ∧ ∀ v H' W, WdOk W → IsWd H' v W → But t H H' → Q v H'
theorem ok_world (T : Txt K mg) : Cal P w K mg base 2 "_law_world" (spWorld K) := by
  refine .of (.of (F_law_world T) sc_law_world (b_law_world T) (spf_len fun _ => rfl) fun cdv A outer s H vs Q E hr h => ?_) (glo_law_world T)
  have nd := sc_law_world.nd
  have hu := hr.h
  have hu5 := hr.h5
  have c_law_draw := ok_draw (P := P) (w := w) (base := base) T
  obtain ⟨t, rfl, tp, q⟩ := h
  refine ⟨_, (pss_cons (ps_set (i := 1) nd rfl (Or.inl rfl) (pe_ix ix_list (pe_lstO (pa_cons (pe_lstO (pa_cons pe_int pa_nil)) (pa_cons (pe_lstO (pa_cons pe_int (pa_cons pe_int pa_nil))) (pa_cons (pe_lstO (pa_cons pe_int pa_nil)) (pa_cons (pe_lstO (pa_cons pe_int pa_nil)) (pa_cons (pe_lstO (pa_cons pe_int (pa_cons pe_int pa_nil))) (pa_cons (pe_lstO (pa_cons pe_int pa_nil)) (pa_cons (pe_lstO (pa_cons pe_int (pa_cons pe_int (pa_cons pe_int pa_nil)))) (pa_cons (pe_lstO (pa_cons pe_int (pa_cons pe_int pa_nil))) pa_nil))))))))) (pe_c c_law_draw hr (by rfl) (pa_cons (pv 0) (pa_cons pe_int pa_nil))) (fun _ _ => rfl)))
    (pss_cons (ps_setLc (i := 2) (own := [("_law_size", 3)]) (g := (gName 3)) (tt := tYes)  rfl nd rfl rfl (sw_true rfl rfl rfl (by decide +kernel)) (pi_list (pv 1)) (blkOk_by (N := ["_law_tape_here", "_law_sizes", "_law_rims", "_law_size", "_law_takes", "_law_k", "_law_back", "_law_steps"]) (sc := (defScope s_law_world)) (by decide +kernel)) (fun _ _ _ _ _ => (pg_name (i := 3) nd rfl (Or.inl rfl))) (fun _ _ _ _ _ => pts_nil) (fun _ _ _ _ _ => (pe_ix (ix_listK (K := K) rfl) (pe_lstO (pa_cons (pe_tupO (pa_cons pe_str (pa_cons pe_int pa_nil))) (pa_cons (pe_tupO (pa_cons pe_str pa_nil)) (pa_cons (pe_tupO (pa_cons pe_str pa_nil)) pa_nil)))) (pe_c c_law_draw hr (by rfl) (pa_cons (pv 0) (pa_cons pe_int pa_nil))) (fun _ _ => rfl))))
    (pss_cons (ps_set (i := 4) nd rfl (Or.inl rfl) (pe_lstO pa_nil))
    (pss_cons (ps_for PassesOwn.never rfl (pi_range1 (by rfl) (free_range T) (pa_cons (pe_ix ix_list (pe_lstO (pa_cons pe_int (pa_cons pe_int (pa_cons pe_int (pa_cons pe_int (pa_cons pe_int (pa_cons pe_int pa_nil))))))) (pe_c c_law_draw hr (by rfl) (pa_cons (pv 0) (pa_cons pe_int pa_nil))) (fun _ _ => rfl)) pa_nil)) (pg_name (i := 5) nd rfl (Or.inl rfl)) (pss_cons (ps_set (i := 6) nd rfl (Or.inl rfl) (pe_ix ix_list (pe_lstO (pa_cons pe_int (pa_cons pe_int (pa_cons pe_int (pa_cons pe_int pa_nil))))) (pe_c c_law_draw hr (by rfl) (pa_cons (pv 0) (pa_cons pe_int pa_nil))) (fun _ _ => rfl)))
    (pss_cons (ps_set (i := 7) nd rfl (Or.inl rfl) (pe_callTy cr_tupleO (by rfl) (free_tuple T) (by decide +kernel) (pa_cons (pe_lc (own := [("_law_size", 3)]) (g := (gName 3)) (tt := tYes)  rfl nd (pi_list (pv 1)) (blkOk_by (N := ["_law_tape_here", "_law_sizes", "_law_rims", "_law_size", "_law_takes", "_law_k", "_law_back", "_law_steps"]) (sc := (defScope s_law_world)) (by decide +kernel)) (fun _ _ _ _ _ => (pg_name (i := 3) nd rfl (Or.inl rfl))) (fun _ _ _ _ _ => pts_nil) (fun _ _ _ _ _ => (pe_op op_sub (pe_c c_law_draw hr (by rfl) (pa_cons (pv 0) (pa_cons pe_int pa_nil))) pe_int))) pa_nil)))
    (pss_one (ps_if (pt_cmpR (op_notInD hu5) (pe_tupO (pa_cons (pv 6) (pa_cons (pv 7) pa_nil))) (pv 4) rfl) (pss_one (ps_expr (pe_bm PySem.F.plainAttrs_list PySem.F.slot_list_append PySem.F.type_list_append mt_appO (pv 4) (pa_cons (pe_tupO (pa_cons (pv 6) (pa_cons (pv 7) pa_nil))) pa_nil)))) pss_nil)))))
    (pss_one (ps_ret (pe_tupO (pa_cons (pv 1) (pa_cons (pv 2) (pa_cons (pv 4) (pa_cons (pe_c c_law_draw hr (by rfl) (pa_cons (pv 0) (pa_cons pe_int pa_nil))) pa_nil))))))))))), ?_⟩
  walk_at "go"
  refine u_lstn l1 fun a0 H0 n0 s0 e0 => ?_
  walk_at "go"
  refine u_lstn l2 fun a1 H1 n1 s1 e1 => ?_
  walk_at "go"
  refine u_lstn l1 fun a2 H2 n2 s2 e2 => ?_
  walk_at "go"
  refine u_lstn l1 fun a3 H3 n3 s3 e3 => ?_
  walk_at "go"
  refine u_lstn l2 fun a4 H4 n4 s4 e4 => ?_
  walk_at "go"
  refine u_lstn l1 fun a5 H5 n5 s5 e5 => ?_
  walk_at "go"
  refine u_lstn l3 fun a6 H6 n6 s6 e6 => ?_
  walk_at "go"
  refine u_lstn l2 fun a7 H7 n7 s7 e7 => ?_
  walk_at "go"
  refine u_lstn (by show 8 ≤ sizeLine; decide) fun ol H8 n8 s8 e8 => ?_
  have t6 := s7.trans s8
  have t5 := s6.trans t6
  have t4 := s5.trans t5
  have t3 := s4.trans t4
  have t2 := s3.trans t3
  have t1 := s2.trans t2
  have t0 := s1.trans t1
  have tS : Same H H8 := s0.trans t0
  have tp8 := tp.same tS
  obtain ⟨txs, etx⟩ := tp.lst
  have nt : ∀ {p : Addr}, H p = none → p ≠ t := fun hp => (ne_of_none etx hp).symm
  have cfgP : Paired (fun (v : V) (ss : List Int) => ∃ l, v = V.ref l ∧ H8 l = some (.lst (ss.map V.int)) ∧ l ≠ t) [.ref a0, .ref a1, .ref a2, .ref a3, .ref a4, .ref a5, .ref a6, .ref a7] cfgs := by
    have f1 := s0.free n1
    have f2 := (s0.trans s1).free n2
    have f3 := ((s0.trans s1).trans s2).free n3
    have f4 := (((s0.trans s1).trans s2).trans s3).free n4
    have f5 := ((((s0.trans s1).trans s2).trans s3).trans s4).free n5
    have f6 := (((((s0.trans s1).trans s2).trans s3).trans s4).trans s5).free n6
    have f7 := ((((((s0.trans s1).trans s2).trans s3).trans s4).trans s5).trans s6).free n7
    exact .cons ⟨a0, rfl, t0 _ _ e0, nt n0⟩ (.cons ⟨a1, rfl, t1 _ _ e1, nt f1⟩ (.cons ⟨a2, rfl, t2 _ _ e2, nt f2⟩ (.cons ⟨a3, rfl, t3 _ _ e3, nt f3⟩ (.cons ⟨a4, rfl, t4 _ _ e4, nt f4⟩ (.cons ⟨a5, rfl, t5 _ _ e5, nt f5⟩ (.cons ⟨a6, rfl, t6 _ _ e6, nt f6⟩ (.cons ⟨a7, rfl, s8 _ _ e7, nt f7⟩ .nil)))))))
  walk_at "go"
  refine call_draw (tp8) (by decide) (by decide) fun n H9 c1 c2 b9 k9 _ tp9 => ?_
  obtain ⟨k, rfl, hk⟩ := nat_of c1 c2
  have nol : ol ≠ t := nt (by
    have := ((((((((s0.trans s1).trans s2).trans s3).trans s4).trans s5).trans s6).trans s7)).free n8
    exact this)
  have hkl : k < 8 := by omega
  obtain ⟨v, hv⟩ : ∃ v, ([V.ref a0, .ref a1, .ref a2, .ref a3, .ref a4, .ref a5, .ref a6, .ref a7] : List V)[k]? = some v := ⟨_, List.getElem?_eq_getElem (show k < 8 from hkl)⟩
  refine w_ixL (b9 _ _ e8 nol) hv ?_
  obtain ⟨ss, hss, ls, rfl, els, nls⟩ := prAt1 cfgP hv
  have hcfg : ss ∈ cfgs := List.mem_of_getElem? hss
  obtain ⟨z1, z2, z3, z4, z5, z6⟩ := cfg_fit ss hcfg
  have els9 := b9 _ _ els nls
  walk_at "go"
  refine u_iLi (SqL.of els9) ?_
  have B9 : But t H H9 := (But.of tS).trans b9
  obtain ⟨txs9, etx9⟩ := tp9.lst
  refine lc_by (walk_list (xs := ss.map V.int)) (fun H' => But t H9 H' ∧ TapeAt H' t) (fun i acc H' => ∃ rs : List Rk, rs.length = i ∧ Paired (fun v r => IsRim H' v r) acc rs) (small_line (by rw [List.length_map]; omega))
    (fun D H1 H2 hD s b => ⟨s.1.two b hD, s.2.but b (ne_of_none etx9 hD)⟩) ⟨But.refl t H9, tp9⟩ (fun H' s => ⟨[], rfl, .nil⟩) (fun i acc H' _ s _ => SqL.of (s.1 _ _ els9 nls)) ?_ ?_
  · intro D i x acc H11 H10 R N put skip hD hi sS pacc e10 y
    obtain ⟨rfl, hx⟩ := y
    obtain ⟨b10, tp10⟩ := sS
    obtain ⟨rs, hrs, prs⟩ := pacc
    refine w_name ⟨rfl, ?_⟩
    walk_at "go"
    refine u_tupn l2 fun r1 G1 m1 g1 f1 => ?_
    walk_at "go"
    refine u_tupn l1 fun r2 G2 m2 g2 f2 => ?_
    walk_at "go"
    refine u_tupn l1 fun r3 G3 m3 g3 f3 => ?_
    walk_at "go"
    refine u_lstn l3 fun rl G4 m4 g4 f4 => ?_
    have g14 := g1.trans (g2.trans (g3.trans g4))
    have rP : Paired (fun v r => IsRim G4 v r) [.ref r1, .ref r2, .ref r3] [Rk.fixed, Rk.mirror, Rk.round] := .cons ⟨r1, rfl, g4 _ _ (g3 _ _ (g2 _ _ f1))⟩ (.cons ⟨r2, rfl, g4 _ _ (g3 _ _ f2)⟩ (.cons ⟨r3, rfl, g4 _ _ f3⟩ .nil))
    walk_at "go"
    have tpG := tp10.same g14
    refine call_draw (tpG) (by decide) (by decide) fun n G5 c1 c2 b5 k5 _ tp5 => ?_
    obtain ⟨k, rfl, hk⟩ := nat_of c1 c2
    have hkl : k < 3 := by omega
    obtain ⟨v, hv⟩ : ∃ v, ([V.ref r1, .ref r2, .ref r3] : List V)[k]? = some v := ⟨_, List.getElem?_eq_getElem (show k < 3 from hkl)⟩
    obtain ⟨txs', etx'⟩ := tpG.lst
    have nrl : rl ≠ t := fun z => by
      obtain ⟨q, eq⟩ := tp10.lst
      have := (g1.trans (g2.trans g3)) _ _ eq
      rw [z] at m4
      rw [m4] at this; cases this
    refine w_ixL (b5 _ _ f4 nrl) hv ?_
    obtain ⟨r, hr', hR⟩ := prAt1 rP hv
    have nD : D ≠ t := (ne_of_none etx9 hD).symm
    refine put _ _ (b5 _ _ (g14 _ _ e10) nD) ⟨(b10.same g14).trans b5, tp5⟩ fun G6 b6 k6 s6 => ⟨rs ++ [r], by rw [List.length_append, hrs]; rfl, ?_⟩
    have kk := ((TK.of g14).trans k5).trans k6
    exact prApp (prImp (fun _ _ q => q.mono kk) prs) (.cons (hR.mono (k5.trans k6)) .nil)
  · intro D acc H10 hD e10 sS pacc
    obtain ⟨b10, tp10⟩ := sS
    obtain ⟨rs, hrs, prs⟩ := pacc
    rw [List.length_map] at hrs
    have nD : D ≠ t := (ne_of_none etx9 hD).symm
    have els10 := b10 _ _ els9 nls
    walk_at "go"
    refine u_lstn l0 fun lt H11 m11 s11 e11 => ?_
    have tp11 := tp10.same s11
    obtain ⟨txs10, etx10⟩ := tp10.lst
    have nlt : lt ≠ t := (ne_of_none etx10 m11).symm
    walk_at "go"
    refine u_lstn (by show 6 ≤ sizeLine; decide) fun nl H12 m12 s12 e12 => ?_
    have nnl : nl ≠ t := fun z => by
      obtain ⟨q, eq⟩ := tp11.lst
      rw [z] at m12
      rw [m12] at eq; cases eq
    walk_at "go"
    refine call_draw (tp11.same s12) (by decide) (by decide) fun n H13 c1 c2 b13 k13 _ tp13 => ?_
    obtain ⟨k, rfl, hk⟩ := nat_of c1 c2
    have hkl : k < 6 := by omega
    obtain ⟨m, hm, hm3⟩ : ∃ m : Nat, ([V.int 2, .int 1, .int 3, .int 2, .int 3, .int 0] : List V)[k]? = some (V.int (m : Nat)) ∧ m ≤ 3 := by
      have : ∀ k, k < 6 → ∃ m : Nat, ([V.int 2, .int 1, .int 3, .int 2, .int 3, .int 0] : List V)[k]? = some (V.int (m : Nat)) ∧ m ≤ 3 := by
        intro k hk
        match k, hk with
        | 0, _ => exact ⟨2, rfl, by decide⟩
        | 1, _ => exact ⟨1, rfl, by decide⟩
        | 2, _ => exact ⟨3, rfl, by decide⟩
        | 3, _ => exact ⟨2, rfl, by decide⟩
        | 4, _ => exact ⟨3, rfl, by decide⟩
        | 5, _ => exact ⟨0, rfl, by decide⟩
      exact this k hkl
    refine w_ixL (b13 _ _ e12 nnl) hm ?_
    walk_at "go"
    refine u_iR1i (by omega) (by omega) ?_
    rw [Int.toNat_natCast]
    have b10' : But t H10 H13 := ((But.of (s11.trans s12)).trans b13)
    have elt13 := b13 _ _ (s12 _ _ e11) nlt
    refine for_by walk_r0 (fun i σ H' => ∃ x3 x5 x6 x7 tks, σ = [some (.ref t), some (.ref ls), some (.ref D), x3, some (.ref lt), x5, x6, x7] ∧ But t H10 H' ∧ TapeAt H' t ∧ SpL H' lt tks ∧ tks.length ≤ i ∧ tks.Nodup ∧ ∀ t ∈ tks, (1 ≤ t.1 ∧ t.1 ≤ 3) ∧ t.2.length = ss.length ∧ ∀ s ∈ t.2, -2 ≤ s ∧ s ≤ 2)
      ⟨_, _, _, _, [], rfl, b10', tp13, ⟨[], elt13, .nil⟩, Nat.le_refl _, List.nodup_nil, fun _ h => nomatch h⟩ (fun _ _ _ _ _ => trivial) ?_ ?_
    · rintro i x σ H15 H14 hi ⟨x3, x5, x6, x7, tks, rfl, b14, tp14, hlt, hl, hnd, htk⟩ ⟨rfl, rfl⟩
      walk_at "go"
      refine u_lstn l4 fun bl G1 m1 g1 f1 => ?_
      have nbl : bl ≠ t := fun z => by
        obtain ⟨q, eq⟩ := tp14.lst
        rw [z] at m1
        rw [m1] at eq; cases eq
      walk_at "go"
      refine call_draw (tp14.same g1) (by decide) (by decide) fun n G2 c1 c2 b2 k2 _ tp2 => ?_
      obtain ⟨k, rfl, hk⟩ := nat_of c1 c2
      have hkl : k < 4 := by omega
      obtain ⟨bk, hbk, hb1, hb3⟩ : ∃ b : Int, ([V.int 1, .int 1, .int 2, .int 3] : List V)[k]? = some (V.int b) ∧ 1 ≤ b ∧ b ≤ 3 := by
        match k, hkl with
        | 0, _ => exact ⟨1, rfl, by decide, by decide⟩
        | 1, _ => exact ⟨1, rfl, by decide, by decide⟩
        | 2, _ => exact ⟨2, rfl, by decide, by decide⟩
        | 3, _ => exact ⟨3, rfl, by decide, by decide⟩
      refine w_ixL (b2 _ _ f1 nbl) hbk ?_
      walk_at "go"
      have B2 : But t H10 G2 := (b14.same g1).trans b2
      have hlt2 : SpL G2 lt tks := (hlt.mono g1).but b2 k2 nlt
      have els2 := B2 _ _ els10 nls
      obtain ⟨txs2, etx2⟩ := tp2.lst
      refine u_iLi (SqL.of els2) ?_
      refine lc_by (walk_list (xs := ss.map V.int)) (fun H' => But t G2 H' ∧ TapeAt H' t) (fun i acc H' => ∃ xs : List Int, xs.length = i ∧ acc = xs.map V.int ∧ ∀ s ∈ xs, -2 ≤ s ∧ s ≤ 2) (small_line (by rw [List.length_map]; omega))
        (fun D H1 H2 hD s b => ⟨s.1.two b hD, s.2.but b (ne_of_none etx2 hD)⟩) ⟨But.refl t G2, tp2⟩ (fun H' s => ⟨[], rfl, rfl, fun _ h => nomatch h⟩) (fun i acc H' _ s _ => SqL.of (s.1 _ _ els2 nls)) ?_ ?_
      · intro D2 j x acc G4 G3 R N put skip hD2 hj sS pacc e3 y
        obtain ⟨rfl, hx⟩ := y
        obtain ⟨b3, tp3⟩ := sS
        obtain ⟨xs, hxs, rfl, hb⟩ := pacc
        have nD2 : D2 ≠ t := (ne_of_none etx2 hD2).symm
        refine w_name ⟨rfl, ?_⟩
        walk_at "go"
        refine call_draw (tp3) (by decide) (by decide) fun n G4 c1 c2 b4 k4 _ tp4 => ?_
        walk_at "go"
        refine put _ _ (b4 _ _ e3 nD2) ⟨b3.trans b4, tp4⟩ fun G6 b6 k6 s6 => ⟨xs ++ [n - 2], by rw [List.length_append, hxs]; rfl, by rw [List.map_append]; rfl, fun s hs => ?_⟩
        rcases List.mem_append.mp hs with h | h
        · exact hb s h
        · rw [List.mem_singleton.mp h]; omega
      · intro D2 acc G3 hD2 e3 sS pacc
        obtain ⟨b3, tp3⟩ := sS
        obtain ⟨xs, hxs, rfl, hb⟩ := pacc
        rw [List.length_map] at hxs
        walk_at "go"
        refine u_tup_of e3 fun st G4 m4 g4 f4 => ?_
        walk_at "go"
        refine u_tupn l2 fun pr G5 m5 g5 f5 => ?_
        walk_at "go"
        have g45 := g4.trans g5
        have tk3 := tp2.tk b3
        have hlt5 : SpL G5 lt tks := ((hlt2.but b3 tk3 nlt)).mono g45
        have hnew : IsSp G5 (.ref pr) (bk, xs) := ⟨pr, .ref st, rfl, f5, st, rfl, g5 _ _ f4⟩
        refine g_ninSp hnew hlt5 ?_
        have B5 : But t H10 G5 := (B2.trans b3).same g45
        have tp5 := tp3.same g45
        walk_at "go"
        refine u_if2 (fun c => ?_) fun c => ?_
        · have hni : (bk, xs) ∉ tks := by simpa using c
          obtain ⟨lv, elv, plv⟩ := hlt5
          walk_at "go"
          refine u_bmL elv ?_
          walk_at "go"
          refine u_tupn l2 fun pr2 G6 m6 g6 f6 => ?_
          walk_at "go"
          have lvl : lv.length ≤ 3 := by rw [prLen plv]; omega
          refine u_app (g6 _ _ elv) (small_line (by omega)) fun G7 b7 k7 n7 f7 => ?_
          refine ⟨_, _, _, _, tks ++ [(bk, xs)], rfl, (B5.same g6).two b7 m11, (tp5.same g6).but b7 nlt.symm, ⟨_, f7, prApp (sps_mono ((TK.of g6).trans k7) plv) (.cons ⟨pr2, .ref st, rfl, k7 _ _ f6, st, rfl, k7 _ _ (g6 _ _ (g5 _ _ f4))⟩ .nil)⟩, by rw [List.length_append, List.length_singleton]; omega, ?_, ?_⟩
          · rw [List.nodup_append]
            exact ⟨hnd, List.nodup_cons.mpr ⟨by simp, List.nodup_nil⟩, fun a ha b hb e => by rw [List.mem_singleton.mp hb] at e; exact hni (e ▸ ha)⟩
          · intro z hz
            rcases List.mem_append.mp hz with h | h
            · exact htk z h
            · rw [List.mem_singleton.mp h]
              exact ⟨⟨hb1, hb3⟩, hxs, hb⟩
        · walk_at "go"
          exact ⟨_, _, _, _, tks, rfl, B5, tp5, hlt5, by omega, hnd, htk⟩
    · rintro σ H14 ⟨x3, x5, x6, x7, tks, rfl, b14, tp14, hlt, hl, hnd, htk⟩
      walk_at "go"
      refine call_draw (tp14) (by decide) (by decide) fun n H15 c1 c2 b15 k15 _ tp15 => ?_
      walk_at "go"
      refine u_tupn l4 fun wv H16 m16 s16 e16 => ?_
      have hes : rs.length = ss.length := hrs
      have B15 := b14.trans b15
      refine q _ H16 ⟨ss.zip rs, tks, n⟩ ⟨by rw [zip_szs hes]; exact hcfg, hnd, show tks.length ≤ 3 by omega, fun z hz => ?_, c1, by show n ≤ 5; omega⟩ ⟨wv, ls, D, lt, acc, rfl, e16, ?_, ?_, ?_, ?_⟩ (((B9.trans b10).trans B15).same s16)
      · obtain ⟨h1, h2, h3⟩ := htk z hz
        refine ⟨h1, ?_, h3⟩
        rw [h2]
        show ss.length = (ss.zip rs).length
        rw [List.length_zip]; omega
      · show H16 ls = some (.lst ((ss.zip rs).map fun e => V.int e.1))
        rw [zip_fst hes]
        exact s16 _ _ (B15 _ _ els10 nls)
      · exact s16 _ _ (B15 _ _ e10 nD)
      · have kk := (tp10.tk B15).trans (TK.of s16)
        exact prImp (fun _ _ q => q.mono kk) (zip_rim hes prs)
      · exact (hlt.but b15 k15 nlt).mono s16
end
end SL
end PtD14
/-! part D15 -/
section PtD15
/-! D15: the law's places, spots, leans. -/
namespace SL
open PySem PySem.Spec PyProof.Rows L2
/-- one step that needs nothing -/
local macro_rules | `(tactic| walk_at "sl1") => `(tactic| first
  | (with_reducible refine w_varh ?_; refine ⟨_, rfl, ?_⟩) | (with_reducible refine w_rEqh ?_; refine ⟨rfl, ?_⟩) | (with_reducible refine w_rNeh ?_; refine ⟨rfl, ?_⟩)
  | with_reducible refine w_seq ?_ | with_reducible refine w_asg ?_ | with_reducible refine w_c ?_ | with_reducible refine w_op ?_ | with_reducible refine w_rI0 ?_ | with_reducible refine u_test ?_ | with_reducible refine u_tb ?_ | with_reducible refine u_bl ?_ | with_reducible refine u_ifs ?_ | with_reducible refine u_ift ?_ | with_reducible refine u_iff ?_ | with_reducible refine w_cons ?_ | with_reducible refine w_nil ?_ | with_reducible refine w_cl ?_ | with_reducible refine w_cb ?_ | with_reducible refine w_ret ?_ | with_reducible refine w_drop ?_ | with_reducible refine w_name ?_ | with_reducible refine w_next ?_
  | with_reducible refine u_fld ?_ | with_reducible refine u_tup ?_ | with_reducible refine u_lst ?_ | with_reducible refine u_not ?_ | with_reducible refine u_nott ?_ | with_reducible refine u_notf ?_ | with_reducible refine u_and ?_ | with_reducible refine u_or ?_ | with_reducible refine u_andt ?_ | with_reducible refine u_andf ?_ | with_reducible refine u_ort ?_ | with_reducible refine u_orf ?_ | with_reducible refine u_andV ?_ | with_reducible refine u_orV ?_ | with_reducible refine u_andVt ?_ | with_reducible refine u_andVf ?_ | with_reducible refine u_orVt ?_ | with_reducible refine u_orVf ?_ | with_reducible refine u_notV ?_ | with_reducible refine u_notVb ?_
  | with_reducible refine u_chain ?_ | with_reducible refine u_cht ?_ | with_reducible refine u_chf ?_ | with_reducible refine w_un ?_ | with_reducible refine w_rU ?_ | with_reducible refine w_isN ?_ | with_reducible refine w_notN ?_ | with_reducible refine u_bm ?_ | with_reducible refine u_sl ?_ | with_reducible refine u_part ?_ | with_reducible refine u_parti ?_ | with_reducible refine u_nopart ?_ | with_reducible refine u_m1 ?_ | with_reducible refine u_mt ?_ | with_reducible refine u_mk ?_ | with_reducible refine u_nget ?_ | with_reducible refine u_nin ?_ | with_reducible refine u_nput ?_ | with_reducible refine u_fldS ?_
  | with_reducible refine u_for ?_ | with_reducible refine u_lc ?_ | with_reducible refine u_iL ?_ | with_reducible refine u_iT ?_ | with_reducible refine u_iE ?_ | with_reducible refine u_iZ ?_ | with_reducible refine u_iZ2 ?_ | with_reducible refine u_iZ3 ?_ | with_reducible refine u_iR1 ?_ | with_reducible refine u_iR2 ?_ | with_reducible refine u_sub ?_ | with_reducible refine u_isA_int ?_ | with_reducible refine u_isA_bool ?_ | with_reducible refine u_int1 ?_ | with_reducible refine u_intB ?_ | with_reducible refine u_min2 ?_ | with_reducible refine u_kw ?_ | with_reducible refine w_yes ?_ | with_reducible refine u_srt ?_ | with_reducible refine u_yt ?_ | with_reducible refine u_yf ?_)
local macro_rules | `(tactic| walk_at "go") => `(tactic| repeat walk_at "sl1")
theorem WdOk.szb {W : Wd} (o : WdOk W) : SzB (szs W.es) := by
  obtain ⟨z1, z2, z3, _⟩ := cfg_fit _ o.sz
  exact ⟨z2, fun s hs => ⟨(z3 s hs).1, by have := (z3 s hs).2; omega⟩⟩
theorem WdOk.pls {W : Wd} (o : WdOk W) : (placesOf (szs W.es)).length ≤ 6 := (cfg_fit _ o.sz).2.2.2.2.1
def Wd.spots (W : Wd) : List Spot := spotsOf W.r (placesOf (szs W.es))
def IsTh (H : Hp) (v : V) : Option (List Int) → Prop
  | none => v = .non
  | some pl => IsPl H v pl
def addLn (found : List Spot) : Wh → List Spot
  | .spot x => if x ∈ found then found else found ++ [x]
  | _ => found
def lnL (es : List (Int × Rk)) (ts : List Spot) (s : Spot) : List Spot := ts.foldl (fun f t => addLn f (whOf es s t)) []
theorem lnL_at {es : List (Int × Rk)} {ts : List Spot} {s t : Spot} {i : Nat} (h : ts[i]? = some t) : lnL es (ts.take (i + 1)) s = addLn (lnL es (ts.take i) s) (whOf es s t) := by
  unfold lnL
  rw [take_succ_of h, List.foldl_append]
  rfl
theorem lnL_mem (es : List (Int × Rk)) (s : Spot) : ∀ (ts : List Spot) (x : Spot), x ∈ lnL es ts s ↔ x ∈ lnP es ts s := by
  have key : ∀ (ts : List Spot) (f : List Spot) (x : Spot), x ∈ ts.foldl (fun f t => addLn f (whOf es s t)) f ↔ x ∈ f ∨ x ∈ lnP es ts s := by
    intro ts
    induction ts with
    | nil => intro f x; simp [lnP]
    | cons t ts ih =>
      intro f x
      rw [List.foldl_cons, ih]
      have e : lnP es (t :: ts) s = (match whOf es s t with | .spot x => [x] | _ => []) ++ lnP es ts s := by
        unfold lnP
        rw [List.filterMap_cons]
        cases whOf es s t <;> rfl
      rw [e, List.mem_append]
      cases whOf es s t with
      | rim => simp [addLn]
      | first => simp [addLn]
      | spot y =>
        unfold addLn
        by_cases c : y ∈ f
        · simp only [c, if_true, List.mem_singleton]
          constructor
          · rintro (h | h)
            · exact .inl h
            · exact .inr (.inr h)
          · rintro (h | h | h)
            · exact .inl h
            · exact .inl (h ▸ c)
            · exact .inr h
        · simp only [c, if_false, List.mem_append, List.mem_singleton]
          constructor
          · rintro ((h | h) | h)
            · exact .inl h
            · exact .inr (.inl h)
            · exact .inr (.inr h)
          · rintro (h | h | h)
            · exact .inl (.inl h)
            · exact .inl (.inr h)
            · exact .inr h
  intro ts x
  have := key ts [] x
  unfold lnL
  rw [this]
  simp
theorem lnL_len (es : List (Int × Rk)) (s : Spot) : ∀ (ts : List Spot), (lnL es ts s).length ≤ ts.length := by
  have key : ∀ (ts : List Spot) (f : List Spot), (ts.foldl (fun f t => addLn f (whOf es s t)) f).length ≤ f.length + ts.length := by
    intro ts
    induction ts with
    | nil => intro f; simp
    | cons t ts ih =>
      intro f
      rw [List.foldl_cons]
      have h1 := ih (addLn f (whOf es s t))
      have h2 : (addLn f (whOf es s t)).length ≤ f.length + 1 := by
        unfold addLn
        cases whOf es s t with
        | rim => simp
        | first => simp
        | spot y =>
          show (if y ∈ f then f else f ++ [y]).length ≤ _
          split
          · omega
          · rw [List.length_append]; simp
      rw [List.length_cons]
      omega
  intro ts
  have := key ts []
  simpa [lnL] using this
section
variable {P : Program} {w : World} {K : PySem.W.Frag} {mg : Str → Option Value} {base : Heap}
def spLPl (K : PySem.W.Frag) : Sp := SpF (fun a : Addr => [.ref a]) fun a H Q => ∃ ss, H a = some (.lst (ss.map V.int)) ∧ SzB ss ∧ ∀ p H', H p = none → Same H H' → PlL H' p (placesOf ss) → Q (.ref p) H'
theorem ok_lplaces (T : Txt K mg) : Cal P w K mg base 1 "_law_places" (spLPl K) := by
  refine .of (.of (F_law_places T) sc_law_places (b_law_places T) (spf_len fun _ => rfl) fun cdv A outer s H vs Q E hr h => ?_) (glo_law_places T)
  have nd := sc_law_places.nd
  obtain ⟨a, rfl, ss, e, g, q⟩ := h
  refine ⟨_, (pss_cons (ps_set (i := 1) nd rfl (Or.inl rfl) (pe_lstO (pa_cons (pe_tupO pa_nil) pa_nil)))
    (pss_cons (ps_for PassesOwn.never rfl (pi_list (pv 0)) (pg_name (i := 2) nd rfl (Or.inl rfl)) (pss_cons (ps_set (i := 3) nd rfl (Or.inl rfl) (pe_lstO pa_nil))
    (pss_cons (ps_for PassesOwn.never rfl (pi_list (pv 1)) (pg_name (i := 4) nd rfl (Or.inr rfl)) (pss_one (ps_expr (pe_bm PySem.F.plainAttrs_list PySem.F.slot_list_extend PySem.F.type_list_extend mt_extO (pv 3) (pa_cons (pe_lc (own := [("_law_k", 5)]) (g := (gName 5)) (tt := tYes)  rfl nd (pi_range1 (by rfl) (free_range T) (pa_cons (pv 2) pa_nil)) (blkOk_by (N := ["_law_sizes", "_law_found", "_law_size", "_law_longer", "_law_place", "_law_k"]) (sc := (defScope s_law_places)) (by decide +kernel)) (fun _ _ _ _ _ => (pg_name (i := 5) nd rfl (Or.inl rfl))) (fun _ _ _ _ _ => pts_nil) (fun _ _ _ _ _ => (pe_op op_catTO (pv 4) (pe_tupO (pa_cons (pv 5) pa_nil))))) pa_nil)))))
    (pss_one (ps_set (i := 1) nd rfl (Or.inl rfl) (pv 3))))))
    (pss_one (ps_ret (pv 1))))), ?_⟩
  walk_at "go"
  refine u_tupn l0 fun t H1 ht s1 e1 => ?_
  walk_at "go"
  refine u_lstn l1 fun f H2 hf s2 e2 => ?_
  walk_at "go"
  refine u_iLi (SqL.of (s2 _ _ (s1 _ _ e))) ?_
  refine for_places (s1.trans s2) e (s1.free hf) g ⟨_, e2, .cons ⟨t, rfl, s2 _ _ e1⟩ .nil⟩ fun f' y2 y3 y4 y5 H' hf' sH hp => ?_
  walk_at "go"
  exact q f' H' hf' sH hp
def spLSp (K : PySem.W.Frag) : Sp := SpF (fun v : V => [v]) fun v H Q => ∃ W, IsWd H v W ∧ WdOk W ∧ ∀ p H', H p = none → Same H H' → SpL H' p W.spots → Q (.ref p) H'
theorem ok_lspots (T : Txt K mg) : Cal P w K mg base 2 "_law_spots" (spLSp K) := by
  refine .of (.of (F_law_spots T) sc_law_spots (b_law_spots T) (spf_len fun _ => rfl) fun cdv A outer s H vs Q E hr h => ?_) (glo_law_spots T)
  have nd := sc_law_spots.nd
  have c_law_places := ok_lplaces (P := P) (w := w) (base := base) T
  obtain ⟨v, rfl, W, ⟨a, ls, lr, lt, vr, rfl, ha, hls, _⟩, o, q⟩ := h
  rw [szs_int] at hls
  have o0 := o.r0
  have o5 := o.r5
  refine ⟨_, (pss_cons (ps_set (i := 1) nd rfl (Or.inl rfl) (pe_lstO pa_nil))
    (pss_cons (ps_for PassesOwn.never rfl (pi_range2 (by rfl) (free_range T) (pa_cons pe_int (pa_cons (pe_op op_add (pe_ix ix_tup (pv 0) pe_int (fun _ _ => rfl)) pe_int) pa_nil))) (pg_name (i := 2) nd rfl (Or.inr rfl)) (pss_one (ps_expr (pe_bm PySem.F.plainAttrs_list PySem.F.slot_list_extend PySem.F.type_list_extend mt_extO (pv 1) (pa_cons (pe_lc (own := [("_law_place", 3)]) (g := (gName 3)) (tt := tYes)  rfl nd (pi_list (pe_c c_law_places hr (by rfl) (pa_cons (pe_ix ix_tup (pv 0) pe_int (fun _ _ => rfl)) pa_nil))) (blkOk_by (N := ["_law_world_here", "_law_found", "_law_turn", "_law_place"]) (sc := (defScope s_law_spots)) (by decide +kernel)) (fun _ _ _ _ _ => (pg_name (i := 3) nd rfl (Or.inl rfl))) (fun _ _ _ _ _ => pts_nil) (fun _ _ _ _ _ => (pe_tupO (pa_cons (pv 2) (pa_cons (pv 3) pa_nil))))) pa_nil)))))
    (pss_one (ps_ret (pv 1))))), ?_⟩
  walk_at "go"
  refine u_lstn l0 fun f H1 hf s1 e1 => ?_
  walk_at "go"
  refine w_ixT (n := 3) (s1 _ _ ha) rfl ?_
  walk_at "go"
  refine u_iR2i (by omega) ?_
  have er : W.r + 1 - 1 = W.r := by omega
  rw [er]
  refine for_spots (pls := placesOf (szs W.es)) s1 hf e1 (Nat.le_trans o.pls (by decide)) (by omega) (fun x2 x3 H' R sB k => ?_) fun y2 y3 H' sB hsp => ?_
  · walk_at "go"
    refine w_ixT (n := 0) (sB _ _ ha) rfl ?_
    walk_at "go"
    refine ⟨ls, rfl, szs W.es, sB _ _ hls, o.szb, fun p H2 hp s2 hpl => ?_⟩
    obtain ⟨us, eu, pu⟩ := id hpl
    exact u_iLi (SqL.of eu) (k p H2 hp s2 hpl)
  · walk_at "go"
    exact q f H' hf sB hsp
def spLTh (K : PySem.W.Frag) : Sp := SpF (fun x : V × V × V => [x.1, x.2.1, x.2.2]) fun x H Q => ∃ W pl st, IsWd H x.1 W ∧ WdOk W ∧ IsPl H x.2.1 pl ∧ IsPl H x.2.2 st ∧ pl.length = W.es.length ∧ st.length = W.es.length ∧ ∀ v H', Same H H' → IsTh H' v (bsd W.es pl st []) → Q v H'
theorem ok_lthere (T : Txt K mg) : Cal P w K mg base 1 "_law_there" (spLTh K) := by
  refine .of (.of (F_law_there T) sc_law_there (b_law_there T) (spf_len fun _ => rfl) fun cdv A outer s H vs Q E hr h => ?_) (glo_law_there T)
  have nd := sc_law_there.nd
  obtain ⟨⟨v, v1, v2⟩, rfl, W, pl, st, ⟨a, ls, lr, lt, vr, e, ha, hls, hlr, hr', _⟩, o, ⟨b, e1, hb⟩, ⟨c, e2, hc⟩, lp, lst', q⟩ := h
  dsimp only at e e1 e2 q
  subst e e1 e2
  obtain ⟨hz1, hz2⟩ := o.szb
  have hes : W.es.length ≤ 3 := by unfold szs at hz1; rwa [List.length_map] at hz1
  refine ⟨_, (pss_cons (ps_set (i := 3) nd rfl (Or.inl rfl) (pe_tupO pa_nil))
    (pss_cons (ps_for PassesOwn.never rfl (pi_enum (by rfl) (free_enumerate T) (pa_cons (pe_ix ix_tup (pv 0) pe_int (fun _ _ => rfl)) pa_nil)) (pg_tup rfl (pgs_cons (pg_name (i := 4) nd rfl (Or.inl rfl)) (pgs_cons (pg_name (i := 5) nd rfl (Or.inl rfl)) pgs_nil))) (pss_cons (ps_set (i := 6) nd rfl (Or.inl rfl) (pe_op op_add (pe_ix ix_tup (pv 1) (pv 4) (fun _ _ => rfl)) (pe_ix ix_tup (pv 2) (pv 4) (fun _ _ => rfl))))
    (pss_cons (ps_if (PW.pt (pw_and (pt_not (pt_chain op_le op_lt pe_int (pv 6) (pv 5))) (pw_and1 (pt_cmpR op_eq (pe_ix ix_tup (pe_ix ix_list (pe_ix ix_tup (pv 0) pe_int (fun _ _ => rfl)) (pv 4) (fun _ _ => rfl)) pe_int (fun _ _ => rfl)) pe_str (nomark _))))) (pss_one (ps_ret pe_non)) pss_nil)
    (pss_cons (ps_if (pt_cmpR op_eq (pe_ix ix_tup (pe_ix ix_list (pe_ix ix_tup (pv 0) pe_int (fun _ _ => rfl)) (pv 4) (fun _ _ => rfl)) pe_int (fun _ _ => rfl)) pe_str (nomark _)) (pss_one (ps_set (i := 6) nd rfl (Or.inl rfl) (pe_op op_mod (pv 6) (pv 5)))) pss_nil)
    (pss_cons (ps_if (pt_cmpR op_eq (pe_ix ix_tup (pe_ix ix_list (pe_ix ix_tup (pv 0) pe_int (fun _ _ => rfl)) (pv 4) (fun _ _ => rfl)) pe_int (fun _ _ => rfl)) pe_str (nomark _)) (pss_one (ps_set (i := 6) nd rfl (Or.inl rfl) (pe_callB (cr_min2 rfl) (by rfl) (free_min T) (by decide +kernel) (pa_cons (pe_op op_mod (pv 6) (pe_op op_mul pe_int (pv 5))) (pa_cons (pe_op op_sub (pe_op op_sub (pe_op op_mul pe_int (pv 5)) pe_int) (pe_op op_mod (pv 6) (pe_op op_mul pe_int (pv 5)))) pa_nil))))) pss_nil)
    (pss_one (ps_set (i := 3) nd rfl (Or.inl rfl) (pe_op op_catTO (pv 3) (pe_tupO (pa_cons (pv 6) pa_nil))))))))))
    (pss_one (ps_ret (pv 3))))), ?_⟩
  walk_at "go"
  refine u_tupn l0 fun f H1 hf s1 f1 => ?_
  walk_at "go"
  refine w_ixT (n := 0) (s1 _ _ ha) rfl ?_
  walk_at "go"
  refine u_iEi (s1 _ _ hls) ?_
  refine for_by (walk_enum (xs := W.es.map fun e => V.int e.1)) (fun i σ H' => ∃ f x4 x5 x6 acc, σ = [some (.ref a), some (.ref b), some (.ref c), some f, x4, x5, x6] ∧ Same H H' ∧ IsPl H' f acc ∧ acc.length = i ∧ bsd W.es pl st [] = bsd (W.es.drop i) (pl.drop i) (st.drop i) acc)
    ⟨.ref f, _, _, _, [], rfl, s1, ⟨f, rfl, f1⟩, rfl, rfl⟩ (fun i σ H' _ ⟨_, _, _, _, _, _, s, _⟩ => SqL.of (s _ _ hls)) ?_ ?_
  · rintro i x σ H2 H3 hi ⟨f, x4, x5, x6, acc, rfl, s2, hf2, hacc, hbs⟩ ⟨t, x, y, rfl, ht, rfl, g1, g2⟩
    cases g1
    obtain ⟨e0, he, rfl⟩ := vals_map g2
    have hi2 : i < W.es.length := by rwa [List.length_map] at hi
    have hz : 1 ≤ e0.1 ∧ e0.1 ≤ 9 := hz2 e0.1 (by unfold szs; exact List.mem_map.mpr ⟨e0, List.mem_of_getElem? he, rfl⟩)
    have hp : pl[i]? = some pl[i] := List.getElem?_eq_getElem (by omega)
    have hn : st[i]? = some st[i] := List.getElem?_eq_getElem (by omega)
    generalize pl[i] = p at hp
    generalize st[i] = n at hn
    rw [drop_at he, drop_at hp, drop_at hn] at hbs
    obtain ⟨rv, hrv, ra, rfl, hra⟩ := prAt2 hr' he
    have s3 := s2.trans (same_new (H := H2) (o := .tup [V.int (i : Nat), V.int e0.1]) ht)
    have hf3 := hf2.mono (tk_new (o := .tup [V.int (i : Nat), V.int e0.1]) ht)
    have hpi : (pl.map V.int)[i]? = some (V.int p) := by rw [List.getElem?_map, hp]; rfl
    have hni : (st.map V.int)[i]? = some (V.int n) := by rw [List.getElem?_map, hn]; rfl
    have h0 : e0.2.vs[0]? = some (V.str e0.2.word) := by cases e0.2 <;> rfl
    generalize hH3 : upd H2 t (.tup [V.int (i : Nat), V.int e0.1]) = H3 at s3 hf3
    refine w_two (by rw [← hH3]; exact upd_same) ?_
    have rim : ∀ {Q : VK} {σ' : L2.St}, σ'[0]? = some (some (V.ref a)) → σ'[4]? = some (some (V.int (i : Nat))) → Q (V.str e0.2.word) H3 → tOp (rIxT K) (tOp (rIxL K) (tOp (rIxT K) (tVar 0) (tC (.int 1))) (tVar 4)) (tC (.int 0)) σ' H3 Q := by
      intro Q σ' h1 h2 q
      refine w_op (w_op (w_op ?_))
      refine ⟨_, h1, ?_⟩
      refine w_c ?_
      refine w_ixT (n := 1) (s3 _ _ ha) rfl ?_
      refine ⟨_, h2, ?_⟩
      refine w_ixL (s3 _ _ hlr) hrv ?_
      refine w_c ?_
      exact w_ixT (n := 0) (s3 _ _ hra) h0 q
    have fin : ∀ (m : Int) (D : Ends), atN e0.2 e0.1 (p + n) = some m → (∀ f' H', Same H H' → IsPl H' f' (acc ++ [m]) → bsd W.es pl st [] = bsd (W.es.drop (i + 1)) (pl.drop (i + 1)) (st.drop (i + 1)) (acc ++ [m]) → D.nx [some (.ref a), some (.ref b), some (.ref c), some f', some (.int (i : Nat)), some (.int e0.1), some (.int m)] H') →
        tAsg (tOp rCatTO (tVar 3) (tTupO (tCons (tVar 6) tNil))) (gName 3) D [some (.ref a), some (.ref b), some (.ref c), some f, some (.int (i : Nat)), some (.int e0.1), some (.int m)] H3 := by
      intro m D hat k
      rw [bsd_some hat] at hbs
      walk_at "go"
      refine u_tupn l1 fun r H4 hr4 s4 h4 => ?_
      obtain ⟨fa, rfl, hfa⟩ := hf3
      refine u_catT (s4 _ _ hfa) h4 (small_line (by rw [List.length_map]; omega)) fun r' H5 s5 h5 => ?_
      walk_at "go"
      refine k _ H5 (s3.trans (s4.trans s5)) ⟨r', rfl, ?_⟩ hbs
      rw [h5, List.map_append]
      rfl
    walk_at "go"
    refine w_ixT (s3 _ _ hb) hpi ?_
    walk_at "go"
    refine w_ixT (s3 _ _ hc) hni ?_
    refine w_rI0 ?_
    refine w_name ?_
    with_reducible refine w_seq ?_
    with_reducible refine u_ifs ?_
    -- the test of the fixed rim
    have test : ∀ {Q : BK} {σ' : L2.St}, σ'[0]? = some (some (V.ref a)) → σ'[4]? = some (some (V.int (i : Nat))) → σ'[5]? = some (some (V.int e0.1)) → σ'[6]? = some (some (V.int (p + n))) → Q (decide (¬ (0 ≤ p + n ∧ p + n < e0.1) ∧ e0.2 = .fixed)) H3 →
        tAnd (tNot (tTest (tChain (rI0 fun i j => .bl (decide (i ≤ j))) (rI0 fun i j => .bl (decide (i < j))) (tC (.int 0)) (tVar 6) (tVar 5)))) (tTest (tOp rEq (tOp (rIxT K) (tOp (rIxL K) (tOp (rIxT K) (tVar 0) (tC (.int 1))) (tVar 4)) (tC (.int 0))) (tC (.str "fixed")))) σ' H3 Q := by
      intro Q σ' h1 h2 h3 h4 q
      have out : ¬ (0 ≤ p + n ∧ p + n < e0.1) → rAnd (tTest (tOp rEq (tOp (rIxT K) (tOp (rIxL K) (tOp (rIxT K) (tVar 0) (tC (.int 1))) (tVar 4)) (tC (.int 0))) (tC (.str "fixed")))) σ' true H3 Q := by
        intro hno
        refine u_andt (u_test (w_op (rim h1 h2 (w_c ⟨by cases e0.2 <;> rfl, ?_⟩))))
        refine u_bl ?_
        have e : decide (V.str e0.2.word = V.str "fixed") = decide (¬ (0 ≤ p + n ∧ p + n < e0.1) ∧ e0.2 = .fixed) := by
          have h1 : decide (V.str e0.2.word = V.str "fixed") = decide (e0.2 = Rk.fixed) := by cases e0.2 <;> decide
          rw [h1]
          by_cases z : e0.2 = .fixed
          · rw [decide_eq_true z, decide_eq_true ⟨hno, z⟩]
          · rw [decide_eq_false z, decide_eq_false fun h => z h.2]
        rw [e]
        exact q
      refine u_and (u_not (u_test (u_chain (w_c ⟨_, h4, w_rI0 ?_⟩))))
      refine u_ch2 (fun c => ?_) fun c => ?_
      · refine ⟨_, h3, w_rI0 (u_bl ?_)⟩
        by_cases c2 : p + n < e0.1
        · refine u_notT (decide_eq_true c2) (u_andf ?_)
          have : ¬ (¬ (0 ≤ p + n ∧ p + n < e0.1) ∧ e0.2 = .fixed) := fun h => h.1 ⟨of_decide_eq_true c, c2⟩
          rwa [decide_eq_false this] at q
        · exact u_notF (decide_eq_false c2) (out fun h => c2 h.2)
      · exact u_bl (u_notf (out fun h => of_decide_eq_false c h.1))
    refine test (by rfl) (by rfl) (by rfl) (by rfl) ?_
    have wrd : ∀ x : Str, decide (V.str e0.2.word = V.str x) = decide (e0.2.word = x) := fun x => by simp
    cases hr2 : e0.2 with
    | fixed =>
      rw [hr2] at fin rim
      by_cases hin : 0 ≤ p + n ∧ p + n < e0.1
      · refine u_ifF (decide_eq_false fun h => h.1 hin) ?_
        walk_at "go"
        refine w_ixT (n := 1) (s3 _ _ ha) rfl ?_
        walk_at "go"
        refine w_ixL (s3 _ _ hlr) hrv ?_
        walk_at "go"
        refine w_ixT (n := 0) (s3 _ _ hra) h0 ?_
        walk_at "go"
        refine u_ifF (by rw [hr2]; decide) ?_
        walk_at "go"
        refine w_ixT (n := 1) (s3 _ _ ha) rfl ?_
        walk_at "go"
        refine w_ixL (s3 _ _ hlr) hrv ?_
        walk_at "go"
        refine w_ixT (n := 0) (s3 _ _ hra) h0 ?_
        walk_at "go"
        refine u_ifF (by rw [hr2]; decide) ?_
        refine w_next ?_
        exact fin (p + n) _ (if_pos hin) fun f' H' sH hpl hb' => ⟨f', _, _, _, _, rfl, sH, hpl, by rw [List.length_append, hacc]; rfl, hb'⟩
      · refine u_ifT (decide_eq_true ⟨hin, rfl⟩) ?_
        walk_at "go"
        refine q _ _ s3 ?_
        have hat : atN e0.2 e0.1 (p + n) = none := by rw [hr2]; exact if_neg hin
        rw [bsd_none hat] at hbs
        rw [hbs]
        rfl
    | round =>
      rw [hr2] at fin rim
      refine u_ifF (decide_eq_false fun h => nomatch h.2) ?_
      walk_at "go"
      refine w_ixT (n := 1) (s3 _ _ ha) rfl ?_
      walk_at "go"
      refine w_ixL (s3 _ _ hlr) hrv ?_
      walk_at "go"
      refine w_ixT (n := 0) (s3 _ _ hra) h0 ?_
      walk_at "go"
      refine u_ifT (by rw [hr2]; decide) ?_
      walk_at "go"
      refine w_rI (show (0 : Int) < e0.1 by omega) ?_
      walk_at "go"
      refine w_ixT (n := 1) (s3 _ _ ha) rfl ?_
      walk_at "go"
      refine w_ixL (s3 _ _ hlr) hrv ?_
      walk_at "go"
      refine w_ixT (n := 0) (s3 _ _ hra) h0 ?_
      walk_at "go"
      refine u_ifF (by rw [hr2]; decide) ?_
      refine w_next ?_
      exact fin ((p + n) % e0.1) _ rfl fun f' H' sH hpl hb' => ⟨f', _, _, _, _, rfl, sH, hpl, by rw [List.length_append, hacc]; rfl, hb'⟩
    | mirror =>
      rw [hr2] at fin rim
      refine u_ifF (decide_eq_false fun h => nomatch h.2) ?_
      walk_at "go"
      refine w_ixT (n := 1) (s3 _ _ ha) rfl ?_
      walk_at "go"
      refine w_ixL (s3 _ _ hlr) hrv ?_
      walk_at "go"
      refine w_ixT (n := 0) (s3 _ _ hra) h0 ?_
      walk_at "go"
      refine u_ifF (by rw [hr2]; decide) ?_
      walk_at "go"
      refine w_ixT (n := 1) (s3 _ _ ha) rfl ?_
      walk_at "go"
      refine w_ixL (s3 _ _ hlr) hrv ?_
      walk_at "go"
      refine w_ixT (n := 0) (s3 _ _ hra) h0 ?_
      walk_at "go"
      refine u_ifT (by rw [hr2]; decide) ?_
      walk_at "go"
      refine w_rI (.inl ⟨by decide, by decide⟩) (w_rI (show (0 : Int) < 2 * e0.1 by omega) ?_)
      walk_at "go"
      refine w_rI (.inl ⟨by decide, by decide⟩) ?_
      walk_at "go"
      refine w_rI (.inl ⟨by decide, by decide⟩) (w_rI (show (0 : Int) < 2 * e0.1 by omega) ?_)
      refine w_rI0 ?_
      refine w_nil ?_
      refine u_min2 ?_
      refine w_name ?_
      have hmin : atN .mirror e0.1 (p + n) = some (if 2 * e0.1 - 1 - (p + n) % (2 * e0.1) < (p + n) % (2 * e0.1) then 2 * e0.1 - 1 - (p + n) % (2 * e0.1) else (p + n) % (2 * e0.1)) := by
        show some (if (p + n) % (2 * e0.1) < e0.1 then (p + n) % (2 * e0.1) else 2 * e0.1 - 1 - (p + n) % (2 * e0.1)) = _
        congr 1
        split <;> split <;> omega
      refine fin _ _ hmin ?_
      exact fun f' H' sH hpl hb' => ⟨f', _, _, _, _, rfl, sH, hpl, by rw [List.length_append, hacc]; rfl, hb'⟩
  · rintro σ H2 ⟨f, x4, x5, x6, acc, rfl, s2, hf2, hacc, hbs⟩
    rw [List.length_map] at hbs
    have z1 : W.es.drop W.es.length = [] := List.drop_length
    rw [z1] at hbs
    have hbs : bsd W.es pl st [] = some acc := hbs
    walk_at "go"
    refine q _ _ s2 ?_
    rw [hbs]
    exact hf2
def spLLn (K : PySem.W.Frag) : Sp := SpF (fun x : V × V => [x.1, x.2]) fun x H Q => ∃ W s, IsWd H x.1 W ∧ WdOk W ∧ IsSp H x.2 s ∧ s.2.length = W.es.length ∧ ∀ p H', H p = none → Same H H' → SpL H' p (lnL W.es W.tks s) → Q (.ref p) H'
theorem ok_lleans (T : Txt K mg) : Cal P w K mg base 2 "_law_leans" (spLLn K) := by
  refine .of (.of (F_law_leans T) sc_law_leans (b_law_leans T) (spf_len fun _ => rfl) fun cdv A outer s H vs Q E hr h => ?_) (glo_law_leans T)
  have nd := sc_law_leans.nd
  have hu5 := hr.h5
  have c_law_there := ok_lthere (P := P) (w := w) (base := base) T
  obtain ⟨⟨v, u⟩, rfl, W, s, hW, o, hs, k1, q⟩ := h
  obtain ⟨a, ls, lr, lt, vr, e, ha, _, _, _, us, elt, pu⟩ := id hW
  obtain ⟨sa, sp, e2, hsa, hspl⟩ := id hs
  dsimp only at e e2 q
  subst e e2
  have lu : us.length = W.tks.length := prLen pu
  have hfew := o.few
  refine ⟨_, (pss_cons (ps_set (i := 2) nd rfl (Or.inl rfl) (pe_lstO pa_nil))
    (pss_cons (ps_for PassesOwn.never rfl (pi_list (pe_ix ix_tup (pv 0) pe_int (fun _ _ => rfl))) (pg_tup rfl (pgs_cons (pg_name (i := 3) nd rfl (Or.inl rfl)) (pgs_cons (pg_name (i := 4) nd rfl (Or.inl rfl)) pgs_nil))) (pss_cons (ps_set (i := 5) nd rfl (Or.inl rfl) (pe_c c_law_there hr (by rfl) (pa_cons (pv 0) (pa_cons (pe_ix ix_tup (pv 1) pe_int (fun _ _ => rfl)) (pa_cons (pv 4) pa_nil)))))
    (pss_one (ps_if (PW.pt (pw_and (pt_cmp (pc_notN (pv 5))) (pw_and (pt_cmpR op_gt (pe_ix ix_tup (pv 1) pe_int (fun _ _ => rfl)) (pv 3) (nomark _)) (pw_and1 (pt_cmpR (op_notInD hu5) (pe_tupO (pa_cons (pe_op op_sub (pe_ix ix_tup (pv 1) pe_int (fun _ _ => rfl)) (pv 3)) (pa_cons (pv 5) pa_nil))) (pv 2) rfl))))) (pss_one (ps_expr (pe_bm PySem.F.plainAttrs_list PySem.F.slot_list_append PySem.F.type_list_append mt_appO (pv 2) (pa_cons (pe_tupO (pa_cons (pe_op op_sub (pe_ix ix_tup (pv 1) pe_int (fun _ _ => rfl)) (pv 3)) (pa_cons (pv 5) pa_nil))) pa_nil)))) pss_nil))))
    (pss_one (ps_ret (pv 2))))), ?_⟩
  walk_at "go"
  refine u_lstn l0 fun f H1 hf s1 f1 => ?_
  walk_at "go"
  refine w_ixT (n := 2) (s1 _ _ ha) rfl ?_
  refine u_iLi (SqL.of (s1 _ _ elt)) ?_
  refine for_by (walk_list (xs := us)) (fun i σ H' => ∃ x3 x4 x5, σ = [some (.ref a), some (.ref sa), some (.ref f), x3, x4, x5] ∧ Same H H' ∧ SpL H' f (lnL W.es (W.tks.take i) s)) ⟨_, _, _, rfl, s1, [], f1, .nil⟩ (fun i σ H' _ ⟨_, _, _, _, s, _⟩ => SqL.of (s _ _ elt)) ?_ ?_
  · rintro i x σ H3 H2 hi ⟨x3, x4, x5, rfl, s2, hfl⟩ ⟨rfl, hx⟩
    obtain ⟨t, ht, hT⟩ := prAt1 pu hx
    have htk := o.tk t (List.mem_of_getElem? ht)
    obtain ⟨ta, tp, rfl, hta, htp⟩ := hT.mono (TK.of s2)
    have hnx := lnL_at (es := W.es) (s := s) ht
    have hll : (lnL W.es (W.tks.take i) s).length ≤ 3 := Nat.le_trans (lnL_len _ _ _) (by rw [List.length_take]; omega)
    refine w_two hta ?_
    walk_at "go"
    refine w_ixT (n := 1) (s2 _ _ hsa) rfl ?_
    walk_at "go"
    refine ⟨(.ref a, sp, tp), rfl, W, s.2, t.2, hW.mono s2, o, hspl.mono (TK.of s2), htp, k1, htk.2.1, fun v H3 s3 hth => ?_⟩
    have s23 := s2.trans s3
    have hfl3 := hfl.mono s3
    walk_at "go"
    unfold whOf at hnx
    cases hb : bsd W.es s.2 t.2 [] with
    | none =>
      rw [hb] at hth hnx
      have hv : v = .non := hth
      subst hv
      refine u_andF rfl ?_
      walk_at "go"
      exact ⟨_, _, _, rfl, s23, by rw [hnx]; exact hfl3⟩
    | some pl =>
      rw [hb] at hth hnx
      obtain ⟨pa, rfl, hpa⟩ := id hth
      have hnx' : lnL W.es (W.tks.take (i + 1)) s = addLn (lnL W.es (W.tks.take i) s) (if s.1 - t.1 > 0 then Wh.spot (s.1 - t.1, pl) else Wh.first) := hnx
      refine u_andT rfl ?_
      walk_at "go"
      refine w_ixT (n := 0) (s23 _ _ hsa) rfl ?_
      walk_at "go"
      by_cases hgt : t.1 < s.1
      · rw [if_pos (by omega)] at hnx'
        refine u_andT (decide_eq_true hgt) ?_
        walk_at "go"
        refine w_ixT (n := 0) (s23 _ _ hsa) rfl ?_
        walk_at "go"
        refine u_tupn l2 fun pr H4 hpr s4 e4 => ?_
        have hnew : IsSp H4 (.ref pr) (s.1 - t.1, pl) := ⟨pr, .ref pa, rfl, e4, hth.mono (TK.of s4)⟩
        walk_at "go"
        refine g_ninSp hnew (hfl3.mono s4) ?_
        walk_at "go"
        have s24 := s23.trans s4
        refine u_if2 (fun c => ?_) fun c => ?_
        · have hni : (s.1 - t.1, pl) ∉ lnL W.es (W.tks.take i) s := by simpa using c
          obtain ⟨fv, ef, pf⟩ := hfl3.mono s4
          walk_at "go"
          refine u_bmL ef ?_
          walk_at "go"
          refine w_ixT (n := 0) (s24 _ _ hsa) rfl ?_
          walk_at "go"
          refine u_tupn l2 fun pr2 H5 hpr2 s5 e5 => ?_
          walk_at "go"
          refine u_app (s5 _ _ ef) (small_line (by rw [prLen pf]; omega)) fun H6 b6 t6 n6 e6 => ?_
          refine ⟨_, _, _, rfl, (s24.trans s5).but b6 hf, _, e6, ?_⟩
          rw [hnx']
          show Paired (IsSp H6) _ (if (s.1 - t.1, pl) ∈ lnL W.es (W.tks.take i) s then _ else _)
          rw [if_neg hni]
          exact prApp (sps_mono ((TK.of s5).trans t6) pf) (.cons ⟨pr2, .ref pa, rfl, t6 _ _ e5, (hth.mono (TK.of (s4.trans s5))).mono t6⟩ .nil)
        · have hin : (s.1 - t.1, pl) ∈ lnL W.es (W.tks.take i) s := by simpa using c
          walk_at "go"
          refine ⟨_, _, _, rfl, s24, ?_⟩
          rw [hnx']
          show SpL H4 f (if (s.1 - t.1, pl) ∈ lnL W.es (W.tks.take i) s then _ else _)
          rw [if_pos hin]
          exact hfl3.mono s4
      · rw [if_neg (by omega)] at hnx'
        refine u_andF (decide_eq_false hgt) ?_
        walk_at "go"
        exact ⟨_, _, _, rfl, s23, by rw [hnx']; exact hfl3⟩
  · rintro σ H2 ⟨x3, x4, x5, rfl, s2, hfl⟩
    rw [lu, List.take_length] at hfl
    walk_at "go"
    exact q f H2 hf s2 hfl
end
end SL
end PtD15
/-! part D16 -/
section PtD16
/-! D16: the law's job. -/
namespace SL
open PySem PySem.Spec PyProof.Rows L2
/-- one step that needs nothing -/
local macro_rules | `(tactic| walk_at "sl1") => `(tactic| first
  | (with_reducible refine w_varh ?_; refine ⟨_, rfl, ?_⟩) | (with_reducible refine w_rEqh ?_; refine ⟨rfl, ?_⟩) | (with_reducible refine w_rNeh ?_; refine ⟨rfl, ?_⟩)
  | with_reducible refine w_seq ?_ | with_reducible refine w_asg ?_ | with_reducible refine w_c ?_ | with_reducible refine w_op ?_ | with_reducible refine w_rI0 ?_ | with_reducible refine u_test ?_ | with_reducible refine u_tb ?_ | with_reducible refine u_bl ?_ | with_reducible refine u_ifs ?_ | with_reducible refine u_ift ?_ | with_reducible refine u_iff ?_ | with_reducible refine w_cons ?_ | with_reducible refine w_nil ?_ | with_reducible refine w_cl ?_ | with_reducible refine w_cb ?_ | with_reducible refine w_ret ?_ | with_reducible refine w_drop ?_ | with_reducible refine w_name ?_ | with_reducible refine w_next ?_
  | with_reducible refine u_fld ?_ | with_reducible refine u_tup ?_ | with_reducible refine u_lst ?_ | with_reducible refine u_not ?_ | with_reducible refine u_nott ?_ | with_reducible refine u_notf ?_ | with_reducible refine u_and ?_ | with_reducible refine u_or ?_ | with_reducible refine u_andt ?_ | with_reducible refine u_andf ?_ | with_reducible refine u_ort ?_ | with_reducible refine u_orf ?_ | with_reducible refine u_andV ?_ | with_reducible refine u_orV ?_ | with_reducible refine u_andVt ?_ | with_reducible refine u_andVf ?_ | with_reducible refine u_orVt ?_ | with_reducible refine u_orVf ?_ | with_reducible refine u_notV ?_ | with_reducible refine u_notVb ?_
  | with_reducible refine u_chain ?_ | with_reducible refine u_cht ?_ | with_reducible refine u_chf ?_ | with_reducible refine w_un ?_ | with_reducible refine w_rU ?_ | with_reducible refine w_isN ?_ | with_reducible refine w_notN ?_ | with_reducible refine u_bm ?_ | with_reducible refine u_sl ?_ | with_reducible refine u_part ?_ | with_reducible refine u_parti ?_ | with_reducible refine u_nopart ?_ | with_reducible refine u_m1 ?_ | with_reducible refine u_mt ?_ | with_reducible refine u_mk ?_ | with_reducible refine u_nget ?_ | with_reducible refine u_nin ?_ | with_reducible refine u_nput ?_ | with_reducible refine u_fldS ?_
  | with_reducible refine u_for ?_ | with_reducible refine u_lc ?_ | with_reducible refine u_iL ?_ | with_reducible refine u_iT ?_ | with_reducible refine u_iE ?_ | with_reducible refine u_iZ ?_ | with_reducible refine u_iZ2 ?_ | with_reducible refine u_iZ3 ?_ | with_reducible refine u_iR1 ?_ | with_reducible refine u_iR2 ?_ | with_reducible refine u_sub ?_ | with_reducible refine u_isA_int ?_ | with_reducible refine u_isA_bool ?_ | with_reducible refine u_int1 ?_ | with_reducible refine u_intB ?_ | with_reducible refine u_min2 ?_ | with_reducible refine u_kw ?_ | with_reducible refine w_yes ?_ | with_reducible refine u_srt ?_ | with_reducible refine u_yt ?_ | with_reducible refine u_yf ?_)
local macro_rules | `(tactic| walk_at "go") => `(tactic| repeat walk_at "sl1")
def envS (sc : Scope) : Env := { scope := sc, locals := 0, globals := 0, cells := [] }
/-! ### terms of a world -/
theorem addTk_nodup {f m : List Spot} (hf : f.Nodup) (hm : m.Nodup) : (addTk f m).Nodup := by
  unfold addTk
  rw [List.nodup_append]
  refine ⟨hf, hm.sublist (List.filter_sublist), fun a ha b hb e => ?_⟩
  have := (List.mem_filter.mp hb).2
  rw [← e] at this
  exact absurd ha (by simpa using this)
theorem addTk_mem {f m : List Spot} {x : Spot} : x ∈ addTk f m ↔ x ∈ f ∨ x ∈ m := by
  unfold addTk
  rw [List.mem_append, List.mem_filter]
  by_cases h : x ∈ f
  · simp [h]
  · simp [h]
theorem tks_nodup : ∀ tm : Tm, tm.tks.Nodup
  | .num _ => (srt_perm []).nodup_iff.mpr List.nodup_nil
  | .take t => (srt_perm [t]).nodup_iff.mpr (List.nodup_cons.mpr ⟨by simp, List.nodup_nil⟩)
  | .add a b => (srt_perm _).nodup_iff.mpr (addTk_nodup (addTk_nodup List.nodup_nil (tks_nodup a)) (tks_nodup b))
  | .mul a b => (srt_perm _).nodup_iff.mpr (addTk_nodup (addTk_nodup List.nodup_nil (tks_nodup a)) (tks_nodup b))
theorem tks_add {a b : Tm} {x : Spot} : x ∈ (Tm.add a b).tks ↔ x ∈ a.tks ∨ x ∈ b.tks := by
  show x ∈ srt _ ↔ _
  rw [(srt_perm _).mem_iff, addTk_mem, addTk_mem]
  simp
theorem tks_mul {a b : Tm} {x : Spot} : x ∈ (Tm.mul a b).tks ↔ x ∈ a.tks ∨ x ∈ b.tks := by
  show x ∈ srt _ ↔ _
  rw [(srt_perm _).mem_iff, addTk_mem, addTk_mem]
  simp
theorem tks_num {n : Int} {x : Spot} : x ∈ (Tm.num n).tks ↔ False := by
  show x ∈ srt [] ↔ _
  rw [(srt_perm _).mem_iff]
  simp
theorem tks_take {t x : Spot} : x ∈ (Tm.take t).tks ↔ x = t := by
  show x ∈ srt [t] ↔ _
  rw [(srt_perm _).mem_iff]
  simp
theorem nodup_len {α : Type} [BEq α] [LawfulBEq α] : ∀ (l D : List α), l.Nodup → (∀ x ∈ l, x ∈ D) → l.length ≤ D.length
  | [], _, _, _ => Nat.zero_le _
  | x :: l, D, hn, hs => by
    obtain ⟨h1, h2⟩ := List.nodup_cons.mp hn
    have hx : x ∈ D := hs x List.mem_cons_self
    have ih := nodup_len l (D.erase x) h2 fun y hy => by
      have hne : y ≠ x := fun e => h1 (e ▸ hy)
      exact (List.mem_erase_of_ne hne).2 (hs y (List.mem_cons_of_mem _ hy))
    have e := List.length_erase_of_mem hx
    have hp : 0 < D.length := List.length_pos_of_mem hx
    rw [List.length_cons]
    omega
theorem deep_same {ts us : List Spot} (h : ∀ x, x ∈ ts ↔ x ∈ us) {d e : Int} (hd : IsDeep ts d) (he : IsDeep us e) : d = e := by
  have hm : ∀ y, y ∈ ts.map (·.1) ↔ y ∈ us.map (·.1) := fun y => by
    simp only [List.mem_map]
    constructor
    · rintro ⟨x, hx, e⟩; exact ⟨x, (h x).mp hx, e⟩
    · rintro ⟨x, hx, e⟩; exact ⟨x, (h x).mpr hx, e⟩
  rcases hd with ⟨a, b⟩ | ⟨a, b⟩ <;> rcases he with ⟨c, f⟩ | ⟨c, f⟩
  · rw [b, f]
  · rw [← hm, a] at c; cases c
  · rw [hm, c] at a; cases a
  · exact Int.le_antisymm (f _ ((hm d).mp a)) (b _ ((hm e).mpr c))
structure TmI (W : Wd) (tm : Tm) (i : Nat) : Prop where
  ht : tm.ht ≤ i + 2
  ok : tm.ok
  dep : tm.dep ≤ i + 2
  parts : tm.parts = 1 + 4 * (i : Int)
  mem : ∀ x, x ∈ tm.tks ↔ x ∈ W.tks.take i
section
variable {P : Program} {w : World} {K : PySem.W.Frag} {mg : Str → Option Value} {base : Heap}
theorem u_maxd {H : Hp} {Q : VK} {a : Addr} {ns : List Int} {df : Int} (h : H a = some (.lst (ns.map V.int))) (q : ∀ d, ((ns = [] ∧ d = df) ∨ (d ∈ ns ∧ ∀ y ∈ ns, y ≤ d)) → Q (.int d) H) : rMaxDf K [.ref a] [.int df] H Q :=
  ⟨a, ns, df, rfl, rfl, SqL.of h, fun e => q df (.inl ⟨e, rfl⟩), fun m hm hmax => q m (.inr ⟨hm, hmax⟩)⟩
theorem cfg_pos : ∀ ss ∈ cfgs, 1 ≤ (placesOf ss).length := by decide +kernel
def spLJob (K : PySem.W.Frag) : Sp := SpF (fun x : V × Addr => [x.1, .ref x.2]) fun x H Q => ∃ H0 W, Same H0 H ∧ H0 x.2 = none ∧ IsWd H0 x.1 W ∧ WdOk W ∧ TapeAt H x.2 ∧
  ∀ j H' J, Same H0 H' → IsJob K H' j J → JbOk J → J.es = W.es → J.r = W.r → (∀ x, x ∈ J.tks ↔ x ∈ W.tks) → Q (.ref j) H'
theorem ok_ljob (T : Txt K mg) : Cal P w K mg base 20 "_law_job" (spLJob K) := by
  refine .of (.of (F_law_job T) sc_law_job (b_law_job T) (spf_len fun _ => rfl) fun cdv A outer s H vs Q E hr h => ?_) (glo_law_job T)
  have nd := sc_law_job.nd
  have hu := hr.h
  have c_law_draw := ok_draw (P := P) (w := w) (base := base) T
  have c_law_places := ok_lplaces (P := P) (w := w) (base := base) T
  have k_Number := mk_Number (P := P) (w := w) (base := base) T
  have k_Take := mk_Take (P := P) (w := w) (base := base) T
  have k_Added := mk_Added (P := P) (w := w) (base := base) T
  have k_Multiplied := mk_Multiplied (P := P) (w := w) (base := base) T
  have k_Grid : Mak P w K mg base 5 "Grid" (He.ga K "Grid") (spGridI K) := .of (ok_grid_init T) (glo_Grid T) (mkr_Grid T)
  have k_Job : Mak P w K mg base 18 "Job" (He.ga K "Job") (spJobI K) := .of (ok_job_init T) (glo_Job T) (mkr_Job T)
  obtain ⟨⟨v, t⟩, rfl, H0, W, sH, ht0, hW, o, tp, q⟩ := h
  obtain ⟨a, ls, lr, lt, vr, e, ha, hls, hlr, hrim, us, elt, pu⟩ := id hW
  dsimp only at e ht0 tp q
  subst e
  obtain ⟨c1, c2, c3, c4, c5, c6⟩ := cfg_fit _ o.sz
  have lu : us.length = W.tks.length := prLen pu
  have hfew := o.few
  have hes1 : 1 ≤ W.es.length := by have := c1; unfold szs at this; rwa [List.length_map] at this
  have hes3 : W.es.length ≤ 3 := by have := c2; unfold szs at this; rwa [List.length_map] at this
  refine ⟨_, (pss_cons (ps_set (i := 2) nd rfl (Or.inl rfl) (pe_mkO k_Number hr (by rfl) (pa_cons pe_int pa_nil)))
    (pss_cons (ps_for PassesOwn.never rfl (pi_list (pe_ix ix_tup (pv 0) pe_int (fun _ _ => rfl))) (pg_tup rfl (pgs_cons (pg_name (i := 3) nd rfl (Or.inl rfl)) (pgs_cons (pg_name (i := 4) nd rfl (Or.inl rfl)) pgs_nil))) (pss_one (ps_set (i := 2) nd rfl (Or.inl rfl) (pe_mkO k_Added hr (by rfl) (pa_cons (pv 2) (pa_cons (pe_mkO k_Multiplied hr (by rfl) (pa_cons (pe_mkO k_Number hr (by rfl) (pa_cons (pe_op op_add pe_int (pe_c c_law_draw hr (by rfl) (pa_cons (pv 1) (pa_cons pe_int pa_nil)))) pa_nil)) (pa_cons (pe_mkO k_Take hr (by rfl) (pa_cons (pv 3) (pa_cons (pv 4) pa_nil))) pa_nil))) pa_nil))))))
    (pss_cons (ps_set (i := 5) nd rfl (Or.inl rfl) (pe_callBK (cr_maxDf rfl hu) (by rfl) (free_max T) (by decide +kernel) (pa_cons (pe_lc (own := [("_law_back", 3), ("_law_steps", 4)]) (g := (gTup K 2 (gCons (gName 3) (gCons (gName 4) gNil)))) (tt := tYes)  rfl nd (pi_list (pe_ix ix_tup (pv 0) pe_int (fun _ _ => rfl))) (blkOk_by (N := ["_law_world_here", "_law_tape_here", "_law_term", "_law_back", "_law_steps", "_law_deep", "_law_first", "_law_place", "_law_turn"]) (sc := (defScope s_law_job)) (by decide +kernel)) (fun _ _ _ _ _ => (pg_tup rfl (pgs_cons (pg_name (i := 3) nd rfl (Or.inl rfl)) (pgs_cons (pg_name (i := 4) nd rfl (Or.inl rfl)) pgs_nil)))) (fun _ _ _ _ _ => pts_nil) (fun _ _ _ _ _ => (pv 3))) pa_nil) (pk_cons pe_int pk_nil)))
    (pss_cons (ps_setLc (i := 6) (own := [("_law_turn", 8)]) (g := (gName 8)) (tt := tYes)  rfl nd rfl rfl (sw_true rfl rfl rfl (by decide +kernel)) (pi_range1 (by rfl) (free_range T) (pa_cons (pv 5) pa_nil)) (blkOk_by (N := ["_law_world_here", "_law_tape_here", "_law_term", "_law_back", "_law_steps", "_law_deep", "_law_first", "_law_place", "_law_turn"]) (sc := (defScope s_law_job)) (by decide +kernel)) (fun _ _ _ _ _ => (pg_name (i := 8) nd rfl (Or.inl rfl))) (fun _ _ _ _ _ => pts_nil) (fun _ _ _ _ _ => (pe_lc (own := [("_law_place", 7)]) (g := (gName 7)) (tt := tYes)  rfl nd (pi_listK (K := K) rfl (pe_c c_law_places hr (by rfl) (pa_cons (pe_ix (ix_tupK (K := K) rfl) (pv 0) pe_int (fun _ _ => rfl)) pa_nil))) (blkOk_by (N := ["_law_world_here", "_law_tape_here", "_law_term", "_law_back", "_law_steps", "_law_deep", "_law_first", "_law_place", "_law_turn"]) (sc := (relabel (lcSc (asgVal ((defBody s_law_job).getD 3 noSt))) (envS (defScope s_law_job)))) (by decide +kernel)) (fun _ _ _ _ _ => (pg_name (i := 7) nd rfl (Or.inl rfl))) (fun _ _ _ _ _ => pts_nil) (fun _ _ _ _ _ => (pe_c c_law_draw hr (by rfl) (pa_cons (pv 1) (pa_cons pe_int pa_nil)))))))
    (pss_one (ps_ret (pe_mkO k_Job hr (by rfl) (pa_cons (pe_mkO k_Grid hr (by rfl) (pa_cons (pe_callTy cr_listO (by rfl) (free_list T) (by decide +kernel) (pa_cons (pe_ix ix_tup (pv 0) pe_int (fun _ _ => rfl)) pa_nil)) (pa_cons (pe_callTy cr_listO (by rfl) (free_list T) (by decide +kernel) (pa_cons (pe_ix ix_tup (pv 0) pe_int (fun _ _ => rfl)) pa_nil)) pa_nil))) (pa_cons (pv 2) (pa_cons pe_int (pa_cons (pe_ix ix_tup (pv 0) pe_int (fun _ _ => rfl)) (pa_cons (pv 6) pa_nil)))))))))))), ?_⟩
  walk_at "go"
  refine u_mki fun x0 d0 H1 hx0 s1 e1 => ⟨(x0, 3), rfl, d0, e1, fun H2 b2 e2 => ⟨rfl, ?_⟩⟩
  have B2 : Same H H2 := s1.but b2 hx0
  have tp2 := tp.same B2
  walk_at "go"
  refine w_ixT (n := 2) (B2 _ _ (sH _ _ ha)) rfl ?_
  refine u_iLi (SqL.of (B2 _ _ (sH _ _ elt))) ?_
  refine for_by (walk_list (xs := us)) (fun i σ H' => ∃ tv x3 x4 x5 x6 x7 x8 tm, σ = [some (.ref a), some (.ref t), some tv, x3, x4, x5, x6, x7, x8] ∧ But t H H' ∧ TapeAt H' t ∧ IsTm K H' tv tm ∧ TmI W tm i)
    ⟨_, _, _, _, _, _, _, .num 3, rfl, But.of B2, tp2, ⟨x0, d0, rfl, e2⟩, ⟨Nat.zero_le _, ⟨by decide, by decide⟩, by decide, by decide, fun x => by rw [tks_num, List.take_zero]; simp⟩⟩ (fun i σ H' _ ⟨_, _, _, _, _, _, _, _, _, b, _⟩ => SqL.of ((sH.but b ht0) _ _ elt)) ?_ ?_
  · rintro i x σ H4 H3 hi ⟨tv, x3, x4, x5, x6, x7, x8, tm, rfl, b3, tp3, hT, I3⟩ ⟨rfl, hx⟩
    obtain ⟨tk, htk, hS⟩ := prAt1 pu hx
    have hok := o.tk tk (List.mem_of_getElem? htk)
    have SH := sH.but b3 ht0
    obtain ⟨ta, tpv, rfl, hta, htp⟩ := hS.mono (TK.of SH)
    refine w_two hta ?_
    walk_at "go"
    refine call_draw tp3 (by decide) (by decide) fun n G1 n0 n4 b1 k1 _ tp1 => ?_
    walk_at "go"
    obtain ⟨txs, etx⟩ := tp3.lst
    obtain ⟨txs1, etx1⟩ := tp1.lst
    have B1 := b3.trans b1
    have hT1 := hT.but b1 etx
    refine u_mki fun y1 d1 G2 hy1 g2 f2 => ⟨(y1, 1 + n), rfl, d1, f2, fun G3 bb3 f3 => ⟨rfl, ?_⟩⟩
    have s3 := g2.but bb3 hy1
    walk_at "go"
    refine u_mki fun y2 d2 G4 hy2 g4 f4 => ⟨(y2, .int tk.1, tpv), rfl, d2, f4, fun G5 bb5 f5 => ⟨rfl, ?_⟩⟩
    have s5 := g4.but bb5 hy2
    walk_at "go"
    refine u_mki fun y3 d3 G6 hy3 g6 f6 => ⟨(y3, .ref y1, .ref y2), rfl, d3, f6, fun G7 bb7 f7 => ⟨rfl, ?_⟩⟩
    have s7 := g6.but bb7 hy3
    walk_at "go"
    refine u_mki fun y4 d4 G8 hy4 g8 f8 => ⟨(y4, tv, .ref y3), rfl, d4, f8, fun G9 bb9 f9 => ⟨rfl, ?_⟩⟩
    have s9 := g8.but bb9 hy4
    walk_at "go"
    have s59 := s5.trans (s7.trans s9)
    have s39 := s3.trans s59
    have hTake : IsTm K G5 (.ref y2) (.take tk) := ⟨y2, d2, tpv, rfl, f5, ((htp.mono k1).mono (TK.of (s3.trans s5)))⟩
    have hNum : IsTm K G3 (.ref y1) (.num (1 + n)) := ⟨y1, d1, rfl, f3⟩
    have hMul : IsTm K G7 (.ref y3) (.mul (.num (1 + n)) (.take tk)) := ⟨y3, d3, .ref y1, .ref y2, rfl, f7, hNum.mono (s5.trans s7), hTake.mono s7⟩
    have hAdd : IsTm K G9 (.ref y4) (.add tm (.mul (.num (1 + n)) (.take tk))) := ⟨y4, d4, tv, .ref y3, rfl, f9, hT1.mono s39, hMul.mono s9⟩
    refine ⟨_, _, _, _, _, _, _, _, rfl, B1.same s39, tp1.same s39, hAdd, ?_, ?_, ?_, ?_, ?_⟩
    · have := I3.ht
      show 1 + max tm.ht (1 + max 0 0) ≤ i + 1 + 2
      omega
    · refine ⟨I3.ok, ⟨by omega, by omega⟩, hok.1, ⟨by rw [hok.2.1]; exact hes1, by rw [hok.2.1]; exact hes3⟩, fun z hz => ?_⟩
      have := hok.2.2 z hz
      omega
    · have := I3.dep
      show 1 + max tm.dep (1 + max 1 1) ≤ ((i + 1 : Nat) : Int) + 2
      omega
    · have := I3.parts
      show 1 + (tm.parts + (1 + (1 + 1))) = 1 + 4 * ((i + 1 : Nat) : Int)
      omega
    · intro x
      rw [tks_add, tks_mul, tks_num, tks_take, I3.mem x, mem_take_succ htk]
      simp
  · rintro σ H3 ⟨tv, x3, x4, x5, x6, x7, x8, tm, rfl, b3, tp3, hT, I3⟩
    rw [lu] at I3
    have hmem : ∀ x, x ∈ tm.tks ↔ x ∈ W.tks := fun x => by rw [I3.mem x, List.take_length]
    have SH := sH.but b3 ht0
    walk_at "go"
    refine w_ixT (n := 2) (SH _ _ ha) rfl ?_
    refine u_iLi (SqL.of (SH _ _ elt)) ?_
    refine lc_by (walk_list (xs := us)) (Same H3) (fun i acc H' => acc = ((W.tks.take i).map fun t => t.1).map V.int) (small_line (by omega)) (fun D H1 H2 hD s b => sS hD s b) (Same.refl H3) (fun H' s => rfl) (fun i acc H' _ s _ => SqL.of (s _ _ (SH _ _ elt))) ?_ ?_
    · intro D i x acc H5 H4 R N put skip hD hi s4 hacc e4 y
      obtain ⟨rfl, hx⟩ := y
      obtain ⟨t, ht, hS⟩ := prAt1 pu hx
      obtain ⟨b, p, rfl, hb, hp⟩ := hS.mono (TK.of (SH.trans s4))
      refine w_two hb ⟨rfl, ?_⟩
      walk_at "go"
      refine put _ _ e4 s4 fun H5 _ _ _ => ?_
      rw [hacc, take_succ_of ht]
      simp
    · intro D acc H4 hD e4 s4 hacc
      rw [lu, List.take_length] at hacc
      subst hacc
      walk_at "go"
      obtain ⟨txs, etx⟩ := tp3.lst
      have go2 : ∀ d : Int, IsDeep W.tks d → 1 ≤ d → d ≤ 3 → ∀ Q : VK, (∀ f G, But t H4 G → TapeAt G t → FiL G f d ((placesOf (szs W.es)).length : Nat) → Q (.ref f) G) →
          rLc (gName 8) tYes (tLc (iList K (tCl (spLPl K) (tCons (tOp (rIxT K) (tVar 0) (tC (.int 0))) tNil))) (gName 7) tYes (tCl spDraw (tCons (tVar 1) (tCons (tC (.int 97)) tNil))) [7]) [8] [some (.ref a), some (.ref t), some tv, x3, x4, some (.int d), x6, x7, x8] (Itr 0 d.toNat) H4 Q := by
        intro d _ d1 d3 Q q
        have tp4 := tp3.same s4
        obtain ⟨txs4, etx4⟩ := tp4.lst
        refine lc_by walk_r0 (fun H' => But t H4 H' ∧ TapeAt H' t) (fun i acc H' => ∃ wss : List (List Int), wss.length = i ∧ Paired (fun v (ws : List Int) => ∃ b, v = V.ref b ∧ b ≠ t ∧ ws ≠ [] ∧ H' b = some (.lst (ws.map V.int))) acc wss ∧ ∀ ws ∈ wss, (ws.length : Int) = ((placesOf (szs W.es)).length : Nat) ∧ ws.length < 1000 ∧ ∀ x ∈ ws, 0 ≤ x ∧ x ≤ 96) (small_line (by omega))
          (fun D H1 H2 hD s b => ⟨s.1.two b hD, s.2.but b (ne_of_none etx4 hD)⟩) ⟨But.refl t H4, tp4⟩ (fun H' s => ⟨[], rfl, .nil, fun _ h => nomatch h⟩) (fun _ _ _ _ _ _ => trivial) ?_ ?_
        · intro D2 i x acc H6 H5 R N put skip hD2 hi sS pacc e5 y
          obtain ⟨rfl, rfl⟩ := y
          obtain ⟨b5, tp5⟩ := sS
          obtain ⟨wss, hwl, pw, hw⟩ := pacc
          have nD2 : D2 ≠ t := (ne_of_none etx4 hD2).symm
          have SH5 : Same H0 H5 := (SH.trans s4).but b5 ht0
          refine w_name ⟨rfl, ?_⟩
          walk_at "go"
          refine w_ixT (n := 0) (SH5 _ _ ha) rfl ?_
          walk_at "go"
          refine ⟨ls, rfl, szs W.es, by rw [← szs_int]; exact SH5 _ _ hls, o.szb, fun pp H6 hpp s6 hpl => ?_⟩
          obtain ⟨pvs, epl, ppl⟩ := hpl
          have lpv : pvs.length = (placesOf (szs W.es)).length := prLen ppl
          have tp6 := tp5.same s6
          obtain ⟨txs6, etx6⟩ := tp6.lst
          have npp : pp ≠ t := fun z => by
            obtain ⟨q', eq'⟩ := tp5.lst
            rw [z] at hpp
            rw [hpp] at eq'; cases eq'
          refine u_iLi (SqL.of epl) ?_
          refine lc_by (walk_list (xs := pvs)) (fun H' => But t H6 H' ∧ TapeAt H' t) (fun j acc H' => ∃ ws : List Int, ws.length = j ∧ acc = ws.map V.int ∧ ∀ x ∈ ws, 0 ≤ x ∧ x ≤ 96) (small_line (by omega))
            (fun D H1 H2 hD s b => ⟨s.1.two b hD, s.2.but b (ne_of_none etx6 hD)⟩) ⟨But.refl t H6, tp6⟩ (fun H' s => ⟨[], rfl, rfl, fun _ h => nomatch h⟩) (fun j acc H' _ s _ => SqL.of (s.1 _ _ epl npp)) ?_ ?_
          · intro D3 j x acc3 H8 H7 R3 N3 put3 skip3 hD3 hj sS3 pacc3 e7 y
            obtain ⟨rfl, hx⟩ := y
            obtain ⟨b7, tp7⟩ := sS3
            obtain ⟨ws, hws, rfl, hwb⟩ := pacc3
            have nD3 : D3 ≠ t := (ne_of_none etx6 hD3).symm
            refine w_name ⟨rfl, ?_⟩
            walk_at "go"
            refine call_draw tp7 (by decide) (by decide) fun n G1 n0 n97 b1 k1 _ tp1 => ?_
            refine put3 _ _ (b1 _ _ e7 nD3) ⟨b7.trans b1, tp1⟩ fun G6 b6 k6 s6 => ⟨ws ++ [n], by rw [List.length_append, hws]; rfl, by rw [List.map_append]; rfl, fun z hz => ?_⟩
            rcases List.mem_append.mp hz with h | h
            · exact hwb z h
            · rw [List.mem_singleton.mp h]; omega
          · intro D3 acc3 H7 hD3 e7 sS3 pacc3
            obtain ⟨b7, tp7⟩ := sS3
            obtain ⟨ws, hws, rfl, hwb⟩ := pacc3
            have nD3 : D3 ≠ t := (ne_of_none etx6 hD3).symm
            have B57 : But t H5 H7 := (But.of s6).trans b7
            have nDD : D3 ≠ D2 := fun z => by
              have := s6 _ _ e5
              rw [← z, hD3] at this; cases this
            refine put _ _ (B57 _ _ e5 nD2) ⟨b5.trans B57, tp7⟩ fun H8 b8 k8 s8 => ⟨wss ++ [ws], by rw [List.length_append, hwl]; rfl, ?_, fun z hz => ?_⟩
            · have nd2 : ∀ {b : Addr} {xs : List V}, b ≠ D2 → H7 b = some (.lst xs) → H8 b = some (.lst xs) := fun h e => b8 _ _ e h
              refine prApp (prImp (fun v ws' z => ?_) pw) (.cons ⟨D3, rfl, nD3, fun z => by rw [z] at hws; have := cfg_pos _ o.sz; simp at hws; omega, nd2 nDD e7⟩ .nil)
              obtain ⟨b, rfl, nb, ne, hb⟩ := z
              have hb7 := B57 _ _ hb nb
              refine ⟨b, rfl, nb, ne, nd2 (fun z => ?_) hb7⟩
              rw [z, B57 _ _ e5 nD2] at hb7
              cases ws' with
              | nil => exact ne rfl
              | cons y ys =>
                have hacc : acc = V.int y :: ys.map V.int := by injection hb7 with h; injection h
                rw [hacc] at pw
                obtain ⟨_, _, b', eb, _⟩ := prAt1 (i := 0) pw rfl
                cases eb
            · rcases List.mem_append.mp hz with h | h
              · exact hw z h
              · rw [List.mem_singleton.mp h]
                refine ⟨by rw [hws, lpv], by rw [hws, lpv]; omega, hwb⟩
        · intro D2 acc H5 hD2 e5 sS pacc
          obtain ⟨b5, tp5⟩ := sS
          obtain ⟨wss, hwl, pw, hw⟩ := pacc
          refine q D2 H5 b5 tp5 ⟨acc, wss, e5, prImp (fun v ws ⟨b, e, _, _, q⟩ => ⟨b, e, q⟩) pw, by omega, by omega, hw⟩
      refine u_maxd e4 fun d hd => ?_
      have hdeep : IsDeep W.tks d := by
        rcases hd with ⟨h1, h2⟩ | h
        · exact .inl ⟨by simpa using h1, h2⟩
        · exact .inr h
      have hd13 : 1 ≤ d ∧ d ≤ 3 := by
        rcases hd with ⟨_, h2⟩ | ⟨h, _⟩
        · rw [h2]; exact ⟨by decide, by decide⟩
        · obtain ⟨y, hy, rfl⟩ := List.mem_map.mp h
          exact (o.tk y hy).1
      walk_at "go"
      refine u_iR1i (by omega) (by omega) ?_
      refine go2 d hdeep hd13.1 hd13.2 _ fun f G bG tpG hfi => ?_
      have B4G : But t H3 G := (But.of s4).trans bG
      have SG : Same H0 G := (SH.trans s4).but bG ht0
      have hTG : IsTm K G tv tm := hT.but B4G etx
      walk_at "go"
      refine w_ixT (n := 0) (SG _ _ ha) rfl ?_
      walk_at "go"
      refine u_lst_of (SG _ _ hls) fun l1' G1 m1 g1 f1 => ?_
      walk_at "go"
      refine w_ixT (n := 1) (g1 _ _ (SG _ _ ha)) rfl ?_
      walk_at "go"
      refine u_lst_of (g1 _ _ (SG _ _ hlr)) fun l2' G2 m2 g2 f2 => ?_
      walk_at "go"
      have gr : GrOk W.es := ⟨hes1, hes3, fun e he => by
        have := c3 e.1 (by unfold szs; exact List.mem_map.mpr ⟨e, he, rfl⟩)
        omega, by omega⟩
      have g12 := g1.trans g2
      refine u_mki fun gx gd G3 hgx g3 f3 => ⟨(gx, l1', l2'), rfl, gd, W.es, vr, gr, f3, g3 _ _ (g2 _ _ f1), g3 _ _ f2, prImp (fun _ _ q => q.mono (TK.of (SG.trans (g12.trans g3)))) hrim, fun G4 b4 hg4 => ⟨rfl, ?_⟩⟩
      have s4' := g3.but b4 hgx
      have g14 := g12.trans s4'
      have SG4 := SG.trans g14
      walk_at "go"
      refine w_ixT (n := 3) (SG4 _ _ ha) rfl ?_
      walk_at "go"
      have hnd := tks_nodup tm
      have htl : tm.tks.length ≤ 3 := Nat.le_trans (nodup_len _ _ hnd fun x hx => (hmem x).mp hx) hfew
      have hlen : ∀ x ∈ tm.tks, x.2.length = W.es.length := fun x hx => (o.tk x ((hmem x).mp hx)).2.1
      have o0 := o.r0
      have o5 := o.r5
      have hmul : W.r * ((placesOf (szs W.es)).length : Nat) ≤ 120 := by
        have h1 : W.r * ((placesOf (szs W.es)).length : Nat) ≤ 5 * ((placesOf (szs W.es)).length : Nat) := Int.mul_le_mul_of_nonneg_right o5 (by omega)
        omega
      refine u_mki fun jx jd G5 hjx g5 f5 => ⟨(jx, gx, tv, W.r, f), rfl, jd, W.es, tm, d, gr, by omega, f5, hg4.mono g5, (hTG.mono g14).mono g5,
        ⟨by have := I3.ht; omega, I3.ok, hlen, by have := I3.dep; omega, by have := I3.parts; omega, by omega⟩, htl, o0, show W.r ≤ 12 by omega, hmul, fun d' hd' => deep_same hmem hd' hdeep, (hfi.mono g14).mono g5, fun G6 b6 hJ => ⟨rfl, ?_⟩⟩
      exact q jx G6 _ (SG4.trans (g5.but b6 hjx)) hJ ⟨gr, o0, show W.r ≤ 12 by omega, htl, hlen, show (placesOf (szs W.es)).length ≤ 40 by omega⟩ rfl rfl hmem
end
end SL
end PtD16
/-! part M1 -/
section PtM1
/-! M1: places, spots, what leans on what: plain mathematics. -/
namespace SL
/-- a place within the sizes -/
def InR : List Int → List Int → Prop
  | [], [] => True
  | z :: ss, x :: xs => (0 ≤ x ∧ x < z) ∧ InR ss xs
  | _, _ => False
theorem mem_fold : ∀ (ss : List Int) (found : List (List Int)) (xs : List Int), xs ∈ ss.foldl stepPl found ↔ ∃ p ∈ found, ∃ ys, InR ss ys ∧ xs = p ++ ys
  | [], found, xs => by
    constructor
    · intro h
      exact ⟨xs, h, [], trivial, by simp⟩
    · rintro ⟨p, hp, ys, hy, e⟩
      cases ys with
      | nil => rw [e, List.append_nil]; exact hp
      | cons _ _ => exact hy.elim
  | z :: ss, found, xs => by
    rw [List.foldl_cons, mem_fold ss]
    constructor
    · rintro ⟨p, hp, ys, hy, e⟩
      obtain ⟨q, hq, hp⟩ := List.mem_flatMap.mp hp
      obtain ⟨k, hk, e2⟩ := List.mem_map.mp hp
      have hk' := List.mem_range.mp hk
      refine ⟨q, hq, (k : Int) :: ys, ⟨⟨by omega, by omega⟩, hy⟩, ?_⟩
      rw [e, ← e2, List.append_assoc]
      rfl
    · rintro ⟨p, hp, ys, hy, e⟩
      cases ys with
      | nil => exact hy.elim
      | cons y ys =>
        obtain ⟨⟨h1, h2⟩, h3⟩ := hy
        refine ⟨p ++ [y], List.mem_flatMap.mpr ⟨p, hp, List.mem_map.mpr ⟨y.toNat, List.mem_range.mpr (by omega), ?_⟩⟩, ys, h3, ?_⟩
        · rw [Int.toNat_of_nonneg h1]
        · rw [e, List.append_assoc]
          rfl
theorem mem_places {ss xs : List Int} : xs ∈ placesOf ss ↔ InR ss xs := by
  unfold placesOf
  rw [mem_fold]
  constructor
  · rintro ⟨p, hp, ys, hy, e⟩
    rw [List.mem_singleton.mp hp] at e
    rw [e]
    exact hy
  · intro h
    exact ⟨[], List.mem_singleton.mpr rfl, xs, h, rfl⟩
theorem inB_of : ∀ {es : List (Int × Rk)} {xs : List Int}, InR (szs es) xs → InB es xs
  | [], [], _ => ⟨rfl, fun i x e h => by simp at h⟩
  | [], _ :: _, h => h.elim
  | _ :: _, [], h => h.elim
  | e :: es, x :: xs, h => by
    obtain ⟨h1, h2⟩ := h
    obtain ⟨h3, h4⟩ := inB_of (es := es) (xs := xs) h2
    refine ⟨by rw [List.length_cons, List.length_cons, h3], fun i y f hy hf => ?_⟩
    cases i with
    | zero =>
      cases hy
      cases hf
      exact h1
    | succ i => exact h4 i y f (by simpa using hy) (by simpa using hf)
theorem atN_in {r : Rk} {z n q : Int} (hz : 1 ≤ z) (h : atN r z n = some q) : 0 ≤ q ∧ q < z := by
  cases r with
  | fixed =>
    have h' : (if 0 ≤ n ∧ n < z then some n else none) = some q := h
    by_cases c : 0 ≤ n ∧ n < z
    · rw [if_pos c] at h'
      cases h'
      exact c
    · rw [if_neg c] at h'
      cases h'
  | mirror =>
    have h' : some (if n % (2 * z) < z then n % (2 * z) else 2 * z - 1 - n % (2 * z)) = some q := h
    have e := Option.some.inj h'
    have h1 := Int.emod_nonneg n (show (2 * z) ≠ 0 by omega)
    have h2 := Int.emod_lt_of_pos n (show 0 < 2 * z by omega)
    split at e <;> omega
  | round =>
    have h' : some (n % z) = some q := h
    have e := Option.some.inj h'
    have h1 := Int.emod_nonneg n (show z ≠ 0 by omega)
    have h2 := Int.emod_lt_of_pos n (show 0 < z by omega)
    omega
theorem bsd_in : ∀ {es : List (Int × Rk)} {pl st acc r : List Int}, (∀ e ∈ es, 1 ≤ e.1) → pl.length = es.length → st.length = es.length → bsd es pl st acc = some r → ∃ xs, r = acc ++ xs ∧ InR (szs es) xs
  | [], pl, st, acc, r, _, _, _, h => by
    have h' : some acc = some r := h
    exact ⟨[], by rw [List.append_nil]; exact (Option.some.inj h').symm, trivial⟩
  | e :: es, [], _, _, _, _, h1, _, _ => by cases h1
  | e :: es, _ :: _, [], _, _, _, _, h2, _ => by cases h2
  | e :: es, p :: pl, s :: st, acc, r, hz, h1, h2, h => by
    cases hat : atN e.2 e.1 (p + s) with
    | none => rw [bsd_none hat] at h; cases h
    | some q =>
      rw [bsd_some hat] at h
      obtain ⟨xs, e1, e2⟩ := bsd_in (fun e he => hz e (List.mem_cons_of_mem _ he)) (Nat.succ.inj h1) (Nat.succ.inj h2) h
      exact ⟨q :: xs, by rw [e1, List.append_assoc]; rfl, atN_in (hz e List.mem_cons_self) hat, e2⟩
theorem mem_spots {r : Int} {pls : List (List Int)} {s : Spot} : s ∈ spotsOf r pls ↔ (1 ≤ s.1 ∧ s.1 ≤ r) ∧ s.2 ∈ pls := by
  unfold spotsOf turnAt
  constructor
  · intro h
    obtain ⟨i, hi, h⟩ := List.mem_flatMap.mp h
    obtain ⟨p, hp, e⟩ := List.mem_map.mp h
    have hi' := List.mem_range.mp hi
    rw [← e]
    exact ⟨⟨by show 1 ≤ 1 + (i : Int); omega, by show 1 + (i : Int) ≤ r; omega⟩, hp⟩
  · rintro ⟨⟨h1, h2⟩, h3⟩
    refine List.mem_flatMap.mpr ⟨(s.1 - 1).toNat, List.mem_range.mpr (by omega), List.mem_map.mpr ⟨s.2, h3, ?_⟩⟩
    have e : 1 + ((s.1 - 1).toNat : Int) = s.1 := by omega
    rw [e]
theorem spots_nodup {r : Int} {pls : List (List Int)} (h : pls.Nodup) : (spotsOf r pls).Nodup := by
  unfold spotsOf turnAt
  refine List.pairwise_flatMap.mpr ⟨fun i _ => List.pairwise_map.mpr (h.imp fun hne e => hne (Prod.mk.inj e).2), List.nodup_range.imp fun {i j} hij x hx y hy e => ?_⟩
  obtain ⟨p, _, e1⟩ := List.mem_map.mp hx
  obtain ⟨q, _, e2⟩ := List.mem_map.mp hy
  rw [← e1, ← e2] at e
  have := (Prod.mk.inj e).1
  omega
theorem mem_lnP {es : List (Int × Rk)} {ts : List Spot} {s x : Spot} : x ∈ lnP es ts s ↔ ∃ t ∈ ts, whOf es s t = .spot x := by
  unfold lnP
  rw [List.mem_filterMap]
  constructor
  · rintro ⟨t, ht, h⟩
    refine ⟨t, ht, ?_⟩
    cases e : whOf es s t with
    | rim => rw [e] at h; cases h
    | first => rw [e] at h; cases h
    | spot y => rw [e] at h; rw [Option.some.inj h]
  · rintro ⟨t, ht, h⟩
    exact ⟨t, ht, by rw [h]⟩
theorem lnP_same {es : List (Int × Rk)} {ts us : List Spot} (h : ∀ x, x ∈ ts ↔ x ∈ us) {s x : Spot} : x ∈ lnP es ts s ↔ x ∈ lnP es us s := by
  rw [mem_lnP, mem_lnP]
  constructor
  · rintro ⟨t, ht, e⟩; exact ⟨t, (h t).mp ht, e⟩
  · rintro ⟨t, ht, e⟩; exact ⟨t, (h t).mpr ht, e⟩
/-- what a spot reads lies in an earlier round -/
theorem lean_in {W : Wd} (o : WdOk W) {s x : Spot} (hs : s ∈ W.spots) (hx : x ∈ lnP W.es W.tks s) : x ∈ W.spots ∧ x.1 < s.1 := by
  obtain ⟨t, ht, e⟩ := mem_lnP.mp hx
  obtain ⟨⟨h1, h2⟩, h3⟩ := mem_spots.mp hs
  obtain ⟨t1, t2, t3⟩ := o.tk t ht
  obtain ⟨c1, c2, c3, _⟩ := cfg_fit _ o.sz
  have hp := inB_of (mem_places.mp h3)
  unfold whOf at e
  cases hb : bsd W.es s.2 t.2 [] with
  | none => rw [hb] at e; cases e
  | some pl =>
    rw [hb] at e
    have e' : (if s.1 - t.1 > 0 then Wh.spot (s.1 - t.1, pl) else Wh.first) = Wh.spot x := e
    by_cases c : s.1 - t.1 > 0
    · rw [if_pos c] at e'
      injection e' with e'
      obtain ⟨xs, e1, e2⟩ := bsd_in (fun f hf => (c3 f.1 (List.mem_map.mpr ⟨f, hf, rfl⟩)).1) hp.1 t2 hb
      rw [← e']
      refine ⟨mem_spots.mpr ⟨⟨by show 1 ≤ s.1 - t.1; omega, by show s.1 - t.1 ≤ W.r; omega⟩, ?_⟩, by show s.1 - t.1 < s.1; omega⟩
      rw [e1]
      exact mem_places.mpr e2
    · rw [if_neg c] at e'
      cases e'
theorem spot_in {W : Wd} (o : WdOk W) {s : Spot} (hs : s ∈ W.spots) : 1 ≤ s.1 ∧ s.1 ≤ W.r ∧ InB W.es s.2 := by
  obtain ⟨⟨h1, h2⟩, h3⟩ := mem_spots.mp hs
  exact ⟨h1, h2, inB_of (mem_places.mp h3)⟩
theorem spots_few {W : Wd} (o : WdOk W) : W.spots.length ≤ 30 := by
  have h1 := spots_len W.r.toNat (placesOf (szs W.es))
  have h2 := o.pls
  have h3 := o.r5
  show (spotsOf W.r (placesOf (szs W.es))).length ≤ 30
  unfold spotsOf
  rw [h1]
  exact Nat.mul_le_mul (show W.r.toNat ≤ 5 by omega) h2
theorem spots_nd {W : Wd} (o : WdOk W) : W.spots.Nodup := spots_nodup (cfg_fit _ o.sz).2.2.2.2.2
end SL
end PtM1
/-! part D17 -/
section PtD17
/-! D17: the law's row. -/
namespace SL
open PySem PySem.Spec PyProof.Rows L2
/-- one step that needs nothing -/
local macro_rules | `(tactic| walk_at "sl1") => `(tactic| first
  | (with_reducible refine w_varh ?_; refine ⟨_, rfl, ?_⟩) | (with_reducible refine w_rEqh ?_; refine ⟨rfl, ?_⟩) | (with_reducible refine w_rNeh ?_; refine ⟨rfl, ?_⟩)
  | with_reducible refine w_seq ?_ | with_reducible refine w_asg ?_ | with_reducible refine w_c ?_ | with_reducible refine w_op ?_ | with_reducible refine w_rI0 ?_ | with_reducible refine u_test ?_ | with_reducible refine u_tb ?_ | with_reducible refine u_bl ?_ | with_reducible refine u_ifs ?_ | with_reducible refine u_ift ?_ | with_reducible refine u_iff ?_ | with_reducible refine w_cons ?_ | with_reducible refine w_nil ?_ | with_reducible refine w_cl ?_ | with_reducible refine w_cb ?_ | with_reducible refine w_ret ?_ | with_reducible refine w_drop ?_ | with_reducible refine w_name ?_ | with_reducible refine w_next ?_
  | with_reducible refine u_fld ?_ | with_reducible refine u_tup ?_ | with_reducible refine u_lst ?_ | with_reducible refine u_not ?_ | with_reducible refine u_nott ?_ | with_reducible refine u_notf ?_ | with_reducible refine u_and ?_ | with_reducible refine u_or ?_ | with_reducible refine u_andt ?_ | with_reducible refine u_andf ?_ | with_reducible refine u_ort ?_ | with_reducible refine u_orf ?_ | with_reducible refine u_andV ?_ | with_reducible refine u_orV ?_ | with_reducible refine u_andVt ?_ | with_reducible refine u_andVf ?_ | with_reducible refine u_orVt ?_ | with_reducible refine u_orVf ?_ | with_reducible refine u_notV ?_ | with_reducible refine u_notVb ?_
  | with_reducible refine u_chain ?_ | with_reducible refine u_cht ?_ | with_reducible refine u_chf ?_ | with_reducible refine w_un ?_ | with_reducible refine w_rU ?_ | with_reducible refine w_isN ?_ | with_reducible refine w_notN ?_ | with_reducible refine u_bm ?_ | with_reducible refine u_sl ?_ | with_reducible refine u_part ?_ | with_reducible refine u_parti ?_ | with_reducible refine u_nopart ?_ | with_reducible refine u_m1 ?_ | with_reducible refine u_mt ?_ | with_reducible refine u_mk ?_ | with_reducible refine u_nget ?_ | with_reducible refine u_nin ?_ | with_reducible refine u_nput ?_ | with_reducible refine u_fldS ?_
  | with_reducible refine u_for ?_ | with_reducible refine u_lc ?_ | with_reducible refine u_iL ?_ | with_reducible refine u_iT ?_ | with_reducible refine u_iE ?_ | with_reducible refine u_iZ ?_ | with_reducible refine u_iZ2 ?_ | with_reducible refine u_iZ3 ?_ | with_reducible refine u_iR1 ?_ | with_reducible refine u_iR2 ?_ | with_reducible refine u_sub ?_ | with_reducible refine u_isA_int ?_ | with_reducible refine u_isA_bool ?_ | with_reducible refine u_int1 ?_ | with_reducible refine u_intB ?_ | with_reducible refine u_min2 ?_ | with_reducible refine u_kw ?_ | with_reducible refine w_yes ?_ | with_reducible refine u_srt ?_ | with_reducible refine u_yt ?_ | with_reducible refine u_yf ?_)
local macro_rules | `(tactic| walk_at "go") => `(tactic| repeat walk_at "sl1")
/-- what is ready to be laid -/
def rdy (W : Wd) (F : List Spot) (s : Spot) : Bool := ((lnL W.es W.tks s).filter fun x => decide (x ∉ F)).isEmpty
theorem rdy_iff {W : Wd} {F : List Spot} {s : Spot} : rdy W F s = true ↔ ∀ x ∈ lnP W.es W.tks s, x ∈ F := by
  unfold rdy
  rw [List.isEmpty_iff, List.filter_eq_nil_iff]
  constructor
  · intro h x hx
    have := h x ((lnL_mem _ _ _ _).mpr hx)
    simpa using this
  · intro h x hx
    have := h x ((lnL_mem _ _ _ _).mp hx)
    simpa using this
/-- a row of the world -/
structure RowW (W : Wd) (R : List Spot) : Prop where
  perm : R.Perm W.spots
  topo : ∀ (i : Nat) (s : Spot), R[i]? = some s → ∀ x ∈ lnP W.es W.tks s, x ∈ R.take i
theorem least_of : ∀ (L : List Spot), L ≠ [] → ∃ s ∈ L, ∀ x ∈ L, s.1 ≤ x.1
  | [], h => absurd rfl h
  | [a], _ => ⟨a, List.mem_singleton.mpr rfl, fun x hx => by rw [List.mem_singleton.mp hx]; exact Int.le_refl _⟩
  | a :: b :: L, _ => by
    obtain ⟨s, hs, h⟩ := least_of (b :: L) (by simp)
    by_cases c : a.1 ≤ s.1
    · refine ⟨a, List.mem_cons_self, fun x hx => ?_⟩
      rcases List.mem_cons.mp hx with e | hx
      · rw [e]; exact Int.le_refl _
      · exact Int.le_trans c (h x hx)
    · refine ⟨s, List.mem_cons_of_mem _ hs, fun x hx => ?_⟩
      rcases List.mem_cons.mp hx with e | hx
      · rw [e]; omega
      · exact h x hx
theorem ready_ne {W : Wd} (o : WdOk W) {F L : List Spot} (hp : (F ++ L).Perm W.spots) (hL : L ≠ []) : L.filter (rdy W F) ≠ [] := by
  obtain ⟨s, hs, h⟩ := least_of L hL
  have hsp : s ∈ W.spots := hp.mem_iff.mp (List.mem_append_right _ hs)
  intro e
  have := List.filter_eq_nil_iff.mp e s hs
  refine this (rdy_iff.mpr fun x hx => ?_)
  obtain ⟨h1, h2⟩ := lean_in o hsp hx
  rcases List.mem_append.mp (hp.mem_iff.mpr h1) with z | z
  · exact z
  · have := h x z; omega
theorem filter_at {p : Spot → Bool} {l : List Spot} {i : Nat} {x : Spot} (h : l[i]? = some x) : (l.take (i + 1)).filter p = (l.take i).filter p ++ (if p x = true then [x] else []) := filter_take_at h
theorem perm_erase {x : Spot} : ∀ {L : List Spot} {j : Nat}, L[j]? = some x → (x :: L.eraseIdx j).Perm L
  | [], _, h => by simp at h
  | a :: L, 0, h => by
    have e : a = x := Option.some.inj h
    rw [e]
    exact List.Perm.refl _
  | a :: L, j + 1, h => by
    have ih := perm_erase (L := L) (j := j) (by simpa using h)
    exact (List.Perm.swap a x _).trans (List.Perm.cons a ih)
section
variable {P : Program} {w : World} {K : PySem.W.Frag} {mg : Str → Option Value} {base : Heap}
def spLRow (K : PySem.W.Frag) : Sp := SpF (fun x : V × Addr => [x.1, .ref x.2]) fun x H Q => ∃ H0 W, Same H0 H ∧ H0 x.2 = none ∧ IsWd H0 x.1 W ∧ WdOk W ∧ TapeAt H x.2 ∧
  ∀ f H' R, H f = none → But x.2 H H' → TapeAt H' x.2 → SpL H' f R → RowW W R → Q (.ref f) H'
theorem ok_lrow (T : Txt K mg) : Cal P w K mg base 4 "_law_row" (spLRow K) := by
  refine .of (.of (F_law_row T) sc_law_row (b_law_row T) (spf_len fun _ => rfl) fun cdv A outer s H vs Q E hr h => ?_) (glo_law_row T)
  have nd := sc_law_row.nd
  have hu := hr.h
  have hu5 := hr.h5
  have c_law_draw := ok_draw (P := P) (w := w) (base := base) T
  have c_law_spots := ok_lspots (P := P) (w := w) (base := base) T
  have c_law_leans := ok_lleans (P := P) (w := w) (base := base) T
  obtain ⟨⟨v, t⟩, rfl, H0, W, sH, ht0, hW, o, tp, q⟩ := h
  obtain ⟨a, ls, lr, lt, vr, e, ha, _⟩ := id hW
  dsimp only at e ht0 tp q
  subst e
  refine ⟨_, (pss_cons (ps_set (i := 2) nd rfl (Or.inl rfl) (pe_c c_law_spots hr (by rfl) (pa_cons (pv 0) pa_nil)))
    (pss_cons (ps_set (i := 3) nd rfl (Or.inr rfl) (pe_lstO pa_nil))
    (pss_cons (ps_while PassesOwn.never (pt_cmpR (op_neD hu) (pv 2) (pe_lstO pa_nil) (nomark _)) (pss_cons (ps_setLc (i := 4) (own := [("_law_spot", 6)]) (g := (gName 6))  rfl nd rfl rfl (sw_true rfl rfl rfl (by decide +kernel)) (pi_list (pv 2)) (blkOk_by (N := ["_law_world_here", "_law_tape_here", "_law_left", "_law_found", "_law_ready", "_law_one", "_law_spot"]) (sc := (defScope s_law_row)) (by decide +kernel)) (fun _ _ _ _ _ => (pg_name (i := 6) nd rfl (Or.inl rfl))) (fun _ _ _ _ _ => (pts_one (pt_cmpR (op_eqDK (K := K) rfl hu) (pe_lc (own := [("_law_one", 5)]) (g := (gName 5))  rfl nd (pi_listK (K := K) rfl (pe_c c_law_leans hr (by rfl) (pa_cons (pv 0) (pa_cons (pv 6) pa_nil)))) (blkOk_by (N := ["_law_world_here", "_law_tape_here", "_law_left", "_law_found", "_law_ready", "_law_one", "_law_spot"]) (sc := (relabel (lcSc (asgVal ((bodyOf ((defBody s_law_row).getD 2 noSt)).getD 0 noSt))) (envS (defScope s_law_row)))) (by decide +kernel)) (fun _ _ _ _ _ => (pg_name (i := 5) nd rfl (Or.inl rfl))) (fun _ _ _ _ _ => (pts_one (pt_cmpR (op_notInDK (K := K) rfl hu5) (pv 5) (pv 3) rfl))) (fun _ _ _ _ _ => (pv 5))) (pe_lstO pa_nil) (nomark _)))) (fun _ _ _ _ _ => (pv 6)))
    (pss_cons (ps_set (i := 6) nd rfl (Or.inl rfl) (pe_ix ix_list (pv 4) (pe_c c_law_draw hr (by rfl) (pa_cons (pv 1) (pa_cons (pe_callB cr_lenO (by rfl) (free_len T) PySem.boot_len (pa_cons (pv 4) pa_nil)) pa_nil))) (fun _ _ => rfl)))
    (pss_cons (ps_expr (pe_bm PySem.F.plainAttrs_list PySem.F.slot_list_append PySem.F.type_list_append mt_appO (pv 3) (pa_cons (pv 6) pa_nil)))
    (pss_one (ps_expr (pe_bm PySem.F.plainAttrs_list PySem.F.slot_list_remove PySem.F.type_list_remove (mt_remO hu5) (pv 2) (pa_cons (pv 6) pa_nil))))))))
    (pss_one (ps_ret (pv 3)))))), ?_⟩
  walk_at "go"
  refine ⟨.ref a, rfl, W, hW.mono sH, o, fun l H1 hl s1 hsp => ?_⟩
  have hfew := spots_few o
  have hnd := spots_nd o
  walk_at "go"
  refine u_lstn l0 fun f H2 hf s2 e2 => ?_
  obtain ⟨txs, etx⟩ := tp.lst
  have nl : l ≠ t := (ne_of_none etx hl).symm
  have hf0 : H f = none := s1.free hf
  have nf : f ≠ t := (ne_of_none etx hf0).symm
  have nlf : l ≠ f := by
    obtain ⟨_, e, _⟩ := hsp
    exact ne_of_none e hf
  walk_at "go"
  refine u_while (fun m σ H' => ∃ x4 x5 x6 L F, σ = [some (.ref a), some (.ref t), some (.ref l), some (.ref f), x4, x5, x6] ∧ m = L.length ∧ But t H H' ∧ TapeAt H' t ∧ SpL H' l L ∧ SpL H' f F ∧ (F ++ L).Perm W.spots ∧ ∀ (i : Nat) (s : Spot), F[i]? = some s → ∀ x ∈ lnP W.es W.tks s, x ∈ F.take i)
    ⟨_, _, _, _, W.spots, [], rfl, rfl, But.of (s1.trans s2), tp.same (s1.trans s2), hsp.mono s2, ⟨[], e2, .nil⟩, by simp, fun i s h => by simp at h⟩ ?_
  rintro m σ H3 ⟨x4, x5, x6, L, F, rfl, rfl, b3, tp3, hL, hF, hp, htopo⟩
  have hlen : F.length + L.length ≤ 30 := by
    have := hp.length_eq
    rw [List.length_append] at this
    omega
  have hndFL := hp.nodup_iff.mpr hnd
  obtain ⟨lv, el, pl⟩ := id hL
  walk_at "go"
  refine u_lstn l0 fun nl0 H4 hnl0 s4 e4 => ?_
  refine g_neNil (s4 _ _ el) (dpSps (sps_mono (TK.of s4) pl)) (shSps L) e4 ?_
  walk_at "go"
  have b4 := b3.same s4
  have tp4 := tp3.same s4
  have SH4 : Same H0 H4 := sH.but b4 ht0
  have etx4 := tp4.lst
  obtain ⟨txs4, etx4⟩ := etx4
  have hW4 := hW.mono SH4
  by_cases hLe : L = []
  · have hb : (!(L.map spD).isEmpty) = false := by rw [hLe]; rfl
    rw [hb]
    refine u_wf ?_
    walk_at "go"
    rw [hLe, List.append_nil] at hp
    exact q f H4 F hf0 b4 tp4 (hF.mono s4) ⟨hp, htopo⟩
  · have hLne : L ≠ [] := hLe
    have hb : (!(L.map spD).isEmpty) = true := by
      cases L with
      | nil => exact absurd rfl hLe
      | cons z L0 => rfl
    rw [hb]
    refine u_wt (fun σ' H' => ∃ x4 x5 x6 L' F', σ' = [some (.ref a), some (.ref t), some (.ref l), some (.ref f), x4, x5, x6] ∧ L'.length < L.length ∧ But t H H' ∧ TapeAt H' t ∧ SpL H' l L' ∧ SpL H' f F' ∧ (F' ++ L').Perm W.spots ∧ ∀ (i : Nat) (s : Spot), F'[i]? = some s → ∀ x ∈ lnP W.es W.tks s, x ∈ F'.take i)
      (fun σ' H' z => let ⟨x4, x5, x6, L', F', e, hlt, r⟩ := z; ⟨L'.length, hlt, x4, x5, x6, L', F', e, rfl, r⟩) ?_
    walk_at "go"
    refine u_iLi (SqL.of (s4 _ _ el)) ?_
    have lvL : lv.length = L.length := prLen pl
    have hF4 := hF.mono s4
    refine lc_by (walk_list (xs := lv)) (Same H4) (fun i acc H' => Paired (IsSp H') acc ((L.take i).filter (rdy W F))) (small_line (by omega)) (fun D H1 H2 hD s b => sS hD s b) (Same.refl H4) (fun H' s => by rw [List.take_zero]; exact .nil) (fun i acc H' _ s _ => SqL.of (s _ _ (s4 _ _ el))) ?_ ?_
    · intro D i x acc H6 H5 R N put skip hD hi s5 pacc e5 y
      obtain ⟨rfl, hx⟩ := y
      obtain ⟨sp, hsp', hS⟩ := prAt1 pl hx
      have hS5 := hS.mono (TK.of (s4.trans s5))
      have hspW : sp ∈ W.spots := hp.mem_iff.mp (List.mem_append_right _ (List.mem_of_getElem? hsp'))
      refine w_name ⟨rfl, ?_⟩
      walk_at "go"
      refine ⟨(.ref a, x), rfl, W, sp, hW4.mono s5, o, hS5, (spot_in o hspW).2.2.1, fun c H6 hc s6 hcl => ?_⟩
      obtain ⟨cv, ec, pc⟩ := hcl
      have lcv : cv.length = (lnL W.es W.tks sp).length := prLen pc
      have lln := lnL_len W.es sp W.tks
      have ofew := o.few
      refine u_iLi (SqL.of ec) ?_
      refine lc_by (walk_list (xs := cv)) (Same H6) (fun j acc H' => Paired (IsSp H') acc (((lnL W.es W.tks sp).take j).filter fun x => decide (x ∉ F))) (small_line (by omega)) (fun D H1 H2 hD s b => sS hD s b) (Same.refl H6) (fun H' s => by rw [List.take_zero]; exact .nil) (fun i acc H' _ s _ => SqL.of (s _ _ ec)) ?_ ?_
      · intro D2 j x acc2 H8 H7 R2 N2 put2 skip2 hD2 hj s7 pacc2 e7 y
        obtain ⟨rfl, hx⟩ := y
        obtain ⟨k, hk, hSk⟩ := prAt1 pc hx
        have hSk7 := hSk.mono (TK.of s7)
        refine w_name ⟨rfl, ?_⟩
        walk_at "go"
        refine g_ninSp hSk7 (hF4.mono (s5.trans (s6.trans s7))) ?_
        walk_at "go"
        refine u_y2 (fun c => ?_) fun c => ?_
        · walk_at "go"
          refine put2 _ _ e7 s7 fun H9 b9 t9 s9 => ?_
          rw [filter_at hk, if_pos (by simpa using c)]
          exact prApp (sps_mono t9 pacc2) (.cons (hSk7.mono t9) .nil)
        · refine skip2 _ e7 s7 ?_
          rw [filter_at hk, if_neg (by simpa using c), List.append_nil]
          exact pacc2
      · intro D2 acc2 H7 hD2 e7 s7 pacc2
        rw [lcv, List.take_length] at pacc2
        walk_at "go"
        refine u_lstn l0 fun nl2 H8 hnl2 s8 e8 => ?_
        refine g_eqNil (s8 _ _ e7) (dpSps (sps_mono (TK.of s8) pacc2)) (shSps _) e8 ?_
        walk_at "go"
        have s58 := s6.trans (s7.trans s8)
        have hem : (((lnL W.es W.tks sp).filter fun x => decide (x ∉ F)).map spD).isEmpty = rdy W F sp := by
          unfold rdy
          cases (lnL W.es W.tks sp).filter fun x => decide (x ∉ F) <;> rfl
        rw [hem]
        refine u_y2 (fun c => ?_) fun c => ?_
        · walk_at "go"
          refine put _ _ (s58 _ _ e5) (s5.trans s58) fun H9 b9 t9 s9 => ?_
          rw [filter_at hsp', if_pos c]
          exact prApp (sps_mono ((TK.of s58).trans t9) pacc) (.cons ((hS5.mono (TK.of s58)).mono t9) .nil)
        · refine skip _ (s58 _ _ e5) (s5.trans s58) ?_
          rw [filter_at hsp', if_neg (by rw [c]; exact Bool.false_ne_true), List.append_nil]
          exact sps_mono (TK.of s58) pacc
    · intro D acc H5 hD e5 s5 pacc
      rw [lvL, List.take_length] at pacc
      have hne := ready_ne o hp hLne
      generalize hrd : L.filter (rdy W F) = rd at pacc hne
      have lacc : acc.length = rd.length := prLen pacc
      have hrl : rd.length ≤ 30 := by
        rw [← hrd]
        have := List.length_filter_le (rdy W F) L
        omega
      have hrp : 0 < rd.length := List.length_pos_iff.mpr hne
      walk_at "go"
      refine u_lenL e5 ?_
      walk_at "go"
      rw [lacc]
      have tp5 := tp4.same s5
      refine call_draw tp5 (by omega) (by omega) fun n H6 n0 nlt b6 k6 _ tp6 => ?_
      obtain ⟨k, rfl, hk⟩ := nat_of n0 nlt
      have hkl : k < rd.length := by omega
      obtain ⟨sp, hsp'⟩ : ∃ sp, rd[k]? = some sp := ⟨_, List.getElem?_eq_getElem hkl⟩
      obtain ⟨x, hx, hS⟩ := prAt2 pacc hsp'
      have nD : D ≠ t := (ne_of_none etx4 hD).symm
      refine w_ixL (b6 _ _ e5 nD) hx ?_
      have hmem : sp ∈ L ∧ rdy W F sp = true := by
        have := List.mem_of_getElem? hsp'
        rw [← hrd] at this
        exact List.mem_filter.mp this
      have hS6 := hS.mono k6
      have b46 : But t H H6 := (b4.same s5).trans b6
      have hF6 : SpL H6 f F := (hF4.mono s5).but b6 k6 nf
      have hL6 : SpL H6 l L := ((hL.mono s4).mono s5).but b6 k6 nl
      obtain ⟨fv, ef, pf⟩ := hF6
      walk_at "go"
      refine u_bmL ef ?_
      walk_at "go"
      refine u_app ef (small_line (by rw [prLen pf]; omega)) fun H7 b7 k7 n7 e7 => ?_
      walk_at "go"
      have hL7 : SpL H7 l L := hL6.but b7 k7 nlf
      obtain ⟨lv7, el7, pl7⟩ := hL7
      refine u_bmL el7 ?_
      walk_at "go"
      have hjx : ∃ j, L[j]? = some sp := List.mem_iff_getElem?.mp hmem.1
      obtain ⟨j, hj⟩ := hjx
      have hndL : L.Nodup := (List.nodup_append.mp hndFL).2.1
      refine ⟨l, x, sp, lv7, L, j, rfl, rfl, el7, pl7, hS6.mono k7, hj, fun m hm hme => ?_, fun H8 b8 k8 n8 e8 => ?_⟩
      · have h1 := idx_at hndL hj
        have h2 := idx_at hndL hme
        omega
      · have hjl : j < L.length := (List.getElem?_eq_some_iff.mp hj).1
        have hjv : L[j] = sp := (List.getElem?_eq_some_iff.mp hj).2
        have hpe : (sp :: L.eraseIdx j).Perm L := perm_erase hj
        refine ⟨_, _, _, L.eraseIdx j, F ++ [sp], rfl, ?_, (b46.two b7 hf0).two b8 hl, (tp6.but b7 nf.symm).but b8 nl.symm, ⟨_, e8, prErase j (sps_mono k8 pl7)⟩, ?_, ?_, ?_⟩
        · rw [List.length_eraseIdx_of_lt hjl]; omega
        · exact ⟨_, b8 _ _ e7 nlf.symm, prApp (sps_mono (k7.trans k8) pf) (.cons (hS6.mono (k7.trans k8)) .nil)⟩
        · refine List.Perm.trans ?_ hp
          rw [List.append_assoc]
          exact List.Perm.append_left F hpe
        · intro i s hs x hx
          by_cases hi : i < F.length
          · rw [List.getElem?_append_left hi] at hs
            have := htopo i s hs x hx
            rw [List.take_append_of_le_length (by omega)]
            exact this
          · rw [List.getElem?_append_right (by omega)] at hs
            have hi0 : i - F.length = 0 := by
              have := (List.getElem?_eq_some_iff.mp hs).1
              simp at this
              omega
            rw [hi0] at hs
            have hss : s = sp := by
              have h := hs
              simp at h
              exact h.symm
            rw [hss] at hx
            have hie : i = F.length := by omega
            rw [hie, List.take_append_of_le_length (Nat.le_refl _), List.take_length]
            exact rdy_iff.mp hmem.2 x hx
end
end SL
end PtD17
/-! part D18 -/
section PtD18
/-! D18: the law's hand: goes. -/
namespace SL
open PySem PySem.Spec PyProof.Rows L2
/-- one step that needs nothing -/
local macro_rules | `(tactic| walk_at "sl1") => `(tactic| first
  | (with_reducible refine w_varh ?_; refine ⟨_, rfl, ?_⟩) | (with_reducible refine w_rEqh ?_; refine ⟨rfl, ?_⟩) | (with_reducible refine w_rNeh ?_; refine ⟨rfl, ?_⟩)
  | with_reducible refine w_seq ?_ | with_reducible refine w_asg ?_ | with_reducible refine w_c ?_ | with_reducible refine w_op ?_ | with_reducible refine w_rI0 ?_ | with_reducible refine u_test ?_ | with_reducible refine u_tb ?_ | with_reducible refine u_bl ?_ | with_reducible refine u_ifs ?_ | with_reducible refine u_ift ?_ | with_reducible refine u_iff ?_ | with_reducible refine w_cons ?_ | with_reducible refine w_nil ?_ | with_reducible refine w_cl ?_ | with_reducible refine w_cb ?_ | with_reducible refine w_ret ?_ | with_reducible refine w_drop ?_ | with_reducible refine w_name ?_ | with_reducible refine w_next ?_
  | with_reducible refine u_fld ?_ | with_reducible refine u_tup ?_ | with_reducible refine u_lst ?_ | with_reducible refine u_not ?_ | with_reducible refine u_nott ?_ | with_reducible refine u_notf ?_ | with_reducible refine u_and ?_ | with_reducible refine u_or ?_ | with_reducible refine u_andt ?_ | with_reducible refine u_andf ?_ | with_reducible refine u_ort ?_ | with_reducible refine u_orf ?_ | with_reducible refine u_andV ?_ | with_reducible refine u_orV ?_ | with_reducible refine u_andVt ?_ | with_reducible refine u_andVf ?_ | with_reducible refine u_orVt ?_ | with_reducible refine u_orVf ?_ | with_reducible refine u_notV ?_ | with_reducible refine u_notVb ?_
  | with_reducible refine u_chain ?_ | with_reducible refine u_cht ?_ | with_reducible refine u_chf ?_ | with_reducible refine w_un ?_ | with_reducible refine w_rU ?_ | with_reducible refine w_isN ?_ | with_reducible refine w_notN ?_ | with_reducible refine u_bm ?_ | with_reducible refine u_sl ?_ | with_reducible refine u_part ?_ | with_reducible refine u_parti ?_ | with_reducible refine u_nopart ?_ | with_reducible refine u_m1 ?_ | with_reducible refine u_mt ?_ | with_reducible refine u_mk ?_ | with_reducible refine u_nget ?_ | with_reducible refine u_nin ?_ | with_reducible refine u_nput ?_ | with_reducible refine u_fldS ?_
  | with_reducible refine u_for ?_ | with_reducible refine u_lc ?_ | with_reducible refine u_iL ?_ | with_reducible refine u_iT ?_ | with_reducible refine u_iE ?_ | with_reducible refine u_iZ ?_ | with_reducible refine u_iZ2 ?_ | with_reducible refine u_iZ3 ?_ | with_reducible refine u_iR1 ?_ | with_reducible refine u_iR2 ?_ | with_reducible refine u_sub ?_ | with_reducible refine u_isA_int ?_ | with_reducible refine u_isA_bool ?_ | with_reducible refine u_int1 ?_ | with_reducible refine u_intB ?_ | with_reducible refine u_min2 ?_ | with_reducible refine u_kw ?_ | with_reducible refine w_yes ?_ | with_reducible refine u_srt ?_ | with_reducible refine u_yt ?_ | with_reducible refine u_yf ?_)
local macro_rules | `(tactic| walk_at "go") => `(tactic| repeat walk_at "sl1")
/-- what lies in the slot n, the first i of the row laid -/
def rmAt (f : Spot → Int) (R : List Spot) (n : Int) : Nat → Option Spot
  | 0 => none
  | i + 1 => if f (R.getD i d0) = n then some (R.getD i d0) else rmAt f R n i
/-- each read finds what it wants, and the wanted lie there at the end -/
def Goes (ln : Spot → List Spot) (f : Spot → Int) (R Wt : List Spot) : Prop :=
  (∀ (i : Nat) (s : Spot), R[i]? = some s → ∀ x ∈ ln s, rmAt f R (f x) i = some x) ∧ ∀ x ∈ Wt, rmAt f R (f x) R.length = some x
/-- the dict of leans -/
def LnD (P : Program) (w : World) (H : Hp) (d : Addr) (S : List Spot) (ln : Spot → List Spot) : Prop := ∃ kvs, DN P w H d kvs ∧ ∀ s ∈ S, ∃ a, valV kvs s = some (.ref a) ∧ SpL H a (ln s)
theorem LnD.same {P : Program} {w : World} {H H' : Hp} {d : Addr} {S : List Spot} {ln : Spot → List Spot} (s : Same H H') (h : LnD P w H d S ln) : LnD P w H' d S ln := by
  obtain ⟨kvs, h1, h2⟩ := h
  exact ⟨kvs, h1.same s, fun x hx => let ⟨a, e, q⟩ := h2 x hx; ⟨a, e, q.mono s⟩⟩
/-- the dict of slots -/
def SlD (P : Program) (w : World) (H : Hp) (d : Addr) (S : List Spot) (f : Spot → Int) : Prop := ∃ kvs, DN P w H d kvs ∧ ∀ s ∈ S, valV kvs s = some (.int (f s))
theorem SlD.same {P : Program} {w : World} {H H' : Hp} {d : Addr} {S : List Spot} {f : Spot → Int} (s : Same H H') (h : SlD P w H d S f) : SlD P w H' d S f := let ⟨kvs, h1, h2⟩ := h; ⟨kvs, h1.same s, h2⟩
/-- the room's dict against the slots' content -/
def RoomV (H : Hp) (o : Option V) : Option Spot → Prop
  | none => o = none
  | some s => ∃ v, o = some v ∧ IsSp H v s
def RoomI (H : Hp) (kvs : List (Key × V)) (ρ : Int → Option Spot) : Prop := ∀ n : Int, RoomV H (valV kvs (Sum.inl n)) (ρ n)
theorem RoomV.mono {H H' : Hp} {o : Option V} (t : TK H H') : ∀ {r : Option Spot}, RoomV H o r → RoomV H' o r
  | none, h => h
  | some s, ⟨v, e, q⟩ => ⟨v, e, q.mono t⟩
theorem RoomI.mono {H H' : Hp} {kvs : List (Key × V)} {ρ : Int → Option Spot} (t : TK H H') (h : RoomI H kvs ρ) : RoomI H' kvs ρ := fun n => (h n).mono t
section
variable {P : Program} {w : World} {K : PySem.W.Frag} {mg : Str → Option Value} {base : Heap}
/-- room.get(n) != x -/
theorem room_ne {H : Hp} {kvs : List (Key × V)} {ρ : Int → Option Spot} {n : Int} {y : V} {x : Spot} {Q : VK} (h : RoomI H kvs ρ) (hy : IsSp H y x) (q : Q (.bl (!decide (ρ n = some x))) H) : rNeD K ((valV kvs (Sum.inl n : Key)).getD .non) y H Q := by
  have := h n
  cases hr : ρ n with
  | none =>
    rw [hr] at this
    have this' : valV kvs (Sum.inl n : Key) = none := this
    rw [this']
    refine g_neNon hy ?_
    rw [hr] at q
    simpa using q
  | some s =>
    rw [hr] at this
    obtain ⟨v, e, hv⟩ := this
    rw [e]
    refine g_neSp hv hy ?_
    rw [hr] at q
    simpa using q
def spGoes (P : Program) (w : World) (K : PySem.W.Frag) : Sp := SpF (fun x : Addr × Addr × Addr × Addr => [.ref x.1, .ref x.2.1, .ref x.2.2.1, .ref x.2.2.2]) fun x H Q => ∃ ln f R Wt, LnD P w H x.1 R ln ∧ SpL H x.2.1 R ∧ SlD P w H x.2.2.1 R f ∧ SpL H x.2.2.2 Wt ∧
  (∀ s ∈ R, ∀ y ∈ ln s, y ∈ R) ∧ (∀ s ∈ Wt, s ∈ R) ∧ R.length ≤ 1000 ∧ Wt.length ≤ 1000 ∧ ∀ b H', Same H H' → (b = true ↔ Goes ln f R Wt) → Q (.bl b) H'
theorem ok_goes (T : Txt K mg) : Cal P w K mg base 1 "_law_goes" (spGoes P w K) := by
  refine .of (.of (F_law_goes T) sc_law_goes (b_law_goes T) (spf_len fun _ => rfl) fun cdv A outer s H vs Q E hr h => ?_) (glo_law_goes T)
  have nd := sc_law_goes.nd
  have hu := hr.h
  have hu1 := hr.h1
  obtain ⟨⟨a, b, c, d⟩, rfl, ln, f, R, Wt, ⟨lk, DL, hlk⟩, ⟨us, e, pu⟩, ⟨sk, DS, hsk⟩, ⟨ws, ew, pw⟩, hin, hwt, hl1, hl2, q⟩ := h
  dsimp only at DL e DS ew q
  have lu : us.length = R.length := prLen pu
  have lw : ws.length = Wt.length := prLen pw
  refine ⟨_, (pss_cons (ps_set (i := 4) nd rfl (Or.inr rfl) pe_dnewK)
    (pss_cons (ps_for PassesOwn.never rfl (pi_list (pv 1)) (pg_name (i := 5) nd rfl (Or.inl rfl)) (pss_cons (ps_for PassesOwn.never rfl (pi_list (pe_nget hu (pv 0) (pv 5) (fun _ _ => rfl))) (pg_name (i := 6) nd rfl (Or.inl rfl)) (pss_one (ps_if (pt_cmpR (op_neD hu) (pe_dget1 hu1 (pv 4) (pe_nget hu (pv 2) (pv 6) (fun _ _ => rfl)) ⟨rfl, rfl, rfl, rfl⟩) (pv 6) (nomark _)) (pss_one (ps_ret pe_bl)) pss_nil)))
    (pss_one (ps_dput hu1 (pv 4) (pe_nget hu (pv 2) (pv 5) (fun _ _ => rfl)) (pv 5) rfl))))
    (pss_one (ps_ret (pe_cmpR (op_eqD hu) (pe_lc (own := [("_law_spot", 5)]) (g := (gName 5))  rfl nd (pi_list (pv 3)) (blkOk_by (N := ["_law_leans_here", "_law_row_here", "_law_slots", "_law_wanted", "_law_room", "_law_spot", "_law_one"]) (sc := (defScope s_law_goes)) (by decide +kernel)) (fun _ _ _ _ _ => (pg_name (i := 5) nd rfl (Or.inl rfl))) (fun _ _ _ _ _ => (pts_one (pt_cmpR (op_neDK (K := K) rfl hu) (pe_dget1 hu1 (pv 4) (pe_ngetK (P := P) (w := w) rfl rfl hu (pv 2) (pv 5) (fun _ _ => rfl)) ⟨rfl, rfl, rfl, rfl⟩) (pv 5) (nomark _)))) (fun _ _ _ _ _ => (pv 5))) (pe_lstO pa_nil) (nomark _)))))), ?_⟩
  walk_at "go"
  intro rd hrd
  generalize hH1 : upd H rd (.dK []) = H1
  have s1 : Same H H1 := by rw [← hH1]; exact same_new hrd
  have e1 : H1 rd = some (.dK []) := by rw [← hH1]; exact upd_same
  walk_at "go"
  refine u_iLi (SqL.of (s1 _ _ e)) ?_
  refine for_by (walk_list (xs := us)) (fun i σ H' => ∃ x5 x6 kvs, σ = [some (.ref a), some (.ref b), some (.ref c), some (.ref d), some (.ref rd), x5, x6] ∧ Same H H' ∧ H' rd = some (.dK kvs) ∧ kvs.length ≤ i ∧ RoomI H' kvs (fun n => rmAt f R n i) ∧ ∀ (j : Nat) (s : Spot), j < i → R[j]? = some s → ∀ x ∈ ln s, rmAt f R (f x) j = some x)
    ⟨_, _, [], rfl, s1, e1, Nat.le_refl _, fun n => rfl, fun j s h => absurd h (Nat.not_lt_zero _)⟩ (fun i σ H' _ ⟨_, _, _, _, s, _⟩ => SqL.of (s _ _ e)) ?_ ?_
  · rintro i x σ H3 H2 hi ⟨x5, x6, kvs, rfl, s2, ed, hkl, hR, hok⟩ ⟨rfl, hx⟩
    obtain ⟨sp, hsp, hS⟩ := prAt1 pu hx
    have hm : sp ∈ R := List.mem_of_getElem? hsp
    obtain ⟨la, hla, ls, els, pls⟩ := hlk sp hm
    have lls : ls.length = (ln sp).length := prLen pls
    walk_at "go"
    refine u_ngeti (DL.same s2) (hS.mono (TK.of s2)) hla ?_
    refine u_iLi (SqL.of (s2 _ _ els)) ?_
    refine for_by (walk_list (xs := ls)) (fun j σ H' => ∃ x6, σ = [some (.ref a), some (.ref b), some (.ref c), some (.ref d), some (.ref rd), some x, x6] ∧ Same H2 H' ∧ ∀ y ∈ (ln sp).take j, rmAt f R (f y) i = some y)
      ⟨_, rfl, Same.refl H2, fun y hy => by rw [List.take_zero] at hy; cases hy⟩ (fun j σ H' _ ⟨_, _, s, _⟩ => SqL.of (s _ _ (s2 _ _ els))) ?_ ?_
    · rintro j y σ H4 H3 hj ⟨x6, rfl, s3, hj2⟩ ⟨rfl, hy⟩
      obtain ⟨k, hk, hSk⟩ := prAt1 pls hy
      have hkm : k ∈ R := hin sp hm k (List.mem_of_getElem? hk)
      have s23 := s2.trans s3
      have hSk3 := hSk.mono (TK.of s23)
      walk_at "go"
      refine ⟨_, rfl, rd, rfl, .inl ⟨kvs, .inl (s3 _ _ ed)⟩, ?_⟩
      walk_at "go"
      refine u_ngeti (DS.same s23) hSk3 (hsk k hkm) ?_
      refine ⟨_, DGet.k (k := Sum.inl (f k)) (s3 _ _ ed), ?_⟩
      walk_at "go"
      refine room_ne (hR.mono (TK.of s3)) hSk3 ?_
      walk_at "go"
      by_cases hc : rmAt f R (f k) i = some k
      · refine u_ifF (by simp [hc]) ?_
        walk_at "go"
        refine ⟨_, rfl, s3, fun z hz => ?_⟩
        rcases (mem_take_succ hk).mp hz with h | h
        · exact hj2 z h
        · rw [h]; exact hc
      · refine u_ifT (by simp [hc]) ?_
        walk_at "go"
        refine q false H3 s23 ⟨fun h => (by cases h), fun g => absurd (g.1 i sp hsp k (List.mem_of_getElem? hk)) hc⟩
    · rintro σ H3 ⟨x6, rfl, s3, hj2⟩
      rw [lls, List.take_length] at hj2
      have s23 := s2.trans s3
      walk_at "go"
      refine ⟨_, rfl, _, rfl, ?_⟩
      walk_at "go"
      refine u_ngeti (DS.same s23) (hS.mono (TK.of s23)) (hsk sp hm) ?_
      refine ⟨rd, _, rfl, DPut.k (k := Sum.inl (f sp)) (s3 _ _ ed) (small_line (by omega)), ?_⟩
      generalize hH4 : upd H3 rd (.dK (putK kvs (Sum.inl (f sp)) x)) = H4
      have b4 : But rd H3 H4 := by rw [← hH4]; exact but_upd
      have k4 : TK H3 H4 := by rw [← hH4]; exact tk_upd fun xs e => by rw [s3 _ _ ed] at e; cases e
      have e4 : H4 rd = some (.dK (putK kvs (Sum.inl (f sp)) x)) := by rw [← hH4]; exact upd_same
      refine ⟨_, _, _, rfl, s23.but b4 hrd, e4, Nat.le_trans (length_putK _ _ _) (by omega), fun n => ?_, fun j' s' hj' hs' => ?_⟩
      · have hg : R.getD i d0 = sp := getD_at hsp
        have hr := (hR.mono ((TK.of s3).trans k4)) n
        show RoomV H4 _ (rmAt f R n (i + 1))
        rw [show rmAt f R n (i + 1) = if f (R.getD i d0) = n then some (R.getD i d0) else rmAt f R n i from rfl, hg]
        by_cases hn : f sp = n
        · rw [if_pos hn]
          refine ⟨x, by rw [valV_put, if_pos (by rw [hn])], (hS.mono (TK.of s23)).mono k4⟩
        · rw [if_neg hn]
          have hv : valV (putK kvs (Sum.inl (f sp) : Key) x) (Sum.inl n) = valV kvs (Sum.inl n) := by
            rw [valV_put, if_neg fun h => hn (by injection h with h; exact h.symm)]
          rw [hv]
          exact hr
      · rcases Nat.lt_succ_iff_lt_or_eq.mp hj' with h | h
        · exact hok j' s' h hs'
        · rw [h] at hs'
          rw [hsp] at hs'
          cases hs'
          rw [h]
          exact hj2
  · rintro σ H2 ⟨x5, x6, kvs, rfl, s2, ed, hkl, hR, hok⟩
    rw [lu] at hR hok
    walk_at "go"
    refine u_iLi (SqL.of (s2 _ _ ew)) ?_
    refine lc_by (walk_list (xs := ws)) (Same H2) (fun j acc H' => Paired (IsSp H') acc ((Wt.take j).filter fun x => !decide (rmAt f R (f x) R.length = some x))) (small_line (by omega)) (fun D H1 H2 hD s b => sS hD s b) (Same.refl H2) (fun H' s => by rw [List.take_zero]; exact .nil) (fun i acc H' _ s _ => SqL.of (s _ _ (s2 _ _ ew))) ?_ ?_
    · intro D j y acc H4 H3 Rr N put skip hD hj s3 pacc e3 yy
      obtain ⟨rfl, hy⟩ := yy
      obtain ⟨k, hk, hSk⟩ := prAt1 pw hy
      have hkm : k ∈ R := hwt k (List.mem_of_getElem? hk)
      have s23 := s2.trans s3
      have hSk3 := hSk.mono (TK.of s23)
      refine w_name ⟨rfl, ?_⟩
      walk_at "go"
      refine ⟨_, rfl, rd, rfl, .inl ⟨kvs, .inl (s3 _ _ ed)⟩, ?_⟩
      walk_at "go"
      refine u_ngeti (DS.same s23) hSk3 (hsk k hkm) ?_
      refine ⟨_, DGet.k (k := Sum.inl (f k)) (s3 _ _ ed), ?_⟩
      walk_at "go"
      refine room_ne (hR.mono (TK.of s3)) hSk3 ?_
      walk_at "go"
      refine u_y2 (fun c => ?_) fun c => ?_
      · walk_at "go"
        refine put _ _ e3 s3 fun H9 b9 t9 s9 => ?_
        rw [filter_at hk, if_pos c]
        exact prApp (sps_mono t9 pacc) (.cons (hSk3.mono t9) .nil)
      · refine skip _ e3 s3 ?_
        rw [filter_at hk, if_neg (by rw [c]; exact Bool.false_ne_true), List.append_nil]
        exact pacc
    · intro D acc H3 hD e3 s3 pacc
      rw [lw, List.take_length] at pacc
      walk_at "go"
      refine u_lstn l0 fun nl H4 hnl s4 e4 => ?_
      refine g_eqNil (s4 _ _ e3) (dpSps (sps_mono (TK.of s4) pacc)) (shSps _) e4 ?_
      refine q _ H4 (s2.trans (s3.trans s4)) ?_
      rw [List.isEmpty_iff, List.map_eq_nil_iff, List.filter_eq_nil_iff]
      constructor
      · intro h
        exact ⟨fun i s hs => hok i s (List.getElem?_eq_some_iff.mp hs).1 hs, fun x hx => by
          have := h x hx
          simpa using this⟩
      · intro g x hx
        rw [g.2 x hx]
        simp
end
end SL
end PtD18
/-! part D19 -/
section PtD19
/-! D19: all ways to lay a row into so many slots. -/
namespace SL
open PySem PySem.Spec PyProof.Rows L2
/-- one step that needs nothing -/
local macro_rules | `(tactic| walk_at "sl1") => `(tactic| first
  | (with_reducible refine w_varh ?_; refine ⟨_, rfl, ?_⟩) | (with_reducible refine w_rEqh ?_; refine ⟨rfl, ?_⟩) | (with_reducible refine w_rNeh ?_; refine ⟨rfl, ?_⟩)
  | with_reducible refine w_seq ?_ | with_reducible refine w_asg ?_ | with_reducible refine w_c ?_ | with_reducible refine w_op ?_ | with_reducible refine w_rI0 ?_ | with_reducible refine u_test ?_ | with_reducible refine u_tb ?_ | with_reducible refine u_bl ?_ | with_reducible refine u_ifs ?_ | with_reducible refine u_ift ?_ | with_reducible refine u_iff ?_ | with_reducible refine w_cons ?_ | with_reducible refine w_nil ?_ | with_reducible refine w_cl ?_ | with_reducible refine w_cb ?_ | with_reducible refine w_ret ?_ | with_reducible refine w_drop ?_ | with_reducible refine w_name ?_ | with_reducible refine w_next ?_
  | with_reducible refine u_fld ?_ | with_reducible refine u_tup ?_ | with_reducible refine u_lst ?_ | with_reducible refine u_not ?_ | with_reducible refine u_nott ?_ | with_reducible refine u_notf ?_ | with_reducible refine u_and ?_ | with_reducible refine u_or ?_ | with_reducible refine u_andt ?_ | with_reducible refine u_andf ?_ | with_reducible refine u_ort ?_ | with_reducible refine u_orf ?_ | with_reducible refine u_andV ?_ | with_reducible refine u_orV ?_ | with_reducible refine u_andVt ?_ | with_reducible refine u_andVf ?_ | with_reducible refine u_orVt ?_ | with_reducible refine u_orVf ?_ | with_reducible refine u_notV ?_ | with_reducible refine u_notVb ?_
  | with_reducible refine u_chain ?_ | with_reducible refine u_cht ?_ | with_reducible refine u_chf ?_ | with_reducible refine w_un ?_ | with_reducible refine w_rU ?_ | with_reducible refine w_isN ?_ | with_reducible refine w_notN ?_ | with_reducible refine u_bm ?_ | with_reducible refine u_sl ?_ | with_reducible refine u_part ?_ | with_reducible refine u_parti ?_ | with_reducible refine u_nopart ?_ | with_reducible refine u_m1 ?_ | with_reducible refine u_mt ?_ | with_reducible refine u_mk ?_ | with_reducible refine u_nget ?_ | with_reducible refine u_nin ?_ | with_reducible refine u_nput ?_ | with_reducible refine u_fldS ?_
  | with_reducible refine u_for ?_ | with_reducible refine u_lc ?_ | with_reducible refine u_iL ?_ | with_reducible refine u_iT ?_ | with_reducible refine u_iE ?_ | with_reducible refine u_iZ ?_ | with_reducible refine u_iZ2 ?_ | with_reducible refine u_iZ3 ?_ | with_reducible refine u_iR1 ?_ | with_reducible refine u_iR2 ?_ | with_reducible refine u_sub ?_ | with_reducible refine u_isA_int ?_ | with_reducible refine u_isA_bool ?_ | with_reducible refine u_int1 ?_ | with_reducible refine u_intB ?_ | with_reducible refine u_min2 ?_ | with_reducible refine u_kw ?_ | with_reducible refine w_yes ?_ | with_reducible refine u_srt ?_ | with_reducible refine u_yt ?_ | with_reducible refine u_yf ?_)
local macro_rules | `(tactic| walk_at "go") => `(tactic| repeat walk_at "sl1")
def spHash (s : Spot) : Int := reduceHash (Builtin.Tuple.tupleHashOf [hashInt s.1, reduceHash (Builtin.Tuple.tupleHashOf (s.2.map hashInt))])
theorem hash_nums (w : World) : ∀ xs : List Int, NestedKey.hashes w (xs.map .num) = xs.map hashInt
  | [] => by simp [NestedKey.hashes]
  | x :: xs => by
    rw [List.map_cons, NestedKey.hashes, hash_nums w xs, NestedKey.hash]
    rfl
theorem shash_eq {P : Program} {w : World} (s : Spot) : (spotKind P w).hash s = spHash s := by
  show NestedKey.hash w (nkSp s) = _
  unfold nkSp nkPl spHash
  simp [NestedKey.hash, NestedKey.hashes, hash_nums]
theorem hash_nd : ∀ ss ∈ cfgs, ((spotsOf 5 (placesOf ss)).map spHash).Nodup := by decide +kernel
theorem inj_of_nodup {α β : Type} {f : α → β} : ∀ {l : List α}, (l.map f).Nodup → ∀ x ∈ l, ∀ y ∈ l, f x = f y → x = y
  | [], _, x, hx, _, _, _ => by cases hx
  | a :: l, h, x, hx, y, hy, e => by
    rw [List.map_cons] at h
    obtain ⟨h1, h2⟩ := List.nodup_cons.mp h
    rcases List.mem_cons.mp hx with ex | hx
    · rcases List.mem_cons.mp hy with ey | hy
      · rw [ex, ey]
      · rw [ex] at e
        exact absurd (List.mem_map.mpr ⟨y, hy, e.symm⟩) h1
    · rcases List.mem_cons.mp hy with ey | hy
      · rw [ey] at e
        exact absurd (List.mem_map.mpr ⟨x, hx, e⟩) h1
      · exact inj_of_nodup h2 x hx y hy e
/-- the hashes of a world's spots differ -/
theorem hash_sub {P : Program} {w : World} {W : Wd} (o : WdOk W) {ks : List Spot} (hn : ks.Nodup) (hs : ∀ k ∈ ks, k ∈ W.spots) : (ks.map fun k => (spotKind P w).hash k).Nodup := by
  have hb : ∀ k ∈ ks, k ∈ spotsOf 5 (placesOf (szs W.es)) := fun k hk => by
    obtain ⟨⟨h1, h2⟩, h3⟩ := mem_spots.mp (hs k hk)
    exact mem_spots.mpr ⟨⟨h1, Int.le_trans h2 o.r5⟩, h3⟩
  have hi := inj_of_nodup (hash_nd _ o.sz)
  refine List.pairwise_map.mpr (List.Pairwise.imp_of_mem (fun {a b} ha hb' hne e => ?_) hn)
  rw [shash_eq, shash_eq] at e
  exact hne (hi a (hb a ha) b (hb b hb') e)
/-- a dict that lays the spots S into the slots below m -/
def WayOk (P : Program) (w : World) (H : Hp) (S : List Spot) (m : Nat) (v : V) : Prop := ∃ d kvs, v = .ref d ∧ DN P w H d kvs ∧ kvs.map (·.1) = S ∧ ∀ p ∈ kvs, ∃ n : Nat, p.2 = V.int (n : Nat) ∧ n < m
theorem WayOk.same {P : Program} {w : World} {H H' : Hp} {S : List Spot} {m : Nat} {v : V} (s : Same H H') (h : WayOk P w H S m v) : WayOk P w H' S m v := let ⟨d, kvs, e, h1, r⟩ := h; ⟨d, kvs, e, h1.same s, r⟩
theorem DN.nl {P : Program} {w : World} {H : Hp} {d l : Addr} {kvs : List (Spot × V)} {xs : List V} (h : DN P w H d kvs) (e : H l = some (.lst xs)) : d ≠ l := fun z => by
  obtain ⟨φ, hφ⟩ := h.hasExt
  rw [z, e] at hφ; cases hφ
theorem WayOk.but {P : Program} {w : World} {H H' : Hp} {S : List Spot} {m : Nat} {v : V} {l : Addr} {xs : List V} (b : But l H H') (e : H l = some (.lst xs)) (h : WayOk P w H S m v) : WayOk P w H' S m v :=
  let ⟨d, kvs, ev, h1, r⟩ := h; ⟨d, kvs, ev, h1.but b (b.tk e) (h1.nl e), r⟩
section
variable {P : Program} {w : World} {K : PySem.W.Frag} {mg : Str → Option Value} {base : Heap}
def spWays (P : Program) (w : World) : Sp := SpF (fun x : Addr × Nat => [.ref x.1, .int (x.2 : Nat)]) fun x H Q => ∃ W R, SpL H x.1 R ∧ WdOk W ∧ R.Nodup ∧ (∀ s ∈ R, s ∈ W.spots) ∧ R.length ≤ 6 ∧ x.2 ≤ 3 ∧
  ∀ p H' vs, H p = none → Same H H' → H' p = some (.lst vs) → vs.length ≤ 1000 → (∀ v ∈ vs, WayOk P w H' R x.2 v) → Q (.ref p) H'
theorem pow3 {m i : Nat} (hm : m ≤ 3) (hi : i ≤ 6) : m ^ i ≤ 729 := Nat.le_trans (Nat.pow_le_pow_left hm i) (Nat.pow_le_pow_right (n := 3) (by decide) hi)
theorem ok_all_ways (T : Txt K mg) : Cal P w K mg base 1 "_law_all_ways" (spWays P w) := by
  refine .of (.of (F_law_all_ways T) sc_law_all_ways (b_law_all_ways T) (spf_len fun _ => rfl) fun cdv A outer s H vs Q E hr h => ?_) (glo_law_all_ways T)
  have nd := sc_law_all_ways.nd
  have hu := hr.h
  obtain ⟨⟨a, m⟩, rfl, W, R, ⟨us, e, pu⟩, o, hnd, hsub, hl6, hm3, q⟩ := h
  dsimp only at e hm3 q
  have lu : us.length = R.length := prLen pu
  refine ⟨_, (pss_cons (ps_set (i := 2) nd rfl (Or.inl rfl) (pe_lstO (pa_cons pe_nnew pa_nil)))
    (pss_cons (ps_for PassesOwn.never rfl (pi_list (pv 0)) (pg_name (i := 3) nd rfl (Or.inl rfl)) (pss_cons (ps_set (i := 4) nd rfl (Or.inl rfl) (pe_lstO pa_nil))
    (pss_cons (ps_for PassesOwn.never rfl (pi_list (pv 2)) (pg_name (i := 5) nd rfl (Or.inl rfl)) (pss_one (ps_for PassesOwn.never rfl (pi_range1 (by rfl) (free_range T) (pa_cons (pv 1) pa_nil)) (pg_name (i := 6) nd rfl (Or.inl rfl)) (pss_cons (ps_set (i := 7) nd rfl (Or.inl rfl) (pe_callTy (cr_dictCp hu) (by rfl) (free_dict T) (by decide +kernel) (pa_cons (pv 5) pa_nil)))
    (pss_cons (ps_nput hu (pv 7) (pv 3) (pv 6) rfl)
    (pss_one (ps_expr (pe_bm PySem.F.plainAttrs_list PySem.F.slot_list_append PySem.F.type_list_append mt_appO (pv 4) (pa_cons (pv 7) pa_nil)))))))))
    (pss_one (ps_set (i := 2) nd rfl (Or.inl rfl) (pv 4))))))
    (pss_one (ps_ret (pv 2))))), ?_⟩
  walk_at "go"
  refine u_nnew fun d0' H1 hd0 s1 D0 => ?_
  walk_at "go"
  refine u_lstn l1 fun f0 H2 hf0 s2 e2 => ?_
  walk_at "go"
  have s12 := s1.trans s2
  refine u_iLi (SqL.of (s12 _ _ e)) ?_
  refine for_by (walk_list (xs := us)) (fun i σ H' => ∃ fl x3 x4 x5 x6 x7 ds, σ = [some (.ref a), some (.int (m : Nat)), some (.ref fl), x3, x4, x5, x6, x7] ∧ Same H H' ∧ H fl = none ∧ H' fl = some (.lst ds) ∧ ds.length = m ^ i ∧ ∀ v ∈ ds, WayOk P w H' (R.take i) m v)
    ⟨f0, _, _, _, _, _, [.ref d0'], rfl, s12, s1.free hf0, e2, by simp, fun v hv => ?_⟩ (fun i σ H' _ ⟨_, _, _, _, _, _, _, _, s, _⟩ => SqL.of (s _ _ e)) ?_ ?_
  · rw [List.mem_singleton.mp hv]
    exact ⟨d0', [], rfl, D0.same s2, rfl, fun p hp => nomatch hp⟩
  · rintro i x σ H4 H3 hi ⟨fl, x3, x4, x5, x6, x7, ds, rfl, s3, hfl, efl, hdl, hds⟩ ⟨rfl, hx⟩
    obtain ⟨sp, hsp, hS⟩ := prAt1 pu hx
    have hiR : i < R.length := by omega
    have hdb : ds.length ≤ 729 := by rw [hdl]; exact pow3 hm3 (by omega)
    walk_at "go"
    refine u_lstn l0 fun l H4 hl s4 e4 => ?_
    have hBl : H l = none := s3.free hl
    have nfl : fl ≠ l := ne_of_none efl hl
    walk_at "go"
    refine u_iLi (SqL.of (s4 _ _ efl)) ?_
    refine for_by (walk_list (xs := ds)) (fun j σ H' => ∃ x5 x6 x7 acc, σ = [some (.ref a), some (.int (m : Nat)), some (.ref fl), some x, some (.ref l), x5, x6, x7] ∧ Same H H' ∧ But l H4 H' ∧ H' fl = some (.lst ds) ∧ (∀ v ∈ ds, WayOk P w H' (R.take i) m v) ∧ H' l = some (.lst acc) ∧ acc.length = j * m ∧ ∀ v ∈ acc, WayOk P w H' (R.take (i + 1)) m v)
      ⟨_, _, _, [], rfl, s3.trans s4, But.refl l H4, s4 _ _ efl, fun v hv => (hds v hv).same s4, e4, by simp, fun v hv => nomatch hv⟩ (fun j σ H' _ ⟨_, _, _, _, _, _, _, e, _⟩ => SqL.of e) ?_ ?_
    · rintro j y σ H6 H5 hj ⟨x5, x6, x7, acc, rfl, s5, b5, efl5, hds5, el5, hal, hacc⟩ ⟨rfl, hy⟩
      have hym : y ∈ ds := List.mem_of_getElem? hy
      obtain ⟨d, kvs, rfl, hD, hkeys, hvals⟩ := hds5 y hym
      have hjm : (j + 1) * m ≤ 729 * 3 := Nat.mul_le_mul (by omega) hm3
      have hjm2 : (j + 1) * m = j * m + m := Nat.succ_mul j m
      walk_at "go"
      refine u_iR1i (by omega) (by omega) ?_
      rw [Int.toNat_natCast]
      refine for_by walk_r0 (fun k σ H' => ∃ x6 x7 acc, σ = [some (.ref a), some (.int (m : Nat)), some (.ref fl), some x, some (.ref l), some (.ref d), x6, x7] ∧ Same H H' ∧ But l H4 H' ∧ H' fl = some (.lst ds) ∧ (∀ v ∈ ds, WayOk P w H' (R.take i) m v) ∧ DN P w H' d kvs ∧ H' l = some (.lst acc) ∧ acc.length = j * m + k ∧ ∀ v ∈ acc, WayOk P w H' (R.take (i + 1)) m v)
        ⟨_, _, acc, rfl, s5, b5, efl5, hds5, hD, el5, by omega, hacc⟩ (fun _ _ _ _ _ => trivial) ?_ ?_
      · rintro k z σ H7 H6 hk ⟨x6, x7, acc, rfl, s6, b6, efl6, hds6, hD6, el6, hal6, hacc6⟩ ⟨rfl, rfl⟩
        walk_at "go"
        have hknd : (kvs.map (·.1)).Nodup := by rw [hkeys]; exact hnd.sublist (List.take_sublist _ _)
        have hksub : ∀ k ∈ kvs.map (·.1), k ∈ W.spots := fun k hk => by rw [hkeys] at hk; exact hsub k (List.mem_of_mem_take hk)
        have hkh := hash_sub (P := P) (w := w) o hknd hksub
        rw [List.map_map] at hkh
        refine ⟨d, kvs, rfl, hD6, hkh, fun p H8 hp s8 D8 => ?_⟩
        walk_at "go"
        have s68 := s6.trans s8
        have hkl : kvs.length ≤ 6 := by
          have := congrArg List.length hkeys
          rw [List.length_map, List.length_take] at this
          omega
        refine u_nputi D8 (hS.mono (TK.of s68)) (small_line (by omega)) fun H9 b9 n9 t9 D9 => ?_
        walk_at "go"
        have S69 : Same _ H9 := s8.but b9 hp
        have el9 := S69 _ _ el6
        refine u_bmL el9 ?_
        walk_at "go"
        refine u_app el9 (small_line (by omega)) fun H10 b10 t10 n10 e10 => ?_
        have hnew : valV kvs sp = none := valV_none (by rw [hkeys]; exact not_in_take hnd hsp)
        rw [putK_new _ hnew] at D9
        have D10 := D9.but b10 t10 (D9.nl el9)
        refine ⟨_, _, acc ++ [.ref p], rfl, (s6.trans S69).but b10 hBl, (b6.same S69).trans b10, b10 _ _ (S69 _ _ efl6) nfl, fun v hv => ((hds6 v hv).same S69).but b10 el9, (hD6.same S69).but b10 t10 ((hD6.same S69).nl el9), e10, by rw [List.length_append, List.length_singleton]; omega, fun v hv => ?_⟩
        rcases List.mem_append.mp hv with h | h
        · exact ((hacc6 v h).same S69).but b10 el9
        · rw [List.mem_singleton.mp h]
          refine ⟨p, _, rfl, D10, ?_, fun y hy => ?_⟩
          · rw [List.map_append, hkeys, take_succ_of hsp]
            rfl
          · rcases List.mem_append.mp hy with h | h
            · exact hvals y h
            · rw [List.mem_singleton.mp h]
              exact ⟨k, rfl, hk⟩
      · rintro σ H6 ⟨x6, x7, acc, rfl, s6, b6, efl6, hds6, hD6, el6, hal6, hacc6⟩
        exact ⟨_, _, _, acc, rfl, s6, b6, efl6, hds6, el6, by omega, hacc6⟩
    · rintro σ H5 ⟨x5, x6, x7, acc, rfl, s5, b5, efl5, hds5, el5, hal, hacc⟩
      walk_at "go"
      refine ⟨l, _, _, _, _, _, acc, rfl, s5, hBl, el5, ?_, hacc⟩
      rw [hal, hdl, Nat.pow_succ]
  · rintro σ H3 ⟨fl, x3, x4, x5, x6, x7, ds, rfl, s3, hfl, efl, hdl, hds⟩
    walk_at "go"
    rw [lu] at hdl hds
    rw [List.take_length] at hds
    have := pow3 hm3 hl6
    exact q fl H3 ds hfl s3 efl (by omega) hds
end
end SL
end PtD19
/-! part D20 -/
section PtD20
/-! D20: no way with fewer goes. -/
namespace SL
open PySem PySem.Spec PyProof.Rows L2
/-- one step that needs nothing -/
local macro_rules | `(tactic| walk_at "sl1") => `(tactic| first
  | (with_reducible refine w_varh ?_; refine ⟨_, rfl, ?_⟩) | (with_reducible refine w_rEqh ?_; refine ⟨rfl, ?_⟩) | (with_reducible refine w_rNeh ?_; refine ⟨rfl, ?_⟩)
  | with_reducible refine w_seq ?_ | with_reducible refine w_asg ?_ | with_reducible refine w_c ?_ | with_reducible refine w_op ?_ | with_reducible refine w_rI0 ?_ | with_reducible refine u_test ?_ | with_reducible refine u_tb ?_ | with_reducible refine u_bl ?_ | with_reducible refine u_ifs ?_ | with_reducible refine u_ift ?_ | with_reducible refine u_iff ?_ | with_reducible refine w_cons ?_ | with_reducible refine w_nil ?_ | with_reducible refine w_cl ?_ | with_reducible refine w_cb ?_ | with_reducible refine w_ret ?_ | with_reducible refine w_drop ?_ | with_reducible refine w_name ?_ | with_reducible refine w_next ?_
  | with_reducible refine u_fld ?_ | with_reducible refine u_tup ?_ | with_reducible refine u_lst ?_ | with_reducible refine u_not ?_ | with_reducible refine u_nott ?_ | with_reducible refine u_notf ?_ | with_reducible refine u_and ?_ | with_reducible refine u_or ?_ | with_reducible refine u_andt ?_ | with_reducible refine u_andf ?_ | with_reducible refine u_ort ?_ | with_reducible refine u_orf ?_ | with_reducible refine u_andV ?_ | with_reducible refine u_orV ?_ | with_reducible refine u_andVt ?_ | with_reducible refine u_andVf ?_ | with_reducible refine u_orVt ?_ | with_reducible refine u_orVf ?_ | with_reducible refine u_notV ?_ | with_reducible refine u_notVb ?_
  | with_reducible refine u_chain ?_ | with_reducible refine u_cht ?_ | with_reducible refine u_chf ?_ | with_reducible refine w_un ?_ | with_reducible refine w_rU ?_ | with_reducible refine w_isN ?_ | with_reducible refine w_notN ?_ | with_reducible refine u_bm ?_ | with_reducible refine u_sl ?_ | with_reducible refine u_part ?_ | with_reducible refine u_parti ?_ | with_reducible refine u_nopart ?_ | with_reducible refine u_m1 ?_ | with_reducible refine u_mt ?_ | with_reducible refine u_mk ?_ | with_reducible refine u_nget ?_ | with_reducible refine u_nin ?_ | with_reducible refine u_nput ?_ | with_reducible refine u_fldS ?_
  | with_reducible refine u_for ?_ | with_reducible refine u_lc ?_ | with_reducible refine u_iL ?_ | with_reducible refine u_iT ?_ | with_reducible refine u_iE ?_ | with_reducible refine u_iZ ?_ | with_reducible refine u_iZ2 ?_ | with_reducible refine u_iZ3 ?_ | with_reducible refine u_iR1 ?_ | with_reducible refine u_iR2 ?_ | with_reducible refine u_sub ?_ | with_reducible refine u_isA_int ?_ | with_reducible refine u_isA_bool ?_ | with_reducible refine u_int1 ?_ | with_reducible refine u_intB ?_ | with_reducible refine u_min2 ?_ | with_reducible refine u_kw ?_ | with_reducible refine w_yes ?_ | with_reducible refine u_srt ?_ | with_reducible refine u_yt ?_ | with_reducible refine u_yf ?_)
local macro_rules | `(tactic| walk_at "go") => `(tactic| repeat walk_at "sl1")
def valI (kvs : List (Spot × V)) (s : Spot) : Int := match valV kvs s with
  | some (.int n) => n
  | _ => 0
theorem way_sld {P : Program} {w : World} {H : Hp} {R : List Spot} {m : Nat} {v : V} (h : WayOk P w H R m v) : ∃ d f, v = V.ref d ∧ SlD P w H d R f ∧ ∀ s ∈ R, 0 ≤ f s ∧ f s < (m : Int) := by
  obtain ⟨d, kvs, e, D, hk, hv⟩ := h
  have key : ∀ s ∈ R, ∃ n : Nat, valV kvs s = some (.int (n : Nat)) ∧ n < m := fun s hs => by
    rw [← hk] at hs
    obtain ⟨p, hp, ep⟩ := List.mem_map.mp hs
    cases hf : kvs.find? (fun kv => decide (kv.1 = s)) with
    | none =>
      have := List.find?_eq_none.mp hf p hp
      exact absurd (decide_eq_true ep) this
    | some q =>
      obtain ⟨n, en, hn⟩ := hv q (List.mem_of_find?_eq_some hf)
      exact ⟨n, by unfold valV; rw [hf, ← en]; rfl, hn⟩
  refine ⟨d, valI kvs, e, ⟨kvs, D, fun s hs => ?_⟩, fun s hs => ?_⟩
  · obtain ⟨n, en, _⟩ := key s hs
    unfold valI
    rw [en]
  · obtain ⟨n, en, hn⟩ := key s hs
    unfold valI
    rw [en]
    refine ⟨Int.natCast_nonneg n, ?_⟩
    show ((n : Nat) : Int) < (m : Nat)
    omega
theorem merge_app : ∀ (more acc : List (Spot × V)), ((acc ++ more).map (·.1)).Nodup → mergeS acc more = acc ++ more
  | [], acc, _ => by simp [mergeS]
  | p :: more, acc, h => by
    have hp : valV acc p.1 = none := valV_none fun hm => by
      rw [List.map_append, List.nodup_append] at h
      exact h.2.2 p.1 hm p.1 (by simp) rfl
    have ih := merge_app more (acc ++ [(p.1, p.2)]) (by
      rw [List.append_assoc]
      exact h)
    show mergeS (putK acc p.1 p.2) more = acc ++ p :: more
    rw [putK_new _ hp, ih, List.append_assoc]
    rfl
section
variable {P : Program} {w : World} {K : PySem.W.Frag} {mg : Str → Option Value} {base : Heap}
def spNone (P : Program) (w : World) (K : PySem.W.Frag) : Sp := SpF (fun x : Addr × Addr × Addr × Nat × Addr => [.ref x.1, .ref x.2.1, .ref x.2.2.1, .int (x.2.2.2.1 : Nat), .ref x.2.2.2.2]) fun x H Q => ∃ H0 W ln R Wt, Same H0 H ∧ H0 x.2.2.2.2 = none ∧ LnD P w H0 x.1 R ln ∧
  SpL H x.2.1 R ∧ x.2.1 ≠ x.2.2.2.2 ∧ SpL H x.2.2.1 Wt ∧ x.2.2.1 ≠ x.2.2.2.2 ∧ TapeAt H x.2.2.2.2 ∧ WdOk W ∧ R.Nodup ∧ (∀ s ∈ R, s ∈ W.spots) ∧ (∀ s ∈ R, ∀ y ∈ ln s, y ∈ R) ∧ (∀ s ∈ Wt, s ∈ R) ∧ Wt.length ≤ 1000 ∧ x.2.2.2.1 ≤ 1000 ∧
  (∀ f : Spot → Int, (∀ s ∈ R, 0 ≤ f s ∧ f s < (x.2.2.2.1 : Nat)) → x.2.2.2.1 ≠ 0 → ¬ Goes ln f R Wt) ∧ ∀ H', But x.2.2.2.2 H H' → TapeAt H' x.2.2.2.2 → Q (.bl true) H'
theorem ok_none_goes (T : Txt K mg) : Cal P w K mg base 2 "_law_none_goes" (spNone P w K) := by
  refine .of (.of (F_law_none_goes T) sc_law_none_goes (b_law_none_goes T) (spf_len fun _ => rfl) fun cdv A outer s H vs Q E hr h => ?_) (glo_law_none_goes T)
  have nd := sc_law_none_goes.nd
  have hu := hr.h
  have c_law_draw := ok_draw (P := P) (w := w) (base := base) T
  have c_law_goes := ok_goes (P := P) (w := w) (base := base) T
  have c_law_all_ways := ok_all_ways (P := P) (w := w) (base := base) T
  obtain ⟨⟨a, b, c, m, t⟩, rfl, H0, W, ln, R, Wt, sH, ht0, hln, hR, nb, hWt, nc, tp, o, hnd, hsub, hin, hwt, hwl, hm, hno, q⟩ := h
  dsimp only at ht0 hln hR nb hWt nc tp hm hno q
  obtain ⟨us, e, pu⟩ := id hR
  have lu : us.length = R.length := prLen pu
  have hR30 : R.length ≤ 30 := Nat.le_trans (nodup_len _ _ hnd hsub) (spots_few o)
  refine ⟨_, (pss_cons (ps_if (pt_cmpR op_eq (pv 3) pe_int (nomark _)) (pss_one (ps_ret pe_bl)) pss_nil)
    (pss_cons (ps_setLc (i := 5) (own := [("_law_k", 7)]) (g := (gName 7)) (tt := tYes)  rfl nd rfl rfl (sw_true rfl rfl rfl (by decide +kernel)) (pi_range1 (by rfl) (free_range T) (pa_cons pe_int pa_nil)) (blkOk_by (N := ["_law_leans_here", "_law_row_here", "_law_wanted", "_law_many", "_law_tape_here", "_law_ways", "_law_spot", "_law_k", "_law_slots"]) (sc := (defScope s_law_none_goes)) (by decide +kernel)) (fun _ _ _ _ _ => (pg_name (i := 7) nd rfl (Or.inl rfl))) (fun _ _ _ _ _ => pts_nil) (fun _ _ _ _ _ => (pe_callTy (cr_dictPrK (P := P) (w := w) rfl rfl rfl hu) (by rfl) (free_dict T) (by decide +kernel) (pa_cons (pe_lc (own := [("_law_spot", 6)]) (g := (gName 6)) (tt := tYes)  rfl nd (pi_listK (K := K) rfl (pv 1)) (blkOk_by (N := ["_law_leans_here", "_law_row_here", "_law_wanted", "_law_many", "_law_tape_here", "_law_ways", "_law_spot", "_law_k", "_law_slots"]) (sc := (relabel (lcSc (asgVal ((defBody s_law_none_goes).getD 1 noSt))) (envS (defScope s_law_none_goes)))) (by decide +kernel)) (fun _ _ _ _ _ => (pg_name (i := 6) nd rfl (Or.inl rfl))) (fun _ _ _ _ _ => pts_nil) (fun _ _ _ _ _ => (pe_tupO (pa_cons (pv 6) (pa_cons (pe_c c_law_draw hr (by rfl) (pa_cons (pv 4) (pa_cons (pv 3) pa_nil))) pa_nil))))) pa_nil))))
    (pss_cons (ps_if (PW.pt (pw_and (pt_cmpR op_le (pe_callB cr_lenO (by rfl) (free_len T) PySem.boot_len (pa_cons (pv 1) pa_nil)) pe_int (nomark _)) (pw_and1 (pt_cmpR op_lt (pv 3) pe_int (nomark _))))) (pss_one (ps_set (i := 5) nd rfl (Or.inl rfl) (pe_c c_law_all_ways hr (by rfl) (pa_cons (pv 1) (pa_cons (pv 3) pa_nil))))) pss_nil)
    (pss_one (ps_ret (pe_cmpR (op_eqD hu) (pe_lc (own := [("_law_slots", 8)]) (g := (gName 8))  rfl nd (pi_list (pv 5)) (blkOk_by (N := ["_law_leans_here", "_law_row_here", "_law_wanted", "_law_many", "_law_tape_here", "_law_ways", "_law_spot", "_law_k", "_law_slots"]) (sc := (defScope s_law_none_goes)) (by decide +kernel)) (fun _ _ _ _ _ => (pg_name (i := 8) nd rfl (Or.inl rfl))) (fun _ _ _ _ _ => (pts_one (pt_val (pe_c c_law_goes hr (by rfl) (pa_cons (pv 0) (pa_cons (pv 1) (pa_cons (pv 8) (pa_cons (pv 2) pa_nil)))))))) (fun _ _ _ _ _ => pe_int)) (pe_lstO pa_nil) (nomark _))))))), ?_⟩
  walk_at "go"
  refine u_if2 (fun c0 => ?_) fun c0 => ?_
  · walk_at "go"
    exact q H (But.refl t H) tp
  have hm0 : m ≠ 0 := by
    intro z
    have := of_decide_eq_false c0
    rw [z] at this
    exact this rfl
  walk_at "go"
  refine u_iR1i (by decide) (by decide) ?_
  obtain ⟨txs, etx⟩ := tp.lst
  refine lc_by walk_r0 (fun H' => But t H H' ∧ TapeAt H' t) (fun i acc H' => acc.length = i ∧ ∀ v ∈ acc, WayOk P w H' R m v) (small_line (by decide))
    (fun D H1 H2 hD s b => ⟨s.1.two b hD, s.2.but b (ne_of_none etx hD)⟩) ⟨But.refl t H, tp⟩ (fun H' s => ⟨rfl, fun v hv => nomatch hv⟩) (fun _ _ _ _ _ _ => trivial) ?_ ?_
  · intro D i x acc H2 H1 Rr N put skip hD hi sS pacc e1 y
    obtain ⟨rfl, rfl⟩ := y
    obtain ⟨b1, tp1⟩ := sS
    obtain ⟨hal, hacc⟩ := pacc
    have nD : D ≠ t := (ne_of_none etx hD).symm
    refine w_name ⟨rfl, ?_⟩
    walk_at "go"
    have eR1 := b1 _ _ e nb
    obtain ⟨txs1, etx1⟩ := tp1.lst
    refine u_iLi (SqL.of eR1) ?_
    refine lc_by (walk_list (xs := us)) (fun H' => But t H1 H' ∧ TapeAt H' t) (fun j acc H' => ∃ (ps : List Addr) (kvs : List (Spot × V)), acc = ps.map V.ref ∧ Paired (fun p (kv : Spot × V) => ∃ k, H' p = some (.tup [k, kv.2]) ∧ IsSp H' k kv.1) ps kvs ∧ kvs.map (·.1) = R.take j ∧ ∀ p ∈ kvs, ∃ n : Nat, p.2 = V.int (n : Nat) ∧ n < m) (small_line (by omega))
      (fun D H1 H2 hD s b => ⟨s.1.two b hD, s.2.but b (ne_of_none etx1 hD)⟩) ⟨But.refl t H1, tp1⟩ (fun H' s => ⟨[], [], rfl, .nil, rfl, fun p hp => nomatch hp⟩) (fun j acc H' _ s _ => SqL.of (s.1 _ _ eR1 nb)) ?_ ?_
    · intro D2 j x acc2 H4 H3 R2 N2 put2 skip2 hD2 hj sS2 pacc2 e3 y
      obtain ⟨rfl, hx⟩ := y
      obtain ⟨b3, tp3⟩ := sS2
      obtain ⟨ps, kvs, rfl, pp, hk, hv⟩ := pacc2
      obtain ⟨sp, hsp, hS⟩ := prAt1 pu hx
      have nD2 : D2 ≠ t := (ne_of_none etx1 hD2).symm
      have hS3 := hS.mono (tp.tk (b1.trans b3))
      refine w_name ⟨rfl, ?_⟩
      walk_at "go"
      refine call_draw (m := ((m : Nat) : Int)) tp3 (by omega) (by omega) fun n G1 n0 nm bb1 k1 _ tpG => ?_
      obtain ⟨k, rfl, hkm⟩ := nat_of n0 nm
      walk_at "go"
      refine u_tupn l2 fun pr G2 hpr g2 f2 => ?_
      refine put2 _ _ (g2 _ _ (bb1 _ _ e3 nD2)) ⟨(b3.trans bb1).same g2, tpG.same g2⟩ fun G3 bb3 k3 s3 => ?_
      have kk := (k1.trans (TK.of g2)).trans k3
      refine ⟨ps ++ [pr], kvs ++ [(sp, .int (k : Nat))], by rw [List.map_append]; rfl, prApp (prImp (fun p kv z => ?_) pp) (.cons ⟨x, k3 _ _ f2, hS3.mono kk⟩ .nil), by rw [List.map_append, hk, take_succ_of hsp]; rfl, fun y hy => ?_⟩
      · obtain ⟨k', z1, z2⟩ := z
        exact ⟨k', kk _ _ z1, z2.mono kk⟩
      · rcases List.mem_append.mp hy with h | h
        · exact hv y h
        · rw [List.mem_singleton.mp h]
          exact ⟨k, rfl, by omega⟩
    · intro D2 acc2 H3 hD2 e3 sS2 pacc2
      obtain ⟨b3, tp3⟩ := sS2
      obtain ⟨ps, kvs, rfl, pp, hk, hv⟩ := pacc2
      rw [lu, List.take_length] at hk
      walk_at "go"
      refine ⟨D2, kvs, rfl, ⟨ps, e3, pp⟩, fun d H4 hd s4 D4 => ?_⟩
      rw [merge_app kvs [] (by rw [List.nil_append, hk]; exact hnd), List.nil_append] at D4
      refine put _ _ (s4 _ _ (b3 _ _ e1 nD)) ⟨(b1.trans b3).same s4, tp3.same s4⟩ fun H5 b5 k5 s5 => ?_
      have eD4 := s4 _ _ (b3 _ _ e1 nD)
      refine ⟨by rw [List.length_append, hal]; rfl, fun v hv' => ?_⟩
      rcases List.mem_append.mp hv' with h | h
      · exact (((hacc v h).but b3 etx1).same s4).but b5 eD4
      · rw [List.mem_singleton.mp h]
        exact ⟨d, kvs, rfl, D4.but b5 k5 (D4.nl eD4), hk, hv⟩
  · intro D acc H1 hD e1 sS pacc
    obtain ⟨b1, tp1⟩ := sS
    obtain ⟨hal, hacc⟩ := pacc
    have SH1 : Same H0 H1 := sH.but b1 ht0
    have k1 := tp.tk b1
    have hR1 := hR.but b1 k1 nb
    have hW1 := hWt.but b1 k1 nc
    -- the end: from any list of ways
    have fin : ∀ (wl : Addr) (vs : List V) (H2 : Hp) (x6 x7 x8 : Option V) (D : Ends), D.rt = Q → Same H1 H2 → H2 wl = some (.lst vs) → vs.length ≤ 1000 → (∀ v ∈ vs, WayOk P w H2 R m v) →
        tRet (tOp (rEqD K) (tLc (iList K (tVar 5)) (gName 8) (tB (tCl (spGoes P w K) (tCons (tVar 0) (tCons (tVar 1) (tCons (tVar 8) (tCons (tVar 2) tNil)))))) (tC (.int 1)) [8]) (tLstO tNil)) D
          [some (.ref a), some (.ref b), some (.ref c), some (.int (m : Nat)), some (.ref t), some (.ref wl), x6, x7, x8] H2 := by
      intro wl vs H2 x6 x7 x8 D hDQ s2 e2 hvl hvs
      walk_at "go"
      refine u_iLi (SqL.of e2) ?_
      refine lc_by (walk_list (xs := vs)) (Same H2) (fun j acc H' => acc = []) (small_line (by omega)) (fun D H1 H2 hD s b => sS hD s b) (Same.refl H2) (fun H' s => rfl) (fun i acc H' _ s _ => SqL.of (s _ _ e2)) ?_ ?_
      · intro D2 j v acc2 H4 H3 R2 N2 put2 skip2 hD2 hj s3 hacc2 e3 y
        obtain ⟨rfl, hv⟩ := y
        have s23 := s2.trans s3
        obtain ⟨d, f, rfl, hsl, hf⟩ := way_sld ((hvs v (List.mem_of_getElem? hv)).same s3)
        refine w_name ⟨rfl, ?_⟩
        walk_at "go"
        refine ⟨(a, b, d, c), rfl, ln, f, R, Wt, hln.same (SH1.trans s23), hR1.mono s23, hsl, hW1.mono s23, hin, hwt, by omega, hwl, fun bb H4 s4 hb => ?_⟩
        have hbf : bb = false := by
          cases bb with
          | false => rfl
          | true => exact absurd (hb.mp rfl) (hno f hf hm0)
        rw [hbf]
        refine u_bl (u_yf ?_)
        exact skip2 _ (s4 _ _ e3) (s3.trans s4) hacc2
      · intro D2 acc2 H3 hD2 e3 s3 hacc2
        subst hacc2
        walk_at "go"
        refine u_lstn l0 fun nl H4 hnl s4 e4 => ?_
        refine g_eqNil (ds := []) (s4 _ _ e3) .nil (by decide) e4 ?_
        have B : But t H H4 := b1.same (s2.trans (s3.trans s4))
        have := q H4 B (tp1.same (s2.trans (s3.trans s4)))
        rw [hDQ]
        exact this
    walk_at "go"
    obtain ⟨us1, eR1, pu1⟩ := id hR1
    refine u_lenL eR1 ?_
    walk_at "go"
    by_cases c6 : R.length ≤ 6
    · refine u_andT (decide_eq_true (by rw [prLen pu1]; omega)) ?_
      walk_at "go"
      by_cases c4 : m < 4
      · refine u_ifT (decide_eq_true (show ((m : Nat) : Int) < 4 by omega)) ?_
        walk_at "go"
        refine ⟨(b, m), rfl, W, R, hR1, o, hnd, hsub, c6, by omega, fun p H2 vs hp s2 e2 hvl hvs => ?_⟩
        refine w_name (w_next ?_)
        exact fin p vs H2 _ _ _ _ rfl s2 e2 hvl hvs
      · refine u_ifF (decide_eq_false (show ¬ ((m : Nat) : Int) < 4 by omega)) ?_
        refine w_next ?_
        exact fin D acc H1 _ _ _ _ rfl (Same.refl H1) e1 (by omega) hacc
    · refine u_andF (decide_eq_false (by rw [prLen pu1]; omega)) ?_
      refine u_iff ?_
      refine w_next ?_
      exact fin D acc H1 _ _ _ _ rfl (Same.refl H1) e1 (by omega) hacc
end
end SL
end PtD20
/-! part D21 -/
section PtD21
/-! D21: the crowd is right. -/
namespace SL
open PySem PySem.Spec PyProof.Rows L2
/-- one step that needs nothing -/
local macro_rules | `(tactic| walk_at "sl1") => `(tactic| first
  | (with_reducible refine w_varh ?_; refine ⟨_, rfl, ?_⟩) | (with_reducible refine w_rEqh ?_; refine ⟨rfl, ?_⟩) | (with_reducible refine w_rNeh ?_; refine ⟨rfl, ?_⟩)
  | with_reducible refine w_seq ?_ | with_reducible refine w_asg ?_ | with_reducible refine w_c ?_ | with_reducible refine w_op ?_ | with_reducible refine w_rI0 ?_ | with_reducible refine u_test ?_ | with_reducible refine u_tb ?_ | with_reducible refine u_bl ?_ | with_reducible refine u_ifs ?_ | with_reducible refine u_ift ?_ | with_reducible refine u_iff ?_ | with_reducible refine w_cons ?_ | with_reducible refine w_nil ?_ | with_reducible refine w_cl ?_ | with_reducible refine w_cb ?_ | with_reducible refine w_ret ?_ | with_reducible refine w_drop ?_ | with_reducible refine w_name ?_ | with_reducible refine w_next ?_
  | with_reducible refine u_fld ?_ | with_reducible refine u_tup ?_ | with_reducible refine u_lst ?_ | with_reducible refine u_not ?_ | with_reducible refine u_nott ?_ | with_reducible refine u_notf ?_ | with_reducible refine u_and ?_ | with_reducible refine u_or ?_ | with_reducible refine u_andt ?_ | with_reducible refine u_andf ?_ | with_reducible refine u_ort ?_ | with_reducible refine u_orf ?_ | with_reducible refine u_andV ?_ | with_reducible refine u_orV ?_ | with_reducible refine u_andVt ?_ | with_reducible refine u_andVf ?_ | with_reducible refine u_orVt ?_ | with_reducible refine u_orVf ?_ | with_reducible refine u_notV ?_ | with_reducible refine u_notVb ?_
  | with_reducible refine u_chain ?_ | with_reducible refine u_cht ?_ | with_reducible refine u_chf ?_ | with_reducible refine w_un ?_ | with_reducible refine w_rU ?_ | with_reducible refine w_isN ?_ | with_reducible refine w_notN ?_ | with_reducible refine u_bm ?_ | with_reducible refine u_sl ?_ | with_reducible refine u_part ?_ | with_reducible refine u_parti ?_ | with_reducible refine u_nopart ?_ | with_reducible refine u_m1 ?_ | with_reducible refine u_mt ?_ | with_reducible refine u_mk ?_ | with_reducible refine u_nget ?_ | with_reducible refine u_nin ?_ | with_reducible refine u_nput ?_ | with_reducible refine u_fldS ?_
  | with_reducible refine u_for ?_ | with_reducible refine u_lc ?_ | with_reducible refine u_iL ?_ | with_reducible refine u_iT ?_ | with_reducible refine u_iE ?_ | with_reducible refine u_iZ ?_ | with_reducible refine u_iZ2 ?_ | with_reducible refine u_iZ3 ?_ | with_reducible refine u_iR1 ?_ | with_reducible refine u_iR2 ?_ | with_reducible refine u_sub ?_ | with_reducible refine u_isA_int ?_ | with_reducible refine u_isA_bool ?_ | with_reducible refine u_int1 ?_ | with_reducible refine u_intB ?_ | with_reducible refine u_min2 ?_ | with_reducible refine u_kw ?_ | with_reducible refine w_yes ?_ | with_reducible refine u_srt ?_ | with_reducible refine u_yt ?_ | with_reducible refine u_yf ?_)
local macro_rules | `(tactic| walk_at "go") => `(tactic| repeat walk_at "sl1")
/-- all apart, but y beside x -/
def together (R : List Spot) (x y s : Spot) : Int := if s = y then (R.idxOf x : Nat) else (R.idxOf s : Nat)
theorem cut_one (xs : List V) (h : 1 ≤ xs.length) : cutV xs (some 1) none = xs.drop 1 := by
  unfold cutV
  have e1 : HT.sIx xs.length 0 (some (1 : Int)) = 1 := by
    have := HT.sIx_nat xs.length 0 1
    have e : ((1 : Nat) : Int) = 1 := rfl
    rw [e] at this
    rw [this]
    omega
  have e2 : HT.sIx xs.length xs.length none = xs.length := rfl
  rw [e1, e2, List.take_of_length_le]
  rw [List.length_drop]
  omega
def PrS (H : Hp) (v : V) (xy : Spot × Spot) : Prop := ∃ p k1 k2, v = V.ref p ∧ H p = some (.tup [k1, k2]) ∧ IsSp H k1 xy.1 ∧ IsSp H k2 xy.2
theorem PrS.mono {H H' : Hp} {v : V} {xy : Spot × Spot} (t : TK H H') (h : PrS H v xy) : PrS H' v xy := let ⟨p, k1, k2, e, a, b, c⟩ := h; ⟨p, k1, k2, e, t _ _ a, b.mono t, c.mono t⟩
theorem valV_map {R : List Spot} {g : Spot → V} {s : Spot} (h : s ∈ R) : valV (R.map fun s => (s, g s)) s = some (g s) := by
  induction R with
  | nil => cases h
  | cons a R ih =>
    unfold valV
    rw [List.map_cons, List.find?_cons]
    by_cases c : a = s
    · simp [c]
    · have hm : s ∈ R := by
        rcases List.mem_cons.mp h with e | h
        · exact absurd e.symm c
        · exact h
      have := ih hm
      unfold valV at this
      simp [c]
      simpa using this
section
variable {P : Program} {w : World} {K : PySem.W.Frag} {mg : Str → Option Value} {base : Heap}
def spCrR (P : Program) (w : World) (K : PySem.W.Frag) : Sp := SpF (fun x : Addr × Addr × Addr × Addr => [.ref x.1, .ref x.2.1, .ref x.2.2.1, .ref x.2.2.2]) fun x H Q => ∃ W ln R Wt C, LnD P w H x.1 R ln ∧
  SpL H x.2.1 R ∧ SpL H x.2.2.1 Wt ∧ SpL H x.2.2.2 C ∧ WdOk W ∧ R.Nodup ∧ (∀ s ∈ R, s ∈ W.spots) ∧ (∀ s ∈ R, ∀ y ∈ ln s, y ∈ R) ∧ (∀ s ∈ Wt, s ∈ R) ∧ Wt.length ≤ 1000 ∧ C.Nodup ∧ C ≠ [] ∧ (∀ s ∈ C, s ∈ R) ∧
  (∀ x y, x ∈ C → y ∈ C → x ≠ y → ¬ Goes ln (together R x y) R Wt) ∧ ∀ H', Same H H' → Q (.bl true) H'
theorem ok_crowd_right (T : Txt K mg) : Cal P w K mg base 2 "_law_crowd_right" (spCrR P w K) := by
  refine .of (.of (F_law_crowd_right T) sc_law_crowd_right (b_law_crowd_right T) (spf_len fun _ => rfl) fun cdv A outer s H vs Q E hr h => ?_) (glo_law_crowd_right T)
  have nd := sc_law_crowd_right.nd
  have hu := hr.h
  have c_law_goes := ok_goes (P := P) (w := w) (base := base) T
  obtain ⟨⟨a, b, c, d⟩, rfl, W, ln, R, Wt, C, hln, hR, hWt, hC, o, hnd, hsub, hin, hwt, hwl, hcn, hc0, hcs, hno, q⟩ := h
  dsimp only at hln hR hWt hC q
  obtain ⟨us, e, pu⟩ := id hR
  obtain ⟨cs, ec, pc⟩ := id hC
  have lu : us.length = R.length := prLen pu
  have lc : cs.length = C.length := prLen pc
  have hR30 : R.length ≤ 30 := Nat.le_trans (nodup_len _ _ hnd hsub) (spots_few o)
  have hC30 : C.length ≤ 30 := Nat.le_trans (nodup_len _ _ hcn hcs) hR30
  have hC1 : 1 ≤ C.length := List.length_pos_iff.mpr hc0
  refine ⟨_, (pss_cons (ps_set (i := 4) nd rfl (Or.inl rfl) (pe_callTy (cr_dictPr rfl hu) (by rfl) (free_dict T) (by decide +kernel) (pa_cons (pe_lc (own := [("_law_number", 6), ("_law_spot", 5)]) (g := (gTup K 2 (gCons (gName 6) (gCons (gName 5) gNil)))) (tt := tYes)  rfl nd (pi_enum (by rfl) (free_enumerate T) (pa_cons (pv 1) pa_nil)) (blkOk_by (N := ["_law_leans_here", "_law_row_here", "_law_wanted", "_law_crowd", "_law_apart", "_law_spot", "_law_number", "_law_pairs", "_law_k", "_law_one", "_law_other", "_law_slots"]) (sc := (defScope s_law_crowd_right)) (by decide +kernel)) (fun _ _ _ _ _ => (pg_tup rfl (pgs_cons (pg_name (i := 6) nd rfl (Or.inl rfl)) (pgs_cons (pg_name (i := 5) nd rfl (Or.inl rfl)) pgs_nil)))) (fun _ _ _ _ _ => pts_nil) (fun _ _ _ _ _ => (pe_tupO (pa_cons (pv 5) (pa_cons (pv 6) pa_nil))))) pa_nil)))
    (pss_cons (ps_set (i := 7) nd rfl (Or.inl rfl) (pe_op op_catO (pe_lc (own := [("_law_other", 10)]) (g := (gName 10)) (tt := tYes)  rfl nd (pi_list (pe_slice sl_listO (pv 3) (po_some pe_int) po_none)) (blkOk_by (N := ["_law_leans_here", "_law_row_here", "_law_wanted", "_law_crowd", "_law_apart", "_law_spot", "_law_number", "_law_pairs", "_law_k", "_law_one", "_law_other", "_law_slots"]) (sc := (defScope s_law_crowd_right)) (by decide +kernel)) (fun _ _ _ _ _ => (pg_name (i := 10) nd rfl (Or.inl rfl))) (fun _ _ _ _ _ => pts_nil) (fun _ _ _ _ _ => (pe_tupO (pa_cons (pe_ix (ix_listK (K := K) rfl) (pv 3) pe_int (fun _ _ => rfl)) (pa_cons (pv 10) pa_nil))))) (pe_lc (own := [("_law_k", 8)]) (g := (gName 8)) (tt := tYes)  rfl nd (pi_range1 (by rfl) (free_range T) (pa_cons (pe_op op_sub (pe_callB cr_lenO (by rfl) (free_len T) PySem.boot_len (pa_cons (pv 3) pa_nil)) pe_int) pa_nil)) (blkOk_by (N := ["_law_leans_here", "_law_row_here", "_law_wanted", "_law_crowd", "_law_apart", "_law_spot", "_law_number", "_law_pairs", "_law_k", "_law_one", "_law_other", "_law_slots"]) (sc := (defScope s_law_crowd_right)) (by decide +kernel)) (fun _ _ _ _ _ => (pg_name (i := 8) nd rfl (Or.inl rfl))) (fun _ _ _ _ _ => pts_nil) (fun _ _ _ _ _ => (pe_tupO (pa_cons (pe_ix (ix_listK (K := K) rfl) (pv 3) (pv 8) (fun _ _ => rfl)) (pa_cons (pe_ix (ix_listK (K := K) rfl) (pv 3) (pe_op op_add (pv 8) pe_int) (fun _ _ => rfl)) pa_nil)))))))
    (pss_cons (ps_for PassesOwn.never rfl (pi_list (pv 7)) (pg_tup rfl (pgs_cons (pg_name (i := 9) nd rfl (Or.inl rfl)) (pgs_cons (pg_name (i := 10) nd rfl (Or.inl rfl)) pgs_nil))) (pss_cons (ps_set (i := 11) nd rfl (Or.inl rfl) (pe_callTy (cr_dictCp hu) (by rfl) (free_dict T) (by decide +kernel) (pa_cons (pv 4) pa_nil)))
    (pss_cons (ps_nput hu (pv 11) (pv 10) (pe_nget hu (pv 11) (pv 9) (fun _ _ => rfl)) rfl)
    (pss_one (ps_if (pt_val (pe_c c_law_goes hr (by rfl) (pa_cons (pv 0) (pa_cons (pv 1) (pa_cons (pv 11) (pa_cons (pv 2) pa_nil)))))) (pss_one (ps_ret pe_bl)) pss_nil)))))
    (pss_one (ps_ret pe_bl))))), ?_⟩
  walk_at "go"
  refine u_iEi e ?_
  refine lc_by (walk_enum (xs := us)) (Same H) (fun j acc H' => ∃ ps : List Addr, acc = ps.map V.ref ∧ Paired (fun p (kv : Spot × V) => ∃ k, H' p = some (.tup [k, kv.2]) ∧ IsSp H' k kv.1) ps ((R.take j).map fun s => (s, V.int (R.idxOf s : Nat)))) (small_line (by omega)) (fun D H1 H2 hD s b => sS hD s b) (Same.refl H) (fun H' s => ⟨[], rfl, by rw [List.take_zero]; exact .nil⟩) (fun i acc H' _ s _ => SqL.of (s _ _ e)) ?_ ?_
  · intro D j x acc H1 H2 Rr N put skip hD hj s1 pacc e1 y
    obtain ⟨t, x, z, rfl, ht, rfl, g1, g2⟩ := y
    cases g1
    obtain ⟨ps, rfl, pp⟩ := pacc
    obtain ⟨sp, hsp, hS⟩ := prAt1 pu g2
    have s2 := same_new (H := H1) (o := .tup [V.int (j : Nat), z]) ht
    have s12 := s1.trans s2
    refine w_two upd_same ⟨rfl, ?_⟩
    walk_at "go"
    refine u_tupn l2 fun pr H3 hpr s3 e3 => ?_
    refine put _ _ (s3 _ _ (s2 _ _ e1)) (s12.trans s3) fun H4 b4 t4 s4 => ⟨ps ++ [pr], by rw [List.map_append]; rfl, ?_⟩
    rw [take_succ_of hsp, List.map_append, ]
    have kk := (TK.of (s2.trans s3)).trans t4
    refine prApp (prImp (fun p kv z => ?_) pp) (.cons ⟨z, ?_, hS.mono ((TK.of (s12.trans s3)).trans t4)⟩ .nil)
    · obtain ⟨k', z1, z2⟩ := z
      exact ⟨k', kk _ _ z1, z2.mono kk⟩
    · show H4 pr = some (.tup [z, V.int (R.idxOf sp : Nat)])
      rw [idx_at hnd hsp]
      exact t4 _ _ e3
  intro D acc H1 hD e1 s1 pacc
  rw [lu, List.take_length] at pacc
  obtain ⟨ps, rfl, pp⟩ := pacc
  walk_at "go"
  refine ⟨D, _, rfl, ⟨ps, e1, pp⟩, fun ap H2 hap s2 D2 => ?_⟩
  have hkeys : (R.map fun s => (s, V.int (R.idxOf s : Nat))).map (·.1) = R := by
    rw [List.map_map]
    exact List.map_id' R
  rw [merge_app _ [] (by rw [List.nil_append, hkeys]; exact hnd), List.nil_append] at D2
  have s12 := s1.trans s2
  walk_at "go"
  -- the first pairs
  refine ⟨_, rfl, d, cs, rfl, SqL.of (s12 _ _ ec), fun cut H3 hcut s3 e3 => ?_⟩
  rw [cut_one cs (by omega)] at e3
  have pd : Paired (IsSp H) (cs.drop 1) (C.drop 1) := prDrop 1 pc
  have ld : (cs.drop 1).length = (C.drop 1).length := prLen pd
  have ldl : (cs.drop 1).length ≤ 30 := by rw [List.length_drop]; omega
  have s13 := s12.trans s3
  obtain ⟨x0, hx0⟩ : ∃ x0, C[0]? = some x0 := ⟨_, List.getElem?_eq_getElem (show 0 < C.length by omega)⟩
  obtain ⟨v0, hv0, hS0⟩ := prAt2 pc hx0
  refine u_iLi (SqL.of e3) ?_
  refine lc_by (walk_list (xs := cs.drop 1)) (Same H3) (fun j acc H' => Paired (PrS H') acc (((C.drop 1).take j).map fun y => (x0, y))) (small_line (by omega)) (fun D H1 H2 hD s b => sS hD s b) (Same.refl H3) (fun H' s => by rw [List.take_zero]; exact .nil) (fun i acc H' _ s _ => SqL.of (s _ _ e3)) ?_ ?_
  · intro D2' j x acc H5 H4 Rr N put skip hD2 hj s4 pacc e4 y
    obtain ⟨rfl, hx⟩ := y
    obtain ⟨sp, hsp, hS⟩ := prAt1 pd hx
    have s14 := s13.trans s4
    refine w_name ⟨rfl, ?_⟩
    walk_at "go"
    refine w_ixL (n := 0) (s14 _ _ ec) hv0 ?_
    walk_at "go"
    refine u_tupn l2 fun pr H5 hpr s5 e5 => ?_
    refine put _ _ (s5 _ _ e4) (s4.trans s5) fun H6 b6 t6 s6 => ?_
    rw [take_succ_of hsp, List.map_append]
    have kk := (TK.of (s14.trans s5)).trans t6
    exact prApp (prImp (fun _ _ z => z.mono ((TK.of s5).trans t6)) pacc) (.cons ⟨pr, v0, x, rfl, t6 _ _ e5, hS0.mono kk, hS.mono kk⟩ .nil)
  intro DA accA H4 hDA eA s4 pA
  rw [ld, List.take_length] at pA
  have s14 := s13.trans s4
  walk_at "go"
  refine u_lenL (s14 _ _ ec) ?_
  walk_at "go"
  refine u_iR1i (by omega) (by omega) ?_
  have eto : ((cs.length : Int) - 1).toNat = C.length - 1 := by omega
  rw [eto]
  refine lc_by walk_r0 (Same H4) (fun j acc H' => ∃ prs : List (Spot × Spot), acc.length = j ∧ Paired (PrS H') acc prs ∧ ∀ xy ∈ prs, xy.1 ∈ C ∧ xy.2 ∈ C ∧ xy.1 ≠ xy.2) (small_line (by omega)) (fun D H1 H2 hD s b => sS hD s b) (Same.refl H4) (fun H' s => ⟨[], rfl, .nil, fun _ h => nomatch h⟩) (fun _ _ _ _ _ _ => trivial) ?_ ?_
  · intro D2' j x acc H6 H5 Rr N put skip hD2 hj s5 pacc e5 y
    obtain ⟨rfl, rfl⟩ := y
    obtain ⟨prs, hal, ppr, hpr⟩ := pacc
    have s15 := s14.trans s5
    obtain ⟨y1, hy1⟩ : ∃ x, C[j]? = some x := ⟨_, List.getElem?_eq_getElem (show j < C.length by omega)⟩
    obtain ⟨y2, hy2⟩ : ∃ x, C[j + 1]? = some x := ⟨_, List.getElem?_eq_getElem (show j + 1 < C.length by omega)⟩
    obtain ⟨u1, hu1, hS1⟩ := prAt2 pc hy1
    obtain ⟨u2, hu2, hS2⟩ := prAt2 pc hy2
    refine w_name ⟨rfl, ?_⟩
    walk_at "go"
    refine w_ixL (s15 _ _ ec) hu1 ?_
    walk_at "go"
    refine w_ixL (n := j + 1) (s15 _ _ ec) hu2 ?_
    walk_at "go"
    refine u_tupn l2 fun pr H6 hpr' s6 e6 => ?_
    refine put _ _ (s6 _ _ e5) (s5.trans s6) fun H7 b7 t7 s7 => ?_
    have kk := (TK.of (s15.trans s6)).trans t7
    refine ⟨prs ++ [(y1, y2)], by rw [List.length_append, hal]; rfl, prApp (prImp (fun _ _ z => z.mono ((TK.of s6).trans t7)) ppr) (.cons ⟨pr, u1, u2, rfl, t7 _ _ e6, hS1.mono kk, hS2.mono kk⟩ .nil), fun z hz => ?_⟩
    rcases List.mem_append.mp hz with h | h
    · exact hpr z h
    · rw [List.mem_singleton.mp h]
      refine ⟨List.mem_of_getElem? hy1, List.mem_of_getElem? hy2, fun e => ?_⟩
      have i1 := idx_at hcn hy1
      have i2 := idx_at hcn hy2
      have e' : y1 = y2 := e
      rw [e'] at i1
      omega
  intro DB accB H5 hDB eB s5 pB
  obtain ⟨prs, hal, ppr, hpr⟩ := pB
  refine u_cat (s5 _ _ eA) eB (Nat.le_of_lt (small_line (by rw [prLen pA, List.length_map, List.length_drop, hal]; omega))) fun pl H6 hpl s6 e6 => ?_
  walk_at "go"
  have s16 := s14.trans (s5.trans s6)
  have pall : Paired (PrS H6) (accA ++ accB) (((C.drop 1).map fun y => (x0, y)) ++ prs) := prApp (prImp (fun _ _ z => z.mono (TK.of (s5.trans s6))) pA) (prImp (fun _ _ z => z.mono (TK.of s6)) ppr)
  have hall : ∀ xy ∈ ((C.drop 1).map fun y => (x0, y)) ++ prs, xy.1 ∈ C ∧ xy.2 ∈ C ∧ xy.1 ≠ xy.2 := fun xy hxy => by
    rcases List.mem_append.mp hxy with h | h
    · obtain ⟨y, hy, rfl⟩ := List.mem_map.mp h
      refine ⟨List.mem_of_getElem? hx0, List.mem_of_mem_drop hy, fun e => ?_⟩
      obtain ⟨j, hj⟩ := List.mem_iff_getElem?.mp hy
      rw [List.getElem?_drop] at hj
      have i1 := idx_at hcn hx0
      have i2 := idx_at hcn hj
      have e' : x0 = y := e
      rw [e'] at i1
      omega
    · exact hpr xy h
  generalize hpp : ((C.drop 1).map fun y => (x0, y)) ++ prs = pairs at pall hall
  have D6 := D2.same (s3.trans (s4.trans (s5.trans s6)))
  refine u_iLi (SqL.of e6) ?_
  refine for_by (walk_list (xs := accA ++ accB)) (fun i σ H' => ∃ x8 x9 x10 x11 y5 y6, σ = [some (.ref a), some (.ref b), some (.ref c), some (.ref d), some (.ref ap), y5, y6, some (.ref pl), x8, x9, x10, x11] ∧ Same H6 H') ⟨_, _, _, _, _, _, rfl, Same.refl H6⟩ (fun i σ H' _ ⟨_, _, _, _, _, _, _, s⟩ => SqL.of (s _ _ e6)) ?_ ?_
  · rintro i x σ H8 H7 hi ⟨x8, x9, x10, x11, y5, y6, rfl, s7⟩ ⟨rfl, hx⟩
    obtain ⟨⟨y1, y2⟩, hxy, hP⟩ := prAt1 pall hx
    obtain ⟨h1, h2, h3⟩ := hall _ (List.mem_of_getElem? hxy)
    dsimp only at h1 h2 h3
    obtain ⟨pp', k1, k2, rfl, epr, hk1, hk2⟩ := hP.mono (TK.of s7)
    dsimp only at hk1 hk2
    have D7 := D6.same s7
    refine w_two epr ?_
    walk_at "go"
    have hkh := hash_sub (P := P) (w := w) o (ks := (R.map fun s => (s, V.int (R.idxOf s : Nat))).map (·.1)) (by rw [hkeys]; exact hnd) (by rw [hkeys]; exact hsub)
    rw [List.map_map] at hkh
    refine ⟨ap, _, rfl, D7, hkh, fun sl H8 hsl s8 D8 => ?_⟩
    walk_at "go"
    have hv1 : valV (R.map fun s => (s, V.int (R.idxOf s : Nat))) y1 = some (.int (R.idxOf y1 : Nat)) := valV_map (g := fun s => V.int (R.idxOf s : Nat)) (hcs y1 h1)
    refine u_ngeti D8 (hk1.mono (TK.of s8)) hv1 ?_
    walk_at "go"
    refine u_nputi D8 (hk2.mono (TK.of s8)) (small_line (by rw [List.length_map]; omega)) fun H9 b9 n9 t9 D9 => ?_
    walk_at "go"
    have s79 : Same _ H9 := s8.but b9 hsl
    have s19 := (s16.trans s7).trans s79
    refine ⟨(a, b, sl, c), rfl, ln, together R y1 y2, R, Wt, hln.same s19, hR.mono s19, ⟨_, D9, fun s hs => ?_⟩, hWt.mono s19, hin, hwt, by omega, hwl, fun bb H10 s10 hb => ?_⟩
    · rw [valV_put, valV_map (g := fun s => V.int (R.idxOf s : Nat)) hs]
      unfold together
      by_cases hc : s = y2
      · rw [if_pos hc, if_pos hc]
      · rw [if_neg hc, if_neg hc]
    · have hbf : bb = false := by
        cases bb with
        | false => rfl
        | true => exact absurd (hb.mp rfl) (hno y1 y2 h1 h2 h3)
      rw [hbf]
      walk_at "go"
      exact ⟨_, _, _, _, _, _, rfl, s7.trans (s79.trans s10)⟩
  · rintro σ H7 ⟨x8, x9, x10, x11, y5, y6, rfl, s7⟩
    walk_at "go"
    exact q H7 (s16.trans s7)
end
end SL
end PtD21
/-! part M2 -/
section PtM2
/-! M2: the law's mathematics: least room goes, none with fewer does. -/
namespace SL
/-! ### what lies in a slot -/
theorem rm_some {f : Spot → Int} {R : List Spot} {v : Int} {s : Spot} : ∀ {i : Nat}, rmAt f R v i = some s → ∃ j, j < i ∧ R.getD j d0 = s ∧ f s = v ∧ ∀ k, j < k → k < i → f (R.getD k d0) ≠ v
  | 0, h => by cases h
  | i + 1, h => by
    have h' : (if f (R.getD i d0) = v then some (R.getD i d0) else rmAt f R v i) = some s := h
    by_cases c : f (R.getD i d0) = v
    · rw [if_pos c] at h'
      have e := Option.some.inj h'
      exact ⟨i, Nat.lt_succ_self i, e, e ▸ c, fun k h1 h2 => by omega⟩
    · rw [if_neg c] at h'
      obtain ⟨j, h1, h2, h3, h4⟩ := rm_some h'
      refine ⟨j, Nat.lt_succ_of_lt h1, h2, h3, fun k h5 h6 => ?_⟩
      rcases Nat.lt_succ_iff_lt_or_eq.mp h6 with h | h
      · exact h4 k h5 h
      · rw [h]; exact c
theorem rm_of {f : Spot → Int} {R : List Spot} {v : Int} {j : Nat} : ∀ {i : Nat}, j < i → f (R.getD j d0) = v → (∀ k, j < k → k < i → f (R.getD k d0) ≠ v) → rmAt f R v i = some (R.getD j d0)
  | 0, h, _, _ => absurd h (Nat.not_lt_zero _)
  | i + 1, h, h2, h3 => by
    show (if f (R.getD i d0) = v then some (R.getD i d0) else rmAt f R v i) = _
    by_cases e : j = i
    · subst e
      rw [if_pos h2]
    · have hlt : j < i := by omega
      rw [if_neg (h3 i hlt (Nat.lt_succ_self i))]
      exact rm_of hlt h2 fun k h4 h5 => h3 k h4 (Nat.lt_succ_of_lt h5)
/-! ### the ends -/
theorem lastU_some {ln : Spot → List Spot} {R : List Spot} {s : Spot} : ∀ {n k : Nat}, lastU ln R s n = some k → k < n ∧ s ∈ ln (R.getD k d0)
  | 0, k, h => by cases h
  | n + 1, k, h => by
    have h' : (if s ∈ ln (R.getD n d0) then some n else lastU ln R s n) = some k := h
    by_cases c : s ∈ ln (R.getD n d0)
    · rw [if_pos c] at h'
      cases h'
      exact ⟨Nat.lt_succ_self _, c⟩
    · rw [if_neg c] at h'
      obtain ⟨h1, h2⟩ := lastU_some h'
      exact ⟨Nat.lt_succ_of_lt h1, h2⟩
theorem lastU_ge {ln : Spot → List Spot} {R : List Spot} {s : Spot} {i : Nat} (hi : s ∈ ln (R.getD i d0)) : ∀ {n : Nat}, i < n → ∃ k, lastU ln R s n = some k ∧ i ≤ k
  | 0, h => absurd h (Nat.not_lt_zero _)
  | n + 1, h => by
    show ∃ k, (if s ∈ ln (R.getD n d0) then some n else lastU ln R s n) = some k ∧ i ≤ k
    by_cases c : s ∈ ln (R.getD n d0)
    · exact ⟨n, if_pos c, by omega⟩
    · have hne : i ≠ n := fun e => c (e ▸ hi)
      obtain ⟨k, h1, h2⟩ := lastU_ge hi (n := n) (by omega)
      exact ⟨k, by rw [if_neg c]; exact h1, h2⟩
theorem lastU_congr {ln ln' : Spot → List Spot} {R : List Spot} (h : ∀ s x, x ∈ ln s ↔ x ∈ ln' s) (s : Spot) : ∀ n, lastU ln R s n = lastU ln' R s n
  | 0 => rfl
  | n + 1 => by
    show (if s ∈ ln (R.getD n d0) then some n else lastU ln R s n) = if s ∈ ln' (R.getD n d0) then some n else lastU ln' R s n
    rw [lastU_congr h s n]
    by_cases c : s ∈ ln (R.getD n d0)
    · rw [if_pos c, if_pos ((h _ _).mp c)]
    · rw [if_neg c, if_neg fun z => c ((h _ _).mpr z)]
theorem ends_congr {ln ln' : Spot → List Spot} {R Wt : List Spot} (h : ∀ s x, x ∈ ln s ↔ x ∈ ln' s) : endsF ln R Wt = endsF ln' R Wt := by
  funext s
  unfold endsF luse
  rw [lastU_congr h]
/-- the row, its leans, the wanted -/
structure Ctx (ln : Spot → List Spot) (R Wt : List Spot) : Prop where
  nd : R.Nodup
  topo : ∀ (i : Nat) (s : Spot), R[i]? = some s → ∀ x ∈ ln s, x ∈ R.take i
  wt : ∀ s ∈ Wt, s ∈ R
section
variable {ln : Spot → List Spot} {R Wt : List Spot}
theorem at_idx {s : Spot} (h : s ∈ R) : R[R.idxOf s]? = some s := by
  have hj : R.idxOf s < R.length := List.idxOf_lt_length_iff.mpr h
  rw [List.getElem?_eq_getElem hj, List.getElem_idxOf hj]
theorem getD_idx {s : Spot} (h : s ∈ R) : R.getD (R.idxOf s) d0 = s := getD_at (at_idx h)
theorem idx_lt {s : Spot} (h : s ∈ R) : R.idxOf s < R.length := List.idxOf_lt_length_iff.mpr h
theorem idx_getD (nd : R.Nodup) {j : Nat} (h : j < R.length) : R.idxOf (R.getD j d0) = j := by
  have e : R[j]? = some R[j] := List.getElem?_eq_getElem h
  rw [getD_at e]
  exact idx_at nd e
theorem idx_take (nd : R.Nodup) {i : Nat} {s : Spot} (h : s ∈ R.take i) : R.idxOf s < i := by
  obtain ⟨j, hj⟩ := List.mem_iff_getElem?.mp h
  rw [List.getElem?_take] at hj
  by_cases c : j < i
  · rw [if_pos c] at hj
    rw [idx_at nd hj]
    exact c
  · rw [if_neg c] at hj
    cases hj
theorem take_of_idx {i : Nat} {s : Spot} (h : s ∈ R) (hi : R.idxOf s < i) : s ∈ R.take i := by
  have e := at_idx h
  have : (R.take i)[R.idxOf s]? = some s := by
    rw [List.getElem?_take, if_pos hi]
    exact e
  exact List.mem_of_getElem? this
theorem idx_inj {s o : Spot} (hs : s ∈ R) (ho : o ∈ R) (h : R.idxOf s = R.idxOf o) : s = o := by
  have h1 := getD_idx hs
  have h2 := getD_idx ho
  rw [← h1, ← h2, h]
/-- one who goes lays nothing over what is still read -/
theorem goes_ends (c : Ctx ln R Wt) {f : Spot → Int} (g : Goes ln f R Wt) {s o : Spot} (hs : s ∈ R) (ho : o ∈ R) (hlt : R.idxOf s < R.idxOf o) (hf : f s = f o) : endsF ln R Wt s ≤ (R.idxOf o : Nat) := by
  have hol := idx_lt ho
  have key : ∀ i, R.idxOf o < i → i ≤ R.length → rmAt f R (f s) i ≠ some s := fun i h1 h2 h => by
    obtain ⟨j, a1, a2, a3, a4⟩ := rm_some h
    have hj : R.idxOf s = j := by rw [← a2]; exact idx_getD c.nd (by omega)
    refine a4 (R.idxOf o) (by omega) h1 ?_
    rw [getD_idx ho, hf]
  unfold endsF
  by_cases hw : s ∈ Wt
  · exact absurd (g.2 s hw) (key R.length hol (Nat.le_refl _))
  · rw [if_neg hw]
    unfold luse
    cases hu : lastU ln R s R.length with
    | none => show ((R.idxOf s : Nat) : Int) ≤ _; omega
    | some k =>
      show ((k : Nat) : Int) ≤ _
      obtain ⟨h1, h2⟩ := lastU_some hu
      rcases Nat.lt_or_ge (R.idxOf o) k with h | h
      · have e : R[k]? = some (R.getD k d0) := by
          rw [List.getElem?_eq_getElem h1, getD_at (List.getElem?_eq_getElem h1)]
        exact absurd (g.1 k _ e s h2) (key k h (Nat.le_of_lt h1))
      · omega
/-- who lays nothing over what is still read goes -/
theorem goes_of (c : Ctx ln R Wt) {f : Spot → Int} (h : ∀ s ∈ R, ∀ o ∈ R, R.idxOf s < R.idxOf o → f s = f o → endsF ln R Wt s ≤ (R.idxOf o : Nat)) : Goes ln f R Wt := by
  have key : ∀ (x : Spot) (i : Nat), x ∈ R → R.idxOf x < i → i ≤ R.length → ((i : Nat) : Int) ≤ endsF ln R Wt x → rmAt f R (f x) i = some x := fun x i hx h1 h2 h3 => by
    have e := rm_of (f := f) (R := R) (v := f x) (j := R.idxOf x) (i := i) h1 (by rw [getD_idx hx]) fun k h4 h5 h6 => by
      have hk : k < R.length := by omega
      have hko : R.getD k d0 ∈ R := by
        have e : R[k]? = some R[k] := List.getElem?_eq_getElem hk
        rw [getD_at e]
        exact List.mem_of_getElem? e
      have := h x hx _ hko (by rw [idx_getD c.nd hk]; exact h4) h6.symm
      rw [idx_getD c.nd hk] at this
      omega
    rw [getD_idx hx] at e
    exact e
  refine ⟨fun i s hs x hx => ?_, fun x hx => ?_⟩
  · have hi : i < R.length := (List.getElem?_eq_some_iff.mp hs).1
    have hxt := c.topo i s hs x hx
    have hxR : x ∈ R := List.mem_of_mem_take hxt
    refine key x i hxR (idx_take c.nd hxt) (Nat.le_of_lt hi) ?_
    unfold endsF
    by_cases hw : x ∈ Wt
    · rw [if_pos hw]; omega
    · rw [if_neg hw]
      unfold luse
      obtain ⟨k, e, hk⟩ := lastU_ge (ln := ln) (R := R) (s := x) (i := i) (by rw [getD_at hs]; exact hx) hi
      rw [e]
      show ((i : Nat) : Int) ≤ ((k : Nat) : Int)
      omega
  · have hxR := c.wt x hx
    refine key x R.length hxR (idx_lt hxR) (Nat.le_refl _) ?_
    unfold endsF
    rw [if_pos hx]
    exact Int.le_refl _
/-! ### the crowd -/
theorem getD_mem {i : Nat} (hi : i < R.length) : R.getD i d0 ∈ R := by
  have e : R[i]? = some R[i] := List.getElem?_eq_getElem hi
  rw [getD_at e]
  exact List.mem_of_getElem? e
theorem crowd_mem (nd : R.Nodup) {E : Spot → Int} {i : Nat} (hi : i < R.length) {s : Spot} (h : s ∈ crowdL E R i) : s ∈ R ∧ (R.idxOf s = i ∨ (R.idxOf s < i ∧ ((i : Nat) : Int) < E s)) := by
  unfold crowdL at h
  rcases List.mem_cons.mp h with e | h
  · rw [e]
    exact ⟨getD_mem hi, .inl (idx_getD nd hi)⟩
  · obtain ⟨h1, h2⟩ := List.mem_filter.mp h
    exact ⟨List.mem_of_mem_take h1, .inr ⟨idx_take nd h1, of_decide_eq_true h2⟩⟩
theorem crowd_nd (nd : R.Nodup) {E : Spot → Int} {i : Nat} (hi : i < R.length) : (crowdL E R i).Nodup := by
  unfold crowdL
  refine List.nodup_cons.mpr ⟨fun h => ?_, ((nd.sublist (List.take_sublist _ _)).sublist List.filter_sublist)⟩
  have := idx_take nd (List.mem_filter.mp h).1
  rw [idx_getD nd hi] at this
  omega
/-- two of a crowd never share a slot -/
theorem crowd_apart (c : Ctx ln R Wt) {f : Spot → Int} (g : Goes ln f R Wt) {i : Nat} (hi : i < R.length) {x y : Spot} (hx : x ∈ crowdL (endsF ln R Wt) R i) (hy : y ∈ crowdL (endsF ln R Wt) R i) (hne : x ≠ y) : f x ≠ f y := by
  have one : ∀ {x y : Spot}, x ∈ crowdL (endsF ln R Wt) R i → y ∈ crowdL (endsF ln R Wt) R i → R.idxOf x < R.idxOf y → f x ≠ f y := fun {x y} hx hy hlt e => by
    obtain ⟨h1, h2⟩ := crowd_mem c.nd hi hx
    obtain ⟨h3, h4⟩ := crowd_mem c.nd hi hy
    have := goes_ends c g h1 h3 hlt e
    rcases h2 with h2 | ⟨h2, h5⟩
    · rcases h4 with h4 | ⟨h4, _⟩ <;> omega
    · rcases h4 with h4 | ⟨h4, _⟩ <;> omega
  rcases Nat.lt_trichotomy (R.idxOf x) (R.idxOf y) with h | h | h
  · exact one hx hy h
  · exact absurd (idx_inj (crowd_mem c.nd hi hx).1 (crowd_mem c.nd hi hy).1 h) hne
  · exact fun e => one hy hx h e.symm
/-! ### the least room -/
/-- the slot of a spot -/
def sf (E : Spot → Int) (R : List Spot) (s : Spot) : Nat := match (lrS E R).find? (fun p => decide (p.1 = s)) with
  | some p => p.2
  | none => 0
structure LrI (E : Spot → Int) (R : List Spot) (i : Nat) : Prop where
  lt : ∀ p ∈ (lr E R i).2, p.2 < (lr E R i).1.length
  has : ∀ k, k < (lr E R i).1.length → ∃ s, (s, k) ∈ (lr E R i).2
  nd : (lr E R i).1.Nodup
  last : ∀ p ∈ (lr E R i).2, (lr E R i).1[p.2]? = some p.1 ∨ E p.1 ≤ (i : Nat)
  apart : ∀ p ∈ (lr E R i).2, ∀ q ∈ (lr E R i).2, p.2 = q.2 → R.idxOf p.1 < R.idxOf q.1 → E p.1 ≤ (R.idxOf q.1 : Nat)
  big : (lr E R i).1 = [] ∨ ∃ j, j < i ∧ (lr E R i).1.length ≤ (crowdL E R j).length
theorem frees_nil {E : Spot → Int} {L : List Spot} {i : Nat} (h : frees E L i = []) {s : Spot} (hs : s ∈ L) : ((i : Nat) : Int) < E s := by
  obtain ⟨k, hk⟩ := List.mem_iff_getElem?.mp hs
  have hkl := (List.getElem?_eq_some_iff.mp hk).1
  have := List.filter_eq_nil_iff.mp h k (List.mem_range.mpr hkl)
  rw [getD_at hk] at this
  have h2 : ¬ E s ≤ ((i : Nat) : Int) := by simpa using this
  omega
theorem frees_cons {E : Spot → Int} {L : List Spot} {i k : Nat} {r : List Nat} (h : frees E L i = k :: r) : ∃ s, L[k]? = some s ∧ E s ≤ ((i : Nat) : Int) := by
  have hm : k ∈ frees E L i := by rw [h]; exact List.mem_cons_self
  obtain ⟨h1, h2⟩ := List.mem_filter.mp hm
  have hkl := List.mem_range.mp h1
  have e : L[k]? = some L[k] := List.getElem?_eq_getElem hkl
  refine ⟨L[k], e, ?_⟩
  rw [getD_at e] at h2
  exact of_decide_eq_true h2
theorem set_nodup : ∀ {L : List Spot} {k : Nat} {x : Spot}, L.Nodup → x ∉ L → (L.set k x).Nodup
  | [], _, _, _, _ => List.nodup_nil
  | a :: L, 0, x, h, hx => List.nodup_cons.mpr ⟨fun z => hx (List.mem_cons_of_mem _ z), (List.nodup_cons.mp h).2⟩
  | a :: L, k + 1, x, h, hx => by
    obtain ⟨h1, h2⟩ := List.nodup_cons.mp h
    refine List.nodup_cons.mpr ⟨fun z => ?_, set_nodup h2 fun z => hx (List.mem_cons_of_mem _ z)⟩
    rcases List.mem_or_eq_of_mem_set z with z | z
    · exact h1 z
    · exact hx (by rw [z]; exact List.mem_cons_self)
theorem lr_inv (nd : R.Nodup) (E : Spot → Int) : ∀ i, i ≤ R.length → LrI E R i
  | 0, _ => ⟨fun p h => (by cases h), fun k h => absurd h (Nat.not_lt_zero _), List.nodup_nil, fun p h => (by cases h), fun p h => (by cases h), .inl rfl⟩
  | i + 1, hi => by
    have I := lr_inv nd E i (Nat.le_of_lt hi)
    have hx : R[i]? = some R[i] := List.getElem?_eq_getElem hi
    have hkeys := lr_keys E R i (Nat.le_of_lt hi)
    have hmem := lr_mem E R i (Nat.le_of_lt hi)
    generalize hsp : R[i] = sp at hx
    have hidx := idx_at nd hx
    have hnew := not_in_take nd hx
    have e : lr E R (i + 1) = lrStep E i sp (lr E R i) := by
      show lrStep E i (R.getD i d0) (lr E R i) = _
      rw [getD_at hx]
    generalize hst : lr E R i = st at I e hkeys hmem
    obtain ⟨L, sl⟩ := st
    have i1 : ∀ p ∈ sl, p.2 < L.length := by have := I.lt; rwa [hst] at this
    have i2 : ∀ k, k < L.length → ∃ s, (s, k) ∈ sl := by have := I.has; rwa [hst] at this
    have i3 : L.Nodup := by have := I.nd; rwa [hst] at this
    have i4 : ∀ p ∈ sl, L[p.2]? = some p.1 ∨ E p.1 ≤ (i : Nat) := by have := I.last; rwa [hst] at this
    have i5 : ∀ p ∈ sl, ∀ q ∈ sl, p.2 = q.2 → R.idxOf p.1 < R.idxOf q.1 → E p.1 ≤ (R.idxOf q.1 : Nat) := by have := I.apart; rwa [hst] at this
    have i6 : L = [] ∨ ∃ j, j < i ∧ L.length ≤ (crowdL E R j).length := by have := I.big; rwa [hst] at this
    have old : ∀ p ∈ sl, p.1 ∈ R.take i := fun p hp => by
      rw [← hkeys]
      exact List.mem_map.mpr ⟨p, hp, rfl⟩
    have spL : sp ∉ L := fun h => hnew (hmem sp h)
    unfold lrStep at e
    cases hf : frees E L i with
    | nil =>
      have e' : lr E R (i + 1) = (L ++ [sp], sl ++ [(sp, L.length)]) := by rw [e]; simp only [hf]
      have hopen : (L ++ [sp]).length ≤ (crowdL E R i).length := by
        have h1 : L.length ≤ ((R.take i).filter fun s => decide (((i : Nat) : Int) < E s)).length := nodup_len _ _ i3 fun x hx => List.mem_filter.mpr ⟨hmem x hx, decide_eq_true (frees_nil hf hx)⟩
        unfold crowdL
        rw [List.length_append, List.length_singleton, List.length_cons]
        omega
      refine ⟨?_, ?_, ?_, ?_, ?_, ?_⟩ <;> rw [e'] <;> dsimp only
      · intro p hp
        rw [List.length_append, List.length_singleton]
        rcases List.mem_append.mp hp with h | h
        · have := i1 p h; omega
        · rw [List.mem_singleton.mp h]; show L.length < _; omega
      · intro k hk
        rw [List.length_append, List.length_singleton] at hk
        by_cases c : k < L.length
        · obtain ⟨s, hs⟩ := i2 k c
          exact ⟨s, List.mem_append_left _ hs⟩
        · have : k = L.length := by omega
          exact ⟨sp, List.mem_append_right _ (List.mem_singleton.mpr (by rw [this]))⟩
      · rw [List.nodup_append]
        exact ⟨i3, List.nodup_cons.mpr ⟨by simp, List.nodup_nil⟩, fun a ha b hb z => by rw [List.mem_singleton.mp hb] at z; exact spL (z ▸ ha)⟩
      · intro p hp
        rcases List.mem_append.mp hp with h | h
        · rcases i4 p h with z | z
          · left
            rw [List.getElem?_append_left (i1 p h)]
            exact z
          · right; omega
        · rw [List.mem_singleton.mp h]
          left
          show (L ++ [sp])[L.length]? = some sp
          rw [List.getElem?_append_right (Nat.le_refl _), Nat.sub_self]
          rfl
      · intro p hp q hq hpq hlt
        rcases List.mem_append.mp hp with h | h
        · rcases List.mem_append.mp hq with h' | h'
          · exact i5 p h q h' hpq hlt
          · rw [List.mem_singleton.mp h'] at hpq
            have := i1 p h
            have hpq' : p.2 = L.length := hpq
            omega
        · rw [List.mem_singleton.mp h] at hlt
          have hlt' : R.idxOf sp < R.idxOf q.1 := hlt
          rcases List.mem_append.mp hq with h' | h'
          · have := idx_take nd (old q h')
            omega
          · rw [List.mem_singleton.mp h'] at hlt'
            have : R.idxOf sp < R.idxOf sp := hlt'
            omega
      · exact .inr ⟨i, Nat.lt_succ_self i, hopen⟩
    | cons k r =>
      have e' : lr E R (i + 1) = (L.set k sp, sl ++ [(sp, k)]) := by rw [e]; simp only [hf]
      obtain ⟨s0, hs0, hE0⟩ := frees_cons hf
      have hkl : k < L.length := (List.getElem?_eq_some_iff.mp hs0).1
      refine ⟨?_, ?_, ?_, ?_, ?_, ?_⟩ <;> rw [e'] <;> dsimp only
      · intro p hp
        rw [List.length_set]
        rcases List.mem_append.mp hp with h | h
        · exact i1 p h
        · rw [List.mem_singleton.mp h]; exact hkl
      · intro k' hk
        rw [List.length_set] at hk
        obtain ⟨s, hs⟩ := i2 k' hk
        exact ⟨s, List.mem_append_left _ hs⟩
      · exact set_nodup i3 spL
      · intro p hp
        rcases List.mem_append.mp hp with h | h
        · by_cases c : p.2 = k
          · right
            rcases i4 p h with z | z
            · rw [c, hs0] at z
              rw [← Option.some.inj z]
              omega
            · omega
          · rcases i4 p h with z | z
            · left
              rw [List.getElem?_set_ne (Ne.symm c)]
              exact z
            · right; omega
        · rw [List.mem_singleton.mp h]
          left
          show (L.set k sp)[k]? = some sp
          rw [List.getElem?_set_self hkl]
      · intro p hp q hq hpq hlt
        rcases List.mem_append.mp hp with h | h
        · rcases List.mem_append.mp hq with h' | h'
          · exact i5 p h q h' hpq hlt
          · rw [List.mem_singleton.mp h'] at hpq ⊢
            have hpq' : p.2 = k := hpq
            show E p.1 ≤ ((R.idxOf sp : Nat) : Int)
            rw [hidx]
            rcases i4 p h with z | z
            · rw [hpq', hs0] at z
              rw [← Option.some.inj z]
              exact hE0
            · exact z
        · rw [List.mem_singleton.mp h] at hlt
          have hlt' : R.idxOf sp < R.idxOf q.1 := hlt
          rcases List.mem_append.mp hq with h' | h'
          · have := idx_take nd (old q h')
            omega
          · rw [List.mem_singleton.mp h'] at hlt'
            have : R.idxOf sp < R.idxOf sp := hlt'
            omega
      · rcases i6 with z | ⟨j, hj, hl⟩
        · rw [z] at hkl
          exact absurd hkl (Nat.not_lt_zero _)
        · exact .inr ⟨j, Nat.lt_succ_of_lt hj, by rw [List.length_set]; exact hl⟩
theorem lrS_keys (E : Spot → Int) : (lrS E R).map (·.1) = R := by
  have := lr_keys E R R.length (Nat.le_refl _)
  rwa [List.take_length] at this
theorem sf_mem {E : Spot → Int} {s : Spot} (h : s ∈ R) : (s, sf E R s) ∈ lrS E R := by
  rw [← lrS_keys (R := R) E] at h
  obtain ⟨p, hp, e⟩ := List.mem_map.mp h
  unfold sf
  cases hf : (lrS E R).find? (fun p => decide (p.1 = s)) with
  | none => exact absurd (decide_eq_true e) (List.find?_eq_none.mp hf p hp)
  | some q =>
    have h1 := List.mem_of_find?_eq_some hf
    have h2' := List.find?_some hf
    have h2 : q.1 = s := by simpa using h2'
    show (s, q.2) ∈ lrS E R
    rw [← h2]
    exact h1
theorem sf_eq (nd : R.Nodup) {E : Spot → Int} {p : Spot × Nat} (h : p ∈ lrS E R) : sf E R p.1 = p.2 := by
  have hm : p.1 ∈ R := by
    rw [← lrS_keys (R := R) E]
    exact List.mem_map.mpr ⟨p, h, rfl⟩
  have h1 := sf_mem (E := E) hm
  have hn : ((lrS E R).map (·.1)).Nodup := by rw [lrS_keys]; exact nd
  have := inj_of_nodup hn _ h1 _ h rfl
  rw [← this]
theorem slV_val {E : Spot → Int} {s : Spot} (h : s ∈ R) : L2.valV (slV (lrS E R)) s = some (.int (sf E R s : Nat)) := by
  have hm := sf_mem (E := E) h
  unfold sf at hm ⊢
  unfold L2.valV slV
  rw [List.find?_map]
  have e : ((fun kv : Spot × L2.V => decide (kv.1 = s)) ∘ fun p : Spot × Nat => (p.1, L2.V.int (p.2 : Nat))) = fun p => decide (p.1 = s) := rfl
  rw [e]
  cases hf : (lrS E R).find? (fun p => decide (p.1 = s)) with
  | none =>
    rw [hf] at hm
    exact absurd (decide_eq_true rfl) (List.find?_eq_none.mp hf _ hm)
  | some q => rfl
/-- how many slots the least room has -/
def slotsN (E : Spot → Int) (R : List Spot) : Nat := (lr E R R.length).1.length
theorem sf_lt (nd : R.Nodup) {E : Spot → Int} {s : Spot} (h : s ∈ R) : sf E R s < slotsN E R := (lr_inv nd E R.length (Nat.le_refl _)).lt _ (sf_mem h)
/-- A: the least room goes -/
theorem least_goes (c : Ctx ln R Wt) : Goes ln (fun s => (sf (endsF ln R Wt) R s : Nat)) R Wt := by
  refine goes_of c fun s hs o ho hlt hf => ?_
  have hf' : sf (endsF ln R Wt) R s = sf (endsF ln R Wt) R o := by exact_mod_cast hf
  exact (lr_inv c.nd (endsF ln R Wt) R.length (Nat.le_refl _)).apart _ (sf_mem hs) _ (sf_mem ho) hf' hlt
/-- the greatest slot, and one -/
theorem max_slot (nd : R.Nodup) {E : Spot → Int} {m : Nat} (hm : m ∈ (lrS E R).map (·.2)) (hmax : ∀ y ∈ (lrS E R).map (·.2), y ≤ m) : m + 1 = slotsN E R := by
  have I := lr_inv nd E R.length (Nat.le_refl _)
  obtain ⟨p, hp, rfl⟩ := List.mem_map.mp hm
  have h1 : p.2 < slotsN E R := I.lt p hp
  have h2 : 0 < slotsN E R := by omega
  obtain ⟨s, hs⟩ := I.has (slotsN E R - 1) (by show slotsN E R - 1 < slotsN E R; omega)
  have h3 := hmax _ (List.mem_map.mpr ⟨_, hs, rfl⟩)
  have h3' : slotsN E R - 1 ≤ p.2 := h3
  omega
theorem nat_pigeon {f : Spot → Int} {m : Nat} : ∀ {C : List Spot}, C.Nodup → (∀ x ∈ C, 0 ≤ f x ∧ f x < (m : Nat)) → (∀ x ∈ C, ∀ y ∈ C, x ≠ y → f x ≠ f y) → C.length ≤ m := by
  intro C hn hb hi
  have h1 : (C.map fun x => (f x).toNat).Nodup := by
    refine List.pairwise_map.mpr (List.Pairwise.imp_of_mem (fun {a b} ha hb' hne e => ?_) hn)
    have h1 := hb a ha
    have h2 := hb b hb'
    exact hi a ha b hb' hne (by omega)
  have h2 := nodup_len (C.map fun x => (f x).toNat) (List.range m) h1 fun y hy => by
    obtain ⟨x, hx, rfl⟩ := List.mem_map.mp hy
    have := hb x hx
    exact List.mem_range.mpr (by omega)
  rwa [List.length_map, List.length_range] at h2
/-- a best crowd -/
structure Best (ln : Spot → List Spot) (R Wt C : List Spot) : Prop where
  nd : C.Nodup
  sub : ∀ s ∈ C, s ∈ R
  len : C.length = slotsN (endsF ln R Wt) R
  apart : ∀ f, Goes ln f R Wt → ∀ x ∈ C, ∀ y ∈ C, x ≠ y → f x ≠ f y
theorem best_of (c : Ctx ln R Wt) (hR : R ≠ []) {C : List Spot} (h : IsBest (endsF ln R Wt) R R.length C) : Best ln R Wt C := by
  obtain ⟨i, hi, rfl, hmax⟩ := h
  have hp := srt_perm (crowdL (endsF ln R Wt) R i)
  have hap : ∀ f, Goes ln f R Wt → ∀ x ∈ srt (crowdL (endsF ln R Wt) R i), ∀ y ∈ srt (crowdL (endsF ln R Wt) R i), x ≠ y → f x ≠ f y := fun f g x hx y hy hne => crowd_apart c g hi (hp.mem_iff.mp hx) (hp.mem_iff.mp hy) hne
  have hnd := hp.nodup_iff.mpr (crowd_nd (E := endsF ln R Wt) c.nd hi)
  have hsub : ∀ s ∈ srt (crowdL (endsF ln R Wt) R i), s ∈ R := fun s hs => (crowd_mem c.nd hi (hp.mem_iff.mp hs)).1
  refine ⟨hnd, hsub, ?_, hap⟩
  have I := lr_inv c.nd (endsF ln R Wt) R.length (Nat.le_refl _)
  have g := least_goes c
  have h1 : (srt (crowdL (endsF ln R Wt) R i)).length ≤ slotsN (endsF ln R Wt) R := nat_pigeon hnd (fun x hx => ⟨Int.natCast_nonneg _, by
    have := sf_lt (E := endsF ln R Wt) c.nd (hsub x hx)
    show ((sf (endsF ln R Wt) R x : Nat) : Int) < _
    omega⟩) (hap _ g)
  have h2 : slotsN (endsF ln R Wt) R ≤ (srt (crowdL (endsF ln R Wt) R i)).length := by
    rcases I.big with z | ⟨j, hj, hl⟩
    · unfold slotsN
      rw [z]
      exact Nat.zero_le _
    · exact Nat.le_trans hl (hmax j hj)
  omega
/-- C: two of the crowd in one slot go wrong -/
theorem together_wrong {C : List Spot} (b : Best ln R Wt C) {x y : Spot} (hx : x ∈ C) (hy : y ∈ C) (hne : x ≠ y) : ¬ Goes ln (together R x y) R Wt := fun g => by
  refine b.apart _ g x hx y hy hne ?_
  unfold together
  rw [if_neg hne, if_pos rfl]
/-- D: none with fewer goes -/
theorem none_fewer {C : List Spot} (b : Best ln R Wt C) {m : Nat} (hm : m + 1 = C.length) {f : Spot → Int} (hf : ∀ s ∈ R, 0 ≤ f s ∧ f s < (m : Nat)) : ¬ Goes ln f R Wt := fun g => by
  have := nat_pigeon b.nd (fun x hx => hf x (b.sub x hx)) (b.apart f g)
  omega
end
end SL
end PtM2
/-! part D22 -/
section PtD22
/-! D22: the law. -/
namespace SL
open PySem PySem.Spec PyProof.Rows L2
/-- one step that needs nothing -/
local macro_rules | `(tactic| walk_at "sl1") => `(tactic| first
  | (with_reducible refine w_varh ?_; refine ⟨_, rfl, ?_⟩) | (with_reducible refine w_rEqh ?_; refine ⟨rfl, ?_⟩) | (with_reducible refine w_rNeh ?_; refine ⟨rfl, ?_⟩)
  | with_reducible refine w_seq ?_ | with_reducible refine w_asg ?_ | with_reducible refine w_c ?_ | with_reducible refine w_op ?_ | with_reducible refine w_rI0 ?_ | with_reducible refine u_test ?_ | with_reducible refine u_tb ?_ | with_reducible refine u_bl ?_ | with_reducible refine u_ifs ?_ | with_reducible refine u_ift ?_ | with_reducible refine u_iff ?_ | with_reducible refine w_cons ?_ | with_reducible refine w_nil ?_ | with_reducible refine w_cl ?_ | with_reducible refine w_cb ?_ | with_reducible refine w_ret ?_ | with_reducible refine w_drop ?_ | with_reducible refine w_name ?_ | with_reducible refine w_next ?_
  | with_reducible refine u_fld ?_ | with_reducible refine u_tup ?_ | with_reducible refine u_lst ?_ | with_reducible refine u_not ?_ | with_reducible refine u_nott ?_ | with_reducible refine u_notf ?_ | with_reducible refine u_and ?_ | with_reducible refine u_or ?_ | with_reducible refine u_andt ?_ | with_reducible refine u_andf ?_ | with_reducible refine u_ort ?_ | with_reducible refine u_orf ?_ | with_reducible refine u_andV ?_ | with_reducible refine u_orV ?_ | with_reducible refine u_andVt ?_ | with_reducible refine u_andVf ?_ | with_reducible refine u_orVt ?_ | with_reducible refine u_orVf ?_ | with_reducible refine u_notV ?_ | with_reducible refine u_notVb ?_
  | with_reducible refine u_chain ?_ | with_reducible refine u_cht ?_ | with_reducible refine u_chf ?_ | with_reducible refine w_un ?_ | with_reducible refine w_rU ?_ | with_reducible refine w_isN ?_ | with_reducible refine w_notN ?_ | with_reducible refine u_bm ?_ | with_reducible refine u_sl ?_ | with_reducible refine u_part ?_ | with_reducible refine u_parti ?_ | with_reducible refine u_nopart ?_ | with_reducible refine u_m1 ?_ | with_reducible refine u_mt ?_ | with_reducible refine u_mk ?_ | with_reducible refine u_nget ?_ | with_reducible refine u_nin ?_ | with_reducible refine u_nput ?_ | with_reducible refine u_fldS ?_
  | with_reducible refine u_for ?_ | with_reducible refine u_lc ?_ | with_reducible refine u_iL ?_ | with_reducible refine u_iT ?_ | with_reducible refine u_iE ?_ | with_reducible refine u_iZ ?_ | with_reducible refine u_iZ2 ?_ | with_reducible refine u_iZ3 ?_ | with_reducible refine u_iR1 ?_ | with_reducible refine u_iR2 ?_ | with_reducible refine u_sub ?_ | with_reducible refine u_isA_int ?_ | with_reducible refine u_isA_bool ?_ | with_reducible refine u_int1 ?_ | with_reducible refine u_intB ?_ | with_reducible refine u_min2 ?_ | with_reducible refine u_kw ?_ | with_reducible refine w_yes ?_ | with_reducible refine u_srt ?_ | with_reducible refine u_yt ?_ | with_reducible refine u_yf ?_)
local macro_rules | `(tactic| walk_at "go") => `(tactic| repeat walk_at "sl1")
/-! ### a comprehension whose invariant knows the new list's place -/
section
variable {J : It} {n : Nat} {G : Hp → Prop} {Y : Nat → Hp → V → Hp → Prop} {g : TG} {tt : TT} {te : TE} {vs : List Nat} {σ : L2.St} {H1 : Hp} {Q : VK}
theorem lc_byD (w : Walk J n G Y) (S : Hp → Prop) (Pv : Addr → Nat → List V → Hp → Prop) (hn : n < sizeLine) (hS : ∀ D H H', H1 D = none → S H → But D H H' → S H') (hS0 : S H1)
    (h0 : ∀ D H', H1 D = none → Same H1 H' → Pv D 0 [] H') (hG : ∀ D i acc H, i ≤ n → S H → Pv D i acc H → G H)
    (hs : ∀ D i x acc H H' (R : V → Hp → Prop) (N : Hp → Prop), (∀ y H4, H4 D = some (.lst acc) → S H4 → (∀ H5, But D H4 H5 → TK H4 H5 → S H5 → Pv D (i + 1) (acc ++ [y]) H5) → R y H4) → (∀ H3, H3 D = some (.lst acc) → S H3 → Pv D (i + 1) acc H3 → N H3) →
      H1 D = none → i < n → S H → Pv D i acc H → H D = some (.lst acc) → Y i H x H' → g x (wipe σ vs) H' fun σ2 H2 => wipe σ2 vs = wipe σ vs ∧ tt σ2 H2 fun b H3 => rYN te σ2 R N b H3)
    (hd : ∀ D acc H, H1 D = none → H D = some (.lst acc) → S H → Pv D n acc H → Q (.ref D) H) :
    rLc g tt te vs σ J H1 Q := by
  intro D hD
  refine ⟨fun i m H => m = n - i ∧ i ≤ n ∧ S H ∧ ∃ acc, acc.length ≤ i ∧ H D = some (.lst acc) ∧ Pv D i acc H, ⟨n, by simp, Nat.zero_le _, hS D H1 _ hD hS0 but_upd, [], Nat.le_refl _, upd_same, h0 D _ hD (same_new hD)⟩, ?_⟩
  rintro i m H ⟨rfl, hi, sH, acc, hl, hH, p⟩
  have q := hG D i acc H hi sH p
  by_cases hlt : i < n
  · refine .inr ⟨w.goes i H hlt q, fun H => S H ∧ ∃ acc, acc.length ≤ i + 1 ∧ H D = some (.lst acc) ∧ Pv D (i + 1) acc H, fun H' ⟨z1, z2⟩ => ⟨n - (i + 1), by omega, rfl, hlt, z1, z2⟩, fun x H' y => ?_⟩
    refine hs D i x acc H H' _ _ (fun y H4 e s4 k => ⟨acc, e, by omega, ?_⟩) (fun H3 e s3 k => ⟨s3, acc, by omega, e, k⟩) hD hlt sH p hH (w.yields i H x H' hlt q y)
    have s5 := hS D H4 (upd H4 D (.lst (acc ++ [y]))) hD s4 but_upd
    exact ⟨s5, acc ++ [y], by rw [List.length_append, List.length_singleton]; omega, upd_same, k _ but_upd (tk_lst e) s5⟩
  · have e : i = n := by omega
    subst e
    exact .inl ⟨w.stops H q, hd D acc H hD hH sH p⟩
end
theorem eqvSps : ∀ ss : List Spot, PyData.eqvAll (ss.map spD) (ss.map spD) = true
  | [] => by simp [PyData.eqvAll]
  | s :: ss => by
    rw [List.map_cons, PyData.eqvAll, eqvSps ss, eqvSp, decide_eq_true rfl]
    rfl
theorem g_neSps {K : PySem.W.Frag} {H : Hp} {a b : Addr} {ss : List Spot} {Q : VK} (ha : SpL H a ss) (hb : SpL H b ss) (q : Q (.bl false) H) : rNeD K (.ref a) (.ref b) H Q :=
  ⟨_, _, ha.dp, hb.dp, shSps ss, shSps ss, by rw [PyData.eqv, eqvSps]; exact q⟩
theorem spots_sorted (W : Wd) : W.spots.Pairwise fun a b => a.1 ≤ b.1 := by
  show (spotsOf W.r (placesOf (szs W.es))).Pairwise _
  unfold spotsOf turnAt
  refine List.pairwise_flatMap.mpr ⟨fun i _ => List.pairwise_map.mpr ?_, ?_⟩
  · exact List.pairwise_of_forall (fun _ _ => Int.le_refl _)
  · refine List.pairwise_lt_range.imp fun {i j} hij x hx y hy => ?_
    obtain ⟨p, _, e1⟩ := List.mem_map.mp hx
    obtain ⟨q, _, e2⟩ := List.mem_map.mp hy
    rw [← e1, ← e2]
    show 1 + (i : Int) ≤ 1 + (j : Int)
    omega
theorem spots_row {W : Wd} (o : WdOk W) : RowW W W.spots := by
  refine ⟨List.Perm.refl _, fun i s hs x hx => ?_⟩
  obtain ⟨h1, h2⟩ := lean_in o (List.mem_of_getElem? hs) hx
  obtain ⟨j, hj⟩ := List.mem_iff_getElem?.mp h1
  have hjl := List.getElem?_eq_some_iff.mp hj
  have hil := List.getElem?_eq_some_iff.mp hs
  obtain ⟨hj1, hj2⟩ := hjl
  obtain ⟨hi1, hi2⟩ := hil
  rcases Nat.lt_or_ge j i with h | h
  · have : (W.spots.take i)[j]? = some x := by rw [List.getElem?_take, if_pos h]; exact hj
    exact List.mem_of_getElem? this
  · rcases Nat.lt_or_ge i j with h' | h'
    · have := List.pairwise_iff_getElem.mp (spots_sorted W) i j hi1 hj1 h'
      rw [hi2, hj2] at this
      omega
    · have e : i = j := by omega
      subst e
      rw [hs] at hj
      cases hj
      omega
theorem rowOk_of {W : Wd} (o : WdOk W) {J : Jb} (he : J.es = W.es) (hr : J.r = W.r) (hm : ∀ x, x ∈ J.tks ↔ x ∈ W.tks) {R : List Spot} (h : RowW W R) : RowOk J R := by
  have hsp : J.spots = W.spots := by
    show spotsOf J.r (placesOf (szs J.es)) = spotsOf W.r (placesOf (szs W.es))
    rw [he, hr]
  refine ⟨h.perm.nodup_iff.mpr (spots_nd o), fun s hs => ?_, by rw [hsp, h.perm.length_eq], by rw [h.perm.length_eq]; have := spots_few o; omega, fun i s hs x hx => ?_⟩
  · have := spot_in o (h.perm.mem_iff.mp hs)
    exact ⟨this.1, by rw [hr]; exact this.2.1, by rw [he]; exact this.2.2⟩
  · rw [he] at hx
    exact h.topo i s hs x ((lnP_same hm).mp hx)
section
variable {P : Program} {w : World} {K : PySem.W.Frag} {mg : Str → Option Value} {base : Heap}
theorem call_slots {H : Hp} {Q : VK} {E : XK} {x : Addr × Addr × Addr} {J : Jb} {R Wt : List Spot} (pre : RmPre K H x J R Wt) (q : ∀ H', Same H H' → Q (.int (slotsN (EOf J R Wt) R : Nat)) H') : spSlots P w K [.ref x.1, .ref x.2.1, .ref x.2.2] H Q E :=
  ⟨x, rfl, J, R, Wt, pre, fun H' s => ⟨fun e => by
    have := q H' s
    have z : slotsN (EOf J R Wt) R = 0 := by rw [e]; rfl
    rw [z] at this
    exact this, fun m hm hmax => by
    have := q H' s
    rw [← max_slot pre.ro.nd hm hmax] at this
    exact this⟩⟩
theorem call_crowd {H : Hp} {Q : VK} {E : XK} {x : Addr × Addr × Addr} {J : Jb} {R Wt : List Spot} (pre : RmPre K H x J R Wt) (hR : R ≠ []) (q : ∀ H' p y l C, Same H H' → H' p = some (.tup [y, .ref l]) → SpL H' l C → IsBest (EOf J R Wt) R R.length C → Q (.ref p) H') : spCrowd P w K [.ref x.1, .ref x.2.1, .ref x.2.2] H Q E :=
  ⟨x, rfl, J, R, Wt, pre, fun H' s => ⟨fun e => absurd e hR, fun p y l C h1 h2 h3 => q H' p y l C s h1 h2 h3⟩⟩
theorem call_crowd0 {H : Hp} {Q : VK} {E : XK} {x : Addr × Addr × Addr} {J : Jb} {R Wt : List Spot} (pre : RmPre K H x J R Wt) (hR : R = []) (q : ∀ H', Same H H' → Q .non H') : spCrowd P w K [.ref x.1, .ref x.2.1, .ref x.2.2] H Q E :=
  ⟨x, rfl, J, R, Wt, pre, fun H' s => ⟨fun _ => q H' s, fun p y l C h1 h2 h3 => by
    obtain ⟨i, hi, _⟩ := h3
    rw [hR] at hi
    exact absurd hi (Nat.not_lt_zero _)⟩⟩
theorem cut_map {α : Type} (g : α → V) (xs : List α) (lo hi : Option Int) : ∃ ys : List α, cutV (xs.map g) lo hi = ys.map g := by
  unfold cutV
  exact ⟨_, by rw [← List.map_drop, ← List.map_take]⟩
theorem valV_ex {kvs : List (Spot × V)} {k : Spot} (h : k ∈ kvs.map (·.1)) : ∃ kv ∈ kvs, kv.1 = k ∧ valV kvs k = some kv.2 := by
  obtain ⟨x, hx, e⟩ := List.mem_map.mp h
  cases hf : kvs.find? (fun p => decide (p.1 = k)) with
  | none =>
    have := List.find?_eq_none.mp hf x hx
    exact absurd (decide_eq_true e) this
  | some kv =>
    refine ⟨kv, List.mem_of_find?_eq_some hf, of_decide_eq_true (List.find?_some (p := fun p : Spot × V => decide (p.1 = k)) hf), ?_⟩
    unfold valV
    rw [hf]
    rfl
def spLaw (K : PySem.W.Frag) : Sp := fun vs H Q _ => ∃ (a : Addr) (ns : List Int), vs = [.ref a] ∧ SqL K H a (ns.map V.int) ∧ ns.length ≤ 63 ∧ ∀ H', Q (.bl true) H'
theorem ok_law (T : Txt K mg) : FnOk P w K mg base CX0 21 (He.fAd K ("law", none)) (fdA K ("law", none)) ["_law_script"] (spLaw K) := by
  refine (F_law T).ok sc_law (fun vs H Q E ⟨a, ns, e, _⟩ => by rw [e]; rfl) fun cdv A outer s H vs Q E hr h => ?_
  have nd := sc_law.nd
  have hu := hr.h
  have c_law_cell_at := ok_cell (P := P) (w := w) (base := base) T
  have c_law_tape := ok_tape (P := P) (w := w) (base := base) T
  have c_law_draw := ok_draw (P := P) (w := w) (base := base) T
  have c_law_world := ok_world (P := P) (w := w) (base := base) T
  have c_law_job := ok_ljob (P := P) (w := w) (base := base) T
  have c_law_spots := ok_lspots (P := P) (w := w) (base := base) T
  have c_law_leans := ok_lleans (P := P) (w := w) (base := base) T
  have c_law_row := ok_lrow (P := P) (w := w) (base := base) T
  have c_slots_wanted := ok_slots_wanted (P := P) (w := w) (base := base) T
  have c_least_room := ok_least_room (P := P) (w := w) (base := base) T
  have c_crowd_at := ok_crowd_at (P := P) (w := w) (base := base) T
  have c_law_goes := ok_goes (P := P) (w := w) (base := base) T
  have c_law_crowd_right := ok_crowd_right (P := P) (w := w) (base := base) T
  have c_law_none_goes := ok_none_goes (P := P) (w := w) (base := base) T
  obtain ⟨a, ns, rfl, hscr, hns, q⟩ := h
  refine ⟨_, (pss_cons (ps_set (i := 1) nd rfl (Or.inr rfl) (pe_c c_law_world hr (by rfl) (pa_cons (pe_c c_law_tape hr (by rfl) (pa_cons (pe_c c_law_cell_at hr (by rfl) (pa_cons (pv 0) (pa_cons pe_int pa_nil))) pa_nil)) pa_nil)))
    (pss_cons (ps_set (i := 2) nd rfl (Or.inr rfl) (pe_c c_law_tape hr (by rfl) (pa_cons (pe_c c_law_cell_at hr (by rfl) (pa_cons (pv 0) (pa_cons pe_int pa_nil))) pa_nil)))
    (pss_cons (ps_set (i := 3) nd rfl (Or.inl rfl) (pe_c c_law_job hr (by rfl) (pa_cons (pv 1) (pa_cons (pv 2) pa_nil))))
    (pss_cons (ps_set (i := 4) nd rfl (Or.inl rfl) (pe_callTy (cr_dictPr rfl hu) (by rfl) (free_dict T) (by decide +kernel) (pa_cons (pe_lc (own := [("_law_spot", 9)]) (g := (gName 9)) (tt := tYes)  rfl nd (pi_list (pe_c c_law_spots hr (by rfl) (pa_cons (pv 1) pa_nil))) (blkOk_by (N := ["_law_script", "_law_world_here", "_law_tape_here", "_law_job_here", "_law_leans_here", "_law_cell", "_law_rows", "_law_row_here", "_law_wanted", "_law_spot", "_law_many", "_law_slots", "_law_crowd"]) (sc := (defScope s_law)) (by decide +kernel)) (fun _ _ _ _ _ => (pg_name (i := 9) nd rfl (Or.inl rfl))) (fun _ _ _ _ _ => pts_nil) (fun _ _ _ _ _ => (pe_tupO (pa_cons (pv 9) (pa_cons (pe_c c_law_leans hr (by rfl) (pa_cons (pv 1) (pa_cons (pv 9) pa_nil))) pa_nil))))) pa_nil)))
    (pss_cons (ps_for PassesOwn.never rfl (pi_list (pe_op op_catO (pe_lstO (pa_cons (pe_c c_law_cell_at hr (by rfl) (pa_cons (pv 0) (pa_cons pe_int pa_nil))) pa_nil)) (pe_slice sl_listO (pv 0) (po_some pe_int) (po_some pe_int)))) (pg_name (i := 5) nd rfl (Or.inl rfl)) (pss_cons (ps_set (i := 2) nd rfl (Or.inr rfl) (pe_c c_law_tape hr (by rfl) (pa_cons (pv 5) pa_nil)))
    (pss_cons (ps_set (i := 6) nd rfl (Or.inl rfl) (pe_lstO (pa_cons (pe_c c_law_spots hr (by rfl) (pa_cons (pv 1) pa_nil)) (pa_cons (pe_c c_law_row hr (by rfl) (pa_cons (pv 1) (pa_cons (pv 2) pa_nil))) pa_nil))))
    (pss_cons (ps_set (i := 7) nd rfl (Or.inl rfl) (pe_ix ix_list (pv 6) (pe_c c_law_draw hr (by rfl) (pa_cons (pv 2) (pa_cons pe_int pa_nil))) (fun _ _ => rfl)))
    (pss_cons (ps_setLc (i := 8) (own := [("_law_spot", 9)]) (g := (gName 9))  rfl nd rfl rfl (sw_true rfl rfl rfl (by decide +kernel)) (pi_list (pv 7)) (blkOk_by (N := ["_law_script", "_law_world_here", "_law_tape_here", "_law_job_here", "_law_leans_here", "_law_cell", "_law_rows", "_law_row_here", "_law_wanted", "_law_spot", "_law_many", "_law_slots", "_law_crowd"]) (sc := (defScope s_law)) (by decide +kernel)) (fun _ _ _ _ _ => (pg_name (i := 9) nd rfl (Or.inl rfl))) (fun _ _ _ _ _ => (pts_one (pt_cmpR op_eq (pe_c c_law_draw hr (by rfl) (pa_cons (pv 2) (pa_cons pe_int pa_nil))) pe_int (nomark _)))) (fun _ _ _ _ _ => (pv 9)))
    (pss_cons (ps_set (i := 10) nd rfl (Or.inr rfl) (pe_c c_slots_wanted hr (by rfl) (pa_cons (pv 3) (pa_cons (pv 7) (pa_cons (pv 8) pa_nil)))))
    (pss_cons (ps_set (i := 11) nd rfl (Or.inr rfl) (pe_c c_least_room hr (by rfl) (pa_cons (pv 3) (pa_cons (pv 7) (pa_cons (pv 8) pa_nil)))))
    (pss_cons (ps_if (PW.pt (pw_or (pt_cmpR (op_neD hu) (pe_callB (cr_sortDN rfl hu) (by rfl) (free_sorted T) (by decide +kernel) (pa_cons (pv 11) pa_nil)) (pe_callB (cr_sortSp hu) (by rfl) (free_sorted T) (by decide +kernel) (pa_cons (pv 7) pa_nil)) (nomark _)) (pw_or1 (pt_not (pt_val (pe_c c_law_goes hr (by rfl) (pa_cons (pv 4) (pa_cons (pv 7) (pa_cons (pv 11) (pa_cons (pv 8) pa_nil)))))))))) (pss_one (ps_ret pe_bl)) pss_nil)
    (pss_cons (ps_if (pt_cmpR (op_neD hu) (pe_lc (own := [("_law_spot", 9)]) (g := (gName 9))  rfl nd (pi_list (pv 7)) (blkOk_by (N := ["_law_script", "_law_world_here", "_law_tape_here", "_law_job_here", "_law_leans_here", "_law_cell", "_law_rows", "_law_row_here", "_law_wanted", "_law_spot", "_law_many", "_law_slots", "_law_crowd"]) (sc := (defScope s_law)) (by decide +kernel)) (fun _ _ _ _ _ => (pg_name (i := 9) nd rfl (Or.inl rfl))) (fun _ _ _ _ _ => (pts_one (pt_not (pt_chain op_le op_lt pe_int (pe_ngetK (P := P) (w := w) rfl rfl hu (pv 11) (pv 9) (fun _ _ => rfl)) (pv 10))))) (fun _ _ _ _ _ => (pv 9))) (pe_lstO pa_nil) (nomark _)) (pss_one (ps_ret pe_bl)) pss_nil)
    (pss_cons (ps_if (pt_cmpR (op_eqD hu) (pv 7) (pe_lstO pa_nil) (nomark _)) (pss_one (ps_ret (pe_and (pe_cmpR op_eq (pv 10) pe_int (nomark _)) (pe_one (pe_cmp (pc_isN (pe_c c_crowd_at hr (by rfl) (pa_cons (pv 3) (pa_cons (pv 7) (pa_cons (pv 8) pa_nil)))))))))) pss_nil)
    (pss_cons (ps_set (i := 12) nd rfl (Or.inl rfl) (pe_ix ix_tup (pe_c c_crowd_at hr (by rfl) (pa_cons (pv 3) (pa_cons (pv 7) (pa_cons (pv 8) pa_nil)))) pe_int (fun _ _ => rfl)))
    (pss_cons (ps_if (PW.pt (pw_or (pt_cmpR op_ne (pe_callB cr_lenO (by rfl) (free_len T) PySem.boot_len (pa_cons (pv 12) pa_nil)) (pv 10) (nomark _)) (pw_or1 (pt_not (pt_val (pe_c c_law_crowd_right hr (by rfl) (pa_cons (pv 4) (pa_cons (pv 7) (pa_cons (pv 8) (pa_cons (pv 12) pa_nil)))))))))) (pss_one (ps_ret pe_bl)) pss_nil)
    (pss_one (ps_if (pt_not (pt_val (pe_c c_law_none_goes hr (by rfl) (pa_cons (pv 4) (pa_cons (pv 7) (pa_cons (pv 8) (pa_cons (pe_op op_sub (pv 10) pe_int) (pa_cons (pv 2) pa_nil)))))))) (pss_one (ps_ret pe_bl)) pss_nil))))))))))))))
    (pss_one (ps_ret pe_bl))))))), ?_⟩
  walk_at "go"
  refine ⟨(a, 0), rfl, ns, hscr, fun y0 => ?_⟩
  walk_at "go"
  refine ⟨y0, rfl, fun t0 H1 ht0 s1 tp0 => ?_⟩
  walk_at "go"
  refine ⟨t0, rfl, tp0, fun wv H2 W o hW b2 => ?_⟩
  have SH2 : Same H H2 := s1.but b2 ht0
  walk_at "go"
  refine ⟨(a, 1), rfl, ns, SH2.seq hscr, fun y1 => ?_⟩
  walk_at "go"
  refine ⟨y1, rfl, fun t1 H3 ht1 s3 tp1 => ?_⟩
  walk_at "go"
  refine ⟨(wv, t1), rfl, H2, W, s3, ht1, hW, o, tp1, fun j H4 J s4 hJ jo he hrr hm => ?_⟩
  walk_at "go"
  have hW4 := hW.mono s4
  refine ⟨wv, rfl, W, hW4, o, fun sp H5 hsp s5 hspl => ?_⟩
  obtain ⟨us, eus, pus⟩ := hspl
  have lus : us.length = W.spots.length := prLen pus
  have h30 := spots_few o
  have hW5 := hW4.mono s5
  refine u_iLi (SqL.of eus) ?_
  refine lc_byD (walk_list (xs := us)) (Same H5) (fun D i acc H' => ∃ (ps : List Addr) (kvs : List (Spot × V)), acc = ps.map V.ref ∧ Paired (fun p (kv : Spot × V) => ∃ k, H' p = some (.tup [k, kv.2]) ∧ IsSp H' k kv.1) ps kvs ∧ kvs.map (·.1) = W.spots.take i ∧ ∀ kv ∈ kvs, ∃ la, kv.2 = V.ref la ∧ la ≠ D ∧ SpL H' la (lnL W.es W.tks kv.1)) (small_line (by omega))
    (fun D H1 H2 hD s b => sS hD s b) (Same.refl H5) (fun D H' _ s => ⟨[], [], rfl, .nil, rfl, fun p hp => nomatch hp⟩) (fun D i acc H' _ s _ => SqL.of (s _ _ eus)) ?_ ?_
  · intro D i x acc H7 H6 Rr N put skip hD hi s6 pacc e6 y
    obtain ⟨rfl, hx⟩ := y
    obtain ⟨ps, kvs, rfl, pp, hk, hv⟩ := pacc
    obtain ⟨sq, hsq, hS⟩ := prAt1 pus hx
    have hS6 := hS.mono (TK.of s6)
    refine w_name ⟨rfl, ?_⟩
    walk_at "go"
    refine ⟨(wv, x), rfl, W, sq, hW5.mono s6, o, hS6, (spot_in o (List.mem_of_getElem? hsq)).2.2.1, fun la H7 hla s7 hlal => ?_⟩
    walk_at "go"
    refine u_tupn l2 fun pr H8 hpr s8 e8 => ?_
    refine put _ _ (s8 _ _ (s7 _ _ e6)) (s6.trans (s7.trans s8)) fun H9 b9 t9 s9 => ?_
    have kk := (TK.of (s7.trans s8)).trans t9
    have e68 := s8 _ _ (s7 _ _ e6)
    have nla : la ≠ D := fun z => by rw [z, e6] at hla; cases hla
    have keep : ∀ {l : Addr} {ss : List Spot}, l ≠ D → SpL H8 l ss → SpL H9 l ss := fun n h => h.but b9 t9 n
    refine ⟨ps ++ [pr], kvs ++ [(sq, .ref la)], by rw [List.map_append]; rfl, prApp (prImp (fun p kv z => ?_) pp) (.cons ⟨x, t9 _ _ e8, hS6.mono kk⟩ .nil), by rw [List.map_append, hk, take_succ_of hsq]; rfl, fun y hy => ?_⟩
    · obtain ⟨k', z1, z2⟩ := z
      exact ⟨k', kk _ _ z1, z2.mono kk⟩
    · rcases List.mem_append.mp hy with h | h
      · obtain ⟨l, el, hl0, hl⟩ := hv y h
        exact ⟨l, el, hl0, keep hl0 ((hl.mono s7).mono s8)⟩
      · rw [List.mem_singleton.mp h]
        exact ⟨la, rfl, nla, keep nla (hlal.mono s8)⟩
  intro D acc H6 hD e6 s6 pacc
  obtain ⟨ps, kvs, rfl, pp, hk, hv⟩ := pacc
  have eus' : us.length = W.spots.length := lus
  rw [eus', List.take_length] at hk
  walk_at "go"
  refine ⟨D, kvs, rfl, ⟨ps, e6, pp⟩, fun ld H7 hld s7 D7 => ?_⟩
  rw [merge_app kvs [] (by rw [List.nil_append, hk]; exact spots_nd o), List.nil_append] at D7
  have hln7 : LnD P w H7 ld W.spots (lnL W.es W.tks) := by
    refine ⟨kvs, D7, fun s hs => ?_⟩
    have hsk : s ∈ kvs.map (·.1) := hk ▸ hs
    obtain ⟨kv, hkv, e1, e2⟩ := valV_ex hsk
    obtain ⟨la, el, _, hl⟩ := hv kv hkv
    refine ⟨la, by rw [e2, el], ?_⟩
    rw [← e1]
    exact hl.mono s7
  have hWl : IsWd H7 wv W := hW5.mono (s6.trans s7)
  have hJ7 : IsJob K H7 j J := hJ.mono (s5.trans (s6.trans s7))
  have hscr7 : SqL K H7 a (ns.map V.int) := (SH2.trans (s4.trans (s5.trans (s6.trans s7)))).seq hscr
  walk_at "go"
  refine ⟨(a, 2), rfl, ns, hscr7, fun y2 => ?_⟩
  walk_at "go"
  refine u_lstn l1 fun lc1 H8 hlc1 s8 e8 => ?_
  walk_at "go"
  refine ⟨_, rfl, _, rfl, a, ns.map V.int, rfl, s8.seq hscr7, fun lc2 H9 hlc2 s9 e9 => ?_⟩
  obtain ⟨cs, hcs⟩ := cut_map V.int ns (some 3) (some 5)
  have lcs : cs.length ≤ 63 := by
    have h1 := congrArg List.length hcs
    rw [List.length_map] at h1
    have h2 : (cutV (ns.map V.int) (some 3) (some 5)).length ≤ (ns.map V.int).length := by
      unfold cutV
      rw [List.length_take, List.length_drop]
      omega
    rw [List.length_map] at h2
    omega
  rw [hcs] at e9
  walk_at "go"
  refine u_cat (s9 _ _ e8) e9 (by rw [List.length_map]; exact Nat.le_of_lt (small_line (show 1 + cs.length ≤ 100000 by omega))) fun lc H10 hlc s10 e10 => ?_
  have e10' : H10 lc = some (.lst ((y2 :: cs).map V.int)) := e10
  have s710 := s8.trans (s9.trans s10)
  have hln10 := hln7.same s710
  have hW10 := hWl.mono s710
  have hJ10 := hJ7.mono s710
  have hmln : ∀ s x, x ∈ lnP J.es J.tks s ↔ x ∈ lnL W.es W.tks s := fun s x => by
    rw [he, lnL_mem]
    exact lnP_same hm
  generalize hlnE : lnL W.es W.tks = ln at hln10 hmln
  refine u_iLi (SqL.of e10') ?_
  refine for_by (walk_list (xs := (y2 :: cs).map V.int)) (fun i σ H' => ∃ x2 x5 x6 x7 x8 x9 x10 x11 x12, σ = [some (.ref a), some wv, x2, some (.ref j), some (.ref ld), x5, x6, x7, x8, x9, x10, x11, x12] ∧ Same H10 H')
    ⟨_, _, _, _, _, _, _, _, _, rfl, Same.refl H10⟩ (fun i σ H' _ ⟨_, _, _, _, _, _, _, _, _, _, s⟩ => SqL.of (s _ _ e10')) ?_ ?_
  · rintro i x σ G0' G0 hi ⟨x2, x5, x6, x7, x8, x9, x10, x11, x12, rfl, sg⟩ ⟨rfl, hx⟩
    obtain ⟨cx, hcx, rfl⟩ : ∃ c, (y2 :: cs)[i]? = some c ∧ x = V.int c := by
      rw [List.getElem?_map] at hx
      cases hc : (y2 :: cs)[i]? with
      | none => rw [hc] at hx; cases hx
      | some c => rw [hc] at hx; exact ⟨c, rfl, (Option.some.inj hx).symm⟩
    refine w_name ?_
    walk_at "go"
    refine ⟨cx, rfl, fun t G1 ht g1 tp1' => ?_⟩
    walk_at "go"
    have hW0 := hW10.mono sg
    refine ⟨wv, rfl, W, hW0.mono g1, o, fun l1 G2 hl1 g2 hsp1 => ?_⟩
    walk_at "go"
    obtain ⟨txs, etx⟩ := tp1'.lst
    have nl1 : l1 ≠ t := (ne_of_none etx hl1).symm
    have tp2' := tp1'.same g2
    refine ⟨(wv, t), rfl, G0, W, g1.trans g2, ht, hW0, o, tp2', fun f G3 R1 hf g3 tp3 hR1 rw1 => ?_⟩
    have nf : f ≠ t := (ne_of_none (g2 _ _ etx) hf).symm
    have hsp3 := hsp1.but g3 (tp2'.tk g3) nl1
    walk_at "go"
    refine u_lstn l2 fun rl G4 hrl g4 e4 => ?_
    walk_at "go"
    have tp4 := tp3.same g4
    obtain ⟨txs3, etx3⟩ := tp3.lst
    have nrl : rl ≠ t := (ne_of_none etx3 hrl).symm
    refine call_draw tp4 (by decide) (by decide) fun n G5 n0 n2 g5 k5 f5 tp5 => ?_
    obtain ⟨k, rfl, hk⟩ := nat_of (m := 2) n0 n2
    obtain ⟨r, R, er, hR, rw', nr⟩ : ∃ r R, [V.ref l1, V.ref f][k]? = some (.ref r) ∧ SpL G5 r R ∧ RowW W R ∧ r ≠ t := by
      rcases (show k = 0 ∨ k = 1 by omega) with e | e
      · subst e
        exact ⟨l1, W.spots, rfl, (hsp3.mono g4).but g5 k5 nl1, spots_row o, nl1⟩
      · subst e
        exact ⟨f, R1, rfl, (hR1.mono g4).but g5 k5 nf, rw1, nf⟩
    walk_at "go"
    refine w_ixL (g5 _ _ e4 nrl) er ?_
    walk_at "go"
    have B15 : But t G1 G5 := (((But.of g2).trans g3).same g4).trans g5
    have SG5 : Same G0 G5 := g1.but B15 ht
    have hRn : R.Nodup := rw'.perm.nodup_iff.mpr (spots_nd o)
    have hRl : R.length ≤ 30 := by rw [rw'.perm.length_eq]; exact h30
    have hRW : ∀ s ∈ R, s ∈ W.spots := fun s hs => rw'.perm.mem_iff.mp hs
    obtain ⟨us2, eR, pR⟩ := id hR
    have lu2 : us2.length = R.length := prLen pR
    obtain ⟨txs5, etx5⟩ := tp5.lst
    refine u_iLi (SqL.of eR) ?_
    refine lc_by (walk_list (xs := us2)) (fun H' => But t G5 H' ∧ TapeAt H' t) (fun i acc H' => ∃ Wt : List Spot, Paired (IsSp H') acc Wt ∧ Wt.Sublist (R.take i)) (small_line (by omega))
      (fun D H1 H2 hD s b => ⟨s.1.two b hD, s.2.but b (ne_of_none etx5 hD)⟩) ⟨But.refl t G5, tp5⟩ (fun H' s => ⟨[], .nil, List.nil_sublist _⟩) (fun j acc H' _ s _ => SqL.of (s.1 _ _ eR nr)) ?_ ?_
    · intro D2 i2 x acc G7 G6 Rr N put skip hD2 hi2 sS2 pacc2 eD2 y
      obtain ⟨rfl, hx2⟩ := y
      obtain ⟨b6, tp6⟩ := sS2
      obtain ⟨Wt, pW, hWs⟩ := pacc2
      obtain ⟨sp2, hsp2, hS2⟩ := prAt1 pR hx2
      have nD2 : D2 ≠ t := (ne_of_none etx5 hD2).symm
      have hS6 := hS2.mono (tp5.tk b6)
      refine w_name ⟨rfl, ?_⟩
      walk_at "go"
      refine call_draw tp6 (by decide) (by decide) fun n3 G7 n30 n33 b7 k7 f7 tp7 => ?_
      have htk : R.take (i2 + 1) = R.take i2 ++ [sp2] := take_succ_of hsp2
      walk_at "go"
      refine u_y2 (fun c => ?_) fun c => ?_
      · walk_at "go"
        refine put _ _ (b7 _ _ eD2 nD2) ⟨b6.trans b7, tp7⟩ fun G8 b8 t8 s8' => ?_
        exact ⟨Wt ++ [sp2], prApp (sps_mono (k7.trans t8) pW) (.cons (hS6.mono (k7.trans t8)) .nil), htk ▸ hWs.append (List.Sublist.refl _)⟩
      · refine skip _ (b7 _ _ eD2 nD2) ⟨b6.trans b7, tp7⟩ ?_
        exact ⟨Wt, sps_mono k7 pW, hWs.trans (htk ▸ List.sublist_append_left _ _)⟩
    intro D2 acc G6 hD2 eD2 sS2 pacc2
    obtain ⟨b6, tp6⟩ := sS2
    obtain ⟨Wt, pW, hWs⟩ := pacc2
    rw [lu2, List.take_length] at hWs
    have nD2 : D2 ≠ t := (ne_of_none etx5 hD2).symm
    have SG6 : Same G0 G6 := g1.but (B15.trans b6) ht
    have hR6 : SpL G6 r R := hR.but b6 (tp5.tk b6) nr
    have hWt6 : SpL G6 D2 Wt := ⟨acc, eD2, pW⟩
    have hwt : ∀ s ∈ Wt, s ∈ R := fun s hs => hWs.subset hs
    have hwl : Wt.length ≤ 30 := Nat.le_trans hWs.length_le hRl
    have wo : WtOk R Wt := ⟨hWs.nodup hRn, hwt, by omega⟩
    have htop : ∀ (i : Nat) (s : Spot), R[i]? = some s → ∀ x ∈ ln s, x ∈ R.take i := fun i s h x hx => rw'.topo i s h x (by rw [← hlnE] at hx; exact (lnL_mem _ _ _ _).mp hx)
    have cx : Ctx ln R Wt := ⟨hRn, htop, hwt⟩
    have hin : ∀ s ∈ R, ∀ y ∈ ln s, y ∈ R := fun s hs y hy => List.mem_of_mem_take (htop _ s (at_idx hs) y hy)
    have hEO : EOf J R Wt = endsF ln R Wt := ends_congr hmln
    have pre : RmPre K G6 (j, r, D2) J R Wt := ⟨hJ10.mono (sg.trans SG6), jo, hR6, hWt6, rowOk_of o he hrr hm rw', wo⟩
    have hln6 : LnD P w G0 ld R ln := by
      obtain ⟨q1, q2, q3⟩ := hln10.same sg
      exact ⟨q1, q2, fun s hs => q3 s (hRW s hs)⟩
    walk_at "go"
    refine call_slots pre fun G7 g7 => ?_
    rw [hEO]
    walk_at "go"
    refine ⟨(j, r, D2), rfl, J, R, Wt, pre.mono g7, fun sd G8 hsd g8 D8 => ?_⟩
    rw [hEO] at D8
    walk_at "go"
    refine ⟨sd, _, rfl, D8, fun p1 G9 hp1 g9 q9 => ?_⟩
    rw [slV_keys, lrS_keys] at q9
    walk_at "go"
    have g69 := g7.trans (g8.trans g9)
    refine ⟨r, R, rfl, hR6.mono g69, fun p2 G10 hp2 g10 q10 => ?_⟩
    refine g_neSps (q9.mono g10) q10 ?_
    have g610 := g69.trans g10
    walk_at "go"
    have hsl10 : SlD P w G10 sd R (fun s => (sf (endsF ln R Wt) R s : Nat)) := ⟨_, D8.same (g9.trans g10), fun s hs => slV_val hs⟩
    refine ⟨(ld, r, sd, D2), rfl, ln, _, R, Wt, hln6.same (SG6.trans g610), hR6.mono g610, hsl10, hWt6.mono g610, hin, hwt, by omega, by omega, fun b G11 g11 hb => ?_⟩
    rw [hb.mpr (least_goes cx)]
    walk_at "go"
    obtain ⟨us3, eR11, pR11⟩ := id ((hR6.mono g610).mono g11)
    have lu3 : us3.length = R.length := prLen pR11
    have D11 := D8.same (g9.trans (g10.trans g11))
    refine u_iLi (SqL.of eR11) ?_
    refine lc_by (walk_list (xs := us3)) (Same G11) (fun i acc H' => acc = []) (small_line (by omega)) (fun D H1 H2 hD s b => sS hD s b) (Same.refl G11) (fun H' s => rfl) (fun i acc H' _ s _ => SqL.of (s _ _ eR11)) ?_ ?_
    · intro D3 i3 x acc3 G13 G12 Rr N put skip hD3 hi3 g12 pacc3 eD3 y
      obtain ⟨rfl, hx3⟩ := y
      obtain ⟨sp3, hsp3', hS3⟩ := prAt1 pR11 hx3
      have hS12 := hS3.mono (TK.of g12)
      have hspR : sp3 ∈ R := List.mem_of_getElem? hsp3'
      have hlt := sf_lt (E := endsF ln R Wt) hRn hspR
      refine w_name ⟨rfl, ?_⟩
      walk_at "go"
      refine u_ngeti (D11.same g12) hS12 (slV_val hspR) ?_
      walk_at "go"
      refine u_chT (decide_eq_true (Int.natCast_nonneg _)) ?_
      walk_at "go"
      have hd : decide (((sf (endsF ln R Wt) R sp3 : Nat) : Int) < ((slotsN (endsF ln R Wt) R : Nat) : Int)) = true := decide_eq_true (by omega)
      rw [hd]
      walk_at "go"
      exact skip _ eD3 g12 pacc3
    intro D3 acc3 G12 hD3 eD3 g12 pacc3
    subst pacc3
    walk_at "go"
    refine u_lstn l0 fun nl3 G13 hnl3 g13 e13 => ?_
    refine g_neNil (ds := []) (g13 _ _ eD3) .nil (by decide) e13 ?_
    walk_at "go"
    refine u_ifF rfl ?_
    walk_at "go"
    have g613 := g610.trans (g11.trans (g12.trans g13))
    refine u_lstn l0 fun nl4 G14 hnl4 g14 e14 => ?_
    have g614 := g613.trans g14
    have hR14 := hR6.mono g614
    have pre14 := pre.mono g614
    obtain ⟨us4, eR14, pR14⟩ := id hR14
    refine g_eqNil eR14 (dpSps pR14) (shSps R) e14 ?_
    walk_at "go"
    by_cases hRe : R = []
    · have hb : (R.map spD).isEmpty = true := by rw [hRe]; rfl
      rw [hb]
      have hz : slotsN (endsF ln R Wt) R = 0 := by rw [hRe]; rfl
      rw [hz]
      walk_at "go"
      refine u_andVT (decide_eq_true rfl) ?_
      walk_at "go"
      refine call_crowd0 pre14 hRe fun G15 g15 => ?_
      walk_at "go"
      exact q _
    have hb : (R.map spD).isEmpty = false := by
      cases hRR : R with
      | nil => exact absurd hRR hRe
      | cons z L0 => rfl
    rw [hb]
    walk_at "go"
    refine call_crowd pre14 hRe fun G15 cp cy cl C g15 ecp hC hbest => ?_
    rw [hEO] at hbest
    have bst := best_of cx hRe hbest
    walk_at "go"
    refine w_ixT (n := 1) ecp rfl ?_
    walk_at "go"
    obtain ⟨cv, ecl, pC⟩ := id hC
    refine u_lenL ecl ?_
    walk_at "go"
    have lC : cv.length = slotsN (endsF ln R Wt) R := by rw [prLen pC, bst.len]
    rw [lC]
    walk_at "go"
    refine u_orF (by simp) ?_
    walk_at "go"
    have g615 := g614.trans g15
    obtain ⟨z0, hz0⟩ := List.exists_mem_of_ne_nil R hRe
    have hpos := sf_lt (E := endsF ln R Wt) hRn hz0
    have hC0 : C ≠ [] := fun e => by
      have := bst.len
      rw [e] at this
      simp at this
      omega
    refine ⟨(ld, r, D2, cl), rfl, W, ln, R, Wt, C, hln6.same (SG6.trans g615), hR6.mono g615, hWt6.mono g615, hC, o, hRn, hRW, hin, hwt, by omega, bst.nd, hC0, bst.sub, fun x y hx hy hne => together_wrong bst hx hy hne, fun G16 g16 => ?_⟩
    walk_at "go"
    have hm1 : ((slotsN (endsF ln R Wt) R : Nat) : Int) - 1 = ((slotsN (endsF ln R Wt) R - 1 : Nat) : Int) := by omega
    have hsm : slotsN (endsF ln R Wt) R ≤ 1000 := Nat.le_trans (lr_len (endsF ln R Wt) R R.length) (by omega)
    have g616 := g615.trans g16
    have hbl := bst.len
    refine ⟨(ld, r, D2, slotsN (endsF ln R Wt) R - 1, t), congrArg (fun z => [V.ref ld, .ref r, .ref D2, V.int z, .ref t]) hm1, G0, W, ln, R, Wt, SG6.trans g616, ht, hln6, hR6.mono g616, nr, hWt6.mono g616, nD2, tp6.same g616, o, hRn, hRW, hin, hwt, by omega, by show slotsN (endsF ln R Wt) R - 1 ≤ 1000; omega, fun f hf hm0 => none_fewer bst (by show slotsN (endsF ln R Wt) R - 1 + 1 = C.length; omega) hf, fun G17 b17 tp17 => ?_⟩
    walk_at "go"
    exact ⟨_, _, _, _, _, _, _, _, _, rfl, sg.trans ((SG6.trans g616).but b17 ht)⟩
  · rintro σ H11 ⟨x2, x5, x6, x7, x8, x9, x10, x11, x12, rfl, sg⟩
    walk_at "go"
    exact q _
theorem law_binds (T : Txt K mg) (s : Shared) (v : Value) : BindsTo s (fdA K ("law", none)) ⟨[v], []⟩ [("_law_script", v)] := by
  obtain ⟨oc, od, kV, doc, pm, an, cdv, ct, osl, e1, e2, e3⟩ := (F_law T).ex
  rw [e1]
  exact .of_eq rfl
end
end SL
end PtD22
/-! part E1 -/
section PtE1
open PySem PySem.W PySem.Calls PyProof.Rows
theorem PySem.Challenge.cw_slanttiles_k68_whole_none_does_with_fewe_holds : PySem.Challenge.rw_slanttiles_k68_whole_none_does_with_fewe.Holds := by
  w_on; o_law
  refine HandSHeadRun.head_any (r := OpenLaw.row PySem.Challenge.rw_slanttiles_k68_whole_none_does_with_fewe) (q := view (OpenLaw.row PySem.Challenge.rw_slanttiles_k68_whole_none_does_with_fewe).prog [SL.lawAt]) (H := SL.hk) (ob := SL.ob) (M := 20000) (loose := SL.names) (d := HandSHeadRun.topDef (OpenLaw.row PySem.Challenge.rw_slanttiles_k68_whole_none_does_with_fewe).prog SL.lawAt) (kwd := []) SL.ob_eq
    (by kernel_rfl) (fun s => by kernel_rfl) SL.run (by kernel_rfl) (by kernel_rfl) (by kernel_rfl) (by rfl) (by first | assumption | decide +kernel) (by decide +kernel) ⟨rfl, rfl, rfl, rfl, rfl, by decide +kernel⟩ ?hw ?hc
  case hw => w_witness2
  case hc =>
    refine L2.walk_ofE (l := PySem.Challenge.rw_slanttiles_k68_whole_none_does_with_fewe) (n := 63) (k := 21) (x := "_law_script") (CX := L2.CX0) rfl (by decide) (by kernel_rfl) ⟨rfl, by decide, by decide⟩ ?F (fun _ _ _ _ z => z)
    intro w mg fa h Y G hmg0
    obtain ⟨K, KX, c, x⟩ := Y
    have T : SL.Txt K mg := ⟨h, KX, G, c, x⟩
    have hmg : mg ("law" : PySem.Str) = some (.ref fa) := by
      have e : (HandSHeadRun.topDef (OpenLaw.row PySem.Challenge.rw_slanttiles_k68_whole_none_does_with_fewe).prog SL.lawAt).name = ("law" : PySem.Str) := by kernel_rfl
      rw [← e]
      exact hmg0
    have ef := hmg.symm.trans (SL.glo_law T)
    cases ef
    exact ⟨K, SL.fdA K ("law", none), SL.spLaw K, KX, fun s v => SL.law_binds T s v, fun H a ns hl _ hS => ⟨a, ns, rfl, hS, hl, fun _ => rfl⟩, fun base _ _ => SL.ok_law T⟩
end PtE1
