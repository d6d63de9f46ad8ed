import PyProof.Rows.All
import Wide.All
import OpenK.AllK
import Wide.FinOn
import Lean
import HandS.ForMost
import HandS.Defaults
import HandS.IsInst
import HandS.Conv
import HandS.Codes
import HandS.Deep
import HandS.SetKeys
import HandS.Strs
import HandS.TupLen
import HandS.SortKw
import HandS.TupLe
import HandS.Rev
import HandS.Evl
import HandS.StrMore
import HandS.Walk
import HandS.Nested
import HandS.NestedK
import KE.DataMinMax
import KE.SortKeyHeap
import HandS.Replace
import HandS.RevTup
import KE.GoesEnum
import HandS.Lambda
import HandS.FromBytesMap
import KE.KStateDown
import HandS.Exc
import HandS.WordsExc
import HandS.Head0
import HandS.Head1
import HandS.Head2
import HandS.HeadEnd
import HandS.HeadHook1
import HandS.HeadHook2
import HandS.HeadHook3
import HandS.HeadHook4
import HandS.HeadWalk
import PySem.Challenge.RW_quarterfold_k69_whole_long_parts
set_option Elab.async false
set_option linter.all false
set_option maxRecDepth 100000
set_option maxHeartbeats 0
namespace Qf
open PySem PySem.Spec PyProof.Rows L2
def top (i : Nat) : Stmt := PySem.Challenge.pw_quarterfold_k69_whole_long_parts.main.body.getD i (.Pass ⟨0, 0, 0, 0⟩)
abbrev s_is_whole : Stmt := top 12
abbrev N_is_whole : List Str := ["thing"]
abbrev ps_is_whole : List Str := ["thing"]
theorem sc_is_whole : FnScope N_is_whole ps_is_whole (defScope s_is_whole) := ⟨rfl, rfl, rfl, by decide +kernel, rfl, by decide +kernel, by decide +kernel⟩
abbrev s_is_size : Stmt := top 13
abbrev N_is_size : List Str := ["thing"]
abbrev ps_is_size : List Str := ["thing"]
theorem sc_is_size : FnScope N_is_size ps_is_size (defScope s_is_size) := ⟨rfl, rfl, rfl, by decide +kernel, rfl, by decide +kernel, by decide +kernel⟩
abbrev s_is_address : Stmt := top 14
abbrev N_is_address : List Str := ["n", "thing", "figure"]
abbrev ps_is_address : List Str := ["n", "thing"]
theorem sc_is_address : FnScope N_is_address ps_is_address (defScope s_is_address) := ⟨rfl, rfl, rfl, by decide +kernel, rfl, by decide +kernel, by decide +kernel⟩
abbrev s_is_cell : Stmt := top 15
abbrev N_is_cell : List Str := ["n", "row", "column", "side"]
abbrev ps_is_cell : List Str := ["n", "row", "column"]
theorem sc_is_cell : FnScope N_is_cell ps_is_cell (defScope s_is_cell) := ⟨rfl, rfl, rfl, by decide +kernel, rfl, by decide +kernel, by decide +kernel⟩
abbrev s_want_size : Stmt := top 16
abbrev N_want_size : List Str := ["n"]
abbrev ps_want_size : List Str := ["n"]
theorem sc_want_size : FnScope N_want_size ps_want_size (defScope s_want_size) := ⟨rfl, rfl, rfl, by decide +kernel, rfl, by decide +kernel, by decide +kernel⟩
abbrev s_want_address : Stmt := top 17
abbrev N_want_address : List Str := ["n", "address"]
abbrev ps_want_address : List Str := ["n", "address"]
theorem sc_want_address : FnScope N_want_address ps_want_address (defScope s_want_address) := ⟨rfl, rfl, rfl, by decide +kernel, rfl, by decide +kernel, by decide +kernel⟩
abbrev s_want_cell : Stmt := top 18
abbrev N_want_cell : List Str := ["n", "row", "column"]
abbrev ps_want_cell : List Str := ["n", "row", "column"]
theorem sc_want_cell : FnScope N_want_cell ps_want_cell (defScope s_want_cell) := ⟨rfl, rfl, rfl, by decide +kernel, rfl, by decide +kernel, by decide +kernel⟩
abbrev s_box_of : Stmt := top 19
abbrev N_box_of : List Str := ["n", "address", "row", "column", "side", "figure", "quarter"]
abbrev ps_box_of : List Str := ["n", "address"]
theorem sc_box_of : FnScope N_box_of ps_box_of (defScope s_box_of) := ⟨rfl, rfl, rfl, by decide +kernel, rfl, by decide +kernel, by decide +kernel⟩
abbrev s_Rows___init__ : Stmt := inClass (top 21) 0
abbrev N_Rows___init__ : List Str := ["self"]
abbrev ps_Rows___init__ : List Str := ["self"]
theorem sc_Rows___init__ : FnScope N_Rows___init__ ps_Rows___init__ (defScope s_Rows___init__) := ⟨rfl, rfl, rfl, by decide +kernel, rfl, by decide +kernel, by decide +kernel⟩
abbrev s_Rows_number : Stmt := inClass (top 21) 1
abbrev N_Rows_number : List Str := ["self", "quarters"]
abbrev ps_Rows_number : List Str := ["self", "quarters"]
theorem sc_Rows_number : FnScope N_Rows_number ps_Rows_number (defScope s_Rows_number) := ⟨rfl, rfl, rfl, by decide +kernel, rfl, by decide +kernel, by decide +kernel⟩
abbrev s_Rows_quarters : Stmt := inClass (top 21) 2
abbrev N_Rows_quarters : List Str := ["self", "number"]
abbrev ps_Rows_quarters : List Str := ["self", "number"]
theorem sc_Rows_quarters : FnScope N_Rows_quarters ps_Rows_quarters (defScope s_Rows_quarters) := ⟨rfl, rfl, rfl, by decide +kernel, rfl, by decide +kernel, by decide +kernel⟩
abbrev s_Rows_take : Stmt := inClass (top 21) 3
abbrev N_Rows_take : List Str := ["self", "telling", "n", "top", "rows", "here", "row", "number"]
abbrev ps_Rows_take : List Str := ["self", "telling"]
theorem sc_Rows_take : FnScope N_Rows_take ps_Rows_take (defScope s_Rows_take) := ⟨rfl, rfl, rfl, by decide +kernel, rfl, by decide +kernel, by decide +kernel⟩
abbrev s_Rows_order : Stmt := inClass (top 21) 4
abbrev N_Rows_order : List Str := ["self", "number", "found", "quarter"]
abbrev ps_Rows_order : List Str := ["self", "number", "found"]
theorem sc_Rows_order : FnScope N_Rows_order ps_Rows_order (defScope s_Rows_order) := ⟨rfl, rfl, rfl, by decide +kernel, rfl, by decide +kernel, by decide +kernel⟩
abbrev s_Rows_shape : Stmt := inClass (top 21) 5
abbrev N_Rows_shape : List Str := ["self", "n", "top", "new", "rows", "number", "quarter"]
abbrev ps_Rows_shape : List Str := ["self", "n", "top"]
theorem sc_Rows_shape : FnScope N_Rows_shape ps_Rows_shape (defScope s_Rows_shape) := ⟨rfl, rfl, rfl, by decide +kernel, rfl, by decide +kernel, by decide +kernel⟩
abbrev s_one_of : Stmt := top 22
abbrev N_one_of : List Str := ["telling", "rows", "top"]
abbrev ps_one_of : List Str := ["telling"]
theorem sc_one_of : FnScope N_one_of ps_one_of (defScope s_one_of) := ⟨rfl, rfl, rfl, by decide +kernel, rfl, by decide +kernel, by decide +kernel⟩
abbrev s_is_number : Stmt := top 24
abbrev N_is_number : List Str := ["thing", "most"]
abbrev ps_is_number : List Str := ["thing", "most"]
theorem sc_is_number : FnScope N_is_number ps_is_number (defScope s_is_number) := ⟨rfl, rfl, rfl, by decide +kernel, rfl, by decide +kernel, by decide +kernel⟩
abbrev s_is_row : Stmt := top 25
abbrev N_is_row : List Str := ["thing", "place", "one"]
abbrev ps_is_row : List Str := ["thing", "place"]
theorem sc_is_row : FnScope N_is_row ps_is_row (defScope s_is_row) := ⟨rfl, rfl, rfl, by decide +kernel, rfl, by decide +kernel, by decide +kernel⟩
abbrev s_depths_of : Stmt := top 26
abbrev N_depths_of : List Str := ["rows", "found", "row", "number"]
abbrev ps_depths_of : List Str := ["rows"]
theorem sc_depths_of : FnScope N_depths_of ps_depths_of (defScope s_depths_of) := ⟨rfl, rfl, rfl, by decide +kernel, rfl, by decide +kernel, by decide +kernel⟩
abbrev s_is_telling : Stmt := top 27
abbrev N_is_telling : List Str := ["thing", "n", "top", "rows", "place", "row"]
abbrev ps_is_telling : List Str := ["thing"]
theorem sc_is_telling : FnScope N_is_telling ps_is_telling (defScope s_is_telling) := ⟨rfl, rfl, rfl, by decide +kernel, rfl, by decide +kernel, by decide +kernel⟩
abbrev s_is_shape : Stmt := top 28
abbrev N_is_shape : List Str := ["thing"]
abbrev ps_is_shape : List Str := ["thing"]
theorem sc_is_shape : FnScope N_is_shape ps_is_shape (defScope s_is_shape) := ⟨rfl, rfl, rfl, by decide +kernel, rfl, by decide +kernel, by decide +kernel⟩
abbrev s_want_shape : Stmt := top 29
abbrev N_want_shape : List Str := ["thing"]
abbrev ps_want_shape : List Str := ["thing"]
theorem sc_want_shape : FnScope N_want_shape ps_want_shape (defScope s_want_shape) := ⟨rfl, rfl, rfl, by decide +kernel, rfl, by decide +kernel, by decide +kernel⟩
abbrev s_many_in : Stmt := top 32
abbrev N_many_in : List Str := ["shape", "n", "top", "rows", "found", "row", "number"]
abbrev ps_many_in : List Str := ["shape"]
theorem sc_many_in : FnScope N_many_in ps_many_in (defScope s_many_in) := ⟨rfl, rfl, rfl, by decide +kernel, rfl, by decide +kernel, by decide +kernel⟩
abbrev s_want_coarse : Stmt := top 33
abbrev N_want_coarse : List Str := ["shape"]
abbrev ps_want_coarse : List Str := ["shape"]
theorem sc_want_coarse : FnScope N_want_coarse ps_want_coarse (defScope s_want_coarse) := ⟨rfl, rfl, rfl, by decide +kernel, rfl, by decide +kernel, by decide +kernel⟩
abbrev s_leaves_of : Stmt := top 34
abbrev N_leaves_of : List Str := ["shape", "n", "top", "rows", "found", "waiting", "address", "number", "place"]
abbrev ps_leaves_of : List Str := ["shape"]
theorem sc_leaves_of : FnScope N_leaves_of ps_leaves_of (defScope s_leaves_of) := ⟨rfl, rfl, rfl, by decide +kernel, rfl, by decide +kernel, by decide +kernel⟩
abbrev s_want_way : Stmt := top 38
abbrev N_want_way : List Str := ["by"]
abbrev ps_want_way : List Str := ["by"]
theorem sc_want_way : FnScope N_want_way ps_want_way (defScope s_want_way) := ⟨rfl, rfl, rfl, by decide +kernel, rfl, by decide +kernel, by decide +kernel⟩
abbrev s_other_way : Stmt := top 40
abbrev N_other_way : List Str := ["by"]
abbrev ps_other_way : List Str := ["by"]
theorem sc_other_way : FnScope N_other_way ps_other_way (defScope s_other_way) := ⟨rfl, rfl, rfl, by decide +kernel, rfl, by decide +kernel, by decide +kernel⟩
abbrev s_Leaves___init__ : Stmt := inClass (top 41) 0
abbrev N_Leaves___init__ : List Str := ["self", "shape", "address", "truth", "box"]
abbrev ps_Leaves___init__ : List Str := ["self", "shape"]
theorem sc_Leaves___init__ : FnScope N_Leaves___init__ ps_Leaves___init__ (defScope s_Leaves___init__) := ⟨rfl, rfl, rfl, by decide +kernel, rfl, by decide +kernel, by decide +kernel⟩
abbrev s_Leaves_is_on : Stmt := inClass (top 41) 1
abbrev N_Leaves_is_on : List Str := ["self", "row", "column", "side"]
abbrev ps_Leaves_is_on : List Str := ["self", "row", "column"]
theorem sc_Leaves_is_on : FnScope N_Leaves_is_on ps_Leaves_is_on (defScope s_Leaves_is_on) := ⟨rfl, rfl, rfl, by decide +kernel, rfl, by decide +kernel, by decide +kernel⟩
abbrev s_Leaves_number_at : Stmt := inClass (top 41) 2
abbrev N_Leaves_number_at : List Str := ["self", "row", "column", "k", "box"]
abbrev ps_Leaves_number_at : List Str := ["self", "row", "column"]
theorem sc_Leaves_number_at : FnScope N_Leaves_number_at ps_Leaves_number_at (defScope s_Leaves_number_at) := ⟨rfl, rfl, rfl, by decide +kernel, rfl, by decide +kernel, by decide +kernel⟩
abbrev s_Leaves_on_right : Stmt := inClass (top 41) 3
abbrev N_Leaves_on_right : List Str := ["self", "k", "row", "column", "side", "found", "here", "other"]
abbrev ps_Leaves_on_right : List Str := ["self", "k"]
theorem sc_Leaves_on_right : FnScope N_Leaves_on_right ps_Leaves_on_right (defScope s_Leaves_on_right) := ⟨rfl, rfl, rfl, by decide +kernel, rfl, by decide +kernel, by decide +kernel⟩
abbrev s_Leaves_below : Stmt := inClass (top 41) 4
abbrev N_Leaves_below : List Str := ["self", "k", "row", "column", "side", "found", "here", "other"]
abbrev ps_Leaves_below : List Str := ["self", "k"]
theorem sc_Leaves_below : FnScope N_Leaves_below ps_Leaves_below (defScope s_Leaves_below) := ⟨rfl, rfl, rfl, by decide +kernel, rfl, by decide +kernel, by decide +kernel⟩
abbrev s_Leaves_at_corners : Stmt := inClass (top 41) 5
abbrev N_Leaves_at_corners : List Str := ["self", "k", "row", "column", "side", "some", "one", "other"]
abbrev ps_Leaves_at_corners : List Str := ["self", "k"]
theorem sc_Leaves_at_corners : FnScope N_Leaves_at_corners ps_Leaves_at_corners (defScope s_Leaves_at_corners) := ⟨rfl, rfl, rfl, by decide +kernel, rfl, by decide +kernel, by decide +kernel⟩
abbrev s_Leaves_links : Stmt := inClass (top 41) 6
abbrev N_Leaves_links : List Str := ["self", "truth", "by", "found", "box", "k", "own", "some", "other"]
abbrev ps_Leaves_links : List Str := ["self", "truth", "by"]
theorem sc_Leaves_links : FnScope N_Leaves_links ps_Leaves_links (defScope s_Leaves_links) := ⟨rfl, rfl, rfl, by decide +kernel, rfl, by decide +kernel, by decide +kernel⟩
abbrev s_Leaves_groups : Stmt := inClass (top 41) 7
abbrev N_Leaves_groups : List Str := ["self", "truth", "by", "links", "seen", "found", "k", "own"]
abbrev ps_Leaves_groups : List Str := ["self", "truth", "by"]
theorem sc_Leaves_groups : FnScope N_Leaves_groups ps_Leaves_groups (defScope s_Leaves_groups) := ⟨rfl, rfl, rfl, by decide +kernel, rfl, by decide +kernel, by decide +kernel⟩
abbrev s_Leaves_first_cell : Stmt := inClass (top 41) 8
abbrev N_Leaves_first_cell : List Str := ["self", "group", "k"]
abbrev ps_Leaves_first_cell : List Str := ["self", "group"]
theorem sc_Leaves_first_cell : FnScope N_Leaves_first_cell ps_Leaves_first_cell (defScope s_Leaves_first_cell) := ⟨rfl, rfl, rfl, by decide +kernel, rfl, by decide +kernel, by decide +kernel⟩
abbrev s_Leaves_is_at_edge : Stmt := inClass (top 41) 9
abbrev N_Leaves_is_at_edge : List Str := ["self", "group", "side", "k", "row", "column", "own"]
abbrev ps_Leaves_is_at_edge : List Str := ["self", "group"]
theorem sc_Leaves_is_at_edge : FnScope N_Leaves_is_at_edge ps_Leaves_is_at_edge (defScope s_Leaves_is_at_edge) := ⟨rfl, rfl, rfl, by decide +kernel, rfl, by decide +kernel, by decide +kernel⟩
abbrev s_Leaves_parts : Stmt := inClass (top 41) 10
abbrev N_Leaves_parts : List Str := ["self", "by"]
abbrev ps_Leaves_parts : List Str := ["self", "by"]
theorem sc_Leaves_parts : FnScope N_Leaves_parts ps_Leaves_parts (defScope s_Leaves_parts) := ⟨rfl, rfl, rfl, by decide +kernel, rfl, by decide +kernel, by decide +kernel⟩
abbrev s_Leaves_holes : Stmt := inClass (top 41) 11
abbrev N_Leaves_holes : List Str := ["self", "by", "group"]
abbrev ps_Leaves_holes : List Str := ["self", "by"]
theorem sc_Leaves_holes : FnScope N_Leaves_holes ps_Leaves_holes (defScope s_Leaves_holes) := ⟨rfl, rfl, rfl, by decide +kernel, rfl, by decide +kernel, by decide +kernel⟩
abbrev s_Leaves_shape_of : Stmt := inClass (top 41) 12
abbrev N_Leaves_shape_of : List Str := ["self", "group", "rows", "here", "k", "size", "above", "address", "quarters"]
abbrev ps_Leaves_shape_of : List Str := ["self", "group"]
theorem sc_Leaves_shape_of : FnScope N_Leaves_shape_of ps_Leaves_shape_of (defScope s_Leaves_shape_of) := ⟨rfl, rfl, rfl, by decide +kernel, rfl, by decide +kernel, by decide +kernel⟩
abbrev s_reached : Stmt := top 42
abbrev N_reached : List Str := ["links", "first", "seen", "found", "waiting", "here", "other"]
abbrev ps_reached : List Str := ["links", "first", "seen"]
theorem sc_reached : FnScope N_reached ps_reached (defScope s_reached) := ⟨rfl, rfl, rfl, by decide +kernel, rfl, by decide +kernel, by decide +kernel⟩
abbrev s_leaves_for : Stmt := top 44
abbrev N_leaves_for : List Str := ["shape", "by"]
abbrev ps_leaves_for : List Str := ["shape", "by"]
theorem sc_leaves_for : FnScope N_leaves_for ps_leaves_for (defScope s_leaves_for) := ⟨rfl, rfl, rfl, by decide +kernel, rfl, by decide +kernel, by decide +kernel⟩
abbrev s_parts_of : Stmt := top 45
abbrev N_parts_of : List Str := ["shape", "by", "leaves", "group"]
abbrev ps_parts_of : List Str := ["shape", "by"]
theorem sc_parts_of : FnScope N_parts_of ps_parts_of (defScope s_parts_of) := ⟨rfl, rfl, rfl, by decide +kernel, rfl, by decide +kernel, by decide +kernel⟩
abbrev s_holes_of : Stmt := top 46
abbrev N_holes_of : List Str := ["shape", "by", "leaves", "group"]
abbrev ps_holes_of : List Str := ["shape", "by"]
theorem sc_holes_of : FnScope N_holes_of ps_holes_of (defScope s_holes_of) := ⟨rfl, rfl, rfl, by decide +kernel, rfl, by decide +kernel, by decide +kernel⟩
abbrev s_owners : Stmt := top 47
abbrev N_owners : List Str := ["groups", "found", "number", "group", "k"]
abbrev ps_owners : List Str := ["groups"]
theorem sc_owners : FnScope N_owners ps_owners (defScope s_owners) := ⟨rfl, rfl, rfl, by decide +kernel, rfl, by decide +kernel, by decide +kernel⟩
abbrev s_owner_left : Stmt := top 48
abbrev N_owner_left : List Str := ["leaves", "group", "others", "row", "column"]
abbrev ps_owner_left : List Str := ["leaves", "group", "others"]
theorem sc_owner_left : FnScope N_owner_left ps_owner_left (defScope s_owner_left) := ⟨rfl, rfl, rfl, by decide +kernel, rfl, by decide +kernel, by decide +kernel⟩
abbrev s_nest : Stmt := top 49
abbrev N_nest : List Str := ["shape", "by", "leaves", "parts", "holes", "by_holes", "by_parts", "above", "group"]
abbrev ps_nest : List Str := ["shape", "by"]
theorem sc_nest : FnScope N_nest ps_nest (defScope s_nest) := ⟨rfl, rfl, rfl, by decide +kernel, rfl, by decide +kernel, by decide +kernel⟩
abbrev s_full_leaf : Stmt := top 51
abbrev N_full_leaf : List Str := ["leaves", "cell", "number"]
abbrev ps_full_leaf : List Str := ["leaves", "cell"]
theorem sc_full_leaf : FnScope N_full_leaf ps_full_leaf (defScope s_full_leaf) := ⟨rfl, rfl, rfl, by decide +kernel, rfl, by decide +kernel, by decide +kernel⟩
abbrev s_steps_from : Stmt := top 52
abbrev N_steps_from : List Str := ["links", "first", "found", "last", "more", "here", "other"]
abbrev ps_steps_from : List Str := ["links", "first"]
theorem sc_steps_from : FnScope N_steps_from ps_steps_from (defScope s_steps_from) := ⟨rfl, rfl, rfl, by decide +kernel, rfl, by decide +kernel, by decide +kernel⟩
abbrev s_chain : Stmt := top 53
abbrev N_chain : List Str := ["shape", "by", "cell", "other_cell", "leaves", "one", "first", "last", "ahead", "found", "here"]
abbrev ps_chain : List Str := ["shape", "by", "cell", "other_cell"]
theorem sc_chain : FnScope N_chain ps_chain (defScope s_chain) := ⟨rfl, rfl, rfl, by decide +kernel, rfl, by decide +kernel, by decide +kernel⟩
abbrev s_want_cell_of : Stmt := top 54
abbrev N_want_cell_of : List Str := ["n", "cell", "row", "column"]
abbrev ps_want_cell_of : List Str := ["n", "cell"]
theorem sc_want_cell_of : FnScope N_want_cell_of ps_want_cell_of (defScope s_want_cell_of) := ⟨rfl, rfl, rfl, by decide +kernel, rfl, by decide +kernel, by decide +kernel⟩
abbrev s__law_pot : Stmt := top 56
abbrev N__law_pot : List Str := ["_law_script", "_law_k", "_law_cell"]
abbrev ps__law_pot : List Str := ["_law_script", "_law_k"]
theorem sc__law_pot : FnScope N__law_pot ps__law_pot (defScope s__law_pot) := ⟨rfl, rfl, rfl, by decide +kernel, rfl, by decide +kernel, by decide +kernel⟩
abbrev s__law_digit : Stmt := top 57
abbrev N__law_digit : List Str := ["_law_pot_here", "_law_many", "_law_digit_here"]
abbrev ps__law_digit : List Str := ["_law_pot_here", "_law_many"]
theorem sc__law_digit : FnScope N__law_digit ps__law_digit (defScope s__law_digit) := ⟨rfl, rfl, rfl, by decide +kernel, rfl, by decide +kernel, by decide +kernel⟩
abbrev s__law_meets : Stmt := top 58
abbrev N__law_meets : List Str := ["_law_box", "_law_row", "_law_column", "_law_side"]
abbrev ps__law_meets : List Str := ["_law_box", "_law_row", "_law_column", "_law_side"]
theorem sc__law_meets : FnScope N__law_meets ps__law_meets (defScope s__law_meets) := ⟨rfl, rfl, rfl, by decide +kernel, rfl, by decide +kernel, by decide +kernel⟩
abbrev s__law_has : Stmt := top 59
abbrev N__law_has : List Str := ["_law_box", "_law_row", "_law_column", "_law_side"]
abbrev ps__law_has : List Str := ["_law_box", "_law_row", "_law_column", "_law_side"]
theorem sc__law_has : FnScope N__law_has ps__law_has (defScope s__law_has) := ⟨rfl, rfl, rfl, by decide +kernel, rfl, by decide +kernel, by decide +kernel⟩
abbrev s__law_number : Stmt := top 60
abbrev N__law_number : List Str := ["_law_rows", "_law_boxes", "_law_row", "_law_column", "_law_side", "_law_met", "_law_box", "_law_half", "_law_quarters", "_law_k"]
abbrev ps__law_number : List Str := ["_law_rows", "_law_boxes", "_law_row", "_law_column", "_law_side"]
theorem sc__law_number : FnScope N__law_number ps__law_number (defScope s__law_number) := ⟨rfl, rfl, rfl, by decide +kernel, rfl, by decide +kernel, by decide +kernel⟩
abbrev s__law_shape : Stmt := top 61
abbrev N__law_shape : List Str := ["_law_n", "_law_boxes", "_law_rows", "_law_top"]
abbrev ps__law_shape : List Str := ["_law_n", "_law_boxes"]
theorem sc__law_shape : FnScope N__law_shape ps__law_shape (defScope s__law_shape) := ⟨rfl, rfl, rfl, by decide +kernel, rfl, by decide +kernel, by decide +kernel⟩
abbrev s__law_turn : Stmt := top 62
abbrev N__law_turn : List Str := ["_law_rows", "_law_k", "_law_turn_here", "_law_row", "_law_column", "_law_wide"]
abbrev ps__law_turn : List Str := ["_law_rows", "_law_k", "_law_turn_here"]
theorem sc__law_turn : FnScope N__law_turn ps__law_turn (defScope s__law_turn) := ⟨rfl, rfl, rfl, by decide +kernel, rfl, by decide +kernel, by decide +kernel⟩
abbrev s__law_snake : Stmt := top 63
abbrev N__law_snake : List Str := ["_law_rows", "_law_turn_here", "_law_found", "_law_row", "_law_column", "_law_wide", "_law_k"]
abbrev ps__law_snake : List Str := ["_law_rows", "_law_turn_here"]
theorem sc__law_snake : FnScope N__law_snake ps__law_snake (defScope s__law_snake) := ⟨rfl, rfl, rfl, by decide +kernel, rfl, by decide +kernel, by decide +kernel⟩
abbrev s__law_round : Stmt := top 64
abbrev N__law_round : List Str := ["_law_rows", "_law_turn_here", "_law_row", "_law_column", "_law_wide", "_law_high", "_law_found", "_law_k"]
abbrev ps__law_round : List Str := ["_law_rows", "_law_turn_here"]
theorem sc__law_round : FnScope N__law_round ps__law_round (defScope s__law_round) := ⟨rfl, rfl, rfl, by decide +kernel, rfl, by decide +kernel, by decide +kernel⟩
abbrev s__law_ends : Stmt := top 65
abbrev N__law_ends : List Str := ["_law_rows", "_law_turn_here", "_law_last"]
abbrev ps__law_ends : List Str := ["_law_rows", "_law_turn_here"]
theorem sc__law_ends : FnScope N__law_ends ps__law_ends (defScope s__law_ends) := ⟨rfl, rfl, rfl, by decide +kernel, rfl, by decide +kernel, by decide +kernel⟩
abbrev s__law_is_full : Stmt := top 66
abbrev N__law_is_full : List Str := ["_law_shape_here", "_law_which", "_law_by", "_law_rows", "_law_turn_here", "_law_ends_here", "_law_told", "_law_length", "_law_row", "_law_column", "_law_wide"]
abbrev ps__law_is_full : List Str := ["_law_shape_here", "_law_which", "_law_by", "_law_rows", "_law_turn_here"]
theorem sc__law_is_full : FnScope N__law_is_full ps__law_is_full (defScope s__law_is_full) := ⟨rfl, rfl, rfl, by decide +kernel, rfl, by decide +kernel, by decide +kernel⟩
abbrev s__law_long : Stmt := top 67
abbrev N__law_long : List Str := ["_law_pot_here", "_law_first", "_law_k"]
abbrev ps__law_long : List Str := ["_law_pot_here"]
theorem sc__law_long : FnScope N__law_long ps__law_long (defScope s__law_long) := ⟨rfl, rfl, rfl, by decide +kernel, rfl, by decide +kernel, by decide +kernel⟩
abbrev s_law : Stmt := top 68
abbrev N_law : List Str := ["_law_script", "_law_pot_here", "_law_by", "_law_rows", "_law_n", "_law_wide", "_law_many", "_law_row", "_law_column", "_law_k", "_law_turn_here", "_law_snake_here", "_law_which", "_law_hollow"]
abbrev ps_law : List Str := ["_law_script"]
theorem sc_law : FnScope N_law ps_law (defScope s_law) := ⟨rfl, rfl, rfl, by decide +kernel, rfl, by decide +kernel, by decide +kernel⟩
structure Bl (mg : Str → Option Value) : Prop where
  isinstance : mg "isinstance" = none
  int : mg "int" = none
  bool : mg "bool" = none
  str : mg "str" = none
  tuple : mg "tuple" = none
  list : mg "list" = none
  len : mg "len" = none
  all : mg "all" = none
  any : mg "any" = none
  max : mg "max" = none
  min : mg "min" = none
  abs : mg "abs" = none
  sum : mg "sum" = none
  enumerate : mg "enumerate" = none
  range : mg "range" = none
  sorted : mg "sorted" = none
  dict : mg "dict" = none
  set : mg "set" = none
  reversed : mg "reversed" = none
  cMOST_SIZE : ∃ u, mg "MOST_SIZE" = some u ∧ RelV (.int 12) u
  cFIGURES : ∃ u, mg "FIGURES" = some u ∧ RelV (.str "0123") u
  cMOST_LEAVES : ∃ u, mg "MOST_LEAVES" = some u ∧ RelV (.int 2000) u
  cSIDES : ∃ u, mg "SIDES" = some u ∧ RelV (.str "sides") u
  cCORNERS : ∃ u, mg "CORNERS" = some u ∧ RelV (.str "corners") u
end Qf
namespace Qf
open PySem PySem.Spec PyProof.Rows L2
theorem bt_int : bootBuiltins "int" = some (.type "int") := by decide +kernel
theorem bt_bool : bootBuiltins "bool" = some (.type "bool") := by decide +kernel
theorem bt_str : bootBuiltins "str" = some (.type "str") := by decide +kernel
theorem bt_tuple : bootBuiltins "tuple" = some (.type "tuple") := by decide +kernel
theorem bt_list : bootBuiltins "list" = some (.type "list") := by decide +kernel
theorem bt_dict : bootBuiltins "dict" = some (.type "dict") := by decide +kernel
theorem bt_set : bootBuiltins "set" = some (.type "set") := by decide +kernel
theorem bt_range : bootBuiltins "range" = some (.type "range") := by decide +kernel
theorem bt_enumerate : bootBuiltins "enumerate" = some (.type "enumerate") := by decide +kernel
theorem bt_reversed : bootBuiltins "reversed" = some (.type "reversed") := by decide +kernel
theorem bt_isinstance : bootBuiltins "isinstance" = some (.builtin "isinstance") := by decide +kernel
theorem bt_len : bootBuiltins "len" = some (.builtin "len") := by decide +kernel
theorem bt_all : bootBuiltins "all" = some (.builtin "all") := by decide +kernel
theorem bt_any : bootBuiltins "any" = some (.builtin "any") := by decide +kernel
theorem bt_max : bootBuiltins "max" = some (.builtin "max") := by decide +kernel
theorem bt_min : bootBuiltins "min" = some (.builtin "min") := by decide +kernel
theorem bt_abs : bootBuiltins "abs" = some (.builtin "abs") := by decide +kernel
theorem bt_sum : bootBuiltins "sum" = some (.builtin "sum") := by decide +kernel
theorem bt_sorted : bootBuiltins "sorted" = some (.builtin "sorted") := by decide +kernel
/-! ### a def, a method, a class as they stand behind the top -/
structure Dfn (K : PySem.W.Frag) (mg : Str → Option Value) (x : Str) (st : Stmt) : Prop where
  ex : ∃ (f : Addr) (fd : FuncData), FunD K x x (defArgs st) (defBody st) (defScope st) [] [] f fd ∧ mg x = some (.ref f)
structure Dme (K : PySem.W.Frag) (C : Addr) (x qual : Str) (st : Stmt) : Prop where
  ex : ∃ (f : Addr) (fd : FuncData), FunD K x qual (defArgs st) (defBody st) (defScope st) [] [] f fd ∧ Meth K C x f
structure Dmk (K : PySem.W.Frag) (mg : Str → Option Value) (cn : Str) (C : Addr) (qual : Str) (st : Stmt) : Prop where
  ex : ∃ (f : Addr) (fd : FuncData), FunD K "__init__" qual (defArgs st) (defBody st) (defScope st) [] [] f fd ∧ Mk K C f ∧ mg cn = some (.ref C)
section
variable (P : Program) (w : World) (K : PySem.W.Frag) (mg : Str → Option Value) (base : Heap)
/-- the def x keeps the promise sp, at a level of k calls -/
structure Cal (k : Nat) (x : Str) (sp : Sp) : Prop where
  ex : ∃ (f : Addr) (fd : FuncData) (ps : List Str), FnOk P w K mg base CX0 k f fd ps sp ∧ mg x = some (.ref f) ∧ PySem.W.keepIn K (.ref f) = true ∧ Binds K fd ps []
structure Met (k : Nat) (C : Addr) (x : Str) (sp : Sp) : Prop where
  ex : ∃ (f : Addr) (fd : FuncData) (ps : List Str), Cls K C ∧ Meth K C x f ∧ FnOk P w K mg base CX0 k f fd ps sp ∧ Binds K fd ps []
structure Mak (k : Nat) (x : Str) (C : Addr) (sp : Sp) : Prop where
  ex : ∃ (f : Addr) (fd : FuncData) (ps : List Str), Mk K C f ∧ FnOk P w K mg base CX0 k f fd ps sp ∧ mg x = some (.ref C) ∧ Binds K fd ps []
end
section
variable {P : Program} {w : World} {K : PySem.W.Frag} {mg : Str → Option Value} {base : Heap}
theorem Cal.imp {k j : Nat} {x : Str} {sp sp' : Sp} (c : Cal P w K mg base k x sp) (h : ∀ vs H Q E, sp' vs H Q E → sp vs H Q E) : Cal P w K mg base k x sp' := by
  obtain ⟨f, fd, ps, F, r⟩ := c.ex
  exact ⟨f, fd, ps, F.imp h, r⟩
theorem cal_of {x : Str} {st : Stmt} {N ps : List Str} {k : Nat} {sp : Sp} (D : Dfn K mg x st) (S : FnScope N ps (defScope st))
    (hb : ∀ (kV doc pm : Value) (an : Option Addr) (cdv ct : Value) (us : List Value), us.length = ps.length → bindArgs (PySem.W.fnOf x x (defArgs st) (defBody st) (defScope st) .none kV doc pm an cdv ct) ⟨us, []⟩ = pure (ps.zip us))
    (len : ∀ vs H Q E, sp vs H Q E → vs.length = ps.length)
    (body : ∀ (f : Addr) (cdv : Value) (A : Around) (outer : List Env) (s : Shared) (H : Hp) (vs : List V) (Q : VK) (E : XK), Room k (A.deeper (envOfC x (defScope st) s.heap.objs.size f cdv)) → sp vs H Q E →
      ∃ t, PSs (cxOf CX0 P w K mg base N x (defScope st) f cdv A outer s H E).nox (defBody st) t ∧ t { nx := fun _ H' => Q .non H', rt := Q } (start N vs) H) :
    Cal P w K mg base (k + 1) x sp := by
  obtain ⟨f, fd, F, gx⟩ := D.ex
  refine ⟨f, fd, ps, F.ok S len fun cdv A outer s H vs Q E hr h => ?_, gx, F.kp, F.bindsN hb⟩
  obtain ⟨t, h1, h2⟩ := body f cdv A outer s H vs Q E hr h
  exact ⟨t, h1.nox, h2⟩
theorem met_of {C : Addr} {x q : Str} {st : Stmt} {N ps : List Str} {k : Nat} {sp : Sp} (c : Cls K C) (D : Dme K C x q st) (S : FnScope N ps (defScope st))
    (hb : ∀ (kV doc pm : Value) (an : Option Addr) (cdv ct : Value) (us : List Value), us.length = ps.length → bindArgs (PySem.W.fnOf x q (defArgs st) (defBody st) (defScope st) .none kV doc pm an cdv ct) ⟨us, []⟩ = pure (ps.zip us))
    (len : ∀ vs H Q E, sp vs H Q E → vs.length = ps.length)
    (body : ∀ (f : Addr) (cdv : Value) (A : Around) (outer : List Env) (s : Shared) (H : Hp) (vs : List V) (Q : VK) (E : XK), Room k (A.deeper (envOfC q (defScope st) s.heap.objs.size f cdv)) → sp vs H Q E →
      ∃ t, PSs (cxOf CX0 P w K mg base N q (defScope st) f cdv A outer s H E).nox (defBody st) t ∧ t { nx := fun _ H' => Q .non H', rt := Q } (start N vs) H) :
    Met P w K mg base (k + 1) C x sp := by
  obtain ⟨f, fd, F, gx⟩ := D.ex
  refine ⟨f, fd, ps, c, gx, F.ok S len fun cdv A outer s H vs Q E hr h => ?_, F.bindsN hb⟩
  obtain ⟨t, h1, h2⟩ := body f cdv A outer s H vs Q E hr h
  exact ⟨t, h1.nox, h2⟩
theorem mak_of {C : Addr} {cn q : Str} {st : Stmt} {N ps : List Str} {k : Nat} {sp : Sp} (D : Dmk K mg cn C q st) (S : FnScope N ps (defScope st))
    (hb : ∀ (kV doc pm : Value) (an : Option Addr) (cdv ct : Value) (us : List Value), us.length = ps.length → bindArgs (PySem.W.fnOf "__init__" q (defArgs st) (defBody st) (defScope st) .none kV doc pm an cdv ct) ⟨us, []⟩ = pure (ps.zip us))
    (len : ∀ vs H Q E, sp vs H Q E → vs.length = ps.length)
    (body : ∀ (f : Addr) (cdv : Value) (A : Around) (outer : List Env) (s : Shared) (H : Hp) (vs : List V) (Q : VK) (E : XK), Room k (A.deeper (envOfC q (defScope st) s.heap.objs.size f cdv)) → sp vs H Q E →
      ∃ t, PSs (cxOf CX0 P w K mg base N q (defScope st) f cdv A outer s H E).nox (defBody st) t ∧ t { nx := fun _ H' => Q .non H', rt := Q } (start N vs) H) :
    Mak P w K mg base (k + 1) cn C sp := by
  obtain ⟨f, fd, F, mk, gx⟩ := D.ex
  refine ⟨f, fd, ps, mk, F.ok S len fun cdv A outer s H vs Q E hr h => ?_, gx, F.bindsN hb⟩
  obtain ⟨t, h1, h2⟩ := body f cdv A outer s H vs Q E hr h
  exact ⟨t, h1.nox, h2⟩
end
/-! ### calls -/
section
variable {X : Cx} {k j : Nat} {C : Addr} {x m : Str} {sp : Sp} {p pos apos : Pos} {e o : Expr} {es : List Expr} {ta : TE} {t : TA}
theorem pe_c (c : Cal X.prog X.w X.K X.mg X.base k x sp) (hr : Room j X.A) (hk : k ≤ j) (hg : Gl X x) (ha : PA X (e :: es) t)
    (hdb : (x == ("__debug__" : Str)) = false := by decide) (he : starEach (e :: es) X.env = (false, eval e X.env) :: starEach es X.env := by rfl) (hpl : (backTo pos (starEach es X.env)).any (·.1) = false := by rfl) :
    PE X (.Call (.Name x p) (e :: es) [] pos) (tCall sp [] E0 t) := by
  obtain ⟨f, fd, ps, F, hm, kp, b⟩ := c.ex
  exact pe_call F (hr.mono hk) hg hm kp b .nil pass0 ha hdb he hpl
theorem pe_mk (c : Mak X.prog X.w X.K X.mg X.base k x C sp) (hr : Room j X.A) (hk : k + 1 ≤ j) (hg : Gl X x) (ha : PA X (e :: es) t)
    (hdb : (x == ("__debug__" : Str)) = false := by decide) (he : starEach (e :: es) X.env = (false, eval e X.env) :: starEach es X.env := by rfl) (hpl : (backTo pos (starEach es X.env)).any (·.1) = false := by rfl) :
    PE X (.Call (.Name x p) (e :: es) [] pos) (tMake C sp [] E0 t) := by
  obtain ⟨f, fd, ps, M, F, hm, b⟩ := c.ex
  exact pe_make M F (hr.mono hk) hg hm b .nil pass0 ha hdb he hpl
theorem pe_mk0 (c : Mak X.prog X.w X.K X.mg X.base k x C sp) (hr : Room j X.A) (hk : k + 1 ≤ j) (hg : Gl X x) (hdb : (x == ("__debug__" : Str)) = false := by decide) :
    PE X (.Call (.Name x p) [] [] pos) (tMake C sp [] E0 tNil) := by
  obtain ⟨f, fd, ps, M, F, hm, b⟩ := c.ex
  exact pe_make0 M F (hr.mono hk) hg hm b .nil pass0 hdb
theorem pe_mt {pl : Sem Bool} (c : Met X.prog X.w X.K X.mg X.base k C m sp) (hr : Room j X.A) (hk : k ≤ j) (he : PE X o ta) (ha : PA X (e :: es) t)
    (hst : starEach (e :: es) X.env = (false, eval e X.env) :: starEach es X.env := by rfl) (hpl : (backTo pos (starEach es X.env)).any (·.1) = false := by rfl)
    (ht : eval (.Call (.Attribute o m apos) (e :: es) [] pos) X.env = (do
      let ov ← eval o X.env
      standAt apos.atName
      let (f, first) ← holding [ov] (getMethod ov m pl)
      callWith pos f first (backTo pos (starEach (e :: es) X.env)) (backToKw pos (keywordEach [] X.env))) := by rfl) :
    PE X (.Call (.Attribute o m apos) (e :: es) [] pos) (tMeth C m sp [] E0 ta t) := by
  obtain ⟨f, fd, ps, hc, hm, F, b⟩ := c.ex
  exact pe_meth (pl := pl) he hc hm F (hr.mono hk) b .nil pass0 ha hst hpl ht
end
end Qf
/-! Rules that the layer lacks. -/
namespace Qf
open PySem PySem.Spec PyProof.Rows L2
section
variable {X : Cx}
/-! ### x in (a, b): a tuple of data -/
def rInTD (K : PySem.W.Frag) : R2 := fun x y H Q => ∃ d ds, Dp K H x d ∧ Dp K H y (.tuple ds) ∧ SeqAt.shaped d = true ∧ SeqAt.shaped (.list ds) = true ∧ Q (.bl (ds.any fun z => PyData.eqv z d)) H
theorem op_inTD (hu : X.A.units + 65 < cLine) : OpR X (compareOp .In) (rInTD X.K) := by
  intro pins s σ H x y v u Q I rx ry h
  obtain ⟨d, ds, hd, he, sd, se, q⟩ := h
  obtain ⟨as, r1⟩ := Dp.reads I d x v hd rx
  obtain ⟨bs, r2⟩ := Dp.reads I (.tuple ds) y u he ry
  exact SeqAt.in_tuple_reads r2 r1 (SeqAt.canLay_of_shaped se) (SeqAt.canLay_of_shaped sd) (room_in_shaped sd hu) ⟨.bl _, H, I, rfl, q⟩
/-! ### d.setdefault(k, x), d.pop(k), d.get(k, x) -/
theorem pe_setd {o e f : Expr} {td ty tx : TE} {apos cpos : Pos} (ho : PE X o td) (he : PE X e ty) (hf : PE X f tx) (m : M2 X o "setdefault" apos e f cpos := by exact ⟨rfl, rfl, rfl, rfl⟩) :
    PE X (.Call (.Attribute o "setdefault" apos) [e, f] [] cpos) (tDSetd td ty tx) := pe_dsetd ho he hf m
theorem pe_pop1 {o e : Expr} {td ty : TE} {apos cpos : Pos} (ho : PE X o td) (he : PE X e ty) (m : M1 X o "pop" apos e cpos := by exact ⟨rfl, rfl, rfl, rfl⟩) :
    PE X (.Call (.Attribute o "pop" apos) [e] [] cpos) (tDPop1 td ty) := pe_dpop1 ho he m
theorem pe_get2 {o e f : Expr} {td ty tx : TE} {apos cpos : Pos} (hu : X.A.units + 1 < cLine) (ho : PE X o td) (he : PE X e ty) (hf : PE X f tx) (m : M2 X o "get" apos e f cpos := by exact ⟨rfl, rfl, rfl, rfl⟩) :
    PE X (.Call (.Attribute o "get" apos) [e, f] [] cpos) (tDGet2 td ty tx) := pe_dget2 hu ho he hf m
end
/-! ### tuple(d), d a dict with tuple keys -/
section
variable {prog : Program} {w : World} {A : Around} {E : Value → Shared → Prop} {s : Shared} {d : Addr} {o : Obj} {es : Array DictEntry} {ep : Nat}
theorem collect_raw {Q : List Value → Shared → Prop} (hh : A.handled = none) (lo : (d == sysModules) = false) (ho : s.heap.get? d = some o) (hx : o.ExactDict) (hd : o.data = .dict es ep) (hn : es.size ≤ sizeLine)
    (hQ : ∀ (h' : Heap) (tk : Nat) (acc : Array Value), (∀ b o, s.heap.get? b = some o → h'.get? b = some o) → ItemsOf (fun i v => ∃ en : DictEntry, es[i]? = some en ∧ v = en.key) acc es.size → Q acc.toList { s with heap := h', toks := tk }) :
    wpAny (model prog w) A (collect (.ref d)) Q E s := by
  unfold collect
  refine wpAny_bind (wpAny_runValue (codeAny_builtin F.entry_proto_collect ?_))
  rw [Around.under_plainId F.plain_proto_collect _]
  show wpAny _ A.in1 (newList [] >>= fun l => again (.builtin "list.__iadd__" ⟨[l, .ref d], []⟩)) _ _ s
  refine wpAny_bind (wpAny_newObj_type ?_)
  refine wpAny_pure ⟨plainId_quiet F.plain_list_iadd _, codeAny_builtin F.entry_list_iadd ?_⟩
  rw [Around.under_plainId F.plain_list_iadd _]
  show wpAny _ A.in1 (Builtin.List.listExtendWith (.ref s.heap.objs.size) (.ref d) (.ref s.heap.objs.size)) _ _ _
  have hS : (s.heap.push { cls := .type "list", data := .seq ([] : List Value).toArray }).get? s.heap.objs.size = some { cls := .type "list", data := .seq #[] 0 } := Heap.get?_push_size _ rfl
  have hSd : s.heap.objs.size ≠ d := Nat.ne_of_gt (Heap.lt_size ho)
  refine wpAny_mono (PySem.W.kdl_extend (A := A) (R := fun rr s' => rr = .ok (.ret (.ref s.heap.objs.size)) ∧ ∃ (h' : Heap) (tk : Nat) (acc : Array Value) (c' : Nat), s' = { s with heap := h', toks := tk } ∧
      (∀ b o, s.heap.get? b = some o → h'.get? b = some o) ∧ h'.get? s.heap.objs.size = some { cls := .type "list", dict := none, data := .seq acc c', slots := #[] } ∧ ItemsOf (fun i v => ∃ en : DictEntry, es[i]? = some en ∧ v = en.key) acc es.size)
    (s := { s with heap := s.heap.push { cls := .type "list", data := .seq ([] : List Value).toArray } }) (kdl_raw lo hx hd) hh (Heap.get?_push_of_some _ ho) _ hSd hSd _ 0 hS
    (fun h' tk acc c' hk e hi => ⟨rfl, h', tk, acc, c', rfl, fun b o q => hk b o (Nat.ne_of_lt (Heap.lt_size q)) (Heap.get?_push_of_some _ q), e, hi⟩) hn) (fun fin s' h => ?_) (fun e s' h => ?_)
  · cases fin with
    | done f =>
      obtain ⟨e, h', tk, acc, c', rfl, hk, hS', hi⟩ := h
      cases e
      show wpAny _ A (load s.heap.objs.size >>= _) _ _ _
      exact wpAny_bind (wpAny_load hS' (wpAny_pure (hQ h' tk acc hk hi)))
    | again c' =>
      refine ⟨h.1, codeAny_mono h.2 fun rr s'' hr' => ?_⟩
      obtain ⟨rfl, h', tk, acc, c', rfl, hk, hS', hi⟩ := hr'
      show wpAny _ A (load s.heap.objs.size >>= _) _ _ _
      exact wpAny_bind (wpAny_load hS' (wpAny_pure (hQ h' tk acc hk hi)))
  · exact absurd h.1 (by simp)
theorem code_tuple_raw {Q₁ : Value → Shared → Prop} (hh : A.handled = none) (lo : (d == sysModules) = false) (ho : s.heap.get? d = some o) (hx : o.ExactDict) (hd : o.data = .dict es ep) (hn : es.size ≤ sizeLine)
    (h : ∀ (h' : Heap) (tk : Nat) (acc : Array Value), (∀ b o, s.heap.get? b = some o → h'.get? b = some o) → ItemsOf (fun i v => ∃ en : DictEntry, es[i]? = some en ∧ v = en.key) acc es.size →
      Q₁ (.ref h'.objs.size) { s with heap := h'.push { cls := .type "tuple", data := .seq acc }, toks := tk }) :
    codeAny (model prog w) A (.call (.builtin "tuple.__new__") ⟨[.type "tuple", .ref d], []⟩) (wants Q₁ E) s := by
  refine codeAny_of_tree ?_
  show wpAny _ A.in1 (do checkBuiltinCall "tuple.__new__" ⟨[.type "tuple", .ref d], []⟩; again (.builtin "tuple.__new__" ⟨[.type "tuple", .ref d], []⟩)) _ _ s
  refine wpAny_bind (wpAny_of_eq (F.newCall_tuple_1 _) (wpAny_pure ⟨plainId_quiet F.plain_tuple_new _, codeAny_builtin F.entry_tuple_new ?_⟩))
  rw [Around.under_plainId F.plain_tuple_new _]
  have hsub := sub_tuple_self
  have hinit := init_tuple_lookup
  have hmh := madeHere_tuple
  have hTI : s.TypeIs (.ref d) "dict" := ⟨o, ho, hx.1⟩
  have hh1 : A.in1.handled = none := hh
  wp_walk using wpAny_typeOf hTI, collect_raw (A := A.in1) hh1 lo ho hx hd hn
  intro h' tk acc hk hacc
  show wpAny _ _ (Builtin.Tuple.tupleExact acc.toList.toArray >>= fun v => ret v) _ _ _
  unfold Builtin.Tuple.tupleExact
  refine wpAny_bind (wpAny_newObj_type ?_ (by show acc.toList.toArray.size ≤ sizeLine; simp only [Array.toArray_toList]; rw [hacc.1]; exact hn))
  refine wpAny_pure ?_
  have e : acc.toList.toArray = acc := by simp
  rw [e]
  exact h h' tk acc hk hacc
theorem call_tuple_raw {Q : Value → Shared → Prop} (hh : A.handled = none) (lo : (d == sysModules) = false) (ho : s.heap.get? d = some o) (hx : o.ExactDict) (hd : o.data = .dict es ep) (hn : es.size ≤ sizeLine)
    (hQ : ∀ (h' : Heap) (tk : Nat) (acc : Array Value), (∀ b o, s.heap.get? b = some o → h'.get? b = some o) → ItemsOf (fun i v => ∃ en : DictEntry, es[i]? = some en ∧ v = en.key) acc es.size →
      Q (.ref h'.objs.size) { s with heap := h'.push { cls := .type "tuple", data := .seq acc }, toks := tk }) :
    wpAny (model prog w) A (call (.type "tuple") [.ref d]) Q E s := by
  refine callType_codes (Q₁ := fun obj s₁ => s₁.TypeIs obj "tuple" ∧ Q obj s₁) F.called_tuple (F.typeCall_tuple_1 _) F.entry_object_init
    (code_tuple_raw (A := A.in1) hh lo ho hx hd hn fun h' tk acc hk hacc => ⟨⟨_, Heap.get?_push_size _ rfl, rfl⟩, hQ h' tk acc hk hacc⟩) fun obj s₁ h₁ => ?_
  exact ⟨h₁.1, F.args_object_init_2 obj _, object_init_meets F.called_tuple.init.lookup F.called_tuple.made (by decide) prog w A.in1 _ s₁ ⟨h₁.1, rfl, h₁.2⟩⟩
end
section
variable {X : Cx}
theorem call_tuple_dT (hc : X.calm = true) : CallR X (.type "tuple") (fun xs H Q => ∃ d kvs, xs = [V.ref d] ∧ Rd H d (.dT kvs) ∧ ∀ p bs, H p = none → IsKeys H kvs bs → Q (.ref p) (upd H p (.tup (bs.map V.ref)))) := by
  intro pins s σ H xs us Q I r h
  obtain ⟨d, kvs, rfl, hd, q⟩ := h
  obtain ⟨u, rfl, rx⟩ := r.one
  cases rx
  obtain ⟨z, hs, ks, pr, o, es, ep, ho, hx, hdt, he, hn⟩ := (show ObjOk X.prog X.w H s.heap d (.dT kvs) from hd.ok I.hok)
  have l1 : es.size = ks.length := size_of_entries he
  have l2 : kvs.length = ks.length := Paired.length pr
  refine call_tuple_raw (I.ok.hd hc) hs ho hx hdt (by omega) fun h' tk acc' kp it => ?_
  have ea : acc'.toList = ks.map fun x => Value.ref x.2.1 := by
    have hl : acc'.toList.length = ks.length := by rw [Array.length_toList, it.1]; exact l1
    apply List.ext_getElem?
    intro j
    rw [List.getElem?_map]
    cases hj : acc'.toList[j]? with
    | none =>
      have h1 := List.getElem?_eq_none_iff.mp hj
      rw [List.getElem?_eq_none (by omega)]
      all_goals rfl
    | some v =>
      obtain ⟨en, hen, hv⟩ := it.2 j v (by rw [← Array.getElem?_toList]; exact hj)
      have qe := entry_at he j
      rw [hen] at qe
      cases hb : ks[j]? with
      | none =>
        rw [hb] at qe
        exact nomatch (show some en = none from qe)
      | some b =>
        rw [hb] at qe
        have e2 : en = entryOfKey (tupleKind (mixKind X.prog X.w)) b := Option.some.inj qe
        rw [hv, e2]
        all_goals rfl
  have eb : acc'.toList = (ks.map fun x => x.2.1).map Value.ref := by rw [ea, List.map_map]; all_goals rfl
  have rv : Vals ((ks.map fun x => x.2.1).map V.ref) acc'.toList := by rw [eb]; exact vals_refs _
  have hz : ((ks.map fun x => x.2.1).map V.ref).length ≤ sizeLine := by rw [List.length_map, List.length_map]; omega
  have I1 : Inv X pins σ H { s with heap := h', toks := tk } := I.kept kp
  refine ⟨.ref h'.objs.size, upd H h'.objs.size (.tup ((ks.map fun x => x.2.1).map V.ref)), I1.laid (t' := tk) (fun c o e => Heap.get?_push_of_some _ e) (Nat.le_refl _) ⟨hz, acc'.toList, rv, ?_⟩, rfl, q _ _ (I1.hok.fresh (Nat.le_refl _)) (isKeys_of pr)⟩
  rw [Array.toArray_toList]
  exact IsTup.new _ _
end
/-! ### enumerate(a tuple) -/
section
theorem meets_enumerate_newT (l : Addr) (items : Array Value) (n : Nat) (dct : Option Addr) (sl : Array (Option Value)) :
    Meets (Builtin.«enumerate.__new__» ⟨[.type "enumerate", .ref l], []⟩) (fun _ R s => s.heap.get? l = some { cls := .type "tuple", dict := dct, data := .seq items n, slots := sl } ∧
      R (.ok (.ret (.ref (s.heap.push { cls := .type "tuple_iterator", data := .fields #[.ref l, .int 0 0] }).objs.size)))
        { s with heap := (s.heap.push { cls := .type "tuple_iterator", data := .fields #[.ref l, .int 0 0] }).push { cls := .type "enumerate", data := .fields #[.none, .bool false, .ref s.heap.objs.size, rawInt 0, .none, .none] } }) :=
  .of_wp fun prog w A R s h => by
    obtain ⟨hp, g, d, tk, os⟩ := s
    obtain ⟨hl, h⟩ := h
    have hsub := sub_enumerate
    have hL : Heap.IsTuple (Shared.heap ⟨hp, g, d, tk, os⟩) l items := ⟨_, hl, rfl, n, rfl⟩
    wp_walk using AutoSeq1.wpAny_loadPart' hl
    refine wpAny_stack_any fun st => wpAny_pure ?_
    split
    · rename_i c _ _ _ _ _
      cases (c == Value.type "enumerate")
      · wp_walk using AutoSeq1.wpAny_loadPart' hl, wpAny_pyIter_tuple hL
        exact ⟨_, rfl, h⟩
      · wp_walk using AutoSeq1.wpAny_loadPart' hl, wpAny_pyIter_tuple hL
        exact ⟨_, rfl, h⟩
    · wp_walk using AutoSeq1.wpAny_loadPart' hl, wpAny_pyIter_tuple hL
      exact ⟨_, rfl, h⟩
variable {prog : Program} {w : World} {A : Around} {E : Value → Shared → Prop} {s : Shared}
theorem call_enumerate_tuple {l : Addr} {items : Array Value} {Q : Value → Shared → Prop} (hL : s.heap.IsTuple l items)
    (h : ∀ h', IsEnum h' (s.heap.objs.size + 1) s.heap.objs.size 0 .none → h'.IsTupleIter s.heap.objs.size l 0 → h'.objs.size = s.heap.objs.size + 2 →
      (∀ b o, s.heap.get? b = some o → h'.get? b = some o) → Q (.ref (s.heap.objs.size + 1)) { s with heap := h' }) :
    wpAny (model prog w) A (call (.type "enumerate") [.ref l]) Q E s := by
  obtain ⟨⟨c, dct, dt, sl⟩, hl, hc, n, hd⟩ := hL
  replace hc : c = .type "tuple" := hc
  replace hd : dt = .seq items n := hd
  subst hc hd
  refine callType_new F.called_enumerate (by decide) (F.typeCall_enumerate_1 _) (F.newCall_enumerate_1 _) (fun obj => F.args_object_init_2 obj _) F.entry_enumerate_new
    (meets_enumerate_newT l items n dct sl) ⟨hl, ?_⟩
  have hz : (s.heap.push { cls := .type "tuple_iterator", data := .fields #[.ref l, .int 0 0] }).objs.size = s.heap.objs.size + 1 := Heap.size_push ..
  show _ ∧ _
  rw [hz]
  have he : IsEnum ((s.heap.push { cls := .type "tuple_iterator", data := .fields #[.ref l, .int 0 0] }).push
      { cls := .type "enumerate", data := .fields #[.none, .bool false, .ref s.heap.objs.size, rawInt 0, .none, .none] }) (s.heap.objs.size + 1) s.heap.objs.size 0 .none := by
    have := Heap.get?_push_size (s.heap.push { cls := .type "tuple_iterator", data := .fields #[.ref l, .int 0 0] })
      (o := { cls := .type "enumerate", data := .fields #[.none, .bool false, .ref s.heap.objs.size, rawInt 0, .none, .none] }) rfl
    rw [hz] at this
    exact this
  refine ⟨⟨_, he, rfl⟩, ?_⟩
  refine h _ he ⟨_, Heap.get?_push_of_some _ (Heap.get?_push_size _ rfl), rfl, rfl⟩ ?_ fun b o e => Heap.get?_push_of_some _ (Heap.get?_push_of_some _ e)
  rw [Heap.size_push, hz]
end
/-- the tuple at a, each item in a new pair -/
def IteT (K : PySem.W.Frag) (a : Addr) : It :=
  ⟨fun i H => ∃ (xs : List V) (x : V), SqT K H a xs ∧ xs[i]? = some x, fun i H v H' => ∃ T x, v = .ref T ∧ H T = none ∧ H' = upd H T (.tup [.int (i : Nat), x]) ∧ ∀ xs, SqT K H a xs → xs[i]? = some x, fun i H => ∃ xs : List V, SqT K H a xs ∧ xs.length = i⟩
theorem turn_enumT {P : Program} {w : World} {K : PySem.W.Frag} {elts : List Expr} {kk : Nat} {tpos : Pos} (a e it : Addr) (hae : a ≠ it) (hea : e ≠ a) :
    Turn P w K (.Tuple elts kk tpos) (IteT K a) [e, it] e (fun i h => (∃ old, IsEnum h e it ((i : Nat) : Int) old) ∧ h.IsTupleIter it a i ∧ e ≠ it) where
  mem := by simp
  obj := fun i h st b hb => by
    obtain ⟨⟨old, he⟩, ⟨o, ho, hc, hd⟩, _⟩ := st
    have e' : b = e ∨ b = it := by simpa using hb
    rcases e' with z | z
    · rw [z]; exact ⟨_, he, fun v q => nomatch q⟩
    · rw [z]; exact ⟨o, ho, fun v q => by rw [hd] at q; cases q⟩
  keep := fun i h h' st k => let ⟨⟨old, he⟩, hi, hne⟩ := st; ⟨⟨old, k e (by simp) _ he⟩, hi.at fun o q => k it (by simp) o q, hne⟩
  item := by
    intro X hP hw hK hc i pins s σ H E I hf st hg
    subst hP hw hK
    obtain ⟨⟨old, he⟩, hit, hne⟩ := st
    obtain ⟨xs, x, hq, hx⟩ := hg
    obtain ⟨its, rv, p, hz⟩ := I.tuple hq
    obtain ⟨u, hu, ru⟩ := rv.get hx
    have hel : e < s.heap.objs.size := Heap.lt_size he
    have hil : it < s.heap.objs.size := by obtain ⟨_, q, _⟩ := hit; exact Heap.lt_size q
    have hlt : i < its.length := (List.getElem?_eq_some_iff.mp hu).1
    refine wpAny_pyNext_enum_itemD (Draws.tuple (A := X.A.in1) (I.ok.hd hc) it a hae its.toArray) he ⟨hit, p⟩ (by simpa using hlt) hne (by simp [hne, hea]) fun u' h' tk hu' ho hit' hT hsz hk => ?_
    have eu : u' = u := by
      have h1 : its[i]? = some u' := by simpa using hu'
      rw [hu] at h1
      exact (Option.some.inj h1).symm
    subst eu
    refine ⟨_, rfl, wpAny_letOwnedTupleGo_enum (s := { s with heap := h', toks := tk + 1 }) ho fun h'' he' sb => ?_⟩
    have hT2 : h''.get? s.heap.objs.size = some { cls := .type "tuple", data := .seq #[.int i tk, u'] } := (sb.2 _ (Nat.ne_of_gt hel)).trans hT
    have new : ObjOk X.prog X.w (upd H s.heap.objs.size (.tup [.int (i : Nat), x])) h'' s.heap.objs.size (.tup [.int (i : Nat), x]) :=
      ⟨by show 2 ≤ sizeLine; decide, [.int i tk, u'], .cons ⟨_, rfl⟩ (.cons ru .nil), ⟨_, hT2, rfl, _, rfl⟩⟩
    have I1 : Inv X pins σ (upd H s.heap.objs.size (.tup [.int (i : Nat), x])) { s with heap := h'', toks := tk + 1 } :=
      I.turnedNew (ch := [e, it]) (fun b ob hb q => (sb.2 b (fun z => hb (by simp [z]))).trans (hk b ob (fun z => hb (by simp [z])) (fun z => hb (by simp [z])) q)) hf (Nat.le_refl _) new
    refine ⟨.ref s.heap.objs.size, _, I1, rfl, ⟨_, x, rfl, I.hok.fresh (Nat.le_refl _), rfl, fun ys hy => by rw [I.tuple_inj hy hq]; exact hx⟩, ⟨⟨u', ?_⟩, hit'.1.at fun o q => (sb.2 it (Ne.symm hne)).trans q, hne⟩, fun b hb => ?_⟩
    · have e1 : ((i + 1 : Nat) : Int) = (i : Int) + 1 := by omega
      rw [e1]; exact he'
    · have hb' : b < s.heap.objs.size := by
        have e' : b = e ∨ b = it := by simpa using hb
        rcases e' with z | z
        · rw [z]; exact hel
        · rw [z]; exact hil
      rw [upd_ne (Nat.ne_of_lt hb')]
      exact (hf b hb).1
  done := by
    intro X hP hw hK hc i pins s σ H E I hf st hg
    subst hP hw hK
    obtain ⟨⟨old, he⟩, hit, hne⟩ := st
    obtain ⟨xs, hq, hx⟩ := hg
    obtain ⟨its, rv, p, hz⟩ := I.tuple hq
    obtain ⟨f0, f1, f2, f3, f4, f5⟩ := hf it (by simp)
    have hl := rv.length
    have hi : i = its.toArray.size := by rw [List.size_toArray]; omega
    subst hi
    exact wpAny_pyNext_enum_endD (Draws.tuple (A := X.A.in1) (I.ok.hd hc) it a hae its.toArray) he ⟨hit, p⟩ fun h' eb => ⟨rfl, I.turned (t' := s.toks) (fun b o hb q => eb b o hb q) f0 f1 f3 f4 f5⟩
  self := fun A i s Q E st h => let ⟨⟨_, he⟩, _⟩ := st; wpAny_pyIter_enum he h
def iEnumT (K : PySem.W.Frag) (ta : TA) : TI := fun σ H R => ta σ H fun vs H1 => ∃ a xs, vs = [.ref a] ∧ SqT K H1 a xs ∧ R (IteT K a) H1
theorem pi_enumT {X : Cx} {e : Expr} {ta : TA} {p pos tpos : Pos} {elts : List Expr} {kk : Nat} (hg : Gl X "enumerate") (hm : X.mg "enumerate" = none) (ha : PA X [e] ta) (hs : starEach [e] X.env = [(false, eval e X.env)] := by rfl) :
    PI X (.Tuple elts kk tpos) (.Call (.Name "enumerate" p) [e] [] pos) (iEnumT X.K ta) := by
  refine ⟨fun pins s σ H R I h => ?_⟩
  refine Call_ (ld_blt I hg hm boot_enumerate (PyProof.Rows.callWith_type1 (thn (ha.run pos pins s σ H _ I h) fun us s1 ⟨vs, H1, I1, r1, q1⟩ => ?_) hs rfl))
  obtain ⟨a, xs, ex, hq, q⟩ := q1
  subst ex
  cases r1 with
  | cons r rr =>
    cases rr
    cases r
    obtain ⟨its, rv, p', hz⟩ := I1.tuple hq
    refine call_enumerate_tuple p' fun h' he hit hsz hk => wpAny_pyIter_enum he ?_
    have I2 : Inv X pins σ H1 { s1 with heap := h' } := I1.kept (t' := s1.toks) hk
    obtain ⟨oa, hoa, _⟩ := id p'
    have hal : a < s1.heap.objs.size := Heap.lt_size hoa
    refine ⟨s1.heap.objs.size + 1, [s1.heap.objs.size + 1, s1.heap.objs.size], _, _, H1, rfl, I2, turn_enumT a (s1.heap.objs.size + 1) s1.heap.objs.size (Nat.ne_of_lt hal) (Nat.ne_of_gt (Nat.lt_succ_of_lt hal)), ⟨⟨.none, he⟩, hit, Nat.succ_ne_self _⟩, fun b hb => ?_, q⟩
    have e' : b = s1.heap.objs.size + 1 ∨ b = s1.heap.objs.size := by simpa using hb
    have hle : s1.heap.objs.size ≤ b := by
      rcases e' with z | z
      · rw [z]; exact Nat.le_add_right _ _
      · rw [z]; exact Nat.le_refl _
    exact I1.fpOk hle (I1.hok.fresh hle)
/-! ### list(reversed(xs)) -/
section
variable {prog : Program} {w : World} {A : Around} {E : Value → Shared → Prop} {s : Shared}
theorem call_list_rev {it l : Addr} {items : Array Value} {Q : Value → Shared → Prop} (hh : A.handled = none) (hit : s.heap.IsRevIter it l ((items.size : Int) - 1)) (hl : s.heap.IsList l items) (hne : l ≠ it) (hn : items.size ≤ sizeLine)
    (hQ : ∀ (h' : Heap) (tk : Nat) (acc : Array Value) (c' : Nat), (∀ b o, b ≠ it → s.heap.get? b = some o → h'.get? b = some o) → h'.get? s.heap.objs.size = some { cls := .type "list", dict := none, data := .seq acc c', slots := #[] } →
      ItemsOf (fun i v => items[items.size - 1 - i]? = some v) acc items.size → Q (.ref s.heap.objs.size) { s with heap := h', toks := tk }) :
    wpAny (model prog w) A (call (.type "list") [.ref it]) Q E s := by
  obtain ⟨oi, hoi, _⟩ := id hit
  obtain ⟨ol, hol, _⟩ := id hl
  have hSi : s.heap.objs.size ≠ it := Nat.ne_of_gt (Heap.lt_size hoi)
  have hSl : s.heap.objs.size ≠ l := Nat.ne_of_gt (Heap.lt_size hol)
  have hSf : s.heap.objs.size ∉ [it, l] := by simp only [List.mem_cons, List.not_mem_nil, or_false, not_or]; exact ⟨hSi, hSl⟩
  refine callType_codes (Q₁ := fun obj s₁ => obj = .ref s.heap.objs.size ∧ s₁ = { s with heap := s.heap.push { cls := .type "list", data := .seq #[] } }) PySem.F.called_list (PySem.F.typeCall_list_1 _) PySem.F.entry_list_init
    (code_list_new _ ⟨rfl, rfl⟩) fun obj s₁ h₁ => ?_
  obtain ⟨rfl, rfl⟩ := h₁
  have hS : (s.heap.push { cls := .type "list", data := .seq #[] }).get? s.heap.objs.size = some { cls := .type "list", data := .seq #[] } := Heap.get?_push_size _ rfl
  refine ⟨⟨_, hS, rfl⟩, PySem.F.args_list_init_2 _ _, ?_⟩
  show wpAny _ _ (do let old ← Builtin.List.listItems (.ref s.heap.objs.size); Builtin.List.listUpdate (.ref s.heap.objs.size) (fun _ => #[]); letGo old.toList.reverse; Builtin.List.listExtendWith (.ref s.heap.objs.size) (.ref it) .none) _ _ _
  refine wpAny_bind ?_
  unfold Builtin.List.listItems
  refine wpAny_bind (wpAny_seqItems hS rfl (wpAny_pure ?_))
  show wpAny _ _ (updateSeq s.heap.objs.size (fun _ => #[]) >>= fun _ => letGo (#[] : Array Value).toList.reverse >>= fun _ => Builtin.List.listExtendWith (.ref s.heap.objs.size) (.ref it) .none) _ _ _
  refine wpAny_bind (wpAny_updateSeq hS rfl ?_)
  have hS₂ := Heap.get?_update_self (Obj.mapSeq (fun _ => (#[] : Array Value))) hS rfl
  have oth : ∀ b o, b ≠ s.heap.objs.size → s.heap.get? b = some o → ((s.heap.push { cls := .type "list", data := .seq #[] }).update s.heap.objs.size (Obj.mapSeq (fun _ => (#[] : Array Value)))).get? b = some o :=
    fun b o hb e => (Heap.get?_update_other _ _ (Ne.symm hb)).trans (Heap.get?_push_of_some _ e)
  refine wpAny_bind (wpAny_letGo ?_)
  generalize hg : ((s.heap.push { cls := .type "list", data := .seq #[] }).update s.heap.objs.size (Obj.mapSeq (fun _ => (#[] : Array Value)))) = g at hS₂ oth ⊢
  have hit1 : g.IsRevIter it l ((items.size : Int) - 1) := hit.at fun o e => oth it o hSi.symm e
  have hl1 : g.IsList l items := hl.at fun o e => oth l o hSl.symm e
  have hT : ({ s with heap := g } : Shared).TypeIs (.ref it) "list_reverseiterator" := Heap.IsRevIter.typeIs (s := { s with heap := g }) hit1
  have h1 : Builtin.List.listSameRef (.ref s.heap.objs.size) (.ref it) = false := by simp [Builtin.List.listSameRef, hSi]
  have W := (Walks.listRev (prog := prog) (w := w) (A := A.in1.in1) hh it l hne items).toS
  unfold Builtin.List.listExtendWith
  refine wpAny_bind (wpAny_typeOf hT ?_)
  rw [if_neg (by rw [h1]; decide)]
  refine wpAny_bind (wpAny_pyIter_revIter (s := { s with heap := g }) hit1 ?_)
  refine wpAny_bind (wpAny_holding ?_)
  unfold Builtin.List.listLengthHint
  refine wpAny_bind (wpAny_specialOf hT RT.nolen_lri ?_)
  show wpAny _ _ (specialOf (Value.ref it) (Str.ofString "__length_hint__") >>= _) _ _ _
  refine wpAny_bind (wpAny_specialOf hT RT.hint_lri ?_)
  generalize hid : ("list_reverseiterator.__length_hint__" : String) = id0
  wp_delta
  rw [show splitId id0 = some ("list_reverseiterator", "__length_hint__") from by subst hid; decide +kernel]
  subst hid
  refine wpAny_bind (wpAny_isInstance (b := true) hT (by rw [isSubtype_type]; kernel_rfl) ?_)
  refine wpAny_pure ?_
  rw [if_neg (by decide)]
  have e0 : ((items.size : Nat) : Int) - 1 - ((0 : Nat) : Int) = (items.size : Int) - 1 := by omega
  refine wpAny_pure ⟨plainId_quiet F.plain_extend_loop _, codeAny_extend_loopS W hn _ hSf _ items.size 0 _ _ _ rfl (Nat.zero_le _) ⟨Nat.zero_le _, by rw [e0]; exact hit1, hl1⟩ hS₂ (ItemsOf.nil _) fun s' acc' c' hm hS' hacc => ?_⟩
  refine ⟨rfl, ?_⟩
  rw [Moved.eq_with hm]
  refine hQ s'.heap s'.toks acc' c' (fun b o hb e => hm.heap b o (fun hmem => ?_) (oth b o (Nat.ne_of_lt (Heap.lt_size e)) e)) hS' hacc
  rcases List.mem_cons.mp hmem with e' | hmem
  · exact absurd (Heap.lt_size e) (by rw [e']; exact Nat.lt_irrefl _)
  · exact hb (List.mem_singleton.mp hmem)
end
section
variable {X : Cx}
theorem pe_listRev {e : Expr} {te : TE} {p p2 pos pos2 : Pos} (hc : X.calm = true) (hg : Gl X "list") (hm : X.mg "list" = none) (hg2 : Gl X "reversed") (hm2 : X.mg "reversed" = none) (he : PE X e te)
    (hs : starEach [e] X.env = (false, eval e X.env) :: starEach [] X.env := by rfl)
    (hs2 : starEach [.Call (.Name "reversed" p2) [e] [] pos2] X.env = (false, eval (.Call (.Name "reversed" p2) [e] [] pos2) X.env) :: starEach [] X.env := by rfl) :
    PE X (.Call (.Name "list" p) [.Call (.Name "reversed" p2) [e] [] pos2] [] pos) (fun σ H Q => te σ H fun x H1 => ∃ a xs, x = .ref a ∧ SqL X.K H1 a xs ∧ ∀ p, H1 p = none → Q (.ref p) (upd H1 p (.lst xs.reverse))) := by
  refine ⟨fun pins s σ H Q I h => ?_⟩
  refine Call_ (ld_blt I hg hm bt_list (PyProof.Rows.callWith_type1 (args_cons (Call_ (ld_blt I hg2 hm2 PyProof.Rows.boot_reversed (PyProof.Rows.callWith_type1 (args_cons (thn (he.run pins s σ H _ I h) fun u s1 ⟨v, H1, I1, r1, q1⟩ => args_nil ?_) hs) hs rfl))) hs2) hs2 rfl))
  obtain ⟨a, xs, ev, hq, q⟩ := q1
  subst ev
  obtain rfl : u = Value.ref a := r1
  obtain ⟨its, rv, p', hz⟩ := I1.list hq
  refine call_reversed_list p'.isList (args_nil ?_)
  have k0 : ∀ b o, s1.heap.get? b = some o → (s1.heap.push (revObj a ((its.toArray.size : Int) - 1))).get? b = some o := fun b o e => Heap.get?_push_of_some _ e
  have I2 : Inv X pins σ H1 { s1 with heap := s1.heap.push (revObj a ((its.toArray.size : Int) - 1)) } := I1.kept (t' := s1.toks) k0
  obtain ⟨f0, f1, f2, f3, f4, f5⟩ := I1.fpOk (H' := H1) (b := s1.heap.objs.size) (Nat.le_refl _) (I1.hok.fresh (Nat.le_refl _))
  have hl := p'.isList
  obtain ⟨ol, hol, _⟩ := id hl
  have hne : a ≠ s1.heap.objs.size := Nat.ne_of_lt (Heap.lt_size hol)
  have hn : its.toArray.size ≤ sizeLine := by rw [List.size_toArray, ← rv.length]; exact hz
  refine call_list_rev (s := { s1 with heap := s1.heap.push (revObj a ((its.toArray.size : Int) - 1)) }) (I1.ok.hd hc) ⟨_, Heap.get?_push_size _ rfl, rfl, rfl⟩ (hl.push _) hne hn fun h' tk acc c' hk hS hi => ?_
  have hsz : (s1.heap.push (revObj a ((its.toArray.size : Int) - 1))).objs.size = s1.heap.objs.size + 1 := Heap.size_push ..
  rw [hsz] at hS
  have hfz : H1 (s1.heap.objs.size + 1) = none := I1.hok.fresh (Nat.le_succ _)
  have new : ObjOk X.prog X.w (upd H1 (s1.heap.objs.size + 1) (.lst xs.reverse)) h' (s1.heap.objs.size + 1) (.lst xs.reverse) :=
    ⟨by rw [List.length_reverse]; exact hz, acc.toList, c', RT.vals_rev rv hi, by rw [Array.toArray_toList]; exact hS⟩
  have I3 : Inv X pins σ (upd H1 (s1.heap.objs.size + 1) (.lst xs.reverse)) { s1 with heap := h', toks := tk } :=
    I2.turnedNew (ch := [s1.heap.objs.size]) (fun b ob hb q => hk b ob (fun z => hb (by simp [z])) q) (fun b hb => by
      obtain rfl : b = s1.heap.objs.size := by simpa using hb
      exact ⟨f0, f1, f2, f3, f4, f5⟩) (by rw [hsz]; exact Nat.le_refl _) new
  rw [hsz]
  exact ⟨.ref _, _, I3, rfl, q _ hfz⟩
/-! ### min of a list of pairs -/
def pD (p : Int × Int) : PyData := .tuple [.int p.1, .int p.2]
def lexLe (p q : Int × Int) : Prop := p.1 < q.1 ∨ (p.1 = q.1 ∧ p.2 ≤ q.2)
theorem dataLt_pD (p q : Int × Int) : PySem.W.dataLt (pD p) (pD q) = decide (p.1 < q.1 ∨ (p.1 = q.1 ∧ p.2 < q.2)) := PySem.W.dataLt_ii _ _ _ _
theorem minD_pD : ∀ (ps : List (Int × Int)) (p : Int × Int), ∃ m, PySem.W.minD (pD p) (ps.map pD) = pD m ∧ m ∈ p :: ps ∧ ∀ q ∈ p :: ps, lexLe m q
  | [], p => ⟨p, rfl, List.mem_cons_self, fun q hq => by rw [List.mem_singleton] at hq; subst hq; exact .inr ⟨rfl, Int.le_refl _⟩⟩
  | a :: r, p => by
    have e : PySem.W.minD (pD p) ((a :: r).map pD) = PySem.W.minD (if PySem.W.dataLt (pD a) (pD p) then pD a else pD p) (r.map pD) := rfl
    rw [dataLt_pD] at e
    by_cases h : a.1 < p.1 ∨ (a.1 = p.1 ∧ a.2 < p.2)
    · rw [if_pos (decide_eq_true h)] at e
      obtain ⟨m, h1, h2, h3⟩ := minD_pD r a
      refine ⟨m, e.trans h1, List.mem_cons_of_mem _ h2, fun q hq => ?_⟩
      rcases List.mem_cons.mp hq with rfl | hq
      · have := h3 a List.mem_cons_self
        unfold lexLe at *
        omega
      · exact h3 q hq
    · rw [if_neg (by simpa using h)] at e
      obtain ⟨m, h1, h2, h3⟩ := minD_pD r p
      refine ⟨m, e.trans h1, ?_, fun q hq => ?_⟩
      · rcases List.mem_cons.mp h2 with rfl | h2
        · exact List.mem_cons_self
        · exact List.mem_cons_of_mem _ (List.mem_cons_of_mem _ h2)
      · rcases List.mem_cons.mp hq with rfl | hq
        · exact h3 q List.mem_cons_self
        rcases List.mem_cons.mp hq with rfl | hq
        · have := h3 p List.mem_cons_self
          unfold lexLe at *
          omega
        · exact h3 q (List.mem_cons_of_mem _ hq)
theorem pD_inj {p q : Int × Int} (h : pD p = pD q) : p = q := by
  obtain ⟨a, b⟩ := p
  obtain ⟨c, d⟩ := q
  simp only [pD, PyData.tuple.injEq, List.cons.injEq, PyData.int.injEq, and_true] at h
  rw [h.1, h.2]
theorem pD_lay (p : Int × Int) : (pD p).canLay0 = true := by simp [pD, PyData.canLay0, PyData.canLayAll0]
theorem pD_alike (p q : Int × Int) : PySem.W.alike (pD p) (pD q) = true := by simp [pD, PySem.W.alike, PySem.W.alikeAll]
theorem pD_depth : ∀ ps : List (Int × Int), PyData.depthAll (ps.map pD) ≤ 1
  | [] => Nat.zero_le _
  | p :: r => by
    have := pD_depth r
    simp only [List.map_cons, PyData.depthAll, pD, PyData.depth] at *
    omega
theorem dpAll_of {K : PySem.W.Frag} {H : Hp} {α : Type} {f : α → PyData} : ∀ {xs : List V} {ps : List α}, Paired (fun x p => Dp K H x (f p)) xs ps → DpAll K H xs (ps.map f)
  | _, _, .nil => .nil
  | _, _, .cons h t => .cons h (dpAll_of t)
theorem paired_get {α β : Type} {F : α → β → Prop} : ∀ {l₁ : List α} {l₂ : List β} {i : Nat} {x : α}, Paired F l₁ l₂ → l₁[i]? = some x → ∃ y, l₂[i]? = some y ∧ F x y
  | _, _, 0, _, .cons h _, e => by
    simp at e
    subst e
    exact ⟨_, rfl, h⟩
  | _, _, i + 1, x, .cons _ t, e => by
    obtain ⟨y, h1, h2⟩ := paired_get (i := i) (x := x) t (by simpa using e)
    exact ⟨y, by simpa using h1, h2⟩
def rMinP (K : PySem.W.Frag) : List V → Hp → VK → Prop := fun vs H Q => ∃ (a : Addr) (xs : List V) (p : Int × Int) (ps : List (Int × Int)), vs = [V.ref a] ∧ SqL K H a xs ∧ Paired (fun x p => Dp K H x (pD p)) xs (p :: ps) ∧
  ∀ (i : Nat) (x : V) (m : Int × Int), xs[i]? = some x → (p :: ps)[i]? = some m → (∀ q ∈ p :: ps, lexLe m q) → Q x H
theorem cr_minP (hc : X.calm = true) (hu : X.A.units + 65 < cLine) : CallR X (.builtin "min") (rMinP X.K) := by
  intro pins s σ H vs us Q I r h
  obtain ⟨a, xs, p, ps, rfl, hs, hp, q⟩ := h
  obtain ⟨its, rv, hl, _⟩ := I.list hs
  rw [Vals.ref1 r]
  have hd : Dp X.K H (.ref a) (.list ((p :: ps).map pD)) := .lst hs (dpAll_of hp)
  obtain ⟨as, rd⟩ := Dp.reads I _ _ (Value.ref a) hd rfl
  obtain ⟨o, ho, hcl, n, hdt⟩ := hl.isList
  have ra : ∃ bs, ReadsAll s.heap its.toArray.toList ((p :: ps).map pD) bs := by
    cases rd with
    | list h1 h2 h3 h4 =>
      rw [ho] at h1
      cases h1
      rw [hdt] at h3
      cases h3
      exact ⟨_, h4⟩
  obtain ⟨bs, ra⟩ := ra
  have al : PySem.W.AlikeAll ((p :: ps).map pD) := by
    refine ⟨fun x hx y hy => ?_, fun x hx => ?_⟩
    · obtain ⟨x', _, rfl⟩ := List.mem_map.mp hx
      obtain ⟨y', _, rfl⟩ := List.mem_map.mp hy
      exact pD_alike _ _
    · obtain ⟨x', _, rfl⟩ := List.mem_map.mp hx
      exact fun z => by cases z
  have dep := pD_depth (p :: ps)
  refine PySem.W.min_list_data (x := pD p) (xs := ps.map pD) (I.ok.hd hc) hl.isList ra al (by have : PyData.depthAll (pD p :: ps.map pD) ≤ 1 := dep; omega) fun i v h' tk bs' hv hr hk => ?_
  obtain ⟨m, e1, e2, e3⟩ := minD_pD ps p
  rw [e1] at hr
  have hv' : its[i]? = some v := by simpa using hv
  have hlen := rv.length
  have hi : i < its.length := (List.getElem?_eq_some_iff.mp hv').1
  have hx : xs[i]? = some (xs[i]'(by omega)) := List.getElem?_eq_getElem _
  obtain ⟨u, hu1, hu2⟩ := rv.get hx
  rw [hv'] at hu1
  cases hu1
  obtain ⟨pi, hpi, dpi⟩ := paired_get hp hx
  have I2 : Inv X pins σ H { s with heap := h', toks := tk } := I.kept hk
  obtain ⟨cs, rr⟩ := Dp.reads I2 _ _ v dpi hu2
  have em : pD m = pD pi := SeqAt.Reads.unique _ _ _ _ _ (pD_lay m) hr rr
  have em := pD_inj em
  subst em
  exact ⟨_, H, I2, hu2, q i _ m hx hpi e3⟩
end
/-! ### rules within a comprehension's block: the written part by its name -/
section
variable {X : Cx} {K : PySem.W.Frag}
theorem ix_listK (hK : X.K = K := by rfl) : IxR X (rIxL K) := by subst hK; exact ix_list
theorem ix_tupK (hK : X.K = K := by rfl) : IxR X (rIxT K) := by subst hK; exact ix_tup
theorem sl_tupK (hK : X.K = K := by rfl) : SlR X (rSlT K) := by subst hK; exact sl_tup
theorem pe_fldK {e : Expr} {f : Str} {pos : Pos} {ta : TE} (he : PE X e ta) (hb : attributeBase e f X.env (eval e X.env) = eval e X.env) (hK : X.K = K := by rfl) : PE X (.Attribute e f pos) (tFld K ta f) := by subst hK; exact pe_fld he hb
theorem pg_tupK {es : List Expr} {k : Nat} {pos : Pos} {t : TGs} {n : Nat} (hc : X.calm = true) (h : PGs X es t) (hn : (assignEach es X.env).length = n := by rfl) (hst : (assignEach es X.env).findIdx? (·.1) = none := by rfl) (hK : X.K = K := by rfl) :
    PG X (.Tuple es k pos) (gTup K n t) := by subst hK; exact pg_tup hc h hn hst
end
end Qf
/-! Trees, and the rows that tell them: plain Lean. -/
namespace Qf
abbrev Row := List Nat
/-- a square: empty, full, four quarters -/
inductive Qt where
  | e | f | n (a b c d : Qt)
  deriving DecidableEq
namespace Qt
def ht : Qt → Nat
  | .n a b c d => max (max a.ht b.ht) (max c.ht d.ht) + 1
  | _ => 0
def lvs : Qt → Nat
  | .n a b c d => a.lvs + b.lvs + c.lvs + d.lvs
  | _ => 1
/-- how many nodes -/
def sz : Qt → Nat
  | .n a b c d => a.sz + b.sz + c.sz + d.sz + 1
  | _ => 1
end Qt
/-- four quarters, plain ones joined -/
def mk (a b c d : Qt) : Qt := if a = .e ∧ b = .e ∧ c = .e ∧ d = .e then .e else if a = .f ∧ b = .f ∧ c = .f ∧ d = .f then .f else .n a b c d
def Plain4 (a b c d : Qt) : Prop := (a = .e ∧ b = .e ∧ c = .e ∧ d = .e) ∨ (a = .f ∧ b = .f ∧ c = .f ∧ d = .f)
instance (a b c d : Qt) : Decidable (Plain4 a b c d) := inferInstanceAs (Decidable ((a = .e ∧ b = .e ∧ c = .e ∧ d = .e) ∨ (a = .f ∧ b = .f ∧ c = .f ∧ d = .f)))
def Canon : Qt → Prop
  | .n a b c d => ¬ Plain4 a b c d ∧ Canon a ∧ Canon b ∧ Canon c ∧ Canon d
  | _ => True
theorem mk_n {a b c d : Qt} (h : ¬ Plain4 a b c d) : mk a b c d = .n a b c d := by
  unfold mk
  rw [if_neg fun z => h (.inl z), if_neg fun z => h (.inr z)]
theorem mk_e : mk .e .e .e .e = .e := by simp [mk]
theorem mk_f : mk .f .f .f .f = .f := by simp [mk]
theorem mk_canon {a b c d : Qt} (ha : Canon a) (hb : Canon b) (hc : Canon c) (hd : Canon d) : Canon (mk a b c d) := by
  by_cases h : Plain4 a b c d
  · rcases h with ⟨rfl, rfl, rfl, rfl⟩ | ⟨rfl, rfl, rfl, rfl⟩
    · rw [mk_e]; trivial
    · rw [mk_f]; trivial
  · rw [mk_n h]
    exact ⟨h, ha, hb, hc, hd⟩
theorem mk_ht {a b c d : Qt} {k : Nat} (ha : a.ht ≤ k) (hb : b.ht ≤ k) (hc : c.ht ≤ k) (hd : d.ht ≤ k) : (mk a b c d).ht ≤ k + 1 := by
  by_cases h : Plain4 a b c d
  · rcases h with ⟨rfl, rfl, rfl, rfl⟩ | ⟨rfl, rfl, rfl, rfl⟩
    · rw [mk_e]; exact Nat.zero_le _
    · rw [mk_f]; exact Nat.zero_le _
  · rw [mk_n h]
    show max (max a.ht b.ht) (max c.ht d.ht) + 1 ≤ k + 1
    omega
/-- the tree of a square of size k at (r, c), F its full cells -/
def tree (F : Nat → Nat → Bool) : Nat → Nat → Nat → Qt
  | 0, r, c => if F r c = true then .f else .e
  | k + 1, r, c => mk (tree F k r c) (tree F k r (c + 2 ^ k)) (tree F k (r + 2 ^ k) c) (tree F k (r + 2 ^ k) (c + 2 ^ k))
theorem tree_canon (F : Nat → Nat → Bool) : ∀ k r c, Canon (tree F k r c)
  | 0, r, c => by
    unfold tree
    split <;> trivial
  | k + 1, r, c => mk_canon (tree_canon F k _ _) (tree_canon F k _ _) (tree_canon F k _ _) (tree_canon F k _ _)
theorem tree_ht (F : Nat → Nat → Bool) : ∀ k r c, (tree F k r c).ht ≤ k
  | 0, r, c => by
    unfold tree
    split <;> exact Nat.zero_le _
  | k + 1, r, c => mk_ht (tree_ht F k _ _) (tree_ht F k _ _) (tree_ht F k _ _) (tree_ht F k _ _)
theorem tree_congr {F G : Nat → Nat → Bool} : ∀ k r c, (∀ i j, r ≤ i → i < r + 2 ^ k → c ≤ j → j < c + 2 ^ k → F i j = G i j) → tree F k r c = tree G k r c
  | 0, r, c, h => by
    unfold tree
    rw [h r c (Nat.le_refl _) (by omega) (Nat.le_refl _) (by omega)]
  | k + 1, r, c, h => by
    have e : 2 ^ (k + 1) = 2 ^ k + 2 ^ k := by rw [Nat.pow_succ]; omega
    unfold tree
    rw [tree_congr k r c fun i j a b c d => h i j (by omega) (by omega) (by omega) (by omega),
      tree_congr k r (c + 2 ^ k) fun i j a b c d => h i j (by omega) (by omega) (by omega) (by omega),
      tree_congr k (r + 2 ^ k) c fun i j a b c d => h i j (by omega) (by omega) (by omega) (by omega),
      tree_congr k (r + 2 ^ k) (c + 2 ^ k) fun i j a b c d => h i j (by omega) (by omega) (by omega) (by omega)]
/-- all empty -/
theorem tree_e {F : Nat → Nat → Bool} : ∀ k r c, tree F k r c = .e ↔ ∀ i j, r ≤ i → i < r + 2 ^ k → c ≤ j → j < c + 2 ^ k → F i j = false
  | 0, r, c => by
    unfold tree
    constructor
    · intro h i j h1 h2 h3 h4
      have e1 : i = r := by omega
      have e2 : j = c := by omega
      subst e1 e2
      cases q : F i j with
      | false => rfl
      | true => rw [if_pos q] at h; cases h
    · intro h
      rw [if_neg (by rw [h r c (Nat.le_refl _) (by omega) (Nat.le_refl _) (by omega)]; exact Bool.false_ne_true)]
  | k + 1, r, c => by
    have e : 2 ^ (k + 1) = 2 ^ k + 2 ^ k := by rw [Nat.pow_succ]; omega
    unfold tree
    constructor
    · intro h
      have h4 : tree F k r c = .e ∧ tree F k r (c + 2 ^ k) = .e ∧ tree F k (r + 2 ^ k) c = .e ∧ tree F k (r + 2 ^ k) (c + 2 ^ k) = .e := by
        unfold mk at h
        split at h
        · assumption
        · split at h <;> cases h
      obtain ⟨h1, h2, h3, h4⟩ := h4
      rw [tree_e k] at h1 h2 h3 h4
      intro i j a b p q
      by_cases hi : i < r + 2 ^ k
      · by_cases hj : j < c + 2 ^ k
        · exact h1 i j a hi p hj
        · exact h2 i j a hi (by omega) (by omega)
      · by_cases hj : j < c + 2 ^ k
        · exact h3 i j (by omega) (by omega) p hj
        · exact h4 i j (by omega) (by omega) (by omega) (by omega)
    · intro h
      rw [(tree_e k r c).mpr fun i j a b p q => h i j (by omega) (by omega) (by omega) (by omega), (tree_e k r (c + 2 ^ k)).mpr fun i j a b p q => h i j (by omega) (by omega) (by omega) (by omega),
        (tree_e k (r + 2 ^ k) c).mpr fun i j a b p q => h i j (by omega) (by omega) (by omega) (by omega), (tree_e k (r + 2 ^ k) (c + 2 ^ k)).mpr fun i j a b p q => h i j (by omega) (by omega) (by omega) (by omega), mk_e]
/-- all full -/
theorem tree_f {F : Nat → Nat → Bool} : ∀ k r c, tree F k r c = .f ↔ ∀ i j, r ≤ i → i < r + 2 ^ k → c ≤ j → j < c + 2 ^ k → F i j = true
  | 0, r, c => by
    unfold tree
    constructor
    · intro h i j h1 h2 h3 h4
      have e1 : i = r := by omega
      have e2 : j = c := by omega
      subst e1 e2
      cases q : F i j with
      | true => rfl
      | false => rw [if_neg (by rw [q]; exact Bool.false_ne_true)] at h; cases h
    · intro h
      rw [if_pos (h r c (Nat.le_refl _) (by omega) (Nat.le_refl _) (by omega))]
  | k + 1, r, c => by
    have e : 2 ^ (k + 1) = 2 ^ k + 2 ^ k := by rw [Nat.pow_succ]; omega
    unfold tree
    constructor
    · intro h
      have h4 : tree F k r c = .f ∧ tree F k r (c + 2 ^ k) = .f ∧ tree F k (r + 2 ^ k) c = .f ∧ tree F k (r + 2 ^ k) (c + 2 ^ k) = .f := by
        unfold mk at h
        split at h
        · cases h
        · split at h
          · assumption
          · cases h
      obtain ⟨h1, h2, h3, h4⟩ := h4
      rw [tree_f k] at h1 h2 h3 h4
      intro i j a b p q
      by_cases hi : i < r + 2 ^ k
      · by_cases hj : j < c + 2 ^ k
        · exact h1 i j a hi p hj
        · exact h2 i j a hi (by omega) (by omega)
      · by_cases hj : j < c + 2 ^ k
        · exact h3 i j (by omega) (by omega) p hj
        · exact h4 i j (by omega) (by omega) (by omega) (by omega)
    · intro h
      rw [(tree_f k r c).mpr fun i j a b p q => h i j (by omega) (by omega) (by omega) (by omega), (tree_f k r (c + 2 ^ k)).mpr fun i j a b p q => h i j (by omega) (by omega) (by omega) (by omega),
        (tree_f k (r + 2 ^ k) c).mpr fun i j a b p q => h i j (by omega) (by omega) (by omega) (by omega), (tree_f k (r + 2 ^ k) (c + 2 ^ k)).mpr fun i j a b p q => h i j (by omega) (by omega) (by omega) (by omega), mk_f]
/-! ### rows kept: a store is the list of its trees -/
/-- known in a store -/
def Kn (T : List Qt) (t : Qt) : Prop := t = .e ∨ t = .f ∨ t ∈ T
def num (T : List Qt) : Qt → Nat
  | .e => 0
  | .f => 1
  | t => T.idxOf t + 2
def rowOf (T : List Qt) : Qt → Row
  | .n a b c d => [num T a, num T b, num T c, num T d]
  | _ => []
def rowsOf (T : List Qt) : List Row := T.map (rowOf T)
/-- a store: no two alike, quarters ahead of their square -/
structure St (T : List Qt) : Prop where
  nd : T.Nodup
  ch : ∀ i t, T[i]? = some t → ∃ a b c d, t = .n a b c d ∧ ¬ Plain4 a b c d ∧ Kn (T.take i) a ∧ Kn (T.take i) b ∧ Kn (T.take i) c ∧ Kn (T.take i) d
theorem St.nil : St [] := ⟨List.nodup_nil, fun i t h => by simp at h⟩
theorem num_e (T : List Qt) : num T .e = 0 := rfl
theorem num_f (T : List Qt) : num T .f = 1 := rfl
theorem num_n (T : List Qt) (a b c d : Qt) : num T (.n a b c d) = T.idxOf (.n a b c d) + 2 := rfl
theorem Kn.lt {T : List Qt} {t : Qt} (h : Kn T t) : num T t < T.length + 2 := by
  rcases h with rfl | rfl | h
  · show 0 < _; omega
  · show 1 < _; omega
  · have := List.idxOf_lt_length_of_mem h
    cases t with
    | e => show 0 < _; omega
    | f => show 1 < _; omega
    | n a b c d => rw [num_n]; omega
theorem St.notE {T : List Qt} (s : St T) : Qt.e ∉ T := fun h => by
  obtain ⟨i, hi, e⟩ := List.getElem_of_mem h
  obtain ⟨a, b, c, d, q, _⟩ := s.ch i .e (by rw [List.getElem?_eq_getElem hi, e])
  cases q
theorem St.notF {T : List Qt} (s : St T) : Qt.f ∉ T := fun h => by
  obtain ⟨i, hi, e⟩ := List.getElem_of_mem h
  obtain ⟨a, b, c, d, q, _⟩ := s.ch i .f (by rw [List.getElem?_eq_getElem hi, e])
  cases q
theorem num_inj {T : List Qt} {t u : Qt} (ht : Kn T t) (hu : Kn T u) (h : num T t = num T u) : t = u := by
  have key : ∀ {t : Qt}, Kn T t → t = .e ∧ num T t = 0 ∨ t = .f ∧ num T t = 1 ∨ t ∈ T ∧ num T t = T.idxOf t + 2 := fun {t} h => by
    cases t with
    | e => exact .inl ⟨rfl, rfl⟩
    | f => exact .inr (.inl ⟨rfl, rfl⟩)
    | n a b c d =>
      rcases h with h | h | h
      · cases h
      · cases h
      · exact .inr (.inr ⟨h, rfl⟩)
  rcases key ht with ⟨e1, n1⟩ | ⟨e1, n1⟩ | ⟨m1, n1⟩ <;> rcases key hu with ⟨e2, n2⟩ | ⟨e2, n2⟩ | ⟨m2, n2⟩
  · rw [e1, e2]
  · omega
  · omega
  · omega
  · rw [e1, e2]
  · omega
  · omega
  · omega
  · have e : T.idxOf t = T.idxOf u := by omega
    have h1 := List.getElem_idxOf (List.idxOf_lt_length_of_mem m1)
    have h2 := List.getElem_idxOf (List.idxOf_lt_length_of_mem m2)
    rw [← h1, ← h2]
    simp only [e]
theorem num_zero {T : List Qt} {t : Qt} : num T t = 0 ↔ t = .e := by
  cases t with
  | e => exact ⟨fun _ => rfl, fun _ => rfl⟩
  | f => exact ⟨fun h => (by cases h), fun h => (by cases h)⟩
  | n a b c d => exact ⟨fun h => (by rw [num_n] at h; omega), fun h => (by cases h)⟩
theorem num_one {T : List Qt} {t : Qt} : num T t = 1 ↔ t = .f := by
  cases t with
  | e => exact ⟨fun h => (by cases h), fun h => (by cases h)⟩
  | f => exact ⟨fun _ => rfl, fun _ => rfl⟩
  | n a b c d => exact ⟨fun h => (by rw [num_n] at h; omega), fun h => (by cases h)⟩
/-- the number stands when the store grows -/
theorem num_app {T : List Qt} {t : Qt} (S : List Qt) (h : Kn T t) : num (T ++ S) t = num T t := by
  cases t with
  | e => rfl
  | f => rfl
  | n a b c d =>
    rcases h with h | h | h
    · cases h
    · cases h
    · rw [num_n, num_n, List.idxOf_append, if_pos h]
theorem Kn.app {T : List Qt} {t : Qt} (S : List Qt) (h : Kn T t) : Kn (T ++ S) t := by
  rcases h with h | h | h
  · exact .inl h
  · exact .inr (.inl h)
  · exact .inr (.inr (List.mem_append_left _ h))
theorem Kn.of_take {T : List Qt} {t : Qt} {i : Nat} (h : Kn (T.take i) t) : Kn T t := by
  have := h.app (T.drop i)
  rwa [List.take_append_drop] at this
theorem num_take {T : List Qt} {t : Qt} {i : Nat} (h : Kn (T.take i) t) : num T t = num (T.take i) t := by
  have := num_app (T.drop i) h
  rwa [List.take_append_drop] at this
/-- one more square -/
instance (T : List Qt) (t : Qt) : Decidable (Kn T t) := inferInstanceAs (Decidable (t = .e ∨ t = .f ∨ t ∈ T))
def add (T : List Qt) (t : Qt) : List Qt := if Kn T t then T else T ++ [t]
theorem add_eq {T : List Qt} {t : Qt} (h : Kn T t) : add T t = T := if_pos h
theorem add_ne {T : List Qt} {t : Qt} (h : ¬ Kn T t) : add T t = T ++ [t] := if_neg h
theorem add_ext (T : List Qt) (t : Qt) : ∃ S, add T t = T ++ S := by
  by_cases h : Kn T t
  · exact ⟨[], by rw [add_eq h, List.append_nil]⟩
  · exact ⟨[t], add_ne h⟩
theorem add_kn (T : List Qt) (t : Qt) : Kn (add T t) t := by
  by_cases h : Kn T t
  · rw [add_eq h]; exact h
  · rw [add_ne h]; exact .inr (.inr (List.mem_append_right _ (List.mem_singleton.mpr rfl)))
theorem kn_n {T : List Qt} {a b c d : Qt} : Kn T (.n a b c d) ↔ Qt.n a b c d ∈ T := by
  constructor
  · rintro (h | h | h)
    · cases h
    · cases h
    · exact h
  · exact fun h => .inr (.inr h)
theorem St.add {T : List Qt} (s : St T) {a b c d : Qt} (h : ¬ Plain4 a b c d) (ha : Kn T a) (hb : Kn T b) (hc : Kn T c) (hd : Kn T d) : St (add T (.n a b c d)) := by
  by_cases hn : Kn T (.n a b c d)
  · rw [add_eq hn]; exact s
  · rw [add_ne hn]
    rw [kn_n] at hn
    refine ⟨?_, fun i t e => ?_⟩
    · rw [List.nodup_append]
      exact ⟨s.nd, by simp, fun x hx y hy z => hn (by rw [List.mem_singleton] at hy; subst hy; subst z; exact hx)⟩
    · by_cases hi : i < T.length
      · rw [List.getElem?_append_left hi] at e
        obtain ⟨a', b', c', d', q, r1, r2, r3, r4, r5⟩ := s.ch i t e
        rw [List.take_append_of_le_length (Nat.le_of_lt hi)]
        exact ⟨a', b', c', d', q, r1, r2, r3, r4, r5⟩
      · rw [List.getElem?_append_right (by omega)] at e
        have hz : i - T.length = 0 := by
          cases hk : i - T.length with
          | zero => rfl
          | succ m => rw [hk] at e; simp at e
        rw [hz] at e
        have et : Qt.n a b c d = t := by simpa using e
        have ei : i = T.length := by omega
        subst et ei
        rw [List.take_left']
        · exact ⟨a, b, c, d, rfl, h, ha, hb, hc, hd⟩
        · rfl
/-- the squares below a square, each behind its quarters -/
def post : Qt → List Qt → List Qt
  | .n a b c d, T => add (post d (post c (post b (post a T)))) (.n a b c d)
  | _, T => T
theorem post_ext : ∀ (t : Qt) (T : List Qt), ∃ S, post t T = T ++ S
  | .e, T => ⟨[], (List.append_nil _).symm⟩
  | .f, T => ⟨[], (List.append_nil _).symm⟩
  | .n a b c d, T => by
    obtain ⟨s1, e1⟩ := post_ext a T
    obtain ⟨s2, e2⟩ := post_ext b (post a T)
    obtain ⟨s3, e3⟩ := post_ext c (post b (post a T))
    obtain ⟨s4, e4⟩ := post_ext d (post c (post b (post a T)))
    obtain ⟨s5, e5⟩ := add_ext (post d (post c (post b (post a T)))) (.n a b c d)
    refine ⟨s1 ++ s2 ++ s3 ++ s4 ++ s5, ?_⟩
    unfold post
    rw [e5, e4, e3, e2, e1]
    simp only [List.append_assoc]
theorem post_kn (t : Qt) (T : List Qt) : Kn (post t T) t := by
  cases t with
  | e => exact .inl rfl
  | f => exact .inr (.inl rfl)
  | n a b c d => exact add_kn _ _
theorem Kn.post {T : List Qt} {t : Qt} (u : Qt) (h : Kn T t) : Kn (post u T) t := by
  obtain ⟨s, e⟩ := post_ext u T
  rw [e]
  exact h.app s
theorem num_post {T : List Qt} {t : Qt} (u : Qt) (h : Kn T t) : num (post u T) t = num T t := by
  obtain ⟨s, e⟩ := post_ext u T
  rw [e]
  exact num_app s h
theorem St.post : ∀ (t : Qt) {T : List Qt}, St T → Canon t → St (post t T)
  | .e, T, s, _ => s
  | .f, T, s, _ => s
  | .n a b c d, T, s, h => by
    obtain ⟨h0, ha, hb, hc, hd⟩ := h
    have s1 := St.post a s ha
    have s2 := St.post b s1 hb
    have s3 := St.post c s2 hc
    have s4 := St.post d s3 hd
    exact s4.add h0 ((((post_kn a T).post b).post c).post d) (((post_kn b _).post c).post d) ((post_kn c _).post d) (post_kn d _)
/-- known squares add nothing -/
theorem post_of_mem : ∀ (t : Qt) {T : List Qt}, St T → Kn T t → post t T = T
  | .e, T, _, _ => rfl
  | .f, T, _, _ => rfl
  | .n a b c d, T, s, h => by
    have h : Qt.n a b c d ∈ T := by
      rcases h with h | h | h
      · cases h
      · cases h
      · exact h
    obtain ⟨i, hi, e⟩ := List.getElem_of_mem h
    obtain ⟨a', b', c', d', q, _, ha, hb, hc, hd⟩ := s.ch i _ (by rw [List.getElem?_eq_getElem hi, e])
    cases q
    unfold post
    rw [post_of_mem a s ha.of_take, post_of_mem b s hb.of_take, post_of_mem c s hc.of_take, post_of_mem d s hd.of_take]
    exact add_eq (kn_n.mpr h)
theorem rowsOf_len (T : List Qt) : (rowsOf T).length = T.length := List.length_map ..
/-- rows stand when the store grows -/
theorem rowOf_app {T : List Qt} (S : List Qt) {a b c d : Qt} (ha : Kn T a) (hb : Kn T b) (hc : Kn T c) (hd : Kn T d) : rowOf (T ++ S) (.n a b c d) = rowOf T (.n a b c d) := by
  show [num _ a, num _ b, num _ c, num _ d] = [num _ a, num _ b, num _ c, num _ d]
  rw [num_app S ha, num_app S hb, num_app S hc, num_app S hd]
theorem rowsOf_app {T : List Qt} (s : St T) (S : List Qt) : rowsOf (T ++ S) = rowsOf T ++ S.map (rowOf (T ++ S)) := by
  unfold rowsOf
  rw [List.map_append]
  congr 1
  refine List.map_congr_left fun t ht => ?_
  obtain ⟨i, hi, e⟩ := List.getElem_of_mem ht
  obtain ⟨a, b, c, d, q, _, ha, hb, hc, hd⟩ := s.ch i t (by rw [List.getElem?_eq_getElem hi, e])
  subst q
  exact rowOf_app S ha.of_take hb.of_take hc.of_take hd.of_take
theorem rowsOf_add {T : List Qt} (s : St T) {a b c d : Qt} (h : Qt.n a b c d ∉ T) (ha : Kn T a) (hb : Kn T b) (hc : Kn T c) (hd : Kn T d) : rowsOf (add T (.n a b c d)) = rowsOf T ++ [[num T a, num T b, num T c, num T d]] := by
  rw [add_ne (fun z => h (kn_n.mp z)), rowsOf_app s]
  show _ ++ [rowOf (T ++ [Qt.n a b c d]) (.n a b c d)] = _
  rw [rowOf_app _ ha hb hc hd]
  rfl
/-- the i-th row -/
theorem rowsOf_get {T : List Qt} {i : Nat} {t : Qt} (h : T[i]? = some t) : (rowsOf T)[i]? = some (rowOf T t) := by
  unfold rowsOf
  rw [List.getElem?_map, h]
  rfl
theorem row_inj {T : List Qt} {a b c d a' b' c' d' : Qt} (ha : Kn T a) (hb : Kn T b) (hc : Kn T c) (hd : Kn T d) (ha' : Kn T a') (hb' : Kn T b') (hc' : Kn T c') (hd' : Kn T d')
    (h : [num T a, num T b, num T c, num T d] = [num T a', num T b', num T c', num T d']) : Qt.n a b c d = .n a' b' c' d' := by
  injection h with h1 h
  injection h with h2 h
  injection h with h3 h
  injection h with h4 _
  rw [num_inj ha ha' h1, num_inj hb hb' h2, num_inj hc hc' h3, num_inj hd hd' h4]
theorem row_mem {T : List Qt} (s : St T) {a b c d : Qt} (ha : Kn T a) (hb : Kn T b) (hc : Kn T c) (hd : Kn T d) : [num T a, num T b, num T c, num T d] ∈ rowsOf T ↔ Qt.n a b c d ∈ T := by
  constructor
  · intro h
    obtain ⟨t, ht, e⟩ := List.mem_map.mp h
    obtain ⟨i, hi, ei⟩ := List.getElem_of_mem ht
    obtain ⟨a', b', c', d', q, _, ha', hb', hc', hd'⟩ := s.ch i t (by rw [List.getElem?_eq_getElem hi, ei])
    subst q
    have := row_inj ha hb hc hd ha'.of_take hb'.of_take hc'.of_take hd'.of_take e.symm
    rw [this]
    exact ht
  · intro h
    exact List.mem_map.mpr ⟨_, h, rfl⟩
theorem rowsOf_nodup {T : List Qt} (s : St T) : (rowsOf T).Nodup := by
  unfold rowsOf
  have nd := s.nd
  rw [List.Nodup, List.pairwise_map]
  refine List.Pairwise.imp_of_mem (fun {x y} hx hy hne e => ?_) nd
  obtain ⟨i, hi, ei⟩ := List.getElem_of_mem hx
  obtain ⟨a, b, c, d, q, _, ha, hb, hc, hd⟩ := s.ch i x (by rw [List.getElem?_eq_getElem hi, ei])
  obtain ⟨j, hj, ej⟩ := List.getElem_of_mem hy
  obtain ⟨a', b', c', d', q', _, ha', hb', hc', hd'⟩ := s.ch j y (by rw [List.getElem?_eq_getElem hj, ej])
  subst q q'
  exact hne (row_inj ha.of_take hb.of_take hc.of_take hd.of_take ha'.of_take hb'.of_take hc'.of_take hd'.of_take e)
theorem row_idx {T : List Qt} (s : St T) {t : Qt} (h : t ∈ T) : (rowsOf T).idxOf (rowOf T t) = T.idxOf t := by
  have hi := List.idxOf_lt_length_of_mem h
  have e : (rowsOf T)[T.idxOf t]? = some (rowOf T t) := rowsOf_get (by rw [List.getElem?_eq_getElem hi, List.getElem_idxOf])
  obtain ⟨hj, e2⟩ := List.getElem?_eq_some_iff.mp e
  rw [← e2]
  exact (rowsOf_nodup s).idxOf_getElem _ _
theorem mem_add {T : List Qt} {t u : Qt} (h : u ∈ add T t) : u ∈ T ∨ u = t := by
  by_cases k : Kn T t
  · rw [add_eq k] at h; exact .inl h
  · rw [add_ne k] at h
    rcases List.mem_append.mp h with h | h
    · exact .inl h
    · exact .inr (List.mem_singleton.mp h)
theorem mem_post_ht : ∀ (x : Qt) {L : List Qt} {u : Qt}, u ∈ post x L → u ∈ L ∨ u.ht ≤ x.ht
  | .e, L, u, h => .inl h
  | .f, L, u, h => .inl h
  | .n a b c d, L, u, h => by
    have e : (Qt.n a b c d).ht = max (max a.ht b.ht) (max c.ht d.ht) + 1 := rfl
    rcases mem_add h with h | h
    · rcases mem_post_ht d h with h | h
      · rcases mem_post_ht c h with h | h
        · rcases mem_post_ht b h with h | h
          · rcases mem_post_ht a h with h | h
            · exact .inl h
            · exact .inr (by omega)
          · exact .inr (by omega)
        · exact .inr (by omega)
      · exact .inr (by omega)
    · subst h; exact .inr (Nat.le_refl _)
theorem St.sub {T : List Qt} (s : St T) {a b c d : Qt} (h : Qt.n a b c d ∈ T) : Kn T a ∧ Kn T b ∧ Kn T c ∧ Kn T d ∧ ¬ Plain4 a b c d := by
  obtain ⟨i, hi, e⟩ := List.getElem_of_mem h
  obtain ⟨a', b', c', d', q, hp, ha, hb, hc, hd⟩ := s.ch i _ (by rw [List.getElem?_eq_getElem hi, e])
  cases q
  exact ⟨ha.of_take, hb.of_take, hc.of_take, hd.of_take, hp⟩
theorem kn_post {T : List Qt} (s : St T) : ∀ (t : Qt) {L : List Qt} {u : Qt}, Kn T t → u ∈ post t L → u ∈ L ∨ Kn T u
  | .e, L, u, _, h => .inl h
  | .f, L, u, _, h => .inl h
  | .n a b c d, L, u, k, h => by
    obtain ⟨ka, kb, kc, kd, _⟩ := s.sub (kn_n.mp k)
    rcases mem_add h with h | h
    · rcases kn_post s d kd h with h | h
      · rcases kn_post s c kc h with h | h
        · rcases kn_post s b kb h with h | h
          · exact kn_post s a ka h
          · exact .inr h
        · exact .inr h
      · exact .inr h
    · subst h; exact .inr k
/-- a square stands behind its quarters: when it is new -/
theorem post_new {a b c d : Qt} {L : List Qt} (h : Qt.n a b c d ∉ L) : Qt.n a b c d ∉ post d (post c (post b (post a L))) := by
  have e : (Qt.n a b c d).ht = max (max a.ht b.ht) (max c.ht d.ht) + 1 := rfl
  intro z
  rcases mem_post_ht d z with z | z
  · rcases mem_post_ht c z with z | z
    · rcases mem_post_ht b z with z | z
      · rcases mem_post_ht a z with z | z
        · exact h z
        · omega
      · omega
    · omega
  · omega
theorem post_len (t : Qt) (L : List Qt) : L.length ≤ (post t L).length := by
  obtain ⟨s, e⟩ := post_ext t L
  rw [e, List.length_append]
  omega
/-! ### leaves: addresses, whether full -/
def lvA : Qt → List Nat → List (List Nat × Bool)
  | .e, ad => [(ad, false)]
  | .f, ad => [(ad, true)]
  | .n a b c d, ad => lvA a (ad ++ [0]) ++ (lvA b (ad ++ [1]) ++ (lvA c (ad ++ [2]) ++ lvA d (ad ++ [3])))
theorem lvA_len : ∀ (t : Qt) (ad : List Nat), (lvA t ad).length = t.lvs
  | .e, _ => rfl
  | .f, _ => rfl
  | .n a b c d, ad => by
    show (lvA a _ ++ (lvA b _ ++ (lvA c _ ++ lvA d _))).length = a.lvs + b.lvs + c.lvs + d.lvs
    rw [List.length_append, List.length_append, List.length_append, lvA_len, lvA_len, lvA_len, lvA_len]
    omega
/-- what fits a floor of size n -/
structure Fit (n : Nat) (t : Qt) : Prop where
  n6 : n ≤ 6
  can : Canon t
  ht : t.ht ≤ n
  len : (post t []).length ≤ 40000
/-! ### addresses and boxes -/
/-- one figure more -/
def stepB (b : Nat × Nat × Nat) (d : Nat) : Nat × Nat × Nat := (b.1 + 2 ^ (b.2.2 - 1) * (d / 2), b.2.1 + 2 ^ (b.2.2 - 1) * (d % 2), b.2.2 - 1)
/-- first row, first column, size of the square at an address -/
def boxA (n : Nat) (ds : List Nat) : Nat × Nat × Nat := ds.foldl stepB (0, 0, n)
theorem boxA_snoc (n : Nat) (ds : List Nat) (d : Nat) : boxA n (ds ++ [d]) = stepB (boxA n ds) d := by unfold boxA; rw [List.foldl_append]; rfl
theorem boxA_k (n : Nat) (ds : List Nat) : (boxA n ds).2.2 = n - ds.length := by
  have : ∀ (ds : List Nat) (b : Nat × Nat × Nat), (ds.foldl stepB b).2.2 = b.2.2 - ds.length := by
    intro ds
    induction ds with
    | nil => intro b; rfl
    | cons d r ih => intro b; rw [List.foldl_cons, ih, List.length_cons]; show b.2.2 - 1 - r.length = _; omega
  exact this ds _
theorem boxA_le (n : Nat) (ds : List Nat) (hf : ∀ d ∈ ds, d < 4) : ds.length ≤ n → (boxA n ds).1 + 2 ^ (n - ds.length) ≤ 2 ^ n ∧ (boxA n ds).2.1 + 2 ^ (n - ds.length) ≤ 2 ^ n := by
  have : ∀ (ds : List Nat), (∀ d ∈ ds, d < 4) → ∀ (r c k : Nat), ds.length ≤ k → (ds.foldl stepB (r, c, k)).1 + 2 ^ (k - ds.length) ≤ r + 2 ^ k ∧ (ds.foldl stepB (r, c, k)).2.1 + 2 ^ (k - ds.length) ≤ c + 2 ^ k := by
    intro ds
    induction ds with
    | nil => intro _ r c k _; exact ⟨Nat.le_refl _, Nat.le_refl _⟩
    | cons d t ih =>
      intro hf r c k hk
      rw [List.length_cons] at hk
      obtain ⟨m, rfl⟩ : ∃ m, k = m + 1 := ⟨k - 1, by omega⟩
      have hd := hf d List.mem_cons_self
      have := ih (fun d hd => hf d (List.mem_cons_of_mem _ hd)) (r + 2 ^ m * (d / 2)) (c + 2 ^ m * (d % 2)) m (by omega)
      rw [List.foldl_cons, List.length_cons]
      have e1 : m + 1 - (t.length + 1) = m - t.length := by omega
      have e2 : 2 ^ (m + 1) = 2 ^ m + 2 ^ m := by rw [Nat.pow_succ]; omega
      rw [e1, e2]
      have h1 : 2 ^ m * (d / 2) ≤ 2 ^ m := by
        have : d / 2 ≤ 1 := by omega
        calc 2 ^ m * (d / 2) ≤ 2 ^ m * 1 := Nat.mul_le_mul_left _ this
          _ = 2 ^ m := Nat.mul_one _
      have h2 : 2 ^ m * (d % 2) ≤ 2 ^ m := by
        have : d % 2 ≤ 1 := by omega
        calc 2 ^ m * (d % 2) ≤ 2 ^ m * 1 := Nat.mul_le_mul_left _ this
          _ = 2 ^ m := Nat.mul_one _
      show (t.foldl stepB (r + 2 ^ m * (d / 2), c + 2 ^ m * (d % 2), m)).1 + _ ≤ _ ∧ (t.foldl stepB (r + 2 ^ m * (d / 2), c + 2 ^ m * (d % 2), m)).2.1 + _ ≤ _
      omega
  intro hl
  have h := this ds hf 0 0 n hl
  rw [Nat.zero_add] at h
  exact h
end Qf
/-! Heaps, lists of items, comprehensions as a whole. -/
namespace Qf
open PySem PySem.Spec PyProof.Rows L2
theorem hu65_of {A : Around} {k : Nat} (hr : Room k A) : A.units + 65 < cLine := by have := hr.un; omega
def mkSp {α : Type} (args : α → List V) (pre : α → Hp → VK → Prop) : Sp := fun vs H Q _ => ∃ a : α, vs = args a ∧ pre a H Q
theorem ite_d {p : Prop} [Decidable p] {A B : Prop} (h1 : p → A) (h2 : ¬ p → B) : if decide p = true then A else B := by
  by_cases h : p
  · rw [if_pos (decide_eq_true h)]
    exact h1 h
  · rw [if_neg (by rw [decide_eq_false h]; exact Bool.false_ne_true)]
    exact h2 h
theorem ite_b {c : Bool} {A B : Prop} (h1 : c = true → A) (h2 : c = false → B) : if c = true then A else B := by
  cases c with
  | true => rw [if_pos rfl]; exact h1 rfl
  | false => rw [if_neg Bool.false_ne_true]; exact h2 rfl
theorem qbl {Q : VK} {H : Hp} {b c : Bool} (e : b = c) (k : Q (.bl c) H) : Q (.bl b) H := by rw [e]; exact k
theorem qint {Q : VK} {H : Hp} {b c : Int} (e : b = c) (k : Q (.int c) H) : Q (.int b) H := by rw [e]; exact k
theorem qvv {Q : VK} {H : Hp} {x y : V} (e : x = y) (k : Q y H) : Q x H := by rw [e]; exact k
theorem szl {n : Nat} (h : n ≤ 1000000) : n ≤ sizeLine := Nat.le_trans h (by decide)
theorem szL {n : Nat} (h : n < 1000000) : n < sizeLine := Nat.lt_of_lt_of_le h (by decide)
theorem lstOf {K : PySem.W.Frag} {H : Hp} {a : Addr} {xs : List V} (h : H a = some (.lst xs)) : SqL K H a xs := Or.inl (Or.inl h)
theorem tupOf {K : PySem.W.Frag} {H : Hp} {a : Addr} {xs : List V} (h : H a = some (.tup xs)) : SqT K H a xs := Or.inl (Or.inl h)
theorem all_map_true {α : Type} {f : α → Bool} : ∀ {l : List α}, (∀ a ∈ l, f a = true) → (l.map f).all id = true
  | [], _ => rfl
  | a :: r, h => by rw [List.map_cons, List.all_cons, all_map_true fun b hb => h b (List.mem_cons_of_mem _ hb), Bool.and_true]; exact h a List.mem_cons_self
theorem filter_tt (n : Nat) : (List.range n).filter (fun _ => true) = List.range n := List.filter_eq_self.mpr fun _ _ => rfl
/-! ### what stands -/
theorem same_new {H : Hp} {p : Addr} {o : HO} (h : H p = none) : Same H (upd H p o) := fun b u e => by rw [upd_ne (ne_of_none e h)]; exact e
theorem sNew {H H' : Hp} {p : Addr} {o : HO} (s : Same H H') (h : H' p = none) : Same H (upd H' p o) := s.trans (same_new h)
/-- all but S stands -/
def Sx (S : List Addr) (H H' : Hp) : Prop := ∀ c o, c ∉ S → H c = some o → H' c = some o
theorem Sx.refl (S : List Addr) (H : Hp) : Sx S H H := fun _ _ _ e => e
theorem Sx.trans {S : List Addr} {H H1 H2 : Hp} (a : Sx S H H1) (b : Sx S H1 H2) : Sx S H H2 := fun c o n e => b c o n (a c o n e)
theorem Sx.mono {S S' : List Addr} {H H' : Hp} (a : Sx S H H') (h : ∀ c ∈ S, c ∈ S') : Sx S' H H' := fun c o n e => a c o (fun z => n (h c z)) e
theorem sxS {S : List Addr} {H H' : Hp} (a : Same H H') : Sx S H H' := fun c o _ e => a c o e
theorem Sx.upd {S : List Addr} {H H' : Hp} {p : Addr} {o : HO} (a : Sx S H H') (h : p ∈ S) : Sx S H (upd H' p o) := fun c u n e => by
  rw [upd_ne fun z => n (by rw [z]; exact h)]
  exact a c u n e
theorem Sx.new {S : List Addr} {H H' : Hp} {p : Addr} {o : HO} (a : Sx S H H') (h : H' p = none) : Sx S H (L2.upd H' p o) := fun c u n e => by
  rw [upd_ne (ne_of_none (a c u n e) h)]
  exact a c u n e
/-- what changed alone is new -/
theorem Sx.same {S : List Addr} {H H' H'' : Hp} (s : Same H H') (a : Sx S H' H'') (h : ∀ c ∈ S, H c = none) : Same H H'' := fun c o e =>
  a c o (fun z => by rw [h c z] at e; cases e) (s c o e)
theorem Sx.sx {S S' : List Addr} {H H' H'' : Hp} (s : Sx S' H H') (a : Sx S H' H'') (h : ∀ c ∈ S, H c = none ∨ c ∈ S') : Sx S' H H'' := fun c o n e =>
  a c o (fun z => by
    rcases h c z with q | q
    · rw [q] at e; cases e
    · exact n q) (s c o n e)
theorem sx_of_same {H H' : Hp} {S : List Addr} (h : Sx S H H') (hS : ∀ c ∈ S, H c = none) : Same H H' := Sx.same (Same.refl H) h hS
theorem Sx.at {S : List Addr} {H H' : Hp} {c : Addr} {o : HO} (a : Sx S H H') (e : H c = some o) (n : c ∉ S) : H' c = some o := a c o n e
/-- unlike objects stand apart -/
theorem nin1 {H : Hp} {c a : Addr} {o u : HO} (h : H c = some o) (h' : H a = some u) (d : o ≠ u) : c ∉ [a] := by
  simp only [List.mem_singleton]
  exact ne_of h h' d
theorem nin2 {H : Hp} {c a b : Addr} {o u v : HO} (h : H c = some o) (h1 : H a = some u) (h2 : H b = some v) (d1 : o ≠ u) (d2 : o ≠ v) : c ∉ [a, b] := by
  simp only [List.mem_cons, List.not_mem_nil, or_false, not_or]
  exact ⟨ne_of h h1 d1, ne_of h h2 d2⟩
/-! ### Paired -/
theorem pr_len {α β : Type} {F : α → β → Prop} {l₁ : List α} {l₂ : List β} (h : Paired F l₁ l₂) : l₁.length = l₂.length := Paired.length h
theorem pr_imp {α β : Type} {F G : α → β → Prop} {l₁ : List α} {l₂ : List β} (h : Paired F l₁ l₂) (f : ∀ a b, a ∈ l₁ → b ∈ l₂ → F a b → G a b) : Paired G l₁ l₂ := by
  induction h with
  | nil => exact .nil
  | cons r t ih => exact .cons (f _ _ List.mem_cons_self List.mem_cons_self r) (ih fun a b ha hb => f a b (List.mem_cons_of_mem _ ha) (List.mem_cons_of_mem _ hb))
theorem pr_get {α β : Type} {F : α → β → Prop} : ∀ {l₁ : List α} {l₂ : List β} {i : Nat} {x : α}, Paired F l₁ l₂ → l₁[i]? = some x → ∃ y, l₂[i]? = some y ∧ F x y := paired_get
theorem pr_get2 {α β : Type} {F : α → β → Prop} : ∀ {l₁ : List α} {l₂ : List β} {i : Nat} {y : β}, Paired F l₁ l₂ → l₂[i]? = some y → ∃ x, l₁[i]? = some x ∧ F x y
  | _, _, 0, _, .cons h _, e => by
    simp at e
    subst e
    exact ⟨_, rfl, h⟩
  | _, _, i + 1, y, .cons _ t, e => by
    obtain ⟨x, h1, h2⟩ := pr_get2 (i := i) (y := y) t (by simpa using e)
    exact ⟨x, by simpa using h1, h2⟩
theorem pr_map_left {α β γ : Type} {F : α → β → Prop} {f : γ → α} : ∀ {l : List γ} {m : List β}, Paired (fun c b => F (f c) b) l m → Paired F (l.map f) m
  | _, _, .nil => .nil
  | _, _, .cons h t => .cons h (pr_map_left t)
theorem pr_map_right {α β γ : Type} {F : α → β → Prop} {f : γ → β} : ∀ {l : List α} {m : List γ}, Paired (fun a c => F a (f c)) l m → Paired F l (m.map f)
  | _, _, .nil => .nil
  | _, _, .cons h t => .cons h (pr_map_right t)
theorem pr_of_map_left {α β γ : Type} {F : α → β → Prop} {f : γ → α} : ∀ {l : List γ} {m : List β}, Paired F (l.map f) m → Paired (fun c b => F (f c) b) l m
  | [], _, .nil => .nil
  | _ :: _, _, .cons h t => .cons h (pr_of_map_left t)
theorem pr_of_map_right {α β γ : Type} {F : α → β → Prop} {f : γ → β} : ∀ {m : List γ} {l : List α}, Paired F l (m.map f) → Paired (fun a c => F a (f c)) l m
  | [], _, .nil => .nil
  | _ :: _, _, .cons h t => .cons h (pr_of_map_right t)
theorem paired_eq {α β : Type} {f : α → β} : ∀ {l : List α} {m : List β}, Paired (fun a b => b = f a) l m → m = l.map f
  | _, _, .nil => rfl
  | _, _, .cons h t => by rw [h, paired_eq t]; rfl
theorem paired_self {α β : Type} {F : α → β → Prop} {f : α → β} : ∀ {l : List α}, (∀ a ∈ l, F a (f a)) → Paired F l (l.map f)
  | [], _ => .nil
  | a :: r, h => .cons (h a List.mem_cons_self) (paired_self fun b hb => h b (List.mem_cons_of_mem _ hb))
theorem paired_of_get {α β : Type} {F : α → β → Prop} : ∀ {l : List α} {m : List β}, l.length = m.length → (∀ (i : Nat) a b, l[i]? = some a → m[i]? = some b → F a b) → Paired F l m
  | [], [], _, _ => .nil
  | a :: l, b :: m, h, f => .cons (f 0 a b rfl rfl) (paired_of_get (Nat.succ.inj h) fun i a b h1 h2 => f (i + 1) a b (by simpa using h1) (by simpa using h2))
/-! ### a comprehension as a whole -/
theorem range_snoc (n : Nat) (b : Nat → Bool) : (List.range (n + 1)).filter b = (List.range n).filter b ++ (if b n = true then [n] else []) := by
  rw [List.range_succ, List.filter_append]
  cases h : b n <;> simp [List.filter, h]
theorem lc_rel {J : It} {n : Nat} {G : Hp → Prop} {Y : Nat → Hp → V → Hp → Prop} (wk : Walk J n G Y) {g : TG} {tt : TT} {te : TE} {vs : List Nat} {σ : L2.St} {H1 : Hp} {D : Addr} {Qd : Hp → Prop} (b : Nat → Bool) (R : Nat → V → Hp → Prop)
    (hD : H1 D = none) (hG : ∀ H', Same H1 H' → G H') (hn : n < sizeLine)
    (hR : ∀ i y H H', R i y H → (∃ l, H D = some (.lst l)) → Sx [D] H H' → R i y H')
    (hs : ∀ i x H2 H', i < n → Same H1 H2 → (∃ l, H2 D = some (.lst l)) → Y i H2 x H' → ∀ (Q : V → Hp → Prop) (Z : Hp → Prop), (b i = true → ∀ y H3, Same H2 H3 → R i y H3 → Q y H3) → (b i = false → ∀ H3, Same H2 H3 → Z H3) →
      g x (wipe σ vs) H' fun σ2 H3 => wipe σ2 vs = wipe σ vs ∧ tt σ2 H3 fun c H4 => if c = true then te σ2 H4 Q else Z H4)
    (hd : ∀ ys H', Same H1 H' → H' D = some (.lst ys) → Paired (fun i y => R i y H') ((List.range n).filter b) ys → Qd H') :
    ∃ W : Nat → Nat → Hp → Prop, (∃ m, W 0 m (upd H1 D (.lst []))) ∧ ∀ i m H, W i m H →
      (J.stop i H ∧ Qd H) ∨ (J.go i H ∧ ∃ Nx : Hp → Prop, (∀ H', Nx H' → ∃ m', m' < m ∧ W (i + 1) m' H') ∧ ∀ x H', J.yld i H x H' → g x (wipe σ vs) H' fun σ2 H2 => wipe σ2 vs = wipe σ vs ∧ tt σ2 H2 fun c H3 =>
        if c = true then te σ2 H3 fun y H4 => ∃ acc, H4 D = some (.lst acc) ∧ acc.length < sizeLine ∧ Nx (upd H4 D (.lst (acc ++ [y]))) else Nx H3) := by
  refine lc_it wk (fun i H' => Same H1 H' ∧ ∃ ys, H' D = some (.lst ys) ∧ Paired (fun i y => R i y H') ((List.range i).filter b) ys) ⟨same_new hD, [], upd_same, .nil⟩ (fun i H _ p => hG H p.1) ?_ (fun H p => ?_)
  · rintro i x H2 H' hi ⟨s1, ys, hy, py⟩ y
    refine hs i x H2 H' hi s1 ⟨ys, hy⟩ y _ _ (fun hb y H3 s2 hr => ?_) fun hb H3 s2 => ?_
    · have e3 : H3 D = some (.lst ys) := s2 _ _ hy
      have sx : ∀ {o}, Sx [D] H3 (upd H3 D o) := (Sx.refl _ _).upd List.mem_cons_self
      have hl := pr_len py
      have hl2 : ((List.range i).filter b).length ≤ i := by have := List.length_filter_le b (List.range i); rw [List.length_range] at this; exact this
      refine ⟨ys, e3, by omega, Sx.same (s1.trans s2) sx (fun c hc => by rw [List.mem_singleton.mp hc]; exact hD), ys ++ [y], upd_same, ?_⟩
      · rw [range_snoc, if_pos hb]
        exact Paired.snoc (pr_imp py fun i y _ _ r => hR i y H2 _ r ⟨ys, hy⟩ ((sxS s2).trans sx)) (hR i y H3 _ hr ⟨ys, e3⟩ sx)
    · refine ⟨s1.trans s2, ys, s2 _ _ hy, ?_⟩
      rw [range_snoc, if_neg (by rw [hb]; exact Bool.false_ne_true), List.append_nil]
      exact pr_imp py fun i y _ _ r => hR i y H2 _ r ⟨ys, hy⟩ (sxS s2)
  · obtain ⟨s1, ys, hy, py⟩ := p
    exact hd ys H s1 hy py
/-- .. without a test -/
theorem lc_map {J : It} {n : Nat} {G : Hp → Prop} {Y : Nat → Hp → V → Hp → Prop} (wk : Walk J n G Y) {g : TG} {te : TE} {vs : List Nat} {σ : L2.St} {H1 : Hp} {D : Addr} {Qd : Hp → Prop} (R : Nat → V → Hp → Prop)
    (hD : H1 D = none) (hG : ∀ H', Same H1 H' → G H') (hn : n < sizeLine)
    (hR : ∀ i y H H', R i y H → (∃ l, H D = some (.lst l)) → Sx [D] H H' → R i y H')
    (hs : ∀ i x H2 H', i < n → Same H1 H2 → (∃ l, H2 D = some (.lst l)) → Y i H2 x H' → ∀ (Q : V → Hp → Prop), (∀ y H3, Same H2 H3 → R i y H3 → Q y H3) →
      g x (wipe σ vs) H' fun σ2 H3 => wipe σ2 vs = wipe σ vs ∧ te σ2 H3 Q)
    (hg : ∀ x σ H Q Q', (∀ σ2 H2, Q σ2 H2 → Q' σ2 H2) → g x σ H Q → g x σ H Q')
    (hd : ∀ ys H', Same H1 H' → H' D = some (.lst ys) → Paired (fun i y => R i y H') (List.range n) ys → Qd H') :
    ∃ W : Nat → Nat → Hp → Prop, (∃ m, W 0 m (upd H1 D (.lst []))) ∧ ∀ i m H, W i m H →
      (J.stop i H ∧ Qd H) ∨ (J.go i H ∧ ∃ Nx : Hp → Prop, (∀ H', Nx H' → ∃ m', m' < m ∧ W (i + 1) m' H') ∧ ∀ x H', J.yld i H x H' → g x (wipe σ vs) H' fun σ2 H2 => wipe σ2 vs = wipe σ vs ∧ tYes σ2 H2 fun c H3 =>
        if c = true then te σ2 H3 fun y H4 => ∃ acc, H4 D = some (.lst acc) ∧ acc.length < sizeLine ∧ Nx (upd H4 D (.lst (acc ++ [y]))) else Nx H3) :=
  lc_rel wk (fun _ => true) R hD hG hn hR (fun i x H2 H' hi s1 l y Q Z q _ => hg _ _ _ _ _ (fun σ2 H2 h => ⟨h.1, by
    show if true = true then te σ2 H2 Q else Z H2
    rw [if_pos rfl]
    exact h.2⟩) (hs i x H2 H' hi s1 l y Q (q rfl))) fun ys H' s1 hy py => hd ys H' s1 hy (by rw [← filter_tt]; exact py)
theorem gName_mono {i : Nat} : ∀ (x : V) (σ : L2.St) (H : Hp) (Q Q' : L2.St → Hp → Prop), (∀ σ2 H2, Q σ2 H2 → Q' σ2 H2) → gName i x σ H Q → gName i x σ H Q' := fun _ _ _ _ _ f h => f _ _ h
theorem gTup2_mono {K : PySem.W.Frag} {i j n : Nat} : ∀ (x : V) (σ : L2.St) (H : Hp) (Q Q' : L2.St → Hp → Prop), (∀ σ2 H2, Q σ2 H2 → Q' σ2 H2) → gTup K n (gCons (gName i) (gCons (gName j) gNil)) x σ H Q → gTup K n (gCons (gName i) (gCons (gName j) gNil)) x σ H Q' := by
  rintro x σ H Q Q' f ⟨a, xs, h1, h2, h3, v, vr, h4, v2, vr2, h5, h6, h7⟩
  exact ⟨a, xs, h1, h2, h3, v, vr, h4, v2, vr2, h5, h6, f _ _ h7⟩
theorem gTup3_mono {K : PySem.W.Frag} {i j k n : Nat} : ∀ (x : V) (σ : L2.St) (H : Hp) (Q Q' : L2.St → Hp → Prop), (∀ σ2 H2, Q σ2 H2 → Q' σ2 H2) → gTup K n (gCons (gName i) (gCons (gName j) (gCons (gName k) gNil))) x σ H Q → gTup K n (gCons (gName i) (gCons (gName j) (gCons (gName k) gNil))) x σ H Q' := by
  rintro x σ H Q Q' f ⟨a, xs, h1, h2, h3, v, vr, h4, v2, vr2, h5, v3, vr3, h6, h7, h8⟩
  exact ⟨a, xs, h1, h2, h3, v, vr, h4, v2, vr2, h5, v3, vr3, h6, h7, f _ _ h8⟩
theorem walk_enumT {K : PySem.W.Frag} {a : Addr} {xs : List V} : Walk (IteT K a) xs.length (fun H => SqT K H a xs) (YPair (fun i => some (.int (i : Nat))) (fun i => xs[i]?)) := by
  refine ⟨fun i _ hi q => ⟨xs, xs[i], q, by simp [hi]⟩, fun _ q => ⟨xs, q, rfl⟩, fun i H v H' _ q y => ?_⟩
  obtain ⟨T, x, h1, h2, h3, h4⟩ := y
  exact ⟨T, .int (i : Nat), x, h1, h2, h3, rfl, h4 xs q⟩
theorem fdivN (a b : Nat) : (a : Int).fdiv (b : Int) = ((a / b : Nat) : Int) := by
  rw [Int.fdiv_eq_ediv_of_nonneg _ (Int.natCast_nonneg b)]
  rfl
theorem fmodN (a b : Nat) : (a : Int).fmod (b : Int) = ((a % b : Nat) : Int) := by
  rw [Int.fmod_eq_emod_of_nonneg _ (Int.natCast_nonneg b)]
  rfl
theorem pow_lt64 {k : Nat} (h : k ≤ 12) : 2 ^ k ≤ 4096 := Nat.pow_le_pow_right (by decide) h
theorem mul64 {a : Nat} (h : a ≤ 1000000) : -(2 ^ 64) < (a : Int) ∧ (a : Int) < 2 ^ 64 := by
  constructor
  · have : (0 : Int) ≤ (a : Int) := Int.natCast_nonneg a
    exact Int.lt_of_lt_of_le (by decide) this
  · have : (a : Int) ≤ 1000000 := Int.ofNat_le.mpr h
    exact Int.lt_of_le_of_lt this (by decide)
theorem mul64' {z : Int} {a : Nat} (e : z = (a : Int)) (h : a ≤ 1000000) : -(2 ^ 64) < z ∧ z < 2 ^ 64 := by rw [e]; exact mul64 h
theorem pr_snoc_inv {α β : Type} {F : α → β → Prop} {a : α} : ∀ {l : List α} {m : List β}, Paired F (l ++ [a]) m → ∃ m' b, m = m' ++ [b] ∧ Paired F l m' ∧ F a b
  | [], _, .cons h .nil => ⟨[], _, rfl, .nil, h⟩
  | x :: l, _, .cons h t => by
    obtain ⟨m', b, e, p, f⟩ := pr_snoc_inv t
    subst e
    exact ⟨_ :: m', b, rfl, .cons h p, f⟩
theorem pr_append {α β : Type} {F : α → β → Prop} : ∀ {l l' : List α} {m m' : List β}, Paired F l m → Paired F l' m' → Paired F (l ++ l') (m ++ m')
  | _, _, _, _, .nil, p => p
  | _, _, _, _, .cons h t, p => .cons h (pr_append t p)
theorem snoc_cases {α : Type} (l : List α) : l = [] ∨ ∃ l' a, l = l' ++ [a] := by
  cases l with
  | nil => exact .inl rfl
  | cons x r => exact .inr ⟨(x :: r).dropLast, (x :: r).getLast (List.cons_ne_nil _ _), (List.dropLast_concat_getLast _).symm⟩
theorem get_last {α : Type} (l : List α) (a : α) : (l ++ [a])[(l ++ [a]).length - 1]? = some a := by simp
theorem eqv_nil : ∀ ds : List PyData, PyData.eqv (.list ds) (.list []) = ds.isEmpty
  | [] => by simp [PyData.eqv, PyData.eqvAll]
  | _ :: _ => by simp [PyData.eqv, PyData.eqvAll]
theorem shaped_nil : SeqAt.shaped (.list []) = true := by decide +kernel
theorem shaped_list {ds : List PyData} (h1 : ∀ d ∈ ds, d.canLay0 = true) (h2 : ∀ d ∈ ds, d.depth ≤ 10) : SeqAt.shaped (.list ds) = true := by
  have l : PyData.canLayAll0 ds = true := by
    induction ds with
    | nil => rfl
    | cons d r ih => rw [PyData.canLayAll0, h1 d List.mem_cons_self, ih (fun x hx => h1 x (List.mem_cons_of_mem _ hx)) fun x hx => h2 x (List.mem_cons_of_mem _ hx)]; rfl
  have e : PyData.depthAll ds ≤ 10 := by
    induction ds with
    | nil => exact Nat.zero_le _
    | cons d r ih =>
      rw [PyData.canLayAll0, Bool.and_eq_true] at l
      have := ih (fun x hx => h1 x (List.mem_cons_of_mem _ hx)) (fun x hx => h2 x (List.mem_cons_of_mem _ hx)) l.2
      have := h2 d List.mem_cons_self
      rw [PyData.depthAll]
      omega
  unfold SeqAt.shaped
  rw [PyData.canLay0, l, PyData.depth]
  simp
  omega
end Qf
/-! Rows as the heap has them. -/
namespace Qf
open PySem PySem.Spec PyProof.Rows L2
def vR (r : Row) : List V := r.map fun (k : Nat) => V.int (k : Int)
def kR (r : Row) : List Key := r.map fun (k : Nat) => Sum.inl (k : Int)
theorem kR_v (r : Row) : (kR r).map kV = vR r := by unfold kR vR; rw [List.map_map]; rfl
theorem kR_inj : ∀ {r s : Row}, kR r = kR s → r = s
  | [], [], _ => rfl
  | [], _ :: _, h => by simp [kR] at h
  | _ :: _, [], h => by simp [kR] at h
  | a :: r, b :: s, h => by
    have h : (Sum.inl (a : Int) : Key) :: kR r = Sum.inl (b : Int) :: kR s := h
    injection h with h1 h2
    rw [kR_inj h2, Int.ofNat_inj.mp (Sum.inl.inj h1)]
def kvsFrom : Nat → List Row → List (List Key × V)
  | _, [] => []
  | j, r :: R => (kR r, V.int (j : Int)) :: kvsFrom (j + 1) R
theorem kvsFrom_len : ∀ (j : Nat) (R : List Row), (kvsFrom j R).length = R.length
  | _, [] => rfl
  | j, r :: R => by show (kvsFrom (j + 1) R).length + 1 = R.length + 1; rw [kvsFrom_len]
theorem kvsFrom_snoc : ∀ (j : Nat) (R : List Row) (r : Row), kvsFrom j (R ++ [r]) = kvsFrom j R ++ [(kR r, V.int ((R.length + j : Nat) : Int))]
  | j, [], r => by simp [kvsFrom]
  | j, a :: R, r => by
    show _ :: kvsFrom (j + 1) (R ++ [r]) = _ :: (kvsFrom (j + 1) R ++ _)
    rw [kvsFrom_snoc, List.length_cons, show R.length + (j + 1) = R.length + 1 + j by omega]
theorem valV_from : ∀ (j : Nat) (R : List Row) (r : Row), valV (kvsFrom j R) (kR r) = if r ∈ R then some (V.int ((R.idxOf r + j : Nat) : Int)) else none
  | j, [], r => rfl
  | j, a :: R, r => by
    by_cases h : a = r
    · subst h
      rw [if_pos List.mem_cons_self, List.idxOf_cons_self]
      show ((List.find? (fun kv => decide (kv.1 = kR a)) ((kR a, V.int (j : Int)) :: kvsFrom (j + 1) R)).map (·.2)) = _
      rw [List.find?_cons_of_pos (by simp)]
      simp
    · have e : valV (kvsFrom j (a :: R)) (kR r) = valV (kvsFrom (j + 1) R) (kR r) := by
        show ((List.find? (fun kv => decide (kv.1 = kR r)) ((kR a, V.int (j : Int)) :: kvsFrom (j + 1) R)).map (·.2)) = _
        rw [List.find?_cons_of_neg (by simpa using fun z => h (kR_inj z))]
        rfl
      rw [e, valV_from (j + 1) R r]
      have hm : r ∈ a :: R ↔ r ∈ R := by simp [Ne.symm h]
      have hi : (a :: R).idxOf r = R.idxOf r + 1 := by
        rw [List.idxOf_cons, show (a == r) = false by simpa using h]
        rfl
      by_cases hr : r ∈ R
      · rw [if_pos hr, if_pos (hm.mpr hr), hi, show R.idxOf r + 1 + j = R.idxOf r + (j + 1) by omega]
      · rw [if_neg hr, if_neg fun z => hr (hm.mp z)]
def kvsR (R : List Row) : List (List Key × V) := kvsFrom 2 R
/-! ### data -/
def rD (r : Row) : PyData := .tuple (r.map fun (k : Nat) => PyData.int (k : Int))
theorem ints_eqvAll : ∀ r s : Row, PyData.eqvAll (r.map fun (k : Nat) => PyData.int (k : Int)) (s.map fun (k : Nat) => PyData.int (k : Int)) = decide (r = s)
  | [], [] => by simp [PyData.eqvAll]
  | [], _ :: _ => by simp [PyData.eqvAll]
  | _ :: _, [] => by simp [PyData.eqvAll]
  | a :: r, b :: s => by
    rw [List.map_cons, List.map_cons, PyData.eqvAll, ints_eqvAll r s]
    by_cases h : a = b
    · subst h
      by_cases h2 : r = s <;> simp [PyData.eqv, h2]
    · have : ¬ ((a : Int) = b) := fun z => h (Int.ofNat_inj.mp z)
      simp [PyData.eqv, h, this]
theorem rD_eqv (r s : Row) : PyData.eqv (rD r) (rD s) = decide (r = s) := by
  unfold rD
  rw [PyData.eqv]
  exact ints_eqvAll r s
theorem ints_lay : ∀ r : Row, PyData.canLayAll0 (r.map fun (k : Nat) => PyData.int (k : Int)) = true
  | [] => rfl
  | a :: r => by rw [List.map_cons, PyData.canLayAll0, ints_lay r]; rfl
theorem ints_depth : ∀ r : Row, PyData.depthAll (r.map fun (k : Nat) => PyData.int (k : Int)) = 0
  | [] => rfl
  | a :: r => by rw [List.map_cons, PyData.depthAll, ints_depth r]; rfl
theorem rD_lay (r : Row) : (rD r).canLay0 = true := by rw [rD, PyData.canLay0]; exact ints_lay r
theorem rD_depth (r : Row) : (rD r).depth = 1 := by rw [rD, PyData.depth, ints_depth]
theorem rD_shaped (r : Row) : SeqAt.shaped (rD r) = true := by unfold SeqAt.shaped; rw [rD_lay, rD_depth]; rfl
theorem rDs_lay : ∀ R : List Row, PyData.canLayAll0 (R.map rD) = true
  | [] => rfl
  | a :: r => by rw [List.map_cons, PyData.canLayAll0, rDs_lay r, rD_lay]; rfl
theorem rDs_depth : ∀ R : List Row, PyData.depthAll (R.map rD) ≤ 1
  | [] => Nat.zero_le _
  | a :: r => by
    have := rDs_depth r
    rw [List.map_cons, PyData.depthAll, rD_depth]
    omega
theorem rDs_shaped (R : List Row) : SeqAt.shaped (.list (R.map rD)) = true := by
  unfold SeqAt.shaped
  rw [PyData.canLay0, rDs_lay, PyData.depth]
  have := rDs_depth R
  simp
  omega
theorem dp_ints {K : PySem.W.Frag} {H : Hp} : ∀ r : Row, DpAll K H (vR r) (r.map fun (k : Nat) => PyData.int (k : Int))
  | [] => .nil
  | a :: r => .cons (.int _) (dp_ints r)
theorem dp_row {K : PySem.W.Frag} {H : Hp} {a : Addr} {r : Row} (h : H a = some (.tup (vR r))) : Dp K H (.ref a) (rD r) := .tup (tupOf h) (dp_ints r)
/-! ### a Rows object -/
theorem kRows : ¬ (("rows" : Str) = "numbers") := by decide +kernel
def fR (lr dn : Addr) : List (Str × V) := putF "numbers" (.ref dn) (putF "rows" (.ref lr) [])
theorem fR_rows (lr dn : Addr) : (fR lr dn).lookup ("rows" : Str) = some (.ref lr) := by
  unfold fR
  rw [lookup_putF, if_neg kRows, lookup_putF, if_pos rfl]
theorem fR_numbers (lr dn : Addr) : (fR lr dn).lookup ("numbers" : Str) = some (.ref dn) := by
  unfold fR
  rw [lookup_putF, if_pos rfl]
theorem fR_no (lr dn : Addr) {m : Str} (h1 : ¬ m = "numbers") (h2 : ¬ m = "rows") : (fR lr dn).lookup m = none := by
  unfold fR
  rw [lookup_putF, if_neg h1, lookup_putF, if_neg h2]
  rfl
structure RowsAt (C : Addr) (H : Hp) (p lr dn : Addr) (T : List Qt) : Prop where
  ob : ∃ dx, H p = some (.ins C dx (fR lr dn))
  ls : ∃ as : List Addr, H lr = some (.lst (as.map V.ref)) ∧ Paired (fun a r => H a = some (.tup (vR r))) as (rowsOf T)
  dc : H dn = some (.dT (kvsR (rowsOf T)))
  st : St T
theorem RowsAt.same {C : Addr} {H H' : Hp} {p lr dn : Addr} {T : List Qt} (r : RowsAt C H p lr dn T) (s : Same H H') : RowsAt C H' p lr dn T := by
  obtain ⟨⟨dx, h1⟩, ⟨as, h2, h3⟩, h4, h5⟩ := r
  exact ⟨⟨dx, s _ _ h1⟩, ⟨as, s _ _ h2, pr_imp h3 fun a b _ _ h => s _ _ h⟩, s _ _ h4, h5⟩
theorem RowsAt.sxD {C : Addr} {H H' : Hp} {p lr dn f : Addr} {T : List Qt} {kvs : List (Key × V)} (r : RowsAt C H p lr dn T) (hf : H f = some (.dK kvs)) (s : Sx [f] H H') : RowsAt C H' p lr dn T := by
  obtain ⟨⟨dx, h1⟩, ⟨as, h2, h3⟩, h4, h5⟩ := r
  have z : ∀ {c o}, H c = some o → o ≠ .dK kvs → H' c = some o := fun {c o} e n => s c o (nin1 e hf n) e
  exact ⟨⟨dx, z h1 (by intro z; cases z)⟩, ⟨as, z h2 (by intro z; cases z), pr_imp h3 fun a b _ _ h => z h (by intro z; cases z)⟩, z h4 (by intro z; cases z), h5⟩
/-- what the class as the top has made it asks -/
structure RT (K : PySem.W.Frag) (C : Addr) : Prop where
  cl : Cls K C
  nR : NoAttr K C "rows"
  nN : NoAttr K C "numbers"
theorem num_row_zero {T : List Qt} {a b c d : Qt} : [num T a, num T b, num T c, num T d] = [0, 0, 0, 0] ↔ a = .e ∧ b = .e ∧ c = .e ∧ d = .e := by
  simp only [List.cons.injEq, and_true, num_zero]
theorem num_row_one {T : List Qt} {a b c d : Qt} : [num T a, num T b, num T c, num T d] = [1, 1, 1, 1] ↔ a = .f ∧ b = .f ∧ c = .f ∧ d = .f := by
  simp only [List.cons.injEq, and_true, num_one]
structure NumA where
  p : Addr
  lr : Addr
  dn : Addr
  q : Addr
  T : List Qt
  a : Qt
  b : Qt
  c : Qt
  d : Qt
def spNumber (C : Addr) : Sp := mkSp (fun x : NumA => [.ref x.p, .ref x.q]) fun x H Q => RowsAt C H x.p x.lr x.dn x.T ∧ x.T.length < 100000 ∧ H x.q = some (.tup (vR [num x.T x.a, num x.T x.b, num x.T x.c, num x.T x.d])) ∧
  Kn x.T x.a ∧ Kn x.T x.b ∧ Kn x.T x.c ∧ Kn x.T x.d ∧
  ∀ H', RowsAt C H' x.p x.lr x.dn (add x.T (mk x.a x.b x.c x.d)) → Sx [x.lr, x.dn] H H' → Q (.int (num (add x.T (mk x.a x.b x.c x.d)) (mk x.a x.b x.c x.d) : Nat)) H'
end Qf
/-! Leaves and their cells: plain Lean. -/
namespace Qf
/-- a leaf: its address, first row, first column, size, whether it is full -/
structure Lf where
  ad : List Nat
  r : Nat
  c : Nat
  k : Nat
  b : Bool
def Lf.has (x : Lf) (i j : Nat) : Prop := x.r ≤ i ∧ i < x.r + 2 ^ x.k ∧ x.c ≤ j ∧ j < x.c + 2 ^ x.k
def lvB : Qt → Nat → Nat → Nat → List Nat → List Lf
  | .e, k, r, c, ad => [⟨ad, r, c, k, false⟩]
  | .f, k, r, c, ad => [⟨ad, r, c, k, true⟩]
  | .n a b d e, k, r, c, ad => lvB a (k - 1) r c (ad ++ [0]) ++ (lvB b (k - 1) r (c + 2 ^ (k - 1)) (ad ++ [1]) ++ (lvB d (k - 1) (r + 2 ^ (k - 1)) c (ad ++ [2]) ++ lvB e (k - 1) (r + 2 ^ (k - 1)) (c + 2 ^ (k - 1)) (ad ++ [3])))
theorem lvB_map : ∀ (t : Qt) (k r c : Nat) (ad : List Nat), (lvB t k r c ad).map (fun x => (x.ad, x.b)) = lvA t ad
  | .e, _, _, _, _ => rfl
  | .f, _, _, _, _ => rfl
  | .n a b d e, k, r, c, ad => by
    unfold lvB lvA
    rw [List.map_append, List.map_append, List.map_append, lvB_map, lvB_map, lvB_map, lvB_map]
theorem stepB_eq {b : Nat × Nat × Nat} {r c k : Nat} (h : b = (r, c, k)) (d : Nat) : stepB b d = (r + 2 ^ (k - 1) * (d / 2), c + 2 ^ (k - 1) * (d % 2), k - 1) := by subst h; rfl
theorem lvB_box (n : Nat) : ∀ (t : Qt) (k r c : Nat) (ad : List Nat), boxA n ad = (r, c, k) → ∀ x ∈ lvB t k r c ad, boxA n x.ad = (x.r, x.c, x.k)
  | .e, k, r, c, ad, h, x, hx => by
    rw [List.mem_singleton.mp hx]; exact h
  | .f, k, r, c, ad, h, x, hx => by
    rw [List.mem_singleton.mp hx]; exact h
  | .n a b d e, k, r, c, ad, h, x, hx => by
    unfold lvB at hx
    have st : ∀ p, boxA n (ad ++ [p]) = (r + 2 ^ (k - 1) * (p / 2), c + 2 ^ (k - 1) * (p % 2), k - 1) := fun p => by rw [boxA_snoc]; exact stepB_eq h p
    rcases List.mem_append.mp hx with hx | hx
    · exact lvB_box n a _ _ _ _ (by rw [st]; simp) x hx
    rcases List.mem_append.mp hx with hx | hx
    · exact lvB_box n b _ _ _ _ (by rw [st]; simp) x hx
    rcases List.mem_append.mp hx with hx | hx
    · exact lvB_box n d _ _ _ _ (by rw [st]; simp) x hx
    · exact lvB_box n e _ _ _ _ (by rw [st]; simp) x hx
theorem lvB_ad : ∀ (t : Qt) (k r c : Nat) (ad : List Nat), (∀ d ∈ ad, d < 4) → t.ht ≤ k → ∀ x ∈ lvB t k r c ad, (∀ d ∈ x.ad, d < 4) ∧ x.ad.length + x.k = ad.length + k
  | .e, k, r, c, ad, h, _, x, hx => by
    rw [List.mem_singleton.mp hx]; exact ⟨h, rfl⟩
  | .f, k, r, c, ad, h, _, x, hx => by
    rw [List.mem_singleton.mp hx]; exact ⟨h, rfl⟩
  | .n a b d e, k, r, c, ad, h, hh, x, hx => by
    have hh : max (max a.ht b.ht) (max d.ht e.ht) + 1 ≤ k := hh
    unfold lvB at hx
    have fg : ∀ p, p < 4 → ∀ d ∈ ad ++ [p], d < 4 := fun p hp d hd => by
      rcases List.mem_append.mp hd with hd | hd
      · exact h d hd
      · rw [List.mem_singleton] at hd; omega
    have ll : ∀ p, (ad ++ [p]).length + (k - 1) = ad.length + k := fun p => by rw [List.length_append, List.length_singleton]; omega
    rcases List.mem_append.mp hx with hx | hx
    · have := lvB_ad a _ _ _ _ (fg 0 (by decide)) (by omega) x hx
      rw [ll] at this; exact this
    rcases List.mem_append.mp hx with hx | hx
    · have := lvB_ad b _ _ _ _ (fg 1 (by decide)) (by omega) x hx
      rw [ll] at this; exact this
    rcases List.mem_append.mp hx with hx | hx
    · have := lvB_ad d _ _ _ _ (fg 2 (by decide)) (by omega) x hx
      rw [ll] at this; exact this
    · have := lvB_ad e _ _ _ _ (fg 3 (by decide)) (by omega) x hx
      rw [ll] at this; exact this
/-- within its square, aligned -/
structure In (k r c : Nat) (x : Lf) : Prop where
  lr : r ≤ x.r
  hr : x.r + 2 ^ x.k ≤ r + 2 ^ k
  lc : c ≤ x.c
  hc : x.c + 2 ^ x.k ≤ c + 2 ^ k
  ar : ∃ q, x.r = r + q * 2 ^ x.k
  ac : ∃ q, x.c = c + q * 2 ^ x.k
  kk : x.k ≤ k
theorem pow_pos2 (k : Nat) : 1 ≤ 2 ^ k := Nat.one_le_two_pow
theorem pow_split {j k : Nat} (h : j ≤ k) : 2 ^ k = 2 ^ (k - j) * 2 ^ j := by rw [← Nat.pow_add, Nat.sub_add_cancel h]
theorem In.up {k r c : Nat} {x : Lf} (a b : Nat) (ha : a ≤ 1) (hb : b ≤ 1) (h : In k (r + 2 ^ k * a) (c + 2 ^ k * b) x) : In (k + 1) r c x := by
  obtain ⟨h1, h2, h3, h4, ⟨q1, h5⟩, ⟨q2, h6⟩, h7⟩ := h
  have e : 2 ^ (k + 1) = 2 ^ k + 2 ^ k := by rw [Nat.pow_succ]; omega
  have a1 : 2 ^ k * a ≤ 2 ^ k := by
    calc 2 ^ k * a ≤ 2 ^ k * 1 := Nat.mul_le_mul_left _ ha
      _ = 2 ^ k := Nat.mul_one _
  have b1 : 2 ^ k * b ≤ 2 ^ k := by
    calc 2 ^ k * b ≤ 2 ^ k * 1 := Nat.mul_le_mul_left _ hb
      _ = 2 ^ k := Nat.mul_one _
  refine ⟨by omega, by omega, by omega, by omega, ⟨2 ^ (k - x.k) * a + q1, ?_⟩, ⟨2 ^ (k - x.k) * b + q2, ?_⟩, by omega⟩
  · rw [h5, Nat.add_mul, pow_split h7, Nat.mul_right_comm]; omega
  · rw [h6, Nat.add_mul, pow_split h7, Nat.mul_right_comm]; omega
theorem lvB_in : ∀ (t : Qt) (k r c : Nat) (ad : List Nat), t.ht ≤ k → ∀ x ∈ lvB t k r c ad, In k r c x
  | .e, k, r, c, ad, _, x, hx => by
    rw [List.mem_singleton.mp hx]
    exact ⟨Nat.le_refl _, Nat.le_refl _, Nat.le_refl _, Nat.le_refl _, ⟨0, by show r = r + 0 * _; omega⟩, ⟨0, by show c = c + 0 * _; omega⟩, Nat.le_refl _⟩
  | .f, k, r, c, ad, _, x, hx => by
    rw [List.mem_singleton.mp hx]
    exact ⟨Nat.le_refl _, Nat.le_refl _, Nat.le_refl _, Nat.le_refl _, ⟨0, by show r = r + 0 * _; omega⟩, ⟨0, by show c = c + 0 * _; omega⟩, Nat.le_refl _⟩
  | .n a b d e, k, r, c, ad, hh, x, hx => by
    have hh : max (max a.ht b.ht) (max d.ht e.ht) + 1 ≤ k := hh
    obtain ⟨j, rfl⟩ : ∃ j, k = j + 1 := ⟨k - 1, by omega⟩
    unfold lvB at hx
    rw [Nat.add_sub_cancel] at hx
    rcases List.mem_append.mp hx with hx | hx
    · exact In.up 0 0 (by decide) (by decide) (by simpa using lvB_in a _ _ _ _ (by omega) x hx)
    rcases List.mem_append.mp hx with hx | hx
    · exact In.up 0 1 (by decide) (by decide) (by simpa using lvB_in b _ _ _ _ (by omega) x hx)
    rcases List.mem_append.mp hx with hx | hx
    · exact In.up 1 0 (by decide) (by decide) (by simpa using lvB_in d _ _ _ _ (by omega) x hx)
    · exact In.up 1 1 (by decide) (by decide) (by simpa using lvB_in e _ _ _ _ (by omega) x hx)
theorem lvB_cover : ∀ (t : Qt) (k r c : Nat) (ad : List Nat), t.ht ≤ k → ∀ i j, r ≤ i → i < r + 2 ^ k → c ≤ j → j < c + 2 ^ k → ∃ x ∈ lvB t k r c ad, x.has i j
  | .e, k, r, c, ad, _, i, j, h1, h2, h3, h4 => ⟨_, List.mem_singleton.mpr rfl, h1, h2, h3, h4⟩
  | .f, k, r, c, ad, _, i, j, h1, h2, h3, h4 => ⟨_, List.mem_singleton.mpr rfl, h1, h2, h3, h4⟩
  | .n a b d e, k, r, c, ad, hh, i, j, h1, h2, h3, h4 => by
    have hh : max (max a.ht b.ht) (max d.ht e.ht) + 1 ≤ k := hh
    obtain ⟨m, rfl⟩ : ∃ m, k = m + 1 := ⟨k - 1, by omega⟩
    have e2 : 2 ^ (m + 1) = 2 ^ m + 2 ^ m := by rw [Nat.pow_succ]; omega
    unfold lvB
    rw [Nat.add_sub_cancel]
    by_cases hi : i < r + 2 ^ m
    · by_cases hj : j < c + 2 ^ m
      · obtain ⟨x, hx, p⟩ := lvB_cover a m r c (ad ++ [0]) (by omega) i j h1 hi h3 hj
        exact ⟨x, List.mem_append_left _ hx, p⟩
      · obtain ⟨x, hx, p⟩ := lvB_cover b m r (c + 2 ^ m) (ad ++ [1]) (by omega) i j h1 hi (by omega) (by omega)
        exact ⟨x, List.mem_append_right _ (List.mem_append_left _ hx), p⟩
    · by_cases hj : j < c + 2 ^ m
      · obtain ⟨x, hx, p⟩ := lvB_cover d m (r + 2 ^ m) c (ad ++ [2]) (by omega) i j (by omega) (by omega) h3 hj
        exact ⟨x, List.mem_append_right _ (List.mem_append_right _ (List.mem_append_left _ hx)), p⟩
      · obtain ⟨x, hx, p⟩ := lvB_cover e m (r + 2 ^ m) (c + 2 ^ m) (ad ++ [3]) (by omega) i j (by omega) (by omega) (by omega) (by omega)
        exact ⟨x, List.mem_append_right _ (List.mem_append_right _ (List.mem_append_right _ hx)), p⟩
/-- no cell in both -/
def Apart (x y : Lf) : Prop := ∀ i j, x.has i j → y.has i j → False
theorem apart_in {k r c r' c' : Nat} {x y : Lf} (h : In k r c x) (h' : In k r' c' y) (d : r + 2 ^ k ≤ r' ∨ c + 2 ^ k ≤ c') : Apart x y := fun i j a b => by
  obtain ⟨h1, h2, h3, h4, _⟩ := h
  obtain ⟨p1, p2, p3, p4, _⟩ := h'
  obtain ⟨a1, a2, a3, a4⟩ := a
  obtain ⟨b1, b2, b3, b4⟩ := b
  omega
theorem apart_in2 {k r c r' c' : Nat} {x y : Lf} (h : In k r c x) (h' : In k r' c' y) (d : r' + 2 ^ k ≤ r ∨ c' + 2 ^ k ≤ c) : Apart x y := fun i j a b => apart_in h' h d i j b a
theorem lvB_apart : ∀ (t : Qt) (k r c : Nat) (ad : List Nat), t.ht ≤ k → (lvB t k r c ad).Pairwise Apart
  | .e, _, _, _, _, _ => List.pairwise_singleton _ _
  | .f, _, _, _, _, _ => List.pairwise_singleton _ _
  | .n a b d e, k, r, c, ad, hh => by
    have hh : max (max a.ht b.ht) (max d.ht e.ht) + 1 ≤ k := hh
    obtain ⟨m, rfl⟩ : ∃ m, k = m + 1 := ⟨k - 1, by omega⟩
    unfold lvB
    rw [Nat.add_sub_cancel]
    have ia := lvB_in a m r c (ad ++ [0]) (by omega)
    have ib := lvB_in b m r (c + 2 ^ m) (ad ++ [1]) (by omega)
    have id' := lvB_in d m (r + 2 ^ m) c (ad ++ [2]) (by omega)
    have ie := lvB_in e m (r + 2 ^ m) (c + 2 ^ m) (ad ++ [3]) (by omega)
    rw [List.pairwise_append]
    refine ⟨lvB_apart a _ _ _ _ (by omega), ?_, fun x hx y hy => ?_⟩
    · rw [List.pairwise_append]
      refine ⟨lvB_apart b _ _ _ _ (by omega), ?_, fun x hx y hy => ?_⟩
      · rw [List.pairwise_append]
        exact ⟨lvB_apart d _ _ _ _ (by omega), lvB_apart e _ _ _ _ (by omega), fun x hx y hy => apart_in (id' x hx) (ie y hy) (.inr (Nat.le_refl _))⟩
      · rcases List.mem_append.mp hy with hy | hy
        · exact apart_in (ib x hx) (id' y hy) (.inl (Nat.le_refl _))
        · exact apart_in (ib x hx) (ie y hy) (.inl (Nat.le_refl _))
    · rcases List.mem_append.mp hy with hy | hy
      · exact apart_in (ia x hx) (ib y hy) (.inr (Nat.le_refl _))
      rcases List.mem_append.mp hy with hy | hy
      · exact apart_in (ia x hx) (id' y hy) (.inl (Nat.le_refl _))
      · exact apart_in (ia x hx) (ie y hy) (.inl (Nat.le_refl _))
/-- a leaf's cells are alike -/
theorem mk_cases (a b c d : Qt) : mk a b c d = .n a b c d ∨ (mk a b c d = .e ∧ a = .e ∧ b = .e ∧ c = .e ∧ d = .e) ∨ (mk a b c d = .f ∧ a = .f ∧ b = .f ∧ c = .f ∧ d = .f) := by
  by_cases h : Plain4 a b c d
  · rcases h with ⟨rfl, rfl, rfl, rfl⟩ | ⟨rfl, rfl, rfl, rfl⟩
    · exact .inr (.inl ⟨mk_e, rfl, rfl, rfl, rfl⟩)
    · exact .inr (.inr ⟨mk_f, rfl, rfl, rfl, rfl⟩)
  · exact .inl (mk_n h)
theorem lvB_truth (F : Nat → Nat → Bool) : ∀ (k r c : Nat) (ad : List Nat) (x : Lf), x ∈ lvB (tree F k r c) k r c ad → ∀ i j, x.has i j → F i j = x.b
  | 0, r, c, ad, x, hx, i, j, h => by
    unfold tree at hx
    by_cases q : F r c = true
    · rw [if_pos q] at hx
      rw [List.mem_singleton.mp hx] at h ⊢
      obtain ⟨h1, h2, h3, h4⟩ := h
      have h1 : r ≤ i := h1
      have h2 : i < r + 1 := h2
      have h3 : c ≤ j := h3
      have h4 : j < c + 1 := h4
      have e1 : i = r := by omega
      have e2 : j = c := by omega
      subst e1 e2
      exact q
    · rw [if_neg q] at hx
      rw [List.mem_singleton.mp hx] at h ⊢
      obtain ⟨h1, h2, h3, h4⟩ := h
      have h1 : r ≤ i := h1
      have h2 : i < r + 1 := h2
      have h3 : c ≤ j := h3
      have h4 : j < c + 1 := h4
      have e1 : i = r := by omega
      have e2 : j = c := by omega
      subst e1 e2
      show F i j = false
      cases hq : F i j with
      | false => rfl
      | true => exact absurd hq q
  | k + 1, r, c, ad, x, hx, i, j, h => by
    rcases mk_cases (tree F k r c) (tree F k r (c + 2 ^ k)) (tree F k (r + 2 ^ k) c) (tree F k (r + 2 ^ k) (c + 2 ^ k)) with e | ⟨e, _⟩ | ⟨e, _⟩
    · have hx : x ∈ lvB (mk (tree F k r c) (tree F k r (c + 2 ^ k)) (tree F k (r + 2 ^ k) c) (tree F k (r + 2 ^ k) (c + 2 ^ k))) (k + 1) r c ad := hx
      rw [e] at hx
      unfold lvB at hx
      rw [Nat.add_sub_cancel] at hx
      rcases List.mem_append.mp hx with hx | hx
      · exact lvB_truth F k _ _ _ x hx i j h
      rcases List.mem_append.mp hx with hx | hx
      · exact lvB_truth F k _ _ _ x hx i j h
      rcases List.mem_append.mp hx with hx | hx
      · exact lvB_truth F k _ _ _ x hx i j h
      · exact lvB_truth F k _ _ _ x hx i j h
    · have e : tree F (k + 1) r c = .e := e
      rw [e] at hx
      rw [List.mem_singleton.mp hx] at h ⊢
      obtain ⟨h1, h2, h3, h4⟩ := h
      exact (tree_e (k + 1) r c).mp e i j h1 h2 h3 h4
    · have e : tree F (k + 1) r c = .f := e
      rw [e] at hx
      rw [List.mem_singleton.mp hx] at h ⊢
      obtain ⟨h1, h2, h3, h4⟩ := h
      exact (tree_f (k + 1) r c).mp e i j h1 h2 h3 h4
/-- what the leaves of a floor keep -/
structure Good (n : Nat) (L : List Lf) : Prop where
  n6 : n ≤ 6
  len : L.length ≤ 2000
  fig : ∀ x ∈ L, ∀ d ∈ x.ad, d < 4
  adl : ∀ x ∈ L, x.ad.length + x.k = n
  box : ∀ x ∈ L, boxA n x.ad = (x.r, x.c, x.k)
  hin : ∀ x ∈ L, In n 0 0 x
  uq : L.Pairwise Apart
  cv : ∀ i j, i < 2 ^ n → j < 2 ^ n → ∃ x ∈ L, x.has i j
def leafs (n : Nat) (t : Qt) : List Lf := lvB t n 0 0 []
theorem good_leafs {n : Nat} {t : Qt} (h6 : n ≤ 6) (hh : t.ht ≤ n) (hl : t.lvs ≤ 2000) : Good n (leafs n t) := by
  refine ⟨h6, ?_, fun x hx => (lvB_ad t n 0 0 [] (fun d hd => by cases hd) hh x hx).1, fun x hx => ?_, lvB_box n t n 0 0 [] rfl, lvB_in t n 0 0 [] hh, lvB_apart t n 0 0 [] hh, fun i j hi hj => lvB_cover t n 0 0 [] hh i j (Nat.zero_le _) (by omega) (Nat.zero_le _) (by omega)⟩
  · have : ((leafs n t).map fun x => (x.ad, x.b)).length = t.lvs := by unfold leafs; rw [lvB_map, lvA_len]
    rw [List.length_map] at this
    omega
  · have := (lvB_ad t n 0 0 [] (fun d hd => by cases hd) hh x hx).2
    simpa using this
theorem Good.uniq {n : Nat} {L : List Lf} (g : Good n L) {o o' : Nat} {x y : Lf} (h : L[o]? = some x) (h' : L[o']? = some y) {i j : Nat} (hx : x.has i j) (hy : y.has i j) : o = o' := by
  have p := g.uq
  rw [List.pairwise_iff_getElem] at p
  obtain ⟨h1, rfl⟩ := List.getElem?_eq_some_iff.mp h
  obtain ⟨h2, rfl⟩ := List.getElem?_eq_some_iff.mp h'
  rcases Nat.lt_trichotomy o o' with q | q | q
  · exact absurd hy fun z => p o o' h1 h2 q i j hx z
  · exact q
  · exact absurd hx fun z => p o' o h2 h1 q i j hy z
theorem Good.at {n : Nat} {L : List Lf} (g : Good n L) {i j : Nat} (hi : i < 2 ^ n) (hj : j < 2 ^ n) : ∃ (o : Nat) (x : Lf), L[o]? = some x ∧ x.has i j := by
  obtain ⟨x, hx, p⟩ := g.cv i j hi hj
  obtain ⟨o, ho, e⟩ := List.getElem_of_mem hx
  exact ⟨o, x, by rw [List.getElem?_eq_getElem ho, e], p⟩
theorem Lf.has_self (x : Lf) : x.has x.r x.c := ⟨Nat.le_refl _, by have := pow_pos2 x.k; omega, Nat.le_refl _, by have := pow_pos2 x.k; omega⟩
theorem Good.lt {n : Nat} {L : List Lf} (g : Good n L) {x : Lf} (h : x ∈ L) : x.r + 2 ^ x.k ≤ 2 ^ n ∧ x.c + 2 ^ x.k ≤ 2 ^ n ∧ x.k ≤ n := by
  have q := g.hin x h
  have h1 := q.hr
  have h2 := q.hc
  exact ⟨by omega, by omega, q.kk⟩
/-- the square of size k in which a cell lies -/
theorem al_of {r i q k : Nat} (h : r = q * 2 ^ k) (h1 : r ≤ i) (h2 : i < r + 2 ^ k) : i / 2 ^ k * 2 ^ k = r := by
  have hp : 0 < 2 ^ k := pow_pos2 k
  have : i / 2 ^ k = q := by
    apply Nat.div_eq_of_lt_le
    · omega
    · rw [Nat.add_mul, Nat.one_mul]; omega
  rw [this, h]
theorem in_al (i k : Nat) : i / 2 ^ k * 2 ^ k ≤ i ∧ i < i / 2 ^ k * 2 ^ k + 2 ^ k := by
  have hp : 0 < 2 ^ k := pow_pos2 k
  have h1 := Nat.div_add_mod i (2 ^ k)
  have h2 := Nat.mod_lt i hp
  have h3 := Nat.mul_comm (2 ^ k) (i / 2 ^ k)
  omega
theorem Good.box_at {n : Nat} {L : List Lf} (g : Good n L) {x : Lf} (hx : x ∈ L) {i j : Nat} (h : x.has i j) : i / 2 ^ x.k * 2 ^ x.k = x.r ∧ j / 2 ^ x.k * 2 ^ x.k = x.c := by
  obtain ⟨_, _, _, _, ⟨q1, h5⟩, ⟨q2, h6⟩, _⟩ := g.hin x hx
  obtain ⟨h1, h2, h3, h4⟩ := h
  exact ⟨al_of (q := q1) (by omega) h1 h2, al_of (q := q2) (by omega) h3 h4⟩
/-- the boxes stand for the leaves -/
theorem Good.box_inj {n : Nat} {L : List Lf} (g : Good n L) {o o' : Nat} {x y : Lf} (h : L[o]? = some x) (h' : L[o']? = some y) (e1 : x.r = y.r) (e2 : x.c = y.c) : o = o' :=
  g.uniq h h' x.has_self (by rw [e1, e2]; exact y.has_self)
/-! ### how many rows -/
theorem add_len (T : List Qt) (t : Qt) : (add T t).length ≤ T.length + 1 := by
  by_cases h : Kn T t
  · rw [add_eq h]; omega
  · rw [add_ne h, List.length_append]; exact Nat.le_refl _
theorem post_le : ∀ (t : Qt) (T : List Qt), (post t T).length ≤ T.length + t.sz
  | .e, T => Nat.le_add_right _ _
  | .f, T => Nat.le_add_right _ _
  | .n a b c d, T => by
    have h1 := post_le a T
    have h2 := post_le b (post a T)
    have h3 := post_le c (post b (post a T))
    have h4 := post_le d (post c (post b (post a T)))
    have h5 := add_len (post d (post c (post b (post a T)))) (.n a b c d)
    show (add (post d (post c (post b (post a T)))) (.n a b c d)).length ≤ T.length + (a.sz + b.sz + c.sz + d.sz + 1)
    omega
theorem sz_le : ∀ (t : Qt) (h : Nat), t.ht ≤ h → t.sz + 1 ≤ 2 * 4 ^ h
  | .e, h, _ => by have : 1 ≤ 4 ^ h := Nat.one_le_pow _ _ (by decide); show 1 + 1 ≤ _; omega
  | .f, h, _ => by have : 1 ≤ 4 ^ h := Nat.one_le_pow _ _ (by decide); show 1 + 1 ≤ _; omega
  | .n a b c d, h, hh => by
    have hh : max (max a.ht b.ht) (max c.ht d.ht) + 1 ≤ h := hh
    obtain ⟨m, rfl⟩ : ∃ m, h = m + 1 := ⟨h - 1, by omega⟩
    have h1 := sz_le a m (by omega)
    have h2 := sz_le b m (by omega)
    have h3 := sz_le c m (by omega)
    have h4 := sz_le d m (by omega)
    rw [Nat.pow_succ]
    show a.sz + b.sz + c.sz + d.sz + 1 + 1 ≤ _
    omega
theorem post_small {t : Qt} (h : t.ht ≤ 6) : (post t []).length ≤ 8191 := by
  have h1 := post_le t []
  have h2 := sz_le t 6 h
  have h3 : (4 : Nat) ^ 6 = 4096 := by decide
  rw [h3] at h2
  simp at h1
  omega
theorem fit_of {n : Nat} {t : Qt} (h6 : n ≤ 6) (hc : Canon t) (hh : t.ht ≤ n) : Fit n t := ⟨h6, hc, hh, by have := post_small (t := t) (by omega); omega⟩
end Qf
/-! Links: plain Lean. -/
namespace Qf
def RightOf (n : Nat) (L : List Lf) (x : Lf) (o : Nat) : Prop := x.c + 2 ^ x.k < 2 ^ n ∧ ∃ y, L[o]? = some y ∧ ∃ i, x.r ≤ i ∧ i < x.r + 2 ^ x.k ∧ y.has i (x.c + 2 ^ x.k)
def BelowOf (n : Nat) (L : List Lf) (x : Lf) (o : Nat) : Prop := x.r + 2 ^ x.k < 2 ^ n ∧ ∃ y, L[o]? = some y ∧ ∃ j, x.c ≤ j ∧ j < x.c + 2 ^ x.k ∧ y.has (x.r + 2 ^ x.k) j
def CornOf (n : Nat) (L : List Lf) (x : Lf) (o : Nat) : Prop := x.r + 2 ^ x.k < 2 ^ n ∧ ∃ y, L[o]? = some y ∧ ((1 ≤ x.c ∧ y.has (x.r + 2 ^ x.k) (x.c - 1)) ∨ (x.c + 2 ^ x.k < 2 ^ n ∧ y.has (x.r + 2 ^ x.k) (x.c + 2 ^ x.k)))
def NbOf (by' : Bool) (n : Nat) (L : List Lf) (x : Lf) (o : Nat) : Prop := RightOf n L x o ∨ BelowOf n L x o ∨ (by' = true ∧ CornOf n L x o)
theorem NbOf.at {by' : Bool} {n : Nat} {L : List Lf} {x : Lf} {o : Nat} (h : NbOf by' n L x o) : ∃ y, L[o]? = some y := by
  rcases h with ⟨_, y, h, _⟩ | ⟨_, y, h, _⟩ | ⟨_, _, y, h, _⟩
  · exact ⟨y, h⟩
  · exact ⟨y, h⟩
  · exact ⟨y, h⟩
/-- the leaves j and o are of the colour t and touch, told by one ahead of k0 -/
def LkS (n : Nat) (L : List Lf) (t by' : Bool) (k0 j o : Nat) : Prop := ∃ x y, L[j]? = some x ∧ L[o]? = some y ∧ x.b = t ∧ y.b = t ∧ ((j < k0 ∧ NbOf by' n L x o) ∨ (o < k0 ∧ NbOf by' n L y j))
/-- .. and touch -/
def Lk (n : Nat) (L : List Lf) (t by' : Bool) (j o : Nat) : Prop := ∃ x y, L[j]? = some x ∧ L[o]? = some y ∧ x.b = t ∧ y.b = t ∧ (NbOf by' n L x o ∨ NbOf by' n L y j)
theorem Lk.symm {n : Nat} {L : List Lf} {t by' : Bool} {j o : Nat} (h : Lk n L t by' j o) : Lk n L t by' o j := by
  obtain ⟨x, y, h1, h2, h3, h4, h5⟩ := h
  exact ⟨y, x, h2, h1, h4, h3, h5.symm⟩
theorem get_lt {α : Type} {l : List α} {i : Nat} {x : α} (h : l[i]? = some x) : i < l.length := (List.getElem?_eq_some_iff.mp h).1
theorem LkS.full {n : Nat} {L : List Lf} {t by' : Bool} {j o : Nat} : LkS n L t by' L.length j o ↔ Lk n L t by' j o := by
  constructor
  · rintro ⟨x, y, h1, h2, h3, h4, h5⟩
    exact ⟨x, y, h1, h2, h3, h4, h5.imp And.right And.right⟩
  · rintro ⟨x, y, h1, h2, h3, h4, h5⟩
    exact ⟨x, y, h1, h2, h3, h4, h5.imp (fun h => ⟨get_lt h1, h⟩) fun h => ⟨get_lt h2, h⟩⟩
theorem LkS.zero {n : Nat} {L : List Lf} {t by' : Bool} {j o : Nat} : ¬ LkS n L t by' 0 j o := by
  rintro ⟨x, y, _, _, _, _, ⟨h, _⟩ | ⟨h, _⟩⟩
  · exact absurd h (Nat.not_lt_zero _)
  · exact absurd h (Nat.not_lt_zero _)
theorem LkS.skip {n : Nat} {L : List Lf} {t by' : Bool} {k0 : Nat} {x0 : Lf} (h0 : L[k0]? = some x0) (hb : x0.b ≠ t) {j o : Nat} : LkS n L t by' (k0 + 1) j o ↔ LkS n L t by' k0 j o := by
  constructor
  · rintro ⟨x, y, h1, h2, h3, h4, h5⟩
    refine ⟨x, y, h1, h2, h3, h4, ?_⟩
    rcases h5 with ⟨h5, h6⟩ | ⟨h5, h6⟩
    · refine .inl ⟨?_, h6⟩
      have : j ≠ k0 := fun z => by subst z; rw [h0] at h1; cases h1; exact hb h3
      omega
    · refine .inr ⟨?_, h6⟩
      have : o ≠ k0 := fun z => by subst z; rw [h0] at h2; cases h2; exact hb h4
      omega
  · rintro ⟨x, y, h1, h2, h3, h4, h5⟩
    exact ⟨x, y, h1, h2, h3, h4, h5.imp (fun h => ⟨by omega, h.2⟩) fun h => ⟨by omega, h.2⟩⟩
/-- what the turn of k0 brings -/
def LkT (L : List Lf) (t : Bool) (k0 : Nat) (es : List Nat) (j o : Nat) : Prop := ∃ o' ∈ es, (∃ y, L[o']? = some y ∧ y.b = t) ∧ ((j = k0 ∧ o = o') ∨ (j = o' ∧ o = k0))
theorem LkS.step {n : Nat} {L : List Lf} {t by' : Bool} {k0 : Nat} {x0 : Lf} (h0 : L[k0]? = some x0) (hb : x0.b = t) {es : List Nat} (he : ∀ o, o ∈ es ↔ NbOf by' n L x0 o) {j o : Nat} :
    LkS n L t by' (k0 + 1) j o ↔ LkS n L t by' k0 j o ∨ LkT L t k0 es j o := by
  constructor
  · rintro ⟨x, y, h1, h2, h3, h4, h5⟩
    rcases h5 with ⟨h5, h6⟩ | ⟨h5, h6⟩
    · by_cases hj : j = k0
      · subst hj
        rw [h0] at h1; cases h1
        exact .inr ⟨o, (he o).mpr h6, ⟨y, h2, h4⟩, .inl ⟨rfl, rfl⟩⟩
      · exact .inl ⟨x, y, h1, h2, h3, h4, .inl ⟨by omega, h6⟩⟩
    · by_cases hj : o = k0
      · subst hj
        rw [h0] at h2; cases h2
        exact .inr ⟨j, (he j).mpr h6, ⟨x, h1, h3⟩, .inr ⟨rfl, rfl⟩⟩
      · exact .inl ⟨x, y, h1, h2, h3, h4, .inr ⟨by omega, h6⟩⟩
  · rintro (⟨x, y, h1, h2, h3, h4, h5⟩ | ⟨o', ho, ⟨y, h1, h2⟩, ⟨rfl, rfl⟩ | ⟨rfl, rfl⟩⟩)
    · exact ⟨x, y, h1, h2, h3, h4, h5.imp (fun h => ⟨by omega, h.2⟩) fun h => ⟨by omega, h.2⟩⟩
    · exact ⟨x0, y, h0, h1, hb, h2, .inl ⟨by omega, (he _).mp ho⟩⟩
    · exact ⟨y, x0, h1, h0, h2, hb, .inr ⟨by omega, (he _).mp ho⟩⟩
/-! ### lists of lists -/
def Mm (oss : List (List Nat)) (j o : Nat) : Prop := ∃ os, oss[j]? = some os ∧ o ∈ os
def push (oss : List (List Nat)) (k o : Nat) : List (List Nat) := oss.set k ((oss[k]?.getD []) ++ [o])
theorem push_len (oss : List (List Nat)) (k o : Nat) : (push oss k o).length = oss.length := List.length_set
theorem push_M {oss : List (List Nat)} {k o j o' : Nat} (hk : k < oss.length) : Mm (push oss k o) j o' ↔ Mm oss j o' ∨ (j = k ∧ o' = o) := by
  have hg : oss[k]? = some oss[k] := List.getElem?_eq_getElem hk
  unfold Mm push
  rw [hg]
  by_cases hj : k = j
  · subst hj
    rw [List.getElem?_set_self hk]
    constructor
    · rintro ⟨os, e, h⟩
      cases e
      rcases List.mem_append.mp h with h | h
      · exact .inl ⟨_, hg, h⟩
      · exact .inr ⟨rfl, List.mem_singleton.mp h⟩
    · rintro (⟨os, e, h⟩ | ⟨_, rfl⟩)
      · rw [hg] at e
        cases e
        exact ⟨_, rfl, List.mem_append_left _ h⟩
      · exact ⟨_, rfl, List.mem_append_right _ (List.mem_singleton.mpr rfl)⟩
  · rw [List.getElem?_set_ne hj]
    constructor
    · exact fun h => .inl h
    · rintro (h | ⟨rfl, _⟩)
      · exact h
      · exact absurd rfl hj
theorem push_bd {oss : List (List Nat)} {k o c : Nat} (h : ∀ os ∈ oss, os.length ≤ c) : ∀ os ∈ push oss k o, os.length ≤ c + 1 := by
  intro os hos
  rcases List.mem_or_eq_of_mem_set hos with q | q
  · have := h os q; omega
  · subst q
    rw [List.length_append, List.length_singleton]
    cases e : oss[k]? with
    | none => show 0 + 1 ≤ _; omega
    | some z =>
      have := h z (List.mem_of_getElem? e)
      show z.length + 1 ≤ _
      omega
theorem LkT.snoc {L : List Lf} {t : Bool} {k0 o' : Nat} {es : List Nat} {j o : Nat} : LkT L t k0 (es ++ [o']) j o ↔ LkT L t k0 es j o ∨ ((∃ y, L[o']? = some y ∧ y.b = t) ∧ ((j = k0 ∧ o = o') ∨ (j = o' ∧ o = k0))) := by
  constructor
  · rintro ⟨z, hz, h⟩
    rcases List.mem_append.mp hz with hz | hz
    · exact .inl ⟨z, hz, h⟩
    · rw [List.mem_singleton] at hz
      subst hz
      exact .inr h
  · rintro (⟨z, hz, h⟩ | h)
    · exact ⟨z, List.mem_append_left _ hz, h⟩
    · exact ⟨o', List.mem_append_right _ (List.mem_singleton.mpr rfl), h⟩
end Qf
/-! What is reached: plain Lean. -/
namespace Qf
inductive Rch (R : Nat → Nat → Prop) (a : Nat) : Nat → Prop
  | refl : Rch R a a
  | step {b c : Nat} : Rch R a b → R b c → Rch R a c
theorem Rch.trans {R : Nat → Nat → Prop} {a b c : Nat} (h : Rch R a b) (k : Rch R b c) : Rch R a c := by
  induction k with
  | refl => exact h
  | step _ r ih => exact .step ih r
theorem Rch.one {R : Nat → Nat → Prop} {a b : Nat} (h : R a b) : Rch R a b := .step .refl h
theorem Rch.symm {R : Nat → Nat → Prop} (hs : ∀ a b, R a b → R b a) {a b : Nat} (h : Rch R a b) : Rch R b a := by
  induction h with
  | refl => exact .refl
  | step _ r ih => exact (Rch.one (hs _ _ r)).trans ih
theorem Rch.imp {R S : Nat → Nat → Prop} (f : ∀ a b, R a b → S a b) {a b : Nat} (h : Rch R a b) : Rch S a b := by
  induction h with
  | refl => exact .refl
  | step _ r ih => exact .step ih (f _ _ r)
/-- what is closed keeps what is reached -/
theorem Rch.keep {R : Nat → Nat → Prop} {P : Nat → Prop} (hc : ∀ a b, P a → R a b → P b) {a b : Nat} (h : Rch R a b) (ha : P a) : P b := by
  induction h with
  | refl => exact ha
  | step _ r ih => exact hc _ _ ih r
theorem nodup_sub {α : Type} [DecidableEq α] : ∀ {l m : List α}, l.Nodup → (∀ x ∈ l, x ∈ m) → l.length ≤ m.length
  | [], m, _, _ => Nat.zero_le _
  | a :: l, m, nd, h => by
    obtain ⟨h1, h2⟩ := List.nodup_cons.mp nd
    have hm := h a List.mem_cons_self
    have := nodup_sub (l := l) (m := m.erase a) h2 fun x hx => (List.mem_erase_of_ne (fun z => h1 (by subst z; exact hx))).mpr (h x (List.mem_cons_of_mem _ hx))
    rw [List.length_erase_of_mem hm] at this
    have := List.length_pos_of_mem hm
    rw [List.length_cons]
    omega
theorem nodup_lt {l : List Nat} {N : Nat} (nd : l.Nodup) (h : ∀ x ∈ l, x < N) : l.length ≤ N := by
  have := nodup_sub (m := List.range N) nd fun x hx => List.mem_range.mpr (h x hx)
  rwa [List.length_range] at this
/-- the state of the search from `first`: seen before S; done fs, waiting ws -/
structure RchI (oss : List (List Nat)) (S : List Nat) (first : Nat) (fs ws : List Nat) : Prop where
  nd : (fs ++ ws).Nodup
  ap : ∀ o ∈ fs ++ ws, o ∉ S
  lt : ∀ o ∈ fs ++ ws, o < oss.length
  fi : first ∈ fs ++ ws
  cn : ∀ o ∈ fs ++ ws, Rch (Mm oss) first o
structure RchC (oss : List (List Nat)) (S fs ws : List Nat) : Prop where
  cl : ∀ o ∈ fs, ∀ o', Mm oss o o' → o' ∈ S ∨ o' ∈ fs ++ ws
theorem RchI.len {oss : List (List Nat)} {S : List Nat} {first : Nat} {fs ws : List Nat} (h : RchI oss S first fs ws) : fs.length + ws.length ≤ oss.length := by
  have := nodup_lt h.nd h.lt
  rwa [List.length_append] at this
theorem mem_mid {α : Type} {fs ws : List α} {a x : α} : x ∈ fs ++ (ws ++ [a]) ↔ x ∈ fs ++ [a] ++ ws := by
  simp only [List.mem_append, List.mem_singleton]
  exact ⟨fun h => h.elim (fun h => .inl (.inl h)) fun h => h.elim .inr fun h => .inl (.inr h), fun h => h.elim (fun h => h.elim .inl fun h => .inr (.inr h)) fun h => .inr (.inl h)⟩
theorem nodup_mid {α : Type} {fs ws : List α} {a : α} (h : (fs ++ (ws ++ [a])).Nodup) : (fs ++ [a] ++ ws).Nodup := by
  rw [List.nodup_append] at h ⊢
  obtain ⟨h1, h2, h3⟩ := h
  rw [List.nodup_append] at h2
  obtain ⟨h4, _, h5⟩ := h2
  refine ⟨?_, h4, ?_⟩
  · rw [List.nodup_append]
    exact ⟨h1, by simp, fun x hx y hy => h3 x hx y (List.mem_append_right _ hy)⟩
  · intro x hx y hy
    rcases List.mem_append.mp hx with hx | hx
    · exact h3 x hx y (List.mem_append_left _ hy)
    · rw [List.mem_singleton] at hx
      subst hx
      exact fun z => h5 y hy _ (List.mem_singleton.mpr rfl) z.symm
/-- one taken from what waits -/
theorem RchI.pop {oss : List (List Nat)} {S : List Nat} {first : Nat} {fs ws : List Nat} {a : Nat} (h : RchI oss S first fs (ws ++ [a])) : RchI oss S first (fs ++ [a]) ws :=
  ⟨nodup_mid h.nd, fun o ho => h.ap o (mem_mid.mpr ho), fun o ho => h.lt o (mem_mid.mpr ho), mem_mid.mp h.fi, fun o ho => h.cn o (mem_mid.mpr ho)⟩
/-- one more waits -/
theorem RchI.put {oss : List (List Nat)} {S : List Nat} {first : Nat} {fs ws : List Nat} {a o : Nat} (h : RchI oss S first fs ws) (ha : a ∈ fs ++ ws) (hm : Mm oss a o) (hl : o < oss.length) (h1 : o ∉ S) (h2 : o ∉ fs ++ ws) : RchI oss S first fs (ws ++ [o]) := by
  refine ⟨?_, ?_, ?_, ?_, ?_⟩
  · rw [← List.append_assoc, List.nodup_append]
    exact ⟨h.nd, by simp, fun x hx y hy z => h2 (by rw [List.mem_singleton] at hy; subst hy; subst z; exact hx)⟩
  · intro x hx
    rw [← List.append_assoc] at hx
    rcases List.mem_append.mp hx with hx | hx
    · exact h.ap x hx
    · rw [List.mem_singleton] at hx; subst hx; exact h1
  · intro x hx
    rw [← List.append_assoc] at hx
    rcases List.mem_append.mp hx with hx | hx
    · exact h.lt x hx
    · rw [List.mem_singleton] at hx; subst hx; exact hl
  · rw [← List.append_assoc]; exact List.mem_append_left _ h.fi
  · intro x hx
    rw [← List.append_assoc] at hx
    rcases List.mem_append.mp hx with hx | hx
    · exact h.cn x hx
    · rw [List.mem_singleton] at hx; subst hx; exact .step (h.cn a ha) hm
end Qf
/-! Groups: plain Lean. -/
namespace Qf
/-- what hangs together of the leaves of a colour -/
structure GrpI (n : Nat) (L : List Lf) (t by' : Bool) (gs : List (List Nat)) : Prop where
  mem : ∀ g ∈ gs, ∀ o ∈ g, ∃ x, L[o]? = some x ∧ x.b = t
  cls : ∀ g ∈ gs, ∀ o ∈ g, ∀ o', Lk n L t by' o o' → o' ∈ g
  con : ∀ g ∈ gs, ∀ o ∈ g, ∀ o' ∈ g, Rch (Lk n L t by') o o'
  nd : ∀ g ∈ gs, g.Nodup
  ne : ∀ g ∈ gs, g ≠ []
  dj : gs.Pairwise (fun g g' => ∀ o, o ∈ g → o ∉ g')
structure Grp (n : Nat) (L : List Lf) (t by' : Bool) (gs : List (List Nat)) : Prop extends GrpI n L t by' gs where
  cov : ∀ o x, L[o]? = some x → x.b = t → ∃ g ∈ gs, o ∈ g
theorem Grp.perm {n : Nat} {L : List Lf} {t by' : Bool} {gs gs' : List (List Nat)} (h : Grp n L t by' gs) (p : gs'.Perm gs) : Grp n L t by' gs' := by
  refine ⟨⟨fun g hg => h.mem g (p.mem_iff.mp hg), fun g hg => h.cls g (p.mem_iff.mp hg), fun g hg => h.con g (p.mem_iff.mp hg), fun g hg => h.nd g (p.mem_iff.mp hg), fun g hg => h.ne g (p.mem_iff.mp hg), ?_⟩, fun o x h1 h2 => ?_⟩
  · exact (List.Perm.pairwise_iff (fun {a b} k o hb ha => k o ha hb) p).mpr h.dj
  · obtain ⟨g, hg, ho⟩ := h.cov o x h1 h2
    exact ⟨g, p.mem_iff.mpr hg, ho⟩
theorem GrpI.nil {n : Nat} {L : List Lf} {t by' : Bool} : GrpI n L t by' [] := ⟨fun g h => (by cases h), fun g h => (by cases h), fun g h => (by cases h), fun g h => (by cases h), fun g h => (by cases h), List.Pairwise.nil⟩
/-- one group more: what was reached from a leaf that was not seen -/
theorem GrpI.snoc {n : Nat} {L : List Lf} {t by' : Bool} {gs : List (List Nat)} {oss : List (List Nat)} {S fs : List Nat} {first : Nat} (h : GrpI n L t by' gs) (hS : ∀ o, o ∈ S ↔ ∃ g ∈ gs, o ∈ g) (hM : ∀ j o, Mm oss j o ↔ Lk n L t by' j o)
    (RI : RchI oss S first fs []) (RC : RchC oss S fs []) (hf : ∃ x, L[first]? = some x ∧ x.b = t) : GrpI n L t by' (gs ++ [fs]) := by
  have hcl : ∀ o ∈ fs, ∀ o', Lk n L t by' o o' → o' ∈ fs := fun o ho o' hl => by
    rcases RC.cl o ho o' ((hM o o').mpr hl) with h1 | h1
    · obtain ⟨g, hg, ho'⟩ := (hS o').mp h1
      exact absurd ((hS o).mpr ⟨g, hg, h.cls g hg o' ho' o hl.symm⟩) (RI.ap o (List.mem_append_left _ ho))
    · rw [List.append_nil] at h1; exact h1
  have hcn : ∀ o ∈ fs, Rch (Lk n L t by') first o := fun o ho => (RI.cn o (List.mem_append_left _ ho)).imp fun a b => (hM a b).mp
  refine ⟨fun g hg => ?_, fun g hg => ?_, fun g hg => ?_, fun g hg => ?_, fun g hg => ?_, ?_⟩
  · rcases List.mem_append.mp hg with hg | hg
    · exact h.mem g hg
    · rw [List.mem_singleton] at hg
      subst hg
      intro o ho
      refine Rch.keep (P := fun o => ∃ x, L[o]? = some x ∧ x.b = t) (fun a b _ r => ?_) (hcn o ho) hf
      obtain ⟨x, y, _, h2, _, h4, _⟩ := r
      exact ⟨y, h2, h4⟩
  · rcases List.mem_append.mp hg with hg | hg
    · exact h.cls g hg
    · rw [List.mem_singleton] at hg
      subst hg
      exact hcl
  · rcases List.mem_append.mp hg with hg | hg
    · exact h.con g hg
    · rw [List.mem_singleton] at hg
      subst hg
      exact fun o ho o' ho' => ((hcn o ho).symm (fun a b r => r.symm)).trans (hcn o' ho')
  · rcases List.mem_append.mp hg with hg | hg
    · exact h.nd g hg
    · rw [List.mem_singleton] at hg
      subst hg
      have := RI.nd
      rwa [List.append_nil] at this
  · rcases List.mem_append.mp hg with hg | hg
    · exact h.ne g hg
    · rw [List.mem_singleton] at hg
      subst hg
      intro z
      have := RI.fi
      rw [z] at this
      cases this
  · rw [List.pairwise_append]
    refine ⟨h.dj, List.pairwise_singleton _ _, fun g hg g' hg' o ho ho' => ?_⟩
    rw [List.mem_singleton] at hg'
    subst hg'
    exact RI.ap o (List.mem_append_left _ ho') ((hS o).mpr ⟨g, hg, ho⟩)
theorem GrpI.len {n : Nat} {L : List Lf} {t by' : Bool} {gs : List (List Nat)} (h : GrpI n L t by' gs) : gs.length ≤ L.length := by
  have hd : ∀ g ∈ gs, g.headD 0 ∈ g := fun g hg => by
    cases g with
    | nil => exact absurd rfl (h.ne [] hg)
    | cons a r => exact List.mem_cons_self
  have nd : (gs.map fun g => g.headD 0).Nodup := by
    rw [List.Nodup, List.pairwise_map]
    refine List.Pairwise.imp_of_mem (fun {g g'} hg hg' hdj e => ?_) h.dj
    exact hdj _ (hd g hg) (by rw [e]; exact hd g' hg')
  have := nodup_lt (N := L.length) nd fun o ho => by
    obtain ⟨g, hg, rfl⟩ := List.mem_map.mp ho
    obtain ⟨x, hx, _⟩ := h.mem g hg _ (hd g hg)
    exact get_lt hx
  rwa [List.length_map] at this
end Qf
/-! From cells to a tree, square by square: plain Lean. -/
namespace Qf
/-- the tree of the square at an address -/
def trA (F : Nat → Nat → Bool) (n : Nat) (ad : List Nat) : Qt := tree F (n - ad.length) (boxA n ad).1 (boxA n ad).2.1
theorem trA_nil (F : Nat → Nat → Bool) (n : Nat) : trA F n [] = tree F n 0 0 := rfl
theorem trA_step (F : Nat → Nat → Bool) (n : Nat) (ad : List Nat) (h : ad.length < n) : trA F n ad = mk (trA F n (ad ++ [0])) (trA F n (ad ++ [1])) (trA F n (ad ++ [2])) (trA F n (ad ++ [3])) := by
  have hk := boxA_k n ad
  have e : n - ad.length = (n - (ad.length + 1)) + 1 := by omega
  have l : ∀ q, (ad ++ [q]).length = ad.length + 1 := fun q => by rw [List.length_append, List.length_singleton]
  have b : ∀ q, boxA n (ad ++ [q]) = ((boxA n ad).1 + 2 ^ (n - (ad.length + 1)) * (q / 2), (boxA n ad).2.1 + 2 ^ (n - (ad.length + 1)) * (q % 2), n - (ad.length + 1)) := fun q => by
    rw [boxA_snoc, stepB_eq (r := (boxA n ad).1) (c := (boxA n ad).2.1) (k := (boxA n ad).2.2) rfl, hk, show n - ad.length - 1 = n - (ad.length + 1) by omega]
  unfold trA
  rw [l, l, l, l, b, b, b, b, e]
  simp [tree]
theorem mk_e_iff {a b c d : Qt} : mk a b c d = .e ↔ a = .e ∧ b = .e ∧ c = .e ∧ d = .e := by
  constructor
  · intro h
    rcases mk_cases a b c d with e | ⟨_, e⟩ | ⟨e, _⟩
    · rw [e] at h; cases h
    · exact e
    · rw [e] at h; cases h
  · rintro ⟨rfl, rfl, rfl, rfl⟩
    exact mk_e
theorem trA_canon (F : Nat → Nat → Bool) (n : Nat) (ad : List Nat) : Canon (trA F n ad) := tree_canon _ _ _ _
/-- all addresses of n figures -/
theorem trA_leaf (F : Nat → Nat → Bool) (n : Nat) (ad : List Nat) (h : ad.length = n) : trA F n ad = if F (boxA n ad).1 (boxA n ad).2.1 = true then .f else .e := by
  unfold trA
  rw [h, Nat.sub_self]
  rfl
theorem two_mul_q {k d : Nat} (h : d < 2) : 2 ^ k * d = if d = 0 then 0 else 2 ^ k := by
  match d, h with
  | 0, _ => simp
  | 1, _ => simp
theorem fold_in : ∀ (ds : List Nat), (∀ d ∈ ds, d < 4) → ∀ (r c k : Nat), ds.length ≤ k → r ≤ (ds.foldl stepB (r, c, k)).1 ∧ (ds.foldl stepB (r, c, k)).1 < r + 2 ^ k ∧ c ≤ (ds.foldl stepB (r, c, k)).2.1 ∧ (ds.foldl stepB (r, c, k)).2.1 < c + 2 ^ k
  | [], _, r, c, k, _ => by
    have := pow_pos2 k
    exact ⟨Nat.le_refl _, by show r < _; omega, Nat.le_refl _, by show c < _; omega⟩
  | d :: t, hf, r, c, k, hk => by
    rw [List.length_cons] at hk
    obtain ⟨m, rfl⟩ : ∃ m, k = m + 1 := ⟨k - 1, by omega⟩
    have hd := hf d List.mem_cons_self
    have := fold_in t (fun d hd => hf d (List.mem_cons_of_mem _ hd)) (r + 2 ^ m * (d / 2)) (c + 2 ^ m * (d % 2)) m (by omega)
    have e2 : 2 ^ (m + 1) = 2 ^ m + 2 ^ m := by rw [Nat.pow_succ]; omega
    have h1 := two_mul_q (k := m) (d := d / 2) (by omega)
    have h2 := two_mul_q (k := m) (d := d % 2) (by omega)
    rw [List.foldl_cons]
    show r ≤ (t.foldl stepB (r + 2 ^ m * (d / 2), c + 2 ^ m * (d % 2), m)).1 ∧ _
    have key : (List.foldl stepB (stepB (r, c, m + 1) d) t) = t.foldl stepB (r + 2 ^ m * (d / 2), c + 2 ^ m * (d % 2), m) := rfl
    rw [key]
    split at h1 <;> split at h2 <;> omega
theorem fold_inj : ∀ (ds es : List Nat), (∀ d ∈ ds, d < 4) → (∀ d ∈ es, d < 4) → ds.length = es.length → ∀ (r c k : Nat), ds.length ≤ k → (ds.foldl stepB (r, c, k)).1 = (es.foldl stepB (r, c, k)).1 → (ds.foldl stepB (r, c, k)).2.1 = (es.foldl stepB (r, c, k)).2.1 → ds = es
  | [], [], _, _, _, _, _, _, _, _, _ => rfl
  | d :: t, e :: u, hf, hg, hl, r, c, k, hk, h1, h2 => by
    rw [List.length_cons] at hk
    obtain ⟨m, rfl⟩ : ∃ m, k = m + 1 := ⟨k - 1, by omega⟩
    have hlt : t.length = u.length := Nat.succ.inj hl
    have hd := hf d List.mem_cons_self
    have he := hg e List.mem_cons_self
    have ft := fun d hd => hf d (List.mem_cons_of_mem _ hd)
    have fu := fun d hd => hg d (List.mem_cons_of_mem _ hd)
    have k1 : (List.foldl stepB (r, c, m + 1) (d :: t)) = t.foldl stepB (r + 2 ^ m * (d / 2), c + 2 ^ m * (d % 2), m) := rfl
    have k2 : (List.foldl stepB (r, c, m + 1) (e :: u)) = u.foldl stepB (r + 2 ^ m * (e / 2), c + 2 ^ m * (e % 2), m) := rfl
    rw [k1, k2] at h1 h2
    have i1 := fold_in t ft (r + 2 ^ m * (d / 2)) (c + 2 ^ m * (d % 2)) m (by omega)
    have i2 := fold_in u fu (r + 2 ^ m * (e / 2)) (c + 2 ^ m * (e % 2)) m (by omega)
    have q1 := two_mul_q (k := m) (d := d / 2) (by omega)
    have q2 := two_mul_q (k := m) (d := d % 2) (by omega)
    have q3 := two_mul_q (k := m) (d := e / 2) (by omega)
    have q4 := two_mul_q (k := m) (d := e % 2) (by omega)
    have hde : d = e := by
      split at q1 <;> split at q2 <;> split at q3 <;> split at q4 <;> omega
    subst hde
    rw [fold_inj t u ft fu hlt _ _ _ (by omega) h1 h2]
theorem boxA_inj {n : Nat} {ds es : List Nat} (hf : ∀ d ∈ ds, d < 4) (hg : ∀ d ∈ es, d < 4) (hl : ds.length = es.length) (hn : ds.length ≤ n) (h1 : (boxA n ds).1 = (boxA n es).1) (h2 : (boxA n ds).2.1 = (boxA n es).2.1) : ds = es :=
  fold_inj ds es hf hg hl 0 0 n hn h1 h2
/-- the cells of some leaves -/
def cellF (L : List Lf) (os : List Nat) (i j : Nat) : Bool := os.any fun o => match L[o]? with | some x => decide (x.r = i ∧ x.c = j) | none => false
theorem cellF_iff {L : List Lf} {os : List Nat} {i j : Nat} : cellF L os i j = true ↔ ∃ o ∈ os, ∃ x, L[o]? = some x ∧ x.r = i ∧ x.c = j := by
  unfold cellF
  rw [List.any_eq_true]
  constructor
  · rintro ⟨o, ho, h⟩
    cases e : L[o]? with
    | none => rw [e] at h; cases h
    | some x => rw [e] at h; exact ⟨o, ho, x, e, of_decide_eq_true h⟩
  · rintro ⟨o, ho, x, e, h⟩
    refine ⟨o, ho, ?_⟩
    rw [e]
    exact decide_eq_true h
/-- the addresses at size s whose squares are not empty -/
structure Lvl (F : Nat → Nat → Bool) (n s : Nat) (As : List (List Nat)) : Prop where
  nd : As.Nodup
  ok : ∀ ad ∈ As, ad.length = s ∧ ∀ d ∈ ad, d < 4
  al : ∀ ad, ad.length = s → (∀ d ∈ ad, d < 4) → (ad ∈ As ↔ trA F n ad ≠ .e)
/-- the leaves' addresses -/
def adsOf (L : List Lf) (os : List Nat) : List (List Nat) := os.filterMap fun o => (L[o]?).map Lf.ad
theorem adsOf_get {L : List Lf} : ∀ {os : List Nat}, (∀ o ∈ os, o < L.length) → ∀ (i : Nat) (o : Nat) (x : Lf), os[i]? = some o → L[o]? = some x → (adsOf L os)[i]? = some x.ad
  | o :: os, h, 0, o', x, h1, h2 => by
    cases h1
    unfold adsOf
    rw [List.filterMap_cons, h2]
    rfl
  | o :: os, h, i + 1, o', x, h1, h2 => by
    have hl : L[o]? = some (L[o]'(h o List.mem_cons_self)) := List.getElem?_eq_getElem _
    have := adsOf_get (os := os) (fun o ho => h o (List.mem_cons_of_mem _ ho)) i o' x (by simpa using h1) h2
    unfold adsOf at this ⊢
    rw [List.filterMap_cons, hl]
    simpa using this
theorem adsOf_len {L : List Lf} : ∀ {os : List Nat}, (∀ o ∈ os, o < L.length) → (adsOf L os).length = os.length
  | [], _ => rfl
  | o :: os, h => by
    have hl : L[o]? = some (L[o]'(h o List.mem_cons_self)) := List.getElem?_eq_getElem _
    have := adsOf_len (os := os) fun o ho => h o (List.mem_cons_of_mem _ ho)
    unfold adsOf at this ⊢
    rw [List.filterMap_cons, hl]
    show (_ :: _).length = _
    rw [List.length_cons, List.length_cons, this]
theorem adsOf_mem {L : List Lf} {os : List Nat} {ad : List Nat} : ad ∈ adsOf L os ↔ ∃ o ∈ os, ∃ x, L[o]? = some x ∧ x.ad = ad := by
  unfold adsOf
  rw [List.mem_filterMap]
  constructor
  · rintro ⟨o, ho, h⟩
    cases e : L[o]? with
    | none => rw [e] at h; cases h
    | some x => rw [e] at h; exact ⟨o, ho, x, e, Option.some.inj h⟩
  · rintro ⟨o, ho, x, e, rfl⟩
    exact ⟨o, ho, by rw [e]; rfl⟩
theorem adsOf_nodup {n : Nat} {L : List Lf} (g : Good n L) : ∀ {os : List Nat}, os.Nodup → (∀ o ∈ os, o < L.length) → (adsOf L os).Nodup
  | [], _, _ => List.nodup_nil
  | o :: os, nd, h => by
    obtain ⟨h1, h2⟩ := List.nodup_cons.mp nd
    have hl : L[o]? = some (L[o]'(h o List.mem_cons_self)) := List.getElem?_eq_getElem _
    have ih := adsOf_nodup g h2 fun o ho => h o (List.mem_cons_of_mem _ ho)
    have e : adsOf L (o :: os) = (L[o]'(h o List.mem_cons_self)).ad :: adsOf L os := by
      unfold adsOf
      rw [List.filterMap_cons, hl]
      rfl
    rw [e, List.nodup_cons]
    refine ⟨fun z => ?_, ih⟩
    obtain ⟨o', ho', x, hx, ex⟩ := adsOf_mem.mp z
    have b1 := g.box x (List.mem_of_getElem? hx)
    have b2 := g.box _ (List.mem_of_getElem? hl)
    rw [ex, b2] at b1
    injection b1 with r1 b1
    injection b1 with r2 _
    have := g.box_inj hx hl r1.symm r2.symm
    subst this
    exact h1 ho'
theorem lvl_top {n : Nat} {L : List Lf} (g : Good n L) {os : List Nat} (nd : os.Nodup) (h : ∀ o ∈ os, o < L.length) (hu : ∀ o ∈ os, ∀ x, L[o]? = some x → x.k = 0) : Lvl (cellF L os) n n (adsOf L os) := by
  refine ⟨adsOf_nodup g nd h, fun ad had => ?_, fun ad hl hf => ?_⟩
  · obtain ⟨o, ho, x, hx, rfl⟩ := adsOf_mem.mp had
    have hm := List.mem_of_getElem? hx
    have := g.adl x hm
    have := hu o ho x hx
    exact ⟨by omega, g.fig x hm⟩
  · rw [trA_leaf _ _ _ hl]
    have key : cellF L os (boxA n ad).1 (boxA n ad).2.1 = true ↔ ad ∈ adsOf L os := by
      rw [cellF_iff, adsOf_mem]
      constructor
      · rintro ⟨o, ho, x, hx, h1, h2⟩
        have hm := List.mem_of_getElem? hx
        have hb := g.box x hm
        have h3 := g.adl x hm
        have h4 := hu o ho x hx
        refine ⟨o, ho, x, hx, boxA_inj (n := n) (g.fig x hm) hf (by omega) (by omega) ?_ ?_⟩
        · rw [hb]; exact h1
        · rw [hb]; exact h2
      · rintro ⟨o, ho, x, hx, rfl⟩
        have hb := g.box x (List.mem_of_getElem? hx)
        exact ⟨o, ho, x, hx, by rw [hb], by rw [hb]⟩
    rw [← key]
    by_cases q : cellF L os (boxA n ad).1 (boxA n ad).2.1 = true
    · rw [if_pos q]; exact ⟨fun _ z => (by cases z), fun _ => q⟩
    · rw [if_neg q]; exact ⟨fun z => absurd z q, fun z => absurd rfl z⟩
/-- the parents of the squares at size s + 1 -/
theorem lvl_up {F : Nat → Nat → Bool} {n s : Nat} {As Ps : List (List Nat)} (hs : s < n) (h : Lvl F n (s + 1) As) (nd : Ps.Nodup) (hp : ∀ pa, pa ∈ Ps ↔ ∃ q, pa ++ [q] ∈ As) : Lvl F n s Ps := by
  refine ⟨nd, fun pa hpa => ?_, fun pa hl hf => ?_⟩
  · obtain ⟨q, hq⟩ := (hp pa).mp hpa
    obtain ⟨h1, h2⟩ := h.ok _ hq
    rw [List.length_append, List.length_singleton] at h1
    exact ⟨by omega, fun d hd => h2 d (List.mem_append_left _ hd)⟩
  · have fq : ∀ q, q < 4 → ((pa ++ [q]).length = s + 1 ∧ ∀ d ∈ pa ++ [q], d < 4) := fun q hq => by
      refine ⟨by rw [List.length_append, List.length_singleton]; omega, fun d hd => ?_⟩
      rcases List.mem_append.mp hd with hd | hd
      · exact hf d hd
      · rw [List.mem_singleton] at hd; omega
    have al : ∀ q, q < 4 → (pa ++ [q] ∈ As ↔ trA F n (pa ++ [q]) ≠ .e) := fun q hq => h.al _ (fq q hq).1 (fq q hq).2
    rw [hp, Ne, trA_step F n pa (by omega), mk_e_iff]
    constructor
    · rintro ⟨q, hq⟩ ⟨h0, h1, h2, h3⟩
      have hq4 : q < 4 := (h.ok _ hq).2 q (by simp)
      have := (al q hq4).mp hq
      match q, hq4 with
      | 0, _ => exact this h0
      | 1, _ => exact this h1
      | 2, _ => exact this h2
      | 3, _ => exact this h3
    · intro hn
      by_cases h0 : trA F n (pa ++ [0]) = .e
      · by_cases h1 : trA F n (pa ++ [1]) = .e
        · by_cases h2 : trA F n (pa ++ [2]) = .e
          · by_cases h3 : trA F n (pa ++ [3]) = .e
            · exact absurd ⟨h0, h1, h2, h3⟩ hn
            · exact ⟨3, (al 3 (by decide)).mpr h3⟩
          · exact ⟨2, (al 2 (by decide)).mpr h2⟩
        · exact ⟨1, (al 1 (by decide)).mpr h1⟩
      · exact ⟨0, (al 0 (by decide)).mpr h0⟩
end Qf
/-! Ways of fewest steps: plain Lean. -/
namespace Qf
inductive PathN (R : Nat → Nat → Prop) (a : Nat) : Nat → Nat → Prop
  | zero : PathN R a 0 a
  | step {k b c : Nat} : PathN R a k b → R b c → PathN R a (k + 1) c
theorem PathN.of_rch {R : Nat → Nat → Prop} {a b : Nat} (h : Rch R a b) : ∃ k, PathN R a k b := by
  induction h with
  | refl => exact ⟨0, .zero⟩
  | step _ r ih => obtain ⟨k, p⟩ := ih; exact ⟨k + 1, .step p r⟩
theorem PathN.imp {R S : Nat → Nat → Prop} (f : ∀ a b, R a b → S a b) {a k b : Nat} (h : PathN R a k b) : PathN S a k b := by
  induction h with
  | zero => exact .zero
  | step _ r ih => exact .step ih (f _ _ r)
/-- a search's state between two rounds: the last round's leaves fr, at d steps -/
structure BfO (oss : List (List Nat)) (first : Nat) (d : Nat) (S : List Nat) (D : Nat → Nat) (p : Nat → Option Nat) (fr : List Nat) : Prop where
  nd : S.Nodup
  lt : ∀ o ∈ S, o < oss.length
  fi : first ∈ S ∧ D first = 0 ∧ p first = none
  pa : ∀ o ∈ S, o ≠ first → ∃ q ∈ S, p o = some q ∧ Mm oss q o ∧ D o = D q + 1
  cl : ∀ o ∈ S, D o < d → ∀ o', Mm oss o o' → o' ∈ S ∧ D o' ≤ D o + 1
  up : ∀ o ∈ S, D o ≤ d
  fr : ∀ o, o ∈ fr ↔ o ∈ S ∧ D o = d
/-- .. within a round: done, of the round's leaves; more, the next round's -/
structure BfI (oss : List (List Nat)) (first : Nat) (d : Nat) (c : Nat) (fr done : List Nat) (S : List Nat) (D : Nat → Nat) (p : Nat → Option Nat) (more : List Nat) : Prop where
  nd : S.Nodup
  lt : ∀ o ∈ S, o < oss.length
  fi : first ∈ S ∧ D first = 0 ∧ p first = none
  pa : ∀ o ∈ S, o ≠ first → ∃ q ∈ S, p o = some q ∧ Mm oss q o ∧ D o = D q + 1
  cl : ∀ o ∈ S, (D o < d ∨ o ∈ done) → ∀ o', Mm oss o o' → o' ∈ S ∧ D o' ≤ D o + 1
  up : ∀ o ∈ S, D o ≤ d + 1
  mo : ∀ o, o ∈ more ↔ o ∈ S ∧ D o = d + 1
  fq : ∀ o, o ∈ fr ↔ o ∈ S ∧ D o = d
  ln : more.length + c = S.length
  dn : ∀ o ∈ done, o ∈ fr
theorem BfO.start {oss : List (List Nat)} {first d : Nat} {S : List Nat} {D : Nat → Nat} {p : Nat → Option Nat} {fr : List Nat} (h : BfO oss first d S D p fr) : BfI oss first d S.length fr [] S D p [] :=
  ⟨h.nd, h.lt, h.fi, h.pa, fun o ho hd => hd.elim (h.cl o ho) fun z => (by cases z), fun o ho => Nat.le_succ_of_le (h.up o ho), fun o => ⟨fun z => (by cases z), fun ⟨h1, h2⟩ => (by have := h.up o h1; omega)⟩, h.fr, Nat.zero_add _, fun o z => (by cases z)⟩
theorem BfI.stop {oss : List (List Nat)} {first d c : Nat} {S : List Nat} {D : Nat → Nat} {p : Nat → Option Nat} {fr more : List Nat} (h : BfI oss first d c fr fr S D p more) : BfO oss first (d + 1) S D p more :=
  ⟨h.nd, h.lt, h.fi, h.pa, fun o ho hd => h.cl o ho (by
    by_cases hq : D o < d
    · exact .inl hq
    · exact .inr ((h.fq o).mpr ⟨ho, by omega⟩)), h.up, h.mo⟩
theorem BfI.skip {oss : List (List Nat)} {first d c here : Nat} {S done os : List Nat} {D : Nat → Nat} {p : Nat → Option Nat} {fr more : List Nat} (h : BfI oss first d c fr done S D p more) (hh : here ∈ fr) (ho : oss[here]? = some os) (hos : ∀ o ∈ os, o ∈ S) : BfI oss first d c fr (done ++ [here]) S D p more := by
  refine ⟨h.nd, h.lt, h.fi, h.pa, fun o hoS hd o' hm => ?_, h.up, h.mo, h.fq, h.ln, fun o z => (List.mem_append.mp z).elim (h.dn o) fun z => by rw [List.mem_singleton.mp z]; exact hh⟩
  by_cases hoh : o = here
  · subst hoh
    obtain ⟨os', h1, h2⟩ := hm
    rw [ho] at h1
    cases h1
    have := hos o' h2
    exact ⟨this, by have := h.up o' this; have := ((h.fq o).mp hh).2; omega⟩
  · refine h.cl o hoS (hd.imp id fun z => ?_) o' hm
    rcases List.mem_append.mp z with z | z
    · exact z
    · exact absurd (List.mem_singleton.mp z) hoh
theorem BfI.add {oss : List (List Nat)} {first d c here x : Nat} {S done : List Nat} {D : Nat → Nat} {p : Nat → Option Nat} {fr more : List Nat} (h : BfI oss first d c fr done S D p more) (hh : here ∈ fr) (hm : Mm oss here x) (hx : x ∉ S) (hxl : x < oss.length) :
    BfI oss first d c fr done (S ++ [x]) (fun o => if o = x then d + 1 else D o) (fun o => if o = x then some here else p o) (more ++ [x]) := by
  have ne : ∀ o ∈ S, o ≠ x := fun o ho z => hx (by rw [← z]; exact ho)
  have hD : ∀ o ∈ S, (if o = x then d + 1 else D o) = D o := fun o ho => if_neg (ne o ho)
  have hhS := (h.fq here).mp hh
  refine ⟨?_, fun o ho => ?_, ⟨List.mem_append_left _ h.fi.1, ?_, ?_⟩, fun o ho hof => ?_, fun o ho hd o' hm' => ?_, fun o ho => ?_, fun o => ?_, fun o => ?_, ?_, h.dn⟩
  · rw [List.nodup_append]
    exact ⟨h.nd, by simp, fun a ha b hb z => ne a ha (by rw [List.mem_singleton] at hb; rw [z, hb])⟩
  · rcases List.mem_append.mp ho with ho | ho
    · exact h.lt o ho
    · rw [List.mem_singleton] at ho; rw [ho]; exact hxl
  · show (if first = x then d + 1 else D first) = 0
    rw [hD first h.fi.1]; exact h.fi.2.1
  · show (if first = x then some here else p first) = none
    rw [if_neg (ne first h.fi.1)]; exact h.fi.2.2
  · rcases List.mem_append.mp ho with ho | ho
    · obtain ⟨q, h1, h2, h3, h4⟩ := h.pa o ho hof
      refine ⟨q, List.mem_append_left _ h1, ?_, h3, ?_⟩
      · show (if o = x then some here else p o) = some q
        rw [if_neg (ne o ho)]; exact h2
      · show (if o = x then d + 1 else D o) = (if q = x then d + 1 else D q) + 1
        rw [hD o ho, hD q h1]; exact h4
    · rw [List.mem_singleton] at ho
      subst ho
      refine ⟨here, List.mem_append_left _ hhS.1, if_pos rfl, hm, ?_⟩
      show (if o = o then d + 1 else D o) = (if here = o then d + 1 else D here) + 1
      rw [if_pos rfl, hD here hhS.1, hhS.2]
  · have hd : (if o = x then d + 1 else D o) < d ∨ o ∈ done := hd
    show o' ∈ S ++ [x] ∧ (if o' = x then d + 1 else D o') ≤ (if o = x then d + 1 else D o) + 1
    rcases List.mem_append.mp ho with ho | ho
    · rw [hD o ho] at hd ⊢
      obtain ⟨h1, h2⟩ := h.cl o ho hd o' hm'
      rw [hD o' h1]
      exact ⟨List.mem_append_left _ h1, h2⟩
    · rw [List.mem_singleton] at ho
      subst ho
      rcases hd with hd | hd
      · rw [if_pos rfl] at hd; omega
      · exact absurd ((h.fq o).mp (h.dn o hd)).1 hx
  · show (if o = x then d + 1 else D o) ≤ d + 1
    rcases List.mem_append.mp ho with ho | ho
    · rw [hD o ho]; exact h.up o ho
    · rw [List.mem_singleton] at ho; rw [if_pos ho]; exact Nat.le_refl _
  · show o ∈ more ++ [x] ↔ o ∈ S ++ [x] ∧ (if o = x then d + 1 else D o) = d + 1
    rw [List.mem_append, List.mem_append, List.mem_singleton, h.mo]
    by_cases hox : o = x
    · rw [if_pos hox]; exact ⟨fun _ => ⟨.inr hox, rfl⟩, fun _ => .inr hox⟩
    · rw [if_neg hox]
      exact ⟨fun z => z.elim (fun z => ⟨.inl z.1, z.2⟩) fun z => absurd z hox, fun ⟨z1, z2⟩ => z1.elim (fun z => .inl ⟨z, z2⟩) fun z => absurd z hox⟩
  · show o ∈ fr ↔ o ∈ S ++ [x] ∧ (if o = x then d + 1 else D o) = d
    rw [List.mem_append, List.mem_singleton, h.fq]
    by_cases hox : o = x
    · rw [if_pos hox]
      subst hox
      exact ⟨fun z => absurd z.1 hx, fun z => by omega⟩
    · rw [if_neg hox]
      exact ⟨fun z => ⟨.inl z.1, z.2⟩, fun ⟨z1, z2⟩ => z1.elim (fun z => ⟨z, z2⟩) fun z => absurd z hox⟩
  · have := h.ln
    rw [List.length_append, List.length_append, List.length_singleton]
    omega
/-- the search's end -/
structure Bfs (oss : List (List Nat)) (first : Nat) (S : List Nat) (D : Nat → Nat) (p : Nat → Option Nat) : Prop where
  nd : S.Nodup
  lt : ∀ o ∈ S, o < oss.length
  fi : first ∈ S ∧ D first = 0 ∧ p first = none
  pa : ∀ o ∈ S, o ≠ first → ∃ q ∈ S, p o = some q ∧ Mm oss q o ∧ D o = D q + 1
  cl : ∀ o ∈ S, ∀ o', Mm oss o o' → o' ∈ S ∧ D o' ≤ D o + 1
theorem BfO.done {oss : List (List Nat)} {first d : Nat} {S : List Nat} {D : Nat → Nat} {p : Nat → Option Nat} (h : BfO oss first d S D p []) : Bfs oss first S D p :=
  ⟨h.nd, h.lt, h.fi, h.pa, fun o ho => h.cl o ho (by
    have h1 := h.up o ho
    have h2 : D o ≠ d := fun z => by have := (h.fr o).mpr ⟨ho, z⟩; cases this
    omega)⟩
theorem Bfs.le {oss : List (List Nat)} {first : Nat} {S : List Nat} {D : Nat → Nat} {p : Nat → Option Nat} (h : Bfs oss first S D p) {k o : Nat} (w : PathN (Mm oss) first k o) : o ∈ S ∧ D o ≤ k := by
  induction w with
  | zero => exact ⟨h.fi.1, by rw [h.fi.2.1]; exact Nat.le_refl _⟩
  | step _ r ih =>
    obtain ⟨h1, h2⟩ := h.cl _ ih.1 _ r
    exact ⟨h1, by omega⟩
theorem Bfs.path {oss : List (List Nat)} {first : Nat} {S : List Nat} {D : Nat → Nat} {p : Nat → Option Nat} (h : Bfs oss first S D p) : ∀ (k : Nat) (o : Nat), o ∈ S → D o = k → PathN (Mm oss) first k o
  | 0, o, ho, hd => by
    by_cases hof : o = first
    · rw [hof]; exact .zero
    · obtain ⟨q, _, _, _, h4⟩ := h.pa o ho hof
      omega
  | k + 1, o, ho, hd => by
    have hof : o ≠ first := fun z => by rw [z, h.fi.2.1] at hd; cases hd
    obtain ⟨q, h1, _, h3, h4⟩ := h.pa o ho hof
    exact .step (h.path k q h1 (by omega)) h3
end Qf
/-! A shape of boxes: plain Lean. -/
namespace Qf
/-- a box: first row, first column, rows, columns -/
structure Bx where
  r : Nat
  c : Nat
  h : Nat
  w : Nat
def bxR (b : Bx) : Row := [b.r, b.c, b.h, b.w]
def Bx.has (b : Bx) (i j : Nat) : Prop := b.r ≤ i ∧ i < b.r + b.h ∧ b.c ≤ j ∧ j < b.c + b.w
instance (b : Bx) (i j : Nat) : Decidable (b.has i j) := inferInstanceAs (Decidable (_ ∧ _))
def meetsB (b : Bx) (r c s : Nat) : Bool := decide (b.r < r + s ∧ r < b.r + b.h ∧ c < b.c + b.w ∧ b.c < c + s)
def hasB (b : Bx) (r c s : Nat) : Bool := decide (b.r ≤ r ∧ r + s ≤ b.r + b.h ∧ b.c ≤ c ∧ c + s ≤ b.c + b.w)
/-- the cells in one of the boxes -/
def fB (BL : List Bx) (i j : Nat) : Bool := BL.any fun b => decide (b.has i j)
theorem fB_iff {BL : List Bx} {i j : Nat} : fB BL i j = true ↔ ∃ b ∈ BL, b.has i j := by
  unfold fB
  rw [List.any_eq_true]
  exact ⟨fun ⟨b, h1, h2⟩ => ⟨b, h1, of_decide_eq_true h2⟩, fun ⟨b, h1, h2⟩ => ⟨b, h1, decide_eq_true h2⟩⟩
theorem has_meets {b : Bx} {r c s i j : Nat} (h : b.has i j) (h1 : r ≤ i) (h2 : i < r + s) (h3 : c ≤ j) (h4 : j < c + s) : meetsB b r c s = true := by
  obtain ⟨a1, a2, a3, a4⟩ := h
  exact decide_eq_true ⟨by omega, by omega, by omega, by omega⟩
theorem fB_filter {BL : List Bx} {r c s i j : Nat} (h1 : r ≤ i) (h2 : i < r + s) (h3 : c ≤ j) (h4 : j < c + s) : fB (BL.filter fun b => meetsB b r c s) i j = fB BL i j := by
  rw [Bool.eq_iff_iff, fB_iff, fB_iff]
  exact ⟨fun ⟨b, hb, hh⟩ => ⟨b, (List.mem_filter.mp hb).1, hh⟩, fun ⟨b, hb, hh⟩ => ⟨b, List.mem_filter.mpr ⟨hb, has_meets hh h1 h2 h3 h4⟩, hh⟩⟩
theorem tree_none {BL : List Bx} {k r c : Nat} (h : BL.filter (fun b => meetsB b r c (2 ^ k)) = []) : tree (fB BL) k r c = .e := by
  rw [tree_e]
  intro i j h1 h2 h3 h4
  rw [← fB_filter h1 h2 h3 h4, h]
  rfl
theorem tree_has {BL : List Bx} {k r c : Nat} {b : Bx} (hb : b ∈ BL) (h : hasB b r c (2 ^ k) = true) : tree (fB BL) k r c = .f := by
  rw [tree_f]
  intro i j h1 h2 h3 h4
  have h := of_decide_eq_true h
  exact fB_iff.mpr ⟨b, hb, by omega, by omega, by omega, by omega⟩
theorem meets_unit {b : Bx} {r c : Nat} (h : meetsB b r c (2 ^ 0) = true) : hasB b r c (2 ^ 0) = true := by
  have h := of_decide_eq_true h
  have e : 2 ^ 0 = 1 := rfl
  rw [e] at h
  exact decide_eq_true (by rw [e]; omega)
theorem tree_filter {BL : List Bx} {k r c : Nat} {k' r' c' : Nat} (h1 : r ≤ r') (h2 : r' + 2 ^ k' ≤ r + 2 ^ k) (h3 : c ≤ c') (h4 : c' + 2 ^ k' ≤ c + 2 ^ k) : tree (fB (BL.filter fun b => meetsB b r c (2 ^ k))) k' r' c' = tree (fB BL) k' r' c' :=
  tree_congr k' r' c' fun i j a b p q => fB_filter (by omega) (by omega) (by omega) (by omega)
/-- the quarters, one by one -/
def quart (F : Nat → Nat → Bool) (k r c : Nat) (i : Nat) : Qt := tree F k (r + 2 ^ k * (i / 2)) (c + 2 ^ k * (i % 2))
theorem tree_quart (F : Nat → Nat → Bool) (k r c : Nat) : tree F (k + 1) r c = mk (quart F k r c 0) (quart F k r c 1) (quart F k r c 2) (quart F k r c 3) := by
  unfold quart
  simp [tree]
def storeQ (F : Nat → Nat → Bool) (k r c : Nat) (T : List Qt) : Nat → List Qt
  | 0 => T
  | i + 1 => post (quart F k r c i) (storeQ F k r c T i)
theorem storeQ_st {F : Nat → Nat → Bool} {k r c : Nat} {T : List Qt} (h : St T) : ∀ i, St (storeQ F k r c T i)
  | 0 => h
  | i + 1 => St.post _ (storeQ_st h i) (tree_canon _ _ _ _)
theorem storeQ_len {F : Nat → Nat → Bool} {k r c : Nat} {T : List Qt} : ∀ i, (storeQ F k r c T i).length ≤ T.length + i * (2 * 4 ^ k)
  | 0 => Nat.le_add_right _ _
  | i + 1 => by
    have h1 := storeQ_len (F := F) (k := k) (r := r) (c := c) (T := T) i
    have h2 := post_le (quart F k r c i) (storeQ F k r c T i)
    have h3 := sz_le (quart F k r c i) k (tree_ht _ _ _ _)
    show (post (quart F k r c i) (storeQ F k r c T i)).length ≤ _
    rw [Nat.add_mul, Nat.one_mul]
    omega
theorem storeQ_ext (F : Nat → Nat → Bool) (k r c : Nat) (T : List Qt) (i : Nat) : ∀ d, ∃ S, storeQ F k r c T (i + d) = storeQ F k r c T i ++ S
  | 0 => ⟨[], (List.append_nil _).symm⟩
  | d + 1 => by
    obtain ⟨S, h⟩ := storeQ_ext F k r c T i d
    obtain ⟨S2, h2⟩ := post_ext (quart F k r c (i + d)) (storeQ F k r c T (i + d))
    exact ⟨S ++ S2, by
      show post (quart F k r c (i + d)) (storeQ F k r c T (i + d)) = _
      rw [h2, h, List.append_assoc]⟩
theorem storeQ_kn (F : Nat → Nat → Bool) (k r c : Nat) (T : List Qt) {i : Nat} (h : i < 4) : Kn (storeQ F k r c T 4) (quart F k r c i) ∧ num (storeQ F k r c T 4) (quart F k r c i) = num (storeQ F k r c T (i + 1)) (quart F k r c i) := by
  obtain ⟨S, e⟩ := storeQ_ext F k r c T (i + 1) (4 - (i + 1))
  rw [show i + 1 + (4 - (i + 1)) = 4 by omega] at e
  have kn : Kn (storeQ F k r c T (i + 1)) (quart F k r c i) := post_kn _ _
  rw [e]
  exact ⟨kn.app S, num_app S kn⟩
/-- the number and the store behind it -/
theorem post_tree (F : Nat → Nat → Bool) (k r c : Nat) (T : List Qt) : post (tree F (k + 1) r c) T = (if Plain4 (quart F k r c 0) (quart F k r c 1) (quart F k r c 2) (quart F k r c 3) then T else add (storeQ F k r c T 4) (.n (quart F k r c 0) (quart F k r c 1) (quart F k r c 2) (quart F k r c 3))) := by
  rw [tree_quart]
  by_cases h : Plain4 (quart F k r c 0) (quart F k r c 1) (quart F k r c 2) (quart F k r c 3)
  · rw [if_pos h]
    rcases h with ⟨h1, h2, h3, h4⟩ | ⟨h1, h2, h3, h4⟩
    · rw [h1, h2, h3, h4, mk_e]; rfl
    · rw [h1, h2, h3, h4, mk_f]; rfl
  · rw [if_neg h, mk_n h]
    rfl
theorem storeQ_plain {F : Nat → Nat → Bool} {k r c : Nat} {T : List Qt} (h : Plain4 (quart F k r c 0) (quart F k r c 1) (quart F k r c 2) (quart F k r c 3)) : storeQ F k r c T 4 = T := by
  rcases h with ⟨h1, h2, h3, h4⟩ | ⟨h1, h2, h3, h4⟩
  · show post (quart F k r c 3) (post (quart F k r c 2) (post (quart F k r c 1) (post (quart F k r c 0) T))) = T
    rw [h1, h2, h3, h4]; rfl
  · show post (quart F k r c 3) (post (quart F k r c 2) (post (quart F k r c 1) (post (quart F k r c 0) T))) = T
    rw [h1, h2, h3, h4]; rfl
end Qf
/-! What the plain law is about: plain Lean. -/
namespace Qf
def Lf.edge (n : Nat) (x : Lf) : Prop := x.r = 0 ∨ x.c = 0 ∨ x.r + 2 ^ x.k = 2 ^ n ∨ x.c + 2 ^ x.k = 2 ^ n
instance (n : Nat) (x : Lf) : Decidable (x.edge n) := inferInstanceAs (Decidable (x.r = 0 ∨ x.c = 0 ∨ x.r + 2 ^ x.k = 2 ^ n ∨ x.c + 2 ^ x.k = 2 ^ n))
def edgeB (n : Nat) (L : List Lf) (g : List Nat) : Bool := g.any fun o => match L[o]? with | some x => decide (x.edge n) | none => false
theorem edgeB_iff {n : Nat} {L : List Lf} {g : List Nat} : edgeB n L g = true ↔ ∃ o ∈ g, ∃ x, L[o]? = some x ∧ x.edge n := by
  unfold edgeB
  rw [List.any_eq_true]
  constructor
  · rintro ⟨o, ho, h⟩
    cases e : L[o]? with
    | none => rw [e] at h; cases h
    | some x => rw [e] at h; exact ⟨o, ho, x, e, of_decide_eq_true h⟩
  · rintro ⟨o, ho, x, e, h⟩
    refine ⟨o, ho, ?_⟩
    rw [e]
    exact decide_eq_true h
def UnitG (L : List Lf) (g : List Nat) : Prop := ∀ o ∈ g, ∀ x : Lf, L[o]? = some x → x.k = 0
/-- a snake's rows: row, column, how wide -/
structure Rw where
  r : Nat
  c : Nat
  w : Nat
def turnOf (x : Rw) (k tn : Nat) : Nat := x.c + (x.w - 1) * ((k + tn) % 2)
def snakeB (RL : List Rw) (tn : Nat) : List Bx := RL.map (fun x => ⟨x.r, x.c, 1, x.w⟩) ++ (List.range (RL.length - 1)).map fun k => ⟨(RL.getD k ⟨0, 0, 0⟩).r + 1, turnOf (RL.getD k ⟨0, 0, 0⟩) k tn, 1, 1⟩
def frameB (x : Rw) (m : Nat) : List Bx := [⟨x.r - 1, x.c - 1, 1, x.w + 2⟩, ⟨x.r + (2 * m - 1), x.c - 1, 1, x.w + 2⟩, ⟨x.r, x.c - 1, 2 * m - 1, 1⟩, ⟨x.r, x.c + x.w, 2 * m - 1, 1⟩]
def wallB (x : Rw) (RL : List Rw) (tn k : Nat) : Bx := ⟨x.r + 2 * k + 1, x.c + (if turnOf (RL.getD k ⟨0, 0, 0⟩) k tn = x.c then 1 else 0), 1, x.w - 1⟩
def roundB (x : Rw) (RL : List Rw) (tn : Nat) : List Bx := frameB x RL.length ++ (List.range (RL.length - 1)).map fun k => wallB x RL tn k
def longR (f : Nat) : List Rw := (List.range 16).map fun k => ⟨f + 2 * k, if k < 4 then 8 else 0, if k < 4 then 56 else 64⟩
/-- what the law wants of a shape that is a snake -/
structure SnkOK (n : Nat) (t : Qt) (RL : List Rw) (tn : Nat) : Prop where
  fit : Fit n t
  lvs : t.lvs ≤ 2000
  part : ∀ by' gs, Grp n (leafs n t) true by' gs → ∃ g, gs = [g] ∧ UnitG (leafs n t) g ∧ tree (cellF (leafs n t) g) n 0 0 = t
  hole : ∀ by' gs, Grp n (leafs n t) false by' gs → ∀ g ∈ gs, edgeB n (leafs n t) g = true
  ends : ∃ x y o1 o2, RL[0]? = some x ∧ RL[RL.length - 1]? = some y ∧ (∃ u, (leafs n t)[o1]? = some u ∧ u.has x.r (turnOf x 0 (tn + 1)) ∧ u.b = true) ∧ (∃ u, (leafs n t)[o2]? = some u ∧ u.has y.r (turnOf y (RL.length - 1) tn) ∧ u.b = true) ∧
    x.r < 2 ^ n ∧ turnOf x 0 (tn + 1) < 2 ^ n ∧ y.r < 2 ^ n ∧ turnOf y (RL.length - 1) tn < 2 ^ n ∧
    ∀ by', Rch (Lk n (leafs n t) true by') o1 o2 ∧ ∀ k, PathN (Lk n (leafs n t) true by') o1 k o2 → (∀ m, PathN (Lk n (leafs n t) true by') o1 m o2 → k ≤ m) → k + 2 + (if by' then 2 * (RL.length - 1) else 0) = (RL.map Rw.w).sum + RL.length
def shortR (r c w m : Nat) : List Rw := (List.range m).map fun k => ⟨r + 2 * k, c, w⟩
def snakeT (n : Nat) (RL : List Rw) (tn : Nat) : Qt := tree (fB (snakeB RL tn)) n 0 0
def holT (n r c w m tn : Nat) : Qt := tree (fB (roundB ⟨r, c, w⟩ (shortR r c w m) tn)) n 0 0
/-- what the law wants of a round with a snake as its hole -/
structure HolOK (n : Nat) (t s : Qt) : Prop where
  fit : Fit n t
  lvs : t.lvs ≤ 2000
  hole : ∀ by' gs, Grp n (leafs n t) false by' gs → ∃ g, (gs.filter fun g => !edgeB n (leafs n t) g) = [g] ∧ UnitG (leafs n t) g ∧ tree (cellF (leafs n t) g) n 0 0 = s
  part : ∀ by' gs, Grp n (leafs n t) true by' gs → ∃ g, gs = [g]
  topP : ∀ by' gs gs', Grp n (leafs n t) true by' gs → Grp n (leafs n t) false (!by') gs' → ∀ g ∈ gs, ∀ (o : Nat) (x : Lf), o ∈ g → (leafs n t)[o]? = some x → (∀ o' ∈ g, ∀ y : Lf, (leafs n t)[o']? = some y → x.r < y.r ∨ (x.r = y.r ∧ x.c ≤ y.c)) →
    ∀ (o' : Nat) (y : Lf), (leafs n t)[o']? = some y → y.has x.r (x.c - 1) → ∀ g' ∈ gs', o' ∈ g' → 0 < x.c → edgeB n (leafs n t) g' = true
  topH : ∀ by' gs, Grp n (leafs n t) false by' gs → ∀ g ∈ gs, edgeB n (leafs n t) g = false → ∀ (o : Nat) (x : Lf), o ∈ g → (leafs n t)[o]? = some x → (∀ o' ∈ g, ∀ y : Lf, (leafs n t)[o']? = some y → x.r < y.r ∨ (x.r = y.r ∧ x.c ≤ y.c)) →
    0 < x.c ∧ ∀ (o' : Nat) (y : Lf), (leafs n t)[o']? = some y → y.has x.r (x.c - 1) → y.b = true
structure Dims (n r c w m tn : Nat) : Prop where
  n5 : n = 5 ∨ n = 6
  w1 : 4 ≤ w
  w2 : w ≤ 28
  m1 : 2 ≤ m
  m2 : m ≤ 14
  r1 : 1 ≤ r
  r2 : r + 2 * m ≤ 2 ^ n
  c1 : 1 ≤ c
  c2 : c + w + 1 ≤ 2 ^ n
  t : tn < 2
/-- the plain law -/
structure Geo : Prop where
  short : ∀ n r c w m tn, Dims n r c w m tn → SnkOK n (snakeT n (shortR r c w m) tn) (shortR r c w m) tn
  hol : ∀ n r c w m tn, Dims n r c w m tn → HolOK n (holT n r c w m tn) (snakeT n (shortR r c w m) tn)
  long : ∀ d1 d2, d1 < 2 → d2 < 2 → SnkOK 6 (snakeT 6 (longR (32 * d1 + d2)) 0) (longR (32 * d1 + d2)) 0
end Qf
/-! sorted(xs, key=a lambda of one parameter that captures names), the keys pairs of whole numbers. -/
namespace Qf
open PySem PySem.Spec PyProof.Rows L2 FbM
section
variable {P : Program} {w : World} {K : PySem.W.Frag} {mg : Str → Option Value} {base : Heap}
/-- a lambda called -/
theorem lam_run {f : Addr} {F : NdefX.NF} {body : Expr} {pm ctv : Value} {k : Nat} {N ps fr : List Str} (S : NdefX.NScope N ps fr F.scope)
    (hb : ∀ us : List Value, us.length = ps.length → bindArgs (PySem.W.kla_fn F.name F.qual F.params body F.scope F.cl pm (.ref F.c) ctv) ⟨us, []⟩ = pure (ps.zip us))
    {A : Around} {outer : List Env} {s : Shared} {H : Hp} {us : List Value} {vs : List V} {ws : List (Option V)} {Q : VK} (hr : Room (k + 1) A) (e0 : Env0 P w K mg base A outer s H)
    (ho : s.heap.get? f = some (PySem.W.kla_obj F.name F.qual F.params body F.scope F.cl pm F.c ctv)) (hc : H F.c = some (LamX.CodeO F.c F.qual)) (C : NdefX.CellsAt F.cl fr ws s.heap H) (r : Vals vs us) (hl : vs.length = ps.length)
    (hbody : Room k (A.deeper (NdefX.envF F f s.heap.objs.size)) → ∃ tb, PE (NdefX.ncx CX0 P w K mg base N F f A outer s H E0) body tb ∧ tb (NdefX.startF N vs ws) H Q) :
    codeAny (model P w) A (.call (.ref f) ⟨us, []⟩) (CR CX0 outer P w H s Q E0) s := by
  have lim : s.heap.NoLimit := e0.mod.nolimit.keeps fun b o e => (e0.bs b o e).1
  refine PySem.W.kla_callFunE hr.depth ho rfl S.co S.gen rfl (NdefX.codeO_at e0.hok hc) ?_
  rw [hb us (by rw [← r.length]; exact hl)]
  refine wpAny_pure (wpAny_newFunctionEnv S.nocell (fun ⟨n, _⟩ hy => S.par n (List.of_mem_zip hy).1) (fun h₁ hns hsb => ⟨lim.fresh _ hsb, ?_⟩) S.kind)
  show codeAny _ _ (.expr body (NdefX.envF F f s.heap.objs.size)) _ _
  have kp : ∀ b o, s.heap.get? b = some o → h₁.get? b = some o := fun b o e => hsb.extBut b o (Nat.ne_of_lt (Heap.lt_size e)) (Heap.get?_push_of_some _ e)
  obtain ⟨tb, ht, hq⟩ := hbody (hr.deeper _)
  have I : Inv (NdefX.ncx CX0 P w K mg base N F f A outer s H E0) [] (NdefX.startF N vs ws) H { s with heap := h₁, toks := s.toks + (ps.zip us).length } := NdefX.inv_startN S hr.hd e0 hl r C hns kp
  refine PySem.W.kla_codeExpr (wpAny_mono (ht.run [] _ (NdefX.startF N vs ws) H Q I hq) (fun v s' hq => ?_) fun e s' hq => hq)
  obtain ⟨w', H', J', rv, q⟩ := hq
  exact ⟨w', H', J'.os, J'.bare, J'.base, J'.hok, rv, q⟩
end
/-! ### the sort's middle -/
abbrev lo (xs : Array Value) (n : Nat) : Obj := seqObj "list" xs n
theorem each_of_paired {α β : Type} {R : α → β → Prop} : ∀ {l : List α} {m : List β}, Paired R l m → PySem.W.EachIs R l m
  | _, _, .nil => .nil
  | _, _, .cons h t => .cons h (each_of_paired t)
theorem paired_of_each {α β : Type} {R : α → β → Prop} : ∀ {l : List α} {m : List β}, PySem.W.EachIs R l m → Paired R l m
  | _, _, .nil => .nil
  | _, _, .cons h t => .cons h (paired_of_each t)
theorem vals_paired {xs : List V} {us : List Value} (h : Vals xs us) : Paired RelV xs us := by
  induction h with
  | nil => exact .nil
  | cons r t ih => exact .cons r ih
theorem paired_vals {xs : List V} {us : List Value} (h : Paired RelV xs us) : Vals xs us := by
  induction h with
  | nil => exact .nil
  | cons r t ih => exact .cons r ih
theorem pr_swap {α β : Type} {R : α → β → Prop} : ∀ {l : List α} {m : List β}, Paired R l m → Paired (fun b a => R a b) m l
  | _, _, .nil => .nil
  | _, _, .cons h t => .cons h (pr_swap t)
theorem zip_paired {R : V → Value → Prop} : ∀ {gs : List V} {vs : List Value} {kz : List PyData}, Paired R gs vs → gs.length = kz.length → Paired (fun v (x : V × PyData) => R x.1 v) vs (gs.zip kz)
  | _, _, [], .nil, _ => .nil
  | _, _, _ :: _, .cons h t, e => .cons h (zip_paired t (Nat.succ.inj e))
theorem zip_fst : ∀ {gs : List V} {kz : List PyData}, gs.length = kz.length → (gs.zip kz).map Prod.fst = gs
  | [], [], _ => rfl
  | g :: gs, k :: kz, e => by rw [List.zip_cons_cons, List.map_cons, zip_fst (Nat.succ.inj e)]
theorem zip_snd : ∀ {gs : List V} {kz : List PyData}, gs.length = kz.length → (gs.zip kz).map Prod.snd = kz
  | [], [], _ => rfl
  | g :: gs, k :: kz, e => by rw [List.zip_cons_cons, List.map_cons, zip_snd (Nat.succ.inj e)]
def KeyV (H : Hp) (x : V) (p : Int × Int) : Prop := ∃ t, x = .ref t ∧ H t = some (.tup [.int p.1, .int p.2])
section
variable {X : Cx} {A : Around} {E : Value → Shared → Prop}
theorem keyI_rest {J : Hp → Prop} {P : PySem.Fin → Shared → Prop} {f a kS e1 : Nat} {fo : Obj} {gs : List V} {vs : List Value} {pins : List (Addr × Obj)} {σ : L2.St} {H : Hp} {s : Shared}
    (rv : Vals gs vs) (hZ : vs.length ≤ sizeLine) (hu : A.units + 1 < cLine) (hka : kS ≠ a) (hfa : f ≠ a) (hfk : f ≠ kS) (ra : Rec X pins a) (rk : Rec X pins kS)
    (I : Inv X ((a, lo #[] e1) :: (kS, lo #[] 0) :: (f, fo) :: pins) σ H s) (hJ : J H)
    (turn : ∀ (kA : Array Value) (e : Nat) (i : Nat) (g : V) (v : Value) (H2 : Hp) (s2 : Shared), gs[i]? = some g → RelV g v → Inv X ((a, lo #[] e1) :: (kS, lo kA e) :: (f, fo) :: pins) σ H2 s2 → J H2 →
      wpAny (model X.prog X.w) A (call (.ref f) [v]) (fun u s3 => ∃ x p H3, RelV x u ∧ Inv X ((a, lo #[] e1) :: (kS, lo kA e) :: (f, fo) :: pins) σ H3 s3 ∧ J H3 ∧ KeyV H3 x p ∧ ∀ b xs, H2 b = some (.tup xs) → H3 b = some (.tup xs)) (fun _ _ => False) s2)
    (h : ∀ ys H2 s2, ys.Perm gs → Inv X pins σ (upd H2 a (.lst ys)) s2 → J H2 → H2 a = none → P (.done (.ret .none)) s2) :
    wpAny (model X.prog X.w) A (ksk_rest a (.ref f) false vs.toArray e1 (.ref kS)) P E s := by
  unfold ksk_rest
  refine wpAny_bind (wpAny_rule ?_)
  first
    | rw [List.forIn_toArray]
    | (rw [← Array.forIn_toList]; simp only [List.toList_toArray])
    | rw [← Array.forIn_toList]
  refine wpAny_bind (ksk_fold (fun i s' => ∃ (H' : Hp) (kA : Array Value) (e : Nat) (kv : List V) (ps : List (Int × Int)), Inv X ((a, lo #[] e1) :: (kS, lo kA e) :: (f, fo) :: pins) σ H' s' ∧ J H' ∧ Vals kv kA.toList ∧ Paired (KeyV H') kv ps ∧ ps.length = i) vs 0 s
    ⟨H, #[], 0, [], [], I, hJ, .nil, .nil, rfl⟩ ?step ?done)
  case step =>
    rintro j x s' hx ⟨H', kA, e, kv, ps, I', hJ', hkv, hps, hpl⟩
    simp only [Nat.zero_add] at hpl ⊢
    have hj : j < vs.length := (List.getElem?_eq_some_iff.mp hx).1
    have hgl := rv.length
    have hgj : gs[j]? = some (gs[j]'(by omega)) := List.getElem?_eq_getElem _
    obtain ⟨u0, hu0, rgu⟩ := rv.get hgj
    rw [hx] at hu0
    cases hu0
    have hz : kA.size ≤ vs.length := by
      have h1 : kv.length = kA.size := (Vals.length hkv).trans Array.length_toList
      have h2 : kv.length = ps.length := pr_len hps
      have h3 : gs.length = vs.length := Vals.length rv
      rw [← h1, h2]
      omega
    refine wpAny_bind (wpAny_attempt (wpAny_mono (turn kA e j _ x H' s' hgj rgu I' hJ') (fun u s3 he => ?_) fun _ _ hF => hF.elim))
    obtain ⟨y, p, H3, ry, I3, J3, ky, ht⟩ := he
    try dsimp only
    obtain ⟨nk2, hk0, hk1, hk2, hk3⟩ := I3.pin (kS, lo kA e) (List.mem_append_right _ (by simp))
    obtain ⟨na2, ha0, _⟩ := I3.pin (a, lo #[] e1) (List.mem_append_right _ (by simp))
    have s1 := Heap.SameBut.update s3.heap kS (Obj.mapSeq (·.push u))
    obtain ⟨c2, hc2⟩ : ∃ c2, (s3.heap.update kS (Obj.mapSeq (·.push u))).get? kS = some (seqObj "list" (kA.push u) c2) := ⟨_, get?_update_seq nk2 (·.push u)⟩
    have ea : (kA.push u).toList = kA.toList ++ [u] := by simp
    refine wpAny_bind (listUpdate_at nk2 rfl ?_ (Nat.le_trans hz hZ) (Nat.le_trans (Nat.le_of_eq (Array.size_push ..)) (Nat.succ_le_succ (Nat.le_trans hz hZ))))
    refine wpAny_pure ⟨rfl, H3, kA.push u, c2, kv ++ [y], ps ++ [p], ?_, J3, ?_, ?_, ?_⟩
    · have I4 : Inv X ((a, lo #[] e1) :: (f, fo) :: pins) σ H3 s3 := I3.pins_of fun q hq => I3.pin q (List.mem_append_right _ (by
        simp only [List.mem_cons] at hq ⊢
        rcases hq with hq | hq | hq
        · exact .inl hq
        · exact .inr (.inr (.inl hq))
        · exact .inr (.inr (.inr hq))))
      have rk4 : Rec X ((a, lo #[] e1) :: (f, fo) :: pins) kS := ⟨rk.nl, rk.ge, rk.ce, fun q hq => by
        rcases List.mem_append.mp hq with hq | hq
        · exact rk.pn q (List.mem_append_left _ hq)
        · simp only [List.mem_cons] at hq
          rcases hq with rfl | rfl | hq
          · exact hka.symm
          · exact hfk
          · exact rk.pn q (List.mem_append_right _ hq), rk.fr⟩
      have I5 : Inv X ((a, lo #[] e1) :: (f, fo) :: pins) σ H3 { s3 with heap := s3.heap.update kS (Obj.mapSeq (·.push u)), toks := s3.toks } := rk4.turn I4 hk0 fun c o hc q => (s1.2 c hc).trans q
      refine I5.pins_of fun q hq => ?_
      simp only [List.mem_cons] at hq
      rcases hq with rfl | rfl | hq | hq
      · exact I5.pin _ (List.mem_append_right _ (by simp))
      · exact ⟨hc2, hk0, hk1, hk2, fun v z => by cases z⟩
      · exact I5.pin q (List.mem_append_right _ (by simp [hq]))
      · exact I5.pin q (List.mem_append_right _ (by simp [hq]))
    · rw [ea]; exact hkv.append (.cons ry .nil)
    · exact Paired.snoc (pr_imp hps fun x p _ _ ⟨t, e1, e2⟩ => ⟨t, e1, ht _ _ e2⟩) ky
    · rw [List.length_append, hpl]; rfl
  case done =>
    rintro s' ⟨H', kA, e, kv, ps, I', hJ', hkv, hps, hpl⟩
    rw [Nat.zero_add] at hpl
    obtain ⟨nk, hk0, hk1, hk2, hk3⟩ := I'.pin (kS, lo kA e) (List.mem_append_right _ (by simp))
    obtain ⟨na, ha0, ha1, ha2, ha3⟩ := I'.pin (a, lo #[] e1) (List.mem_append_right _ (by simp))
    have hsz : kA.size = vs.length := by
      have h1 : kv.length = kA.size := (Vals.length hkv).trans Array.length_toList
      have h2 : kv.length = ps.length := pr_len hps
      have h3 : gs.length = vs.length := Vals.length rv
      rw [← h1, h2]
      omega
    have hk' : PySem.W.EachIs (fun v k => ∃ as, Reads s'.heap v k as) kA.toList (ps.map pD) := by
      refine each_of_paired (pr_map_right (paired_of_get ?_ fun i v p hv hp => ?_))
      · rw [Array.length_toList]; omega
      · obtain ⟨x, hx, t, rfl, ht⟩ := pr_get2 hps hp
        obtain ⟨u, hu1, hu2⟩ := hkv.get hx
        rw [hv] at hu1
        cases hu1
        have hd : Dp X.K H' (.ref t) (pD p) := .tup (tupOf ht) (.cons (.int _) (.cons (.int _) .nil))
        exact Dp.reads I' (pD p) (.ref t) v hd hu2
    have hal : PySem.W.AllAlike (ps.map pD) := fun d hd d' hd' => by
      obtain ⟨x, _, rfl⟩ := List.mem_map.mp hd
      obtain ⟨y, _, rfl⟩ := List.mem_map.mp hd'
      exact pD_alike _ _
    have hsk : PySem.W.Sortable (ps.map pD) := PySem.W.Sortable.tuples fun _ => ⟨_, _, rfl⟩
    have hdep : ∀ d, d ∈ ps.map pD → A.units + d.depth < cLine := fun d hd => by
      obtain ⟨x, _, rfl⟩ := List.mem_map.mp hd
      have : (pD x).depth = 1 := by simp [pD, PyData.depth, PyData.depthAll]
      omega
    try dsimp only
    refine wpAny_bind (listItems_at nk rfl ?_)
    obtain ⟨G, g1, g2⟩ := restrict s'.heap fun b => decide (b ≠ kS)
    have gS : ∀ b o, G.get? b = some o → s'.heap.get? b = some o := fun b o q => by
      by_cases hb : b = kS
      · rw [g2 b (decide_eq_false fun z => z hb)] at q; cases q
      · rw [g1 b (decide_eq_true hb)] at q; exact q
    refine PySem.W.keyH_end (κ := PySem.W.dataKind s'.heap (ps.map pD)) (h₁ := G) (b := false) (fun b o _ q => gS b o q) (g2 kS (decide_eq_false fun z => z rfl)) nk na hka (PySem.W.SortsAt.data (s := s') hk' hal hsk hdep) hsz hZ fun h3 tk3 c k3 n3 => ?_
    have hgl := rv.length
    have hzl : gs.length = (ps.map pD).length := by rw [List.length_map]; omega
    have eo := PySem.W.keyedOut_each (rev := false) (β := V × PyData) (R := fun v x => RelV x.1 v) (bs := gs.zip (ps.map pD)) (vs := vs) (out := PySem.W.sortVals (PySem.W.dataKind s'.heap (ps.map pD)) false kA.toList vs) Prod.snd
      (by rw [zip_snd hzl]; exact ⟨s'.heap, kA.toList, hal, rfl, hk'⟩) (each_of_paired (zip_paired (vals_paired rv) hzl))
    have hperm : (((gs.zip (ps.map pD)).mergeSort (PySem.W.dataLe false Prod.snd)).map Prod.fst).Perm gs := by
      have := (List.mergeSort_perm (gs.zip (ps.map pD)) (PySem.W.dataLe false Prod.snd)).map Prod.fst
      rwa [zip_fst hzl] at this
    have hvals : Vals (((gs.zip (ps.map pD)).mergeSort (PySem.W.dataLe false Prod.snd)).map Prod.fst) (PySem.W.sortVals (PySem.W.dataKind s'.heap (ps.map pD)) false kA.toList vs) :=
      paired_vals (pr_map_left (pr_swap (paired_of_each eo)))
    have I0 : Inv X pins σ H' s' := I'.pins_of fun q hq => I'.pin q (List.mem_append_right _ (by simp [hq]))
    have kept : ∀ b o, b ≠ a → b ≠ kS → s'.heap.get? b = some o → h3.get? b = some o := fun b o h1 h2 q => k3 b o h1 (by rw [g1 b (decide_eq_true h2)]; exact q)
    have hsome : ∀ b u, H' b = some u → b ≠ a ∧ b ≠ kS := fun b u q => ⟨fun z => (by rw [z, ha0] at q; cases q), fun z => (by rw [z, hk0] at q; cases q)⟩
    have hlen : (((gs.zip (ps.map pD)).mergeSort (PySem.W.dataLe false Prod.snd)).map Prod.fst).length ≤ sizeLine := by rw [hperm.length_eq]; omega
    refine h _ H' { s' with heap := h3, toks := tk3 } hperm (I0.step (g' := s'.gens) (d' := s'.drawn) (t' := tk3) (ch := [a, kS]) (fun b hb => ?_) (fun b o _ _ hc q n => kept b o (fun z => hc (by simp [z])) (fun z => hc (by simp [z])) q)
      (fun b o _ _ hc q n => ⟨o.slots, kept b o (fun z => hc (by simp [z])) (fun z => hc (by simp [z])) q⟩) (fun b o hc q n => by rw [upd_ne (fun z => hc (by simp [z]))]; exact n)
      (fun b o hc q => ⟨o, kept b o (fun z => hc (by simp [z])) (fun z => hc (by simp [z])) q⟩) (fun b xs q => by rw [upd_ne (hsome _ _ q).1]; exact q) (fun b o u q => by rw [upd_ne (hsome _ _ q).1]; exact q)
      (fun b qs q => ⟨#[], by rw [upd_ne (hsome _ _ q).1, q]; simp⟩) (fun m hm => ?_) (fun b u q => ?_) I0.bare) hJ' ha0
    · simp only [List.mem_cons, List.not_mem_nil, or_false] at hb
      rcases hb with rfl | rfl
      · exact ⟨.inr ra.ge, ra.nl, ra.ce, ra.pn⟩
      · exact ⟨.inr rk.ge, rk.nl, rk.ce, rk.pn⟩
    · obtain ⟨o, es, ep, ho, r⟩ := hm
      exact ⟨o, es, ep, kept _ o (Ne.symm ra.nl) (Ne.symm rk.nl) ho, r⟩
    · by_cases hb : b = a
      · subst hb
        rw [upd_same] at q
        cases q
        exact ⟨hlen, _, _, hvals, n3⟩
      · rw [upd_ne hb] at q
        refine (I0.hok b u q).stay (fun d v hd z => kept d v ?_ ?_ z) (fun d z => by rw [upd_ne (hsome _ _ z).1]; exact z) fun d xs z => by rw [upd_ne (hsome _ _ z).1]; exact z
        · rcases hd with z | z
          · rw [z]; exact hb
          · exact (hsome _ _ z).1
        · rcases hd with z | z
          · rw [z]; exact (hsome _ _ q).2
          · exact (hsome _ _ z).2
end
/-! ### sorted(e, key=lambda par: body), body captures self -/
def tSortLam (X : Cx) (T : List (Addr × Str)) (N' : List Str) (i0 : Nat) (te tb : TE) : TE := fun σ H Q => te σ H fun x H1 => ∃ l gs, x = .ref l ∧ H1 l = some (.lst gs) ∧ gs.length ≤ 2000 ∧ LamX.Tabs T H1 ∧
  (∀ H2, LamX.ExtN H1 H2 → LamX.Tabs T H2 → ∀ g ∈ gs, ∀ Q' : VK, (∀ t a b H3, Same H2 H3 → H3 t = some (.tup [.int a, .int b]) → Q' (.ref t) H3) → tb (NdefX.startF N' [g] [NdefX.slotAt σ i0]) H2 Q') ∧
  ∀ H2 q ys, LamX.ExtN H1 H2 → LamX.Tabs T H2 → ys.Perm gs → H2 q = some (.lst ys) → Q (.ref q) H2
section
variable {X : Cx}
theorem pe_sortedLam {T : List (Addr × Str)} {te tb : TE} {e : Expr} {params : Arguments} {body : Expr} {scope : Scope} {p lpos kpos pos : Pos} {c Pt : Addr} {k i0 : Nat} {N' : List Str} {par self : Str}
    (he : PE X e te) (hg : Gl X "sorted") (hm : X.mg "sorted" = none) (TB : LamX.TabB X.base X.mg c Pt) (hcode : X.env.code = .ref c) (hmT : (Pt, X.env.qual ++ "<lambda>") ∈ T) (huT : ∀ p ∈ T, p.1 = Pt → p.2 = X.env.qual ++ "<lambda>")
    (hr : Room (k + 4) X.A) (S : NdefX.NScope N' [par] [self] scope) (hdef : defaultsOf params X.env = ([], []))
    (hbind : ∀ (q : Str) (cl : List (Str × Addr)) (pm cv ctv : Value) (us : List Value), us.length = 1 → bindArgs (PySem.W.kla_fn "<lambda>" q params body scope cl pm cv ctv) ⟨us, []⟩ = pure ([par].zip us))
    (hfree : ∀ y ∈ scope.names, y.2 = .free → X.env.scope.names.lookup y.1 = some .cell ∨ X.env.scope.names.lookup y.1 = some .free) (hfr : (self, NameKind.free) ∈ scope.names) (hN : X.N[i0]? = some self)
    (hbody : ∀ (A : Around) (outer : List Env) (s : Shared) (H : Hp) (cl : List (Str × Addr)) (f c' : Addr), Room k (A.deeper (NdefX.envF ⟨"<lambda>", X.env.qual ++ "<lambda>", params, [], scope, cl, c'⟩ f s.heap.objs.size)) →
      PE (NdefX.ncx CX0 X.prog X.w X.K X.mg X.base N' ⟨"<lambda>", X.env.qual ++ "<lambda>", params, [], scope, cl, c'⟩ f A outer s H E0) body tb)
    (hs : starEach [e] X.env = [(false, eval e X.env)] := by rfl) :
    PE X (.Call (.Name "sorted" p) [e] [⟨some "key", .Lambda params body scope lpos, kpos⟩] pos) (tSortLam X T N' i0 te tb) := by
  refine ⟨fun pins s σ H Q I h => ?_⟩
  refine wpAny_Call_Name_kw (ld_blt I hg hm PyProof.Rows.boot_sorted ?_ (by decide) (by decide))
  refine PyProof.Rows.callWith_kw ?_ (by rw [hs]; rfl) (by rw [hs]; rfl) (by rfl) (by rfl)
  rw [hs]
  refine Calls.spliced_cons (thn (he.run pins s σ H _ I h) fun u s1 ⟨x, H1, I1, r1, q1⟩ => ?_)
  refine Calls.spliced_nil ?_
  obtain ⟨l, gs, rfl, hl, hlen, hT, hkey, hfin⟩ := q1
  obtain rfl : u = Value.ref l := r1
  have hfreeC : ∀ y ∈ scope.names, y.2 = .free → ∃ c, X.env.cells.lookup y.1 = some c := fun y hy e => (hfree y hy e).elim (fun z => I.ok.has _ (.inl z)) fun z => I.ok.has _ (.inr z)
  refine PyProof.Rows.kwAll_cons (LamX.lam_make2 I1 TB hcode hmT huT hT hdef hfreeC fun f c' pm ctv H2 s2 I2 eN T2 hf hfn hfrS hco => ?_)
  refine PyProof.Rows.kwAll_nil ?_
  show wpAny _ _ (call (.builtin "sorted") [.ref l] [(Str.ofString "key", .ref f)]) _ _ _
  have hl2 : H2 l = some (.lst gs) := eN _ _ hl (by intro ps z; cases z)
  obtain ⟨hz, its, n, rv, hil, hob⟩ := I2.lstM hl2
  refine PySem.W.sorted_of_sort (vs := its) ⟨_, hob, rfl, n, rfl⟩ (by omega) (PyProof.Rows.ksk_s1 _ _) (fun _ => PyProof.Rows.ksk_l1 _ _) fun E' => ?_
  show wpAny _ _ (PyProof.Rows.ksk_tree (s2.heap.objs.size + 1) (.ref f) false) _ _ _
  have na0 := PySem.W.copyHeap_at s2.heap its
  obtain ⟨e1, ho1⟩ : ∃ e1, ((PySem.W.copyHeap s2.heap its).update (s2.heap.objs.size + 1) (Obj.mapSeq fun _ => (#[] : Array Value))).get? (s2.heap.objs.size + 1) = some (seqObj "list" #[] e1) := ⟨_, get?_update_seq na0 fun _ => #[]⟩
  have hcs : (PySem.W.copyHeap s2.heap its).objs.size = s2.heap.objs.size + 2 := by unfold PySem.W.copyHeap; rw [size_push', Heap.size_update, size_push']
  unfold PyProof.Rows.ksk_tree
  refine wpAny_bind (listItems_at na0 rfl ?_)
  refine wpAny_bind (listUpdate_at na0 rfl ?_ (by rw [List.size_toArray]; omega) (Nat.zero_le _))
  refine wpAny_bind (seqEpoch_at ho1 rfl ?_)
  refine wpAny_bind (wpAny_newTuple ?_ (by show its.length ≤ _; omega))
  refine wpAny_bind (wpAny_newList ?_ (Nat.zero_le _))
  refine wpAny_holding ?_
  have hk : (((PySem.W.copyHeap s2.heap its).update (s2.heap.objs.size + 1) (Obj.mapSeq fun _ => (#[] : Array Value))).push (seqObj "tuple" its.toArray 0)).objs.size = s2.heap.objs.size + 3 := by rw [size_push', Heap.size_update, hcs]
  have kept : ∀ b o, s2.heap.get? b = some o → ((((PySem.W.copyHeap s2.heap its).update (s2.heap.objs.size + 1) (Obj.mapSeq fun _ => (#[] : Array Value))).push (seqObj "tuple" its.toArray 0)).push (seqObj "list" #[] 0)).get? b = some o := fun b o q =>
    Heap.get?_push_of_some _ (Heap.get?_push_of_some _ ((Heap.get?_update_ne _ _ _ _ (Nat.ne_of_lt (Nat.lt_succ_of_lt (Heap.lt_size q)))).trans (PySem.W.copyHeap_old q)))
  have I3 : Inv X pins σ H2 { s2 with heap := (((PySem.W.copyHeap s2.heap its).update (s2.heap.objs.size + 1) (Obj.mapSeq fun _ => (#[] : Array Value))).push (seqObj "tuple" its.toArray 0)).push (seqObj "list" #[] 0), toks := s2.toks } := I2.kept kept
  have ra : Rec X pins (s2.heap.objs.size + 1) := rec_new I2 (Nat.le_succ _)
  have rk : Rec X pins (((PySem.W.copyHeap s2.heap its).update (s2.heap.objs.size + 1) (Obj.mapSeq fun _ => (#[] : Array Value))).push (seqObj "tuple" its.toArray 0)).objs.size := rec_new I2 (by rw [hk]; omega)
  have hfl : (f : Nat) < s2.heap.objs.size := Heap.lt_size hf
  have hfsub : ∀ b, b ∈ X.fs → b ∈ frs X.stack := fun b hb => by
    rcases I2.ok.stk with e | ⟨e, _⟩
    · rw [e]; exact hb
    · rw [e]
      have hb : b ∈ List.filterMap (·.frame) X.outer := hb
      show b ∈ List.filterMap (·.frame) (X.env :: X.outer)
      rw [List.filterMap_cons]
      split
      · exact hb
      · exact List.mem_cons_of_mem _ hb
  have I4 : Inv X ((s2.heap.objs.size + 1, lo #[] e1) :: ((((PySem.W.copyHeap s2.heap its).update (s2.heap.objs.size + 1) (Obj.mapSeq fun _ => (#[] : Array Value))).push (seqObj "tuple" its.toArray 0)).objs.size, lo #[] 0) ::
      (f, PySem.W.kla_obj "<lambda>" (X.env.qual ++ "<lambda>") params body scope (cloFrom X.env.cells scope.names []) pm c' ctv) :: pins) σ H2 { s2 with heap := (((PySem.W.copyHeap s2.heap its).update (s2.heap.objs.size + 1) (Obj.mapSeq fun _ => (#[] : Array Value))).push (seqObj "tuple" its.toArray 0)).push (seqObj "list" #[] 0), toks := s2.toks } := by
    refine I3.pins_of fun q hq => ?_
    simp only [List.mem_cons] at hq
    rcases hq with rfl | rfl | rfl | hq
    · exact ⟨Heap.get?_push_of_some _ (Heap.get?_push_of_some _ ho1), I2.hok.fresh (Nat.le_succ _), ra.nl, fun z => I2.nofs (Nat.le_succ _) z, fun v z => by cases z⟩
    · exact ⟨Heap.get?_push_size _ rfl, I2.hok.fresh (by rw [hk]; omega), rk.nl, fun z => I2.nofs (by rw [hk]; omega) z, fun v z => by cases z⟩
    · refine ⟨kept _ _ hf, hfn, fun z => ?_, fun z => hfrS (hfsub _ z), fun v z => by cases z⟩
      obtain ⟨m, ⟨o, es, ep, eo, ed, _⟩, _⟩ := I2.loc
      rw [← show f = X.env.locals from z, hf] at eo
      cases eo
      cases ed
    · exact I3.pin q (List.mem_append_right _ hq)
  have hr2 : Room (k + 2) X.A.in1.in1 := (hr.in1).in1
  refine keyI_rest (J := fun H => LamX.ExtN H2 H ∧ LamX.Tabs T H) (gs := gs) (vs := its) (pins := pins) (σ := σ) (H := H2) rv (by omega) (by have := hr2.un; omega) (by rw [hk]; omega) (Nat.ne_of_lt (Nat.lt_succ_of_lt hfl)) (by rw [hk]; exact Nat.ne_of_lt (Nat.lt_of_lt_of_le hfl (Nat.le_add_right _ 3))) ra rk I4 ⟨LamX.ExtN.refl _, T2⟩ ?_ ?_
  · intro kA en i g v H5 s5 hgi rgv I5 ⟨J5, T5⟩
    have ho5 := (I5.pin (f, PySem.W.kla_obj "<lambda>" (X.env.qual ++ "<lambda>") params body scope (cloFrom X.env.cells scope.names []) pm c' ctv) (List.mem_append_right _ (by simp))).1
    have C : NdefX.CellsAt (cloFrom X.env.cells scope.names []) [self] [NdefX.slotAt σ i0] s5.heap H5 := NdefX.cells_of (js := [i0]) I5 (NdefX.Caps.made I5.ok hfree (fun y hy => by rw [List.mem_singleton.mp hy]; exact hfr) (by simp [hN]))
    refine wpAny_call (codeAny_mono (lam_run (P := X.prog) (w := X.w) (K := X.K) (mg := X.mg) (base := X.base) (f := f) (F := ⟨"<lambda>", X.env.qual ++ "<lambda>", params, [], scope, cloFrom X.env.cells scope.names [], c'⟩) (body := body) (pm := pm) (ctv := ctv) (k := k) (N := N') (ps := [par]) (fr := [self]) S
      (fun us hus => hbind _ _ _ _ _ us hus) (A := X.A.in1.in1) (outer := X.stack) (s := s5) (H := H5) (us := [v]) (vs := [g]) (ws := [NdefX.slotAt σ i0]) (Q := fun u H6 => ∃ t a b, u = .ref t ∧ Same H5 H6 ∧ H6 t = some (.tup [.int a, .int b])) (hr2.mono (by omega)) I5.env0.in1.in1 ho5 (J5 _ _ hco LamX.codeO_ne) C (.cons rgv .nil) rfl
      fun hr3 => ⟨tb, hbody _ _ _ _ _ _ _ hr3, hkey H5 (eN.trans J5) T5 g (List.mem_of_getElem? hgi) _ fun t a b H6 s6 e6 => ⟨t, a, b, rfl, s6, e6⟩⟩) fun r s6 hq => ?_)
    cases r with
    | error e => exact (show False from hq).elim
    | ok fl =>
      cases fl with
      | ret u =>
        obtain ⟨x, H6, I6, rx, t, a, b, rfl, s6, e6⟩ := I5.after hq
        exact ⟨.ref t, (a, b), H6, rx, I6, ⟨J5.trans (LamX.ExtN.of s6), T5.ext s6⟩, ⟨t, rfl, e6⟩, fun b xs q => s6 _ _ q⟩
      | next => exact False.elim hq
      | brk => exact False.elim hq
      | cont => exact False.elim hq
  · intro ys H5 s5 hperm I5 ⟨J5, T5⟩ ha5
    have sn : Same H5 (upd H5 (s2.heap.objs.size + 1) (.lst ys)) := same_new ha5
    exact ⟨rfl, .ref _, _, I5, rfl, hfin _ _ ys ((eN.trans J5).trans (LamX.ExtN.of sn)) (T5.ext sn) hperm upd_same⟩
end
end Qf
/-! A method whose code object is known (a lambda in it asks for it). -/
namespace Qf
open PySem PySem.Spec PyProof.Rows L2
structure DmT (K : PySem.W.Frag) (C : Addr) (x qual : Str) (st : Stmt) (c : Addr) : Prop where
  ex : ∃ (f : Addr) (fd : FuncData), FunD K x qual (defArgs st) (defBody st) (defScope st) [] [] f fd ∧ Meth K C x f ∧ fd.code = .ref c
section
variable {P : Program} {w : World} {K : PySem.W.Frag} {mg : Str → Option Value} {base : Heap}
theorem met_ofT {C : Addr} {x q : Str} {st : Stmt} {N ps : List Str} {k : Nat} {sp : Sp} {cc : Addr} (c : Cls K C) (D : DmT K C x q st cc) (S : FnScope N ps (defScope st))
    (hb : ∀ (kV doc pm : Value) (an : Option Addr) (cdv ct : Value) (us : List Value), us.length = ps.length → bindArgs (PySem.W.fnOf x q (defArgs st) (defBody st) (defScope st) .none kV doc pm an cdv ct) ⟨us, []⟩ = pure (ps.zip us))
    (len : ∀ vs H Q E, sp vs H Q E → vs.length = ps.length)
    (body : ∀ (f : Addr) (cdv : Value) (A : Around) (outer : List Env) (s : Shared) (H : Hp) (vs : List V) (Q : VK) (E : XK), cdv = .ref cc → Room k (A.deeper (envOfC q (defScope st) s.heap.objs.size f cdv)) → sp vs H Q E →
      ∃ t, PSs (cxOf CX0 P w K mg base N q (defScope st) f cdv A outer s H E).nox (defBody st) t ∧ t { nx := fun _ H' => Q .non H', rt := Q } (start N vs) H) :
    Met P w K mg base (k + 1) C x sp := by
  obtain ⟨f, fd, F, gx, hcd⟩ := D.ex
  refine ⟨f, fd, ps, c, gx, ?_, F.bindsN hb⟩
  obtain ⟨oc, od, dV, kV, doc, pm, an, cdv, ct, osl, rfl, lk, hcd2, _, _⟩ := F.ex
  refine fn_of lk hcd2 S len fun A outer s H vs Q E hr h => ?_
  obtain ⟨t, h1, h2⟩ := body f cdv A outer s H vs Q E hcd hr h
  exact ⟨t, h1.nox, h2⟩
end
end Qf
/-! len(set(texts)), the texts all unlike, however many. -/
namespace Qf
open PySem PySem.Spec PyProof.Rows L2
section
variable {prog : Program} {w : World} {A : Around} {R : Result → Shared → Prop} {it S : Addr} {fp wr : List Addr} {gg : Array GenState → Array GenState → Prop} {m : Nat} {Pq : Nat → Value → Prop} {St : Nat → Shared → Prop} {ts : List Str}
/-- the texts ahead of the i-th -/
def ahead (ts : List Str) (i : Nat) : Str → Bool := fun x => (ts.take i).any (· == x)
theorem ahead_new (nd : ts.Nodup) {i : Nat} (hi : i < ts.length) : ahead ts i ts[i] = false := by
  unfold ahead
  rw [List.any_eq_false]
  intro y hy e
  have e : y = ts[i] := eq_of_beq e
  obtain ⟨j, hj, ej⟩ := List.getElem_of_mem hy
  rw [List.length_take] at hj
  rw [List.getElem_take] at ej
  unfold List.Nodup at nd
  rw [List.pairwise_iff_getElem] at nd
  exact nd j i (by omega) hi (by omega) (ej.trans e)
theorem ahead_succ {i : Nat} (hi : i < ts.length) (x : Str) : (ahead ts i x || decide (x = ts[i])) = ahead ts (i + 1) x := by
  unfold ahead
  rw [List.take_add_one, List.getElem?_eq_getElem hi]
  simp only [Option.toList, List.any_append, List.any_cons, List.any_nil, Bool.or_false]
  congr 1
  by_cases h : x = ts[i]
  · rw [decide_eq_true h, h]; exact (beq_self_eq_true _).symm
  · rw [decide_eq_false h]
    exact (beq_eq_false_iff_ne.mpr (Ne.symm h)).symm
theorem set_turns (W : WalksS prog w A.in1 it fp wr gg m Pq St) (hS : S ∉ fp) (nd : ts.Nodup) (hm : ts.length = m) (hroom : m + 1 < scanBound) (hv : ∀ i v, Pq i v → ∃ u, v = .str (ts.getD i Str.empty) u) :
    ∀ (left i : Nat) (s : Shared), i + left = m → St i s → s.heap.SetOf (strKind prog w) S (ahead ts i) i → (∀ s', Moved (S :: wr) gg s s' → s'.heap.SetOf (strKind prog w) S (ahead ts m) m → R (.ok (.ret .none)) s') →
      codeAny (model prog w) A (.builtin "set.update.loop" ⟨[.ref S, .ref it], []⟩) R s
  | 0, i, s, e, st, so, fin => by
    obtain rfl : i = m := e
    refine codeAny_builtin F.entry_set_update_loop ?_
    rw [Around.under_plainId F.plain_set_update_loop _]
    show wpAny _ A.in1 (pyNext (.ref it) >>= _) _ _ s
    refine wpAny_bind (W.done s _ _ st fun s1 mv => wpAny_pure (fin s1 (mv.mono fun b hb => List.mem_cons_of_mem _ hb) ?_))
    obtain ⟨o, es, ep, t, ho, more⟩ := so
    exact ⟨o, es, ep, t, mv.heap S _ (fun z => hS (W.sub _ z)) ho, more⟩
  | left + 1, i, s, e, st, so, fin => by
    have hi : i < ts.length := by omega
    refine codeAny_builtin F.entry_set_update_loop ?_
    rw [Around.under_plainId F.plain_set_update_loop _]
    show wpAny _ A.in1 (pyNext (.ref it) >>= _) _ _ s
    refine wpAny_bind (W.item i s _ _ (by omega) st fun v s1 pv st1 mv => ?_)
    obtain ⟨u, rfl⟩ := hv i v pv
    have eg : ts.getD i Str.empty = ts[i] := by rw [List.getD_eq_getElem?_getD, List.getElem?_eq_getElem hi]; rfl
    rw [eg]
    have so1 : s1.heap.SetOf (strKind prog w) S (ahead ts i) i := by
      obtain ⟨o, es, ep, t, ho, more⟩ := so
      exact ⟨o, es, ep, t, mv.heap S _ (fun z => hS (W.sub _ z)) ho, more⟩
    show wpAny _ A.in1 (holding [Value.str ts[i] u] (setAdd S (.str ts[i] u)) >>= _) _ _ s1
    refine wpAny_bind (wpAny_holding ?_)
    unfold setAdd
    refine wpAny_holding (wpAny_bind ((strKind prog w).pyHash (k := ts[i]) (strKind_is _ _ _ _) ?_))
    refine wpAny_setAddHashed_of (knd := strKind prog w) (s := { s1 with toks := s1.toks + 1 }) (strKind_is _ _ _ _) rfl so1 (by omega) fun h2 sb so2 => ?_
    have so3 : h2.SetOf (strKind prog w) S (ahead ts (i + 1)) (i + 1) := SetOf_congr so2 (fun x => ahead_succ hi x) (by rw [if_neg (by rw [ahead_new nd hi]; exact Bool.false_ne_true)])
    refine wpAny_pure ⟨plainId_quiet F.plain_set_update_loop _, set_turns W hS nd hm hroom hv left (i + 1) _ (by omega) (W.frame _ s1 _ _ st1 (Nat.le_succ _) fun b hb o q => ?_) so3 fun s3 mv3 so4 => fin s3 (Moved.trans W.gtrans ((mv.mono fun b hb => List.mem_cons_of_mem _ hb).then_heap (Nat.le_succ _) fun b o hb q => ?_) mv3) so4⟩
    · exact (sb.2 b fun z => hS (by rw [← z]; exact hb)).trans q
    · exact (sb.2 b fun z => hb (by rw [z]; exact List.mem_cons_self)).trans q
end
section
variable {prog : Program} {w : World} {A : Around} {E : Value → Shared → Prop} {s : Shared}
def SetGot (prog : Program) (w : World) (s : Shared) (ts : List Str) (items : Array Value) : Value → Shared → Prop :=
  fun r s₂ => r = .none ∧ ∃ h' tk, s₂ = { s with heap := h', toks := tk } ∧ h'.SetOf (strKind prog w) s.heap.objs.size (ahead ts items.size) items.size ∧ (∀ b o, b < s.heap.objs.size → s.heap.get? b = some o → h'.get? b = some o)
/-- a new set's object -/
abbrev setNew (led : Bool) : Obj := { cls := .type "set", dict := none, data := .set #[] 0 (.fresh 0 0 led) }
theorem set_filled {l : Addr} {items : Array Value} {ts : List Str} {led : Bool} (hh : A.handled = none) (hl : s.heap.IsList l items) (hi : StrsAre items.toList ts) (nd : ts.Nodup) (hroom : items.size + 1 < scanBound)
    {B : Builtin} (hB : B = Builtin.«set.__init__») :
    wpAny (model prog w) A.in1 (B ⟨[.ref s.heap.objs.size, .ref l], []⟩)
      (fun fin s' => match fin with
        | .done f => wants (SetGot prog w s ts items) E (.ok f) s'
        | .again c' => c'.quiet = true ∧ codeAny (model prog w) A c' (wants (SetGot prog w s ts items) E) s')
      (fun e s' => wants (SetGot prog w s ts items) E (.error e) s')
      { s with heap := s.heap.push (setNew led) } := by
  subst hB
  obtain ⟨⟨lc, ld, ldt, lsl⟩, hol, hcl, nl, hdl⟩ := hl
  obtain rfl : lc = .type "list" := hcl
  obtain rfl : ldt = .seq items nl := hdl
  have new : (s.heap.push (setNew led)).get? s.heap.objs.size = some (setNew led) := Heap.get?_push_size _ rfl
  have there : (s.heap.push (setNew led)).get? l = some ⟨.type "list", ld, .seq items nl, lsl⟩ := Heap.get?_push_of_some _ hol
  have lis : (s.heap.push (setNew led)).IsList l items := ⟨_, there, rfl, nl, rfl⟩
  have u1 := F.sub_list_set
  have u2 := F.sub_list_frozenset
  have u3 : (Value.type "list" == Value.type "dict") = false := by decide
  unfold Builtin.«set.__init__» noKeywords Builtin.Frozenset.updateFrom
  generalize hit : pyIter = PI
  wp_walk
  subst hit
  refine wpAny_pyIter_list lis (wpAny_bind (wpAny_runValue ?_))
  have below : l < s.heap.objs.size := Heap.lt_size hol
  have size1 : (s.heap.push (setNew led)).objs.size = s.heap.objs.size + 1 := Heap.size_push ..
  have apart1 : l ≠ (s.heap.push (setNew led)).objs.size := by rw [size1]; exact Nat.ne_of_lt (Nat.lt_succ_of_lt below)
  have apart2 : s.heap.objs.size ∉ [(s.heap.push (setNew led)).objs.size, l] := by
    rw [size1]
    simp only [List.mem_cons, List.not_mem_nil, or_false, not_or]
    exact ⟨Nat.ne_of_lt (Nat.lt_succ_self _), Nat.ne_of_gt below⟩
  have lts : ts.length = items.size := by rw [← StrsAre.len_eq hi, Array.length_toList]
  refine set_turns (ts := ts) ((Walks.list (show A.in1.in1.handled = none by simp [hh]) _ l apart1 items).toS) apart2 nd lts hroom (fun i v hv => SS.strs_at hi i v (by rw [Array.getElem?_toList]; exact hv)) items.size 0 _ (Nat.zero_add _) ⟨⟨_, Heap.get?_push_size _ rfl, rfl, rfl⟩, lis.push _⟩ ?_ fun s2 mv so => ?_
  · exact SetOf_congr ((setObjOf_fresh (knd := strKind prog w) led).setOf (Heap.get?_push_of_some _ new) (by unfold scanBound; omega)) (fun _ => rfl) rfl
  · obtain ⟨h2, g2, d2, tk2, os2⟩ := s2
    obtain rfl : g2 = s.gens := mv.gens
    obtain rfl : d2 = s.drawn := mv.drawn
    obtain rfl : os2 = s.os := mv.os
    refine wpAny_pure ?_
    show wpAny _ _ (ret Value.none) _ _ _
    refine wpAny_pure ⟨rfl, h2, tk2, rfl, so, fun b o hb e => mv.heap b o (fun z => ?_) (Heap.get?_push_of_some _ (Heap.get?_push_of_some _ e))⟩
    simp only [List.mem_cons, List.not_mem_nil, or_false] at z
    rcases z with z | z
    · exact absurd z (Nat.ne_of_lt hb)
    · rw [size1] at z; exact absurd z (Nat.ne_of_lt (Nat.lt_succ_of_lt hb))
theorem call_set_nd {l : Addr} {items : Array Value} {ts : List Str} {Q : Value → Shared → Prop} (hh : A.handled = none) (hl : s.heap.IsList l items) (hi : StrsAre items.toList ts) (nd : ts.Nodup) (hroom : items.size + 1 < scanBound)
    (h : ∀ (h' : Heap) (tk : Nat), h'.SetOf (strKind prog w) s.heap.objs.size (ahead ts items.size) items.size → (∀ b o, b < s.heap.objs.size → s.heap.get? b = some o → h'.get? b = some o) → Q (.ref s.heap.objs.size) { s with heap := h', toks := tk }) :
    wpAny (model prog w) A (call (.type "set") [.ref l]) Q E s := by
  obtain ⟨kc, kt, hmro⟩ := F.called_set.mro
  have e1 := F.called_set.made
  have e2 := F.called_set.sub
  refine wpAny_call (codeAny_of_tree (wpAny_pure ⟨Code.quiet_builtin _ (by decide +kernel), codeAny_builtin F.entry_type_call ?_⟩))
  rw [Around.under_plain (weight_type_call_type "set" [.ref l] []) rfl]
  have e3 := F.called_set.notType
  have e4 := F.called_set.canCreate
  have e5 := F.typeCall_set_1 (.ref l)
  repeat (any_goals (first | assumption | wp_step))
  refine codeAny_mono (code_set_new_1 (.ref l) (E := E) (Q₁ := fun x t => ∃ led : Bool, x = .ref s.heap.objs.size ∧ t = { s with heap := s.heap.push (setNew led) }) fun led => ⟨led, rfl, rfl⟩) fun r t hr => ?_
  rcases r with ex | fl
  · exact hr
  rcases fl with _ | _ | _ | x
  · exact hr.elim
  · exact hr.elim
  · exact hr.elim
  obtain ⟨led, rfl, rfl⟩ := hr
  have isSet : Shared.TypeIs { s with heap := s.heap.push (setNew led) } (.ref s.heap.objs.size) "set" := ⟨_, Heap.get?_push_size _ rfl, rfl⟩
  have e6 := F.called_set.init.lookup
  have e7 := F.called_set.init.bind (.ref s.heap.objs.size)
  repeat (any_goals (first | assumption | wp_step))
  refine codeAny_mono (codeAny_call_builtin (R := wants (SetGot prog w s ts items) E) F.called_set.init.plain F.entry_set_init (check_set_init_1 isSet (set_filled (prog := prog) (w := w) (A := A.in1) (E := E) (led := led) (by simp [hh]) hl hi nd hroom rfl))) fun r2 t2 hr2 => ?_
  rcases r2 with ex | fl
  · exact hr2
  rcases fl with _ | _ | _ | x
  · exact hr2.elim
  · exact hr2.elim
  · exact hr2.elim
  obtain ⟨rfl, h2, tk, rfl, so, old⟩ := hr2
  repeat (any_goals (first | assumption | wp_step))
  exact h _ _ so old
end
/-- len(set(xs)), xs a list of unlike texts -/
def tLenSetN (K : PySem.W.Frag) (ta : TE) : TE := fun σ H Q => ta σ H fun x H1 => ∃ l, ∃ ts : List Str, x = .ref l ∧ SqL K H1 l (ts.map V.str) ∧ ts.Nodup ∧ ts.length ≤ 4000 ∧ Q (.int ts.length) H1
theorem pe_lenSetN {X : Cx} {a : Expr} {ta : TE} {p p2 q pos : Pos} (hc : X.calm = true) (hg : Gl X "len") (hm : X.mg "len" = none) (hg2 : Gl X "set") (hm2 : X.mg "set" = none) (ha : PE X a ta)
    (na : starEach [a] X.env = (false, eval a X.env) :: starEach [] X.env := by rfl) : PE X (.Call (.Name "len" p) [.Call (.Name "set" p2) [a] [] q] [] pos) (tLenSetN X.K ta) := by
  refine ⟨fun pins s σ H Q I h => Call_ (ld_blt I hg hm bt_len (callWith_builtin1 (args_cons ?_ rfl) rfl rfl))⟩
  refine Call_ (ld_blt I hg2 hm2 bt_set (callWith_type1 (args_cons (thn (ha.run pins s σ H _ I h) fun v s1 ⟨x, H1, I1, r1, q1⟩ => args_nil ?_) na) na rfl))
  obtain ⟨l, ts, rfl, hq, hnd, hlen, q1⟩ := q1
  cases r1
  obtain ⟨its, r, pl, hz⟩ := I1.list hq
  have hl : its.toArray.size = ts.length := by rw [List.size_toArray, ← r.length, List.length_map]
  refine call_set_nd (I1.ok.hd hc) pl.isList (by simpa using strsAre_of r) hnd (by rw [hl]; unfold scanBound; omega) fun h' tk so old => args_nil ?_
  rw [hl] at so
  obtain ⟨o, es, ep, t, ho, hex, hd, _, _, _, hf, hn⟩ := so
  have I2 : Inv X pins σ H1 { s1 with heap := h', toks := tk } := I1.kept fun b o e => old b o (Heap.lt_size e) e
  exact call_len_set ho hex hd hf (by rw [hn] <;> omega) ⟨.int ts.length, H1, I2.tok _, ⟨_, by rw [hn]⟩, q1⟩
end Qf
namespace Qf
open PySem PySem.Spec PyProof.Rows L2
/-- a whole number -/
def spWhole : Sp := mkSp (fun i : Int => [.int i]) fun _ H Q => Q (.bl true) H
def spSize : Sp := mkSp (fun i : Int => [.int i]) fun i H Q => 0 ≤ i ∧ i ≤ 12 ∧ Q (.bl true) H
def spCellB : Sp := mkSp (fun a : Nat × Int × Int => [.int a.1, .int a.2.1, .int a.2.2]) fun a H Q => a.1 ≤ 12 ∧ 0 ≤ a.2.1 ∧ a.2.1 < 2 ^ a.1 ∧ 0 ≤ a.2.2 ∧ a.2.2 < 2 ^ a.1 ∧ Q (.bl true) H
def spWantSize : Sp := mkSp (fun i : Int => [.int i]) fun i H Q => 0 ≤ i ∧ i ≤ 12 ∧ Q .non H
def spWantCell : Sp := mkSp (fun a : Nat × Int × Int => [.int a.1, .int a.2.1, .int a.2.2]) fun a H Q => a.1 ≤ 12 ∧ 0 ≤ a.2.1 ∧ a.2.1 < 2 ^ a.1 ∧ 0 ≤ a.2.2 ∧ a.2.2 < 2 ^ a.1 ∧ Q .non H
/-- an address: its figures -/
def adS (ds : List Nat) : Str := ⟨(ds.map (48 + ·)).toArray⟩
def Figs (ds : List Nat) : Prop := ∀ d ∈ ds, d < 4
theorem adS_len (ds : List Nat) : (adS ds).length = ds.length := by simp [adS, Str.length]
theorem adS_size (ds : List Nat) : (adS ds).cps.size = ds.length := by simp [adS]
theorem adS_get {ds : List Nat} {i c : Nat} (h : (adS ds).cps[i]? = some c) : ∃ d, ds[i]? = some d ∧ c = 48 + d := by
  have h : (ds.map (48 + ·))[i]? = some c := by simpa [adS] using h
  rw [List.getElem?_map] at h
  cases e : ds[i]? with
  | none => rw [e] at h; cases h
  | some d => rw [e] at h; exact ⟨d, rfl, (Option.some.inj h).symm⟩
theorem adS_snoc (ds : List Nat) (d : Nat) : adS ds ++ (⟨#[48 + d]⟩ : Str) = adS (ds ++ [d]) := by
  have e1 : adS ds = SX.S (ds.map (48 + ·)) := rfl
  have e2 : (⟨#[48 + d]⟩ : Str) = SX.S [48 + d] := rfl
  rw [e1, e2, SX.S_cat]
  show SX.S _ = SX.S ((ds ++ [d]).map (48 + ·))
  rw [List.map_append]
  rfl
theorem figs_cps : ("0123" : Str).cps.toList = [48, 49, 50, 51] := by decide +kernel
theorem fig_in {d : Nat} (h : d < 4) : 48 + d ∈ ("0123" : Str).cps.toList := by
  rw [figs_cps]
  match d, h with
  | 0, _ => simp
  | 1, _ => simp
  | 2, _ => simp
  | 3, _ => simp
def spAddrB : Sp := mkSp (fun a : Nat × List Nat => [.int a.1, .str (adS a.2)]) fun a H Q => a.1 ≤ 12 ∧ a.2.length ≤ a.1 ∧ Figs a.2 ∧ ∀ H', Same H H' → Q (.bl true) H'
def spWantAddr : Sp := mkSp (fun a : Nat × List Nat => [.int a.1, .str (adS a.2)]) fun a H Q => a.1 ≤ 12 ∧ a.2.length ≤ a.1 ∧ Figs a.2 ∧ ∀ H', Same H H' → Q .non H'
section
variable {P : Program} {w : World} {K : PySem.W.Frag} {mg : Str → Option Value} {base : Heap}
theorem ok_is_whole (B : Bl mg) (D : Dfn K mg "is_whole" s_is_whole)  : Cal P w K mg base 1 "is_whole" spWhole := by
  refine cal_of D sc_is_whole (fun _ _ _ _ _ _ us hl => match us, hl with | [_], _ => rfl) (fun vs H Q E h => ?_) (fun f cdv A outer s H vs Q E hr h => ?_)
  · obtain ⟨a, rfl, _⟩ := h
    rfl
  · have nd := sc_is_whole.nd
    have hu := hu_of hr
    have hu65 := hu65_of hr
    obtain ⟨i, rfl, k⟩ := h
    refine ⟨_, (pss_one (ps_ret (pe_and (pe_callB call_isi (by rfl) B.isinstance bt_isinstance (pa_cons (pv 0) (pa_cons (pe_bltn (v := .ty "int") (u := .type "int") (by rfl) B.int bt_int rfl) pa_nil))) (pe_one (pe_not (pe_callB call_isi (by rfl) B.isinstance bt_isinstance (pa_cons (pv 0) (pa_cons (pe_bltn (v := .ty "bool") (u := .type "bool") (by rfl) B.bool bt_bool rfl) pa_nil)))))))), ?_⟩
    exact ⟨_, rfl, _, _, _, _, true, rfl, .ty _, .base (.int _), kit_ty (by decide +kernel), true, rfl, iteT ⟨_, rfl, _, _, _, _, false, rfl, .ty _, .base (.int _), kit_ty (by decide +kernel), false, rfl, k⟩⟩
theorem ok_is_size (B : Bl mg) (D : Dfn K mg "is_size" s_is_size) (c_is_whole : Cal P w K mg base 1 "is_whole" spWhole) : Cal P w K mg base 2 "is_size" spSize := by
  refine cal_of D sc_is_size (fun _ _ _ _ _ _ us hl => match us, hl with | [_], _ => rfl) (fun vs H Q E h => ?_) (fun f cdv A outer s H vs Q E hr h => ?_)
  · obtain ⟨a, rfl, _⟩ := h
    rfl
  · have nd := sc_is_size.nd
    have hu := hu_of hr
    have hu65 := hu65_of hr
    obtain ⟨i, rfl, h0, h1, k⟩ := h
    refine ⟨_, (pss_one (ps_ret (pe_and (pe_c c_is_whole hr (by omega) rfl (pa_cons (pv 0) pa_nil)) (pe_one (pe_chain op_le op_le pe_int (pv 0) (C8.pe_gc rfl B.cMOST_SIZE)))))), ?_⟩
    refine ⟨_, rfl, i, rfl, _, rfl, iteT ⟨_, rfl, _, _, rfl, rfl, _, rfl, ite_d (fun _ => ⟨_, _, rfl, rfl, ?_⟩) fun h => absurd h0 h⟩⟩
    exact qbl (decide_eq_true h1) k
theorem ok_want_size (B : Bl mg) (D : Dfn K mg "want_size" s_want_size) (c_is_size : Cal P w K mg base 2 "is_size" spSize) : Cal P w K mg base 3 "want_size" spWantSize := by
  refine cal_of D sc_want_size (fun _ _ _ _ _ _ us hl => match us, hl with | [_], _ => rfl) (fun vs H Q E h => ?_) (fun f cdv A outer s H vs Q E hr h => ?_)
  · obtain ⟨a, rfl, _⟩ := h
    rfl
  · have nd := sc_want_size.nd
    have hu := hu_of hr
    have hu65 := hu65_of hr
    obtain ⟨i, rfl, h0, h1, k⟩ := h
    refine ⟨_, (pss_one (ps_if (pt_not (pt_val (pe_c c_is_size hr (by omega) rfl (pa_cons (pv 0) pa_nil)))) (pss_one ps_never) pss_nil)), ?_⟩
    exact ⟨_, rfl, i, rfl, h0, h1, _, rfl, iteF k⟩
theorem ok_is_cell (B : Bl mg) (D : Dfn K mg "is_cell" s_is_cell) (c_is_whole : Cal P w K mg base 1 "is_whole" spWhole) : Cal P w K mg base 2 "is_cell" spCellB := by
  refine cal_of D sc_is_cell (fun _ _ _ _ _ _ us hl => match us, hl with | [_, _, _], _ => rfl) (fun vs H Q E h => ?_) (fun f cdv A outer s H vs Q E hr h => ?_)
  · obtain ⟨a, rfl, _⟩ := h
    rfl
  · have nd := sc_is_cell.nd
    have hu := hu_of hr
    have hu65 := hu65_of hr
    obtain ⟨⟨n, r, c⟩, rfl, hn, h0, h1, h2, h3, k⟩ := h
    refine ⟨_, (pss_cons (ps_set (i := 3) nd rfl (by first | exact Or.inl rfl | exact Or.inr rfl) (pe_op op_shl pe_int (pv 0)))
      (pss_one (ps_ret (pe_and (pe_c c_is_whole hr (by omega) rfl (pa_cons (pv 1) pa_nil)) (pe_and (pe_c c_is_whole hr (by omega) rfl (pa_cons (pv 2) pa_nil)) (pe_and (pe_chain op_le op_lt pe_int (pv 1) (pv 3)) (pe_one (pe_chain op_le op_lt pe_int (pv 2) (pv 3))))))))), ?_⟩
    refine ⟨_, rfl, _, _, rfl, rfl, ⟨by omega, by omega, by decide⟩, ?_⟩
    have e : (1 : Int) * 2 ^ (n : Int).toNat = 2 ^ n := by rw [Int.one_mul] <;> rfl
    refine ⟨_, rfl, r, rfl, _, rfl, iteT ⟨_, rfl, c, rfl, _, rfl, iteT ?_⟩⟩
    refine ⟨_, rfl, _, _, rfl, rfl, _, rfl, ite_d (fun _ => ⟨_, rfl, _, _, rfl, rfl, ?_⟩) fun h => absurd h0 h⟩
    refine ⟨_, rfl, ite_d (fun _ => ?_) fun h => absurd (show r < 1 * 2 ^ (n : Int).toNat by rw [e]; exact h1) h⟩
    refine ⟨_, rfl, _, _, rfl, rfl, _, rfl, ite_d (fun _ => ⟨_, rfl, _, _, rfl, rfl, ?_⟩) fun h => absurd h2 h⟩
    exact qbl (decide_eq_true (show c < 1 * 2 ^ (n : Int).toNat by rw [e]; exact h3)) k
theorem ok_want_cell (B : Bl mg) (D : Dfn K mg "want_cell" s_want_cell) (c_is_cell : Cal P w K mg base 2 "is_cell" spCellB) : Cal P w K mg base 3 "want_cell" spWantCell := by
  refine cal_of D sc_want_cell (fun _ _ _ _ _ _ us hl => match us, hl with | [_, _, _], _ => rfl) (fun vs H Q E h => ?_) (fun f cdv A outer s H vs Q E hr h => ?_)
  · obtain ⟨a, rfl, _⟩ := h
    rfl
  · have nd := sc_want_cell.nd
    have hu := hu_of hr
    have hu65 := hu65_of hr
    obtain ⟨⟨n, r, c⟩, rfl, hn, h0, h1, h2, h3, k⟩ := h
    refine ⟨_, (pss_one (ps_if (pt_not (pt_val (pe_c c_is_cell hr (by omega) rfl (pa_cons (pv 0) (pa_cons (pv 1) (pa_cons (pv 2) pa_nil)))))) (pss_one ps_never) pss_nil)), ?_⟩
    exact ⟨_, rfl, _, rfl, _, rfl, ⟨n, r, c⟩, rfl, hn, h0, h1, h2, h3, _, rfl, iteF k⟩
theorem ok_is_address (B : Bl mg) (D : Dfn K mg "is_address" s_is_address)  : Cal P w K mg base 1 "is_address" spAddrB := by
  refine cal_of D sc_is_address (fun _ _ _ _ _ _ us hl => match us, hl with | [_, _], _ => rfl) (fun vs H Q E h => ?_) (fun f cdv A outer s H vs Q E hr h => ?_)
  · obtain ⟨a, rfl, _⟩ := h
    rfl
  · have nd := sc_is_address.nd
    have hu := hu_of hr
    have hu65 := hu65_of hr
    obtain ⟨⟨n, ds⟩, rfl, hn, hl, hf, k⟩ := h
    refine ⟨_, (pss_one (ps_ret (pe_and (pe_callB call_isi (by rfl) B.isinstance bt_isinstance (pa_cons (pv 1) (pa_cons (pe_bltn (v := .ty "str") (u := .type "str") (by rfl) B.str bt_str rfl) pa_nil))) (pe_and (pe_cmpR op_le (pe_callB call_len_str (by rfl) B.len bt_len (pa_cons (pv 1) pa_nil)) (pv 0) (nomark _)) (pe_one (pe_callB (cr_all rfl) (by rfl) B.all bt_all (pa_cons (pe_lc (own := [("figure", 2)]) rfl nd (pi_str (pv 1)) (blkOk_by (N := N_is_address) (sc := defScope s_is_address) (by decide +kernel)) (fun _ _ _ _ _ => (pg_name (i := 2) nd rfl (by first | exact Or.inl rfl | exact Or.inr rfl))) (fun _ _ _ _ _ => pts_nil) (fun _ _ _ _ _ => (pe_cmpR op_in_sign (pv 2) (C8.pe_gc rfl B.cFIGURES) rfl))) pa_nil))))))), ?_⟩
    refine ⟨_, rfl, _, _, _, _, true, rfl, .ty _, .base (.str _), kit_ty (by decide +kernel), true, rfl, iteT ?_⟩
    refine ⟨_, rfl, _, rfl, szl (by rw [adS_len]; have : ds.length ≤ n := hl; omega), ?_⟩
    refine ⟨_, rfl, _, _, rfl, rfl, _, rfl, ite_d (fun _ => ?_) fun h => absurd (show ((adS ds).length : Int) ≤ n by rw [adS_len]; exact Int.ofNat_le.mpr hl) h⟩
    refine ⟨_, rfl, _, rfl, fun D hD => lc_map (n := (adS ds).cps.size) walk_str (fun _ y _ => y = .bl true) hD (fun _ _ => trivial) (by rw [adS_size]; exact szL (by have : ds.length ≤ n := hl; omega)) (fun _ _ _ _ e _ _ => e) ?_ gName_mono ?_⟩
    · rintro i x H2 H' hi s2 _ ⟨rfl, c, hc, rfl⟩ Q' q
      obtain ⟨d, hd, rfl⟩ := adS_get hc
      exact ⟨rfl, _, rfl, _, _, rfl, rfl, q _ _ (Same.refl _) (congrArg V.bl (decide_eq_true (fig_in (hf d (List.mem_of_getElem? hd)))))⟩
    · intro ys H' s1 hy py
      rw [paired_eq (f := fun _ => V.bl true) py] at hy
      exact ⟨D, (List.range (adS ds).cps.size).map fun _ => true, rfl, lstOf (by rw [hy, List.map_map]; rfl), qbl (all_map_true fun _ _ => rfl) (k _ s1)⟩
theorem ok_want_address (B : Bl mg) (D : Dfn K mg "want_address" s_want_address) (c_is_address : Cal P w K mg base 1 "is_address" spAddrB) : Cal P w K mg base 2 "want_address" spWantAddr := by
  refine cal_of D sc_want_address (fun _ _ _ _ _ _ us hl => match us, hl with | [_, _], _ => rfl) (fun vs H Q E h => ?_) (fun f cdv A outer s H vs Q E hr h => ?_)
  · obtain ⟨a, rfl, _⟩ := h
    rfl
  · have nd := sc_want_address.nd
    have hu := hu_of hr
    have hu65 := hu65_of hr
    obtain ⟨⟨n, ds⟩, rfl, hn, hl, hf, k⟩ := h
    refine ⟨_, (pss_one (ps_if (pt_not (pt_val (pe_c c_is_address hr (by omega) rfl (pa_cons (pv 0) (pa_cons (pv 1) pa_nil))))) (pss_one ps_never) pss_nil)), ?_⟩
    exact ⟨_, rfl, _, rfl, ⟨n, ds⟩, rfl, hn, hl, hf, fun H' s1 => ⟨_, rfl, iteF (k H' s1)⟩⟩
end
end Qf
namespace Qf
open PySem PySem.Spec PyProof.Rows L2
theorem occ_fig {d : Nat} (h : d < 4) : Builtin.Str.occurrences ("0123" : Str) ⟨#[48 + d]⟩ 0 ("0123" : Str).length 1 = [d] := by
  match d, h with
  | 0, _ => decide +kernel
  | 1, _ => decide +kernel
  | 2, _ => decide +kernel
  | 3, _ => decide +kernel
def spBoxOf : Sp := mkSp (fun a : Nat × List Nat => [.int a.1, .str (adS a.2)]) fun a H Q => a.1 ≤ 12 ∧ a.2.length ≤ a.1 ∧ Figs a.2 ∧
  ∀ H' p, Same H H' → H p = none → H' p = some (.tup [.int (boxA a.1 a.2).1, .int (boxA a.1 a.2).2.1, .int (2 ^ (a.1 - a.2.length) : Nat)]) → Q (.ref p) H'
section
variable {P : Program} {w : World} {K : PySem.W.Frag} {mg : Str → Option Value} {base : Heap}
theorem ok_box_of (B : Bl mg) (D : Dfn K mg "box_of" s_box_of) (c_want_size : Cal P w K mg base 3 "want_size" spWantSize) (c_want_address : Cal P w K mg base 2 "want_address" spWantAddr) : Cal P w K mg base 4 "box_of" spBoxOf := by
  refine cal_of D sc_box_of (fun _ _ _ _ _ _ us hl => match us, hl with | [_, _], _ => rfl) (fun vs H Q E h => ?_) (fun f cdv A outer s H vs Q E hr h => ?_)
  · obtain ⟨a, rfl, _⟩ := h
    rfl
  · have nd := sc_box_of.nd
    have hu := hu_of hr
    have hu65 := hu65_of hr
    obtain ⟨⟨n, ds⟩, rfl, hn, hl, hf, k⟩ := h
    refine ⟨_, (pss_cons (ps_expr (pe_c c_want_size hr (by omega) rfl (pa_cons (pv 0) pa_nil)))
      (pss_cons (ps_expr (pe_c c_want_address hr (by omega) rfl (pa_cons (pv 0) (pa_cons (pv 1) pa_nil))))
      (pss_cons (ps_set (i := 2) nd rfl (by first | exact Or.inl rfl | exact Or.inr rfl) pe_int)
      (pss_cons (ps_set (i := 3) nd rfl (by first | exact Or.inl rfl | exact Or.inr rfl) pe_int)
      (pss_cons (ps_set (i := 4) nd rfl (by first | exact Or.inl rfl | exact Or.inr rfl) (pe_op op_shl pe_int (pv 0)))
      (pss_cons (ps_for PassesOwn.never rfl (pi_str (pv 1)) (pg_name (i := 5) nd rfl (by first | exact Or.inl rfl | exact Or.inr rfl))
      (pss_cons (ps_set (i := 6) nd rfl (by first | exact Or.inl rfl | exact Or.inr rfl) (pe_m1 PySem.F.slot_str_index PySem.F.type_str_index mt_sindex (C8.pe_gc rfl B.cFIGURES) (pv 5)))
      (pss_cons (ps_set (i := 4) nd rfl (by first | exact Or.inl rfl | exact Or.inr rfl) (pe_op op_fdivN (pv 4) pe_int))
      (pss_cons (ps_set (i := 2) nd rfl (by first | exact Or.inl rfl | exact Or.inr rfl) (pe_op op_add (pv 2) (pe_op op_mul (pv 4) (pe_op op_fdivN (pv 6) pe_int))))
      (pss_one (ps_set (i := 3) nd rfl (by first | exact Or.inl rfl | exact Or.inr rfl) (pe_op op_add (pv 3) (pe_op op_mul (pv 4) (pe_op op_modN (pv 6) pe_int)))))))))
      (pss_one (ps_ret (pe_tup (pa_cons (pv 2) (pa_cons (pv 3) (pa_cons (pv 4) pa_nil)))))))))))), ?_⟩
    have hn : n ≤ 12 := hn
    have hl : ds.length ≤ n := hl
    refine ⟨_, rfl, (n : Int), rfl, Int.natCast_nonneg _, by omega, ?_⟩
    refine ⟨_, rfl, _, rfl, ⟨n, ds⟩, rfl, hn, hl, hf, fun H1 s1 => ?_⟩
    refine ⟨_, rfl, _, _, rfl, rfl, ⟨by omega, by omega, by decide⟩, ?_⟩
    have e0 : (1 : Int) * 2 ^ (n : Int).toNat = ((2 ^ n : Nat) : Int) := by rw [Int.one_mul, Int.toNat_natCast, Int.natCast_pow]; rfl
    refine ⟨_, rfl, adS ds, rfl, for_it (n := (adS ds).cps.size) walk_str (fun i σ H2 => H2 = H1 ∧ ∃ f q, σ = [some (.int n), some (.str (adS ds)), some (.int (boxA n (ds.take i)).1), some (.int (boxA n (ds.take i)).2.1), some (.int (2 ^ (n - i) : Nat)), f, q])
      ⟨rfl, none, none, congrArg (fun z => ([some (V.int (n : Int)), some (V.str (adS ds)), some (V.int 0), some (V.int 0), some (V.int z), none, none] : L2.St)) e0⟩ (fun _ _ _ _ _ => trivial) ?_ ?_⟩
    · rintro i x σ H2 H' hi ⟨rfl, f, q, rfl⟩ ⟨rfl, c, hc, rfl⟩
      obtain ⟨d, hd, rfl⟩ := adS_get hc
      have hd4 := hf d (List.mem_of_getElem? hd)
      have hi2 : i < ds.length := (List.getElem?_eq_some_iff.mp hd).1
      refine ⟨⟨_, rfl⟩, _, rfl, _, _, d, [], rfl, rfl, occ_fig hd4, ?_⟩
      refine ⟨_, rfl, _, _, rfl, rfl, ⟨by decide, by decide⟩, ?_⟩
      have e1 : ((2 ^ (n - i) : Nat) : Int).fdiv 2 = ((2 ^ (n - (i + 1)) : Nat) : Int) := by
        have := fdivN (2 ^ (n - i)) 2
        rw [show n - i = (n - (i + 1)) + 1 by omega, Nat.pow_succ, Nat.mul_div_cancel _ (by decide)] at this
        rw [show n - i = (n - (i + 1)) + 1 by omega, Nat.pow_succ]
        exact this
      have hp := pow_lt64 (show n - (i + 1) ≤ 12 by omega)
      refine ⟨_, rfl, _, rfl, _, rfl, _, _, rfl, rfl, ⟨by decide, by decide⟩, _, _, rfl, rfl, .inl (mul64' e1 (by omega)), _, _, rfl, rfl, ?_⟩
      refine ⟨_, rfl, _, rfl, _, rfl, _, _, rfl, rfl, (by show (2 : Int) ≠ 0; decide), _, _, rfl, rfl, .inl (mul64' e1 (by omega)), _, _, rfl, rfl, ?_⟩
      refine ⟨rfl, some (V.str ⟨#[48 + d]⟩), some (V.int (d : Int)), ?_⟩
      have et : ds.take (i + 1) = ds.take i ++ [d] := by rw [List.take_add_one, hd]; rfl
      have ek : (boxA n (ds.take i)).2.2 - 1 = n - (i + 1) := by rw [boxA_k, List.length_take, Nat.min_eq_left (Nat.le_of_lt hi2)]; omega
      have b1 : ((boxA n (ds.take (i + 1))).1 : Int) = ((boxA n (ds.take i)).1 : Int) + ((2 ^ (n - i) : Nat) : Int).fdiv 2 * (d : Int).fdiv 2 := by
        rw [et, boxA_snoc, e1, show ((d : Int).fdiv 2) = ((d / 2 : Nat) : Int) from fdivN d 2]
        show (((boxA n (ds.take i)).1 + 2 ^ ((boxA n (ds.take i)).2.2 - 1) * (d / 2) : Nat) : Int) = _
        rw [ek, Int.natCast_add, Int.natCast_mul]
      have b2 : ((boxA n (ds.take (i + 1))).2.1 : Int) = ((boxA n (ds.take i)).2.1 : Int) + ((2 ^ (n - i) : Nat) : Int).fdiv 2 * (d : Int).fmod 2 := by
        rw [et, boxA_snoc, e1, show ((d : Int).fmod 2) = ((d % 2 : Nat) : Int) from fmodN d 2]
        show (((boxA n (ds.take i)).2.1 + 2 ^ ((boxA n (ds.take i)).2.2 - 1) * (d % 2) : Nat) : Int) = _
        rw [ek, Int.natCast_add, Int.natCast_mul]
      rw [b1, b2, ← e1]
      rfl
    · rintro σ H2 ⟨rfl, f, q, rfl⟩
      refine ⟨_, rfl, _, rfl, _, rfl, szl (by show 3 ≤ 1000000; decide), fun p hp => ?_⟩
      rw [adS_size, List.take_length]
      exact k _ p (sNew s1 hp) (s1.free hp) upd_same
end
end Qf
namespace Qf
open PySem PySem.Spec PyProof.Rows L2
def spRowsInit (C : Addr) : Sp := mkSp (fun p : Addr => [.ref p]) fun p H Q => (∃ dx, H p = some (.ins C dx [])) ∧ ∀ lr dn H', H lr = none → H dn = none → RowsAt C H' p lr dn [] → Sx [p] H H' → Q .non H'
/-- the numbers of a number's quarters: a row of the store, or a plain one four times -/
def spQuarters (C : Addr) : Sp := mkSp (fun x : Addr × Addr × Addr × List Qt × Qt => [.ref x.1, .int (num x.2.2.2.1 x.2.2.2.2 : Nat)]) fun x H Q => RowsAt C H x.1 x.2.1 x.2.2.1 x.2.2.2.1 ∧ ∃ a b c d, x.2.2.2.2 = .n a b c d ∧ x.2.2.2.2 ∈ x.2.2.2.1 ∧
  ∀ q, H q = some (.tup (vR (rowOf x.2.2.2.1 x.2.2.2.2))) → Q (.ref q) H
section
variable {P : Program} {w : World} {K : PySem.W.Frag} {mg : Str → Option Value} {base : Heap}
theorem ok_Rows___init__ (B : Bl mg) {CRows : Addr} (hC : Cls K CRows) (D : Dmk K mg "Rows" CRows "Rows.__init__" s_Rows___init__) (T : RT K CRows) : Mak P w K mg base 1 "Rows" CRows (spRowsInit CRows) := by
  refine mak_of D sc_Rows___init__ (fun _ _ _ _ _ _ us hl => match us, hl with | [_], _ => rfl) (fun vs H Q E h => ?_) (fun f cdv A outer s H vs Q E hr h => ?_)
  · obtain ⟨a, rfl, _⟩ := h
    rfl
  · have nd := sc_Rows___init__.nd
    have hu := hu_of hr
    have hu65 := hu65_of hr
    obtain ⟨p, rfl, ⟨dx, hp⟩, k⟩ := h
    refine ⟨_, (pss_cons (ps_fld (pv 0) (pe_lst pa_nil) rfl)
      (pss_one (ps_fld (pv 0) pe_dnewT rfl))), ?_⟩
    refine ⟨szl (by show 0 ≤ 1000000; decide), fun lr hlr => ?_⟩
    have e1 : p ≠ lr := ne_of_none hp hlr
    refine ⟨_, rfl, p, CRows, dx, [], rfl, (by rw [upd_ne e1]; exact hp), T.cl, T.nR, (by show 0 < 1000; decide), fun dn hdn => ?_⟩
    have hd0 : H dn = none ∧ dn ≠ lr ∧ dn ≠ p := by
      have h1 : dn ≠ p := fun z => by subst z; rw [upd_same] at hdn; cases hdn
      have h2 : dn ≠ lr := fun z => by subst z; rw [upd_ne (Ne.symm e1), upd_same] at hdn; cases hdn
      rw [upd_ne h1, upd_ne h2] at hdn
      exact ⟨hdn, h2, h1⟩
    obtain ⟨h0, h2, h1⟩ := hd0
    refine ⟨_, rfl, p, CRows, dx, _, rfl, (by rw [upd_ne (Ne.symm h1), upd_same]), T.cl, T.nN, (by show 1 < 1000; decide), ?_⟩
    refine k lr dn _ hlr h0 ⟨⟨dx, upd_same⟩, ⟨[], by rw [upd_ne (Ne.symm e1), upd_ne (Ne.symm h2), upd_ne (Ne.symm e1), upd_same]; rfl, .nil⟩, by rw [upd_ne h1, upd_same]; rfl, St.nil⟩ ?_
    refine Sx.upd (Sx.new (Sx.upd (Sx.new (Sx.refl _ _) hlr) List.mem_cons_self) ?_) List.mem_cons_self
    rw [upd_ne h1, upd_ne h2]
    exact h0
theorem ok_Rows_number (B : Bl mg) {CRows : Addr} (hC : Cls K CRows) (D : Dme K CRows "number" "Rows.number" s_Rows_number) (T : RT K CRows) : Met P w K mg base 1 CRows "number" (spNumber CRows) := by
  refine met_of hC D sc_Rows_number (fun _ _ _ _ _ _ us hl => match us, hl with | [_, _], _ => rfl) (fun vs H Q E h => ?_) (fun f cdv A outer s H vs Q E hr h => ?_)
  · obtain ⟨a, rfl, _⟩ := h
    rfl
  · have nd := sc_Rows_number.nd
    have hu := hu_of hr
    have hu65 := hu65_of hr
    obtain ⟨⟨p, lr, dn, q, S, a, b, c, d⟩, rfl, R, hl, hq, ka, kb, kc, kd, k⟩ := h
    dsimp only at R hl hq ka kb kc kd k
    refine ⟨_, (pss_cons (ps_if (pt_cmpR (op_inTD hu65) (pv 1) (pe_tup (pa_cons (pe_tup (pa_cons pe_int (pa_cons pe_int (pa_cons pe_int (pa_cons pe_int pa_nil))))) (pa_cons (pe_tup (pa_cons pe_int (pa_cons pe_int (pa_cons pe_int (pa_cons pe_int pa_nil))))) pa_nil))) (by rfl)) (pss_one (ps_ret (pe_ix ix_tup (pv 1) pe_int (fun _ _ => rfl)))) pss_nil)
      (pss_cons (ps_if (pt_cmp (pc_dnotin hu (pv 1) (pe_fld (pv 0) rfl))) (pss_cons (ps_expr (pe_bm PySem.F.plainAttrs_list PySem.F.slot_list_append PySem.F.type_list_append mt_append (pe_fld (pv 0) rfl) (pa_cons (pv 1) pa_nil)))
      (pss_one (ps_dput hu (pe_fld (pv 0) rfl) (pv 1) (pe_op op_add (pe_callB call_len_seq (by rfl) B.len bt_len (pa_cons (pe_fld (pv 0) rfl) pa_nil)) pe_int) rfl))) pss_nil)
      (pss_one (ps_ret (pe_dget hu (pe_fld (pv 0) rfl) (pv 1) (fun _ _ => rfl)))))), ?_⟩
    refine ⟨_, rfl, szl (by show 4 ≤ 1000000; decide), fun p1 n1 => ?_⟩
    refine ⟨szl (by show 4 ≤ 1000000; decide), fun p2 n2 => ?_⟩
    refine ⟨szl (by show 2 ≤ 1000000; decide), fun p3 n3 => ?_⟩
    have s1 : Same H (upd H p1 (.tup [.int 0, .int 0, .int 0, .int 0])) := same_new n1
    have s2 := sNew s1 n2 (o := .tup [.int 1, .int 1, .int 1, .int 1])
    have s3 := sNew s2 n3 (o := .tup [.ref p1, .ref p2])
    have e1 := same_new n3 (o := .tup [.ref p1, .ref p2]) _ _ (same_new n2 (o := .tup [.int 1, .int 1, .int 1, .int 1]) _ _ (upd_same (H := H) (a := p1) (o := .tup [.int 0, .int 0, .int 0, .int 0])))
    have e2 := same_new n3 (o := .tup [.ref p1, .ref p2]) _ _ (upd_same (H := upd H p1 (.tup [.int 0, .int 0, .int 0, .int 0])) (a := p2) (o := .tup [.int 1, .int 1, .int 1, .int 1]))
    generalize hG : upd (upd (upd H p1 (.tup [.int 0, .int 0, .int 0, .int 0])) p2 (.tup [.int 1, .int 1, .int 1, .int 1])) p3 (.tup [.ref p1, .ref p2]) = G at s3 e1 e2
    have e3 : G p3 = some (.tup [.ref p1, .ref p2]) := by rw [← hG]; exact upd_same
    have R3 := R.same s3
    have hq3 := s3 _ _ hq
    refine ⟨rD [num S a, num S b, num S c, num S d], [[0, 0, 0, 0], [1, 1, 1, 1]].map rD, dp_row hq3, .tup (tupOf e3) (.cons (dp_row (r := [0, 0, 0, 0]) e1) (.cons (dp_row (r := [1, 1, 1, 1]) e2) .nil)), rD_shaped _, rDs_shaped _, _, rfl, ?_⟩
    have ev : (([[0, 0, 0, 0], [1, 1, 1, 1]].map rD).any fun z => PyData.eqv z (rD [num S a, num S b, num S c, num S d])) = decide (Plain4 a b c d) := by
      simp only [List.map_cons, List.map_nil, List.any_cons, List.any_nil, rD_eqv, Bool.or_false, ← Bool.decide_or]
      congr 1
      unfold Plain4
      rw [← num_row_zero (T := S), ← num_row_one (T := S)]
      exact propext ⟨fun h => h.imp Eq.symm Eq.symm, fun h => h.imp Eq.symm Eq.symm⟩
    rw [ev]
    refine ite_d (fun hpl => ?_) (fun hpl => ?_)
    · -- a plain one
      refine ⟨_, rfl, q, _, _, _, rfl, rfl, tupOf hq3, rfl, ?_⟩
      have hk : Kn S (mk a b c d) := by
        rcases hpl with ⟨rfl, rfl, rfl, rfl⟩ | ⟨rfl, rfl, rfl, rfl⟩
        · rw [mk_e]; exact .inl rfl
        · rw [mk_f]; exact .inr (.inl rfl)
      have hn : num S (mk a b c d) = num S a := by
        rcases hpl with ⟨rfl, rfl, rfl, rfl⟩ | ⟨rfl, rfl, rfl, rfl⟩
        · rw [mk_e]
        · rw [mk_f]
      rw [add_eq hk, hn] at k
      exact k G R3 (sxS s3)
    · have hm := mk_n hpl
      rw [hm] at k
      obtain ⟨⟨dx, h1⟩, ⟨as, h2, h3⟩, h4, h5⟩ := id R3
      have hrow : ([num S a, num S b, num S c, num S d] ∈ rowsOf S) ↔ Qt.n a b c d ∈ S := row_mem h5 ka kb kc kd
      have hv := valV_from 2 (rowsOf S) [num S a, num S b, num S c, num S d]
      have hqk : G q = some (.tup ((kR [num S a, num S b, num S c, num S d]).map kV)) := by rw [kR_v]; exact hq3
      refine ⟨_, rfl, _, rfl, p, CRows, dx, _, _, rfl, h1, T.cl, T.nN, fR_numbers _ _, dn, _, rfl, DGet.t h4 hqk, _, rfl, ?_⟩
      unfold kvsR
      rw [hv]
      by_cases hin : Qt.n a b c d ∈ S
      · -- it stands already
        rw [if_pos (hrow.mpr hin)]
        refine iteF ?_
        have hk : Kn S (.n a b c d) := kn_n.mpr hin
        rw [add_eq hk] at k
        refine ⟨_, rfl, p, CRows, dx, _, _, rfl, h1, T.cl, T.nN, fR_numbers _ _, _, rfl, dn, _, rfl, ?_, k G R3 (sxS s3)⟩
        have := DGet.t h4 hqk
        unfold kvsR at this
        rw [hv, if_pos (hrow.mpr hin)] at this
        have ei : (rowsOf S).idxOf [num S a, num S b, num S c, num S d] = S.idxOf (.n a b c d) := row_idx h5 hin
        rw [ei] at this
        exact this
      · -- a new row
        rw [if_neg fun z => hin (hrow.mp z)]
        refine iteT ?_
        have hlen : as.length = S.length := (pr_len h3).trans (rowsOf_len S)
        have nel : lr ≠ dn := ne_of h2 h4 (by intro z; cases z)
        have nep : p ≠ lr := ne_of h1 h2 (by intro z; cases z)
        have nep2 : p ≠ dn := ne_of h1 h4 (by intro z; cases z)
        have neq : q ≠ lr := ne_of hq3 h2 (by intro z; cases z)
        have neq2 : q ≠ dn := ne_of hq3 h4 (by intro z; cases z)
        -- self.rows.append(quarters)
        refine ⟨_, rfl, p, CRows, dx, _, _, rfl, h1, T.cl, T.nR, fR_rows _ _, .inl ⟨rfl, _, .inl (.inl h2)⟩, _, rfl, lr, _, _, rfl, rfl, h2, szL (by rw [List.length_map, hlen]; omega), ?_⟩
        -- self.numbers[quarters] = len(self.rows) + 1
        have g1 : upd G lr (.lst (as.map V.ref ++ [V.ref q])) p = some (.ins CRows dx (fR lr dn)) := by rw [upd_ne nep]; exact h1
        have g2 : upd G lr (.lst (as.map V.ref ++ [V.ref q])) dn = some (.dT (kvsR (rowsOf S))) := by rw [upd_ne (Ne.symm nel)]; exact h4
        have g3 : upd G lr (.lst (as.map V.ref ++ [V.ref q])) q = some (.tup ((kR [num S a, num S b, num S c, num S d]).map kV)) := by rw [upd_ne neq]; exact hqk
        refine ⟨_, rfl, p, CRows, dx, _, _, rfl, g1, T.cl, T.nR, fR_rows _ _, lr, _, rfl, .inl (lstOf upd_same), _, _, rfl, rfl, ?_⟩
        refine ⟨_, rfl, p, CRows, dx, _, _, rfl, g1, T.cl, T.nN, fR_numbers _ _, _, rfl, dn, _, rfl, DPut.t g2 g3 (szL (by unfold kvsR; rw [kvsFrom_len, rowsOf_len]; omega)), ?_⟩
        have hvn : valV (kvsR (rowsOf S)) (kR [num S a, num S b, num S c, num S d]) = none := by unfold kvsR; rw [hv, if_neg fun z => hin (hrow.mp z)]
        have hv1 : (V.int (((as.map V.ref ++ [V.ref q]).length : Int) + 1)) = V.int (((rowsOf S).length + 2 : Nat) : Int) := by
          rw [List.length_append, List.length_map, hlen, rowsOf_len]
          rfl
        have hkv : putK (kvsR (rowsOf S)) (kR [num S a, num S b, num S c, num S d]) (V.int (((as.map V.ref ++ [V.ref q]).length : Int) + 1)) = kvsR (rowsOf (add S (.n a b c d))) := by
          rw [putK_new _ hvn, rowsOf_add h5 hin ka kb kc kd, hv1]
          exact (kvsFrom_snoc 2 (rowsOf S) _).symm
        have hm2 : [num S a, num S b, num S c, num S d] ∈ rowsOf (add S (.n a b c d)) := by rw [rowsOf_add h5 hin ka kb kc kd]; exact List.mem_append_right _ List.mem_cons_self
        have hS2 : St (add S (.n a b c d)) := h5.add hpl ka kb kc kd
        have hget : DGet (upd (upd G lr (.lst (as.map V.ref ++ [V.ref q]))) dn (.dT (kvsR (rowsOf (add S (.n a b c d)))))) dn (.ref q) (some (.int (num (add S (.n a b c d)) (.n a b c d) : Nat))) := by
          have := DGet.t (H := upd (upd G lr (.lst (as.map V.ref ++ [V.ref q]))) dn (.dT (kvsR (rowsOf (add S (.n a b c d)))))) (b := q) (k := kR [num S a, num S b, num S c, num S d]) upd_same (by rw [upd_ne neq2]; exact g3)
          unfold kvsR at this
          rw [valV_from, if_pos hm2] at this
          have e9 : (rowsOf (add S (.n a b c d))).idxOf [num S a, num S b, num S c, num S d] + 2 = num (add S (.n a b c d)) (.n a b c d) := by
            rw [num_n, ← row_idx hS2 (kn_n.mp (add_kn S _))]
            congr 2
            rw [add_ne fun z => hin (kn_n.mp z)]
            exact (rowOf_app _ ka kb kc kd).symm
          rw [e9] at this
          exact this
        rw [← hkv] at hget
        have q1 : ∀ o, upd (upd G lr (.lst (as.map V.ref ++ [V.ref q]))) dn o p = some (.ins CRows dx (fR lr dn)) := fun o => by rw [upd_ne nep2]; exact g1
        refine ⟨_, rfl, p, CRows, dx, _, _, rfl, q1 _, T.cl, T.nN, fR_numbers _ _, _, rfl, dn, _, rfl, hget, ?_⟩
        refine k _ ⟨⟨dx, q1 _⟩, ⟨as ++ [q], ?_, ?_⟩, ?_, hS2⟩ ?_
        · rw [upd_ne nel, upd_same, List.map_append]
          rfl
        · rw [rowsOf_add h5 hin ka kb kc kd]
          have up : ∀ c r, G c = some (.tup (vR r)) → ∀ o, upd (upd G lr (.lst (as.map V.ref ++ [V.ref q]))) dn o c = some (.tup (vR r)) := fun c r e o => by
            rw [upd_ne (ne_of e h4 (by intro z; cases z)), upd_ne (ne_of e h2 (by intro z; cases z))]
            exact e
          exact Paired.snoc (pr_imp h3 fun c r _ _ e => up c r e _) (up q _ hq3 _)
        · rw [upd_same, hkv]
        · exact Sx.upd (Sx.upd (sxS s3) List.mem_cons_self) (List.mem_cons_of_mem _ List.mem_cons_self)
theorem ok_Rows_quarters (B : Bl mg) {CRows : Addr} (hC : Cls K CRows) (D : Dme K CRows "quarters" "Rows.quarters" s_Rows_quarters) (T : RT K CRows) : Met P w K mg base 1 CRows "quarters" (spQuarters CRows) := by
  refine met_of hC D sc_Rows_quarters (fun _ _ _ _ _ _ us hl => match us, hl with | [_, _], _ => rfl) (fun vs H Q E h => ?_) (fun f cdv A outer s H vs Q E hr h => ?_)
  · obtain ⟨a, rfl, _⟩ := h
    rfl
  · have nd := sc_Rows_quarters.nd
    have hu := hu_of hr
    have hu65 := hu65_of hr
    obtain ⟨⟨p, lr, dn, S, t⟩, rfl, R, a, b, c, d, e, hm, k⟩ := h
    dsimp only at R e hm k
    refine ⟨_, (pss_cons (ps_if (pt_cmpR op_lt (pv 1) pe_int (nomark _)) (pss_one (ps_ret (pe_tup (pa_cons (pv 1) (pa_cons (pv 1) (pa_cons (pv 1) (pa_cons (pv 1) pa_nil))))))) pss_nil)
      (pss_one (ps_ret (pe_ix ix_list (pe_fld (pv 0) rfl) (pe_op op_sub (pv 1) pe_int) (fun _ _ => rfl))))), ?_⟩
    obtain ⟨⟨dx, h1⟩, ⟨as, h2, h3⟩, h4, h5⟩ := id R
    have hi := List.idxOf_lt_length_of_mem hm
    have hn : num S t = S.idxOf t + 2 := by subst e; rfl
    have hlen : as.length = S.length := (pr_len h3).trans (rowsOf_len S)
    refine ⟨_, rfl, _, _, rfl, rfl, _, rfl, ite_d (fun hlt => ?_) (fun _ => ?_)⟩
    · have : ((num S t : Nat) : Int) < 2 := hlt
      omega
    · obtain ⟨x, hx⟩ : ∃ x, as[S.idxOf t]? = some x := ⟨_, List.getElem?_eq_getElem (by omega)⟩
      obtain ⟨r, hr, er⟩ := pr_get h3 hx
      have er2 : r = rowOf S t := by
        have : (rowsOf S)[S.idxOf t]? = some (rowOf S t) := rowsOf_get (by rw [List.getElem?_eq_getElem hi, List.getElem_idxOf])
        rw [this] at hr
        exact (Option.some.inj hr).symm
      subst er2
      refine ⟨_, rfl, p, CRows, dx, _, _, rfl, h1, T.cl, T.nR, fR_rows _ _, _, rfl, _, _, rfl, rfl, lr, _, _, .ref x, rfl, rfl, lstOf h2, at_of (j := S.idxOf t) ?_ ?_, k x er⟩
      · show ((num S t : Nat) : Int) - 2 = _
        rw [hn]
        omega
      · rw [List.getElem?_map, hx]
        rfl
end
end Qf
namespace Qf
open PySem PySem.Spec PyProof.Rows L2
/-- a telling's rows at q -/
structure TellAt (H : Hp) (q : Addr) (R : List Row) : Prop where
  ex : ∃ as : List Addr, H q = some (.tup (as.map V.ref)) ∧ Paired (fun a r => H a = some (.tup (vR r))) as R
/-- the shape of the tree t on a floor of size n -/
structure ShapeAt (H : Hp) (p : Addr) (n : Nat) (t : Qt) : Prop where
  ex : ∃ q, H p = some (.tup [.int (n : Int), .int (num (post t []) t : Nat), .ref q]) ∧ TellAt H q (rowsOf (post t []))
theorem TellAt.sx {H H' : Hp} {q : Addr} {R : List Row} {S : List Addr} (t : TellAt H q R) (s : Sx S H H') (h : ∀ c xs, H c = some (.tup xs) → c ∉ S) : TellAt H' q R := by
  obtain ⟨as, h1, h2⟩ := t
  exact ⟨as, s _ _ (h _ _ h1) h1, pr_imp h2 fun a r _ _ e => s _ _ (h _ _ e) e⟩
theorem TellAt.same {H H' : Hp} {q : Addr} {R : List Row} (t : TellAt H q R) (s : Same H H') : TellAt H' q R := by
  obtain ⟨as, h1, h2⟩ := t
  exact ⟨as, s _ _ h1, pr_imp h2 fun a r _ _ e => s _ _ e⟩
theorem ShapeAt.same {H H' : Hp} {p : Addr} {n : Nat} {t : Qt} (x : ShapeAt H p n t) (s : Same H H') : ShapeAt H' p n t := by
  obtain ⟨q, h1, h2⟩ := x
  exact ⟨q, s _ _ h1, h2.same s⟩
theorem ShapeAt.sx {H H' : Hp} {p : Addr} {n : Nat} {t : Qt} {S : List Addr} (x : ShapeAt H p n t) (s : Sx S H H') (h : ∀ c xs, H c = some (.tup xs) → c ∉ S) : ShapeAt H' p n t := by
  obtain ⟨q, h1, h2⟩ := x
  exact ⟨q, s _ _ (h _ _ h1) h1, h2.sx s h⟩
/-- the places' own numbers -/
def idV (m : Nat) : List V := (List.range m).map fun (j : Nat) => V.int (j : Int)
theorem idV_get {m j : Nat} (h : j < m) : (idV m)[j]? = some (.int (j : Int)) := by
  unfold idV
  rw [List.getElem?_map, List.getElem?_range h]
  rfl
theorem idV_len (m : Nat) : (idV m).length = m := by unfold idV; rw [List.length_map, List.length_range]
theorem idV_succ (m : Nat) : idV (m + 1) = idV m ++ [.int (m : Int)] := by
  unfold idV
  rw [List.range_succ, List.map_append]
  rfl
theorem vR_get {r : Row} {j : Nat} {x : V} (h : (vR r)[j]? = some x) : ∃ k, r[j]? = some k ∧ x = .int (k : Int) := by
  unfold vR at h
  rw [List.getElem?_map] at h
  cases e : r[j]? with
  | none => rw [e] at h; cases h
  | some k => rw [e] at h; exact ⟨k, rfl, (Option.some.inj h).symm⟩
theorem vR_len (r : Row) : (vR r).length = r.length := List.length_map ..
/-- a list that has been reckoned place by place -/
theorem eq_of_paired {xs ys : List V} (h : Paired (fun (i : Nat) y => xs[i]? = some y) (List.range xs.length) ys) : ys = xs := by
  apply List.ext_getElem?
  intro i
  by_cases hi : i < xs.length
  · obtain ⟨y, h1, h2⟩ := pr_get h (i := i) (x := i) (List.getElem?_range hi)
    rw [h1, h2]
  · have hl : ys.length = xs.length := by rw [← pr_len h, List.length_range]
    rw [List.getElem?_eq_none (by omega), List.getElem?_eq_none (by omega)]
structure TakeA where
  p : Addr
  lr : Addr
  dn : Addr
  tp : Addr
  n : Nat
  t : Qt
def spTake (C : Addr) : Sp := mkSp (fun x : TakeA => [.ref x.p, .ref x.tp]) fun x H Q => RowsAt C H x.p x.lr x.dn [] ∧ ShapeAt H x.tp x.n x.t ∧ Canon x.t ∧ (post x.t []).length ≤ 50000 ∧
  ∀ H', RowsAt C H' x.p x.lr x.dn (post x.t []) → Sx [x.lr, x.dn] H H' → Q (.int (num (post x.t []) x.t : Nat)) H'
section
variable {P : Program} {w : World} {K : PySem.W.Frag} {mg : Str → Option Value} {base : Heap}
theorem ok_Rows_take (B : Bl mg) {CRows : Addr} (hC : Cls K CRows) (D : Dme K CRows "take" "Rows.take" s_Rows_take) (T : RT K CRows) (c_Rows_number : Met P w K mg base 1 CRows "number" (spNumber CRows)) : Met P w K mg base 2 CRows "take" (spTake CRows) := by
  refine met_of hC D sc_Rows_take (fun _ _ _ _ _ _ us hl => match us, hl with | [_, _], _ => rfl) (fun vs H Q E h => ?_) (fun f cdv A outer s H vs Q E hr h => ?_)
  · obtain ⟨a, rfl, _⟩ := h
    rfl
  · have nd := sc_Rows_take.nd
    have hu := hu_of hr
    have hu65 := hu65_of hr
    obtain ⟨⟨p, lr, dn, tp, n, t⟩, rfl, R, Sh, hcan, hlen, k⟩ := h
    dsimp only at R Sh hcan hlen k
    refine ⟨_, (pss_cons (ps_asg (pv 1) (pg_tup rfl (pgs_cons (pg_name (i := 2) nd rfl (by first | exact Or.inl rfl | exact Or.inr rfl)) (pgs_cons (pg_name (i := 3) nd rfl (by first | exact Or.inl rfl | exact Or.inr rfl)) (pgs_cons (pg_name (i := 4) nd rfl (by first | exact Or.inl rfl | exact Or.inr rfl)) pgs_nil)))))
      (pss_cons (ps_set (i := 5) nd rfl (by first | exact Or.inl rfl | exact Or.inr rfl) (pe_lst (pa_cons pe_int (pa_cons pe_int pa_nil))))
      (pss_cons (ps_for PassesOwn.never rfl (pi_tup (pv 4)) (pg_name (i := 6) nd rfl (by first | exact Or.inl rfl | exact Or.inr rfl))
      (pss_one (ps_expr (pe_bm PySem.F.plainAttrs_list PySem.F.slot_list_append PySem.F.type_list_append mt_append (pv 5) (pa_cons (pe_mt c_Rows_number hr (by omega) (pv 0) (pa_cons (pe_callTy call_tuple_of (by rfl) B.tuple bt_tuple (pa_cons (pe_lc (own := [("number", 7)]) rfl nd (pi_tup (pv 6)) (blkOk_by (N := N_Rows_take) (sc := defScope s_Rows_take) (by decide +kernel)) (fun _ _ _ _ _ => (pg_name (i := 7) nd rfl (by first | exact Or.inl rfl | exact Or.inr rfl))) (fun _ _ _ _ _ => pts_nil) (fun _ _ _ _ _ => (pe_ix (ix_listK (K := K)) (pv 5) (pv 7) (fun _ _ => rfl)))) pa_nil)) pa_nil)) pa_nil)))))
      (pss_one (ps_ret (pe_ix ix_list (pv 5) (pv 3) (fun _ _ => rfl))))))), ?_⟩
    obtain ⟨q, hp, as, hq, hrows⟩ := Sh
    have St0 : St (post t []) := St.post t St.nil hcan
    generalize hTs : post t [] = Ts at *
    -- n, top, rows = telling
    refine ⟨_, rfl, tp, _, rfl, tupOf hp, rfl, _, _, rfl, _, _, rfl, _, _, rfl, rfl, ?_⟩
    -- here = [0, 1]
    refine ⟨szl (by show 2 ≤ 1000000; decide), fun h hh => ?_⟩
    have hl : as.length = Ts.length := (pr_len hrows).trans (rowsOf_len Ts)
    have s0 := same_new hh (o := .lst [.int 0, .int 1])
    refine ⟨_, rfl, q, rfl, ⟨_, tupOf (s0 _ _ hq)⟩, for_it (walk_tup (xs := as.map V.ref)) (fun i σ H2 => ∃ row, σ = [some (.ref p), some (.ref tp), some (.int (n : Int)), some (.int (num Ts t : Nat)), some (.ref q), some (.ref h), row, none] ∧
      RowsAt CRows H2 p lr dn (Ts.take i) ∧ H2 h = some (.lst (idV (i + 2))) ∧ Sx [lr, dn] H H2) ⟨none, rfl, R.same s0, upd_same, sxS s0⟩ ?_ ?_ ?_⟩
    all_goals
      have R0 := R
      obtain ⟨⟨dx0, g1⟩, ⟨as0, g2, _⟩, g3, _⟩ := R0
      have tn : ∀ c xs, H c = some (.tup xs) → c ∉ [lr, dn] := fun c xs e => nin2 e g2 g3 (by intro z; cases z) (by intro z; cases z)
    · rintro i σ H2 hi ⟨row, rfl, R2, e2, x2⟩
      exact tupOf (x2 _ _ (tn _ _ hq) hq)
    · rintro i x σ H2 H' hi ⟨row, rfl, R2, e2, x2⟩ ⟨rfl, hx⟩
      rw [List.length_map] at hi
      rw [List.getElem?_map] at hx
      have ha : as[i]? = some as[i] := List.getElem?_eq_getElem hi
      rw [ha] at hx
      obtain rfl : x = V.ref as[i] := (Option.some.inj hx).symm
      obtain ⟨r, hr, er⟩ := pr_get hrows ha
      have hiT : i < Ts.length := by omega
      have hti : Ts[i]? = some Ts[i] := List.getElem?_eq_getElem hiT
      obtain ⟨a, b, c, d, et, hnp, ka, kb, kc, kd⟩ := St0.ch i _ hti
      have hr2 : r = rowOf Ts Ts[i] := by
        rw [rowsOf_get hti] at hr
        exact (Option.some.inj hr).symm
      have hrow : rowOf Ts Ts[i] = [num (Ts.take i) a, num (Ts.take i) b, num (Ts.take i) c, num (Ts.take i) d] := by
        rw [et]
        show [num Ts a, num Ts b, num Ts c, num Ts d] = _
        rw [num_take ka, num_take kb, num_take kc, num_take kd]
      rw [hr2, hrow] at er
      have er2 : H' as[i] = some (.tup (vR [num (Ts.take i) a, num (Ts.take i) b, num (Ts.take i) c, num (Ts.take i) d])) := x2 _ _ (tn _ _ er) er
      have htl : (Ts.take i).length = i := by rw [List.length_take]; omega
      have small : ∀ m ∈ [num (Ts.take i) a, num (Ts.take i) b, num (Ts.take i) c, num (Ts.take i) d], m < i + 2 := by
        intro m hm
        have := ka.lt
        have := kb.lt
        have := kc.lt
        have := kd.lt
        rw [htl] at *
        simp only [List.mem_cons, List.not_mem_nil, or_false] at hm
        omega
      obtain ⟨⟨dx2, o1⟩, _⟩ := id R2
      -- here.append(self.number(tuple([here[number] for number in row])))
      refine ⟨_, rfl, .inl ⟨rfl, _, .inl (.inl e2)⟩, _, rfl, p, dx2, _, rfl, o1, fR_no _ _ (by decide +kernel) (by decide +kernel), ?_⟩
      refine ⟨_, rfl, as[i], rfl, ⟨_, tupOf er2⟩, fun D hD => ?_⟩
      generalize hrw : [num (Ts.take i) a, num (Ts.take i) b, num (Ts.take i) c, num (Ts.take i) d] = rw4 at er2 small
      refine lc_map (walk_tup (xs := vR rw4)) (fun j y _ => (vR rw4)[j]? = some y) hD (fun H3 s3 => tupOf (s3 _ _ er2)) (by rw [vR_len, ← hrw]; exact szL (by show 4 < 1000000; decide)) (fun _ _ _ _ e _ _ => e) ?_ gName_mono ?_
      · rintro j y H3 H4 hj s3 _ ⟨rfl, hy⟩ Q' q
        obtain ⟨m, hm, rfl⟩ := vR_get hy
        exact ⟨rfl, _, rfl, _, rfl, h, _, _, _, rfl, rfl, lstOf (s3 _ _ e2), at_of rfl (idV_get (small m (List.mem_of_getElem? hm))), q _ _ (Same.refl _) hy⟩
      · intro ys H3 s3 hy py
        rw [eq_of_paired py] at hy
        refine ⟨D, _, rfl, .inl ⟨lstOf hy, fun l hl2 => ?_⟩⟩
        have s4 := sNew s3 hl2 (o := .tup (vR rw4))
        have R4 := R2.same s4
        refine ⟨⟨p, lr, dn, l, Ts.take i, a, b, c, d⟩, rfl, R4, by rw [htl]; omega, by rw [hrw]; exact upd_same, ka, kb, kc, kd, fun H5 R5 x5 => ?_⟩
        have hmk : mk a b c d = Ts[i] := by rw [mk_n hnp, et]
        have hnew : ¬ Kn (Ts.take i) Ts[i] := by
          rw [et, kn_n, ← et]
          intro hm
          obtain ⟨j, hj, ej⟩ := List.getElem_of_mem hm
          rw [List.length_take] at hj
          rw [List.getElem_take] at ej
          have := (List.getElem_inj St0.nd).mp ej
          omega
        have hadd : add (Ts.take i) (mk a b c d) = Ts.take (i + 1) := by rw [hmk, add_ne hnew, List.take_add_one, hti]; rfl
        rw [hadd] at R5
        have hnum : num (add (Ts.take i) (mk a b c d)) (mk a b c d) = i + 2 := by
          rw [hadd, hmk, et, num_n, ← et]
          congr 1
          have : (Ts.take (i + 1))[i]? = some Ts[i] := by rw [List.getElem?_take]; simp [hti]
          obtain ⟨h1, h2⟩ := List.getElem?_eq_some_iff.mp this
          conv => lhs; rw [← h2]
          exact (List.Nodup.sublist (List.take_sublist _ _) St0.nd).idxOf_getElem _ _
        have hhl : h ∉ [lr, dn] := by
          obtain ⟨_, ⟨as2, f2, _⟩, f3, _⟩ := id R4
          have e4 := s4 _ _ e2
          have f0 : H lr ≠ none := by rw [g2]; exact fun z => by cases z
          simp only [List.mem_cons, List.not_mem_nil, or_false, not_or]
          refine ⟨fun z => ?_, fun z => ?_⟩
          · subst z
            exact f0 hh
          · subst z
            rw [g3] at hh
            cases hh
        have e5 : H5 h = some (.lst (idV (i + 2))) := x5 _ _ hhl (s4 _ _ e2)
        refine ⟨h, _, _, rfl, rfl, e5, by rw [idV_len]; exact szL (by omega), some (V.ref as[i]), rfl, ?_, ?_, ?_⟩
        · obtain ⟨⟨dx5, k1⟩, ⟨as5, k2, k3⟩, k4, k5⟩ := R5
          have n1 : p ≠ h := ne_of k1 e5 (by intro z; cases z)
          have n2 : lr ≠ h := fun z => hhl (by rw [z]; exact List.mem_cons_self)
          have n3 : dn ≠ h := ne_of k4 e5 (by intro z; cases z)
          refine ⟨⟨dx5, by rw [upd_ne n1]; exact k1⟩, ⟨as5, by rw [upd_ne n2]; exact k2, pr_imp k3 fun c r _ _ e => ?_⟩, by rw [upd_ne n3]; exact k4, k5⟩
          rw [upd_ne (ne_of e e5 (by intro z; cases z))]
          exact e
        · rw [upd_same, hnum, ← idV_succ]
        · have xx : Sx [lr, dn] H H5 := x2.trans ((sxS s4).trans x5)
          exact fun cc o hc e => by
            rw [upd_ne (ne_of_none e hh)]
            exact xx cc o hc e
    · rintro σ H2 ⟨row, rfl, R2, e2, x2⟩
      rw [List.length_map, hl, List.take_length] at R2
      have hk : num Ts t < Ts.length + 2 := by
        rw [← hTs]
        exact (post_kn t []).lt
      refine ⟨_, rfl, _, rfl, h, _, _, _, rfl, rfl, lstOf e2, at_of rfl (idV_get ?_), k H2 R2 x2⟩
      rw [List.length_map, hl]
      exact hk
end
end Qf
namespace Qf
open PySem PySem.Spec PyProof.Rows L2
/-- what order has found: the squares of L, by their numbers in the store T -/
def kvsO (T : List Qt) : Nat → List Qt → List (Key × V)
  | _, [] => []
  | j, t :: L => (Sum.inl (num T t : Int), V.int (j : Int)) :: kvsO T (j + 1) L
theorem kvsO_len (T : List Qt) : ∀ (j : Nat) (L : List Qt), (kvsO T j L).length = L.length
  | _, [] => rfl
  | j, t :: L => by show (kvsO T (j + 1) L).length + 1 = L.length + 1; rw [kvsO_len]
theorem kvsO_snoc (T : List Qt) : ∀ (j : Nat) (L : List Qt) (t : Qt), kvsO T j (L ++ [t]) = kvsO T j L ++ [(Sum.inl (num T t : Int), V.int ((L.length + j : Nat) : Int))]
  | j, [], t => by simp [kvsO]
  | j, a :: L, t => by
    show _ :: kvsO T (j + 1) (L ++ [t]) = _ :: (kvsO T (j + 1) L ++ _)
    rw [kvsO_snoc, List.length_cons, show L.length + (j + 1) = L.length + 1 + j by omega]
theorem kvsO_get (T : List Qt) : ∀ (j : Nat) (L : List Qt) (i : Nat) (t : Qt), L[i]? = some t → (kvsO T j L)[i]? = some (Sum.inl (num T t : Int), V.int ((i + j : Nat) : Int))
  | j, a :: L, 0, t, h => by
    simp at h
    subst h
    simp [kvsO]
  | j, a :: L, i + 1, t, h => by
    have h : L[i]? = some t := by simpa using h
    have := kvsO_get T (j + 1) L i t h
    show (kvsO T (j + 1) L)[i]? = _
    rw [this, show i + (j + 1) = i + 1 + j by omega]
theorem valV_O {T : List Qt} : ∀ (j : Nat) (L : List Qt) (t : Qt), (∀ u ∈ L, Kn T u) → Kn T t → ∀ r, valV (kvsO T j L ++ r) (Sum.inl (num T t : Int)) = if t ∈ L then some (V.int ((L.idxOf t + j : Nat) : Int)) else valV r (Sum.inl (num T t : Int))
  | j, [], t, _, _, r => rfl
  | j, a :: L, t, hL, ht, r => by
    by_cases h : a = t
    · subst h
      rw [if_pos List.mem_cons_self, List.idxOf_cons_self]
      show ((List.find? (fun kv => decide (kv.1 = (Sum.inl (num T a : Int) : Key))) ((Sum.inl (num T a : Int), V.int (j : Int)) :: (kvsO T (j + 1) L ++ r))).map (·.2)) = _
      rw [List.find?_cons_of_pos (by simp)]
      simp
    · have hne : ¬ ((Sum.inl (num T a : Int) : Key) = Sum.inl (num T t : Int)) := fun z => h (num_inj (hL a List.mem_cons_self) ht (Int.ofNat_inj.mp (Sum.inl.inj z)))
      have e : valV (kvsO T j (a :: L) ++ r) (Sum.inl (num T t : Int)) = valV (kvsO T (j + 1) L ++ r) (Sum.inl (num T t : Int)) := by
        show ((List.find? (fun kv => decide (kv.1 = (Sum.inl (num T t : Int) : Key))) ((Sum.inl (num T a : Int), V.int (j : Int)) :: (kvsO T (j + 1) L ++ r))).map (·.2)) = _
        rw [List.find?_cons_of_neg (by simpa using hne)]
        rfl
      rw [e, valV_O (j + 1) L t (fun u hu => hL u (List.mem_cons_of_mem _ hu)) ht r]
      have hm : t ∈ a :: L ↔ t ∈ L := by simp [Ne.symm h]
      have hi : (a :: L).idxOf t = L.idxOf t + 1 := by
        rw [List.idxOf_cons, show (a == t) = false by simpa using h]
        rfl
      by_cases hr : t ∈ L
      · rw [if_pos hr, if_pos (hm.mpr hr), hi, show L.idxOf t + 1 + j = L.idxOf t + (j + 1) by omega]
      · rw [if_neg hr, if_neg fun z => hr (hm.mp z)]
structure OrdA where
  p : Addr
  lr : Addr
  dn : Addr
  fa : Addr
  T : List Qt
  t : Qt
  L : List Qt
def spOrder (C : Addr) (h : Nat) : Sp := mkSp (fun x : OrdA => [.ref x.p, .int (num x.T x.t : Nat), .ref x.fa]) fun x H Q => RowsAt C H x.p x.lr x.dn x.T ∧ Kn x.T x.t ∧ Canon x.t ∧ x.t.ht ≤ h ∧ H x.fa = some (.dK (kvsO x.T 2 x.L)) ∧ St x.L ∧ (∀ u ∈ x.L, Kn x.T u) ∧
  (post x.t x.L).length ≤ 50000 ∧ ∀ H', H' x.fa = some (.dK (kvsO x.T 2 (post x.t x.L))) → Sx [x.fa] H H' → Q .non H'
section
variable {P : Program} {w : World} {K : PySem.W.Frag} {mg : Str → Option Value} {base : Heap}
theorem ok_Rows_order0 (B : Bl mg) {CRows : Addr} (hC : Cls K CRows) (D : Dme K CRows "order" "Rows.order" s_Rows_order) (T : RT K CRows) : Met P w K mg base 2 CRows "order" (spOrder CRows 0) := by
  refine met_of hC D sc_Rows_order (fun _ _ _ _ _ _ us hl => match us, hl with | [_, _, _], _ => rfl) (fun vs H Q E h => ?_) (fun f cdv A outer s H vs Q E hr h => ?_)
  · obtain ⟨a, rfl, _⟩ := h
    rfl
  · have nd := sc_Rows_order.nd
    have hu := hu_of hr
    have hu65 := hu65_of hr
    obtain ⟨⟨p, lr, dn, fa, S, t, L⟩, rfl, R, ht, hc, hh, hf, sL, hL, hlen, k⟩ := h
    dsimp only at R ht hc hh hf sL hL hlen k
    refine ⟨_, (pss_one (ps_if (PW.pt (pw_and (pt_cmpR op_gt (pv 1) pe_int (nomark _)) (pw_and1 (pt_cmp (pc_dnotin hu (pv 1) (pv 2)))))) pss_never pss_nil)), ?_⟩
    have e : post t L = L := by
      cases t with
      | e => rfl
      | f => rfl
      | n a b c d => exact absurd hh (by show ¬ (_ + 1 ≤ 0); omega)
    rw [e] at k
    refine ⟨_, rfl, _, _, rfl, rfl, _, rfl, ite_d (fun hgt => ?_) (fun _ => iteF (k H hf (Sx.refl _ _)))⟩
    have : (1 : Int) < ((num S t : Nat) : Int) := hgt
    cases t with
    | e => rw [num_e] at this; omega
    | f => rw [num_f] at this; omega
    | n a b c d => exact absurd hh (by show ¬ (_ + 1 ≤ 0); omega)
theorem ok_Rows_orderS (B : Bl mg) {CRows : Addr} (hC : Cls K CRows) (D : Dme K CRows "order" "Rows.order" s_Rows_order) {h0 : Nat} (T : RT K CRows) (c_Rows_quarters : Met P w K mg base 1 CRows "quarters" (spQuarters CRows)) (c_Rows_order : Met P w K mg base (h0 + 2) CRows "order" (spOrder CRows h0)) : Met P w K mg base (h0+3) CRows "order" (spOrder CRows (h0 + 1)) := by
  refine met_of hC D sc_Rows_order (fun _ _ _ _ _ _ us hl => match us, hl with | [_, _, _], _ => rfl) (fun vs H Q E h => ?_) (fun f cdv A outer s H vs Q E hr h => ?_)
  · obtain ⟨a, rfl, _⟩ := h
    rfl
  · have nd := sc_Rows_order.nd
    have hu := hu_of hr
    have hu65 := hu65_of hr
    obtain ⟨⟨p, lr, dn, fa, S, t, L⟩, rfl, R, ht, hc, hh, hf, sL, hL, hlen, k⟩ := h
    dsimp only at R ht hc hh hf sL hL hlen k
    refine ⟨_, (pss_one (ps_if (PW.pt (pw_and (pt_cmpR op_gt (pv 1) pe_int (nomark _)) (pw_and1 (pt_cmp (pc_dnotin hu (pv 1) (pv 2)))))) (pss_cons (ps_for PassesOwn.never rfl (pi_tup (pe_mt c_Rows_quarters hr (by omega) (pv 0) (pa_cons (pv 1) pa_nil))) (pg_name (i := 3) nd rfl (by first | exact Or.inl rfl | exact Or.inr rfl))
      (pss_one (ps_expr (pe_mt c_Rows_order hr (by omega) (pv 0) (pa_cons (pv 3) (pa_cons (pv 2) pa_nil))))))
      (pss_one (ps_dput hu (pv 2) (pv 1) (pe_op op_add (pe_callB call_lenD (by rfl) B.len bt_len (pa_cons (pv 2) pa_nil)) pe_int) rfl))) pss_nil)), ?_⟩
    refine ⟨_, rfl, _, _, rfl, rfl, _, rfl, ite_d (fun hgt => ?_) (fun hle => ?_)⟩
    · have hgt : (1 : Int) < ((num S t : Nat) : Int) := hgt
      obtain ⟨⟨dx, h1⟩, _⟩ := id R
      have hv := valV_O 2 L t hL ht []
      rw [List.append_nil] at hv
      refine ⟨_, rfl, _, rfl, fa, _, rfl, DGet.k (k := Sum.inl (num S t : Int)) hf, _, rfl, ?_⟩
      rw [hv]
      by_cases hin : t ∈ L
      · rw [if_pos hin]
        rw [post_of_mem t sL (.inr (.inr hin))] at k
        exact iteF (k H hf (Sx.refl _ _))
      rw [if_neg hin]
      refine iteT ?_
      obtain ⟨a, b, c, d, rfl⟩ : ∃ a b c d, t = .n a b c d := by
        cases t with
        | e => rw [num_e] at hgt; omega
        | f => rw [num_f] at hgt; omega
        | n a b c d => exact ⟨a, b, c, d, rfl⟩
      have hm : Qt.n a b c d ∈ S := kn_n.mp ht
      obtain ⟨ka, kb, kc, kd, _⟩ := R.st.sub hm
      obtain ⟨hnp, ca, cb, cc, cd⟩ := hc
      have hht : max (max a.ht b.ht) (max c.ht d.ht) + 1 ≤ h0 + 1 := hh
      have s1 := St.post a sL ca
      have s2 := St.post b s1 cb
      have s3 := St.post c s2 cc
      have s4 := St.post d s3 cd
      have k1 : ∀ u ∈ post a L, Kn S u := fun u hu => (kn_post R.st a ka hu).elim (hL u) id
      have k2 : ∀ u ∈ post b (post a L), Kn S u := fun u hu => (kn_post R.st b kb hu).elim (k1 u) id
      have k3 : ∀ u ∈ post c (post b (post a L)), Kn S u := fun u hu => (kn_post R.st c kc hu).elim (k2 u) id
      have k4 : ∀ u ∈ post d (post c (post b (post a L))), Kn S u := fun u hu => (kn_post R.st d kd hu).elim (k3 u) id
      have hnew : Qt.n a b c d ∉ post d (post c (post b (post a L))) := post_new hin
      have ep : post (.n a b c d) L = post d (post c (post b (post a L))) ++ [.n a b c d] := add_ne fun z => hnew (kn_n.mp z)
      have l4 : (post d (post c (post b (post a L)))).length + 1 ≤ 50000 := by rw [ep, List.length_append] at hlen; exact hlen
      have l3 := post_len d (post c (post b (post a L)))
      have l2 := post_len c (post b (post a L))
      have l1 := post_len b (post a L)
      refine ⟨_, rfl, p, dx, _, rfl, h1, fR_no _ _ (by decide +kernel) (by decide +kernel), _, rfl, ⟨p, lr, dn, S, .n a b c d⟩, rfl, R, a, b, c, d, rfl, hm, fun q hq => ?_⟩
      refine ⟨q, rfl, ⟨_, tupOf hq⟩, for_it (walk_tup (xs := vR (rowOf S (.n a b c d)))) (fun i σ H2 => ∃ qv, σ = [some (.ref p), some (.int (num S (.n a b c d) : Nat)), some (.ref fa), qv] ∧
        H2 fa = some (.dK (kvsO S 2 (([a, b, c, d].take i).foldl (fun L x => post x L) L))) ∧ Sx [fa] H H2) ⟨none, rfl, hf, Sx.refl _ _⟩ ?_ ?_ ?_⟩
      · rintro i σ H2 hi ⟨qv, rfl, e2, x2⟩
        exact tupOf (x2 _ _ (nin1 hq hf (by intro z; cases z)) hq)
      · rintro i x σ H2 H' hi ⟨qv, rfl, e2, x2⟩ ⟨rfl, hx⟩
        have R2 := R.sxD hf x2
        obtain ⟨⟨dx2, o1⟩, _⟩ := id R2
        obtain ⟨m, hm2, rfl⟩ := vR_get hx
        have go : ∃ (u : Qt) (L1 : List Qt), m = num S u ∧ Kn S u ∧ Canon u ∧ u.ht ≤ h0 ∧ St L1 ∧ (∀ v ∈ L1, Kn S v) ∧ (post u L1).length ≤ 50000 ∧ (([a, b, c, d].take i).foldl (fun L x => post x L) L) = L1 ∧ (([a, b, c, d].take (i + 1)).foldl (fun L x => post x L) L) = post u L1 := by
          match i, hm2 with
          | 0, hm2 => exact ⟨a, L, (Option.some.inj hm2).symm, ka, ca, by omega, sL, hL, by omega, rfl, rfl⟩
          | 1, hm2 => exact ⟨b, _, (Option.some.inj hm2).symm, kb, cb, by omega, s1, k1, by omega, rfl, rfl⟩
          | 2, hm2 => exact ⟨c, _, (Option.some.inj hm2).symm, kc, cc, by omega, s2, k2, by omega, rfl, rfl⟩
          | 3, hm2 => exact ⟨d, _, (Option.some.inj hm2).symm, kd, cd, by omega, s3, k3, by omega, rfl, rfl⟩
        obtain ⟨u, L1, rfl, ku, cu, hu1, sl, kl, ll, e5, e6⟩ := go
        rw [e5] at e2
        refine ⟨_, rfl, p, dx2, _, rfl, o1, fR_no _ _ (by decide +kernel) (by decide +kernel), _, rfl, _, rfl, ⟨p, lr, dn, fa, S, u, L1⟩, rfl, R2, ku, cu, hu1, e2, sl, kl, ll, fun H3 e3 x3 => ?_⟩
        exact ⟨some (.int (num S u : Nat)), rfl, by rw [e6]; exact e3, x2.trans x3⟩
      · rintro σ H2 ⟨qv, rfl, e2, x2⟩
        have e2 : H2 fa = some (.dK (kvsO S 2 (post d (post c (post b (post a L)))))) := e2
        generalize post d (post c (post b (post a L))) = L4 at *
        have hv4 := valV_O 2 L4 (.n a b c d) k4 ht []
        rw [List.append_nil, if_neg hnew] at hv4
        refine ⟨_, rfl, fa, _, rfl, e2, _, _, rfl, rfl, ?_⟩
        refine ⟨_, rfl, _, rfl, fa, _, rfl, DPut.k (k := Sum.inl (num S (.n a b c d) : Int)) e2 (szL (by rw [kvsO_len]; omega)), ?_⟩
        refine k _ ?_ (x2.upd List.mem_cons_self)
        rw [upd_same, putK_new _ hv4, ep, kvsO_snoc, kvsO_len]
        rfl
    · refine iteF ?_
      have hle : ¬ (1 : Int) < ((num S t : Nat) : Int) := hle
      have e : post t L = L := by
        cases t with
        | e => rfl
        | f => rfl
        | n a b c d => rw [num_n] at hle; omega
      rw [e] at k
      exact k H hf (Sx.refl _ _)
end
end Qf
namespace Qf
open PySem PySem.Spec PyProof.Rows L2
/-- the dict that shape makes: the squares of P by their numbers in T, and the plain ones -/
def kvsS (T P : List Qt) : List (Key × V) := kvsO T 2 P ++ [(Sum.inl 0, V.int 0), (Sum.inl 1, V.int 1)]
theorem valV_S {T P : List Qt} (sP : St P) (hP : ∀ u ∈ P, Kn T u) {x : Qt} (hx : Kn T x) (hx2 : Kn P x) : valV (kvsS T P) (Sum.inl (num T x : Int)) = some (V.int (num P x : Nat)) := by
  unfold kvsS
  rw [valV_O 2 P x hP hx]
  cases x with
  | e => rw [if_neg sP.notE]; rfl
  | f => rw [if_neg sP.notF]; rfl
  | n a b c d => rw [if_pos (kn_n.mp hx2)]; rfl
structure ShpA where
  p : Addr
  lr : Addr
  dn : Addr
  T : List Qt
  t : Qt
  n : Nat
def spShape (C : Addr) : Sp := mkSp (fun x : ShpA => [.ref x.p, .int (x.n : Int), .int (num x.T x.t : Nat)]) fun x H Q => RowsAt C H x.p x.lr x.dn x.T ∧ Kn x.T x.t ∧ Canon x.t ∧ x.t.ht ≤ 6 ∧ (post x.t []).length ≤ 40000 ∧
  ∀ H' q, Same H H' → ShapeAt H' q x.n x.t → Q (.ref q) H'
theorem tell_sx {H H' : Hp} {as : List Addr} {R : List Row} {S : List Addr} (t : Paired (fun a r => H a = some (.tup (vR r))) as R) (s : Sx S H H') (h : ∀ c xs, H c = some (.tup xs) → c ∉ S) : Paired (fun a r => H' a = some (.tup (vR r))) as R :=
  pr_imp t fun a r _ _ e => s _ _ (h _ _ e) e
section
variable {P : Program} {w : World} {K : PySem.W.Frag} {mg : Str → Option Value} {base : Heap}
theorem ok_Rows_order (B : Bl mg) {CRows : Addr} (hC : Cls K CRows) (D : Dme K CRows "order" "Rows.order" s_Rows_order) (T : RT K CRows) (c_Rows_quarters : Met P w K mg base 1 CRows "quarters" (spQuarters CRows)) :
    ∀ h : Nat, Met P w K mg base (h + 2) CRows "order" (spOrder CRows h)
  | 0 => ok_Rows_order0 B hC D T
  | h + 1 => ok_Rows_orderS B hC D T c_Rows_quarters (ok_Rows_order B hC D T c_Rows_quarters h)
theorem ok_Rows_shape (B : Bl mg) {CRows : Addr} (hC : Cls K CRows) (D : Dme K CRows "shape" "Rows.shape" s_Rows_shape) (T : RT K CRows) (c_Rows_quarters : Met P w K mg base 1 CRows "quarters" (spQuarters CRows)) (c_Rows_order : Met P w K mg base 8 CRows "order" (spOrder CRows 6)) : Met P w K mg base 9 CRows "shape" (spShape CRows) := by
  refine met_of hC D sc_Rows_shape (fun _ _ _ _ _ _ us hl => match us, hl with | [_, _, _], _ => rfl) (fun vs H Q E h => ?_) (fun f cdv A outer s H vs Q E hr h => ?_)
  · obtain ⟨a, rfl, _⟩ := h
    rfl
  · have nd := sc_Rows_shape.nd
    have hu := hu_of hr
    have hu65 := hu65_of hr
    obtain ⟨⟨p, lr, dn, S, t, n⟩, rfl, R, ht, hc, hh, hlen, k⟩ := h
    dsimp only at R ht hc hh hlen k
    refine ⟨_, (pss_cons (ps_set (i := 3) nd rfl (by first | exact Or.inl rfl | exact Or.inr rfl) pe_dnewK)
      (pss_cons (ps_expr (pe_mt c_Rows_order hr (by omega) (pv 0) (pa_cons (pv 2) (pa_cons (pv 3) pa_nil))))
      (pss_cons (ps_dput hu (pv 3) pe_int pe_int rfl)
      (pss_cons (ps_dput hu (pv 3) pe_int pe_int rfl)
      (pss_cons (ps_set (i := 4) nd rfl (by first | exact Or.inl rfl | exact Or.inr rfl) (pe_lst pa_nil))
      (pss_cons (ps_lock (ps_for PassesOwn.never rfl (pi_keys (pv 3)) (pg_name (i := 5) nd rfl (by first | exact Or.inl rfl | exact Or.inr rfl))
      (pss_one (ps_if (pt_cmpR op_gt (pv 5) pe_int (nomark _)) (pss_one (ps_expr (pe_bm PySem.F.plainAttrs_list PySem.F.slot_list_append PySem.F.type_list_append mt_append (pv 4) (pa_cons (pe_callTy call_tuple_of (by rfl) B.tuple bt_tuple (pa_cons (pe_lc (own := [("quarter", 6)]) rfl nd (pi_tup (pe_mt c_Rows_quarters hr (by omega) (pv 0) (pa_cons (pv 5) pa_nil))) (blkOk_by (N := N_Rows_shape) (sc := defScope s_Rows_shape) (by decide +kernel)) (fun _ _ _ _ _ => (pg_name (i := 6) nd rfl (by first | exact Or.inl rfl | exact Or.inr rfl))) (fun _ _ _ _ _ => pts_nil) (fun _ _ _ _ _ => (pe_dget hu (pv 3) (pv 6) (fun _ _ => rfl)))) pa_nil)) pa_nil)))) pss_nil))))
      (pss_one (ps_ret (pe_tup (pa_cons (pv 1) (pa_cons (pe_dget hu (pv 3) (pv 2) (fun _ _ => rfl)) (pa_cons (pe_callTy call_tuple_of (by rfl) B.tuple bt_tuple (pa_cons (pv 4) pa_nil)) pa_nil)))))))))))), ?_⟩
    intro nd0 hnd0
    have s1 := same_new hnd0 (o := .dK [])
    have R1 := R.same s1
    obtain ⟨⟨dx, h1⟩, _⟩ := id R1
    have sP : St (post t []) := St.post t St.nil hc
    have hP : ∀ u ∈ post t [], Kn S u := fun u hu => (kn_post R.st t ht hu).elim (fun z => by cases z) id
    have kP := post_kn t []
    -- self.order(top, new)
    refine ⟨_, rfl, p, dx, _, rfl, h1, fR_no _ _ (by decide +kernel) (by decide +kernel), _, rfl, _, rfl, ⟨p, lr, dn, nd0, S, t, []⟩, rfl, R1, ht, hc, hh, upd_same, St.nil, (fun u hu => by cases hu), by show (post t []).length ≤ 50000; omega, fun H2 e2 x2 => ?_⟩
    dsimp only at e2 x2
    have R2 := R1.sxD upd_same x2
    generalize hPs : post t [] = Ps at *
    have x02 : Sx [nd0] H H2 := (sxS s1).trans x2
    -- new[0] = 0; new[1] = 1
    have v0 : valV (kvsO S 2 Ps) (Sum.inl 0) = none := by
      have := valV_O 2 Ps (t := .e) hP (.inl rfl) (T := S) []
      rw [List.append_nil, if_neg sP.notE] at this
      exact this
    have v1 : valV (kvsO S 2 Ps ++ [(Sum.inl 0, V.int 0)]) (Sum.inl 1) = none := by
      have := valV_O 2 Ps (t := .f) hP (.inr (.inl rfl)) (T := S) [(Sum.inl 0, V.int 0)]
      rw [if_neg sP.notF] at this
      exact this
    refine ⟨_, rfl, nd0, _, rfl, DPut.k (k := Sum.inl 0) e2 (szL (by rw [kvsO_len]; omega)), ?_⟩
    rw [putK_new _ v0]
    refine ⟨_, rfl, nd0, _, rfl, DPut.k (k := Sum.inl 1) upd_same (szL (by rw [List.length_append, kvsO_len]; show _ + 1 < _; omega)), ?_⟩
    rw [putK_new _ v1, upd_upd, List.append_assoc]
    have x03 : Sx [nd0] H (upd H2 nd0 (.dK (kvsS S Ps))) := x02.upd List.mem_cons_self
    have R3 : RowsAt CRows (upd H2 nd0 (.dK (kvsS S Ps))) p lr dn S := R2.sxD e2 ((Sx.refl _ _).upd List.mem_cons_self)
    have e3 : (upd H2 nd0 (.dK (kvsS S Ps))) nd0 = some (.dK (kvsS S Ps)) := upd_same
    show tSeq _ _ _ _ (upd H2 nd0 (.dK (kvsS S Ps)))
    generalize upd H2 nd0 (.dK (kvsS S Ps)) = H3 at *
    -- rows = []
    refine ⟨szl (by show 0 ≤ 1000000; decide), fun rl hrl => ?_⟩
    have s4 := same_new hrl (o := .lst [])
    have R4 := R3.same s4
    have e4 := s4 _ _ e3
    have l4 : (upd H3 rl (.lst [])) rl = some (.lst []) := upd_same
    have x04 : Sx [nd0] H (upd H3 rl (.lst [])) := x03.new hrl
    have hrl0 : H rl = none := by
      cases q : H rl with
      | none => rfl
      | some o =>
        have hne : rl ≠ nd0 := fun z => by rw [z] at hrl; rw [hrl] at e3; cases e3
        have := x03 rl o (by simp [hne]) q
        rw [hrl] at this
        cases this
    generalize upd H3 rl (.lst []) = H4 at *
    -- for number in new
    refine ⟨nd0, _, e4, trivial, fun od => ?_⟩
    have nrl : rl ≠ nd0 := ne_of l4 e4 (by intro z; cases z)
    obtain ⟨⟨dx4, o4⟩, ⟨as4, ls4, lp4⟩, dc4, _⟩ := id R4
    have n1 : p ≠ nd0 := ne_of o4 e4 (by intro z; cases z)
    have n2 : lr ≠ nd0 := ne_of ls4 e4 (by intro z; cases z)
    have n3 : dn ≠ nd0 := ne_of dc4 e4 (by intro z; cases z)
    have m1 : p ≠ rl := ne_of o4 l4 (by intro z; cases z)
    have m3 : dn ≠ rl := ne_of dc4 l4 (by intro z; cases z)
    have m2 : lr ≠ rl := fun z => by
      have : H lr ≠ none := by
        obtain ⟨_, ⟨as0, q0, _⟩, _⟩ := R
        rw [q0]
        exact fun z => by cases z
      rw [z] at this
      exact this hrl0
    have lk : (kvsS S Ps).length = Ps.length + 2 := by unfold kvsS; rw [List.length_append, kvsO_len]; rfl
    refine ⟨_, rfl, nd0, od, rfl, .inl ⟨_, upd_same, for_it (walk_keys (kvs := kvsS S Ps)) (fun i σ H5 => ∃ nv, σ = [some (.ref p), some (.int (n : Int)), some (.int (num S t : Nat)), some (.ref nd0), some (.ref rl), nv, none] ∧
      H5 nd0 = some (.frz od (.dK (kvsS S Ps))) ∧ (∃ as, H5 rl = some (.lst (as.map V.ref)) ∧ Paired (fun a r => H5 a = some (.tup (vR r))) as ((rowsOf Ps).take i)) ∧ Sx [nd0, rl] H4 H5)
      ⟨none, rfl, upd_same, ⟨[], by rw [upd_ne nrl]; exact l4, by rw [List.take_zero]; exact .nil⟩, (Sx.refl _ _).upd List.mem_cons_self⟩ ?_ ?_ ?_⟩⟩
    · rintro i σ H5 hi ⟨nv, rfl, f5, _⟩
      exact f5
    · rintro i x σ H5 H' hi ⟨nv, rfl, f5, ⟨as5, l5, p5⟩, x5⟩ ⟨rfl, key, v, hkv, rfl⟩
      have tn : ∀ c xs, H4 c = some (.tup xs) → c ∉ [nd0, rl] := fun c xs e => nin2 e e4 l4 (by intro z; cases z) (by intro z; cases z)
      by_cases hiP : i < Ps.length
      · -- a square
        have hti : Ps[i]? = some Ps[i] := List.getElem?_eq_getElem hiP
        have hkv2 := kvsO_get S 2 Ps i Ps[i] hti
        have hkv3 : (kvsS S Ps)[i]? = some (Sum.inl (num S Ps[i] : Int), V.int ((i + 2 : Nat) : Int)) := by
          unfold kvsS
          rw [List.getElem?_append_left (by rw [kvsO_len]; exact hiP)]
          exact hkv2
        rw [hkv3] at hkv
        cases hkv
        obtain ⟨a, b, c, d, et, hnp, ka, kb, kc, kd⟩ := sP.ch i _ hti
        have hKn : Kn S Ps[i] := hP _ (List.getElem_mem _)
        have hm : Ps[i] ∈ S := by rw [et] at hKn ⊢; exact kn_n.mp hKn
        obtain ⟨sa, sb, sc, sd, _⟩ := R.st.sub (by rw [← et]; exact hm)
        have hgt : (1 : Int) < ((num S Ps[i] : Nat) : Int) := by rw [et, num_n]; omega
        refine ⟨_, rfl, _, _, rfl, rfl, _, rfl, ite_d (fun _ => ?_) (fun z => absurd hgt z)⟩
        have R5 : RowsAt CRows H' p lr dn S := by
          obtain ⟨⟨dx, h1⟩, ⟨as, h2, h3⟩, h4, h5⟩ := id R4
          exact ⟨⟨dx, x5 _ _ (by simp [n1, m1]) h1⟩, ⟨as, x5 _ _ (by simp [n2, m2]) h2, tell_sx h3 x5 tn⟩, x5 _ _ (by simp [n3, m3]) h4, h5⟩
        obtain ⟨⟨dx5, o5⟩, _⟩ := id R5
        refine ⟨_, rfl, .inl ⟨rfl, _, .inl (.inl l5)⟩, _, rfl, p, dx5, _, rfl, o5, fR_no _ _ (by decide +kernel) (by decide +kernel), _, rfl, ⟨p, lr, dn, S, Ps[i]⟩, rfl, R5, a, b, c, d, et, hm, fun q hq => ?_⟩
        dsimp only at hq
        refine ⟨q, rfl, ⟨_, tupOf hq⟩, fun D hD => ?_⟩
        have hrow : rowOf S Ps[i] = [num S a, num S b, num S c, num S d] := by rw [et]; rfl
        rw [hrow] at hq
        have hpr : rowOf Ps Ps[i] = [num Ps a, num Ps b, num Ps c, num Ps d] := by rw [et]; rfl
        refine lc_map (walk_tup (xs := vR [num S a, num S b, num S c, num S d])) (fun j y _ => (vR (rowOf Ps Ps[i]))[j]? = some y) hD (fun H6 s6 => tupOf (s6 _ _ hq)) (szL (by show 4 < 1000000; decide)) (fun _ _ _ _ e _ _ => e) ?_ gName_mono ?_
        · rintro j y H6 H7 hj s6 _ ⟨rfl, hy⟩ Q' qq
          have f7 := s6 _ _ f5
          have go : ∃ u, Kn S u ∧ Kn Ps u ∧ y = .int (num S u : Nat) ∧ (vR (rowOf Ps Ps[i]))[j]? = some (.int (num Ps u : Nat)) := by
            rw [hpr]
            match j, hy with
            | 0, hy => exact ⟨a, sa, ka.of_take, (Option.some.inj hy).symm, rfl⟩
            | 1, hy => exact ⟨b, sb, kb.of_take, (Option.some.inj hy).symm, rfl⟩
            | 2, hy => exact ⟨c, sc, kc.of_take, (Option.some.inj hy).symm, rfl⟩
            | 3, hy => exact ⟨d, sd, kd.of_take, (Option.some.inj hy).symm, rfl⟩
          obtain ⟨u, su, pu, rfl, hu2⟩ := go
          exact ⟨rfl, _, rfl, _, rfl, nd0, _, rfl, .inl ⟨_, Sum.inl (num S u : Int), .inr ⟨od, f7⟩, rfl, (valV_S sP hP su pu).symm⟩, qq _ _ (Same.refl _) hu2⟩
        · intro ys H6 s6 hy py
          have hl4 : (vR [num S a, num S b, num S c, num S d]).length = (vR (rowOf Ps Ps[i])).length := by rw [hpr]; rfl
          rw [hl4] at py
          rw [eq_of_paired py] at hy
          refine ⟨D, _, rfl, .inl ⟨lstOf hy, fun l hl2 => ?_⟩⟩
          have s7 := sNew s6 hl2 (o := .tup (vR (rowOf Ps Ps[i])))
          have l7 := s7 _ _ l5
          refine ⟨rl, _, _, rfl, rfl, l7, szL (by rw [List.length_map, pr_len p5, List.length_take, rowsOf_len]; omega), ?_⟩
          have t7 : (upd H6 l (.tup (vR (rowOf Ps Ps[i])))) l = some (.tup (vR (rowOf Ps Ps[i]))) := upd_same
          refine ⟨some (kV (Sum.inl (num S Ps[i] : Int))), rfl, ?_, ⟨as5 ++ [l], ?_, ?_⟩, ?_⟩
          · rw [upd_ne (Ne.symm nrl)]
            exact s7 _ _ f5
          · rw [upd_same, List.map_append]
            rfl
          · have er : (rowsOf Ps).take (i + 1) = (rowsOf Ps).take i ++ [rowOf Ps Ps[i]] := by rw [List.take_add_one, rowsOf_get hti]; rfl
            rw [er]
            have up : ∀ cc r, (upd H6 l (.tup (vR (rowOf Ps Ps[i])))) cc = some (.tup (vR r)) → ∀ o, upd (upd H6 l (.tup (vR (rowOf Ps Ps[i])))) rl o cc = some (.tup (vR r)) := fun cc r e o => by
              rw [upd_ne (ne_of e l7 (by intro z; cases z))]
              exact e
            exact Paired.snoc (pr_imp p5 fun cc r _ _ e => up cc r (s7 _ _ e) _) (up l _ t7 _)
          · exact (x5.trans (sxS s7)).upd (List.mem_cons_of_mem _ List.mem_cons_self)
      · -- a plain one
        have hkey : ∃ m : Int, key = Sum.inl m ∧ ¬ (1 : Int) < m := by
          unfold kvsS at hkv
          rw [List.getElem?_append_right (by rw [kvsO_len]; omega), kvsO_len] at hkv
          rw [lk] at hi
          by_cases h0 : i - Ps.length = 0
          · rw [h0] at hkv
            cases hkv
            exact ⟨0, rfl, by omega⟩
          · have h1 : i - Ps.length = 1 := by omega
            rw [h1] at hkv
            cases hkv
            exact ⟨1, rfl, by omega⟩
        obtain ⟨m, rfl, hm⟩ := hkey
        refine ⟨_, rfl, _, _, rfl, rfl, _, rfl, ite_d (fun z => absurd z hm) (fun _ => ?_)⟩
        refine ⟨some (.int m), rfl, f5, ⟨as5, l5, ?_⟩, x5⟩
        rw [List.take_of_length_le (by rw [rowsOf_len]; omega)] at p5 ⊢
        exact p5
    · rintro σ H5 ⟨nv, rfl, f5, ⟨as5, l5, p5⟩, x5⟩
      refine ⟨f5, ?_⟩
      rw [lk, List.take_of_length_le (by rw [rowsOf_len]; omega)] at p5
      have tn5 : ∀ c xs, H5 c = some (.tup xs) → c ≠ nd0 := fun c xs e => ne_of e f5 (by intro z; cases z)
      have l6 : (upd H5 nd0 (.dK (kvsS S Ps))) rl = some (.lst (as5.map V.ref)) := by rw [upd_ne nrl]; exact l5
      have p6 : Paired (fun a r => (upd H5 nd0 (.dK (kvsS S Ps))) a = some (.tup (vR r))) as5 (rowsOf Ps) := pr_imp p5 fun c r _ _ e => by rw [upd_ne (tn5 _ _ e)]; exact e
      have d6 : (upd H5 nd0 (.dK (kvsS S Ps))) nd0 = some (.dK (kvsS S Ps)) := upd_same
      have s6 : Same H (upd H5 nd0 (.dK (kvsS S Ps))) := fun cc o e => by
        have c1 : cc ≠ nd0 := ne_of_none e hnd0
        have c2 : cc ≠ rl := ne_of_none e hrl0
        rw [upd_ne c1]
        exact x5 _ _ (by simp [c1, c2]) (x04 _ _ (by simp [c1]) e)
      generalize upd H5 nd0 (.dK (kvsS S Ps)) = H6 at *
      refine ⟨_, rfl, _, rfl, _, rfl, nd0, _, rfl, .inl ⟨_, Sum.inl (num S t : Int), .inl d6, rfl, (valV_S sP hP ht kP).symm⟩, ?_⟩
      refine ⟨_, rfl, rl, _, rfl, .inl ⟨lstOf l6, fun q hq => ?_⟩⟩
      refine ⟨szl (by show 3 ≤ 1000000; decide), fun tp htp => ?_⟩
      have s7 := sNew (sNew (Same.refl _) hq (o := .tup (as5.map V.ref))) htp (o := .tup [.int (n : Int), .int (num Ps t : Nat), .ref q])
      subst hPs
      refine k _ tp (s6.trans s7) ⟨q, upd_same, as5, ?_, pr_imp p6 fun c r _ _ e => s7 _ _ e⟩
      rw [upd_ne (fun z => by subst z; rw [upd_same] at htp; cases htp)]
      exact upd_same
structure ShA where
  tp : Addr
  n : Nat
  t : Qt
/-- a shape given, a shape told -/
def spOneOf : Sp := mkSp (fun x : ShA => [.ref x.tp]) fun x H Q => ShapeAt H x.tp x.n x.t ∧ Canon x.t ∧ x.t.ht ≤ 6 ∧ (post x.t []).length ≤ 40000 ∧ ∀ H' q, Same H H' → ShapeAt H' q x.n x.t → Q (.ref q) H'
theorem ok_one_of (B : Bl mg) (D : Dfn K mg "one_of" s_one_of) {CRows : Addr} (T : RT K CRows) (c_Rows___init__ : Mak P w K mg base 1 "Rows" CRows (spRowsInit CRows)) (c_Rows_take : Met P w K mg base 2 CRows "take" (spTake CRows)) (c_Rows_shape : Met P w K mg base 9 CRows "shape" (spShape CRows)) : Cal P w K mg base 10 "one_of" spOneOf := by
  refine cal_of D sc_one_of (fun _ _ _ _ _ _ us hl => match us, hl with | [_], _ => rfl) (fun vs H Q E h => ?_) (fun f cdv A outer s H vs Q E hr h => ?_)
  · obtain ⟨a, rfl, _⟩ := h
    rfl
  · have nd := sc_one_of.nd
    have hu := hu_of hr
    have hu65 := hu65_of hr
    obtain ⟨⟨tp, n, t⟩, rfl, Sh, hc, hh, hlen, k⟩ := h
    dsimp only at Sh hc hh hlen k
    refine ⟨_, (pss_cons (ps_set (i := 1) nd rfl (by first | exact Or.inl rfl | exact Or.inr rfl) (pe_mk0 c_Rows___init__ hr (by omega) rfl))
      (pss_cons (ps_set (i := 2) nd rfl (by first | exact Or.inl rfl | exact Or.inr rfl) (pe_mt c_Rows_take hr (by omega) (pv 1) (pa_cons (pv 0) pa_nil)))
      (pss_one (ps_ret (pe_mt c_Rows_shape hr (by omega) (pv 1) (pa_cons (pe_ix ix_tup (pv 0) pe_int (fun _ _ => rfl)) (pa_cons (pv 2) pa_nil))))))), ?_⟩
    intro x dx nx ndx nex
    refine ⟨x, rfl, ⟨dx, upd_same⟩, fun lr dn H1 hlr hdn R1 x1 => ⟨rfl, ?_⟩⟩
    have s0 : Same H (upd (upd H dx (.own x)) x (.ins CRows dx [])) := fun b o e => by
      rw [upd_ne (ne_of_none e nx), upd_ne (ne_of_none e ndx)]
      exact e
    have s1 : Same H H1 := Sx.same s0 x1 fun c hc => by rw [List.mem_singleton.mp hc]; exact nx
    have hlr0 : H lr = none := s0.free hlr
    have hdn0 : H dn = none := s0.free hdn
    have Sh1 := Sh.same s1
    refine ⟨_, rfl, x, (R1.ob).choose, _, rfl, (R1.ob).choose_spec, fR_no _ _ (by decide +kernel) (by decide +kernel), _, rfl, ⟨x, lr, dn, tp, n, t⟩, rfl, R1, Sh1, hc, (by show (post t []).length ≤ 50000; omega), fun H2 R2 x2 => ?_⟩
    dsimp only at R2 x2 ⊢
    have s2 : Same H H2 := Sx.same s1 x2 fun c hc => by
      simp only [List.mem_cons, List.not_mem_nil, or_false] at hc
      rcases hc with rfl | rfl
      · exact hlr0
      · exact hdn0
    obtain ⟨q, hp, _⟩ := Sh.same s2
    refine ⟨_, rfl, x, (R2.ob).choose, _, rfl, (R2.ob).choose_spec, fR_no _ _ (by decide +kernel) (by decide +kernel), _, rfl, tp, _, _, _, rfl, rfl, tupOf hp, rfl, _, rfl, ⟨x, lr, dn, post t [], t, n⟩, rfl, R2, post_kn t [], hc, hh, hlen, fun H3 q3 s3 Sh3 => k H3 q3 (s2.trans s3) Sh3⟩
end
end Qf
namespace Qf
open PySem PySem.Spec PyProof.Rows L2
def spIsNumber : Sp := mkSp (fun x : Int × Int => [.int x.1, .int x.2]) fun x H Q => 0 ≤ x.1 ∧ x.1 < x.2 ∧ Q (.bl true) H
def spIsRow : Sp := mkSp (fun x : Addr × Nat × Row => [.ref x.1, .int (x.2.1 : Int)]) fun x H Q => H x.1 = some (.tup (vR x.2.2)) ∧ x.2.2.length = 4 ∧ (∀ m ∈ x.2.2, m < x.2.1 + 2) ∧ ∀ H', Same H H' → Q (.bl true) H'
/-- depths of the plain ones and of the squares of T -/
def dpL (T : List Qt) : List Int := 0 :: 0 :: T.map fun t => (t.ht : Int)
def lvL (T : List Qt) : List Int := 1 :: 1 :: T.map fun t => (t.lvs : Int)
theorem dpL_get {T : List Qt} {x : Qt} (h : Kn T x) : ((dpL T).map V.int)[num T x]? = some (.int (x.ht : Int)) := by
  cases x with
  | e => rfl
  | f => rfl
  | n a b c d =>
    have hi := List.idxOf_lt_length_of_mem (kn_n.mp h)
    rw [num_n]
    show ((T.map fun t => (t.ht : Int)).map V.int)[T.idxOf (.n a b c d)]? = _
    rw [List.getElem?_map, List.getElem?_map, List.getElem?_eq_getElem hi, List.getElem_idxOf]
    rfl
theorem lvL_get {T : List Qt} {x : Qt} (h : Kn T x) : ((lvL T).map V.int)[num T x]? = some (.int (x.lvs : Int)) := by
  cases x with
  | e => rfl
  | f => rfl
  | n a b c d =>
    have hi := List.idxOf_lt_length_of_mem (kn_n.mp h)
    rw [num_n]
    show ((T.map fun t => (t.lvs : Int)).map V.int)[T.idxOf (.n a b c d)]? = _
    rw [List.getElem?_map, List.getElem?_map, List.getElem?_eq_getElem hi, List.getElem_idxOf]
    rfl
/-- a store's rows told -/
def spRowsL (f : List Qt → List Int) : Sp := mkSp (fun x : Addr × List Qt => [.ref x.1]) fun x H Q => TellAt H x.1 (rowsOf x.2) ∧ St x.2 ∧ x.2.length ≤ 50000 ∧ ∀ H' p, Same H H' → H' p = some (.lst ((f x.2).map V.int)) → Q (.ref p) H'
def spManyIn : Sp := mkSp (fun x : ShA => [.ref x.tp]) fun x H Q => ShapeAt H x.tp x.n x.t ∧ Canon x.t ∧ (post x.t []).length ≤ 50000 ∧ ∀ H', Same H H' → Q (.int (x.t.lvs : Int)) H'
/-- the row of a square of a store, its quarters -/
theorem row_at {T : List Qt} (s : St T) {i : Nat} {r : Row} (h : (rowsOf T)[i]? = some r) : ∃ a b c d, T[i]? = some (.n a b c d) ∧ Kn (T.take i) a ∧ Kn (T.take i) b ∧ Kn (T.take i) c ∧ Kn (T.take i) d ∧
    r = [num (T.take i) a, num (T.take i) b, num (T.take i) c, num (T.take i) d] := by
  unfold rowsOf at h
  rw [List.getElem?_map] at h
  cases e : T[i]? with
  | none => rw [e] at h; cases h
  | some t =>
    rw [e] at h
    obtain ⟨a, b, c, d, et, _, ka, kb, kc, kd⟩ := s.ch i t e
    subst et
    refine ⟨a, b, c, d, rfl, ka, kb, kc, kd, (Option.some.inj h).symm.trans ?_⟩
    show [num T a, num T b, num T c, num T d] = _
    rw [num_take ka, num_take kb, num_take kc, num_take kd]
theorem ints_of {xs : List V} {ns : List Int} (h : Paired (fun (j : Nat) y => (ns.map V.int)[j]? = some y) (List.range ns.length) xs) : xs = ns.map V.int := by
  have : ns.length = (ns.map V.int).length := (List.length_map ..).symm
  rw [this] at h
  exact eq_of_paired h
section
variable {P : Program} {w : World} {K : PySem.W.Frag} {mg : Str → Option Value} {base : Heap}
theorem ok_is_number (B : Bl mg) (D : Dfn K mg "is_number" s_is_number) (c_is_whole : Cal P w K mg base 1 "is_whole" spWhole) : Cal P w K mg base 2 "is_number" spIsNumber := by
  refine cal_of D sc_is_number (fun _ _ _ _ _ _ us hl => match us, hl with | [_, _], _ => rfl) (fun vs H Q E h => ?_) (fun f cdv A outer s H vs Q E hr h => ?_)
  · obtain ⟨a, rfl, _⟩ := h
    rfl
  · have nd := sc_is_number.nd
    have hu := hu_of hr
    have hu65 := hu65_of hr
    obtain ⟨⟨i, m⟩, rfl, h0, h1, k⟩ := h
    refine ⟨_, (pss_one (ps_ret (pe_and (pe_c c_is_whole hr (by omega) rfl (pa_cons (pv 0) pa_nil)) (pe_one (pe_chain op_le op_lt pe_int (pv 0) (pv 1)))))), ?_⟩
    refine ⟨_, rfl, i, rfl, _, rfl, iteT ⟨_, rfl, _, _, rfl, rfl, _, rfl, ite_d (fun _ => ⟨_, rfl, _, _, rfl, rfl, ?_⟩) fun h => absurd h0 h⟩⟩
    exact qbl (decide_eq_true h1) k
theorem ok_is_row (B : Bl mg) (D : Dfn K mg "is_row" s_is_row) (c_is_number : Cal P w K mg base 2 "is_number" spIsNumber) : Cal P w K mg base 3 "is_row" spIsRow := by
  refine cal_of D sc_is_row (fun _ _ _ _ _ _ us hl => match us, hl with | [_, _], _ => rfl) (fun vs H Q E h => ?_) (fun f cdv A outer s H vs Q E hr h => ?_)
  · obtain ⟨a, rfl, _⟩ := h
    rfl
  · have nd := sc_is_row.nd
    have hu := hu_of hr
    have hu65 := hu65_of hr
    obtain ⟨⟨a, pl, r⟩, rfl, ha, h4, hr2, k⟩ := h
    dsimp only at ha h4 hr2 k
    refine ⟨_, (pss_one (ps_ret (pe_and (pe_callB call_isi (by rfl) B.isinstance bt_isinstance (pa_cons (pv 0) (pa_cons (pe_bltn (v := .ty "tuple") (u := .type "tuple") (by rfl) B.tuple bt_tuple rfl) pa_nil))) (pe_and (pe_cmpR op_eq (pe_callB call_len_seq (by rfl) B.len bt_len (pa_cons (pv 0) pa_nil)) pe_int (nomark _)) (pe_one (pe_callB (cr_all rfl) (by rfl) B.all bt_all (pa_cons (pe_lc (own := [("one", 2)]) rfl nd (pi_tup (pv 0)) (blkOk_by (N := N_is_row) (sc := defScope s_is_row) (by decide +kernel)) (fun _ _ _ _ _ => (pg_name (i := 2) nd rfl (by first | exact Or.inl rfl | exact Or.inr rfl))) (fun _ _ _ _ _ => pts_nil) (fun _ _ _ _ _ => (pe_c c_is_number hr (by omega) rfl (pa_cons (pv 2) (pa_cons (pe_op op_add (pv 1) pe_int) pa_nil))))) pa_nil))))))), ?_⟩
    refine ⟨_, rfl, _, _, _, _, true, rfl, .ty _, .base (.tup ha), kit_ty (by decide +kernel), true, rfl, iteT ?_⟩
    refine ⟨_, rfl, a, _, rfl, .inr (tupOf ha), rfl, _, rfl, ?_⟩
    have e4 : decide (V.int ((vR r).length : Int) = V.int 4) = true := by rw [vR_len, h4]; exact decide_eq_true rfl
    rw [e4]
    refine iteT ⟨_, rfl, a, rfl, ⟨_, tupOf ha⟩, fun D hD => lc_map (walk_tup (xs := vR r)) (fun j y _ => y = .bl true) hD (fun H6 s6 => tupOf (s6 _ _ ha)) (by rw [vR_len, h4]; exact szL (by decide)) (fun _ _ _ _ e _ _ => e) ?_ gName_mono ?_⟩
    · rintro j y H6 H7 hj s6 _ ⟨rfl, hy⟩ Q' qq
      obtain ⟨m, hm, rfl⟩ := vR_get hy
      refine ⟨rfl, _, rfl, _, rfl, _, _, rfl, rfl, ⟨(m : Int), (pl : Int) + 2⟩, rfl, Int.natCast_nonneg _, ?_, qq _ _ (Same.refl _) rfl⟩
      have := hr2 m (List.mem_of_getElem? hm)
      show (m : Int) < (pl : Int) + 2
      omega
    · intro ys H6 s6 hy py
      rw [paired_eq (f := fun _ => V.bl true) py] at hy
      exact ⟨D, (List.range (vR r).length).map fun _ => true, rfl, lstOf (by rw [hy, List.map_map]; rfl), qbl (all_map_true fun _ _ => rfl) (k _ s6)⟩
theorem ok_depths_of (B : Bl mg) (D : Dfn K mg "depths_of" s_depths_of)  : Cal P w K mg base 1 "depths_of" (spRowsL dpL) := by
  refine cal_of D sc_depths_of (fun _ _ _ _ _ _ us hl => match us, hl with | [_], _ => rfl) (fun vs H Q E h => ?_) (fun f cdv A outer s H vs Q E hr h => ?_)
  · obtain ⟨a, rfl, _⟩ := h
    rfl
  · have nd := sc_depths_of.nd
    have hu := hu_of hr
    have hu65 := hu65_of hr
    obtain ⟨⟨q, Ts⟩, rfl, ⟨as, hq, hrows⟩, sT, hl, k⟩ := h
    dsimp only at hq hrows sT hl k
    refine ⟨_, (pss_cons (ps_set (i := 1) nd rfl (by first | exact Or.inl rfl | exact Or.inr rfl) (pe_lst (pa_cons pe_int (pa_cons pe_int pa_nil))))
      (pss_cons (ps_for PassesOwn.never rfl (pi_tup (pv 0)) (pg_name (i := 2) nd rfl (by first | exact Or.inl rfl | exact Or.inr rfl))
      (pss_one (ps_expr (pe_bm PySem.F.plainAttrs_list PySem.F.slot_list_append PySem.F.type_list_append mt_append (pv 1) (pa_cons (pe_op op_add pe_int (pe_callB (cr_max rfl) (by rfl) B.max bt_max (pa_cons (pe_lc (own := [("number", 3)]) rfl nd (pi_tup (pv 2)) (blkOk_by (N := N_depths_of) (sc := defScope s_depths_of) (by decide +kernel)) (fun _ _ _ _ _ => (pg_name (i := 3) nd rfl (by first | exact Or.inl rfl | exact Or.inr rfl))) (fun _ _ _ _ _ => pts_nil) (fun _ _ _ _ _ => (pe_ix (ix_listK (K := K)) (pv 1) (pv 3) (fun _ _ => rfl)))) pa_nil))) pa_nil)))))
      (pss_one (ps_ret (pv 1))))), ?_⟩
    have hlen : as.length = Ts.length := (pr_len hrows).trans (rowsOf_len Ts)
    refine ⟨szl (by show 2 ≤ 1000000; decide), fun fl hfl => ?_⟩
    have s1 := same_new hfl (o := .lst [.int 0, .int 0])
    refine ⟨_, rfl, q, rfl, ⟨_, tupOf (s1 _ _ hq)⟩, for_it (walk_tup (xs := as.map V.ref)) (fun i σ H2 => ∃ row, σ = [some (.ref q), some (.ref fl), row, none] ∧ H2 fl = some (.lst ((dpL (Ts.take i)).map V.int)) ∧ Same H H2) ⟨none, rfl, upd_same, s1⟩ ?_ ?_ ?_⟩
    · rintro i σ H2 hi ⟨row, rfl, e2, s2⟩
      exact tupOf (s2 _ _ hq)
    · rintro i x σ H2 H' hi ⟨row, rfl, e2, s2⟩ ⟨rfl, hx⟩
      rw [List.length_map] at hi
      have ha : as[i]? = some as[i] := List.getElem?_eq_getElem hi
      rw [List.getElem?_map, ha] at hx
      obtain rfl : x = V.ref as[i] := (Option.some.inj hx).symm
      obtain ⟨r, hr1, er⟩ := pr_get hrows ha
      obtain ⟨a, b, c, d, et, ka, kb, kc, kd, rfl⟩ := row_at sT hr1
      have er2 := s2 _ _ er
      refine ⟨_, rfl, .inl ⟨rfl, _, .inl (.inl e2)⟩, ?_⟩
      refine ⟨_, rfl, as[i], rfl, ⟨_, tupOf er2⟩, fun D hD => ?_⟩
      have go : ∀ {j : Nat} {y : V}, (vR [num (Ts.take i) a, num (Ts.take i) b, num (Ts.take i) c, num (Ts.take i) d])[j]? = some y → ∃ u, Kn (Ts.take i) u ∧ y = .int (num (Ts.take i) u : Nat) ∧ ([(a.ht : Int), b.ht, c.ht, d.ht].map V.int)[j]? = some (.int (u.ht : Int)) := by
        intro j y hy
        match j, hy with
        | 0, hy => exact ⟨a, ka, (Option.some.inj hy).symm, rfl⟩
        | 1, hy => exact ⟨b, kb, (Option.some.inj hy).symm, rfl⟩
        | 2, hy => exact ⟨c, kc, (Option.some.inj hy).symm, rfl⟩
        | 3, hy => exact ⟨d, kd, (Option.some.inj hy).symm, rfl⟩
      refine lc_map (walk_tup (xs := vR [num (Ts.take i) a, num (Ts.take i) b, num (Ts.take i) c, num (Ts.take i) d])) (fun j y _ => ([(a.ht : Int), b.ht, c.ht, d.ht].map V.int)[j]? = some y) hD (fun H6 s6 => tupOf (s6 _ _ er2)) (szL (by show 4 < 1000000; decide)) (fun _ _ _ _ e _ _ => e) ?_ gName_mono ?_
      · rintro j y H6 H7 hj s6 _ ⟨rfl, hy⟩ Q' qq
        obtain ⟨u, ku, rfl, hu2⟩ := go hy
        exact ⟨rfl, _, rfl, _, rfl, fl, _, _, _, rfl, rfl, lstOf (s6 _ _ e2), at_of rfl (dpL_get ku), qq _ _ (Same.refl _) hu2⟩
      · intro ys H6 s6 hy py
        rw [ints_of (ns := [(a.ht : Int), b.ht, c.ht, d.ht]) py] at hy
        refine ⟨D, [(a.ht : Int), b.ht, c.ht, d.ht], rfl, lstOf hy, Nat.zero_lt_succ _, fun m hm hle => ?_⟩
        have hm2 : 1 + m = ((Qt.n a b c d).ht : Int) := by
          show 1 + m = ((max (max a.ht b.ht) (max c.ht d.ht) + 1 : Nat) : Int)
          have h1 := hle (a.ht : Int) (by simp)
          have h2 := hle (b.ht : Int) (by simp)
          have h3 := hle (c.ht : Int) (by simp)
          have h4 := hle (d.ht : Int) (by simp)
          simp only [List.mem_cons, List.not_mem_nil, or_false] at hm
          omega
        refine ⟨_, _, rfl, rfl, ?_⟩
        have f6 := s6 _ _ e2
        refine ⟨fl, _, _, rfl, rfl, f6, szL (by simp [dpL]; omega), some (V.ref as[i]), rfl, ?_, ?_⟩
        · rw [upd_same]
          show some (HO.lst (_ ++ [V.int (1 + m)])) = _
          rw [hm2]
          have : Ts.take (i + 1) = Ts.take i ++ [.n a b c d] := by rw [List.take_add_one, et]; rfl
          rw [this]
          simp [dpL]
        · exact fun cc o e => by
            rw [upd_ne (ne_of_none e hfl)]
            exact s6 _ _ (s2 _ _ e)
    · rintro σ H2 ⟨row, rfl, e2, s2⟩
      rw [List.length_map, hlen, List.take_length] at e2
      exact ⟨_, rfl, k H2 fl s2 e2⟩
theorem ok_many_in (B : Bl mg) (D : Dfn K mg "many_in" s_many_in)  : Cal P w K mg base 1 "many_in" spManyIn := by
  refine cal_of D sc_many_in (fun _ _ _ _ _ _ us hl => match us, hl with | [_], _ => rfl) (fun vs H Q E h => ?_) (fun f cdv A outer s H vs Q E hr h => ?_)
  · obtain ⟨a, rfl, _⟩ := h
    rfl
  · have nd := sc_many_in.nd
    have hu := hu_of hr
    have hu65 := hu65_of hr
    obtain ⟨⟨tp, n, t⟩, rfl, ⟨q, hp, as, hq, hrows⟩, hcan, hl, k⟩ := h
    dsimp only at hp hq hrows hcan hl k
    have sT : St (post t []) := St.post t St.nil hcan
    have kT := post_kn t []
    generalize post t [] = Ts at *
    refine ⟨_, (pss_cons (ps_asg (pv 0) (pg_tup rfl (pgs_cons (pg_name (i := 1) nd rfl (by first | exact Or.inl rfl | exact Or.inr rfl)) (pgs_cons (pg_name (i := 2) nd rfl (by first | exact Or.inl rfl | exact Or.inr rfl)) (pgs_cons (pg_name (i := 3) nd rfl (by first | exact Or.inl rfl | exact Or.inr rfl)) pgs_nil)))))
      (pss_cons (ps_set (i := 4) nd rfl (by first | exact Or.inl rfl | exact Or.inr rfl) (pe_lst (pa_cons pe_int (pa_cons pe_int pa_nil))))
      (pss_cons (ps_for PassesOwn.never rfl (pi_tup (pv 3)) (pg_name (i := 5) nd rfl (by first | exact Or.inl rfl | exact Or.inr rfl))
      (pss_one (ps_expr (pe_bm PySem.F.plainAttrs_list PySem.F.slot_list_append PySem.F.type_list_append mt_append (pv 4) (pa_cons (pe_callB (cr_sum rfl) (by rfl) B.sum bt_sum (pa_cons (pe_lc (own := [("number", 6)]) rfl nd (pi_tup (pv 5)) (blkOk_by (N := N_many_in) (sc := defScope s_many_in) (by decide +kernel)) (fun _ _ _ _ _ => (pg_name (i := 6) nd rfl (by first | exact Or.inl rfl | exact Or.inr rfl))) (fun _ _ _ _ _ => pts_nil) (fun _ _ _ _ _ => (pe_ix (ix_listK (K := K)) (pv 4) (pv 6) (fun _ _ => rfl)))) pa_nil)) pa_nil)))))
      (pss_one (ps_ret (pe_ix ix_list (pv 4) (pv 2) (fun _ _ => rfl))))))), ?_⟩
    have hlen : as.length = Ts.length := (pr_len hrows).trans (rowsOf_len Ts)
    refine ⟨_, rfl, tp, _, rfl, tupOf hp, rfl, _, _, rfl, _, _, rfl, _, _, rfl, rfl, ?_⟩
    refine ⟨szl (by show 2 ≤ 1000000; decide), fun fl hfl => ?_⟩
    have s1 := same_new hfl (o := .lst [.int 1, .int 1])
    refine ⟨_, rfl, q, rfl, ⟨_, tupOf (s1 _ _ hq)⟩, for_it (walk_tup (xs := as.map V.ref)) (fun i σ H2 => ∃ row, σ = [some (.ref tp), some (.int (n : Int)), some (.int (num Ts t : Nat)), some (.ref q), some (.ref fl), row, none] ∧ H2 fl = some (.lst ((lvL (Ts.take i)).map V.int)) ∧ Same H H2) ⟨none, rfl, upd_same, s1⟩ ?_ ?_ ?_⟩
    · rintro i σ H2 hi ⟨row, rfl, e2, s2⟩
      exact tupOf (s2 _ _ hq)
    · rintro i x σ H2 H' hi ⟨row, rfl, e2, s2⟩ ⟨rfl, hx⟩
      rw [List.length_map] at hi
      have ha : as[i]? = some as[i] := List.getElem?_eq_getElem hi
      rw [List.getElem?_map, ha] at hx
      obtain rfl : x = V.ref as[i] := (Option.some.inj hx).symm
      obtain ⟨r, hr1, er⟩ := pr_get hrows ha
      obtain ⟨a, b, c, d, et, ka, kb, kc, kd, rfl⟩ := row_at sT hr1
      have er2 := s2 _ _ er
      refine ⟨_, rfl, .inl ⟨rfl, _, .inl (.inl e2)⟩, ?_⟩
      refine ⟨_, rfl, as[i], rfl, ⟨_, tupOf er2⟩, fun D hD => ?_⟩
      have go : ∀ {j : Nat} {y : V}, (vR [num (Ts.take i) a, num (Ts.take i) b, num (Ts.take i) c, num (Ts.take i) d])[j]? = some y → ∃ u, Kn (Ts.take i) u ∧ y = .int (num (Ts.take i) u : Nat) ∧ ([(a.lvs : Int), b.lvs, c.lvs, d.lvs].map V.int)[j]? = some (.int (u.lvs : Int)) := by
        intro j y hy
        match j, hy with
        | 0, hy => exact ⟨a, ka, (Option.some.inj hy).symm, rfl⟩
        | 1, hy => exact ⟨b, kb, (Option.some.inj hy).symm, rfl⟩
        | 2, hy => exact ⟨c, kc, (Option.some.inj hy).symm, rfl⟩
        | 3, hy => exact ⟨d, kd, (Option.some.inj hy).symm, rfl⟩
      refine lc_map (walk_tup (xs := vR [num (Ts.take i) a, num (Ts.take i) b, num (Ts.take i) c, num (Ts.take i) d])) (fun j y _ => ([(a.lvs : Int), b.lvs, c.lvs, d.lvs].map V.int)[j]? = some y) hD (fun H6 s6 => tupOf (s6 _ _ er2)) (szL (by show 4 < 1000000; decide)) (fun _ _ _ _ e _ _ => e) ?_ gName_mono ?_
      · rintro j y H6 H7 hj s6 _ ⟨rfl, hy⟩ Q' qq
        obtain ⟨u, ku, rfl, hu2⟩ := go hy
        exact ⟨rfl, _, rfl, _, rfl, fl, _, _, _, rfl, rfl, lstOf (s6 _ _ e2), at_of rfl (lvL_get ku), qq _ _ (Same.refl _) hu2⟩
      · intro ys H6 s6 hy py
        rw [ints_of (ns := [(a.lvs : Int), b.lvs, c.lvs, d.lvs]) py] at hy
        refine ⟨D, [(a.lvs : Int), b.lvs, c.lvs, d.lvs], rfl, lstOf hy, ?_⟩
        have hm2 : ([(a.lvs : Int), b.lvs, c.lvs, d.lvs] : List Int).sum = ((Qt.n a b c d).lvs : Int) := by
          show (a.lvs : Int) + (b.lvs + (c.lvs + (d.lvs + 0))) = ((a.lvs + b.lvs + c.lvs + d.lvs : Nat) : Int)
          omega
        have f6 := s6 _ _ e2
        refine ⟨fl, _, _, rfl, rfl, f6, szL (by simp [lvL]; omega), some (V.ref as[i]), rfl, ?_, ?_⟩
        · rw [upd_same]
          show some (HO.lst (_ ++ [V.int (List.sum _)])) = _
          rw [hm2]
          have : Ts.take (i + 1) = Ts.take i ++ [.n a b c d] := by rw [List.take_add_one, et]; rfl
          rw [this]
          simp [lvL]
        · exact fun cc o e => by
            rw [upd_ne (ne_of_none e hfl)]
            exact s6 _ _ (s2 _ _ e)
    · rintro σ H2 ⟨row, rfl, e2, s2⟩
      rw [List.length_map, hlen, List.take_length] at e2
      exact ⟨_, rfl, _, rfl, fl, _, _, _, rfl, rfl, lstOf e2, at_of rfl (lvL_get kT), k H2 s2⟩
end
end Qf
namespace Qf
open PySem PySem.Spec PyProof.Rows L2
def spWantCoarse : Sp := mkSp (fun x : ShA => [.ref x.tp]) fun x H Q => ShapeAt H x.tp x.n x.t ∧ Fit x.n x.t ∧ x.t.lvs ≤ 2000 ∧ ∀ H', Same H H' → Q .non H'
def spIsTelling : Sp := mkSp (fun x : ShA => [.ref x.tp]) fun x H Q => ShapeAt H x.tp x.n x.t ∧ Fit x.n x.t ∧ ∀ H', Same H H' → Q (.bl true) H'
def spWantShape : Sp := mkSp (fun x : ShA => [.ref x.tp]) fun x H Q => ShapeAt H x.tp x.n x.t ∧ Fit x.n x.t ∧ ∀ H', Same H H' → Q .non H'
/-- a shape as data -/
def shD (n : Nat) (t : Qt) : PyData := .tuple [.int (n : Int), .int (num (post t []) t : Nat), .tuple ((rowsOf (post t [])).map rD)]
theorem dp_rows {K : PySem.W.Frag} {H : Hp} {as : List Addr} {R : List Row} (h : Paired (fun a r => H a = some (.tup (vR r))) as R) : DpAll K H (as.map V.ref) (R.map rD) :=
  dpAll_of (pr_map_left (f := V.ref) (pr_imp h fun a r _ _ e => dp_row e))
theorem dp_shape {K : PySem.W.Frag} {H : Hp} {p : Addr} {n : Nat} {t : Qt} (h : ShapeAt H p n t) : Dp K H (.ref p) (shD n t) := by
  obtain ⟨q, h1, as, h2, h3⟩ := h
  exact .tup (tupOf h1) (.cons (.int _) (.cons (.int _) (.cons (.tup (tupOf h2) (dp_rows h3)) .nil)))
theorem shD_lay (n : Nat) (t : Qt) : (shD n t).canLay0 = true := by
  have := rDs_lay (rowsOf (post t []))
  simp [shD, PyData.canLay0, PyData.canLayAll0, this]
theorem shD_depth (n : Nat) (t : Qt) : (shD n t).depth ≤ 3 := by
  have := rDs_depth (rowsOf (post t []))
  simp only [shD, PyData.depth, PyData.depthAll]
  omega
theorem shD_shaped (n : Nat) (t : Qt) : SeqAt.shaped (shD n t) = true := by
  unfold SeqAt.shaped
  have := shD_depth n t
  rw [shD_lay]
  simp
  omega
theorem shD_eqv (n : Nat) (t : Qt) : PyData.eqv (shD n t) (shD n t) = true := SeqAt.eqv_refl _ (shD_lay n t)
section
variable {P : Program} {w : World} {K : PySem.W.Frag} {mg : Str → Option Value} {base : Heap}
theorem ok_want_coarse (B : Bl mg) (D : Dfn K mg "want_coarse" s_want_coarse) (c_many_in : Cal P w K mg base 1 "many_in" spManyIn) : Cal P w K mg base 2 "want_coarse" spWantCoarse := by
  refine cal_of D sc_want_coarse (fun _ _ _ _ _ _ us hl => match us, hl with | [_], _ => rfl) (fun vs H Q E h => ?_) (fun f cdv A outer s H vs Q E hr h => ?_)
  · obtain ⟨a, rfl, _⟩ := h
    rfl
  · have nd := sc_want_coarse.nd
    have hu := hu_of hr
    have hu65 := hu65_of hr
    obtain ⟨⟨tp, n, t⟩, rfl, Sh, F, hl, k⟩ := h
    dsimp only at Sh F hl k
    refine ⟨_, (pss_one (ps_if (pt_cmpR op_gt (pe_c c_many_in hr (by omega) rfl (pa_cons (pv 0) pa_nil)) (C8.pe_gc rfl B.cMOST_LEAVES) (nomark _)) (pss_one ps_never) pss_nil)), ?_⟩
    have hlen := F.len
    refine ⟨_, rfl, ⟨tp, n, t⟩, rfl, Sh, F.can, (by show (post t []).length ≤ 50000; omega), fun H1 s1 => ?_⟩
    refine ⟨_, _, rfl, rfl, _, rfl, ite_d (fun z => ?_) (fun _ => k H1 s1)⟩
    have z : (2000 : Int) < (t.lvs : Int) := z
    omega
theorem ok_is_telling (B : Bl mg) (D : Dfn K mg "is_telling" s_is_telling) (c_is_size : Cal P w K mg base 2 "is_size" spSize) (c_is_row : Cal P w K mg base 3 "is_row" spIsRow) (c_is_number : Cal P w K mg base 2 "is_number" spIsNumber) (c_depths_of : Cal P w K mg base 1 "depths_of" (spRowsL dpL)) : Cal P w K mg base 4 "is_telling" spIsTelling := by
  refine cal_of D sc_is_telling (fun _ _ _ _ _ _ us hl => match us, hl with | [_], _ => rfl) (fun vs H Q E h => ?_) (fun f cdv A outer s H vs Q E hr h => ?_)
  · obtain ⟨a, rfl, _⟩ := h
    rfl
  · have nd := sc_is_telling.nd
    have hu := hu_of hr
    have hu65 := hu65_of hr
    obtain ⟨⟨tp, n, t⟩, rfl, ⟨q, hp, as, hq, hrows⟩, F, k⟩ := h
    dsimp only at hp hq hrows F k
    refine ⟨_, (pss_cons (ps_if (PW.pt (pw_or (pt_not (pt_val (pe_callB call_isi (by rfl) B.isinstance bt_isinstance (pa_cons (pv 0) (pa_cons (pe_bltn (v := .ty "tuple") (u := .type "tuple") (by rfl) B.tuple bt_tuple rfl) pa_nil))))) (pw_or (pt_cmpR op_ne (pe_callB call_len_seq (by rfl) B.len bt_len (pa_cons (pv 0) pa_nil)) pe_int (nomark _)) (pw_or (pt_not (pt_val (pe_c c_is_size hr (by omega) rfl (pa_cons (pe_ix ix_tup (pv 0) pe_int (fun _ _ => rfl)) pa_nil)))) (pw_or1 (pt_not (pt_val (pe_callB call_isi (by rfl) B.isinstance bt_isinstance (pa_cons (pe_ix ix_tup (pv 0) pe_int (fun _ _ => rfl)) (pa_cons (pe_bltn (v := .ty "tuple") (u := .type "tuple") (by rfl) B.tuple bt_tuple rfl) pa_nil)))))))))) (pss_one (ps_ret pe_bl)) pss_nil)
      (pss_cons (ps_asg (pv 0) (pg_tup rfl (pgs_cons (pg_name (i := 1) nd rfl (by first | exact Or.inl rfl | exact Or.inr rfl)) (pgs_cons (pg_name (i := 2) nd rfl (by first | exact Or.inl rfl | exact Or.inr rfl)) (pgs_cons (pg_name (i := 3) nd rfl (by first | exact Or.inl rfl | exact Or.inr rfl)) pgs_nil)))))
      (pss_cons (ps_if (PW.pt (pw_or (pt_not (pt_val (pe_callB (cr_all rfl) (by rfl) B.all bt_all (pa_cons (pe_lc (own := [("place", 4), ("row", 5)]) rfl nd (pi_enumT rfl B.enumerate (pa_cons (pv 3) pa_nil)) (blkOk_by (N := N_is_telling) (sc := defScope s_is_telling) (by decide +kernel)) (fun _ _ _ _ _ => (pg_tupK (K := K) (n := 2) rfl (pgs_cons (pg_name (i := 4) nd rfl (by first | exact Or.inl rfl | exact Or.inr rfl)) (pgs_cons (pg_name (i := 5) nd rfl (by first | exact Or.inl rfl | exact Or.inr rfl)) pgs_nil)))) (fun _ _ _ _ _ => pts_nil) (fun _ _ _ _ _ => (pe_c c_is_row hr (by omega) rfl (pa_cons (pv 5) (pa_cons (pv 4) pa_nil))))) pa_nil)))) (pw_or1 (pt_not (pt_val (pe_c c_is_number hr (by omega) rfl (pa_cons (pv 2) (pa_cons (pe_op op_add (pe_callB call_len_seq (by rfl) B.len bt_len (pa_cons (pv 3) pa_nil)) pe_int) pa_nil)))))))) (pss_one (ps_ret pe_bl)) pss_nil)
      (pss_one (ps_ret (pe_cmpR op_le (pe_ix ix_list (pe_c c_depths_of hr (by omega) rfl (pa_cons (pv 3) pa_nil)) (pv 2) (fun _ _ => rfl)) (pv 1) (nomark _))))))), ?_⟩
    obtain ⟨n6, hcan, hht, hlen⟩ := F
    have sT : St (post t []) := St.post t St.nil hcan
    have kT := post_kn t []
    generalize post t [] = Ts at *
    refine ⟨_, rfl, _, _, _, _, true, rfl, .ty _, .base (.tup hp), kit_ty (by decide +kernel), true, rfl, iteF ?_⟩
    refine ⟨_, rfl, tp, _, rfl, .inr (tupOf hp), rfl, _, rfl, iteF ?_⟩
    refine ⟨_, rfl, tp, _, _, _, rfl, rfl, tupOf hp, rfl, (n : Int), rfl, Int.natCast_nonneg _, by omega, _, rfl, iteF ?_⟩
    refine ⟨_, rfl, tp, _, _, _, rfl, rfl, tupOf hp, rfl, _, _, _, _, true, rfl, .ty _, .base (.tup hq), kit_ty (by decide +kernel), true, rfl, iteF ?_⟩
    refine ⟨_, rfl, tp, _, rfl, tupOf hp, rfl, _, _, rfl, _, _, rfl, _, _, rfl, rfl, ?_⟩
    refine ⟨_, rfl, q, _, rfl, tupOf hq, fun D hD => lc_map (walk_enumT (xs := as.map V.ref)) (fun j y _ => y = .bl true) hD (fun H6 s6 => tupOf (s6 _ _ hq)) (by rw [List.length_map, pr_len hrows, rowsOf_len]; exact szL (by omega)) (fun _ _ _ _ e _ _ => e) ?_ ?_ ?_⟩
    · rintro j y H6 H7 hj s6 _ ⟨Tp, x, y2, rfl, hT, rfl, hx, hy⟩ Q' qq
      obtain rfl : x = .int (j : Int) := (Option.some.inj hx).symm
      have hy : (as.map V.ref)[j]? = some y2 := hy
      rw [List.getElem?_map] at hy
      cases hay : as[j]? with
      | none => rw [hay] at hy; cases hy
      | some a =>
        rw [hay] at hy
        obtain rfl : y2 = .ref a := (Option.some.inj hy).symm
        obtain ⟨r, hr1, er⟩ := pr_get hrows hay
        obtain ⟨a', b', c', d', et, ka, kb, kc, kd, rfl⟩ := row_at sT hr1
        have htl : (Ts.take j).length ≤ j := List.length_take_le _ _
        have s7 := sNew s6 hT (o := .tup [.int (j : Int), .ref a])
        refine ⟨Tp, _, rfl, tupOf upd_same, rfl, _, _, rfl, _, _, rfl, rfl, rfl, ?_⟩
        refine ⟨_, rfl, _, rfl, ⟨a, j, _⟩, rfl, s7 _ _ er, rfl, ?_, fun H8 s8 => qq _ _ ((same_new hT).trans s8) rfl⟩
        intro m hm
        have := ka.lt
        have := kb.lt
        have := kc.lt
        have := kd.lt
        simp only [List.mem_cons, List.not_mem_nil, or_false] at hm
        show m < j + 2
        omega
    · exact gTup2_mono
    · intro ys H6 s6 hy py
      rw [paired_eq (f := fun _ => V.bl true) py] at hy
      refine ⟨D, (List.range (as.map V.ref).length).map fun _ => true, rfl, lstOf (by rw [hy, List.map_map]; rfl), true, congrArg V.bl (all_map_true fun _ _ => rfl), iteF ?_⟩
      have hl : (as.map V.ref).length = Ts.length := by rw [List.length_map, pr_len hrows, rowsOf_len]
      refine ⟨_, rfl, _, rfl, q, _, rfl, .inr (tupOf (s6 _ _ hq)), _, _, rfl, rfl, ⟨(num Ts t : Nat), ((as.map V.ref).length : Int) + 2⟩, rfl, Int.natCast_nonneg _, ?_, _, rfl, iteF ?_⟩
      · have := kT.lt
        show ((num Ts t : Nat) : Int) < ((as.map V.ref).length : Int) + 2
        omega
      · refine ⟨_, rfl, ⟨q, Ts⟩, rfl, ⟨as, s6 _ _ hq, pr_imp hrows fun c r _ _ e => s6 _ _ e⟩, sT, by show Ts.length ≤ 50000; omega, fun H7 p7 s7 e7 => ?_⟩
        refine ⟨_, rfl, p7, _, _, _, rfl, rfl, lstOf e7, at_of rfl (dpL_get kT), _, rfl, _, _, rfl, rfl, ?_⟩
        exact qbl (decide_eq_true (by omega)) (k _ (s6.trans s7))
theorem ok_is_shape (B : Bl mg) (D : Dfn K mg "is_shape" s_is_shape) (c_is_telling : Cal P w K mg base 4 "is_telling" spIsTelling) (c_one_of : Cal P w K mg base 10 "one_of" spOneOf) : Cal P w K mg base 11 "is_shape" spIsTelling := by
  refine cal_of D sc_is_shape (fun _ _ _ _ _ _ us hl => match us, hl with | [_], _ => rfl) (fun vs H Q E h => ?_) (fun f cdv A outer s H vs Q E hr h => ?_)
  · obtain ⟨a, rfl, _⟩ := h
    rfl
  · have nd := sc_is_shape.nd
    have hu := hu_of hr
    have hu65 := hu65_of hr
    obtain ⟨⟨tp, n, t⟩, rfl, Sh, F, k⟩ := h
    dsimp only at Sh F k
    refine ⟨_, (pss_one (ps_ret (pe_and (pe_c c_is_telling hr (by omega) rfl (pa_cons (pv 0) pa_nil)) (pe_one (pe_cmpR (op_eqD hr.units) (pe_c c_one_of hr (by omega) rfl (pa_cons (pv 0) pa_nil)) (pv 0) (nomark _)))))), ?_⟩
    refine ⟨_, rfl, ⟨tp, n, t⟩, rfl, Sh, F, fun H1 s1 => ⟨_, rfl, iteT ?_⟩⟩
    have hht := F.ht
    have h6 := F.n6
    refine ⟨_, rfl, ⟨tp, n, t⟩, rfl, Sh.same s1, F.can, (by show t.ht ≤ 6; omega), F.len, fun H2 q s2 Sh2 => ?_⟩
    refine ⟨_, rfl, shD n t, shD n t, dp_shape Sh2, dp_shape (Sh.same (s1.trans s2)), shD_shaped n t, shD_shaped n t, ?_⟩
    exact qbl (shD_eqv n t) (k _ (s1.trans s2))
theorem ok_want_shape (B : Bl mg) (D : Dfn K mg "want_shape" s_want_shape) (c_is_shape : Cal P w K mg base 11 "is_shape" spIsTelling) : Cal P w K mg base 12 "want_shape" spWantShape := by
  refine cal_of D sc_want_shape (fun _ _ _ _ _ _ us hl => match us, hl with | [_], _ => rfl) (fun vs H Q E h => ?_) (fun f cdv A outer s H vs Q E hr h => ?_)
  · obtain ⟨a, rfl, _⟩ := h
    rfl
  · have nd := sc_want_shape.nd
    have hu := hu_of hr
    have hu65 := hu65_of hr
    obtain ⟨⟨tp, n, t⟩, rfl, Sh, F, k⟩ := h
    dsimp only at Sh F k
    refine ⟨_, (pss_one (ps_if (pt_not (pt_val (pe_c c_is_shape hr (by omega) rfl (pa_cons (pv 0) pa_nil)))) (pss_one ps_never) pss_nil)), ?_⟩
    exact ⟨_, rfl, ⟨tp, n, t⟩, rfl, Sh, F, fun H1 s1 => ⟨_, rfl, iteF (k H1 s1)⟩⟩
end
end Qf
namespace Qf
open PySem PySem.Spec PyProof.Rows L2
def LvTup (H : Hp) (a : Addr) (l : List Nat × Bool) : Prop := H a = some (.tup [.str (adS l.1), .bl l.2])
def WtTup (T : List Qt) (H : Hp) (a : Addr) (x : List Nat × Qt) : Prop := H a = some (.tup [.str (adS x.1), .int (num T x.2 : Nat)])
def spLeavesOf : Sp := mkSp (fun x : ShA => [.ref x.tp]) fun x H Q => ShapeAt H x.tp x.n x.t ∧ Fit x.n x.t ∧ x.t.lvs ≤ 2000 ∧
  ∀ H' p (as : List Addr), Same H H' → H' p = some (.lst (as.map V.ref)) → Paired (LvTup H') as (lvA x.t []) → Q (.ref p) H'
def wD (T : List Qt) (x : List Nat × Qt) : PyData := .tuple [.str (adS x.1), .int (num T x.2 : Nat)]
theorem adS_ok {ds : List Nat} (h : Figs ds) : PyData.strOk (adS ds) = true := by
  unfold PyData.strOk
  rw [Array.all_eq_true]
  intro i hi
  have e : (adS ds).cps[i]? = some (adS ds).cps[i] := by simp [hi]
  obtain ⟨d, hd, e2⟩ := adS_get e
  rw [e2]
  have := h d (List.mem_of_getElem? hd)
  exact decide_eq_true (by omega)
theorem wD_lay (T : List Qt) {x : List Nat × Qt} (h : Figs x.1) : (wD T x).canLay0 = true := by simp [wD, PyData.canLay0, PyData.canLayAll0, adS_ok h]
theorem wD_depth (T : List Qt) (x : List Nat × Qt) : (wD T x).depth ≤ 10 := by
  simp only [wD, PyData.depth, PyData.depthAll]
  omega
theorem wD_shaped (T : List Qt) {W : List (List Nat × Qt)} (h : ∀ x ∈ W, Figs x.1) : SeqAt.shaped (.list (W.map (wD T))) = true :=
  shaped_list (fun d hd => by obtain ⟨x, hx, rfl⟩ := List.mem_map.mp hd; exact wD_lay T (h x hx)) fun d hd => by obtain ⟨x, _, rfl⟩ := List.mem_map.mp hd; exact wD_depth T x
theorem dp_wts {K : PySem.W.Frag} {H : Hp} {T : List Qt} {as : List Addr} {W : List (List Nat × Qt)} (h : Paired (WtTup T H) as W) : DpAll K H (as.map V.ref) (W.map (wD T)) :=
  dpAll_of (pr_map_left (f := V.ref) (pr_imp h fun a x _ _ e => .tup (tupOf e) (.cons (.str _) (.cons (.int _) .nil))))
/-- what still comes of what waits, the last one first -/
def outW : List (List Nat × Qt) → List (List Nat × Bool)
  | [] => []
  | x :: W => outW W ++ lvA x.2 x.1
theorem outW_snoc : ∀ (W : List (List Nat × Qt)) (x : List Nat × Qt), outW (W ++ [x]) = lvA x.2 x.1 ++ outW W
  | [], x => by simp [outW]
  | y :: W, x => by
    show outW (W ++ [x]) ++ lvA y.2 y.1 = _
    rw [outW_snoc, List.append_assoc]
    rfl
def szW (W : List (List Nat × Qt)) : Nat := (W.map fun x => x.2.sz).sum
theorem lvA_pos : ∀ (t : Qt) (ad : List Nat), 1 ≤ (lvA t ad).length
  | .e, _ => Nat.le_refl _
  | .f, _ => Nat.le_refl _
  | .n a b c d, ad => by
    have := lvA_pos a (ad ++ [0])
    show 1 ≤ (lvA a _ ++ (lvA b _ ++ (lvA c _ ++ lvA d _))).length
    rw [List.length_append]
    omega
theorem outW_len : ∀ W : List (List Nat × Qt), W.length ≤ (outW W).length
  | [] => Nat.le_refl _
  | x :: W => by
    have := outW_len W
    have := lvA_pos x.2 x.1
    show W.length + 1 ≤ (outW W ++ lvA x.2 x.1).length
    rw [List.length_append]
    omega
/-- the quarters as they are put down -/
def kids (ad : List Nat) (a b c d : Qt) : List (List Nat × Qt) := [(ad ++ [3], d), (ad ++ [2], c), (ad ++ [1], b), (ad ++ [0], a)]
theorem outW_kids (W : List (List Nat × Qt)) (ad : List Nat) (a b c d : Qt) : outW (W ++ kids ad a b c d) = lvA (.n a b c d) ad ++ outW W := by
  rw [show W ++ kids ad a b c d = W ++ [(ad ++ [3], d)] ++ [(ad ++ [2], c)] ++ [(ad ++ [1], b)] ++ [(ad ++ [0], a)] by simp [kids]]
  rw [outW_snoc, outW_snoc, outW_snoc, outW_snoc]
  show _ = (lvA a _ ++ (lvA b _ ++ (lvA c _ ++ lvA d _))) ++ outW W
  simp only [List.append_assoc]
theorem szW_snoc (W : List (List Nat × Qt)) (x : List Nat × Qt) : szW (W ++ [x]) = szW W + x.2.sz := by simp [szW]
structure GoodW (n : Nat) (T : List Qt) (x : List Nat × Qt) : Prop where
  kn : Kn T x.2
  fig : Figs x.1
  len : x.1.length + x.2.ht ≤ n
theorem fig_at {j : Nat} (h : j < 4) : atI ("0123" : Str).cps.toList (j : Int) = some (48 + j) := by
  match j, h with
  | 0, _ => decide +kernel
  | 1, _ => decide +kernel
  | 2, _ => decide +kernel
  | 3, _ => decide +kernel
section
variable {P : Program} {w : World} {K : PySem.W.Frag} {mg : Str → Option Value} {base : Heap}
theorem ok_leaves_of (B : Bl mg) (D : Dfn K mg "leaves_of" s_leaves_of) (c_want_shape : Cal P w K mg base 12 "want_shape" spWantShape) (c_want_coarse : Cal P w K mg base 2 "want_coarse" spWantCoarse) : Cal P w K mg base 13 "leaves_of" spLeavesOf := by
  refine cal_of D sc_leaves_of (fun _ _ _ _ _ _ us hl => match us, hl with | [_], _ => rfl) (fun vs H Q E h => ?_) (fun f cdv A outer s H vs Q E hr h => ?_)
  · obtain ⟨a, rfl, _⟩ := h
    rfl
  · have nd := sc_leaves_of.nd
    have hu := hu_of hr
    have hu65 := hu65_of hr
    obtain ⟨⟨tp, n, t⟩, rfl, Sh0, F, hlv, k⟩ := h
    dsimp only at Sh0 F hlv k
    refine ⟨_, (pss_cons (ps_expr (pe_c c_want_shape hr (by omega) rfl (pa_cons (pv 0) pa_nil)))
      (pss_cons (ps_expr (pe_c c_want_coarse hr (by omega) rfl (pa_cons (pv 0) pa_nil)))
      (pss_cons (ps_asg (pv 0) (pg_tup rfl (pgs_cons (pg_name (i := 1) nd rfl (by first | exact Or.inl rfl | exact Or.inr rfl)) (pgs_cons (pg_name (i := 2) nd rfl (by first | exact Or.inl rfl | exact Or.inr rfl)) (pgs_cons (pg_name (i := 3) nd rfl (by first | exact Or.inl rfl | exact Or.inr rfl)) pgs_nil)))))
      (pss_cons (ps_set (i := 4) nd rfl (by first | exact Or.inl rfl | exact Or.inr rfl) (pe_lst pa_nil))
      (pss_cons (ps_set (i := 5) nd rfl (by first | exact Or.inl rfl | exact Or.inr rfl) (pe_lst (pa_cons (pe_tup (pa_cons pe_str (pa_cons (pv 2) pa_nil))) pa_nil)))
      (pss_cons (ps_while PassesOwn.never (pt_cmpR (op_neD hr.units) (pv 5) (pe_lst pa_nil) (nomark _)) (pss_cons (ps_asg (pe_bm0 PySem.F.plainAttrs_list PySem.F.slot_list_pop PySem.F.type_list_pop mt_pop (pv 5)) (pg_tup rfl (pgs_cons (pg_name (i := 6) nd rfl (by first | exact Or.inl rfl | exact Or.inr rfl)) (pgs_cons (pg_name (i := 7) nd rfl (by first | exact Or.inl rfl | exact Or.inr rfl)) pgs_nil))))
      (pss_one (ps_if (pt_cmpR op_lt (pv 7) pe_int (nomark _)) (pss_one (ps_expr (pe_bm PySem.F.plainAttrs_list PySem.F.slot_list_append PySem.F.type_list_append mt_append (pv 4) (pa_cons (pe_tup (pa_cons (pv 6) (pa_cons (pe_cmpR op_eq (pv 7) pe_int (nomark _)) pa_nil))) pa_nil)))) (pss_one (ps_for PassesOwn.never rfl (pi_range3 rfl B.range (pa_cons pe_int (pa_cons (pe_un un_neg pe_int) (pa_cons (pe_un un_neg pe_int) pa_nil)))) (pg_name (i := 8) nd rfl (by first | exact Or.inl rfl | exact Or.inr rfl))
      (pss_one (ps_expr (pe_bm PySem.F.plainAttrs_list PySem.F.slot_list_append PySem.F.type_list_append mt_append (pv 5) (pa_cons (pe_tup (pa_cons (pe_op op_add_str (pv 6) (pe_ix ix_str (C8.pe_gc rfl B.cFIGURES) (pv 8) (fun _ _ => rfl))) (pa_cons (pe_ix ix_tup (pe_ix ix_tup (pv 3) (pe_op op_sub (pv 7) pe_int) (fun _ _ => rfl)) (pv 8) (fun _ _ => rfl)) pa_nil))) pa_nil))))))))))
      (pss_one (ps_ret (pv 4))))))))), ?_⟩
    refine ⟨_, rfl, ⟨tp, n, t⟩, rfl, Sh0, F, fun H1 s1 => ?_⟩
    refine ⟨_, rfl, ⟨tp, n, t⟩, rfl, Sh0.same s1, F, hlv, fun H2 s2 => ?_⟩
    have s02 := s1.trans s2
    obtain ⟨q, hp, as, hq, hrows⟩ := Sh0.same s02
    obtain ⟨n6, hcan, hht, hlen⟩ := F
    have sT : St (post t []) := St.post t St.nil hcan
    have kT := post_kn t []
    generalize post t [] = Ts at *
    have hlas : as.length = Ts.length := (pr_len hrows).trans (rowsOf_len Ts)
    refine ⟨_, rfl, tp, _, rfl, tupOf hp, rfl, _, _, rfl, _, _, rfl, _, _, rfl, rfl, ?_⟩
    refine ⟨szl (by show 0 ≤ 1000000; decide), fun fl hfl => ?_⟩
    refine ⟨_, rfl, szl (by show 2 ≤ 1000000; decide), fun t0 ht0 => ⟨szl (by show 1 ≤ 1000000; decide), fun wl hwl => ?_⟩⟩
    have s3 := sNew (sNew (same_new hfl (o := .lst [])) ht0 (o := .tup [.str "", .int (num Ts t : Nat)])) hwl (o := .lst [.ref t0])
    have nfw : fl ≠ wl := fun z => by
      subst z
      have h1 : fl ≠ t0 := fun z => by subst z; rw [upd_same] at ht0; cases ht0
      rw [upd_ne h1, upd_same] at hwl
      cases hwl
    have efl : (upd (upd (upd H2 fl (.lst [])) t0 (.tup [.str "", .int (num Ts t : Nat)])) wl (.lst [.ref t0])) fl = some (.lst []) := by
      rw [upd_ne nfw, upd_ne (fun z => by subst z; rw [upd_same] at ht0; cases ht0)]
      exact upd_same
    have et0 : (upd (upd (upd H2 fl (.lst [])) t0 (.tup [.str "", .int (num Ts t : Nat)])) wl (.lst [.ref t0])) t0 = some (.tup [.str (adS []), .int (num Ts t : Nat)]) := by
      rw [upd_ne (fun z => by subst z; rw [upd_same] at hwl; cases hwl)]
      exact upd_same
    have ewl : (upd (upd (upd H2 fl (.lst [])) t0 (.tup [.str "", .int (num Ts t : Nat)])) wl (.lst [.ref t0])) wl = some (.lst [.ref t0]) := upd_same
    have hwl0 : H2 wl = none := (sNew (same_new hfl (o := .lst [])) ht0 (o := .tup [.str "", .int (num Ts t : Nat)])).free hwl
    generalize upd (upd (upd H2 fl (.lst [])) t0 (.tup [.str "", .int (num Ts t : Nat)])) wl (.lst [.ref t0]) = H3 at *
    refine ⟨fun m σ H4 => ∃ (a9 a8 a7 : Option V) (fa wa : List Addr) (fs : List (List Nat × Bool)) (W : List (List Nat × Qt)), m = szW W ∧ σ = [some (.ref tp), some (.int (n : Int)), some (.int (num Ts t : Nat)), some (.ref q), some (.ref fl), some (.ref wl), a9, a8, a7] ∧
      Sx [fl, wl] H3 H4 ∧ H4 fl = some (.lst (fa.map V.ref)) ∧ H4 wl = some (.lst (wa.map V.ref)) ∧ Paired (LvTup H4) fa fs ∧ Paired (WtTup Ts H4) wa W ∧ fs ++ outW W = lvA t [] ∧ (∀ x ∈ W, GoodW n Ts x),
      ⟨_, none, none, none, [], [t0], [], [([], t)], rfl, rfl, Sx.refl _ _, efl, ewl, .nil, .cons et0 .nil, by simp [outW], fun x hx => by
        rw [List.mem_singleton] at hx
        subst hx
        exact ⟨kT, (fun d hd => by cases hd), by show 0 + t.ht ≤ n; omega⟩⟩, ?_⟩
    rintro m σ H4 ⟨a9, a8, a7, fa, wa, fs, W, rfl, rfl, x4, f4, w4, pf, pw, eo, gW⟩
    refine ⟨_, rfl, szl (by show 0 ≤ 1000000; decide), fun el hel => ?_⟩
    have s5 := same_new hel (o := .lst [])
    have pf5 : Paired (LvTup _) fa fs := pr_imp pf fun a x _ _ e => s5 _ _ e
    have pw5 : Paired (WtTup Ts _) wa W := pr_imp pw fun a x _ _ e => s5 _ _ e
    refine ⟨.list (W.map (wD Ts)), .list [], .lst (lstOf (s5 _ _ w4)) (dp_wts pw5), .lst (lstOf upd_same) .nil, wD_shaped Ts (fun x hx => (gW x hx).fig), shaped_nil, _, rfl, ?_⟩
    rw [eqv_nil]
    have f5 := s5 _ _ f4
    have w5 := s5 _ _ w4
    have x5 : Sx [fl, wl] H3 (upd H4 el (.lst [])) := x4.trans (sxS s5)
    generalize upd H4 el (.lst []) = H5 at *
    have tn : ∀ c xs, H3 c = some (.tup xs) → c ∉ [fl, wl] := fun c xs e => nin2 e efl ewl (by intro z; cases z) (by intro z; cases z)
    rcases snoc_cases wa with rfl | ⟨wb, a, rfl⟩
    · -- nothing waits
      cases pw5
      refine iteF ?_
      have eo : fs = lvA t [] := by simpa [outW] using eo
      subst eo
      have s35 : Same H2 H5 := fun cc o e => x5 _ _ (by simp [ne_of_none e hfl, ne_of_none e hwl0]) (s3 _ _ e)
      exact ⟨_, rfl, k H5 fl fa (s02.trans s35) f5 pf5⟩
    · obtain ⟨V', y, rfl, pv, hy⟩ := pr_snoc_inv pw5
      obtain ⟨ad, u⟩ := y
      rw [show ((V' ++ [(ad, u)]).map (wD Ts)).isEmpty = false by simp]
      refine iteT ?_
      have gy := gW (ad, u) (List.mem_append_right _ List.mem_cons_self)
      have gV : ∀ x ∈ V', GoodW n Ts x := fun x hx => gW x (List.mem_append_left _ hx)
      obtain ⟨gk, gf, gl⟩ := gy
      dsimp only at gk gf gl
      have hVl : (fs ++ outW (V' ++ [(ad, u)])).length = t.lvs := by rw [eo, lvA_len]
      have hfl0 : fa.length = fs.length := pr_len pf5
      have hbl0 : wb.length = V'.length := pr_len pv
      rw [List.length_append, outW_snoc, List.length_append] at hVl
      have hl1 := outW_len V'
      have hl2 := lvA_pos u ad
      -- waiting.pop()
      refine ⟨_, fun σ' H' hN => hN, ?_⟩
      refine ⟨_, rfl, .inl ⟨rfl, _, .inl (.inl w5)⟩, wl, _, .ref a, rfl, rfl, w5, by rw [List.map_append]; exact get_last _ _, ?_⟩
      rw [List.map_append, List.map_singleton, List.dropLast_concat]
      have w6 : (upd H5 wl (.lst (wb.map V.ref))) wl = some (.lst (wb.map V.ref)) := upd_same
      have f6 : (upd H5 wl (.lst (wb.map V.ref))) fl = some (.lst (fa.map V.ref)) := by rw [upd_ne nfw]; exact f5
      have tq : ∀ c xs, H5 c = some (.tup xs) → (upd H5 wl (.lst (wb.map V.ref))) c = some (.tup xs) := fun c xs e => by
        rw [upd_ne (ne_of e w5 (by intro z; cases z))]
        exact e
      have pf6 : Paired (LvTup (upd H5 wl (.lst (wb.map V.ref)))) fa fs := pr_imp pf5 fun c x _ _ e => tq _ _ e
      have pv6 : Paired (WtTup Ts (upd H5 wl (.lst (wb.map V.ref)))) wb V' := pr_imp pv fun c x _ _ e => tq _ _ e
      have hy6 := tq _ _ hy
      have x6 : Sx [fl, wl] H3 (upd H5 wl (.lst (wb.map V.ref))) := x5.upd (List.mem_cons_of_mem _ List.mem_cons_self)
      generalize upd H5 wl (.lst (wb.map V.ref)) = H6 at *
      refine ⟨a, _, rfl, tupOf hy6, rfl, _, _, rfl, _, _, rfl, rfl, ?_⟩
      have step : ∀ (m : Nat) (W' : List (List Nat × Qt)), m = szW W' → szW W' < szW (V' ++ [(ad, u)]) → True := fun _ _ _ _ => trivial
      rcases hu2 : u with _ | _ | ⟨ua, ub, uc, ud⟩
      · subst hu2
        refine ⟨_, rfl, _, _, rfl, rfl, _, rfl, ite_d (fun _ => ?_) (fun z => absurd (show ((0 : Nat) : Int) < 2 by omega) z)⟩
        refine ⟨_, rfl, .inl ⟨rfl, _, .inl (.inl f6)⟩, _, rfl, _, rfl, rfl, szl (by show 2 ≤ 1000000; decide), fun q1 hq1 => ?_⟩
        have s7 := same_new hq1 (o := .tup [.str (adS ad), .bl (decide (V.int (num Ts Qt.e : Nat) = V.int 1))])
        refine ⟨fl, _, _, rfl, rfl, s7 _ _ f6, szL (by rw [List.length_map]; omega), ?_⟩
        refine ⟨szW V', by rw [szW_snoc]; show szW V' < szW V' + 1; omega, _, _, _, fa ++ [q1], wb, fs ++ [(ad, false)], V', rfl, rfl, (x6.new hq1).upd List.mem_cons_self, ?_, ?_, ?_, ?_, ?_, gV⟩
        · rw [upd_same, List.map_append]; rfl
        · rw [upd_ne (Ne.symm nfw)]; exact s7 _ _ w6
        · refine Paired.snoc (pr_imp pf6 fun c x _ _ e => ?_) ?_
          · show upd _ fl _ c = _
            rw [upd_ne (ne_of (s7 _ _ e) (s7 _ _ f6) (by intro z; cases z))]
            exact s7 _ _ e
          · show upd _ fl _ q1 = _
            rw [upd_ne (ne_of upd_same (s7 _ _ f6) (by intro z; cases z)), upd_same]
            exact congrArg (fun z => some (HO.tup [.str (adS ad), .bl z])) (decide_eq_false (by intro z; cases z))
        · refine pr_imp pv6 fun c x _ _ e => ?_
          show upd _ fl _ c = _
          rw [upd_ne (ne_of (s7 _ _ e) (s7 _ _ f6) (by intro z; cases z))]
          exact s7 _ _ e
        · rw [outW_snoc] at eo
          rw [List.append_assoc]
          exact eo
      · subst hu2
        refine ⟨_, rfl, _, _, rfl, rfl, _, rfl, ite_d (fun _ => ?_) (fun z => absurd (show ((1 : Nat) : Int) < 2 by omega) z)⟩
        refine ⟨_, rfl, .inl ⟨rfl, _, .inl (.inl f6)⟩, _, rfl, _, rfl, rfl, szl (by show 2 ≤ 1000000; decide), fun q1 hq1 => ?_⟩
        have s7 := same_new hq1 (o := .tup [.str (adS ad), .bl (decide (V.int (num Ts Qt.f : Nat) = V.int 1))])
        refine ⟨fl, _, _, rfl, rfl, s7 _ _ f6, szL (by rw [List.length_map]; omega), ?_⟩
        refine ⟨szW V', by rw [szW_snoc]; show szW V' < szW V' + 1; omega, _, _, _, fa ++ [q1], wb, fs ++ [(ad, true)], V', rfl, rfl, (x6.new hq1).upd List.mem_cons_self, ?_, ?_, ?_, ?_, ?_, gV⟩
        · rw [upd_same, List.map_append]; rfl
        · rw [upd_ne (Ne.symm nfw)]; exact s7 _ _ w6
        · refine Paired.snoc (pr_imp pf6 fun c x _ _ e => ?_) ?_
          · show upd _ fl _ c = _
            rw [upd_ne (ne_of (s7 _ _ e) (s7 _ _ f6) (by intro z; cases z))]
            exact s7 _ _ e
          · show upd _ fl _ q1 = _
            rw [upd_ne (ne_of upd_same (s7 _ _ f6) (by intro z; cases z)), upd_same]
            exact congrArg (fun z => some (HO.tup [.str (adS ad), .bl z])) (decide_eq_true rfl)
        · refine pr_imp pv6 fun c x _ _ e => ?_
          show upd _ fl _ c = _
          rw [upd_ne (ne_of (s7 _ _ e) (s7 _ _ f6) (by intro z; cases z))]
          exact s7 _ _ e
        · rw [outW_snoc] at eo
          rw [List.append_assoc]
          exact eo
      · subst hu2
        have hm : Qt.n ua ub uc ud ∈ Ts := kn_n.mp gk
        obtain ⟨ka, kb, kc, kd, _⟩ := sT.sub hm
        have hz : szW (V' ++ kids ad ua ub uc ud) < szW (V' ++ [(ad, Qt.n ua ub uc ud)]) := by
          rw [szW_snoc]
          show ((V' ++ kids ad ua ub uc ud).map fun x => x.2.sz).sum < szW V' + (ua.sz + ub.sz + uc.sz + ud.sz + 1)
          rw [List.map_append, List.sum_append]
          show szW V' + (ud.sz + (uc.sz + (ub.sz + (ua.sz + 0)))) < _
          omega
        have hrow : (rowsOf Ts)[Ts.idxOf (Qt.n ua ub uc ud)]? = some (rowOf Ts (Qt.n ua ub uc ud)) := rowsOf_get (by
          have hi := List.idxOf_lt_length_of_mem hm
          rw [List.getElem?_eq_getElem hi, List.getElem_idxOf])
        obtain ⟨ra, hra, er⟩ := pr_get2 hrows hrow
        have xr : ∀ c xs, H2 c = some (.tup xs) → H3 c = some (.tup xs) := fun c xs e => s3 _ _ e
        have er3 := s3 _ _ er
        have eq3 := s3 _ _ hq
        refine ⟨_, rfl, _, _, rfl, rfl, _, rfl, ite_d (fun z => absurd z (by rw [num_n]; omega)) (fun _ => ?_)⟩
        have hht2 : (Qt.n ua ub uc ud).ht = max (max ua.ht ub.ht) (max uc.ht ud.ht) + 1 := rfl
        have hR3 := RgC.neg (i := 3) (j := -1) (by decide) (by decide) (by decide) (by decide)
        refine ⟨_, rfl, _, rfl, 3, -1, -1, 4, rfl, hR3, for_rangeC (fun i σ H7 => ∃ (p8 : Option V) (wc : List Addr), σ = [some (.ref tp), some (.int (n : Int)), some (.int (num Ts t : Nat)), some (.ref q), some (.ref fl), some (.ref wl), some (.str (adS ad)), some (.int (num Ts (Qt.n ua ub uc ud) : Nat)), p8] ∧
          Sx [fl, wl] H3 H7 ∧ H7 fl = some (.lst (fa.map V.ref)) ∧ H7 wl = some (.lst (wc.map V.ref)) ∧ Paired (LvTup H7) fa fs ∧ Paired (WtTup Ts H7) wc (V' ++ (kids ad ua ub uc ud).take i))
          ⟨_, wb, rfl, x6, f6, w6, pf6, by rw [List.take_zero, List.append_nil]; exact pv6⟩ ?_ ?_⟩
        · rintro i σ H7 hi ⟨p8, wc, rfl, x7, f7, w7, pf7, pw7⟩
          have go : ∃ (pl : Nat) (u' : Qt), (3 : Int) + (i : Nat) * -1 = (pl : Int) ∧ pl < 4 ∧ (rowOf Ts (Qt.n ua ub uc ud))[pl]? = some (num Ts u') ∧ (kids ad ua ub uc ud).take (i + 1) = (kids ad ua ub uc ud).take i ++ [(ad ++ [pl], u')] := by
            match i, hi with
            | 0, _ => exact ⟨3, ud, by decide, by decide, rfl, rfl⟩
            | 1, _ => exact ⟨2, uc, by decide, by decide, rfl, rfl⟩
            | 2, _ => exact ⟨1, ub, by decide, by decide, rfl, rfl⟩
            | 3, _ => exact ⟨0, ua, by decide, by decide, rfl, rfl⟩
          obtain ⟨pl, u', epl, hpl, hru, etk⟩ := go
          rw [epl]
          have lwc : wc.length ≤ V'.length + 4 := by
            have := pr_len pw7
            rw [List.length_append] at this
            have : ((kids ad ua ub uc ud).take i).length ≤ 4 := by rw [List.length_take]; show min i 4 ≤ 4; omega
            omega
          refine ⟨_, rfl, .inl ⟨rfl, _, .inl (.inl w7)⟩, ?_⟩
          refine ⟨_, rfl, _, rfl, "0123", _, 48 + pl, rfl, rfl, szl (by decide), fig_at hpl, adS ad, ⟨#[48 + pl]⟩, rfl, rfl, ?_, ?_⟩
          · rw [adS_len]
            exact szl (by show ad.length + 1 ≤ 1000000; omega)
          rw [adS_snoc]
          refine ⟨_, rfl, _, rfl, _, _, rfl, rfl, q, _, _, .ref ra, rfl, rfl, tupOf (x7 _ _ (tn _ _ eq3) eq3), at_of (j := Ts.idxOf (Qt.n ua ub uc ud)) (by rw [num_n]; omega) (by rw [List.getElem?_map, hra]; rfl), ?_⟩
          refine ⟨_, rfl, ra, _, _, .int (num Ts u' : Nat), rfl, rfl, tupOf (x7 _ _ (tn _ _ er3) er3), atI_nat (by unfold vR; rw [List.getElem?_map, hru]; rfl), szl (by show 2 ≤ 1000000; decide), fun q1 hq1 => ?_⟩
          have s8 := same_new hq1 (o := .tup [.str (adS (ad ++ [pl])), .int (num Ts u' : Nat)])
          refine ⟨wl, _, _, rfl, rfl, s8 _ _ w7, szL (by rw [List.length_map]; omega), ?_⟩
          have t8 : ∀ c xs, (upd H7 q1 (.tup [.str (adS (ad ++ [pl])), .int (num Ts u' : Nat)])) c = some (.tup xs) → ∀ o, upd (upd H7 q1 (.tup [.str (adS (ad ++ [pl])), .int (num Ts u' : Nat)])) wl o c = some (.tup xs) := fun c xs e o => by
            rw [upd_ne (ne_of e (s8 _ _ w7) (by intro z; cases z))]
            exact e
          refine ⟨_, wc ++ [q1], rfl, (x7.new hq1).upd (List.mem_cons_of_mem _ List.mem_cons_self), ?_, ?_, ?_, ?_⟩
          · rw [upd_ne nfw]; exact s8 _ _ f7
          · rw [upd_same, List.map_append]; rfl
          · exact pr_imp pf7 fun c x _ _ e => t8 _ _ (s8 _ _ e) _
          · rw [etk, ← List.append_assoc]
            exact Paired.snoc (pr_imp pw7 fun c x _ _ e => t8 _ _ (s8 _ _ e) _) (t8 _ _ upd_same _)
        · rintro σ H7 ⟨p8, wc, rfl, x7, f7, w7, pf7, pw7⟩
          refine ⟨szW (V' ++ kids ad ua ub uc ud), hz, _, _, _, fa, wc, fs, V' ++ kids ad ua ub uc ud, rfl, rfl, x7, f7, w7, pf7, pw7, ?_, ?_⟩
          · rw [outW_kids]
            rw [outW_snoc] at eo
            exact eo
          · intro x hx
            rcases List.mem_append.mp hx with hx | hx
            · exact gV x hx
            · simp only [kids, List.mem_cons, List.not_mem_nil, or_false] at hx
              have fg : ∀ pl, pl < 4 → Figs (ad ++ [pl]) := fun pl hpl d hd => by
                rcases List.mem_append.mp hd with hd | hd
                · exact gf d hd
                · rw [List.mem_singleton] at hd; omega
              rcases hx with rfl | rfl | rfl | rfl
              · exact ⟨kd, fg 3 (by decide), by show (ad ++ [3]).length + ud.ht ≤ n; rw [List.length_append, List.length_singleton]; omega⟩
              · exact ⟨kc, fg 2 (by decide), by show (ad ++ [2]).length + uc.ht ≤ n; rw [List.length_append, List.length_singleton]; omega⟩
              · exact ⟨kb, fg 1 (by decide), by show (ad ++ [1]).length + ub.ht ≤ n; rw [List.length_append, List.length_singleton]; omega⟩
              · exact ⟨ka, fg 0 (by decide), by show (ad ++ [0]).length + ua.ht ≤ n; rw [List.length_append, List.length_singleton]; omega⟩
end
end Qf
namespace Qf
open PySem PySem.Spec PyProof.Rows L2
def bx (x : Lf) : Row := [x.r, x.c, 2 ^ x.k]
def vA (L : List Lf) : List V := L.map fun x => V.str (adS x.ad)
def vT (L : List Lf) : List V := L.map fun x => V.bl x.b
def fL (n : Nat) (al tl bl nd : Addr) : List (Str × V) := putF "numbers" (.ref nd) (putF "boxes" (.ref bl) (putF "truths" (.ref tl) (putF "addresses" (.ref al) (putF "n" (.int (n : Int)) []))))
theorem fL_numbers (n : Nat) (al tl bl nd : Addr) : (fL n al tl bl nd).lookup ("numbers" : Str) = some (.ref nd) := by
  unfold fL
  rw [lookup_putF, if_pos rfl]
theorem fL_boxes (n : Nat) (al tl bl nd : Addr) : (fL n al tl bl nd).lookup ("boxes" : Str) = some (.ref bl) := by
  unfold fL
  rw [lookup_putF, if_neg (by decide +kernel), lookup_putF, if_pos rfl]
theorem fL_truths (n : Nat) (al tl bl nd : Addr) : (fL n al tl bl nd).lookup ("truths" : Str) = some (.ref tl) := by
  unfold fL
  rw [lookup_putF, if_neg (by decide +kernel), lookup_putF, if_neg (by decide +kernel), lookup_putF, if_pos rfl]
theorem fL_addresses (n : Nat) (al tl bl nd : Addr) : (fL n al tl bl nd).lookup ("addresses" : Str) = some (.ref al) := by
  unfold fL
  rw [lookup_putF, if_neg (by decide +kernel), lookup_putF, if_neg (by decide +kernel), lookup_putF, if_neg (by decide +kernel), lookup_putF, if_pos rfl]
theorem fL_n (n : Nat) (al tl bl nd : Addr) : (fL n al tl bl nd).lookup ("n" : Str) = some (.int (n : Int)) := by
  unfold fL
  rw [lookup_putF, if_neg (by decide +kernel), lookup_putF, if_neg (by decide +kernel), lookup_putF, if_neg (by decide +kernel), lookup_putF, if_neg (by decide +kernel), lookup_putF, if_pos rfl]
theorem fL_no (n : Nat) (al tl bl nd : Addr) {m : Str} (h1 : ¬ m = "numbers") (h2 : ¬ m = "boxes") (h3 : ¬ m = "truths") (h4 : ¬ m = "addresses") (h5 : ¬ m = "n") : (fL n al tl bl nd).lookup m = none := by
  unfold fL
  rw [lookup_putF, if_neg h1, lookup_putF, if_neg h2, lookup_putF, if_neg h3, lookup_putF, if_neg h4, lookup_putF, if_neg h5]
  rfl
structure LT (K : PySem.W.Frag) (C : Addr) : Prop where
  cl : Cls K C
  nN : NoAttr K C "n"
  nA : NoAttr K C "addresses"
  nT : NoAttr K C "truths"
  nB : NoAttr K C "boxes"
  nD : NoAttr K C "numbers"
/-- where the parts of a Leaves object lie -/
structure LAd where
  al : Addr
  tl : Addr
  bl : Addr
  nd : Addr
structure LvIn (H : Hp) (x : LAd) (L : List Lf) : Prop where
  a : H x.al = some (.lst (vA L))
  t : H x.tl = some (.lst (vT L))
  b : ∃ bs : List Addr, H x.bl = some (.lst (bs.map V.ref)) ∧ Paired (fun a y => H a = some (.tup (vR (bx y)))) bs L
  d : H x.nd = some (.dT (kvsFrom 0 (L.map bx)))
structure LvAt (C : Addr) (H : Hp) (p : Addr) (n : Nat) (L : List Lf) : Prop where
  ex : ∃ dx y, H p = some (.ins C dx (fL n y.al y.tl y.bl y.nd)) ∧ LvIn H y L
theorem LvIn.same {H H' : Hp} {x : LAd} {L : List Lf} (h : LvIn H x L) (s : Same H H') : LvIn H' x L := by
  obtain ⟨h1, h2, ⟨bs, h3, h4⟩, h5⟩ := h
  exact ⟨s _ _ h1, s _ _ h2, ⟨bs, s _ _ h3, pr_imp h4 fun a y _ _ e => s _ _ e⟩, s _ _ h5⟩
theorem LvAt.same {C : Addr} {H H' : Hp} {p : Addr} {n : Nat} {L : List Lf} (h : LvAt C H p n L) (s : Same H H') : LvAt C H' p n L := by
  obtain ⟨dx, y, h1, h2⟩ := h
  exact ⟨dx, y, s _ _ h1, h2.same s⟩
def spLeavesInit (C : Addr) : Sp := mkSp (fun x : Addr × ShA => [.ref x.1, .ref x.2.tp]) fun x H Q => (∃ dx, H x.1 = some (.ins C dx [])) ∧ ShapeAt H x.2.tp x.2.n x.2.t ∧ Fit x.2.n x.2.t ∧ x.2.t.lvs ≤ 2000 ∧
  ∀ H', LvAt C H' x.1 x.2.n (leafs x.2.n x.2.t) → Sx [x.1] H H' → Q .non H'
def spWay : Sp := mkSp (fun b : Bool => [.str (if b then "corners" else "sides")]) fun b H Q => ∀ H', Same H H' → Q .non H'
def spOther : Sp := mkSp (fun b : Bool => [.str (if b then "corners" else "sides")]) fun b H Q => Q (.str (if !b then "corners" else "sides")) H
def wayS (b : Bool) : Str := if b then "corners" else "sides"
section
variable {P : Program} {w : World} {K : PySem.W.Frag} {mg : Str → Option Value} {base : Heap}
theorem ok_Leaves___init__ (B : Bl mg) {CLeaves : Addr} (hC : Cls K CLeaves) (D : Dmk K mg "Leaves" CLeaves "Leaves.__init__" s_Leaves___init__) (T : LT K CLeaves) (c_leaves_of : Cal P w K mg base 13 "leaves_of" spLeavesOf) (c_box_of : Cal P w K mg base 4 "box_of" spBoxOf) : Mak P w K mg base 14 "Leaves" CLeaves (spLeavesInit CLeaves) := by
  refine mak_of D sc_Leaves___init__ (fun _ _ _ _ _ _ us hl => match us, hl with | [_, _], _ => rfl) (fun vs H Q E h => ?_) (fun f cdv A outer s H vs Q E hr h => ?_)
  · obtain ⟨a, rfl, _⟩ := h
    rfl
  · have nd := sc_Leaves___init__.nd
    have hu := hu_of hr
    have hu65 := hu65_of hr
    obtain ⟨⟨p, ⟨tp, n, t⟩⟩, rfl, ⟨dx, hp⟩, Sh, F, hlv, k⟩ := h
    dsimp only at hp Sh F hlv k
    refine ⟨_, (pss_cons (ps_fld (pv 0) (pe_ix ix_tup (pv 1) pe_int (fun _ _ => rfl)) rfl)
      (pss_cons (ps_fld (pv 0) (pe_lst pa_nil) rfl)
      (pss_cons (ps_fld (pv 0) (pe_lst pa_nil) rfl)
      (pss_cons (ps_fld (pv 0) (pe_lst pa_nil) rfl)
      (pss_cons (ps_fld (pv 0) pe_dnewT rfl)
      (pss_one (ps_for PassesOwn.never rfl (pi_list (pe_c c_leaves_of hr (by omega) rfl (pa_cons (pv 1) pa_nil))) (pg_tup rfl (pgs_cons (pg_name (i := 2) nd rfl (by first | exact Or.inl rfl | exact Or.inr rfl)) (pgs_cons (pg_name (i := 3) nd rfl (by first | exact Or.inl rfl | exact Or.inr rfl)) pgs_nil)))
      (pss_cons (ps_set (i := 4) nd rfl (by first | exact Or.inl rfl | exact Or.inr rfl) (pe_c c_box_of hr (by omega) rfl (pa_cons (pe_ix ix_tup (pv 1) pe_int (fun _ _ => rfl)) (pa_cons (pv 2) pa_nil))))
      (pss_cons (ps_dput hu (pe_fld (pv 0) rfl) (pv 4) (pe_callB call_len_seq (by rfl) B.len bt_len (pa_cons (pe_fld (pv 0) rfl) pa_nil)) rfl)
      (pss_cons (ps_expr (pe_bm PySem.F.plainAttrs_list PySem.F.slot_list_append PySem.F.type_list_append mt_append (pe_fld (pv 0) rfl) (pa_cons (pv 2) pa_nil)))
      (pss_cons (ps_expr (pe_bm PySem.F.plainAttrs_list PySem.F.slot_list_append PySem.F.type_list_append mt_append (pe_fld (pv 0) rfl) (pa_cons (pv 3) pa_nil)))
      (pss_one (ps_expr (pe_bm PySem.F.plainAttrs_list PySem.F.slot_list_append PySem.F.type_list_append mt_append (pe_fld (pv 0) rfl) (pa_cons (pv 4) pa_nil))))))))))))))), ?_⟩
    obtain ⟨q, hq, hTell⟩ := id Sh
    refine ⟨_, rfl, tp, _, _, _, rfl, rfl, tupOf hq, rfl, ?_⟩
    refine ⟨_, rfl, p, CLeaves, dx, [], rfl, hp, T.cl, T.nN, (by show 0 < 1000; decide), ?_⟩
    have p1 : (upd H p (.ins CLeaves dx (putF "n" (.int (n : Int)) []))) p = some (.ins CLeaves dx (putF "n" (.int (n : Int)) [])) := upd_same
    have x1 : Sx [p] H (upd H p (.ins CLeaves dx (putF "n" (.int (n : Int)) []))) := (Sx.refl _ _).upd List.mem_cons_self
    show tSeq _ _ _ _ (upd H p (.ins CLeaves dx (putF "n" (.int (n : Int)) [])))
    generalize upd H p (.ins CLeaves dx (putF "n" (.int (n : Int)) [])) = H1 at *
    refine ⟨szl (by show 0 ≤ 1000000; decide), fun al hal => ?_⟩
    have n1 := ne_of_none p1 hal
    refine ⟨_, rfl, p, CLeaves, dx, _, rfl, (by rw [upd_ne n1]; exact p1), T.cl, T.nA, (by show 1 < 1000; decide), ?_⟩
    have p2 : (upd (upd H1 al (.lst [])) p (.ins CLeaves dx (putF "addresses" (.ref al) (putF "n" (.int (n : Int)) [])))) p = some (.ins CLeaves dx (putF "addresses" (.ref al) (putF "n" (.int (n : Int)) []))) := upd_same
    have a2 : (upd (upd H1 al (.lst [])) p (.ins CLeaves dx (putF "addresses" (.ref al) (putF "n" (.int (n : Int)) [])))) al = some (.lst []) := by rw [upd_ne (Ne.symm n1), upd_same]
    have x2 : Sx [p] H (upd (upd H1 al (.lst [])) p (.ins CLeaves dx (putF "addresses" (.ref al) (putF "n" (.int (n : Int)) [])))) := (x1.new hal).upd List.mem_cons_self
    show tSeq _ _ _ _ (upd (upd H1 al (.lst [])) p (.ins CLeaves dx (putF "addresses" (.ref al) (putF "n" (.int (n : Int)) []))))
    generalize upd (upd H1 al (.lst [])) p (.ins CLeaves dx (putF "addresses" (.ref al) (putF "n" (.int (n : Int)) []))) = H2 at *
    refine ⟨szl (by show 0 ≤ 1000000; decide), fun tl htl => ?_⟩
    have n2 := ne_of_none p2 htl
    have d1 : al ≠ tl := ne_of_none a2 htl
    refine ⟨_, rfl, p, CLeaves, dx, _, rfl, (by rw [upd_ne n2]; exact p2), T.cl, T.nT, (by show 2 < 1000; decide), ?_⟩
    have p3 : (upd (upd H2 tl (.lst [])) p (.ins CLeaves dx (putF "truths" (.ref tl) (putF "addresses" (.ref al) (putF "n" (.int (n : Int)) []))))) p = some (.ins CLeaves dx (putF "truths" (.ref tl) (putF "addresses" (.ref al) (putF "n" (.int (n : Int)) [])))) := upd_same
    have a3 : (upd (upd H2 tl (.lst [])) p (.ins CLeaves dx (putF "truths" (.ref tl) (putF "addresses" (.ref al) (putF "n" (.int (n : Int)) []))))) al = some (.lst []) := by rw [upd_ne (Ne.symm n1), upd_ne d1]; exact a2
    have t3 : (upd (upd H2 tl (.lst [])) p (.ins CLeaves dx (putF "truths" (.ref tl) (putF "addresses" (.ref al) (putF "n" (.int (n : Int)) []))))) tl = some (.lst []) := by rw [upd_ne (Ne.symm n2), upd_same]
    have x3 : Sx [p] H (upd (upd H2 tl (.lst [])) p (.ins CLeaves dx (putF "truths" (.ref tl) (putF "addresses" (.ref al) (putF "n" (.int (n : Int)) []))))) := (x2.new htl).upd List.mem_cons_self
    show tSeq _ _ _ _ (upd (upd H2 tl (.lst [])) p (.ins CLeaves dx (putF "truths" (.ref tl) (putF "addresses" (.ref al) (putF "n" (.int (n : Int)) [])))))
    generalize upd (upd H2 tl (.lst [])) p (.ins CLeaves dx (putF "truths" (.ref tl) (putF "addresses" (.ref al) (putF "n" (.int (n : Int)) [])))) = H3 at *
    refine ⟨szl (by show 0 ≤ 1000000; decide), fun bl hbl => ?_⟩
    have n3 := ne_of_none p3 hbl
    have d2 : al ≠ bl := ne_of_none a3 hbl
    have d3 : tl ≠ bl := ne_of_none t3 hbl
    refine ⟨_, rfl, p, CLeaves, dx, _, rfl, (by rw [upd_ne n3]; exact p3), T.cl, T.nB, (by show 3 < 1000; decide), ?_⟩
    have p4 : (upd (upd H3 bl (.lst [])) p (.ins CLeaves dx (putF "boxes" (.ref bl) (putF "truths" (.ref tl) (putF "addresses" (.ref al) (putF "n" (.int (n : Int)) [])))))) p = some (.ins CLeaves dx (putF "boxes" (.ref bl) (putF "truths" (.ref tl) (putF "addresses" (.ref al) (putF "n" (.int (n : Int)) []))))) := upd_same
    have a4 : (upd (upd H3 bl (.lst [])) p (.ins CLeaves dx (putF "boxes" (.ref bl) (putF "truths" (.ref tl) (putF "addresses" (.ref al) (putF "n" (.int (n : Int)) [])))))) al = some (.lst []) := by rw [upd_ne (Ne.symm n1), upd_ne d2]; exact a3
    have t4 : (upd (upd H3 bl (.lst [])) p (.ins CLeaves dx (putF "boxes" (.ref bl) (putF "truths" (.ref tl) (putF "addresses" (.ref al) (putF "n" (.int (n : Int)) [])))))) tl = some (.lst []) := by rw [upd_ne (Ne.symm n2), upd_ne d3]; exact t3
    have b4 : (upd (upd H3 bl (.lst [])) p (.ins CLeaves dx (putF "boxes" (.ref bl) (putF "truths" (.ref tl) (putF "addresses" (.ref al) (putF "n" (.int (n : Int)) [])))))) bl = some (.lst []) := by rw [upd_ne (Ne.symm n3), upd_same]
    have x4 : Sx [p] H (upd (upd H3 bl (.lst [])) p (.ins CLeaves dx (putF "boxes" (.ref bl) (putF "truths" (.ref tl) (putF "addresses" (.ref al) (putF "n" (.int (n : Int)) [])))))) := (x3.new hbl).upd List.mem_cons_self
    show tSeq _ _ _ _ (upd (upd H3 bl (.lst [])) p (.ins CLeaves dx (putF "boxes" (.ref bl) (putF "truths" (.ref tl) (putF "addresses" (.ref al) (putF "n" (.int (n : Int)) []))))))
    generalize upd (upd H3 bl (.lst [])) p (.ins CLeaves dx (putF "boxes" (.ref bl) (putF "truths" (.ref tl) (putF "addresses" (.ref al) (putF "n" (.int (n : Int)) []))))) = H4 at *
    intro nd1 hnd
    have n4 := ne_of_none p4 hnd
    have d4 : al ≠ nd1 := ne_of_none a4 hnd
    have d5 : tl ≠ nd1 := ne_of_none t4 hnd
    have d6 : bl ≠ nd1 := ne_of_none b4 hnd
    refine ⟨_, rfl, p, CLeaves, dx, _, rfl, (by rw [upd_ne n4]; exact p4), T.cl, T.nD, (by show 4 < 1000; decide), ?_⟩
    have p5 : (upd (upd H4 nd1 (.dT [])) p (.ins CLeaves dx (fL n al tl bl nd1))) p = some (.ins CLeaves dx (fL n al tl bl nd1)) := upd_same
    have a5 : (upd (upd H4 nd1 (.dT [])) p (.ins CLeaves dx (fL n al tl bl nd1))) al = some (.lst []) := by rw [upd_ne (Ne.symm n1), upd_ne d4]; exact a4
    have t5 : (upd (upd H4 nd1 (.dT [])) p (.ins CLeaves dx (fL n al tl bl nd1))) tl = some (.lst []) := by rw [upd_ne (Ne.symm n2), upd_ne d5]; exact t4
    have b5 : (upd (upd H4 nd1 (.dT [])) p (.ins CLeaves dx (fL n al tl bl nd1))) bl = some (.lst []) := by rw [upd_ne (Ne.symm n3), upd_ne d6]; exact b4
    have m5 : (upd (upd H4 nd1 (.dT [])) p (.ins CLeaves dx (fL n al tl bl nd1))) nd1 = some (.dT []) := by rw [upd_ne (Ne.symm n4), upd_same]
    have x5 : Sx [p] H (upd (upd H4 nd1 (.dT [])) p (.ins CLeaves dx (fL n al tl bl nd1))) := (x4.new hnd).upd List.mem_cons_self
    show Ends.nx _ _ (upd (upd H4 nd1 (.dT [])) p (.ins CLeaves dx (fL n al tl bl nd1)))
    have f0 : H al = none ∧ H tl = none ∧ H bl = none ∧ H nd1 = none := by
      refine ⟨?_, ?_, ?_, ?_⟩
      · cases z : H al with
        | none => rfl
        | some o => have := x1 _ _ (by simp [Ne.symm n1]) z; rw [hal] at this; cases this
      · cases z : H tl with
        | none => rfl
        | some o => have := x2 _ _ (by simp [Ne.symm n2]) z; rw [htl] at this; cases this
      · cases z : H bl with
        | none => rfl
        | some o => have := x3 _ _ (by simp [Ne.symm n3]) z; rw [hbl] at this; cases this
      · cases z : H nd1 with
        | none => rfl
        | some o => have := x4 _ _ (by simp [Ne.symm n4]) z; rw [hnd] at this; cases this
    generalize upd (upd H4 nd1 (.dT [])) p (.ins CLeaves dx (fL n al tl bl nd1)) = H5 at *
    have Sh5 := Sh.sx x5 (fun c xs e => nin1 e hp (by intro z; cases z))
    have q5 := x5 _ _ (nin1 hq hp (by intro z; cases z)) hq
    refine ⟨_, rfl, ⟨tp, n, t⟩, rfl, Sh5, F, hlv, fun H6 fs as s6 e6 pr6 => ?_⟩
    dsimp only at e6 pr6
    have p6 := s6 _ _ p5
    have a6 := s6 _ _ a5
    have t6 := s6 _ _ t5
    have b6 := s6 _ _ b5
    have m6 := s6 _ _ m5
    have q6 := s6 _ _ q5
    have hmap : (leafs n t).map (fun x => (x.ad, x.b)) = lvA t [] := lvB_map t n 0 0 []
    have G := good_leafs F.n6 F.ht hlv
    generalize hL : leafs n t = L at *
    rw [← hmap] at pr6
    have las : as.length = L.length := by rw [pr_len pr6, List.length_map]
    have hpos : 1 ≤ as.length := by
      have := lvA_pos t []
      rw [← hmap, List.length_map] at this
      omega
    have nf : ∀ c o, H6 c = some o → o = .lst [] → c ≠ fs := fun c o e z => by
      subst z
      refine ne_of e e6 (fun z => ?_)
      have z := HO.lst.inj z
      have := congrArg List.length z
      rw [List.length_map] at this
      simp at this
      omega
    have tn : ∀ c xs, H6 c = some (.tup xs) → c ∉ [al, tl, bl, nd1] := fun c xs e => by
      simp only [List.mem_cons, List.not_mem_nil, or_false, not_or]
      exact ⟨ne_of e a6 (by intro z; cases z), ne_of e t6 (by intro z; cases z), ne_of e b6 (by intro z; cases z), ne_of e m6 (by intro z; cases z)⟩
    have nfs : fs ∉ [al, tl, bl, nd1] := by
      simp only [List.mem_cons, List.not_mem_nil, or_false, not_or]
      exact ⟨Ne.symm (nf _ _ a6 rfl), Ne.symm (nf _ _ t6 rfl), Ne.symm (nf _ _ b6 rfl), ne_of e6 m6 (by intro z; cases z)⟩
    have np : p ∉ [al, tl, bl, nd1] := by
      simp only [List.mem_cons, List.not_mem_nil, or_false, not_or]
      exact ⟨n1, n2, n3, n4⟩
    have n6 := F.n6
    refine ⟨fs, rfl, ⟨_, lstOf e6⟩, for_it (walk_list (xs := as.map V.ref)) (fun i σ H7 => ∃ (a2 a3 a4 : Option V), σ = [some (.ref p), some (.ref tp), a2, a3, a4] ∧ Sx [al, tl, bl, nd1] H6 H7 ∧
      H7 al = some (.lst (vA (L.take i))) ∧ H7 tl = some (.lst (vT (L.take i))) ∧ (∃ bs : List Addr, H7 bl = some (.lst (bs.map V.ref)) ∧ Paired (fun a y => H7 a = some (.tup (vR (bx y)))) bs (L.take i)) ∧ H7 nd1 = some (.dT (kvsFrom 0 ((L.take i).map bx))))
      ⟨none, none, none, rfl, Sx.refl _ _, a6, t6, ⟨[], b6, .nil⟩, m6⟩ (fun i σ H7 hi h => lstOf (h.choose_spec.choose_spec.choose_spec.2.1 _ _ nfs e6)) ?_ ?_⟩
    · rintro i x σ H7 H7' hi ⟨a2, a3, a4, rfl, x7, a7, t7, ⟨bs, b7, pb⟩, m7⟩ ⟨rfl, hx⟩
      rw [List.length_map] at hi
      rw [List.getElem?_map] at hx
      have hai : as[i]? = some as[i] := List.getElem?_eq_getElem hi
      rw [hai] at hx
      obtain rfl : V.ref as[i] = x := Option.some.inj hx
      obtain ⟨y0, hy0, ey⟩ := pr_get pr6 hai
      rw [List.getElem?_map] at hy0
      have hiL : i < L.length := by omega
      have hLi : L[i]? = some L[i] := List.getElem?_eq_getElem hiL
      rw [hLi] at hy0
      obtain rfl : (L[i].ad, L[i].b) = y0 := Option.some.inj hy0
      have hmem : L[i] ∈ L := List.getElem_mem hiL
      have ltake : (L.take i).length = i := by rw [List.length_take]; omega
      have hl2 := G.len
      have ey7 := x7 _ _ (tn _ _ ey) ey
      refine ⟨as[i], _, rfl, tupOf ey7, rfl, _, _, rfl, _, _, rfl, rfl, ?_⟩
      refine ⟨_, rfl, tp, _, _, _, rfl, rfl, tupOf (x7 _ _ (tn _ _ q6) q6), rfl, _, rfl, ⟨n, L[i].ad⟩, rfl, by show n ≤ 12; omega, by have := G.adl _ hmem; show L[i].ad.length ≤ n; omega, G.fig _ hmem, fun H8 bq s8 hbq e8 => ?_⟩
      dsimp only at e8
      have ebx : ([V.int (boxA n L[i].ad).1, V.int (boxA n L[i].ad).2.1, V.int (2 ^ (n - L[i].ad.length) : Nat)] : List V) = vR (bx L[i]) := by
        rw [G.box _ hmem]
        have h1 := G.adl _ hmem
        have h2 : n - L[i].ad.length = L[i].k := by omega
        rw [h2]
        rfl
      rw [ebx] at e8
      have b8 := s8 _ _ b7
      have m8 := s8 _ _ m7
      have p7 := x7 _ _ np p6
      have p8 := s8 _ _ p7
      have lbs : bs.length = i := by rw [pr_len pb, ltake]
      refine ⟨_, rfl, p, CLeaves, dx, _, _, rfl, p8, T.cl, T.nB, fL_boxes _ _ _ _ _, bl, _, rfl, .inl (lstOf b8), _, rfl, p, CLeaves, dx, _, _, rfl, p8, T.cl, T.nD, fL_numbers _ _ _ _ _, _, rfl, nd1, _, rfl, DPut.t (k := kR (bx L[i])) m8 (by rw [kR_v]; exact e8) (szL (by rw [kvsFrom_len, List.length_map, ltake]; omega)), ?_⟩
      have hnew : bx L[i] ∉ (L.take i).map bx := fun z => by
        obtain ⟨y, hy, e⟩ := List.mem_map.mp z
        obtain ⟨j, hj, ej⟩ := List.getElem_of_mem hy
        have hj2 : j < i := by omega
        have e1 : L[j]? = some y := by
          have : (L.take i)[j]? = some y := by rw [List.getElem?_eq_getElem hj, ej]
          rw [List.getElem?_take_of_lt hj2] at this
          exact this
        injection e with r1 e
        injection e with r2 e
        have := G.box_inj e1 hLi r1 r2
        omega
      have hval : valV (kvsFrom 0 ((L.take i).map bx)) (kR (bx L[i])) = none := by rw [valV_from, if_neg hnew]
      rw [putK_new _ hval]
      have etk : L.take (i + 1) = L.take i ++ [L[i]] := by rw [List.take_add_one, hLi]; rfl
      have ekv : kvsFrom 0 ((L.take i).map bx) ++ [(kR (bx L[i]), V.int ((bs.map V.ref).length : Nat))] = kvsFrom 0 ((L.take (i + 1)).map bx) := by
        rw [etk, List.map_append, List.map_singleton, kvsFrom_snoc, List.length_map, List.length_map, ltake, lbs]
        rfl
      rw [ekv]
      have x8 : Sx [al, tl, bl, nd1] H6 (upd H8 nd1 (.dT (kvsFrom 0 ((L.take (i + 1)).map bx)))) := (x7.trans (sxS s8)).upd (by simp)
      have m9 : (upd H8 nd1 (.dT (kvsFrom 0 ((L.take (i + 1)).map bx)))) nd1 = some (.dT (kvsFrom 0 ((L.take (i + 1)).map bx))) := upd_same
      have a9 : (upd H8 nd1 (.dT (kvsFrom 0 ((L.take (i + 1)).map bx)))) al = some (.lst (vA (L.take i))) := by rw [upd_ne d4]; exact s8 _ _ a7
      have t9 : (upd H8 nd1 (.dT (kvsFrom 0 ((L.take (i + 1)).map bx)))) tl = some (.lst (vT (L.take i))) := by rw [upd_ne d5]; exact s8 _ _ t7
      have b9 : (upd H8 nd1 (.dT (kvsFrom 0 ((L.take (i + 1)).map bx)))) bl = some (.lst (bs.map V.ref)) := by rw [upd_ne d6]; exact b8
      have tm : ∀ c xs, H8 c = some (.tup xs) → (upd H8 nd1 (.dT (kvsFrom 0 ((L.take (i + 1)).map bx)))) c = some (.tup xs) := fun c xs e => by rw [upd_ne (ne_of e m8 (by intro z; cases z))]; exact e
      have pb9 : Paired (fun a y => (upd H8 nd1 (.dT (kvsFrom 0 ((L.take (i + 1)).map bx)))) a = some (.tup (vR (bx y)))) bs (L.take i) := pr_imp pb fun c y _ _ e => tm _ _ (s8 _ _ e)
      have e9 := tm _ _ e8
      show Ends.nx _ _ (upd H8 nd1 (.dT (kvsFrom 0 ((L.take (i + 1)).map bx))))
      generalize upd H8 nd1 (.dT (kvsFrom 0 ((L.take (i + 1)).map bx))) = H9 at *
      have p9 := x8 _ _ np p6
      refine ⟨_, rfl, p, CLeaves, dx, _, _, rfl, p9, T.cl, T.nA, fL_addresses _ _ _ _ _, .inl ⟨rfl, _, .inl (.inl a9)⟩, _, rfl, al, _, _, rfl, rfl, a9, szL (by unfold vA; rw [List.length_map, ltake]; omega), ?_⟩
      refine ⟨_, rfl, p, CLeaves, dx, _, _, rfl, (by rw [upd_ne n1]; exact p9), T.cl, T.nT, fL_truths _ _ _ _ _, .inl ⟨rfl, _, .inl (.inl (by rw [upd_ne (Ne.symm d1)]; exact t9))⟩, _, rfl, tl, _, _, rfl, rfl, (by rw [upd_ne (Ne.symm d1)]; exact t9), szL (by unfold vT; rw [List.length_map, ltake]; omega), ?_⟩
      refine ⟨_, rfl, p, CLeaves, dx, _, _, rfl, (by rw [upd_ne n2, upd_ne n1]; exact p9), T.cl, T.nB, fL_boxes _ _ _ _ _, .inl ⟨rfl, _, .inl (.inl (by rw [upd_ne (Ne.symm d3), upd_ne (Ne.symm d2)]; exact b9))⟩, _, rfl, bl, _, _, rfl, rfl, (by rw [upd_ne (Ne.symm d3), upd_ne (Ne.symm d2)]; exact b9), szL (by rw [List.length_map, lbs]; omega), ?_⟩
      refine ⟨_, _, _, rfl, ((x8.upd (by simp)).upd (by simp)).upd (by simp), ?_, ?_, ⟨bs ++ [bq], ?_, ?_⟩, ?_⟩
      · rw [upd_ne d2, upd_ne d1, upd_same, etk]; unfold vA; rw [List.map_append]; rfl
      · rw [upd_ne d3, upd_same, etk]; unfold vT; rw [List.map_append]; rfl
      · rw [upd_same, List.map_append]; rfl
      · rw [etk]
        have up : ∀ c xs o1 o2 o3, H9 c = some (.tup xs) → upd (upd (upd H9 al o1) tl o2) bl o3 c = some (.tup xs) := fun c xs o1 o2 o3 e => by
          rw [upd_ne (ne_of e b9 (by intro z; cases z)), upd_ne (ne_of e t9 (by intro z; cases z)), upd_ne (ne_of e a9 (by intro z; cases z))]
          exact e
        exact Paired.snoc (pr_imp pb9 fun c y _ _ e => up _ _ _ _ _ e) (up _ _ _ _ _ e9)
      · rw [upd_ne (Ne.symm d6), upd_ne (Ne.symm d5), upd_ne (Ne.symm d4)]
        exact m9
    · rintro σ H7 ⟨a2, a3, a4, rfl, x7, a7, t7, ⟨bs, b7, pb⟩, m7⟩
      rw [List.length_map, las, List.take_length] at *
      refine k H7 ⟨dx, ⟨al, tl, bl, nd1⟩, x7 _ _ np p6, a7, t7, ⟨bs, b7, pb⟩, m7⟩ ?_
      refine Sx.sx (x5.trans (sxS s6)) x7 fun c hc => .inl ?_
      simp only [List.mem_cons, List.not_mem_nil, or_false] at hc
      rcases hc with rfl | rfl | rfl | rfl
      · exact f0.1
      · exact f0.2.1
      · exact f0.2.2.1
      · exact f0.2.2.2
end
end Qf
namespace Qf
open PySem PySem.Spec PyProof.Rows L2
theorem pow_inj2 {a b : Nat} (h : 2 ^ a = 2 ^ b) : a = b := by
  rcases Nat.lt_trichotomy a b with q | q | q
  · have := Nat.pow_lt_pow_right (a := 2) (by decide) q; omega
  · exact q
  · have := Nat.pow_lt_pow_right (a := 2) (by decide) q; omega
theorem idx_bx {n : Nat} {L : List Lf} (g : Good n L) {o : Nat} {x : Lf} (h : L[o]? = some x) : bx x ∈ L.map bx ∧ (L.map bx).idxOf (bx x) = o := by
  have hm : bx x ∈ L.map bx := List.mem_map.mpr ⟨x, List.mem_of_getElem? h, rfl⟩
  refine ⟨hm, ?_⟩
  have hl := List.idxOf_lt_length_of_mem hm
  have e := List.getElem_idxOf hl
  have hl2 : (L.map bx).idxOf (bx x) < L.length := by rw [List.length_map] at hl; exact hl
  rw [List.getElem_map] at e
  have h2 : L[(L.map bx).idxOf (bx x)]? = some L[(L.map bx).idxOf (bx x)] := List.getElem?_eq_getElem hl2
  injection e with r1 e
  injection e with r2 e
  exact g.box_inj h2 h r1 r2
theorem not_bx {n : Nat} {L : List Lf} (g : Good n L) {o : Nat} {x : Lf} (h : L[o]? = some x) {i j k : Nat} (hx : x.has i j) (hk : k < x.k) : [i / 2 ^ k * 2 ^ k, j / 2 ^ k * 2 ^ k, 2 ^ k] ∉ L.map bx := fun z => by
  obtain ⟨y, hy, e⟩ := List.mem_map.mp z
  injection e with r1 e
  injection e with r2 e
  injection e with r3 e
  have ek := pow_inj2 r3
  obtain ⟨o2, h2, e2⟩ := List.getElem_of_mem hy
  have h3 : L[o2]? = some y := by rw [List.getElem?_eq_getElem h2, e2]
  have i1 := in_al i k
  have i2 := in_al j k
  have hyy : y.has i j := ⟨by omega, by rw [ek]; omega, by omega, by rw [ek]; omega⟩
  have := g.uniq h h3 hx hyy
  subst this
  rw [h] at h3
  have := Option.some.inj h3
  subst this
  omega
def spIsOn (C : Addr) : Sp := mkSp (fun x : Addr × Nat × List Lf × Int × Int => [.ref x.1, .int x.2.2.2.1, .int x.2.2.2.2]) fun x H Q => LvAt C H x.1 x.2.1 x.2.2.1 ∧ x.2.1 ≤ 6 ∧
  ∃ b : Bool, (b = true ↔ 0 ≤ x.2.2.2.1 ∧ x.2.2.2.1 < 2 ^ x.2.1 ∧ 0 ≤ x.2.2.2.2 ∧ x.2.2.2.2 < 2 ^ x.2.1) ∧ Q (.bl b) H
structure NatA where
  p : Addr
  n : Nat
  L : List Lf
  i : Nat
  j : Nat
def spNumberAt (C : Addr) : Sp := mkSp (fun x : NatA => [.ref x.p, .int x.i, .int x.j]) fun x H Q => LvAt C H x.p x.n x.L ∧ Good x.n x.L ∧ ∃ (o : Nat) (y : Lf), x.L[o]? = some y ∧ y.has x.i x.j ∧ ∀ H', Same H H' → Q (.int o) H'
theorem al_cast (i k : Nat) : ((i : Int) / 2 ^ ((k : Nat) : Int).toNat) * 2 ^ ((k : Nat) : Int).toNat = ((i / 2 ^ k * 2 ^ k : Nat) : Int) := by
  rw [Int.toNat_natCast]
  push_cast
  rfl
section
variable {P : Program} {w : World} {K : PySem.W.Frag} {mg : Str → Option Value} {base : Heap}
theorem ok_want_way (B : Bl mg) (D : Dfn K mg "want_way" s_want_way)  : Cal P w K mg base 1 "want_way" spWay := by
  refine cal_of D sc_want_way (fun _ _ _ _ _ _ us hl => match us, hl with | [_], _ => rfl) (fun vs H Q E h => ?_) (fun f cdv A outer s H vs Q E hr h => ?_)
  · obtain ⟨a, rfl, _⟩ := h
    rfl
  · have nd := sc_want_way.nd
    have hu := hu_of hr
    have hu65 := hu65_of hr
    obtain ⟨b, rfl, k⟩ := h
    refine ⟨_, (pss_one (ps_if (PW.pt (pw_or (pt_not (pt_val (pe_callB call_isi (by rfl) B.isinstance bt_isinstance (pa_cons (pv 0) (pa_cons (pe_bltn (v := .ty "str") (u := .type "str") (by rfl) B.str bt_str rfl) pa_nil))))) (pw_or1 (pt_cmpR op_notIn_seq (pv 0) (pe_tup (pa_cons (C8.pe_gc rfl B.cSIDES) (pa_cons (C8.pe_gc rfl B.cCORNERS) pa_nil))) (by rfl))))) (pss_one ps_never) pss_nil)), ?_⟩
    refine ⟨_, rfl, _, _, _, _, true, rfl, .ty _, .base (.str _), kit_ty (by decide +kernel), true, rfl, iteF ?_⟩
    refine ⟨_, rfl, szl (by show 2 ≤ 1000000; decide), fun q hq => ⟨q, _, rfl, .inr (tupOf upd_same), rfl, rfl, _, rfl, ?_⟩⟩
    cases b with
    | true => exact iteF (k _ (same_new hq))
    | false => exact iteF (k _ (same_new hq))
theorem ok_other_way (B : Bl mg) (D : Dfn K mg "other_way" s_other_way)  : Cal P w K mg base 1 "other_way" spOther := by
  refine cal_of D sc_other_way (fun _ _ _ _ _ _ us hl => match us, hl with | [_], _ => rfl) (fun vs H Q E h => ?_) (fun f cdv A outer s H vs Q E hr h => ?_)
  · obtain ⟨a, rfl, _⟩ := h
    rfl
  · have nd := sc_other_way.nd
    have hu := hu_of hr
    have hu65 := hu65_of hr
    obtain ⟨b, rfl, k⟩ := h
    refine ⟨_, (pss_cons (ps_if (pt_cmpR op_eq (pv 0) (C8.pe_gc rfl B.cSIDES) (nomark _)) (pss_one (ps_ret (C8.pe_gc rfl B.cCORNERS))) pss_nil)
      (pss_one (ps_ret (C8.pe_gc rfl B.cSIDES)))), ?_⟩
    cases b with
    | true => exact ⟨_, rfl, rfl, _, rfl, iteF k⟩
    | false => exact ⟨_, rfl, rfl, _, rfl, iteT k⟩
theorem ok_Leaves_is_on (B : Bl mg) {CLeaves : Addr} (hC : Cls K CLeaves) (D : Dme K CLeaves "is_on" "Leaves.is_on" s_Leaves_is_on) (T : LT K CLeaves) : Met P w K mg base 1 CLeaves "is_on" (spIsOn CLeaves) := by
  refine met_of hC D sc_Leaves_is_on (fun _ _ _ _ _ _ us hl => match us, hl with | [_, _, _], _ => rfl) (fun vs H Q E h => ?_) (fun f cdv A outer s H vs Q E hr h => ?_)
  · obtain ⟨a, rfl, _⟩ := h
    rfl
  · have nd := sc_Leaves_is_on.nd
    have hu := hu_of hr
    have hu65 := hu65_of hr
    obtain ⟨⟨p, n, L, i, j⟩, rfl, ⟨dx, y, hp, hL⟩, h6, b, hb, k⟩ := h
    dsimp only at hp hL h6 hb k
    have eb : b = decide (0 ≤ i ∧ i < 2 ^ n ∧ 0 ≤ j ∧ j < 2 ^ n) := by rw [Bool.eq_iff_iff, hb, decide_eq_true_iff]
    subst eb
    refine ⟨_, (pss_cons (ps_set (i := 3) nd rfl (by first | exact Or.inl rfl | exact Or.inr rfl) (pe_op op_shl pe_int (pe_fld (pv 0) rfl)))
      (pss_one (ps_ret (pe_and (pe_cmpR op_le pe_int (pv 1) (nomark _)) (pe_and (pe_cmpR op_lt (pv 1) (pv 3) (nomark _)) (pe_and (pe_cmpR op_le pe_int (pv 2) (nomark _)) (pe_one (pe_cmpR op_lt (pv 2) (pv 3) (nomark _))))))))), ?_⟩
    refine ⟨_, rfl, p, CLeaves, dx, _, _, rfl, hp, T.cl, T.nN, fL_n _ _ _ _ _, _, _, rfl, rfl, ⟨by omega, by omega, by decide⟩, ?_⟩
    have e : (1 : Int) * 2 ^ (n : Int).toNat = 2 ^ n := by rw [Int.one_mul] <;> rfl
    refine ⟨_, rfl, _, _, rfl, rfl, _, rfl, ite_d (fun h0 => ⟨_, rfl, _, rfl, _, _, rfl, rfl, _, rfl, ite_d (fun h1 => ⟨_, rfl, _, _, rfl, rfl, _, rfl, ite_d (fun h2 => ⟨_, rfl, _, rfl, _, _, rfl, rfl, ?_⟩) (fun h2 => ?_)⟩) (fun h1 => ?_)⟩) (fun h0 => ?_)⟩
    · have h1' : i < 2 ^ n := by rw [← e]; exact h1
      refine qbl ?_ k
      show decide (j < 1 * 2 ^ (n : Int).toNat) = _
      rw [e]
      by_cases h3 : j < 2 ^ n
      · rw [decide_eq_true h3, decide_eq_true ⟨h0, h1', h2, h3⟩]
      · rw [decide_eq_false h3, decide_eq_false fun z => h3 z.2.2.2]
    · exact qbl (decide_eq_false fun z => h2 z.2.2.1).symm k
    · exact qbl (decide_eq_false fun z => h1 (by show i < 1 * 2 ^ (n : Int).toNat; rw [e]; exact z.2.1)).symm k
    · exact qbl (decide_eq_false fun z => h0 z.1).symm k
theorem ok_Leaves_number_at (B : Bl mg) {CLeaves : Addr} (hC : Cls K CLeaves) (D : Dme K CLeaves "number_at" "Leaves.number_at" s_Leaves_number_at) (T : LT K CLeaves) : Met P w K mg base 1 CLeaves "number_at" (spNumberAt CLeaves) := by
  refine met_of hC D sc_Leaves_number_at (fun _ _ _ _ _ _ us hl => match us, hl with | [_, _, _], _ => rfl) (fun vs H Q E h => ?_) (fun f cdv A outer s H vs Q E hr h => ?_)
  · obtain ⟨a, rfl, _⟩ := h
    rfl
  · have nd := sc_Leaves_number_at.nd
    have hu := hu_of hr
    have hu65 := hu65_of hr
    obtain ⟨⟨p, n, L, i, j⟩, rfl, Lv, g, o, y, ho, hy, k⟩ := h
    dsimp only at Lv g ho hy k
    refine ⟨_, (pss_cons (ps_for PassesOwn.never rfl (pi_range1 rfl B.range (pa_cons (pe_op op_add (pe_fld (pv 0) rfl) pe_int) pa_nil)) (pg_name (i := 3) nd rfl (by first | exact Or.inl rfl | exact Or.inr rfl))
      (pss_cons (ps_set (i := 4) nd rfl (by first | exact Or.inl rfl | exact Or.inr rfl) (pe_tup (pa_cons (pe_op op_shl (pe_op op_shr (pv 1) (pv 3)) (pv 3)) (pa_cons (pe_op op_shl (pe_op op_shr (pv 2) (pv 3)) (pv 3)) (pa_cons (pe_op op_shl pe_int (pv 3)) pa_nil)))))
      (pss_one (ps_if (pt_cmp (pc_din hu (pv 4) (pe_fld (pv 0) rfl))) (pss_one (ps_ret (pe_dget hu (pe_fld (pv 0) rfl) (pv 4) (fun _ _ => rfl)))) pss_nil))))
      (pss_one (ps_ret pe_non))), ?_⟩
    obtain ⟨dx, z, hp, hL⟩ := id Lv
    have h6 := g.n6
    have hm := List.mem_of_getElem? ho
    have hlt := g.lt hm
    have hpw : ∀ m, m ≤ 6 → 2 ^ m ≤ 64 := fun m hm => Nat.pow_le_pow_right (by decide) hm
    have hp6 := hpw n h6
    have hi64 : i < 64 := by have := hy.2.1; omega
    have hj64 : j < 64 := by have := hy.2.2.2; omega
    refine ⟨_, rfl, p, CLeaves, dx, _, _, rfl, hp, T.cl, T.nN, fL_n _ _ _ _ _, _, _, rfl, rfl, _, rfl, by omega, by omega, ?_⟩
    rw [show ((n : Int) + 1).toNat = n + 1 by omega]
    refine for_range (fun m σ H1 => ∃ a3 a4, σ = [some (.ref p), some (.int i), some (.int j), a3, a4] ∧ Same H H1 ∧ m ≤ y.k) ⟨_, _, rfl, Same.refl _, Nat.zero_le _⟩ ?_ ?_
    · rintro m σ H1 hmn ⟨a3, a4, rfl, s1, hmk⟩
      rw [Int.zero_add]
      have c1 : CPow (((i : Int) / 2 ^ ((m : Nat) : Int).toNat)) (m : Int) := by
        refine ⟨by omega, by omega, ?_⟩
        rw [Int.toNat_natCast]
        have : ((i : Int) / 2 ^ m) = ((i / 2 ^ m : Nat) : Int) := by push_cast; rfl
        rw [this, Int.natAbs_natCast]
        have := Nat.div_le_self i (2 ^ m)
        exact Nat.lt_of_le_of_lt this (Nat.lt_trans hi64 (by decide))
      have c2 : CPow (((j : Int) / 2 ^ ((m : Nat) : Int).toNat)) (m : Int) := by
        refine ⟨by omega, by omega, ?_⟩
        rw [Int.toNat_natCast]
        have : ((j : Int) / 2 ^ m) = ((j / 2 ^ m : Nat) : Int) := by push_cast; rfl
        rw [this, Int.natAbs_natCast]
        have := Nat.div_le_self j (2 ^ m)
        exact Nat.lt_of_le_of_lt this (Nat.lt_trans hj64 (by decide))
      refine ⟨_, rfl, _, rfl, _, _, rfl, rfl, (by omega), _, rfl, _, _, rfl, rfl, c1, ?_⟩
      refine ⟨_, rfl, _, rfl, _, _, rfl, rfl, (by omega), _, rfl, _, _, rfl, rfl, c2, ?_⟩
      refine ⟨_, rfl, _, _, rfl, rfl, ⟨by omega, by omega, by decide⟩, szl (by show 3 ≤ 1000000; decide), fun q hq => ?_⟩
      have ev : ([V.int ((i : Int) / 2 ^ ((m : Nat) : Int).toNat * 2 ^ ((m : Nat) : Int).toNat), V.int ((j : Int) / 2 ^ ((m : Nat) : Int).toNat * 2 ^ ((m : Nat) : Int).toNat), V.int (1 * 2 ^ ((m : Nat) : Int).toNat)] : List V) = (kR [i / 2 ^ m * 2 ^ m, j / 2 ^ m * 2 ^ m, 2 ^ m]).map kV := by
        rw [al_cast, al_cast, kR_v, Int.one_mul, Int.toNat_natCast]
        unfold vR
        simp only [List.map_cons, List.map_nil]
        push_cast
        rfl
      have hq2 : (upd H1 q (.tup [V.int ((i : Int) / 2 ^ ((m : Nat) : Int).toNat * 2 ^ ((m : Nat) : Int).toNat), V.int ((j : Int) / 2 ^ ((m : Nat) : Int).toNat * 2 ^ ((m : Nat) : Int).toNat), V.int (1 * 2 ^ ((m : Nat) : Int).toNat)])) q = some (.tup ((kR [i / 2 ^ m * 2 ^ m, j / 2 ^ m * 2 ^ m, 2 ^ m]).map kV)) := by
        rw [← ev]; exact upd_same
      have s2 := sNew s1 hq (o := .tup [V.int ((i : Int) / 2 ^ ((m : Nat) : Int).toNat * 2 ^ ((m : Nat) : Int).toNat), V.int ((j : Int) / 2 ^ ((m : Nat) : Int).toNat * 2 ^ ((m : Nat) : Int).toNat), V.int (1 * 2 ^ ((m : Nat) : Int).toNat)])
      show Ends.nx _ _ (upd H1 q (.tup [V.int ((i : Int) / 2 ^ ((m : Nat) : Int).toNat * 2 ^ ((m : Nat) : Int).toNat), V.int ((j : Int) / 2 ^ ((m : Nat) : Int).toNat * 2 ^ ((m : Nat) : Int).toNat), V.int (1 * 2 ^ ((m : Nat) : Int).toNat)]))
      generalize upd H1 q (.tup [V.int ((i : Int) / 2 ^ ((m : Nat) : Int).toNat * 2 ^ ((m : Nat) : Int).toNat), V.int ((j : Int) / 2 ^ ((m : Nat) : Int).toNat * 2 ^ ((m : Nat) : Int).toNat), V.int (1 * 2 ^ ((m : Nat) : Int).toNat)]) = H2 at *
      have hp2 := s2 _ _ hp
      have hL2 := hL.same s2
      have gt := DGet.t hL2.d hq2
      refine ⟨_, rfl, _, rfl, p, CLeaves, dx, _, _, rfl, hp2, T.cl, T.nD, fL_numbers _ _ _ _ _, z.nd, _, rfl, gt, ?_⟩
      rw [valV_from] at gt ⊢
      by_cases hk : m = y.k
      · subst hk
        have eb := g.box_at hm hy
        have er : [i / 2 ^ y.k * 2 ^ y.k, j / 2 ^ y.k * 2 ^ y.k, 2 ^ y.k] = bx y := by rw [eb.1, eb.2]; rfl
        obtain ⟨h1, h2⟩ := idx_bx g ho
        rw [er, if_pos h1, h2] at gt
        rw [er, if_pos h1, h2]
        refine ⟨true, rfl, iteT ?_⟩
        refine ⟨_, rfl, p, CLeaves, dx, _, _, rfl, hp2, T.cl, T.nD, fL_numbers _ _ _ _ _, _, rfl, z.nd, _, rfl, gt, ?_⟩
        exact k H2 s2
      · have hk2 : m < y.k := by omega
        rw [if_neg (not_bx g ho hy hk2)]
        exact ⟨false, rfl, iteF ⟨_, _, rfl, s2, hk2⟩⟩
    · rintro σ H1 ⟨a3, a4, rfl, s1, hmk⟩
      have := hlt.2.2
      omega
end
end Qf
namespace Qf
open PySem PySem.Spec PyProof.Rows L2
theorem nL_is_on {n : Nat} {al tl bl nd : Addr} : (fL n al tl bl nd).lookup ("is_on" : Str) = none := fL_no _ _ _ _ _ (by decide +kernel) (by decide +kernel) (by decide +kernel) (by decide +kernel) (by decide +kernel)
theorem nL_number_at {n : Nat} {al tl bl nd : Addr} : (fL n al tl bl nd).lookup ("number_at" : Str) = none := fL_no _ _ _ _ _ (by decide +kernel) (by decide +kernel) (by decide +kernel) (by decide +kernel) (by decide +kernel)
theorem nL_on_right {n : Nat} {al tl bl nd : Addr} : (fL n al tl bl nd).lookup ("on_right" : Str) = none := fL_no _ _ _ _ _ (by decide +kernel) (by decide +kernel) (by decide +kernel) (by decide +kernel) (by decide +kernel)
theorem nL_below {n : Nat} {al tl bl nd : Addr} : (fL n al tl bl nd).lookup ("below" : Str) = none := fL_no _ _ _ _ _ (by decide +kernel) (by decide +kernel) (by decide +kernel) (by decide +kernel) (by decide +kernel)
theorem nL_at_corners {n : Nat} {al tl bl nd : Addr} : (fL n al tl bl nd).lookup ("at_corners" : Str) = none := fL_no _ _ _ _ _ (by decide +kernel) (by decide +kernel) (by decide +kernel) (by decide +kernel) (by decide +kernel)
theorem nL_links {n : Nat} {al tl bl nd : Addr} : (fL n al tl bl nd).lookup ("links" : Str) = none := fL_no _ _ _ _ _ (by decide +kernel) (by decide +kernel) (by decide +kernel) (by decide +kernel) (by decide +kernel)
theorem nL_groups {n : Nat} {al tl bl nd : Addr} : (fL n al tl bl nd).lookup ("groups" : Str) = none := fL_no _ _ _ _ _ (by decide +kernel) (by decide +kernel) (by decide +kernel) (by decide +kernel) (by decide +kernel)
theorem nL_first_cell {n : Nat} {al tl bl nd : Addr} : (fL n al tl bl nd).lookup ("first_cell" : Str) = none := fL_no _ _ _ _ _ (by decide +kernel) (by decide +kernel) (by decide +kernel) (by decide +kernel) (by decide +kernel)
theorem nL_is_at_edge {n : Nat} {al tl bl nd : Addr} : (fL n al tl bl nd).lookup ("is_at_edge" : Str) = none := fL_no _ _ _ _ _ (by decide +kernel) (by decide +kernel) (by decide +kernel) (by decide +kernel) (by decide +kernel)
theorem nL_parts {n : Nat} {al tl bl nd : Addr} : (fL n al tl bl nd).lookup ("parts" : Str) = none := fL_no _ _ _ _ _ (by decide +kernel) (by decide +kernel) (by decide +kernel) (by decide +kernel) (by decide +kernel)
theorem nL_holes {n : Nat} {al tl bl nd : Addr} : (fL n al tl bl nd).lookup ("holes" : Str) = none := fL_no _ _ _ _ _ (by decide +kernel) (by decide +kernel) (by decide +kernel) (by decide +kernel) (by decide +kernel)
theorem nL_shape_of {n : Nat} {al tl bl nd : Addr} : (fL n al tl bl nd).lookup ("shape_of" : Str) = none := fL_no _ _ _ _ _ (by decide +kernel) (by decide +kernel) (by decide +kernel) (by decide +kernel) (by decide +kernel)
def iV (os : List Nat) : List V := os.map fun (o : Nat) => V.int (o : Int)
theorem iV_len (os : List Nat) : (iV os).length = os.length := List.length_map ..
theorem iV_snoc (os : List Nat) (o : Nat) : iV (os ++ [o]) = iV os ++ [.int (o : Int)] := by unfold iV; rw [List.map_append]; rfl
theorem iV_get {os : List Nat} {i : Nat} {v : V} (h : (iV os)[i]? = some v) : ∃ o, os[i]? = some o ∧ v = .int (o : Int) := by
  unfold iV at h
  rw [List.getElem?_map] at h
  cases e : os[i]? with
  | none => rw [e] at h; cases h
  | some k => rw [e] at h; exact ⟨k, rfl, (Option.some.inj h).symm⟩
theorem iV_at {os : List Nat} {i o : Nat} (h : os[i]? = some o) : (iV os)[i]? = some (.int (o : Int)) := by
  unfold iV
  rw [List.getElem?_map, h]
  rfl
structure KA where
  p : Addr
  n : Nat
  L : List Lf
  k : Nat
  x : Lf
def spNb (C : Addr) (R : Nat → List Lf → Lf → Nat → Prop) : Sp := mkSp (fun a : KA => [.ref a.p, .int (a.k : Int)]) fun a H Q => LvAt C H a.p a.n a.L ∧ Good a.n a.L ∧ a.L[a.k]? = some a.x ∧
  ∀ H' q (os : List Nat), Same H H' → H' q = some (.lst (iV os)) → os.length ≤ 64 → (∀ o, o ∈ os ↔ R a.n a.L a.x o) → Q (.ref q) H'
theorem LvIn.box {H : Hp} {y : LAd} {L : List Lf} (h : LvIn H y L) {k : Nat} {x : Lf} (e : L[k]? = some x) : ∃ (bs : List Addr) (b : Addr), H y.bl = some (.lst (bs.map V.ref)) ∧ bs[k]? = some b ∧ (bs.map V.ref)[k]? = some (.ref b) ∧ H b = some (.tup (vR (bx x))) := by
  obtain ⟨bs, h1, h2⟩ := h.b
  obtain ⟨b, h3, h4⟩ := pr_get2 h2 e
  exact ⟨bs, b, h1, h3, by rw [List.getElem?_map, h3]; rfl, h4⟩
section
variable {P : Program} {w : World} {K : PySem.W.Frag} {mg : Str → Option Value} {base : Heap}
theorem ok_Leaves_on_right (B : Bl mg) {CLeaves : Addr} (hC : Cls K CLeaves) (D : Dme K CLeaves "on_right" "Leaves.on_right" s_Leaves_on_right) (T : LT K CLeaves) (c_Leaves_is_on : Met P w K mg base 1 CLeaves "is_on" (spIsOn CLeaves)) (c_Leaves_number_at : Met P w K mg base 1 CLeaves "number_at" (spNumberAt CLeaves)) : Met P w K mg base 2 CLeaves "on_right" (spNb CLeaves RightOf) := by
  refine met_of hC D sc_Leaves_on_right (fun _ _ _ _ _ _ us hl => match us, hl with | [_, _], _ => rfl) (fun vs H Q E h => ?_) (fun f cdv A outer s H vs Q E hr h => ?_)
  · obtain ⟨a, rfl, _⟩ := h
    rfl
  · have nd := sc_Leaves_on_right.nd
    have hu := hu_of hr
    have hu65 := hu65_of hr
    obtain ⟨⟨p, n, L, k0, x⟩, rfl, Lv, g, hx, k⟩ := h
    dsimp only at Lv g hx k
    refine ⟨_, (pss_cons (ps_asg (pe_ix ix_list (pe_fld (pv 0) rfl) (pv 1) (fun _ _ => rfl)) (pg_tup rfl (pgs_cons (pg_name (i := 2) nd rfl (by first | exact Or.inl rfl | exact Or.inr rfl)) (pgs_cons (pg_name (i := 3) nd rfl (by first | exact Or.inl rfl | exact Or.inr rfl)) (pgs_cons (pg_name (i := 4) nd rfl (by first | exact Or.inl rfl | exact Or.inr rfl)) pgs_nil)))))
      (pss_cons (ps_set (i := 5) nd rfl (by first | exact Or.inl rfl | exact Or.inr rfl) (pe_lst pa_nil))
      (pss_cons (ps_set (i := 6) nd rfl (by first | exact Or.inl rfl | exact Or.inr rfl) (pv 2))
      (pss_cons (ps_while PassesOwn.never (PW.pt (pw_and (pt_val (pe_mt c_Leaves_is_on hr (by omega) (pv 0) (pa_cons (pv 2) (pa_cons (pe_op op_add (pv 3) (pv 4)) pa_nil)))) (pw_and1 (pt_cmpR op_lt (pv 6) (pe_op op_add (pv 2) (pv 4)) (nomark _))))) (pss_cons (ps_set (i := 7) nd rfl (by first | exact Or.inl rfl | exact Or.inr rfl) (pe_mt c_Leaves_number_at hr (by omega) (pv 0) (pa_cons (pv 6) (pa_cons (pe_op op_add (pv 3) (pv 4)) pa_nil))))
      (pss_cons (ps_expr (pe_bm PySem.F.plainAttrs_list PySem.F.slot_list_append PySem.F.type_list_append mt_append (pv 5) (pa_cons (pv 7) pa_nil)))
      (pss_one (ps_set (i := 6) nd rfl (by first | exact Or.inl rfl | exact Or.inr rfl) (pe_op op_add (pe_ix ix_tup (pe_ix ix_list (pe_fld (pv 0) rfl) (pv 7) (fun _ _ => rfl)) pe_int (fun _ _ => rfl)) (pe_ix ix_tup (pe_ix ix_list (pe_fld (pv 0) rfl) (pv 7) (fun _ _ => rfl)) pe_int (fun _ _ => rfl))))))))
      (pss_one (ps_ret (pv 5))))))), ?_⟩
    obtain ⟨dx, z, hp, hL⟩ := id Lv
    obtain ⟨bs, b, e1, e2, e2', e3⟩ := hL.box hx
    have h6 := g.n6
    have hm := List.mem_of_getElem? hx
    have hlt := g.lt hm
    have hpw : ∀ m, m ≤ 6 → 2 ^ m ≤ 64 := fun m hm => Nat.pow_le_pow_right (by decide) hm
    have hp6 := hpw n h6
    refine ⟨_, rfl, p, CLeaves, dx, _, _, rfl, hp, T.cl, T.nB, fL_boxes _ _ _ _ _, _, rfl, z.bl, _, _, .ref b, rfl, rfl, lstOf e1, atI_nat e2', ?_⟩
    refine ⟨b, _, rfl, tupOf e3, rfl, _, _, rfl, _, _, rfl, _, _, rfl, rfl, szl (by show 0 ≤ 1000000; decide), fun fl hfl => ?_⟩
    have s1 := same_new hfl (o := .lst [])
    have f1 : (upd H fl (.lst [])) fl = some (.lst []) := upd_same
    show Ends.nx _ _ (upd H fl (.lst []))
    generalize upd H fl (.lst []) = H1 at *
    have nfl : ∀ c o, H c = some o → c ∉ [fl] := fun c o e => by
      simp only [List.mem_singleton]
      exact ne_of_none e hfl
    refine ⟨_, rfl, ?_⟩
    refine ⟨fun m σ H2 => ∃ (os : List Nat) (here : Nat) (a7 : Option V), m = (x.r + 2 ^ x.k) - here ∧ σ = [some (.ref p), some (.int (k0 : Int)), some (.int (x.r : Int)), some (.int (x.c : Int)), some (.int (2 ^ x.k : Nat)), some (.ref fl), some (.int (here : Int)), a7] ∧
      Sx [fl] H1 H2 ∧ H2 fl = some (.lst (iV os)) ∧ x.r ≤ here ∧ os.length ≤ 64 ∧ os.length + x.r ≤ here ∧ ∀ o, o ∈ os ↔ (x.c + 2 ^ x.k < 2 ^ n ∧ ∃ y, L[o]? = some y ∧ ∃ i, x.r ≤ i ∧ i < here ∧ i < x.r + 2 ^ x.k ∧ y.has i (x.c + 2 ^ x.k)),
      ⟨_, [], x.r, none, rfl, rfl, Sx.refl _ _, f1, Nat.le_refl _, Nat.zero_le _, by simp, fun o => ⟨fun z => (by cases z), fun ⟨_, y, _, i, h1, h2, _⟩ => by omega⟩⟩, ?_⟩
    rintro m σ H2 ⟨os, here, a7, rfl, rfl, x2, f2, h2, h64, hlen, hos⟩
    have Sx0 : ∀ c o, H c = some o → H2 c = some o := fun c o e => x2 _ _ (nfl _ _ e) (s1 _ _ e)
    have Lv2 : LvAt CLeaves H2 p n L := Lv.same Sx0
    have s02 : Same H H2 := Sx0
    refine ⟨_, rfl, p, dx, _, rfl, s02 _ _ hp, nL_is_on, _, rfl, _, rfl, _, rfl, _, _, rfl, rfl, ⟨p, n, L, (x.r : Int), ((x.c : Int) + ((2 ^ x.k : Nat) : Int))⟩, rfl, Lv2, h6, ?_⟩
    refine ⟨decide (x.c + 2 ^ x.k < 2 ^ n), ?_, ?_⟩
    · have e : (2 : Int) ^ n = ((2 ^ n : Nat) : Int) := by push_cast; rfl
      dsimp only
      rw [e, decide_eq_true_iff]
      have := pow_pos2 x.k
      constructor
      · intro hq; exact ⟨by omega, by omega, by omega, by omega⟩
      · intro z; omega
    refine ⟨_, rfl, ite_d (fun hc => ?_) (fun hc => ?_)⟩
    · refine ⟨_, rfl, _, rfl, _, rfl, _, _, rfl, rfl, _, _, rfl, rfl, _, rfl, ite_d (fun hh => ?_) (fun hh => ?_)⟩
      · have hh : here < x.r + 2 ^ x.k := by omega
        obtain ⟨o, y, ho, hy⟩ := g.at (i := here) (j := x.c + 2 ^ x.k) (by omega) hc
        refine ⟨_, fun σ' H' hN => hN, ?_⟩
        refine ⟨_, rfl, p, dx, _, rfl, s02 _ _ hp, nL_number_at, _, rfl, _, rfl, _, rfl, _, _, rfl, rfl, ⟨p, n, L, here, x.c + 2 ^ x.k⟩, rfl, Lv2, g, o, y, ho, hy, fun H3 s3 => ?_⟩
        have f3 := s3 _ _ f2
        refine ⟨_, rfl, .inl ⟨rfl, _, .inl (.inl f3)⟩, _, rfl, fl, _, _, rfl, rfl, f3, szL (by rw [iV_len]; omega), ?_⟩
        have x4 : Sx [fl] H1 (upd H3 fl (.lst (iV (os ++ [o])))) := (x2.trans (sxS s3)).upd List.mem_cons_self
        rw [← iV_snoc]
        have f4 : (upd H3 fl (.lst (iV (os ++ [o])))) fl = some (.lst (iV (os ++ [o]))) := upd_same
        show Ends.nx _ _ (upd H3 fl (.lst (iV (os ++ [o]))))
        generalize upd H3 fl (.lst (iV (os ++ [o]))) = H4 at *
        have s04 : Same H H4 := fun c u e => x4 _ _ (nfl _ _ e) (s1 _ _ e)
        obtain ⟨bs', b', q1, q2, q2', q3⟩ := (hL.same s04).box ho
        refine ⟨_, rfl, p, CLeaves, dx, _, _, rfl, s04 _ _ hp, T.cl, T.nB, fL_boxes _ _ _ _ _, _, rfl, z.bl, _, _, .ref b', rfl, rfl, lstOf q1, atI_nat q2', b', _, _, .int (y.r : Int), rfl, rfl, tupOf q3, rfl, ?_⟩
        refine ⟨_, rfl, p, CLeaves, dx, _, _, rfl, s04 _ _ hp, T.cl, T.nB, fL_boxes _ _ _ _ _, _, rfl, z.bl, _, _, .ref b', rfl, rfl, lstOf q1, atI_nat q2', b', _, _, .int (2 ^ y.k : Nat), rfl, rfl, tupOf q3, rfl, _, _, rfl, rfl, ?_⟩
        obtain ⟨y1, y2, y3, y4⟩ := hy
        refine ⟨x.r + 2 ^ x.k - (y.r + 2 ^ y.k), by omega, os ++ [o], y.r + 2 ^ y.k, _, rfl, rfl, x4, f4, by omega, ?_, ?_, fun o' => ?_⟩
        · rw [List.length_append, List.length_singleton]
          have : x.r + 2 ^ x.k ≤ 64 := by omega
          omega
        · rw [List.length_append, List.length_singleton]; omega
        · rw [List.mem_append, List.mem_singleton, hos]
          constructor
          · rintro (⟨_, y', e', i, i1, i2, i3, i4⟩ | rfl)
            · exact ⟨hc, y', e', i, i1, by omega, i3, i4⟩
            · exact ⟨hc, y, ho, here, h2, by omega, hh, y1, y2, y3, y4⟩
          · rintro ⟨_, y', e', i, i1, i2, i3, i4⟩
            by_cases hi : i < here
            · exact .inl ⟨hc, y', e', i, i1, hi, i3, i4⟩
            · exact .inr (g.uniq e' ho i4 ⟨by omega, by omega, y3, y4⟩)
      · refine ⟨_, rfl, k H2 fl os s02 f2 h64 fun o => ?_⟩
        rw [hos]
        have hh : x.r + 2 ^ x.k ≤ here := by omega
        constructor
        · rintro ⟨_, y', e', i, i1, i2, i3, i4⟩
          exact ⟨hc, y', e', i, i1, i3, i4⟩
        · rintro ⟨_, y', e', i, i1, i3, i4⟩
          exact ⟨hc, y', e', i, i1, by omega, i3, i4⟩
    · refine ⟨_, rfl, k H2 fl os s02 f2 h64 fun o => ?_⟩
      rw [hos]
      exact ⟨fun z => absurd z.1 hc, fun z => absurd z.1 hc⟩
theorem ok_Leaves_below (B : Bl mg) {CLeaves : Addr} (hC : Cls K CLeaves) (D : Dme K CLeaves "below" "Leaves.below" s_Leaves_below) (T : LT K CLeaves) (c_Leaves_is_on : Met P w K mg base 1 CLeaves "is_on" (spIsOn CLeaves)) (c_Leaves_number_at : Met P w K mg base 1 CLeaves "number_at" (spNumberAt CLeaves)) : Met P w K mg base 2 CLeaves "below" (spNb CLeaves BelowOf) := by
  refine met_of hC D sc_Leaves_below (fun _ _ _ _ _ _ us hl => match us, hl with | [_, _], _ => rfl) (fun vs H Q E h => ?_) (fun f cdv A outer s H vs Q E hr h => ?_)
  · obtain ⟨a, rfl, _⟩ := h
    rfl
  · have nd := sc_Leaves_below.nd
    have hu := hu_of hr
    have hu65 := hu65_of hr
    obtain ⟨⟨p, n, L, k0, x⟩, rfl, Lv, g, hx, k⟩ := h
    dsimp only at Lv g hx k
    refine ⟨_, (pss_cons (ps_asg (pe_ix ix_list (pe_fld (pv 0) rfl) (pv 1) (fun _ _ => rfl)) (pg_tup rfl (pgs_cons (pg_name (i := 2) nd rfl (by first | exact Or.inl rfl | exact Or.inr rfl)) (pgs_cons (pg_name (i := 3) nd rfl (by first | exact Or.inl rfl | exact Or.inr rfl)) (pgs_cons (pg_name (i := 4) nd rfl (by first | exact Or.inl rfl | exact Or.inr rfl)) pgs_nil)))))
      (pss_cons (ps_set (i := 5) nd rfl (by first | exact Or.inl rfl | exact Or.inr rfl) (pe_lst pa_nil))
      (pss_cons (ps_set (i := 6) nd rfl (by first | exact Or.inl rfl | exact Or.inr rfl) (pv 3))
      (pss_cons (ps_while PassesOwn.never (PW.pt (pw_and (pt_val (pe_mt c_Leaves_is_on hr (by omega) (pv 0) (pa_cons (pe_op op_add (pv 2) (pv 4)) (pa_cons (pv 3) pa_nil)))) (pw_and1 (pt_cmpR op_lt (pv 6) (pe_op op_add (pv 3) (pv 4)) (nomark _))))) (pss_cons (ps_set (i := 7) nd rfl (by first | exact Or.inl rfl | exact Or.inr rfl) (pe_mt c_Leaves_number_at hr (by omega) (pv 0) (pa_cons (pe_op op_add (pv 2) (pv 4)) (pa_cons (pv 6) pa_nil))))
      (pss_cons (ps_expr (pe_bm PySem.F.plainAttrs_list PySem.F.slot_list_append PySem.F.type_list_append mt_append (pv 5) (pa_cons (pv 7) pa_nil)))
      (pss_one (ps_set (i := 6) nd rfl (by first | exact Or.inl rfl | exact Or.inr rfl) (pe_op op_add (pe_ix ix_tup (pe_ix ix_list (pe_fld (pv 0) rfl) (pv 7) (fun _ _ => rfl)) pe_int (fun _ _ => rfl)) (pe_ix ix_tup (pe_ix ix_list (pe_fld (pv 0) rfl) (pv 7) (fun _ _ => rfl)) pe_int (fun _ _ => rfl))))))))
      (pss_one (ps_ret (pv 5))))))), ?_⟩
    obtain ⟨dx, z, hp, hL⟩ := id Lv
    obtain ⟨bs, b, e1, e2, e2', e3⟩ := hL.box hx
    have h6 := g.n6
    have hm := List.mem_of_getElem? hx
    have hlt := g.lt hm
    have hpw : ∀ m, m ≤ 6 → 2 ^ m ≤ 64 := fun m hm => Nat.pow_le_pow_right (by decide) hm
    have hp6 := hpw n h6
    refine ⟨_, rfl, p, CLeaves, dx, _, _, rfl, hp, T.cl, T.nB, fL_boxes _ _ _ _ _, _, rfl, z.bl, _, _, .ref b, rfl, rfl, lstOf e1, atI_nat e2', ?_⟩
    refine ⟨b, _, rfl, tupOf e3, rfl, _, _, rfl, _, _, rfl, _, _, rfl, rfl, szl (by show 0 ≤ 1000000; decide), fun fl hfl => ?_⟩
    have s1 := same_new hfl (o := .lst [])
    have f1 : (upd H fl (.lst [])) fl = some (.lst []) := upd_same
    show Ends.nx _ _ (upd H fl (.lst []))
    generalize upd H fl (.lst []) = H1 at *
    have nfl : ∀ c o, H c = some o → c ∉ [fl] := fun c o e => by
      simp only [List.mem_singleton]
      exact ne_of_none e hfl
    refine ⟨_, rfl, ?_⟩
    refine ⟨fun m σ H2 => ∃ (os : List Nat) (here : Nat) (a7 : Option V), m = (x.c + 2 ^ x.k) - here ∧ σ = [some (.ref p), some (.int (k0 : Int)), some (.int (x.r : Int)), some (.int (x.c : Int)), some (.int (2 ^ x.k : Nat)), some (.ref fl), some (.int (here : Int)), a7] ∧
      Sx [fl] H1 H2 ∧ H2 fl = some (.lst (iV os)) ∧ x.c ≤ here ∧ os.length ≤ 64 ∧ os.length + x.c ≤ here ∧ ∀ o, o ∈ os ↔ (x.r + 2 ^ x.k < 2 ^ n ∧ ∃ y, L[o]? = some y ∧ ∃ i, x.c ≤ i ∧ i < here ∧ i < x.c + 2 ^ x.k ∧ y.has (x.r + 2 ^ x.k) i),
      ⟨_, [], x.c, none, rfl, rfl, Sx.refl _ _, f1, Nat.le_refl _, Nat.zero_le _, by simp, fun o => ⟨fun z => (by cases z), fun ⟨_, y, _, i, h1, h2, _⟩ => by omega⟩⟩, ?_⟩
    rintro m σ H2 ⟨os, here, a7, rfl, rfl, x2, f2, h2, h64, hlen, hos⟩
    have Sx0 : ∀ c o, H c = some o → H2 c = some o := fun c o e => x2 _ _ (nfl _ _ e) (s1 _ _ e)
    have Lv2 : LvAt CLeaves H2 p n L := Lv.same Sx0
    have s02 : Same H H2 := Sx0
    refine ⟨_, rfl, p, dx, _, rfl, s02 _ _ hp, nL_is_on, _, rfl, _, rfl, _, _, rfl, rfl, _, rfl, ⟨p, n, L, ((x.r : Int) + ((2 ^ x.k : Nat) : Int)), (x.c : Int)⟩, rfl, Lv2, h6, ?_⟩
    refine ⟨decide (x.r + 2 ^ x.k < 2 ^ n), ?_, ?_⟩
    · have e : (2 : Int) ^ n = ((2 ^ n : Nat) : Int) := by push_cast; rfl
      dsimp only
      rw [e, decide_eq_true_iff]
      have := pow_pos2 x.k
      constructor
      · intro hq; exact ⟨by omega, by omega, by omega, by omega⟩
      · intro z; omega
    refine ⟨_, rfl, ite_d (fun hc => ?_) (fun hc => ?_)⟩
    · refine ⟨_, rfl, _, rfl, _, rfl, _, _, rfl, rfl, _, _, rfl, rfl, _, rfl, ite_d (fun hh => ?_) (fun hh => ?_)⟩
      · have hh : here < x.c + 2 ^ x.k := by omega
        obtain ⟨o, y, ho, hy⟩ := g.at (i := x.r + 2 ^ x.k) (j := here) hc (by omega)
        refine ⟨_, fun σ' H' hN => hN, ?_⟩
        refine ⟨_, rfl, p, dx, _, rfl, s02 _ _ hp, nL_number_at, _, rfl, _, rfl, _, _, rfl, rfl, _, rfl, ⟨p, n, L, x.r + 2 ^ x.k, here⟩, rfl, Lv2, g, o, y, ho, hy, fun H3 s3 => ?_⟩
        have f3 := s3 _ _ f2
        refine ⟨_, rfl, .inl ⟨rfl, _, .inl (.inl f3)⟩, _, rfl, fl, _, _, rfl, rfl, f3, szL (by rw [iV_len]; omega), ?_⟩
        have x4 : Sx [fl] H1 (upd H3 fl (.lst (iV (os ++ [o])))) := (x2.trans (sxS s3)).upd List.mem_cons_self
        rw [← iV_snoc]
        have f4 : (upd H3 fl (.lst (iV (os ++ [o])))) fl = some (.lst (iV (os ++ [o]))) := upd_same
        show Ends.nx _ _ (upd H3 fl (.lst (iV (os ++ [o]))))
        generalize upd H3 fl (.lst (iV (os ++ [o]))) = H4 at *
        have s04 : Same H H4 := fun c u e => x4 _ _ (nfl _ _ e) (s1 _ _ e)
        obtain ⟨bs', b', q1, q2, q2', q3⟩ := (hL.same s04).box ho
        refine ⟨_, rfl, p, CLeaves, dx, _, _, rfl, s04 _ _ hp, T.cl, T.nB, fL_boxes _ _ _ _ _, _, rfl, z.bl, _, _, .ref b', rfl, rfl, lstOf q1, atI_nat q2', b', _, _, .int (y.c : Int), rfl, rfl, tupOf q3, rfl, ?_⟩
        refine ⟨_, rfl, p, CLeaves, dx, _, _, rfl, s04 _ _ hp, T.cl, T.nB, fL_boxes _ _ _ _ _, _, rfl, z.bl, _, _, .ref b', rfl, rfl, lstOf q1, atI_nat q2', b', _, _, .int (2 ^ y.k : Nat), rfl, rfl, tupOf q3, rfl, _, _, rfl, rfl, ?_⟩
        obtain ⟨y3, y4, y1, y2⟩ := hy
        refine ⟨x.c + 2 ^ x.k - (y.c + 2 ^ y.k), by omega, os ++ [o], y.c + 2 ^ y.k, _, rfl, rfl, x4, f4, by omega, ?_, ?_, fun o' => ?_⟩
        · rw [List.length_append, List.length_singleton]
          have : x.c + 2 ^ x.k ≤ 64 := by omega
          omega
        · rw [List.length_append, List.length_singleton]; omega
        · rw [List.mem_append, List.mem_singleton, hos]
          constructor
          · rintro (⟨_, y', e', i, i1, i2, i3, i4⟩ | rfl)
            · exact ⟨hc, y', e', i, i1, by omega, i3, i4⟩
            · exact ⟨hc, y, ho, here, h2, by omega, hh, y3, y4, y1, y2⟩
          · rintro ⟨_, y', e', i, i1, i2, i3, i4⟩
            by_cases hi : i < here
            · exact .inl ⟨hc, y', e', i, i1, hi, i3, i4⟩
            · exact .inr (g.uniq e' ho i4 ⟨y3, y4, by omega, by omega⟩)
      · refine ⟨_, rfl, k H2 fl os s02 f2 h64 fun o => ?_⟩
        rw [hos]
        have hh : x.c + 2 ^ x.k ≤ here := by omega
        constructor
        · rintro ⟨_, y', e', i, i1, i2, i3, i4⟩
          exact ⟨hc, y', e', i, i1, i3, i4⟩
        · rintro ⟨_, y', e', i, i1, i3, i4⟩
          exact ⟨hc, y', e', i, i1, by omega, i3, i4⟩
    · refine ⟨_, rfl, k H2 fl os s02 f2 h64 fun o => ?_⟩
      rw [hos]
      exact ⟨fun z => absurd z.1 hc, fun z => absurd z.1 hc⟩
end
end Qf
namespace Qf
open PySem PySem.Spec PyProof.Rows L2
theorem pr_iV {R : Nat → Nat → Prop} : ∀ {l : List Nat} {ys : List V}, Paired (fun i y => ∃ o : Nat, y = V.int (o : Int) ∧ R i o) l ys → ∃ os, ys = iV os ∧ Paired R l os
  | _, _, .nil => ⟨[], rfl, .nil⟩
  | _, _, .cons ⟨o, e, r⟩ t => by
    obtain ⟨os, h1, h2⟩ := pr_iV t
    exact ⟨o :: os, by rw [e, h1]; rfl, .cons r h2⟩
theorem pr_mem_right {α β : Type} {R : α → β → Prop} : ∀ {l : List α} {m : List β} {y : β}, Paired R l m → y ∈ m → ∃ x ∈ l, R x y
  | _, _, y, .cons r t, h => by
    rcases List.mem_cons.mp h with rfl | h
    · exact ⟨_, List.mem_cons_self, r⟩
    · obtain ⟨x, h1, h2⟩ := pr_mem_right t h
      exact ⟨x, List.mem_cons_of_mem _ h1, h2⟩
theorem pr_mem_left {α β : Type} {R : α → β → Prop} : ∀ {l : List α} {m : List β} {x : α}, Paired R l m → x ∈ l → ∃ y ∈ m, R x y
  | _, _, x, .cons r t, h => by
    rcases List.mem_cons.mp h with rfl | h
    · exact ⟨_, List.mem_cons_self, r⟩
    · obtain ⟨y, h1, h2⟩ := pr_mem_left t h
      exact ⟨y, List.mem_cons_of_mem _ h1, h2⟩
/-- the lower corners' columns, and whether they are on the floor -/
def cornC (x : Lf) (i : Nat) : Int := if i = 0 then (x.c : Int) - 1 else (x.c : Int) + ((2 ^ x.k : Nat) : Int)
def cornN (x : Lf) (i : Nat) : Nat := if i = 0 then x.c - 1 else x.c + 2 ^ x.k
def cornB (n : Nat) (x : Lf) (i : Nat) : Bool := decide (x.r + 2 ^ x.k < 2 ^ n ∧ (i = 0 → 1 ≤ x.c) ∧ (i ≠ 0 → x.c + 2 ^ x.k < 2 ^ n))
section
variable {P : Program} {w : World} {K : PySem.W.Frag} {mg : Str → Option Value} {base : Heap}
theorem ok_Leaves_at_corners (B : Bl mg) {CLeaves : Addr} (hC : Cls K CLeaves) (D : Dme K CLeaves "at_corners" "Leaves.at_corners" s_Leaves_at_corners) (T : LT K CLeaves) (c_Leaves_is_on : Met P w K mg base 1 CLeaves "is_on" (spIsOn CLeaves)) (c_Leaves_number_at : Met P w K mg base 1 CLeaves "number_at" (spNumberAt CLeaves)) : Met P w K mg base 2 CLeaves "at_corners" (spNb CLeaves CornOf) := by
  refine met_of hC D sc_Leaves_at_corners (fun _ _ _ _ _ _ us hl => match us, hl with | [_, _], _ => rfl) (fun vs H Q E h => ?_) (fun f cdv A outer s H vs Q E hr h => ?_)
  · obtain ⟨a, rfl, _⟩ := h
    rfl
  · have nd := sc_Leaves_at_corners.nd
    have hu := hu_of hr
    have hu65 := hu65_of hr
    obtain ⟨⟨p, n, L, k0, x⟩, rfl, Lv, g, hx, k⟩ := h
    dsimp only at Lv g hx k
    refine ⟨_, (pss_cons (ps_asg (pe_ix ix_list (pe_fld (pv 0) rfl) (pv 1) (fun _ _ => rfl)) (pg_tup rfl (pgs_cons (pg_name (i := 2) nd rfl (by first | exact Or.inl rfl | exact Or.inr rfl)) (pgs_cons (pg_name (i := 3) nd rfl (by first | exact Or.inl rfl | exact Or.inr rfl)) (pgs_cons (pg_name (i := 4) nd rfl (by first | exact Or.inl rfl | exact Or.inr rfl)) pgs_nil)))))
      (pss_cons (ps_set (i := 5) nd rfl (by first | exact Or.inl rfl | exact Or.inr rfl) (pe_lst (pa_cons (pe_tup (pa_cons (pe_op op_add (pv 2) (pv 4)) (pa_cons (pe_op op_sub (pv 3) pe_int) pa_nil))) (pa_cons (pe_tup (pa_cons (pe_op op_add (pv 2) (pv 4)) (pa_cons (pe_op op_add (pv 3) (pv 4)) pa_nil))) pa_nil))))
      (pss_one (ps_ret (pe_lc (own := [("one", 6), ("other", 7)]) rfl nd (pi_list (pv 5)) (blkOk_by (N := N_Leaves_at_corners) (sc := defScope s_Leaves_at_corners) (by decide +kernel)) (fun _ _ _ _ _ => (pg_tupK (K := K) (n := 2) rfl (pgs_cons (pg_name (i := 6) nd rfl (by first | exact Or.inl rfl | exact Or.inr rfl)) (pgs_cons (pg_name (i := 7) nd rfl (by first | exact Or.inl rfl | exact Or.inr rfl)) pgs_nil)))) (fun _ _ _ _ _ => pts_one (pt_val (pe_mt c_Leaves_is_on hr (by omega) (pv 0) (pa_cons (pv 6) (pa_cons (pv 7) pa_nil))))) (fun _ _ _ _ _ => (pe_mt c_Leaves_number_at hr (by omega) (pv 0) (pa_cons (pv 6) (pa_cons (pv 7) pa_nil))))))))), ?_⟩
    obtain ⟨dx, z, hp, hL⟩ := id Lv
    obtain ⟨bs, b, e1, e2, e2', e3⟩ := hL.box hx
    have h6 := g.n6
    have hm := List.mem_of_getElem? hx
    have hlt := g.lt hm
    have hpw : ∀ m, m ≤ 6 → 2 ^ m ≤ 64 := fun m hm => Nat.pow_le_pow_right (by decide) hm
    have hp6 := hpw n h6
    refine ⟨_, rfl, p, CLeaves, dx, _, _, rfl, hp, T.cl, T.nB, fL_boxes _ _ _ _ _, _, rfl, z.bl, _, _, .ref b, rfl, rfl, lstOf e1, atI_nat e2', ?_⟩
    refine ⟨b, _, rfl, tupOf e3, rfl, _, _, rfl, _, _, rfl, _, _, rfl, rfl, ?_⟩
    refine ⟨_, rfl, _, rfl, _, _, rfl, rfl, _, rfl, _, _, rfl, rfl, szl (by show 2 ≤ 1000000; decide), fun q1 hq1 => ?_⟩
    refine ⟨_, rfl, _, rfl, _, _, rfl, rfl, _, rfl, _, rfl, _, _, rfl, rfl, szl (by show 2 ≤ 1000000; decide), fun q2 hq2 => ⟨szl (by show 2 ≤ 1000000; decide), fun sl hsl => ?_⟩⟩
    have s1 := sNew (sNew (same_new hq1 (o := .tup [.int ((x.r : Int) + ((2 ^ x.k : Nat) : Int)), .int ((x.c : Int) - 1)])) hq2 (o := .tup [.int ((x.r : Int) + ((2 ^ x.k : Nat) : Int)), .int ((x.c : Int) + ((2 ^ x.k : Nat) : Int))])) hsl (o := .lst [.ref q1, .ref q2])
    have f1 : (upd (upd (upd H q1 (.tup [.int ((x.r : Int) + ((2 ^ x.k : Nat) : Int)), .int ((x.c : Int) - 1)])) q2 (.tup [.int ((x.r : Int) + ((2 ^ x.k : Nat) : Int)), .int ((x.c : Int) + ((2 ^ x.k : Nat) : Int))])) sl (.lst [.ref q1, .ref q2])) sl = some (.lst [.ref q1, .ref q2]) := upd_same
    have t1 : (upd (upd (upd H q1 (.tup [.int ((x.r : Int) + ((2 ^ x.k : Nat) : Int)), .int ((x.c : Int) - 1)])) q2 (.tup [.int ((x.r : Int) + ((2 ^ x.k : Nat) : Int)), .int ((x.c : Int) + ((2 ^ x.k : Nat) : Int))])) sl (.lst [.ref q1, .ref q2])) q1 = some (.tup [.int ((x.r : Int) + ((2 ^ x.k : Nat) : Int)), .int (cornC x 0)]) := same_new hsl _ _ (same_new hq2 _ _ upd_same)
    have t2 : (upd (upd (upd H q1 (.tup [.int ((x.r : Int) + ((2 ^ x.k : Nat) : Int)), .int ((x.c : Int) - 1)])) q2 (.tup [.int ((x.r : Int) + ((2 ^ x.k : Nat) : Int)), .int ((x.c : Int) + ((2 ^ x.k : Nat) : Int))])) sl (.lst [.ref q1, .ref q2])) q2 = some (.tup [.int ((x.r : Int) + ((2 ^ x.k : Nat) : Int)), .int (cornC x 1)]) := same_new hsl _ _ upd_same
    show Ends.nx _ _ (upd (upd (upd H q1 (.tup [.int ((x.r : Int) + ((2 ^ x.k : Nat) : Int)), .int ((x.c : Int) - 1)])) q2 (.tup [.int ((x.r : Int) + ((2 ^ x.k : Nat) : Int)), .int ((x.c : Int) + ((2 ^ x.k : Nat) : Int))])) sl (.lst [.ref q1, .ref q2]))
    generalize upd (upd (upd H q1 (.tup [.int ((x.r : Int) + ((2 ^ x.k : Nat) : Int)), .int ((x.c : Int) - 1)])) q2 (.tup [.int ((x.r : Int) + ((2 ^ x.k : Nat) : Int)), .int ((x.c : Int) + ((2 ^ x.k : Nat) : Int))])) sl (.lst [.ref q1, .ref q2]) = H1 at *
    refine ⟨_, rfl, sl, rfl, ⟨_, lstOf f1⟩, fun D hD => ?_⟩
    refine lc_rel (walk_list (xs := [V.ref q1, V.ref q2])) (cornB n x) (fun i y _ => ∃ o : Nat, y = V.int (o : Int) ∧ ∃ lf, L[o]? = some lf ∧ lf.has (x.r + 2 ^ x.k) (cornN x i)) hD (fun H' s2 => lstOf (s2 _ _ f1)) (szL (by show 2 < 1000000; decide)) (fun _ _ _ _ e _ _ => e) ?_ ?_
    · rintro i y H2 H' hi s2 _ ⟨rfl, hy⟩ Q' Z' qq zz
      have s02 := s1.trans s2
      have go : ∃ q, y = .ref q ∧ H' q = some (.tup [.int ((x.r : Int) + ((2 ^ x.k : Nat) : Int)), .int (cornC x i)]) := by
        match i, hy with
        | 0, hy => exact ⟨q1, (Option.some.inj hy).symm, s2 _ _ t1⟩
        | 1, hy => exact ⟨q2, (Option.some.inj hy).symm, s2 _ _ t2⟩
      obtain ⟨q, rfl, hq⟩ := go
      refine ⟨q, _, rfl, tupOf hq, rfl, _, _, rfl, _, _, rfl, rfl, rfl, ?_⟩
      refine ⟨_, rfl, p, dx, _, rfl, s02 _ _ hp, nL_is_on, _, rfl, _, rfl, ⟨p, n, L, ((x.r : Int) + ((2 ^ x.k : Nat) : Int)), cornC x i⟩, rfl, Lv.same s02, h6, cornB n x i, ?_, ?_⟩
      · have e : (2 : Int) ^ n = ((2 ^ n : Nat) : Int) := by push_cast; rfl
        dsimp only
        rw [e]
        unfold cornB cornC
        rw [decide_eq_true_iff]
        have := pow_pos2 x.k
        by_cases hi0 : i = 0
        · rw [if_pos hi0]
          constructor
          · rintro ⟨z1, z2, z3⟩
            have := z2 hi0
            exact ⟨by omega, by omega, by omega, by omega⟩
          · intro z
            exact ⟨by omega, fun _ => by omega, fun z => absurd hi0 z⟩
        · rw [if_neg hi0]
          constructor
          · rintro ⟨z1, z2, z3⟩
            have := z3 hi0
            exact ⟨by omega, by omega, by omega, by omega⟩
          · intro z
            exact ⟨by omega, fun z => absurd z hi0, fun _ => by omega⟩
      · refine ⟨_, rfl, ite_b (fun hb => ?_) (fun hb => zz hb _ (Same.refl _))⟩
        have ec : cornC x i = ((cornN x i : Nat) : Int) ∧ cornN x i < 2 ^ n ∧ x.r + 2 ^ x.k < 2 ^ n := by
          unfold cornB at hb
          rw [decide_eq_true_iff] at hb
          unfold cornC cornN
          have hpp := pow_pos2 x.k
          by_cases hi0 : i = 0
          · rw [if_pos hi0, if_pos hi0]
            have := hb.2.1 hi0
            omega
          · rw [if_neg hi0, if_neg hi0]
            have := hb.2.2 hi0
            omega
        obtain ⟨o, y, ho, hy⟩ := g.at (i := x.r + 2 ^ x.k) (j := cornN x i) ec.2.2 ec.2.1
        refine ⟨_, rfl, p, dx, _, rfl, s02 _ _ hp, nL_number_at, _, rfl, _, rfl, ⟨p, n, L, x.r + 2 ^ x.k, cornN x i⟩, by rw [ec.1]; rfl, Lv.same s02, g, o, y, ho, hy, fun H3 s3 => qq hb _ _ s3 ⟨o, rfl, y, ho, hy⟩⟩
    · intro ys H' s2 hy py
      obtain ⟨os, rfl, po⟩ := pr_iV (R := fun i o => ∃ lf, L[o]? = some lf ∧ lf.has (x.r + 2 ^ x.k) (cornN x i)) py
      have hl : os.length ≤ 2 := by
        rw [← pr_len po]
        exact List.length_filter_le (cornB n x) (List.range 2)
      refine k H' D os (s1.trans s2) hy (by omega) fun o => ?_
      constructor
      · intro ho
        obtain ⟨i, hi, y, e, hy⟩ := pr_mem_right po ho
        rw [List.mem_filter, List.mem_range] at hi
        obtain ⟨hi2, hb⟩ := hi
        unfold cornB at hb
        rw [decide_eq_true_iff] at hb
        unfold cornN at hy
        refine ⟨hb.1, y, e, ?_⟩
        by_cases hi0 : i = 0
        · rw [if_pos hi0] at hy
          exact .inl ⟨hb.2.1 hi0, hy⟩
        · rw [if_neg hi0] at hy
          exact .inr ⟨hb.2.2 hi0, hy⟩
      · rintro ⟨hr1, y, e, h⟩
        have key : ∀ i, i < 2 → cornB n x i = true → y.has (x.r + 2 ^ x.k) (cornN x i) → o ∈ os := fun i hi hb hc => by
          obtain ⟨o', ho', y', e', hy'⟩ := pr_mem_left po (x := i) (List.mem_filter.mpr ⟨List.mem_range.mpr hi, hb⟩)
          rw [g.uniq e e' hc hy']
          exact ho'
        rcases h with ⟨h1, h2⟩ | ⟨h1, h2⟩
        · exact key 0 (by decide) (decide_eq_true ⟨hr1, fun _ => h1, fun z => absurd rfl z⟩) h2
        · exact key 1 (by decide) (decide_eq_true ⟨hr1, fun z => (by cases z), fun _ => h1⟩) h2
end
end Qf
namespace Qf
open PySem PySem.Spec PyProof.Rows L2
theorem yes_if {σ : L2.St} {H : Hp} {A B : Hp → Prop} (h : A H) : tYes σ H (fun b H3 => if b = true then A H3 else B H3) := by
  show if true = true then A H else B H
  rw [if_pos rfl]
  exact h
theorem wayS_eq (b : Bool) : decide (V.str (if b then "corners" else "sides") = V.str "corners") = b := by
  cases b with
  | true => exact decide_eq_true rfl
  | false => exact decide_eq_false (fun z => absurd (V.str.inj z) (by decide +kernel))
theorem vT_at {L : List Lf} {i : Nat} {x : Lf} (h : L[i]? = some x) : (vT L)[i]? = some (.bl x.b) := by unfold vT; rw [List.getElem?_map, h]; rfl
theorem vT_get {L : List Lf} {i : Nat} {v : V} (h : (vT L)[i]? = some v) : ∃ x, L[i]? = some x ∧ v = .bl x.b := by
  unfold vT at h
  rw [List.getElem?_map] at h
  cases e : L[i]? with
  | none => rw [e] at h; cases h
  | some x => rw [e] at h; exact ⟨x, rfl, (Option.some.inj h).symm⟩
theorem vT_len (L : List Lf) : (vT L).length = L.length := List.length_map ..
theorem nodup_get {α : Type} {l : List α} (nd : l.Nodup) {i j : Nat} {a : α} (h1 : l[i]? = some a) (h2 : l[j]? = some a) : i = j := by
  obtain ⟨l1, e1⟩ := List.getElem?_eq_some_iff.mp h1
  obtain ⟨l2, e2⟩ := List.getElem?_eq_some_iff.mp h2
  unfold List.Nodup at nd
  rw [List.pairwise_iff_getElem] at nd
  rcases Nat.lt_trichotomy i j with q | q | q
  · exact absurd (e1.trans e2.symm) (nd i j l1 l2 q)
  · exact q
  · exact absurd (e2.trans e1.symm) (nd j i l2 l1 q)
/-- lists of numbers -/
def LLs (H : Hp) (as : List Addr) (oss : List (List Nat)) : Prop := Paired (fun a os => H a = some (.lst (iV os))) as oss
theorem LLs.push {H : Hp} {as : List Addr} {oss : List (List Nat)} (h : LLs H as oss) (nd : as.Nodup) {k : Nat} {a : Addr} (ha : as[k]? = some a) {os : List Nat} (ho : oss[k]? = some os) (o : Nat) :
    LLs (upd H a (.lst (iV (os ++ [o])))) as (push oss k o) := by
  refine paired_of_get (by rw [push_len]; exact pr_len h) fun i a' os' h1 h2 => ?_
  by_cases hi : k = i
  · subst hi
    rw [ha] at h1
    cases h1
    unfold Qf.push at h2
    rw [List.getElem?_set_self (get_lt ho), ho] at h2
    cases h2
    exact upd_same
  · have hne : a' ≠ a := fun z => by
      subst z
      exact hi (nodup_get nd ha h1)
    unfold Qf.push at h2
    rw [List.getElem?_set_ne hi] at h2
    rw [upd_ne hne]
    obtain ⟨os2, q1, q2⟩ := pr_get h h1
    rw [h2] at q1
    cases q1
    exact q2
structure LkA where
  p : Addr
  n : Nat
  L : List Lf
  t : Bool
  by' : Bool
def spLinks (C : Addr) : Sp := mkSp (fun a : LkA => [.ref a.p, .bl a.t, .str (if a.by' then "corners" else "sides")]) fun a H Q => LvAt C H a.p a.n a.L ∧ Good a.n a.L ∧
  ∀ H' q as oss, Same H H' → H' q = some (.lst (as.map V.ref)) → LLs H' as oss → oss.length = a.L.length → (∀ os ∈ oss, os.length ≤ 900000) → (∀ j o, Mm oss j o ↔ Lk a.n a.L a.t a.by' j o) → Q (.ref q) H'
section
variable {P : Program} {w : World} {K : PySem.W.Frag} {mg : Str → Option Value} {base : Heap}
theorem ok_Leaves_links (B : Bl mg) {CLeaves : Addr} (hC : Cls K CLeaves) (D : Dme K CLeaves "links" "Leaves.links" s_Leaves_links) (T : LT K CLeaves) (c_Leaves_on_right : Met P w K mg base 2 CLeaves "on_right" (spNb CLeaves RightOf)) (c_Leaves_below : Met P w K mg base 2 CLeaves "below" (spNb CLeaves BelowOf)) (c_Leaves_at_corners : Met P w K mg base 2 CLeaves "at_corners" (spNb CLeaves CornOf)) : Met P w K mg base 3 CLeaves "links" (spLinks CLeaves) := by
  refine met_of hC D sc_Leaves_links (fun _ _ _ _ _ _ us hl => match us, hl with | [_, _, _], _ => rfl) (fun vs H Q E h => ?_) (fun f cdv A outer s H vs Q E hr h => ?_)
  · obtain ⟨a, rfl, _⟩ := h
    rfl
  · have nd := sc_Leaves_links.nd
    have hu := hu_of hr
    have hu65 := hu65_of hr
    obtain ⟨⟨p, n, L, t, by'⟩, rfl, Lv, g, k⟩ := h
    dsimp only at Lv g k
    refine ⟨_, (pss_cons (ps_setLc (i := 3) (own := [("box", 4)]) rfl nd rfl rfl (sw_true rfl rfl rfl (by decide +kernel)) (pi_list (pe_fld (pv 0) rfl)) (blkOk_by (N := N_Leaves_links) (sc := defScope s_Leaves_links) (by decide +kernel)) (fun _ _ _ _ _ => (pg_name (i := 4) nd rfl (by first | exact Or.inl rfl | exact Or.inr rfl))) (fun _ _ _ _ _ => pts_nil) (fun _ _ _ _ _ => (pe_lst pa_nil)))
      (pss_cons (ps_for PassesOwn.never rfl (pi_enum rfl B.enumerate (pa_cons (pe_fld (pv 0) rfl) pa_nil)) (pg_tup rfl (pgs_cons (pg_name (i := 5) nd rfl (by first | exact Or.inl rfl | exact Or.inr rfl)) (pgs_cons (pg_name (i := 6) nd rfl (by first | exact Or.inl rfl | exact Or.inr rfl)) pgs_nil)))
      (pss_one (ps_if (pt_cmpR op_eq (pv 6) (pv 1) (nomark _)) (pss_cons (ps_set (i := 7) nd rfl (by first | exact Or.inl rfl | exact Or.inr rfl) (pe_op op_cat (pe_mt c_Leaves_on_right hr (by omega) (pv 0) (pa_cons (pv 5) pa_nil)) (pe_mt c_Leaves_below hr (by omega) (pv 0) (pa_cons (pv 5) pa_nil))))
      (pss_cons (ps_if (pt_cmpR op_eq (pv 2) (C8.pe_gc rfl B.cCORNERS) (nomark _)) (pss_one (ps_set (i := 7) nd rfl (by first | exact Or.inl rfl | exact Or.inr rfl) (pe_op op_cat (pv 7) (pe_mt c_Leaves_at_corners hr (by omega) (pv 0) (pa_cons (pv 5) pa_nil))))) pss_nil)
      (pss_one (ps_for PassesOwn.never rfl (pi_list (pv 7)) (pg_name (i := 8) nd rfl (by first | exact Or.inl rfl | exact Or.inr rfl))
      (pss_one (ps_if (pt_cmpR op_eq (pe_ix ix_list (pe_fld (pv 0) rfl) (pv 8) (fun _ _ => rfl)) (pv 1) (nomark _)) (pss_cons (ps_expr (pe_bm PySem.F.plainAttrs_list PySem.F.slot_list_append PySem.F.type_list_append mt_append (pe_ix ix_list (pv 3) (pv 5) (fun _ _ => rfl)) (pa_cons (pv 8) pa_nil)))
      (pss_one (ps_expr (pe_bm PySem.F.plainAttrs_list PySem.F.slot_list_append PySem.F.type_list_append mt_append (pe_ix ix_list (pv 3) (pv 8) (fun _ _ => rfl)) (pa_cons (pv 5) pa_nil))))) pss_nil)))))) pss_nil)))
      (pss_one (ps_ret (pv 3))))), ?_⟩
    obtain ⟨dx, z, hp, hL⟩ := id Lv
    obtain ⟨bs, eb, pb⟩ := hL.b
    have hl2 := g.len
    have lbs : bs.length = L.length := pr_len pb
    refine ⟨_, rfl, p, CLeaves, dx, _, _, rfl, hp, T.cl, T.nB, fL_boxes _ _ _ _ _, z.bl, rfl, ⟨_, lstOf eb⟩, fun D hD => ?_⟩
    refine lc_it (walk_list (xs := bs.map V.ref)) (fun i H1 => Sx [D] H H1 ∧ ∃ as : List Addr, H1 D = some (.lst (as.map V.ref)) ∧ as.length = i ∧ as.Nodup ∧ (∀ a ∈ as, a ≠ D ∧ H a = none ∧ H1 a = some (.lst [])))
      ⟨(Sx.refl _ _).new hD, [], upd_same, rfl, List.nodup_nil, fun a ha => by cases ha⟩ (fun i H1 _ h => lstOf (h.1 _ _ (by simp only [List.mem_singleton]; exact ne_of_none eb hD) eb)) ?_ ?_
    · rintro i x H1 H' hi ⟨x1, as, hd, hl, nda, ha⟩ ⟨rfl, hx⟩
      rw [List.length_map] at hi
      refine ⟨rfl, ?_⟩
      refine yes_if ?_
      refine ⟨szl (by show 0 ≤ 1000000; decide), fun c hc => ⟨as.map V.ref, same_new hc _ _ hd, szL (by rw [List.length_map]; omega), ?_⟩⟩
      have hcD : c ≠ D := fun z => by rw [z] at hc; rw [hc] at hd; cases hd
      have hc0 : H c = none := by
        cases q : H c with
        | none => rfl
        | some o => have := x1 _ _ (by simp [hcD]) q; rw [hc] at this; cases this
      have hca : c ∉ as := fun m => by rw [(ha c m).2.2] at hc; cases hc
      refine ⟨(x1.new hc).upd List.mem_cons_self, as ++ [c], ?_, ?_, ?_, ?_⟩
      · rw [upd_same, List.map_append]; rfl
      · rw [List.length_append, List.length_singleton, hl]
      · rw [List.nodup_append]
        exact ⟨nda, by simp, fun a h1 b h2 e => hca (by rw [List.mem_singleton] at h2; subst h2; subst e; exact h1)⟩
      · intro a h1
        rcases List.mem_append.mp h1 with h1 | h1
        · obtain ⟨q1, q2, q3⟩ := ha a h1
          refine ⟨q1, q2, ?_⟩
          rw [upd_ne q1]
          exact same_new hc _ _ q3
        · rw [List.mem_singleton] at h1
          subst h1
          exact ⟨hcD, hc0, by rw [upd_ne hcD, upd_same]⟩
    · rintro H1 ⟨x1, as, hd, hl, nda, ha⟩
      rw [List.length_map, lbs] at hl
      have s1 : Same H H1 := Sx.same (Same.refl H) x1 fun c hc => by rw [List.mem_singleton.mp hc]; exact hD
      have hD0 : D ∉ as := fun m => (ha D m).1 rfl
      have ha0 : ∀ c o, H c = some o → c ∉ as := fun c o e m => by rw [(ha c m).2.1] at e; cases e
      have et1 := s1 _ _ hL.t
      have l1 : LLs H1 as (List.replicate L.length []) := paired_of_get (by rw [List.length_replicate, hl]) fun i a os h1 h2 => by
        rw [List.getElem?_replicate] at h2
        split at h2
        · cases h2; exact (ha a (List.mem_of_getElem? h1)).2.2
        · cases h2
      refine ⟨_, rfl, p, CLeaves, dx, _, _, rfl, s1 _ _ hp, T.cl, T.nT, fL_truths _ _ _ _ _, z.tl, _, rfl, lstOf et1, ?_⟩
      have nS : ∀ c o, H1 c = some o → c ∉ as → c ∉ as := fun c o _ h => h
      refine for_it (walk_enum (xs := vT L)) (fun i σ H2 => ∃ (a5 a6 a7 a8 : Option V) (oss : List (List Nat)), σ = [some (.ref p), some (.bl t), some (.str (if by' then "corners" else "sides")), some (.ref D), none, a5, a6, a7, a8] ∧
        Sx as H1 H2 ∧ LLs H2 as oss ∧ oss.length = L.length ∧ (∀ os ∈ oss, os.length ≤ 400 * i) ∧ (∀ j o, Mm oss j o ↔ LkS n L t by' i j o))
        ⟨none, none, none, none, _, rfl, Sx.refl _ _, l1, List.length_replicate, fun os h => by rw [(List.mem_replicate.mp h).2]; exact Nat.zero_le _, fun j o => ⟨fun ⟨os, h1, h2⟩ => (by
          rw [List.getElem?_replicate] at h1
          split at h1
          · cases h1; cases h2
          · cases h1), fun h => absurd h LkS.zero⟩⟩ (fun i σ H2 _ h => by
          obtain ⟨_, _, _, _, _, _, x2, _⟩ := h
          exact lstOf (x2 _ _ (ha0 _ _ hL.t) et1)) ?_ ?_
      · rintro i x σ H2 H' hi ⟨a5, a6, a7, a8, oss, rfl, x2, l2, ol, ob, om⟩ ⟨Tp, v1, v2, rfl, hTp, rfl, e1, e2⟩
        obtain rfl : V.int (i : Nat) = v1 := Option.some.inj e1
        obtain ⟨x0, hx0, rfl⟩ := vT_get e2
        rw [vT_len] at hi
        have l3 : LLs (upd H2 Tp (.tup [.int (i : Nat), .bl x0.b])) as oss := pr_imp l2 fun a os _ _ e => same_new hTp _ _ e
        have x3 : Sx as H1 (upd H2 Tp (.tup [.int (i : Nat), .bl x0.b])) := x2.new hTp
        refine ⟨Tp, _, rfl, tupOf upd_same, rfl, _, _, rfl, _, _, rfl, rfl, ?_⟩
        generalize upd H2 Tp (.tup [.int (i : Nat), .bl x0.b]) = H3 at *
        refine ⟨_, rfl, _, rfl, rfl, _, rfl, ite_d (fun hb => ?_) (fun hb => ?_)⟩
        · have hb : x0.b = t := V.bl.inj hb
          have Lv3 : LvAt CLeaves H3 p n L := Lv.same (fun c o e => x3 _ _ (ha0 _ _ e) (s1 _ _ e))
          obtain ⟨_, _, hp3, _⟩ := id Lv3
          have hp3 : H3 p = some (.ins CLeaves dx (fL n z.al z.tl z.bl z.nd)) := x3 _ _ (ha0 _ _ hp) (s1 _ _ hp)
          refine ⟨_, rfl, p, dx, _, rfl, hp3, nL_on_right, _, rfl, ⟨p, n, L, i, x0⟩, rfl, Lv3, g, hx0, fun H4 q1 os1 s4 e4 n1 m1 => ?_⟩
          refine ⟨_, rfl, p, dx, _, rfl, s4 _ _ hp3, nL_below, _, rfl, ⟨p, n, L, i, x0⟩, rfl, Lv3.same s4, g, hx0, fun H5 q2 os2 s5 e5 n2 m2 => ?_⟩
          refine ⟨q1, q2, _, _, rfl, rfl, s5 _ _ e4, e5, szl (by rw [iV_len, iV_len]; omega), fun el hel => ?_⟩
          dsimp only at m1 m2
          have s6 := sNew (s4.trans s5) hel (o := .lst (iV os1 ++ iV os2))
          have e6 : (upd H5 el (.lst (iV os1 ++ iV os2))) el = some (.lst (iV (os1 ++ os2))) := by rw [upd_same]; unfold iV; rw [List.map_append]
          have nel : el ∉ as := fun m => by
            obtain ⟨j, hj, ej⟩ := List.getElem_of_mem m
            obtain ⟨os, _, q2⟩ := pr_get l3 (by rw [List.getElem?_eq_getElem hj, ej])
            have := (s4.trans s5) _ _ q2
            rw [hel] at this
            cases this
          have l6 : LLs (upd H5 el (.lst (iV os1 ++ iV os2))) as oss := pr_imp l3 fun a os _ _ e => s6 _ _ e
          have x6 : Sx as H1 (upd H5 el (.lst (iV os1 ++ iV os2))) := x3.trans (sxS s6)
          have hp6 := s6 _ _ hp3
          show Ends.nx _ _ (upd H5 el (.lst (iV os1 ++ iV os2)))
          have Lv6 : LvAt CLeaves (upd H5 el (.lst (iV os1 ++ iV os2))) p n L := Lv3.same s6
          generalize upd H5 el (.lst (iV os1 ++ iV os2)) = H6 at *
          cases by' with
          | false =>
            refine ⟨_, rfl, rfl, _, rfl, iteF ?_⟩
            have hes : ∀ o, o ∈ os1 ++ os2 ↔ NbOf false n L x0 o := fun o => by
              unfold NbOf
              rw [List.mem_append, m1, m2]
              exact ⟨fun h => h.elim .inl fun h => .inr (.inl h), fun h => h.elim .inl fun h => h.elim .inr fun h => by cases h.1⟩
            have les : (os1 ++ os2).length ≤ 192 := by rw [List.length_append]; omega
            generalize os1 ++ os2 = es at *
            refine ⟨_, rfl, el, rfl, ⟨_, lstOf e6⟩, for_it (walk_list (xs := iV es)) (fun e σ H7 => ∃ (a8 : Option V) (oss' : List (List Nat)), σ = [some (.ref p), some (.bl t), some (.str (if false then "corners" else "sides")), some (.ref D), none, some (.int (i : Nat)), some (.bl x0.b), some (.ref el), a8] ∧
              Sx as H1 H7 ∧ H7 el = some (.lst (iV es)) ∧ LLs H7 as oss' ∧ oss'.length = L.length ∧ (∀ os ∈ oss', os.length ≤ 400 * i + 2 * e) ∧ (∀ j o, Mm oss' j o ↔ LkS n L t false i j o ∨ LkT L t i (es.take e) j o))
              ⟨_, oss, rfl, x6, e6, l6, ol, (fun os h => by have := ob os h; omega), fun j o => by
                rw [om, List.take_zero]
                exact ⟨.inl, fun h => h.elim id fun ⟨_, h, _⟩ => by cases h⟩⟩ (fun e σ H7 _ h => by
              obtain ⟨_, _, _, _, e7, _⟩ := h
              exact lstOf e7) ?_ ?_⟩
            · rintro e x σ H7 H' he ⟨a8, oss', rfl, x7, e7, l7, ol7, ob7, om7⟩ ⟨rfl, hx⟩
              obtain ⟨o, ho, rfl⟩ := iV_get hx
              rw [iV_len] at he
              obtain ⟨y, hy⟩ := NbOf.at ((hes o).mp (List.mem_of_getElem? ho))
              have s7 : Same H H' := fun c u q => x7 _ _ (ha0 _ _ q) (s1 _ _ q)
              have hd7 := x7 _ _ hD0 hd
              have etk : es.take (e + 1) = es.take e ++ [o] := by rw [List.take_add_one, ho]; rfl
              refine ⟨_, rfl, p, CLeaves, dx, _, _, rfl, s7 _ _ hp, T.cl, T.nT, fL_truths _ _ _ _ _, _, rfl, z.tl, _, _, .bl y.b, rfl, rfl, lstOf (s7 _ _ hL.t), atI_nat (vT_at hy), _, rfl, rfl, _, rfl, ite_d (fun hyb => ?_) (fun hyb => ?_)⟩
              · have hyb : y.b = t := V.bl.inj hyb
                have hil : i < as.length := by omega
                have hol : o < as.length := by have := get_lt hy; omega
                have ai : as[i]? = some as[i] := List.getElem?_eq_getElem hil
                have ao : as[o]? = some as[o] := List.getElem?_eq_getElem hol
                obtain ⟨os, q1, q2⟩ := pr_get l7 ai
                have hos := ob7 os (List.mem_of_getElem? q1)
                have l8 := l7.push nda ai q1 o
                refine ⟨_, rfl, _, rfl, D, _, _, .ref as[i], rfl, rfl, lstOf hd7, atI_nat (by rw [List.getElem?_map, ai]; rfl), .inl ⟨rfl, _, .inl (.inl q2)⟩, _, rfl, as[i], _, _, rfl, rfl, q2, szL (by rw [iV_len]; omega), ?_⟩
                have mem1 : as[i] ∈ as := List.getElem_mem hil
                have mem2 : as[o] ∈ as := List.getElem_mem hol
                have x8 : Sx as H1 (upd H' as[i] (.lst (iV (os ++ [o])))) := x7.upd mem1
                have e8 : (upd H' as[i] (.lst (iV (os ++ [o])))) el = some (.lst (iV es)) := by rw [upd_ne (fun q => nel (by rw [q]; exact mem1))]; exact e7
                rw [← iV_snoc]
                show Ends.nx _ _ (upd H' as[i] (.lst (iV (os ++ [o]))))
                generalize upd H' as[i] (.lst (iV (os ++ [o]))) = H8 at *
                obtain ⟨os2, q3, q4⟩ := pr_get l8 ao
                have hos2 := push_bd (k := i) (o := o) ob7 os2 (List.mem_of_getElem? q3)
                have l9 := l8.push nda ao q3 i
                have hd8 := x8 _ _ hD0 hd
                refine ⟨_, rfl, _, rfl, D, _, _, .ref as[o], rfl, rfl, lstOf hd8, atI_nat (by rw [List.getElem?_map, ao]; rfl), .inl ⟨rfl, _, .inl (.inl q4)⟩, _, rfl, as[o], _, _, rfl, rfl, q4, szL (by rw [iV_len]; omega), ?_⟩
                refine ⟨_, Qf.push (Qf.push oss' i o) o i, rfl, x8.upd mem2, ?_, ?_, ?_, ?_, fun j o' => ?_⟩
                · rw [upd_ne (fun q => nel (by rw [q]; exact mem2))]; exact e8
                · rw [iV_snoc] at l9; exact l9
                · rw [push_len, push_len]; exact ol7
                · intro os3 h3
                  have := push_bd (push_bd ob7) os3 h3
                  omega
                · rw [push_M (by rw [push_len]; omega), push_M (by omega), om7, etk, LkT.snoc]
                  constructor
                  · rintro (((h | h) | h) | h)
                    · exact .inl h
                    · exact .inr (.inl h)
                    · exact .inr (.inr ⟨⟨y, hy, hyb⟩, .inl h⟩)
                    · exact .inr (.inr ⟨⟨y, hy, hyb⟩, .inr h⟩)
                  · rintro (h | h | ⟨_, h | h⟩)
                    · exact .inl (.inl (.inl h))
                    · exact .inl (.inl (.inr h))
                    · exact .inl (.inr h)
                    · exact .inr h
              · have hyb : y.b ≠ t := fun q => hyb (by rw [q])
                refine ⟨_, oss', rfl, x7, e7, l7, ol7, (fun os h => by have := ob7 os h; omega), fun j o' => ?_⟩
                rw [om7, etk, LkT.snoc]
                constructor
                · rintro (h | h)
                  · exact .inl h
                  · exact .inr (.inl h)
                · rintro (h | h | ⟨⟨y', h1, h2⟩, _⟩)
                  · exact .inl h
                  · exact .inr h
                  · rw [hy] at h1
                    cases h1
                    exact absurd h2 hyb
            · rintro σ H7 ⟨a8, oss', rfl, x7, e7, l7, ol7, ob7, om7⟩
              rw [iV_len] at ob7 om7
              rw [List.take_length] at om7
              exact ⟨_, _, _, _, oss', rfl, x7, l7, ol7, (fun os h => by have := ob7 os h; omega), fun j o => by rw [om7, LkS.step hx0 hb hes]⟩
          | true =>
            refine ⟨_, rfl, rfl, _, rfl, iteT ?_⟩
            refine ⟨_, rfl, _, rfl, p, dx, _, rfl, hp6, nL_at_corners, _, rfl, ⟨p, n, L, i, x0⟩, rfl, Lv6, g, hx0, fun H7 q3 os3 s7 e7 n3 m3 => ?_⟩
            refine ⟨el, q3, _, _, rfl, rfl, s7 _ _ e6, e7, szl (by rw [iV_len, iV_len, List.length_append]; omega), fun el2 hel2 => ?_⟩
            dsimp only at m3
            have s8 := sNew s7 hel2 (o := .lst (iV (os1 ++ os2) ++ iV os3))
            have e16 : (upd H7 el2 (.lst (iV (os1 ++ os2) ++ iV os3))) el2 = some (.lst (iV (os1 ++ os2 ++ os3))) := by rw [upd_same]; unfold iV; rw [List.map_append (l₂ := os3)]
            have nel2 : el2 ∉ as := fun m => by
              obtain ⟨j, hj, ej⟩ := List.getElem_of_mem m
              obtain ⟨os, _, q2⟩ := pr_get l6 (by rw [List.getElem?_eq_getElem hj, ej])
              have := s7 _ _ q2
              rw [hel2] at this
              cases this
            have l16 : LLs (upd H7 el2 (.lst (iV (os1 ++ os2) ++ iV os3))) as oss := pr_imp l6 fun a os _ _ e => s8 _ _ e
            have x16 : Sx as H1 (upd H7 el2 (.lst (iV (os1 ++ os2) ++ iV os3))) := x6.trans (sxS s8)
            have hes : ∀ o, o ∈ os1 ++ os2 ++ os3 ↔ NbOf true n L x0 o := fun o => by
              unfold NbOf
              rw [List.mem_append, List.mem_append, m1, m2, m3]
              exact ⟨fun h => h.elim (fun h => h.elim .inl fun h => .inr (.inl h)) fun h => .inr (.inr ⟨rfl, h⟩), fun h => h.elim (fun h => .inl (.inl h)) fun h => h.elim (fun h => .inl (.inr h)) fun h => .inr h.2⟩
            have les : (os1 ++ os2 ++ os3).length ≤ 192 := by rw [List.length_append, List.length_append]; omega
            show Ends.nx _ _ (upd H7 el2 (.lst (iV (os1 ++ os2) ++ iV os3)))
            generalize upd H7 el2 (.lst (iV (os1 ++ os2) ++ iV os3)) = H9 at *
            generalize os1 ++ os2 ++ os3 = es at *
            refine ⟨_, rfl, el2, rfl, ⟨_, lstOf e16⟩, for_it (walk_list (xs := iV es)) (fun e σ H7 => ∃ (a8 : Option V) (oss' : List (List Nat)), σ = [some (.ref p), some (.bl t), some (.str (if true then "corners" else "sides")), some (.ref D), none, some (.int (i : Nat)), some (.bl x0.b), some (.ref el2), a8] ∧
              Sx as H1 H7 ∧ H7 el2 = some (.lst (iV es)) ∧ LLs H7 as oss' ∧ oss'.length = L.length ∧ (∀ os ∈ oss', os.length ≤ 400 * i + 2 * e) ∧ (∀ j o, Mm oss' j o ↔ LkS n L t true i j o ∨ LkT L t i (es.take e) j o))
              ⟨_, oss, rfl, x16, e16, l16, ol, (fun os h => by have := ob os h; omega), fun j o => by
                rw [om, List.take_zero]
                exact ⟨.inl, fun h => h.elim id fun ⟨_, h, _⟩ => by cases h⟩⟩ (fun e σ H7 _ h => by
              obtain ⟨_, _, _, _, e7, _⟩ := h
              exact lstOf e7) ?_ ?_⟩
            · rintro e x σ H7 H' he ⟨a8, oss', rfl, x7, e7, l7, ol7, ob7, om7⟩ ⟨rfl, hx⟩
              obtain ⟨o, ho, rfl⟩ := iV_get hx
              rw [iV_len] at he
              obtain ⟨y, hy⟩ := NbOf.at ((hes o).mp (List.mem_of_getElem? ho))
              have s7 : Same H H' := fun c u q => x7 _ _ (ha0 _ _ q) (s1 _ _ q)
              have hd7 := x7 _ _ hD0 hd
              have etk : es.take (e + 1) = es.take e ++ [o] := by rw [List.take_add_one, ho]; rfl
              refine ⟨_, rfl, p, CLeaves, dx, _, _, rfl, s7 _ _ hp, T.cl, T.nT, fL_truths _ _ _ _ _, _, rfl, z.tl, _, _, .bl y.b, rfl, rfl, lstOf (s7 _ _ hL.t), atI_nat (vT_at hy), _, rfl, rfl, _, rfl, ite_d (fun hyb => ?_) (fun hyb => ?_)⟩
              · have hyb : y.b = t := V.bl.inj hyb
                have hil : i < as.length := by omega
                have hol : o < as.length := by have := get_lt hy; omega
                have ai : as[i]? = some as[i] := List.getElem?_eq_getElem hil
                have ao : as[o]? = some as[o] := List.getElem?_eq_getElem hol
                obtain ⟨os, q1, q2⟩ := pr_get l7 ai
                have hos := ob7 os (List.mem_of_getElem? q1)
                have l8 := l7.push nda ai q1 o
                refine ⟨_, rfl, _, rfl, D, _, _, .ref as[i], rfl, rfl, lstOf hd7, atI_nat (by rw [List.getElem?_map, ai]; rfl), .inl ⟨rfl, _, .inl (.inl q2)⟩, _, rfl, as[i], _, _, rfl, rfl, q2, szL (by rw [iV_len]; omega), ?_⟩
                have mem1 : as[i] ∈ as := List.getElem_mem hil
                have mem2 : as[o] ∈ as := List.getElem_mem hol
                have x8 : Sx as H1 (upd H' as[i] (.lst (iV (os ++ [o])))) := x7.upd mem1
                have e8 : (upd H' as[i] (.lst (iV (os ++ [o])))) el2 = some (.lst (iV es)) := by rw [upd_ne (fun q => nel2 (by rw [q]; exact mem1))]; exact e7
                rw [← iV_snoc]
                show Ends.nx _ _ (upd H' as[i] (.lst (iV (os ++ [o]))))
                generalize upd H' as[i] (.lst (iV (os ++ [o]))) = H8 at *
                obtain ⟨os2, q3, q4⟩ := pr_get l8 ao
                have hos2 := push_bd (k := i) (o := o) ob7 os2 (List.mem_of_getElem? q3)
                have l9 := l8.push nda ao q3 i
                have hd8 := x8 _ _ hD0 hd
                refine ⟨_, rfl, _, rfl, D, _, _, .ref as[o], rfl, rfl, lstOf hd8, atI_nat (by rw [List.getElem?_map, ao]; rfl), .inl ⟨rfl, _, .inl (.inl q4)⟩, _, rfl, as[o], _, _, rfl, rfl, q4, szL (by rw [iV_len]; omega), ?_⟩
                refine ⟨_, Qf.push (Qf.push oss' i o) o i, rfl, x8.upd mem2, ?_, ?_, ?_, ?_, fun j o' => ?_⟩
                · rw [upd_ne (fun q => nel2 (by rw [q]; exact mem2))]; exact e8
                · rw [iV_snoc] at l9; exact l9
                · rw [push_len, push_len]; exact ol7
                · intro os3 h3
                  have := push_bd (push_bd ob7) os3 h3
                  omega
                · rw [push_M (by rw [push_len]; omega), push_M (by omega), om7, etk, LkT.snoc]
                  constructor
                  · rintro (((h | h) | h) | h)
                    · exact .inl h
                    · exact .inr (.inl h)
                    · exact .inr (.inr ⟨⟨y, hy, hyb⟩, .inl h⟩)
                    · exact .inr (.inr ⟨⟨y, hy, hyb⟩, .inr h⟩)
                  · rintro (h | h | ⟨_, h | h⟩)
                    · exact .inl (.inl (.inl h))
                    · exact .inl (.inl (.inr h))
                    · exact .inl (.inr h)
                    · exact .inr h
              · have hyb : y.b ≠ t := fun q => hyb (by rw [q])
                refine ⟨_, oss', rfl, x7, e7, l7, ol7, (fun os h => by have := ob7 os h; omega), fun j o' => ?_⟩
                rw [om7, etk, LkT.snoc]
                constructor
                · rintro (h | h)
                  · exact .inl h
                  · exact .inr (.inl h)
                · rintro (h | h | ⟨⟨y', h1, h2⟩, _⟩)
                  · exact .inl h
                  · exact .inr h
                  · rw [hy] at h1
                    cases h1
                    exact absurd h2 hyb
            · rintro σ H7 ⟨a8, oss', rfl, x7, e7, l7, ol7, ob7, om7⟩
              rw [iV_len] at ob7 om7
              rw [List.take_length] at om7
              exact ⟨_, _, _, _, oss', rfl, x7, l7, ol7, (fun os h => by have := ob7 os h; omega), fun j o => by rw [om7, LkS.step hx0 hb hes]⟩
        · have hb : x0.b ≠ t := fun z => hb (by rw [z])
          refine ⟨_, _, _, _, oss, rfl, x3, l3, ol, fun os h => by have := ob os h; omega, fun j o => ?_⟩
          rw [om, LkS.skip hx0 hb]
      · rintro σ H2 ⟨a5, a6, a7, a8, oss, rfl, x2, l2, ol, ob, om⟩
        rw [vT_len] at ob om
        refine ⟨_, rfl, k H2 D as oss (fun c o e => x2 _ _ (ha0 _ _ e) (s1 _ _ e)) (x2 _ _ hD0 hd) l2 ol (fun os h => by have := ob os h; omega) fun j o => ?_⟩
        rw [om, LkS.full]
end
end Qf
namespace Qf
open PySem PySem.Spec PyProof.Rows L2
/-- a dict by numbers -/
def kvsN (f : Nat → V) (S : List Nat) : List (Key × V) := S.map fun (o : Nat) => (Sum.inl (o : Int), f o)
theorem kvsN_len (f : Nat → V) (S : List Nat) : (kvsN f S).length = S.length := List.length_map ..
theorem valV_N (f : Nat → V) (o : Nat) : ∀ (S : List Nat), valV (kvsN f S) (Sum.inl (o : Int)) = if o ∈ S then some (f o) else none
  | [] => rfl
  | a :: S => by
    by_cases h : a = o
    · subst h
      rw [if_pos List.mem_cons_self]
      exact valV_pos rfl
    · have e : valV (kvsN f (a :: S)) (Sum.inl (o : Int)) = valV (kvsN f S) (Sum.inl (o : Int)) := by
        show ((List.find? (fun kv => decide (kv.1 = Sum.inl (o : Int))) ((Sum.inl (a : Int), f a) :: kvsN f S)).map (·.2)) = _
        rw [List.find?_cons_of_neg (by simpa using fun z => h (Int.ofNat_inj.mp z))]
        rfl
      rw [e, valV_N f o S]
      have hm : o ∈ a :: S ↔ o ∈ S := by simp [Ne.symm h]
      by_cases ho : o ∈ S
      · rw [if_pos ho, if_pos (hm.mpr ho)]
      · rw [if_neg ho, if_neg fun z => ho (hm.mp z)]
def kvsT (S : List Nat) : List (Key × V) := kvsN (fun _ => .bl true) S
theorem kvsT_put (S : List Nat) (o : Nat) (h : o ∉ S) : putK (kvsT S) (Sum.inl (o : Int)) (.bl true) = kvsT (S ++ [o]) := by
  rw [putK_new _ (by unfold kvsT; rw [valV_N, if_neg h])]
  unfold kvsT kvsN
  rw [List.map_append]
  rfl
theorem ints_shaped (os : List Nat) : SeqAt.shaped (.list (os.map fun (k : Nat) => PyData.int (k : Int))) = true :=
  shaped_list (fun d hd => by obtain ⟨k, _, rfl⟩ := List.mem_map.mp hd; rfl) fun d hd => by obtain ⟨k, _, rfl⟩ := List.mem_map.mp hd; exact Nat.zero_le _
structure RchA where
  q : Addr
  first : Nat
  sd : Addr
  as : List Addr
  oss : List (List Nat)
  S : List Nat
def spReached : Sp := mkSp (fun x : RchA => [.ref x.q, .int (x.first : Int), .ref x.sd]) fun x H Q => H x.q = some (.lst (x.as.map V.ref)) ∧ LLs H x.as x.oss ∧ H x.sd = some (.dK (kvsT x.S)) ∧
  x.oss.length ≤ 2000 ∧ (∀ os ∈ x.oss, os.length ≤ 900000) ∧ (∀ j o, Mm x.oss j o → o < x.oss.length) ∧ x.S.Nodup ∧ (∀ o ∈ x.S, o < x.oss.length) ∧ x.first < x.oss.length ∧ x.first ∉ x.S ∧
  ∀ H' f fs T, Sx [x.sd] H H' → H f = none → H' f = some (.lst (iV fs)) → H' x.sd = some (.dK (kvsT (x.S ++ T))) → (∀ o, o ∈ T ↔ o ∈ fs) → (x.S ++ T).Nodup → RchI x.oss x.S x.first fs [] → RchC x.oss x.S fs [] → Q (.ref f) H'
section
variable {P : Program} {w : World} {K : PySem.W.Frag} {mg : Str → Option Value} {base : Heap}
theorem ok_reached (B : Bl mg) (D : Dfn K mg "reached" s_reached)  : Cal P w K mg base 1 "reached" spReached := by
  refine cal_of D sc_reached (fun _ _ _ _ _ _ us hl => match us, hl with | [_, _, _], _ => rfl) (fun vs H Q E h => ?_) (fun f cdv A outer s H vs Q E hr h => ?_)
  · obtain ⟨a, rfl, _⟩ := h
    rfl
  · have nd := sc_reached.nd
    have hu := hu_of hr
    have hu65 := hu65_of hr
    obtain ⟨⟨q, first, sd, as, oss, S⟩, rfl, hq, hL, hs, hN, hB, hlt, ndS, ltS, hf1, hf2, k⟩ := h
    dsimp only at hq hL hs hN hB hlt ndS ltS hf1 hf2 k
    refine ⟨_, (pss_cons (ps_set (i := 3) nd rfl (by first | exact Or.inl rfl | exact Or.inr rfl) (pe_lst pa_nil))
      (pss_cons (ps_set (i := 4) nd rfl (by first | exact Or.inl rfl | exact Or.inr rfl) (pe_lst (pa_cons (pv 1) pa_nil)))
      (pss_cons (ps_dput hu (pv 2) (pv 1) pe_bl rfl)
      (pss_cons (ps_while PassesOwn.never (pt_cmpR (op_neD hr.units) (pv 4) (pe_lst pa_nil) (nomark _)) (pss_cons (ps_set (i := 5) nd rfl (by first | exact Or.inl rfl | exact Or.inr rfl) (pe_bm0 PySem.F.plainAttrs_list PySem.F.slot_list_pop PySem.F.type_list_pop mt_pop (pv 4)))
      (pss_cons (ps_expr (pe_bm PySem.F.plainAttrs_list PySem.F.slot_list_append PySem.F.type_list_append mt_append (pv 3) (pa_cons (pv 5) pa_nil)))
      (pss_one (ps_for PassesOwn.never rfl (pi_list (pe_ix ix_list (pv 0) (pv 5) (fun _ _ => rfl))) (pg_name (i := 6) nd rfl (by first | exact Or.inl rfl | exact Or.inr rfl))
      (pss_one (ps_if (pt_cmp (pc_dnotin hu (pv 6) (pv 2))) (pss_cons (ps_dput hu (pv 2) (pv 6) pe_bl rfl)
      (pss_one (ps_expr (pe_bm PySem.F.plainAttrs_list PySem.F.slot_list_append PySem.F.type_list_append mt_append (pv 4) (pa_cons (pv 6) pa_nil))))) pss_nil)))))))
      (pss_one (ps_ret (pv 3))))))), ?_⟩
    refine ⟨szl (by show 0 ≤ 1000000; decide), fun fl hfl => ?_⟩
    refine ⟨_, rfl, szl (by show 1 ≤ 1000000; decide), fun wl hwl => ?_⟩
    have s1 := sNew (same_new hfl (o := .lst [])) hwl (o := .lst [.int (first : Int)])
    have nfw : fl ≠ wl := fun z => by subst z; rw [upd_same] at hwl; cases hwl
    have hwl0 : H wl = none := (same_new hfl (o := .lst [])).free hwl
    have f1 : (upd (upd H fl (.lst [])) wl (.lst [.int (first : Int)])) fl = some (.lst []) := by rw [upd_ne nfw, upd_same]
    have w1 : (upd (upd H fl (.lst [])) wl (.lst [.int (first : Int)])) wl = some (.lst [.int (first : Int)]) := upd_same
    show Ends.nx _ _ (upd (upd H fl (.lst [])) wl (.lst [.int (first : Int)]))
    generalize upd (upd H fl (.lst [])) wl (.lst [.int (first : Int)]) = H1 at *
    have nsf : sd ≠ fl := ne_of_none hs hfl
    have nsw : sd ≠ wl := ne_of_none hs hwl0
    have hSl : S.length ≤ 2000 := by have := nodup_lt ndS ltS; omega
    refine ⟨_, rfl, _, rfl, sd, _, rfl, DPut.k (k := Sum.inl (first : Int)) (s1 _ _ hs) (szL (by unfold kvsT; rw [kvsN_len]; omega)), ?_⟩
    rw [kvsT_put S first hf2]
    have x1 : Sx [sd] H (upd H1 sd (.dK (kvsT (S ++ [first])))) := (sxS s1).upd List.mem_cons_self
    have f2 : (upd H1 sd (.dK (kvsT (S ++ [first])))) fl = some (.lst []) := by rw [upd_ne (Ne.symm nsf)]; exact f1
    have w2 : (upd H1 sd (.dK (kvsT (S ++ [first])))) wl = some (.lst [.int (first : Int)]) := by rw [upd_ne (Ne.symm nsw)]; exact w1
    have d2 : (upd H1 sd (.dK (kvsT (S ++ [first])))) sd = some (.dK (kvsT (S ++ [first]))) := upd_same
    generalize upd H1 sd (.dK (kvsT (S ++ [first]))) = H2 at *
    have n3 : ∀ c o, H c = some o → c ≠ sd → c ∉ [fl, wl, sd] := fun c o e h => by
      simp only [List.mem_cons, List.not_mem_nil, or_false, not_or]
      exact ⟨ne_of_none e hfl, ne_of_none e hwl0, h⟩
    have nq : q ≠ sd := ne_of hq hs (by intro z; cases z)
    have nas : ∀ c os, H c = some (.lst (iV os)) → c ≠ sd := fun c os e => ne_of e hs (by intro z; cases z)
    refine ⟨fun m σ H3 => ∃ (a5 a6 : Option V) (fs ws T : List Nat), m = oss.length - fs.length ∧ σ = [some (.ref q), some (.int (first : Int)), some (.ref sd), some (.ref fl), some (.ref wl), a5, a6] ∧ Sx [fl, wl, sd] H2 H3 ∧
      H3 fl = some (.lst (iV fs)) ∧ H3 wl = some (.lst (iV ws)) ∧ H3 sd = some (.dK (kvsT (S ++ T))) ∧ (∀ o, o ∈ T ↔ o ∈ fs ++ ws) ∧ (S ++ T).Nodup ∧ RchI oss S first fs ws ∧ RchC oss S fs ws,
      ⟨_, none, none, [], [first], [first], rfl, rfl, Sx.refl _ _, f2, w2, d2, (fun o => Iff.rfl), ?_, ?_, ⟨fun o h => by cases h⟩⟩, ?_⟩
    · rw [List.nodup_append]
      exact ⟨ndS, by simp, fun x hx y hy z => hf2 (by rw [List.mem_singleton] at hy; subst hy; subst z; exact hx)⟩
    · exact ⟨by simp, fun o ho => by rw [List.nil_append, List.mem_singleton] at ho; subst ho; exact hf2, fun o ho => by rw [List.nil_append, List.mem_singleton] at ho; subst ho; exact hf1, by simp, fun o ho => by rw [List.nil_append, List.mem_singleton] at ho; subst ho; exact .refl⟩
    rintro m σ H3 ⟨a5, a6, fs, ws, T, rfl, rfl, x3, f3, w3, d3, hT, ndT, RI, RC⟩
    have hlen := RI.len
    have up : ∀ c o, H c = some o → c ≠ sd → H3 c = some o := fun c o e h => x3 _ _ (n3 _ _ e h) (x1 _ _ (by simp [h]) e)
    refine ⟨_, rfl, szl (by show 0 ≤ 1000000; decide), fun el hel => ?_⟩
    have s4 := same_new hel (o := .lst [])
    refine ⟨.list (ws.map fun (k : Nat) => PyData.int (k : Int)), .list [], .lst (lstOf (s4 _ _ w3)) (dp_ints ws), .lst (lstOf upd_same) .nil, ints_shaped ws, shaped_nil, _, rfl, ?_⟩
    rw [eqv_nil]
    have f4 := s4 _ _ f3
    have w4 := s4 _ _ w3
    have d4 := s4 _ _ d3
    have x4 : Sx [fl, wl, sd] H2 (upd H3 el (.lst [])) := x3.trans (sxS s4)
    have up4 : ∀ c o, H c = some o → c ≠ sd → (upd H3 el (.lst [])) c = some o := fun c o e h => s4 _ _ (up c o e h)
    generalize upd H3 el (.lst []) = H4 at *
    rcases snoc_cases ws with rfl | ⟨wb, a, rfl⟩
    · -- nothing waits
      refine iteF ?_
      rw [List.append_nil] at hT
      refine ⟨_, rfl, k H4 fl fs T (fun c o n e => up4 c o e (by simpa using n)) hfl f4 d4 hT ndT RI RC⟩
    · rw [show ((wb ++ [a]).map fun (k : Nat) => PyData.int (k : Int)).isEmpty = false by simp]
      refine iteT ?_
      rw [List.length_append, List.length_singleton] at hlen
      refine ⟨_, fun σ' H' hN => hN, ?_⟩
      refine ⟨_, rfl, .inl ⟨rfl, _, .inl (.inl w4)⟩, wl, _, .int (a : Int), rfl, rfl, w4, by rw [iV_snoc]; exact get_last _ _, ?_⟩
      rw [iV_snoc, List.dropLast_concat]
      have w5 : (upd H4 wl (.lst (iV wb))) wl = some (.lst (iV wb)) := upd_same
      have f5 : (upd H4 wl (.lst (iV wb))) fl = some (.lst (iV fs)) := by rw [upd_ne nfw]; exact f4
      have d5 : (upd H4 wl (.lst (iV wb))) sd = some (.dK (kvsT (S ++ T))) := by rw [upd_ne nsw]; exact d4
      have x5 : Sx [fl, wl, sd] H2 (upd H4 wl (.lst (iV wb))) := x4.upd (by simp)
      have up5 : ∀ c o, H c = some o → c ≠ sd → (upd H4 wl (.lst (iV wb))) c = some o := fun c o e h => by rw [upd_ne (ne_of_none e hwl0)]; exact up4 c o e h
      show Ends.nx _ _ (upd H4 wl (.lst (iV wb)))
      generalize upd H4 wl (.lst (iV wb)) = H5 at *
      refine ⟨_, rfl, .inl ⟨rfl, _, .inl (.inl f5)⟩, _, rfl, fl, _, _, rfl, rfl, f5, szL (by rw [iV_len]; omega), ?_⟩
      rw [← iV_snoc]
      have f6 : (upd H5 fl (.lst (iV (fs ++ [a])))) fl = some (.lst (iV (fs ++ [a]))) := upd_same
      have w6 : (upd H5 fl (.lst (iV (fs ++ [a])))) wl = some (.lst (iV wb)) := by rw [upd_ne (Ne.symm nfw)]; exact w5
      have d6 : (upd H5 fl (.lst (iV (fs ++ [a])))) sd = some (.dK (kvsT (S ++ T))) := by rw [upd_ne nsf]; exact d5
      have x6 : Sx [fl, wl, sd] H2 (upd H5 fl (.lst (iV (fs ++ [a])))) := x5.upd (by simp)
      have up6 : ∀ c o, H c = some o → c ≠ sd → (upd H5 fl (.lst (iV (fs ++ [a])))) c = some o := fun c o e h => by rw [upd_ne (ne_of_none e hfl)]; exact up5 c o e h
      show Ends.nx _ _ (upd H5 fl (.lst (iV (fs ++ [a]))))
      generalize upd H5 fl (.lst (iV (fs ++ [a]))) = H6 at *
      have RI6 := RI.pop
      have hal : a < oss.length := RI.lt a (by simp)
      have hla : as.length = oss.length := pr_len hL
      have ai : as[a]? = some (as[a]'(by omega)) := List.getElem?_eq_getElem _
      obtain ⟨os, ho, hos⟩ := pr_get hL ai
      have hosl := hB os (List.mem_of_getElem? ho)
      have hos6 := up6 _ _ hos (nas _ _ hos)
      have nos : as[a]'(by omega) ∉ [fl, wl, sd] := n3 _ _ hos (nas _ _ hos)
      refine ⟨_, rfl, _, rfl, q, _, _, .ref (as[a]'(by omega)), rfl, rfl, lstOf (up6 _ _ hq nq), atI_nat (by rw [List.getElem?_map, ai]; rfl), _, rfl, ⟨_, lstOf hos6⟩, ?_⟩
      refine for_it (walk_list (xs := iV os)) (fun e σ H7 => ∃ (a6 : Option V) (ws T : List Nat), σ = [some (.ref q), some (.int (first : Int)), some (.ref sd), some (.ref fl), some (.ref wl), some (.int (a : Int)), a6] ∧ Sx [fl, wl, sd] H2 H7 ∧
        H7 fl = some (.lst (iV (fs ++ [a]))) ∧ H7 wl = some (.lst (iV ws)) ∧ H7 sd = some (.dK (kvsT (S ++ T))) ∧ (∀ o, o ∈ T ↔ o ∈ fs ++ [a] ++ ws) ∧ (S ++ T).Nodup ∧ RchI oss S first (fs ++ [a]) ws ∧ RchC oss S fs (a :: ws) ∧ (∀ o ∈ os.take e, o ∈ S ∨ o ∈ fs ++ [a] ++ ws) ∧ H7 (as[a]'(by omega)) = some (.lst (iV os)))
        ⟨_, wb, T, rfl, x6, f6, w6, d6, (fun o => by rw [hT, mem_mid]), ndT, RI6, ⟨fun o h o' h' => (RC.cl o h o' h').imp id fun h => by simp only [List.mem_append, List.mem_cons, List.not_mem_nil, or_false] at h ⊢; rcases h with h | h | h <;> simp [h]⟩, (fun o h => by rw [List.take_zero] at h; cases h), hos6⟩ (fun e σ H7 _ h => by
        obtain ⟨_, _, _, _, _, _, _, _, _, _, _, _, _, h⟩ := h
        exact lstOf h) ?_ ?_
      · rintro e x σ H7 H' he ⟨a6, ws, T, rfl, x7, f7, w7, d7, hT7, ndT7, RI7, RC7, tk7, os7⟩ ⟨rfl, hx⟩
        obtain ⟨o, ho2, rfl⟩ := iV_get hx
        have hm : Mm oss a o := ⟨os, ho, List.mem_of_getElem? ho2⟩
        have hol := hlt a o hm
        have etk : os.take (e + 1) = os.take e ++ [o] := by rw [List.take_add_one, ho2]; rfl
        have hST : (S ++ T).length ≤ oss.length := nodup_lt ndT7 fun x hx => by
          rcases List.mem_append.mp hx with hx | hx
          · exact ltS x hx
          · exact RI7.lt x ((hT7 x).mp hx)
        have gt := DGet.k (k := Sum.inl (o : Int)) d7
        refine ⟨_, rfl, _, rfl, sd, _, rfl, gt, _, rfl, ?_⟩
        unfold kvsT
        rw [valV_N]
        by_cases hin : o ∈ S ++ T
        · rw [if_pos hin]
          refine iteF ?_
          refine ⟨_, ws, T, rfl, x7, f7, w7, d7, hT7, ndT7, RI7, RC7, fun o' h => ?_, os7⟩
          rw [etk] at h
          rcases List.mem_append.mp h with h | h
          · exact tk7 o' h
          · rw [List.mem_singleton] at h
            subst h
            exact (List.mem_append.mp hin).imp id fun h => (hT7 _).mp h
        · rw [if_neg hin]
          refine iteT ?_
          have hin2 : o ∉ S ∧ o ∉ fs ++ [a] ++ ws := ⟨fun z => hin (List.mem_append_left _ z), fun z => hin (List.mem_append_right _ ((hT7 o).mpr z))⟩
          have hl7 := RI7.len
          refine ⟨_, rfl, _, rfl, sd, _, rfl, DPut.k (k := Sum.inl (o : Int)) d7 (szL (by unfold kvsT; rw [kvsN_len]; omega)), ?_⟩
          rw [kvsT_put _ o hin]
          have d8 : (upd H' sd (.dK (kvsT (S ++ T ++ [o])))) sd = some (.dK (kvsT (S ++ T ++ [o]))) := upd_same
          have f8 : (upd H' sd (.dK (kvsT (S ++ T ++ [o])))) fl = some (.lst (iV (fs ++ [a]))) := by rw [upd_ne (Ne.symm nsf)]; exact f7
          have w8 : (upd H' sd (.dK (kvsT (S ++ T ++ [o])))) wl = some (.lst (iV ws)) := by rw [upd_ne (Ne.symm nsw)]; exact w7
          have o8 : (upd H' sd (.dK (kvsT (S ++ T ++ [o])))) (as[a]'(by omega)) = some (.lst (iV os)) := by rw [upd_ne (nas _ _ hos)]; exact os7
          have x8 : Sx [fl, wl, sd] H2 (upd H' sd (.dK (kvsT (S ++ T ++ [o])))) := x7.upd (by simp)
          generalize upd H' sd (.dK (kvsT (S ++ T ++ [o]))) = H8 at *
          refine ⟨_, rfl, .inl ⟨rfl, _, .inl (.inl w8)⟩, _, rfl, wl, _, _, rfl, rfl, w8, szL (by rw [iV_len]; omega), ?_⟩
          rw [← iV_snoc]
          refine ⟨_, ws ++ [o], T ++ [o], rfl, x8.upd (by simp), ?_, upd_same, ?_, ?_, ?_, RI7.put (a := a) (by simp) hm hol hin2.1 hin2.2, ⟨fun o1 h1 o2 h2 => (RC7.cl o1 h1 o2 h2).imp id fun h => ?_⟩, ?_, ?_⟩
          · rw [upd_ne nfw]; exact f8
          · rw [upd_ne nsw, ← List.append_assoc]; exact d8
          · intro o'
            rw [List.mem_append, hT7, List.mem_singleton, ← List.append_assoc, List.mem_append (t := [o]), List.mem_singleton]
          · rw [← List.append_assoc, List.nodup_append]
            exact ⟨ndT7, by simp, fun x1 hx1 y1 hy1 z1 => hin (by rw [List.mem_singleton] at hy1; rw [← hy1, ← z1]; exact hx1)⟩
          · simp only [List.mem_append, List.mem_cons, List.not_mem_nil, or_false] at h ⊢
            rcases h with h | h | h <;> simp [h]
          · intro o' h
            rw [etk] at h
            rw [← List.append_assoc]
            rcases List.mem_append.mp h with h | h
            · exact (tk7 o' h).imp id fun h => List.mem_append_left _ h
            · exact .inr (List.mem_append_right _ h)
          · rw [upd_ne (fun z => nos (by rw [z]; simp))]; exact o8
      · rintro σ H7 ⟨a6, ws, T, rfl, x7, f7, w7, d7, hT7, ndT7, RI7, RC7, tk7, os7⟩
        rw [iV_len, List.take_length] at tk7
        refine ⟨oss.length - (fs ++ [a]).length, by rw [List.length_append, List.length_singleton]; omega, _, _, fs ++ [a], ws, T, rfl, rfl, x7, f7, w7, d7, hT7, ndT7, RI7, ⟨fun o h o' h' => ?_⟩⟩
        rcases List.mem_append.mp h with h | h
        · refine (RC7.cl o h o' h').imp id fun h => ?_
          simp only [List.mem_append, List.mem_cons, List.not_mem_nil, or_false] at h ⊢
          rcases h with h | h | h <;> simp [h]
        · rw [List.mem_singleton] at h
          subst h
          obtain ⟨os', h1, h2⟩ := h'
          rw [ho] at h1
          cases h1
          exact tk7 o' h2
end
end Qf
namespace Qf
open PySem PySem.Spec PyProof.Rows L2
def rcI (L : List Lf) (o : Nat) : Int × Int := match L[o]? with | some x => ((x.r : Int), (x.c : Int)) | none => (0, 0)
theorem rcI_eq {L : List Lf} {o : Nat} {x : Lf} (h : L[o]? = some x) : rcI L o = ((x.r : Int), (x.c : Int)) := by unfold rcI; rw [h]
structure GrA where
  p : Addr
  q : Addr
  n : Nat
  L : List Lf
  os : List Nat
def spFirst (C : Addr) : Sp := mkSp (fun a : GrA => [.ref a.p, .ref a.q]) fun a H Q => LvAt C H a.p a.n a.L ∧ Good a.n a.L ∧ H a.q = some (.lst (iV a.os)) ∧ a.os ≠ [] ∧ a.os.length ≤ 2000 ∧ (∀ o ∈ a.os, o < a.L.length) ∧
  ∀ H' t o x, Same H H' → H' t = some (.tup [.int (x.r : Nat), .int (x.c : Nat)]) → o ∈ a.os → a.L[o]? = some x → (∀ o' ∈ a.os, ∀ y : Lf, a.L[o']? = some y → x.r < y.r ∨ (x.r = y.r ∧ x.c ≤ y.c)) → Q (.ref t) H'
/-- at the floor's edge -/
def spEdge (C : Addr) : Sp := mkSp (fun a : GrA => [.ref a.p, .ref a.q]) fun a H Q => LvAt C H a.p a.n a.L ∧ Good a.n a.L ∧ H a.q = some (.lst (iV a.os)) ∧ (∀ o ∈ a.os, o < a.L.length) ∧
  ∃ b : Bool, (b = true ↔ ∃ o ∈ a.os, ∃ x, a.L[o]? = some x ∧ x.edge a.n) ∧ Q (.bl b) H
section
variable {P : Program} {w : World} {K : PySem.W.Frag} {mg : Str → Option Value} {base : Heap}
theorem ok_Leaves_first_cell (B : Bl mg) {CLeaves : Addr} (hC : Cls K CLeaves) (D : Dme K CLeaves "first_cell" "Leaves.first_cell" s_Leaves_first_cell) (T : LT K CLeaves) : Met P w K mg base 1 CLeaves "first_cell" (spFirst CLeaves) := by
  refine met_of hC D sc_Leaves_first_cell (fun _ _ _ _ _ _ us hl => match us, hl with | [_, _], _ => rfl) (fun vs H Q E h => ?_) (fun f cdv A outer s H vs Q E hr h => ?_)
  · obtain ⟨a, rfl, _⟩ := h
    rfl
  · have nd := sc_Leaves_first_cell.nd
    have hu := hu_of hr
    have hu65 := hu65_of hr
    obtain ⟨⟨p, q, n, L, os⟩, rfl, Lv, g, hq, hne, hos, hlt, k⟩ := h
    dsimp only at Lv g hq hne hos hlt k
    refine ⟨_, (pss_one (ps_ret (pe_callB (cr_minP rfl hu65) (by rfl) B.min bt_min (pa_cons (pe_lc (own := [("k", 2)]) rfl nd (pi_list (pv 1)) (blkOk_by (N := N_Leaves_first_cell) (sc := defScope s_Leaves_first_cell) (by decide +kernel)) (fun _ _ _ _ _ => (pg_name (i := 2) nd rfl (by first | exact Or.inl rfl | exact Or.inr rfl))) (fun _ _ _ _ _ => pts_nil) (fun _ _ _ _ _ => (pe_slice (sl_tupK (K := K)) (pe_ix (ix_listK (K := K)) (pe_fldK (K := K) (pv 0) rfl) (pv 2) (fun _ _ => rfl)) po_none (po_some pe_int)))) pa_nil)))), ?_⟩
    obtain ⟨dx, z, hp, hL⟩ := id Lv
    refine ⟨_, rfl, q, rfl, ⟨_, lstOf hq⟩, fun D hD => ?_⟩
    refine lc_map (walk_list (xs := iV os)) (fun i y H' => ∃ t o x, y = .ref t ∧ os[i]? = some o ∧ L[o]? = some x ∧ H' t = some (.tup [.int (x.r : Nat), .int (x.c : Nat)])) hD (fun H' s1 => lstOf (s1 _ _ hq)) (szL (by rw [iV_len]; omega)) ?_ ?_ gName_mono ?_
    · rintro i y H1 H' ⟨t, o, x, h1, h2, h3, h4⟩ ⟨l, hl⟩ sx
      exact ⟨t, o, x, h1, h2, h3, sx _ _ (nin1 h4 hl (by intro z; cases z)) h4⟩
    · rintro i y H1 H' hi s1 _ ⟨rfl, hy⟩ Q' qq
      obtain ⟨o, ho, rfl⟩ := iV_get hy
      have hol := hlt o (List.mem_of_getElem? ho)
      have hx : L[o]? = some L[o] := List.getElem?_eq_getElem hol
      obtain ⟨bs, b, e1, e2, e2', e3⟩ := (hL.same s1).box hx
      refine ⟨rfl, _, rfl, p, CLeaves, dx, _, _, rfl, s1 _ _ hp, T.cl, T.nB, fL_boxes _ _ _ _ _, _, rfl, z.bl, _, _, .ref b, rfl, rfl, lstOf e1, atI_nat e2', ?_⟩
      refine ⟨_, rfl, b, vR (bx L[o]), rfl, tupOf e3, (by show ¬ (_ ∧ min 2 3 = 3); omega), fun t ht => ?_⟩
      exact qq _ _ (same_new ht) ⟨t, o, L[o], rfl, ho, hx, upd_same⟩
    · intro ys H1 s1 hy py
      rw [iV_len] at py
      have hps : Paired (fun y p => Dp K H1 y (pD p)) ys (os.map (rcI L)) := by
        refine paired_of_get (by rw [← pr_len py, List.length_range, List.length_map]) fun i y p h1 h2 => ?_
        have hil : i < os.length := by have := get_lt h2; rw [List.length_map] at this; exact this
        obtain ⟨y', e1, t, o, x, e2, e3, e4, e5⟩ := pr_get py (i := i) (x := i) (List.getElem?_range hil)
        rw [h1] at e1
        cases e1
        rw [List.getElem?_map, e3] at h2
        have h2 := Option.some.inj h2
        rw [rcI_eq e4] at h2
        subst h2
        subst e2
        exact .tup (tupOf e5) (.cons (.int _) (.cons (.int _) .nil))
      cases os with
      | nil => exact absurd rfl hne
      | cons o0 os' =>
        refine ⟨D, ys, rcI L o0, os'.map (rcI L), rfl, lstOf hy, hps, fun i y m hym hm hmin => ?_⟩
        have hil : i < (o0 :: os').length := by rw [← List.length_range (n := (o0 :: os').length), pr_len py]; exact get_lt hym
        obtain ⟨y', e1, t, o, x, e2, e3, e4, e5⟩ := pr_get py (i := i) (x := i) (List.getElem?_range hil)
        rw [hym] at e1
        cases e1
        subst e2
        have em : m = rcI L o := by
          have hm : ((o0 :: os').map (rcI L))[i]? = some m := hm
          rw [List.getElem?_map, e3] at hm
          exact (Option.some.inj hm).symm
        subst em
        refine k H1 t o x s1 e5 (List.mem_of_getElem? e3) e4 fun o' ho' y hy => ?_
        have := hmin (rcI L o') (List.mem_map.mpr ⟨o', ho', rfl⟩)
        rw [rcI_eq e4, rcI_eq hy] at this
        unfold lexLe at this
        dsimp only at this
        omega
theorem ok_Leaves_is_at_edge (B : Bl mg) {CLeaves : Addr} (hC : Cls K CLeaves) (D : Dme K CLeaves "is_at_edge" "Leaves.is_at_edge" s_Leaves_is_at_edge) (T : LT K CLeaves) : Met P w K mg base 1 CLeaves "is_at_edge" (spEdge CLeaves) := by
  refine met_of hC D sc_Leaves_is_at_edge (fun _ _ _ _ _ _ us hl => match us, hl with | [_, _], _ => rfl) (fun vs H Q E h => ?_) (fun f cdv A outer s H vs Q E hr h => ?_)
  · obtain ⟨a, rfl, _⟩ := h
    rfl
  · have nd := sc_Leaves_is_at_edge.nd
    have hu := hu_of hr
    have hu65 := hu65_of hr
    obtain ⟨⟨p, q, n, L, os⟩, rfl, Lv, g, hq, hlt, b, hb, k⟩ := h
    dsimp only at Lv g hq hlt hb k
    refine ⟨_, (pss_cons (ps_set (i := 2) nd rfl (by first | exact Or.inl rfl | exact Or.inr rfl) (pe_op op_shl pe_int (pe_fld (pv 0) rfl)))
      (pss_cons (ps_for PassesOwn.never rfl (pi_list (pv 1)) (pg_name (i := 3) nd rfl (by first | exact Or.inl rfl | exact Or.inr rfl))
      (pss_cons (ps_asg (pe_ix ix_list (pe_fld (pv 0) rfl) (pv 3) (fun _ _ => rfl)) (pg_tup rfl (pgs_cons (pg_name (i := 4) nd rfl (by first | exact Or.inl rfl | exact Or.inr rfl)) (pgs_cons (pg_name (i := 5) nd rfl (by first | exact Or.inl rfl | exact Or.inr rfl)) (pgs_cons (pg_name (i := 6) nd rfl (by first | exact Or.inl rfl | exact Or.inr rfl)) pgs_nil)))))
      (pss_one (ps_if (PW.pt (pw_or (pt_cmpR op_eq (pv 4) pe_int (nomark _)) (pw_or (pt_cmpR op_eq (pv 5) pe_int (nomark _)) (pw_or (pt_cmpR op_eq (pe_op op_add (pv 4) (pv 6)) (pv 2) (nomark _)) (pw_or1 (pt_cmpR op_eq (pe_op op_add (pv 5) (pv 6)) (pv 2) (nomark _))))))) (pss_one (ps_ret pe_bl)) pss_nil))))
      (pss_one (ps_ret pe_bl)))), ?_⟩
    obtain ⟨dx, z, hp, hL⟩ := id Lv
    have h6 := g.n6
    refine ⟨_, rfl, p, CLeaves, dx, _, _, rfl, hp, T.cl, T.nN, fL_n _ _ _ _ _, _, _, rfl, rfl, ⟨by omega, by omega, by decide⟩, ?_⟩
    have e0 : (1 : Int) * 2 ^ (n : Int).toNat = ((2 ^ n : Nat) : Int) := by rw [Int.one_mul, Int.toNat_natCast]; push_cast; rfl
    refine ⟨_, rfl, q, rfl, ⟨_, lstOf hq⟩, for_it (walk_list (xs := iV os)) (fun i σ H1 => H1 = H ∧ ∃ (a3 a4 a5 a6 : Option V), σ = [some (.ref p), some (.ref q), some (.int (2 ^ n : Nat)), a3, a4, a5, a6] ∧ ∀ o ∈ os.take i, ∀ x, L[o]? = some x → ¬ x.edge n)
      ⟨rfl, none, none, none, none, congrArg (fun z => ([some (V.ref p), some (V.ref q), some (V.int z), none, none, none, none] : L2.St)) e0, fun o h => by rw [List.take_zero] at h; cases h⟩ (fun i σ H1 _ h => by rw [h.1]; exact lstOf hq) ?_ ?_⟩
    · rintro i y σ H1 H' hi ⟨rfl, a3, a4, a5, a6, rfl, hno⟩ ⟨rfl, hy⟩
      obtain ⟨o, ho, rfl⟩ := iV_get hy
      have hol := hlt o (List.mem_of_getElem? ho)
      have hx : L[o]? = some L[o] := List.getElem?_eq_getElem hol
      obtain ⟨bs, b', e1, e2, e2', e3⟩ := hL.box hx
      have etk : os.take (i + 1) = os.take i ++ [o] := by rw [List.take_add_one, ho]; rfl
      have hret : L[o].edge n → Q (.bl true) H' := fun he => by
        have : b = true := hb.mpr ⟨o, List.mem_of_getElem? ho, L[o], hx, he⟩
        subst this
        exact k
      refine ⟨_, rfl, p, CLeaves, dx, _, _, rfl, hp, T.cl, T.nB, fL_boxes _ _ _ _ _, _, rfl, z.bl, _, _, .ref b', rfl, rfl, lstOf e1, atI_nat e2', ?_⟩
      refine ⟨b', _, rfl, tupOf e3, rfl, _, _, rfl, _, _, rfl, _, _, rfl, rfl, ?_⟩
      refine ⟨_, rfl, rfl, _, rfl, ite_d (fun h => iteT (hret (.inl (by have := V.int.inj h; omega)))) (fun h1 => ⟨_, rfl, rfl, _, rfl, ite_d (fun h => iteT (hret (.inr (.inl (by have := V.int.inj h; omega))))) (fun h2 => ?_)⟩)⟩
      refine ⟨_, rfl, _, rfl, _, _, rfl, rfl, _, rfl, rfl, _, rfl, ite_d (fun h => iteT (hret (.inr (.inr (.inl (by have := V.int.inj h; omega)))))) (fun h3 => ?_)⟩
      refine ⟨_, rfl, _, rfl, _, _, rfl, rfl, _, rfl, rfl, _, rfl, ite_d (fun h => hret (.inr (.inr (.inr (by have := V.int.inj h; omega))))) (fun h4 => ?_)⟩
      refine ⟨rfl, _, _, _, _, rfl, fun o' ho' x' hx' he => ?_⟩
      rw [etk] at ho'
      rcases List.mem_append.mp ho' with ho' | ho'
      · exact hno o' ho' x' hx' he
      · rw [List.mem_singleton] at ho'
        subst ho'
        rw [hx] at hx'
        cases hx'
        rcases he with he | he | he | he
        · exact h1 (congrArg V.int (by omega))
        · exact h2 (congrArg V.int (by omega))
        · exact h3 (congrArg V.int (by omega))
        · exact h4 (congrArg V.int (by omega))
    · rintro σ H1 ⟨rfl, a3, a4, a5, a6, rfl, hno⟩
      rw [iV_len, List.take_length] at hno
      have : b = false := by
        cases b with
        | false => rfl
        | true =>
          obtain ⟨o, ho, x, hx, he⟩ := hb.mp rfl
          exact absurd he (hno o ho x hx)
      subst this
      exact k
end
end Qf
namespace Qf
open PySem PySem.Spec PyProof.Rows L2 LamX
def TG (Pt : Addr) : List (Addr × Str) := [(Pt, ("Leaves.groups" : Str) ++ ".<locals>." ++ "<lambda>")]
theorem ext_lst {H H' : Hp} {a : Addr} {xs : List V} (s : ExtN H H') (e : H a = some (.lst xs)) : H' a = some (.lst xs) := s _ _ e (by intro ps z; cases z)
theorem ext_tup {H H' : Hp} {a : Addr} {xs : List V} (s : ExtN H H') (e : H a = some (.tup xs)) : H' a = some (.tup xs) := s _ _ e (by intro ps z; cases z)
theorem LvAt.ext {C : Addr} {H H' : Hp} {p : Addr} {n : Nat} {L : List Lf} (h : LvAt C H p n L) (s : ExtN H H') : LvAt C H' p n L := by
  obtain ⟨dx, y, h1, h2, h3, ⟨bs, h4, h5⟩, h6⟩ := h
  exact ⟨dx, y, s _ _ h1 (by intro ps z; cases z), ext_lst s h2, ext_lst s h3, ⟨bs, ext_lst s h4, pr_imp h5 fun a y _ _ e => ext_tup s e⟩, s _ _ h6 (by intro ps z; cases z)⟩
theorem LLs.ext {H H' : Hp} {as : List Addr} {oss : List (List Nat)} (h : LLs H as oss) (s : ExtN H H') : LLs H' as oss := pr_imp h fun a os _ _ e => ext_lst s e
theorem perm_refs {ys : List V} {as : List Addr} (h : ys.Perm (as.map V.ref)) : ∃ as' : List Addr, ys = as'.map V.ref ∧ as'.Perm as := by
  refine ⟨ys.map fun v => match v with | .ref a => a | _ => 0, ?_, ?_⟩
  · rw [List.map_map]
    have : ys.map id = ys := List.map_id ys
    refine (this.symm.trans ?_)
    refine List.map_congr_left fun v hv => ?_
    obtain ⟨a, _, e⟩ := List.mem_map.mp (h.mem_iff.mp hv)
    rw [← e]
    rfl
  · have := h.map fun v => match v with | .ref a => a | _ => (0 : Addr)
    rw [List.map_map] at this
    have e : as.map ((fun v => match v with | .ref a => a | _ => (0 : Addr)) ∘ V.ref) = as := by
      have : as.map id = as := List.map_id as
      exact Eq.trans (List.map_congr_left fun a _ => rfl) this
    rw [e] at this
    exact this
theorem perm_paired {α β : Type} {R : α → β → Prop} {as' as : List α} (h : as'.Perm as) : ∀ {gs : List β}, Paired R as gs → ∃ gs', gs'.Perm gs ∧ Paired R as' gs' := by
  induction h with
  | nil => exact fun p => ⟨_, .refl _, p⟩
  | cons x _ ih =>
    intro gs p
    cases p with
    | cons r t =>
      obtain ⟨gs', h1, h2⟩ := ih t
      exact ⟨_ :: gs', h1.cons _, .cons r h2⟩
  | swap x y l =>
    intro gs p
    cases p with
    | cons r t =>
      cases t with
      | cons r2 t => exact ⟨_, .swap _ _ _, .cons r2 (.cons r t)⟩
  | trans _ _ ih1 ih2 =>
    intro gs p
    obtain ⟨g1, h1, h2⟩ := ih2 p
    obtain ⟨g2, h3, h4⟩ := ih1 h2
    exact ⟨g2, h3.trans h1, h4⟩
def spGroups (C Pt : Addr) : Sp := mkSp (fun a : LkA => [.ref a.p, .bl a.t, .str (if a.by' then "corners" else "sides")]) fun a H Q => LvAt C H a.p a.n a.L ∧ Good a.n a.L ∧ Tabs (TG Pt) H ∧
  ∀ H' q as gs, ExtN H H' → Tabs (TG Pt) H' → H' q = some (.lst (as.map V.ref)) → LLs H' as gs → Grp a.n a.L a.t a.by' gs → Q (.ref q) H'
section
variable {P : Program} {w : World} {K : PySem.W.Frag} {mg : Str → Option Value} {base : Heap}
theorem ok_Leaves_groups (B : Bl mg) {CLeaves cc Pt : Addr} (hC : Cls K CLeaves) (D : DmT K CLeaves "groups" "Leaves.groups" s_Leaves_groups cc) (TB : TabB base mg cc Pt) (T : LT K CLeaves) (c_Leaves_links : Met P w K mg base 3 CLeaves "links" (spLinks CLeaves)) (c_reached : Cal P w K mg base 1 "reached" spReached)
    (c_Leaves_first_cell : Met P w K mg base 1 CLeaves "first_cell" (spFirst CLeaves)) : Met P w K mg base 6 CLeaves "groups" (spGroups CLeaves Pt) := by
  refine met_ofT hC D sc_Leaves_groups (fun _ _ _ _ _ _ us hl => match us, hl with | [_, _, _], _ => rfl) (fun vs H Q E h => ?_) (fun f cdv A outer s H vs Q E hcdv hr h => ?_)
  · obtain ⟨a, rfl, _⟩ := h
    rfl
  · have nd := sc_Leaves_groups.nd
    have hu := hu_of hr
    have hu65 := hu65_of hr
    subst hcdv
    obtain ⟨⟨p, n, L, t, by'⟩, rfl, Lv, g, HT, k⟩ := h
    dsimp only at Lv g HT k
    refine ⟨_, (pss_cons (ps_set (i := 3) nd rfl (by first | exact Or.inl rfl | exact Or.inr rfl) (pe_mt c_Leaves_links hr (by omega) (pv 0) (pa_cons (pv 1) (pa_cons (pv 2) pa_nil))))
      (pss_cons (ps_set (i := 4) nd rfl (by first | exact Or.inl rfl | exact Or.inr rfl) pe_dnewK)
      (pss_cons (ps_set (i := 5) nd rfl (by first | exact Or.inl rfl | exact Or.inr rfl) (pe_lst pa_nil))
      (pss_cons (ps_for PassesOwn.never rfl (pi_enum rfl B.enumerate (pa_cons (pe_fld (pv 0) rfl) pa_nil)) (pg_tup rfl (pgs_cons (pg_name (i := 6) nd rfl (by first | exact Or.inl rfl | exact Or.inr rfl)) (pgs_cons (pg_name (i := 7) nd rfl (by first | exact Or.inl rfl | exact Or.inr rfl)) pgs_nil)))
      (pss_one (ps_if (PW.pt (pw_and (pt_cmpR op_eq (pv 7) (pv 1) (nomark _)) (pw_and1 (pt_cmp (pc_dnotin hu (pv 6) (pv 4)))))) (pss_one (ps_expr (pe_bm PySem.F.plainAttrs_list PySem.F.slot_list_append PySem.F.type_list_append mt_append (pv 5) (pa_cons (pe_c c_reached hr (by omega) rfl (pa_cons (pv 3) (pa_cons (pv 6) (pa_cons (pv 4) pa_nil)))) pa_nil)))) pss_nil)))
      (pss_one (ps_ret (pe_sortedLam (T := TG Pt) (k := 1) (i0 := 0) (N' := ["group", "self"]) (par := "group") (self := "self") (pv 5) rfl B.sorted TB rfl (List.mem_singleton.mpr rfl) (fun p hp _ => by rw [List.mem_singleton.mp hp]; rfl) hr (NdefX.nscope_by (by decide +kernel)) rfl (fun _ _ _ _ _ us h => match us, h with | [_], _ => rfl) (NdefX.ndef_free (sc := defScope s_Leaves_groups) (fr := ["self"]) (by decide +kernel)) (by decide +kernel) rfl (fun _ _ _ _ _ _ _ hr' => pe_mt c_Leaves_first_cell hr' (by omega) (pv 1) (pa_cons (pv 0) pa_nil))))))))), ?_⟩
    obtain ⟨dx, z, hp, hL⟩ := id Lv
    have hl2 := g.len
    refine ⟨_, rfl, p, dx, _, rfl, hp, nL_links, _, rfl, _, rfl, ⟨p, n, L, t, by'⟩, rfl, Lv, g, fun H1 q1 as oss s1 e1 l1 ol ob om => ?_⟩
    dsimp only at ol om
    intro sd hsd
    refine ⟨szl (by show 0 ≤ 1000000; decide), fun fl hfl => ?_⟩
    have s2 := sNew (same_new hsd (o := .dK [])) hfl (o := .lst [])
    have nsf : sd ≠ fl := fun z => by subst z; rw [upd_same] at hfl; cases hfl
    have d2 : (upd (upd H1 sd (.dK [])) fl (.lst [])) sd = some (.dK []) := by rw [upd_ne nsf, upd_same]
    have f2 : (upd (upd H1 sd (.dK [])) fl (.lst [])) fl = some (.lst []) := upd_same
    have hfl0 : H1 fl = none := (same_new hsd (o := .dK [])).free hfl
    show Ends.nx _ _ (upd (upd H1 sd (.dK [])) fl (.lst []))
    generalize upd (upd H1 sd (.dK [])) fl (.lst []) = H2 at *
    have s02 : Same H H2 := s1.trans s2
    have n2 : ∀ c o, H1 c = some o → c ∉ [sd, fl] := fun c o e => by
      simp only [List.mem_cons, List.not_mem_nil, or_false, not_or]
      exact ⟨ne_of_none e hsd, ne_of_none e hfl0⟩
    refine ⟨_, rfl, p, CLeaves, dx, _, _, rfl, s02 _ _ hp, T.cl, T.nT, fL_truths _ _ _ _ _, z.tl, _, rfl, lstOf (s02 _ _ hL.t), ?_⟩
    refine for_it (walk_enum (xs := vT L)) (fun i σ H3 => ∃ (a6 a7 : Option V) (S : List Nat) (gas : List Addr) (gs : List (List Nat)), σ = [some (.ref p), some (.bl t), some (.str (if by' then "corners" else "sides")), some (.ref q1), some (.ref sd), some (.ref fl), a6, a7] ∧
      Sx [sd, fl] H2 H3 ∧ H3 sd = some (.dK (kvsT S)) ∧ H3 fl = some (.lst (gas.map V.ref)) ∧ LLs H3 gas gs ∧ (∀ a ∈ gas, a ∉ [sd, fl]) ∧ S.Nodup ∧ (∀ o ∈ S, o < L.length) ∧ gs.length ≤ i ∧ GrpI n L t by' gs ∧ (∀ o, o ∈ S ↔ ∃ g ∈ gs, o ∈ g) ∧ (∀ o, o < i → ∀ x, L[o]? = some x → x.b = t → o ∈ S))
      ⟨none, none, [], [], [], rfl, Sx.refl _ _, d2, f2, .nil, (fun a h => by cases h), List.nodup_nil, (fun o h => by cases h), Nat.le_refl _, GrpI.nil, (fun o => ⟨fun h => (by cases h), fun ⟨_, h, _⟩ => (by cases h)⟩), fun o h => absurd h (Nat.not_lt_zero _)⟩
      (fun i σ H3 _ h => by
        obtain ⟨_, _, _, _, _, _, x3, _⟩ := h
        exact lstOf (x3 _ _ (n2 _ _ (s1 _ _ hL.t)) (s02 _ _ hL.t))) ?_ ?_
    · rintro i x σ H3 H' hi ⟨a6, a7, S, gas, gs, rfl, x3, d3, f3, l3, nga, ndS, ltS, lgs, GI, hSg, hcv⟩ ⟨Tp, v1, v2, rfl, hTp, rfl, e1', e2⟩
      obtain rfl : V.int (i : Nat) = v1 := Option.some.inj e1'
      obtain ⟨x0, hx0, rfl⟩ := vT_get e2
      rw [vT_len] at hi
      have s4 := same_new hTp (o := .tup [.int (i : Nat), .bl x0.b])
      have x4 : Sx [sd, fl] H2 (upd H3 Tp (.tup [.int (i : Nat), .bl x0.b])) := x3.new hTp
      have d4 := s4 _ _ d3
      have f4 := s4 _ _ f3
      have l4 : LLs (upd H3 Tp (.tup [.int (i : Nat), .bl x0.b])) gas gs := pr_imp l3 fun a os _ _ e => s4 _ _ e
      refine ⟨Tp, _, rfl, tupOf upd_same, rfl, _, _, rfl, _, _, rfl, rfl, ?_⟩
      generalize upd H3 Tp (.tup [.int (i : Nat), .bl x0.b]) = H4 at *
      refine ⟨_, rfl, _, rfl, rfl, _, rfl, ite_d (fun hb => ?_) (fun hb => ?_)⟩
      · have hb : x0.b = t := V.bl.inj hb
        refine ⟨_, rfl, _, rfl, sd, _, rfl, DGet.k (k := Sum.inl (i : Int)) d4, _, rfl, ?_⟩
        unfold kvsT
        rw [valV_N]
        by_cases hin : i ∈ S
        · rw [if_pos hin]
          refine iteF ?_
          refine ⟨_, _, S, gas, gs, rfl, x4, d4, f4, l4, nga, ndS, ltS, by omega, GI, hSg, fun o ho x hx hxb => ?_⟩
          by_cases hoi : o = i
          · subst hoi; exact hin
          · exact hcv o (by omega) x hx hxb
        · rw [if_neg hin]
          refine iteT ?_
          have up4 : ∀ c o, H1 c = some o → H4 c = some o := fun c o e => x4 _ _ (n2 _ _ e) (s2 _ _ e)
          refine ⟨_, rfl, .inl ⟨rfl, _, .inl (.inl f4)⟩, _, rfl, _, rfl, _, rfl, ⟨q1, i, sd, as, oss, S⟩, rfl, up4 _ _ e1, pr_imp l1 fun a os _ _ e => up4 _ _ e, d4, by show oss.length ≤ 2000; omega, ob, (fun j o h => ?_), ndS, (fun o h => by have := ltS o h; show o < oss.length; omega), by show i < oss.length; omega, hin, fun H5 fa fs Ts x5 nfa e5 d5 hT5 nd5 RI RC => ?_⟩
          · obtain ⟨_, y, _, h2, _⟩ := (om j o).mp h
            have := get_lt h2
            show o < oss.length
            omega
          dsimp only at nd5 RI RC
          have hfs : ∀ o ∈ fs, o < L.length := fun o ho => by have := RI.lt o (List.mem_append_left _ ho); omega
          have f5 := x5 _ _ (by simp only [List.mem_singleton]; exact Ne.symm nsf) f4
          have hGI := GI.snoc hSg om RI RC ⟨x0, hx0, hb⟩
          have hfafl : fa ≠ fl := fun z => by rw [z, f4] at nfa; cases nfa
          have hfasd : fa ≠ sd := fun z => by rw [z, d4] at nfa; cases nfa
          have lga : gas.length = gs.length := pr_len l4
          refine ⟨fl, _, _, rfl, rfl, f5, szL (by rw [List.length_map]; omega), ?_⟩
          refine ⟨_, _, S ++ Ts, gas ++ [fa], gs ++ [fs], rfl, (x4.trans (x5.mono (by simp))).upd (by simp), ?_, ?_, ?_, ?_, nd5, ?_, ?_, hGI, ?_, ?_⟩
          · rw [upd_ne nsf]; exact d5
          · rw [upd_same, List.map_append]; rfl
          · refine Paired.snoc (pr_imp l4 fun a os ha _ e => ?_) ?_
            · have hn := nga a ha
              simp only [List.mem_cons, List.not_mem_nil, or_false, not_or] at hn
              show upd _ _ _ _ = _
              rw [upd_ne hn.2]
              exact x5 _ _ (by simp [hn.1]) e
            · show upd _ _ _ _ = _
              rw [upd_ne hfafl]; exact e5
          · intro a ha
            rcases List.mem_append.mp ha with ha | ha
            · exact nga a ha
            · rw [List.mem_singleton] at ha
              subst ha
              simp [hfafl, hfasd]
          · intro o ho
            rcases List.mem_append.mp ho with ho | ho
            · exact ltS o ho
            · exact hfs o ((hT5 o).mp ho)
          · rw [List.length_append, List.length_singleton]; omega
          · intro o
            rw [List.mem_append, hSg, hT5]
            constructor
            · rintro (⟨g', h1, h2⟩ | h)
              · exact ⟨g', List.mem_append_left _ h1, h2⟩
              · exact ⟨fs, List.mem_append_right _ (List.mem_singleton.mpr rfl), h⟩
            · rintro ⟨g', h1, h2⟩
              rcases List.mem_append.mp h1 with h1 | h1
              · exact .inl ⟨g', h1, h2⟩
              · rw [List.mem_singleton] at h1
                subst h1
                exact .inr h2
          · intro o ho x hx hxb
            by_cases hoi : o = i
            · subst hoi
              have := RI.fi
              rw [List.append_nil] at this
              exact List.mem_append_right _ ((hT5 _).mpr this)
            · exact List.mem_append_left _ (hcv o (by omega) x hx hxb)
      · have hb : x0.b ≠ t := fun z => hb (by rw [z])
        refine ⟨_, _, S, gas, gs, rfl, x4, d4, f4, l4, nga, ndS, ltS, by omega, GI, hSg, fun o ho x hx hxb => ?_⟩
        by_cases hoi : o = i
        · subst hoi
          rw [hx0] at hx
          cases hx
          exact absurd hxb hb
        · exact hcv o (by omega) x hx hxb
    · rintro σ H3 ⟨a6, a7, S, gas, gs, rfl, x3, d3, f3, l3, nga, ndS, ltS, lgs, GI, hSg, hcv⟩
      rw [vT_len] at lgs hcv
      have s03 : Same H H3 := fun c o e => x3 _ _ (n2 _ _ (s1 _ _ e)) (s02 _ _ e)
      have Lv3 := Lv.same s03
      have hG : Grp n L t by' gs := ⟨GI, fun o x hx hxb => (hSg o).mp (hcv o (get_lt hx) x hx hxb)⟩
      have lga : gas.length = gs.length := pr_len l3
      refine ⟨_, rfl, fl, gas.map V.ref, rfl, f3, by rw [List.length_map]; omega, HT.ext s03, fun H4 x4 T4 gv hgv Q' hq => ?_, fun H4 q4 ys x4 T4 hperm e4 => ?_⟩
      · obtain ⟨a, ha, rfl⟩ := List.mem_map.mp hgv
        obtain ⟨i, hi, ei⟩ := List.getElem_of_mem ha
        obtain ⟨os, ho, hos⟩ := pr_get l3 (by rw [List.getElem?_eq_getElem hi, ei])
        have hog := List.mem_of_getElem? ho
        have Lv4 := Lv3.ext x4
        obtain ⟨dx4, z4, hp4, _⟩ := id Lv4
        have hlt4 : ∀ o ∈ os, o < L.length := fun o h => by
          obtain ⟨x, hx, _⟩ := GI.mem os hog o h
          exact get_lt hx
        refine ⟨_, rfl, p, dx4, _, rfl, hp4, nL_first_cell, _, rfl, ⟨p, a, n, L, os⟩, rfl, Lv4, g, ext_lst x4 hos, GI.ne os hog, ?_, hlt4, fun H5 t5 o x s5 e5 _ _ _ => hq t5 _ _ H5 s5 e5⟩
        have := nodup_lt (GI.nd os hog) hlt4
        show os.length ≤ 2000
        omega
      · obtain ⟨as', rfl, hp'⟩ := perm_refs hperm
        obtain ⟨gs', h1, h2⟩ := perm_paired hp' l3
        exact k H4 q4 as' gs' ((ExtN.of s03).trans x4) T4 e4 (LLs.ext h2 x4) (hG.perm h1)
end
end Qf
namespace Qf
open PySem PySem.Spec PyProof.Rows L2 LamX
def hitF {α : Type} (q : α → Bool) (gs : List α) (i : Nat) : Bool := match gs[i]? with | some g => q g | none => false
theorem hitF_some {α : Type} {q : α → Bool} {gs : List α} {i : Nat} {g : α} (h : gs[i]? = some g) : hitF q gs i = q g := by unfold hitF; rw [h]
def idxF {α : Type} (q : α → Bool) (gs : List α) : List Nat := (List.range gs.length).filter (hitF q gs)
theorem idx_pr {α : Type} (q : α → Bool) : ∀ (gs : List α), Paired (fun (i : Nat) g => gs[i]? = some g) (idxF q gs) (gs.filter q)
  | [] => .nil
  | g :: gs => by
    have ih := idx_pr q gs
    have e : idxF q (g :: gs) = (if q g = true then [0] else []) ++ (idxF q gs).map Nat.succ := by
      unfold idxF
      rw [List.length_cons, List.range_succ_eq_map, List.filter_cons, List.filter_map]
      have e2 : List.filter (hitF q (g :: gs) ∘ Nat.succ) (List.range gs.length) = List.filter (hitF q gs) (List.range gs.length) := by
        congr 1
      rw [e2]
      show (if q g = true then _ else _) = _
      split <;> rfl
    rw [e, List.filter_cons]
    have t : Paired (fun (i : Nat) g' => (g :: gs)[i]? = some g') ((idxF q gs).map Nat.succ) (gs.filter q) := pr_map_left (pr_imp ih fun i g' _ _ h => by simpa using h)
    split
    · exact .cons rfl t
    · exact t
theorem pr_join {α β γ : Type} {R : α → β → Prop} {S : α → γ → Prop} : ∀ {l : List α} {m : List β} {o : List γ}, Paired R l m → Paired S l o → Paired (fun y z => ∃ i, R i y ∧ S i z) m o
  | _, _, _, .nil, .nil => .nil
  | _, _, _, .cons h t, .cons h' t' => .cons ⟨_, h, h'⟩ (pr_join t t')
theorem pr_refs {β : Type} {W : Addr → β → Prop} : ∀ {ys : List V} {zs : List β}, Paired (fun y z => ∃ a, y = V.ref a ∧ W a z) ys zs → ∃ as' : List Addr, ys = as'.map V.ref ∧ Paired W as' zs
  | _, _, .nil => ⟨[], rfl, .nil⟩
  | _, _, .cons ⟨a, e, w⟩ t => by
    obtain ⟨as', h1, h2⟩ := pr_refs t
    exact ⟨a :: as', by rw [e, h1]; rfl, .cons w h2⟩
def spParts (C Pt : Addr) : Sp := mkSp (fun a : LkA => [.ref a.p, .str (if a.by' then "corners" else "sides")]) fun a H Q => LvAt C H a.p a.n a.L ∧ Good a.n a.L ∧ Tabs (TG Pt) H ∧
  ∀ H' q as gs, ExtN H H' → Tabs (TG Pt) H' → H' q = some (.lst (as.map V.ref)) → LLs H' as gs → Grp a.n a.L true a.by' gs → Q (.ref q) H'
def spHoles (C Pt : Addr) : Sp := mkSp (fun a : LkA => [.ref a.p, .str (if a.by' then "corners" else "sides")]) fun a H Q => LvAt C H a.p a.n a.L ∧ Good a.n a.L ∧ Tabs (TG Pt) H ∧
  ∀ H' q as gs, ExtN H H' → Tabs (TG Pt) H' → H' q = some (.lst (as.map V.ref)) → LLs H' as (gs.filter fun g => !edgeB a.n a.L g) → Grp a.n a.L false (!a.by') gs → Q (.ref q) H'
structure FoA where
  tp : Addr
  n : Nat
  t : Qt
  by' : Bool
def spLeavesFor (C : Addr) : Sp := mkSp (fun a : FoA => [.ref a.tp, .str (if a.by' then "corners" else "sides")]) fun a H Q => ShapeAt H a.tp a.n a.t ∧ Fit a.n a.t ∧ a.t.lvs ≤ 2000 ∧
  ∀ H' p, Same H H' → LvAt C H' p a.n (leafs a.n a.t) → Q (.ref p) H'
section
variable {P : Program} {w : World} {K : PySem.W.Frag} {mg : Str → Option Value} {base : Heap}
theorem ok_leaves_for (B : Bl mg) (D : Dfn K mg "leaves_for" s_leaves_for) {CLeaves : Addr} (c_want_shape : Cal P w K mg base 12 "want_shape" spWantShape) (c_want_way : Cal P w K mg base 1 "want_way" spWay) (c_Leaves___init__ : Mak P w K mg base 14 "Leaves" CLeaves (spLeavesInit CLeaves)) : Cal P w K mg base 16 "leaves_for" (spLeavesFor CLeaves) := by
  refine cal_of D sc_leaves_for (fun _ _ _ _ _ _ us hl => match us, hl with | [_, _], _ => rfl) (fun vs H Q E h => ?_) (fun f cdv A outer s H vs Q E hr h => ?_)
  · obtain ⟨a, rfl, _⟩ := h
    rfl
  · have nd := sc_leaves_for.nd
    have hu := hu_of hr
    have hu65 := hu65_of hr
    obtain ⟨⟨tp, n, t, by'⟩, rfl, Sh, F, hlv, k⟩ := h
    dsimp only at Sh F hlv k
    refine ⟨_, (pss_cons (ps_expr (pe_c c_want_shape hr (by omega) rfl (pa_cons (pv 0) pa_nil)))
      (pss_cons (ps_expr (pe_c c_want_way hr (by omega) rfl (pa_cons (pv 1) pa_nil)))
      (pss_one (ps_ret (pe_mk c_Leaves___init__ hr (by omega) rfl (pa_cons (pv 0) pa_nil)))))), ?_⟩
    refine ⟨_, rfl, ⟨tp, n, t⟩, rfl, Sh, F, fun H1 s1 => ?_⟩
    refine ⟨_, rfl, by', rfl, fun H2 s2 => ?_⟩
    have s02 := s1.trans s2
    refine ⟨_, rfl, ?_⟩
    intro x dx nx ndx nex
    have s0 : Same H2 (upd (upd H2 dx (.own x)) x (.ins CLeaves dx [])) := fun b o e => by
      rw [upd_ne (ne_of_none e nx), upd_ne (ne_of_none e ndx)]
      exact e
    refine ⟨⟨x, ⟨tp, n, t⟩⟩, rfl, ⟨dx, upd_same⟩, (Sh.same s02).same s0, F, hlv, fun H3 Lv3 x3 => ⟨rfl, ?_⟩⟩
    have s3 : Same H2 H3 := Sx.same s0 x3 fun c hc => by rw [List.mem_singleton.mp hc]; exact nx
    exact k H3 x (s02.trans s3) Lv3
theorem ok_Leaves_parts (B : Bl mg) {CLeaves : Addr} (hC : Cls K CLeaves) (D : Dme K CLeaves "parts" "Leaves.parts" s_Leaves_parts) {Pt : Addr} (c_Leaves_groups : Met P w K mg base 6 CLeaves "groups" (spGroups CLeaves Pt)) : Met P w K mg base 7 CLeaves "parts" (spParts CLeaves Pt) := by
  refine met_of hC D sc_Leaves_parts (fun _ _ _ _ _ _ us hl => match us, hl with | [_, _], _ => rfl) (fun vs H Q E h => ?_) (fun f cdv A outer s H vs Q E hr h => ?_)
  · obtain ⟨a, rfl, _⟩ := h
    rfl
  · have nd := sc_Leaves_parts.nd
    have hu := hu_of hr
    have hu65 := hu65_of hr
    obtain ⟨⟨p, n, L, t, by'⟩, rfl, Lv, g, HT, k⟩ := h
    dsimp only at Lv g HT k
    refine ⟨_, (pss_one (ps_ret (pe_mt c_Leaves_groups hr (by omega) (pv 0) (pa_cons pe_bl (pa_cons (pv 1) pa_nil))))), ?_⟩
    obtain ⟨dx, z, hp, hL⟩ := id Lv
    exact ⟨_, rfl, p, dx, _, rfl, hp, nL_groups, _, rfl, ⟨p, n, L, true, by'⟩, rfl, Lv, g, HT, k⟩
theorem ok_Leaves_holes (B : Bl mg) {CLeaves : Addr} (hC : Cls K CLeaves) (D : Dme K CLeaves "holes" "Leaves.holes" s_Leaves_holes) {Pt : Addr} (T : LT K CLeaves) (c_Leaves_groups : Met P w K mg base 6 CLeaves "groups" (spGroups CLeaves Pt)) (c_Leaves_is_at_edge : Met P w K mg base 1 CLeaves "is_at_edge" (spEdge CLeaves)) (c_other_way : Cal P w K mg base 1 "other_way" spOther) : Met P w K mg base 7 CLeaves "holes" (spHoles CLeaves Pt) := by
  refine met_of hC D sc_Leaves_holes (fun _ _ _ _ _ _ us hl => match us, hl with | [_, _], _ => rfl) (fun vs H Q E h => ?_) (fun f cdv A outer s H vs Q E hr h => ?_)
  · obtain ⟨a, rfl, _⟩ := h
    rfl
  · have nd := sc_Leaves_holes.nd
    have hu := hu_of hr
    have hu65 := hu65_of hr
    obtain ⟨⟨p, n, L, t, by'⟩, rfl, Lv, g, HT, k⟩ := h
    dsimp only at Lv g HT k
    refine ⟨_, (pss_one (ps_ret (pe_lc (own := [("group", 2)]) rfl nd (pi_list (pe_mt c_Leaves_groups hr (by omega) (pv 0) (pa_cons pe_bl (pa_cons (pe_c c_other_way hr (by omega) rfl (pa_cons (pv 1) pa_nil)) pa_nil)))) (blkOk_by (N := N_Leaves_holes) (sc := defScope s_Leaves_holes) (by decide +kernel)) (fun _ _ _ _ _ => (pg_name (i := 2) nd rfl (by first | exact Or.inl rfl | exact Or.inr rfl))) (fun _ _ _ _ _ => pts_one (pt_not (pt_val (pe_mt c_Leaves_is_at_edge hr (by omega) (pv 0) (pa_cons (pv 2) pa_nil))))) (fun _ _ _ _ _ => (pv 2))))), ?_⟩
    obtain ⟨dx, z, hp, hL⟩ := id Lv
    refine ⟨_, rfl, p, dx, _, rfl, hp, nL_groups, _, rfl, by', rfl, ⟨p, n, L, false, !by'⟩, rfl, Lv, g, HT, fun H1 q1 as gs x1 T1 e1 l1 G1 => ?_⟩
    dsimp only at G1
    refine ⟨q1, rfl, ⟨_, lstOf e1⟩, fun D hD => ?_⟩
    have lag : as.length = gs.length := pr_len l1
    have hgl : gs.length ≤ 2000 := Nat.le_trans G1.toGrpI.len g.len
    have Lv1 := Lv.ext x1
    refine lc_rel (walk_list (xs := as.map V.ref)) (hitF (fun g => !edgeB n L g) gs) (fun i y _ => ∃ a, y = V.ref a ∧ as[i]? = some a) hD (fun H' s2 => lstOf (s2 _ _ e1)) (szL (by rw [List.length_map]; omega)) (fun _ _ _ _ e _ _ => e) ?_ ?_
    · rintro i y H2 H' hi s2 _ ⟨rfl, hy⟩ Q' Z' qq zz
      rw [List.length_map] at hi
      rw [List.getElem?_map, List.getElem?_eq_getElem hi] at hy
      obtain rfl : V.ref as[i] = y := Option.some.inj hy
      have hai : as[i]? = some as[i] := List.getElem?_eq_getElem hi
      obtain ⟨os, ho, hos⟩ := pr_get l1 hai
      have hlt4 : ∀ o ∈ os, o < L.length := fun o h => by
        obtain ⟨x, hx, _⟩ := G1.mem os (List.mem_of_getElem? ho) o h
        exact get_lt hx
      have Lv2 := Lv1.same s2
      obtain ⟨dx2, z2, hp2, _⟩ := id Lv2
      rw [hitF_some ho] at qq zz
      refine ⟨rfl, _, rfl, p, dx2, _, rfl, hp2, nL_is_at_edge, _, rfl, ⟨p, as[i], n, L, os⟩, rfl, Lv2, g, s2 _ _ hos, hlt4, edgeB n L os, edgeB_iff, ?_⟩
      refine ⟨_, rfl, ite_b (fun hb => ?_) (fun hb => ?_)⟩
      · exact ⟨_, rfl, qq hb _ _ (Same.refl _) ⟨_, rfl, hai⟩⟩
      · exact zz hb _ (Same.refl _)
    · intro ys H2 s2 hy py
      rw [List.length_map, lag] at py
      obtain ⟨as', rfl, h2⟩ := pr_refs (W := fun a g => ∃ i : Nat, as[i]? = some a ∧ gs[i]? = some g) (pr_imp (pr_join py (idx_pr (fun g => !edgeB n L g) gs)) fun y g' _ _ ⟨i, ⟨a, e, e2⟩, e3⟩ => ⟨a, e, i, e2, e3⟩)
      refine k H2 D as' gs (x1.trans (ExtN.of s2)) (T1.ext s2) hy (pr_imp h2 fun a g' _ _ ⟨i, e2, e3⟩ => ?_) G1
      obtain ⟨os, h3, h4⟩ := pr_get l1 e2
      rw [e3] at h3
      cases h3
      exact s2 _ _ h4
end
end Qf
namespace Qf
open PySem PySem.Spec PyProof.Rows L2
theorem adS_inj {a b : List Nat} (h : adS a = adS b) : a = b := by
  unfold adS at h
  have h1 := Str.mk.inj h
  have h2 : a.map (48 + ·) = b.map (48 + ·) := by
    have := congrArg Array.toList h1
    simpa using this
  have inj : ∀ x y : Nat, 48 + x = 48 + y → x = y := fun x y h => by omega
  exact List.map_inj_right inj |>.mp h2
/-- a dict by addresses -/
def kvsA (f : List Nat → V) (As : List (List Nat)) : List (Key × V) := As.map fun ad => (Sum.inr (adS ad), f ad)
theorem kvsA_len (f : List Nat → V) (As : List (List Nat)) : (kvsA f As).length = As.length := List.length_map ..
theorem valV_A (f : List Nat → V) (ad : List Nat) : ∀ (As : List (List Nat)), valV (kvsA f As) (Sum.inr (adS ad)) = if ad ∈ As then some (f ad) else none
  | [] => rfl
  | a :: As => by
    by_cases h : a = ad
    · subst h
      rw [if_pos List.mem_cons_self]
      exact valV_pos rfl
    · have e : valV (kvsA f (a :: As)) (Sum.inr (adS ad)) = valV (kvsA f As) (Sum.inr (adS ad)) := by
        show ((List.find? (fun kv => decide (kv.1 = Sum.inr (adS ad))) ((Sum.inr (adS a), f a) :: kvsA f As)).map (·.2)) = _
        rw [List.find?_cons_of_neg (by simpa using fun z => h (adS_inj z))]
        rfl
      rw [e, valV_A f ad As]
      have hm : ad ∈ a :: As ↔ ad ∈ As := by simp [Ne.symm h]
      by_cases ho : ad ∈ As
      · rw [if_pos ho, if_pos (hm.mpr ho)]
      · rw [if_neg ho, if_neg fun z => ho (hm.mp z)]
theorem kvsA_put (f : List Nat → V) {As : List (List Nat)} {ad : List Nat} (h : ad ∉ As) : putK (kvsA f As) (Sum.inr (adS ad)) (f ad) = kvsA f (As ++ [ad]) := by
  rw [putK_new _ (by rw [valV_A, if_neg h])]
  unfold kvsA
  rw [List.map_append]
  rfl
theorem kvsA_drop (f : List Nat → V) {As : List (List Nat)} {ad : List Nat} (h : ad ∉ As) : dropK (kvsA f (ad :: As)) (Sum.inr (adS ad)) = kvsA f As := by
  unfold dropK kvsA
  rw [List.map_cons, List.filter_cons_of_neg (by simp)]
  rw [List.filter_eq_self]
  intro kv hkv
  obtain ⟨a, ha, rfl⟩ := List.mem_map.mp hkv
  refine decide_eq_true fun z => h ?_
  rw [← adS_inj (Sum.inr.inj z)]
  exact ha
theorem kvsA_congr {f g : List Nat → V} {As : List (List Nat)} (h : ∀ ad ∈ As, f ad = g ad) : kvsA f As = kvsA g As := by
  unfold kvsA
  exact List.map_congr_left fun ad had => by rw [h ad had]
theorem kvsA_merge (f : List Nat → V) : ∀ (As Bs : List (List Nat)), (Bs ++ As).Nodup → mergeK (kvsA f Bs) (kvsA f As) = kvsA f (Bs ++ As)
  | [], Bs, _ => by rw [List.append_nil]; rfl
  | a :: As, Bs, h => by
    have hn : a ∉ Bs := fun z => (List.nodup_append.mp h).2.2 a z a List.mem_cons_self rfl
    show mergeK (putK (kvsA f Bs) (Sum.inr (adS a)) (f a)) (kvsA f As) = _
    rw [kvsA_put f hn, kvsA_merge f As (Bs ++ [a]) (by rw [List.append_assoc]; exact h), List.append_assoc]
    rfl
theorem cut_last (pa : List Nat) (q : Nat) : cutS (adS (pa ++ [q])) none (some (-1)) = adS pa := by
  unfold cutS
  have e1 : HT.sIx (adS (pa ++ [q])).length 0 none = 0 := rfl
  have e2 : HT.sIx (adS (pa ++ [q])).length (adS (pa ++ [q])).length (some (-1)) = pa.length := by
    rw [adS_len, List.length_append, List.length_singleton]
    show (if (-1 : Int) < 0 then ((-1 : Int) + ((pa.length + 1 : Nat) : Int)).toNat else min ((-1 : Int).toNat) (pa.length + 1)) = _
    rw [if_pos (by decide)]
    omega
  rw [e1, e2]
  unfold adS
  simp
theorem at_last (pa : List Nat) (q : Nat) : atI (adS (pa ++ [q])).cps.toList (-1) = some (48 + q) := by
  have e : (adS (pa ++ [q])).cps.toList = (pa.map (48 + ·)) ++ [48 + q] := by unfold adS; simp
  rw [e]
  exact atI_last _ _
theorem fig_int {q : Nat} (h : q < 4) : PySem.intText? ⟨#[48 + q]⟩ = some (q : Int) := by
  match q, h with
  | 0, _ => decide +kernel
  | 1, _ => decide +kernel
  | 2, _ => decide +kernel
  | 3, _ => decide +kernel
def row4 (v : List Nat → Nat) (pa : List Nat) : Row := [v (pa ++ [0]), v (pa ++ [1]), v (pa ++ [2]), v (pa ++ [3])]
theorem row4_congr {v v' : List Nat → Nat} {pa : List Nat} (h : ∀ r, v (pa ++ [r]) = v' (pa ++ [r])) : row4 v pa = row4 v' pa := by unfold row4; rw [h, h, h, h]
theorem row4_set {v v' : List Nat → Nat} {pa : List Nat} {q : Nat} (hq : q < 4) (h : ∀ r, r ≠ q → v (pa ++ [r]) = v' (pa ++ [r])) : (vR (row4 v pa)).set q (.int (v' (pa ++ [q]) : Nat)) = vR (row4 v' pa) := by
  unfold row4 vR
  match q, hq with
  | 0, _ => rw [h 1 (by decide), h 2 (by decide), h 3 (by decide)]; rfl
  | 1, _ => rw [h 0 (by decide), h 2 (by decide), h 3 (by decide)]; rfl
  | 2, _ => rw [h 0 (by decide), h 1 (by decide), h 3 (by decide)]; rfl
  | 3, _ => rw [h 0 (by decide), h 1 (by decide), h 2 (by decide)]; rfl
theorem ix4 {q : Nat} (h : q < 4) (r : Row) (hr : r.length = 4) : ixN (vR r).length (q : Int) = some q := by
  rw [vR_len, hr]
  match q, h with
  | 0, _ => rfl
  | 1, _ => rfl
  | 2, _ => rfl
  | 3, _ => rfl
theorem _root_.Qf.RowsAt.of {C : Addr} {H H' : Hp} {p lr dn : Addr} {T : List Qt} (r : RowsAt C H p lr dn T) (z : ∀ c o, H c = some o → (∀ kvs, o ≠ .dK kvs) → (∀ od u, o ≠ .frz od u) → H' c = some o) : RowsAt C H' p lr dn T := by
  obtain ⟨⟨dx, h1⟩, ⟨as, h2, h3⟩, h4, h5⟩ := r
  exact ⟨⟨dx, z _ _ h1 (fun _ z => (by cases z)) fun _ _ z => (by cases z)⟩, ⟨as, z _ _ h2 (fun _ z => (by cases z)) fun _ _ z => (by cases z), pr_imp h3 fun a b _ _ h => z _ _ h (fun _ z => (by cases z)) fun _ _ z => (by cases z)⟩, z _ _ h4 (fun _ z => (by cases z)) fun _ _ z => (by cases z), h5⟩
/-- a stage of the inner loop -/
def stg (T : List Qt) (F : Nat → Nat → Bool) (n : Nat) (S : List (List Nat)) (ad : List Nat) : Nat := if ad ∈ S then num T (trA F n ad) else 0
theorem Sx.upd2 {S : List Addr} {H H' : Hp} {p : Addr} {o : HO} (a : Sx S H H') (_ : True) (h : H p = none) : Sx S H (L2.upd H' p o) := fun c u n e => by
  rw [upd_ne (ne_of_none e h)]
  exact a c u n e
theorem nodup_map_inj {α β : Type} {f : α → β} : ∀ {l : List α}, (l.map f).Nodup → ∀ {x y : α}, x ∈ l → y ∈ l → f x = f y → x = y
  | a :: l, nd, x, y, hx, hy, e => by
    rw [List.map_cons, List.nodup_cons] at nd
    rcases List.mem_cons.mp hx with h1 | h1
    · rcases List.mem_cons.mp hy with h2 | h2
      · rw [h1, h2]
      · exact absurd (List.mem_map.mpr ⟨y, h2, by rw [← e, h1]⟩) nd.1
    · rcases List.mem_cons.mp hy with h2 | h2
      · exact absurd (List.mem_map.mpr ⟨x, h1, by rw [e, h2]⟩) nd.1
      · exact nodup_map_inj nd.2 h1 h2 e
def kvsP (PL : List (List Nat × Addr)) : List (Key × V) := PL.map fun x => (Sum.inr (adS x.1), V.ref x.2)
theorem valV_P (pa : List Nat) : ∀ (PL : List (List Nat × Addr)), (∀ v, valV (kvsP PL) (Sum.inr (adS pa)) = some v → ∃ l, (pa, l) ∈ PL ∧ v = .ref l) ∧ (valV (kvsP PL) (Sum.inr (adS pa)) = none → pa ∉ PL.map (·.1))
  | [] => ⟨fun v h => (by cases h), fun _ h => (by cases h)⟩
  | x :: PL => by
    by_cases h : x.1 = pa
    · have e : valV (kvsP (x :: PL)) (Sum.inr (adS pa)) = some (V.ref x.2) := by
        rw [← h]
        exact valV_pos rfl
      rw [e]
      exact ⟨fun v hv => ⟨x.2, by rw [← h]; exact List.mem_cons_self, (Option.some.inj hv).symm⟩, fun z => (by cases z)⟩
    · have e : valV (kvsP (x :: PL)) (Sum.inr (adS pa)) = valV (kvsP PL) (Sum.inr (adS pa)) := by
        show ((List.find? (fun kv => decide (kv.1 = Sum.inr (adS pa))) ((Sum.inr (adS x.1), V.ref x.2) :: kvsP PL)).map (·.2)) = _
        rw [List.find?_cons_of_neg (by simpa using fun z => h (adS_inj z))]
        rfl
      rw [e]
      obtain ⟨h1, h2⟩ := valV_P pa PL
      refine ⟨fun v hv => ?_, fun hv hm => ?_⟩
      · obtain ⟨l, h3, h4⟩ := h1 v hv
        exact ⟨l, List.mem_cons_of_mem _ h3, h4⟩
      · rw [List.map_cons, List.mem_cons] at hm
        rcases hm with hm | hm
        · exact h hm.symm
        · exact h2 hv hm
theorem kvsP_put {PL : List (List Nat × Addr)} {pa : List Nat} {l : Addr} (h : valV (kvsP PL) (Sum.inr (adS pa)) = none) : putK (kvsP PL) (Sum.inr (adS pa)) (.ref l) = kvsP (PL ++ [(pa, l)]) := by
  rw [putK_new _ h]
  unfold kvsP
  rw [List.map_append]
  rfl
theorem kvsP_len (PL : List (List Nat × Addr)) : (kvsP PL).length = PL.length := List.length_map ..
theorem same_upd {H H' : Hp} {c : Addr} {o : HO} (s : Same H H') (h : H c = none) : Same H (upd H' c o) := fun b u e => by
  rw [upd_ne (ne_of_none e h)]
  exact s b u e
def spShapeOf (C : Addr) : Sp := mkSp (fun a : GrA => [.ref a.p, .ref a.q]) fun a H Q => LvAt C H a.p a.n a.L ∧ Good a.n a.L ∧ H a.q = some (.lst (iV a.os)) ∧ a.os.Nodup ∧ (∀ o ∈ a.os, o < a.L.length) ∧ (∀ o ∈ a.os, ∀ x : Lf, a.L[o]? = some x → x.k = 0) ∧
  ∀ H' s, Same H H' → ShapeAt H' s a.n (tree (cellF a.L a.os) a.n 0 0) → Q (.ref s) H'
def fN (T : List Qt) (F : Nat → Nat → Bool) (n : Nat) (ad : List Nat) : V := .int (num T (trA F n ad) : Nat)
section
variable {P : Program} {w : World} {K : PySem.W.Frag} {mg : Str → Option Value} {base : Heap}
theorem ok_Leaves_shape_of (B : Bl mg) {CLeaves : Addr} (hC : Cls K CLeaves) (D : Dme K CLeaves "shape_of" "Leaves.shape_of" s_Leaves_shape_of) {CRows : Addr} (T : LT K CLeaves) (TR : RT K CRows) (c_Rows___init__ : Mak P w K mg base 1 "Rows" CRows (spRowsInit CRows)) (c_Rows_number : Met P w K mg base 1 CRows "number" (spNumber CRows)) (c_Rows_shape : Met P w K mg base 9 CRows "shape" (spShape CRows)) : Met P w K mg base 10 CLeaves "shape_of" (spShapeOf CLeaves) := by
  refine met_of hC D sc_Leaves_shape_of (fun _ _ _ _ _ _ us hl => match us, hl with | [_, _], _ => rfl) (fun vs H Q E h => ?_) (fun f cdv A outer s H vs Q E hr h => ?_)
  · obtain ⟨a, rfl, _⟩ := h
    rfl
  · have nd := sc_Leaves_shape_of.nd
    have hu := hu_of hr
    have hu65 := hu65_of hr
    obtain ⟨⟨p, q, n, L, os⟩, rfl, Lv, g, hq, ndo, hlt, hun, k⟩ := h
    dsimp only at Lv g hq ndo hlt hun k
    refine ⟨_, (pss_cons (ps_set (i := 2) nd rfl (by first | exact Or.inl rfl | exact Or.inr rfl) (pe_mk0 c_Rows___init__ hr (by omega) rfl))
      (pss_cons (ps_set (i := 3) nd rfl (by first | exact Or.inl rfl | exact Or.inr rfl) (pe_callTy (call_dictP rfl) (by rfl) B.dict bt_dict (pa_cons (pe_lc (own := [("k", 4)]) rfl nd (pi_list (pv 1)) (blkOk_by (N := N_Leaves_shape_of) (sc := defScope s_Leaves_shape_of) (by decide +kernel)) (fun _ _ _ _ _ => (pg_name (i := 4) nd rfl (by first | exact Or.inl rfl | exact Or.inr rfl))) (fun _ _ _ _ _ => pts_nil) (fun _ _ _ _ _ => (pe_tup (pa_cons (pe_ix (ix_listK (K := K)) (pe_fldK (K := K) (pv 0) rfl) (pv 4) (fun _ _ => rfl)) (pa_cons pe_int pa_nil))))) pa_nil)))
      (pss_cons (ps_for PassesOwn.never rfl (pi_range3 rfl B.range (pa_cons (pe_fld (pv 0) rfl) (pa_cons pe_int (pa_cons (pe_un un_neg pe_int) pa_nil)))) (pg_name (i := 5) nd rfl (by first | exact Or.inl rfl | exact Or.inr rfl))
      (pss_cons (ps_set (i := 6) nd rfl (by first | exact Or.inl rfl | exact Or.inr rfl) pe_dnewK)
      (pss_cons (ps_for PassesOwn.never rfl (pi_list (pe_callTy (call_list_dK rfl) (by rfl) B.list bt_list (pa_cons (pv 3) pa_nil))) (pg_name (i := 7) nd rfl (by first | exact Or.inl rfl | exact Or.inr rfl))
      (pss_one (ps_if (pt_cmpR op_eq (pe_callB call_len_str (by rfl) B.len bt_len (pa_cons (pv 7) pa_nil)) (pv 5) (nomark _)) (pss_cons (ps_set (i := 8) nd rfl (by first | exact Or.inl rfl | exact Or.inr rfl) (pe_setd (pv 6) (pe_slice sl_str (pv 7) po_none (po_some (pe_un un_neg pe_int))) (pe_lst (pa_cons pe_int (pa_cons pe_int (pa_cons pe_int (pa_cons pe_int pa_nil)))))))
      (pss_one (ps_asg (pe_pop1 (pv 3) (pv 7)) (pg_sub (pv 8) (pe_callTy call_int_str (by rfl) B.int bt_int (pa_cons (pe_ix ix_str (pv 7) (pe_un un_neg pe_int) (fun _ _ => rfl)) pa_nil)) set_list)))) pss_nil)))
      (pss_one (ps_lock (ps_for PassesOwn.never rfl (pi_keys (pv 6)) (pg_name (i := 7) nd rfl (by first | exact Or.inl rfl | exact Or.inr rfl))
      (pss_one (ps_dput hu (pv 3) (pv 7) (pe_mt c_Rows_number hr (by omega) (pv 2) (pa_cons (pe_callTy call_tuple_of (by rfl) B.tuple bt_tuple (pa_cons (pe_dget hu (pv 6) (pv 7) (fun _ _ => rfl)) pa_nil)) pa_nil)) rfl))))))))
      (pss_one (ps_ret (pe_mt c_Rows_shape hr (by omega) (pv 2) (pa_cons (pe_fld (pv 0) rfl) (pa_cons (pe_get2 hu (pv 3) pe_str pe_int) pa_nil)))))))), ?_⟩
    obtain ⟨dx, z, hp, hL⟩ := id Lv
    have h6 := g.n6
    have hol : os.length ≤ 2000 := by have := nodup_lt ndo hlt; have := g.len; omega
    -- rows = Rows()
    intro rw dxr nx ndx nex
    refine ⟨rw, rfl, ⟨dxr, upd_same⟩, fun lr dn H1 hlr hdn R1 x1 => ⟨rfl, ?_⟩⟩
    have s0 : Same H (upd (upd H dxr (.own rw)) rw (.ins CRows dxr [])) := fun b o e => by
      rw [upd_ne (ne_of_none e nx), upd_ne (ne_of_none e ndx)]
      exact e
    have s1 : Same H H1 := Sx.same s0 x1 fun c hc => by rw [List.mem_singleton.mp hc]; exact nx
    have hlr0 : H lr = none := s0.free hlr
    have hdn0 : H dn = none := s0.free hdn
    -- here = dict([..])
    refine ⟨_, rfl, q, rfl, ⟨_, lstOf (s1 _ _ hq)⟩, fun D hD => ?_⟩
    refine lc_map (walk_list (xs := iV os)) (fun i y H' => ∃ t o x, y = .ref t ∧ os[i]? = some o ∧ L[o]? = some x ∧ H' t = some (.tup [.str (adS x.ad), .int 1])) hD (fun H' s2 => lstOf (s2 _ _ (s1 _ _ hq))) (szL (by rw [iV_len]; omega)) ?_ ?_ gName_mono ?_
    · rintro i y H2 H' ⟨t, o, x, h1, h2, h3, h4⟩ ⟨l, hl⟩ sx
      exact ⟨t, o, x, h1, h2, h3, sx _ _ (nin1 h4 hl (by intro z; cases z)) h4⟩
    · rintro i y H2 H' hi s2 _ ⟨rfl, hy⟩ Q' qq
      obtain ⟨o, ho, rfl⟩ := iV_get hy
      have ho2 := hlt o (List.mem_of_getElem? ho)
      have hx : L[o]? = some L[o] := List.getElem?_eq_getElem ho2
      have s02 := s1.trans s2
      refine ⟨rfl, _, rfl, p, CLeaves, dx, _, _, rfl, s02 _ _ hp, T.cl, T.nA, fL_addresses _ _ _ _ _, _, rfl, z.al, _, _, .str (adS L[o].ad), rfl, rfl, lstOf (s02 _ _ hL.a), atI_nat (by unfold vA; rw [List.getElem?_map, hx]; rfl), szl (by show 2 ≤ 1000000; decide), fun t ht => ?_⟩
      exact qq _ _ (same_new ht) ⟨t, o, L[o], rfl, ho, hx, upd_same⟩
    · intro ys H2 s2 hy py
      rw [iV_len] at py
      -- the dict
      have hnod := adsOf_nodup g ndo hlt
      have hkvs : Paired (fun t kv => SqT K H2 t [kV kv.1, kv.2]) (ys.map fun v => match v with | .ref a => a | _ => 0) (kvsA (fun _ => .int 1) (adsOf L os)) := by
        refine paired_of_get ?_ fun i t kv h1 h2 => ?_
        · rw [List.length_map, kvsA_len, adsOf_len hlt, ← pr_len py, List.length_range]
        · rw [List.getElem?_map] at h1
          have hil : i < os.length := by have := get_lt h2; rw [kvsA_len, adsOf_len hlt] at this; exact this
          obtain ⟨y', e1, t', o, x, e2, e3, e4, e5⟩ := pr_get py (i := i) (x := i) (List.getElem?_range hil)
          rw [e1] at h1
          subst e2
          have h1 := Option.some.inj h1
          subst h1
          unfold kvsA at h2
          rw [List.getElem?_map, adsOf_get hlt i o x e3 e4] at h2
          have h2 := Option.some.inj h2
          subst h2
          exact tupOf e5
      have hys : ys = (ys.map fun v => match v with | .ref a => a | _ => 0).map V.ref := by
        rw [List.map_map]
        have : ys.map id = ys := List.map_id ys
        refine (this.symm.trans ?_)
        refine List.map_congr_left fun v hv => ?_
        obtain ⟨i, hi, ei⟩ := List.getElem_of_mem hv
        have hil : i < os.length := by rw [← List.length_range (n := os.length), pr_len py]; exact hi
        obtain ⟨y', e1, t', o, x, e2, _⟩ := pr_get py (i := i) (x := i) (List.getElem?_range hil)
        rw [List.getElem?_eq_getElem hi, ei] at e1
        cases e1
        rw [e2]
        rfl
      refine ⟨D, _, _, rfl, lstOf (by rw [← hys]; exact hy), hkvs, fun hr0 hhr => ?_⟩
      have hmg := kvsA_merge (fun _ => V.int 1) (adsOf L os) [] hnod
      rw [List.nil_append] at hmg
      have hmg : mergeK [] (kvsA (fun _ => V.int 1) (adsOf L os)) = kvsA (fun _ => V.int 1) (adsOf L os) := hmg
      rw [hmg]
      have lv0 := lvl_top g ndo hlt hun
      have hTop : ∀ ad ∈ adsOf L os, trA (cellF L os) n ad = .f := fun ad had => by
        have h1 := lv0.ok ad had
        have h2 := (lv0.al ad h1.1 h1.2).mp had
        rw [trA_leaf _ _ _ h1.1] at h2 ⊢
        split at h2
        · rename_i h3; rw [if_pos h3]
        · exact absurd rfl h2
      have ekv : kvsA (fun _ => V.int 1) (adsOf L os) = kvsA (fN [] (cellF L os) n) (adsOf L os) := kvsA_congr fun ad had => by unfold fN; rw [hTop ad had]; rfl
      rw [ekv]
      have hasl : (adsOf L os).length ≤ 2000 := by rw [adsOf_len hlt]; exact hol
      generalize adsOf L os = As0 at *
      generalize cellF L os = F at *
      have s3 : Same H2 (upd H2 hr0 (.dK (kvsA (fN [] F n) As0))) := same_new hhr
      have s03 := (s1.trans s2).trans s3
      have hhr0 : H hr0 = none := (s1.trans s2).free hhr
      have R3 := (R1.same s2).same s3
      have e3 : (upd H2 hr0 (.dK (kvsA (fN [] F n) As0))) hr0 = some (.dK (kvsA (fN [] F n) As0)) := upd_same
      show Ends.nx _ _ (upd H2 hr0 (.dK (kvsA (fN [] F n) As0)))
      generalize upd H2 hr0 (.dK (kvsA (fN [] F n) As0)) = H3 at *
      -- for size in range(n, 0, -1)
      have hR3 := RgC.neg (i := (n : Int)) (j := 0) (by omega) (by omega) (by decide) (by decide)
      refine ⟨_, rfl, p, CLeaves, dx, _, _, rfl, s03 _ _ hp, T.cl, T.nN, fL_n _ _ _ _ _, _, rfl, (n : Int), 0, -1, n, rfl, (by rw [show ((n : Int) - 0).toNat = n by omega] at hR3; exact hR3), for_rangeC (fun i σ H4 => ∃ (a5 a6 a7 a8 : Option V) (S : List Qt) (As : List (List Nat)), i ≤ n ∧ σ = [some (.ref p), some (.ref q), some (.ref rw), some (.ref hr0), none, a5, a6, a7, a8] ∧ Same H H4 ∧
        RowsAt CRows H4 rw lr dn S ∧ H4 hr0 = some (.dK (kvsA (fN S F n) As)) ∧ Lvl F n (n - i) As ∧ (∀ ad ∈ As, Kn S (trA F n ad)) ∧ S.length ≤ 2000 * i ∧ As.length ≤ 2000)
        ⟨none, none, none, none, [], As0, Nat.zero_le _, rfl, s03, R3, e3, lv0, (fun ad had => by rw [hTop ad had]; exact .inr (.inl rfl)), Nat.zero_le _, hasl⟩ ?_ ?_⟩
      · rintro i σ H4 hin ⟨a5, a6, a7, a8, S, As, _, rfl, s4, R4, e4, lv4, kn4, Sl, Al⟩
        have hs1 : n - i = (n - (i + 1)) + 1 := by omega
        have esz : (n : Int) + (i : Nat) * -1 = ((n - i : Nat) : Int) := by omega
        rw [esz]
        -- above = {}
        intro ab hab
        have hab0 : H ab = none := s4.free hab
        have nah : ab ≠ hr0 := fun z => by rw [z, e4] at hab; cases hab
        have s5 : Same H4 (upd H4 ab (.dK [])) := same_new hab
        have R5 := R4.same s5
        have e5 := s5 _ _ e4
        have b5 : (upd H4 ab (.dK [])) ab = some (.dK []) := upd_same
        have s05 := s4.trans s5
        show Ends.nx _ _ (upd H4 ab (.dK []))
        generalize upd H4 ab (.dK []) = H5 at *
        -- for address in list(here)
        refine ⟨_, rfl, hr0, _, rfl, e5, fun sl hsl => ?_⟩
        have ekeys : (kvsA (fN S F n) As).map (fun kv => kV kv.1) = As.map fun ad => V.str (adS ad) := by unfold kvsA; rw [List.map_map]; rfl
        rw [ekeys]
        have s6 : Same H5 (upd H5 sl (.lst (As.map fun ad => V.str (adS ad)))) := same_new hsl
        have R6 := R5.same s6
        have e6 := s6 _ _ e5
        have b6 := s6 _ _ b5
        have s06 := s05.trans s6
        have l6 : (upd H5 sl (.lst (As.map fun ad => V.str (adS ad)))) sl = some (.lst (As.map fun ad => V.str (adS ad))) := upd_same
        have hslh : sl ≠ hr0 := ne_of l6 e6 (by intro z; cases z)
        have hsla : sl ≠ ab := ne_of l6 b6 (by intro z; cases z)
        generalize upd H5 sl (.lst (As.map fun ad => V.str (adS ad))) = H6 at *
        refine ⟨sl, rfl, ⟨_, lstOf l6⟩, ?_⟩
        refine for_it (walk_list (xs := As.map fun ad => V.str (adS ad))) (fun j σ H7 => ∃ (a7 a8 : Option V) (PL : List (List Nat × Addr)), σ = [some (.ref p), some (.ref q), some (.ref rw), some (.ref hr0), none, some (.int ((n - i : Nat) : Int)), some (.ref ab), a7, a8] ∧
          Sx [hr0, ab] H6 H7 ∧ H7 hr0 = some (.dK (kvsA (fN S F n) (As.drop j))) ∧ H7 ab = some (.dK (kvsP PL)) ∧ (∀ x ∈ PL, H7 x.2 = some (.lst (vR (row4 (stg S F n (As.take j)) x.1)))) ∧ (PL.map (·.1)).Nodup ∧ (PL.map (·.2)).Nodup ∧
          (∀ x ∈ PL, H6 x.2 = none) ∧ (∀ pa, pa ∈ PL.map (·.1) ↔ ∃ r, pa ++ [r] ∈ As.take j) ∧ PL.length ≤ j)
          ⟨a7, a8, [], rfl, Sx.refl _ _, by rw [List.drop_zero]; exact e6, b6, (fun x h => by cases h), List.nodup_nil, List.nodup_nil, (fun x h => by cases h), (fun pa => ⟨fun h => (by cases h), fun ⟨r, h⟩ => (by rw [List.take_zero] at h; cases h)⟩), Nat.le_refl _⟩
          (fun j σ H7 _ h => by
            obtain ⟨_, _, _, _, x7, _⟩ := h
            exact lstOf (x7 _ _ (by simp [hslh, hsla]) l6)) ?_ ?_
        · rintro j x σ H7 H7' hj ⟨a7, a8, PL, rfl, x7, e7, b7, pl7, nd1, nd2, fr7, mem7, len7⟩ ⟨rfl, hx⟩
          rw [List.length_map] at hj
          rw [List.getElem?_map, List.getElem?_eq_getElem hj] at hx
          obtain rfl := Option.some.inj hx
          have hmem : As[j] ∈ As := List.getElem_mem hj
          obtain ⟨hlen, hfig⟩ := lv4.ok _ hmem
          have hAj : As[j]? = some As[j] := List.getElem?_eq_getElem hj
          have hdrop : As.drop j = As[j] :: As.drop (j + 1) := List.drop_eq_getElem_cons hj
          have htake : As.take (j + 1) = As.take j ++ [As[j]] := by rw [List.take_add_one, hAj]; rfl
          have hnd := lv4.nd
          have hnt : As[j] ∉ As.take j ∧ As[j] ∉ As.drop (j + 1) := by
            have h1 := List.take_append_drop j As
            rw [hdrop] at h1
            rw [← h1] at hnd
            have h2 := List.nodup_append.mp hnd
            exact ⟨fun z => h2.2.2 _ z _ List.mem_cons_self rfl, (List.nodup_cons.mp h2.2.1).1⟩
          generalize hadj : As[j] = ad at *
          obtain ⟨pa, r, rfl⟩ : ∃ pa r, ad = pa ++ [r] := by
            rcases snoc_cases ad with rfl | ⟨pa, r, rfl⟩
            · rw [List.length_nil] at hlen; omega
            · exact ⟨pa, r, rfl⟩
          have hr4 : r < 4 := hfig r (by simp)
          -- len(address) == size
          refine ⟨_, rfl, _, rfl, szl (by rw [adS_len]; omega), ?_⟩
          refine ⟨_, rfl, rfl, _, rfl, ite_d (fun _ => ?_) (fun z => absurd (congrArg (fun m : Nat => V.int (m : Int)) (by rw [adS_len]; exact hlen)) z)⟩
          -- setdefault
          refine ⟨_, rfl, ab, rfl, .inl ⟨_, .inl b7⟩, _, rfl, _, rfl, _, rfl, _, rfl, szl (by rw [adS_len]; omega), ?_⟩
          rw [cut_last]
          refine ⟨szl (by show 4 ≤ 1000000; decide), fun lq hlq => ?_⟩
          have s8 : Same H7' (upd H7' lq (.lst [.int 0, .int 0, .int 0, .int 0])) := same_new hlq
          have q8 : (upd H7' lq (.lst [.int 0, .int 0, .int 0, .int 0])) lq = some (.lst [.int 0, .int 0, .int 0, .int 0]) := upd_same
          have x8 : Sx [hr0, ab] H6 (upd H7' lq (.lst [.int 0, .int 0, .int 0, .int 0])) := x7.new hlq
          have hlq6 : H6 lq = none := by
            cases z : H6 lq with
            | none => rfl
            | some o =>
              have n1 : lq ≠ hr0 := fun y => by rw [y, e7] at hlq; cases hlq
              have n2 : lq ≠ ab := fun y => by rw [y, b7] at hlq; cases hlq
              have := x7 _ _ (by simp [n1, n2]) z
              rw [hlq] at this
              cases this
          have hlqP : ∀ x ∈ PL, x.2 ≠ lq := fun x hx z => by have := pl7 x hx; rw [z, hlq] at this; cases this
          have e8 := s8 _ _ e7
          have b8 := s8 _ _ b7
          have pl8 : ∀ x ∈ PL, (upd H7' lq (.lst [.int 0, .int 0, .int 0, .int 0])) x.2 = some (.lst (vR (row4 (stg S F n (As.take j)) x.1))) := fun x hx => s8 _ _ (pl7 x hx)
          generalize upd H7' lq (.lst [.int 0, .int 0, .int 0, .int 0]) = H8 at *
          refine ⟨_, Sum.inr (adS pa), b8, rfl, szL (by rw [kvsP_len]; omega), fun v hv => ?_, fun hv => ?_⟩
          · obtain ⟨l, hin8, rfl⟩ := (valV_P pa PL).1 v hv
            have pl8l := pl8 _ hin8
            have nd18 := nd1
            have nd28 := nd2
            have fr8 := fr7
            have mem8 : ∀ pa', pa' ∈ PL.map (·.1) ↔ (∃ r, pa' ++ [r] ∈ As.take j) ∨ pa' = pa := fun pa' => by
              rw [mem7]
              refine ⟨.inl, fun h => h.elim id ?_⟩
              rintro rfl
              exact (mem7 _).mp (List.mem_map.mpr ⟨_, hin8, rfl⟩)
            have len8 : PL.length ≤ j + 1 := by omega
            have hv8 : valV (kvsA (fN S F n) (As.drop j)) (Sum.inr (adS (pa ++ [r]))) = some (fN S F n (pa ++ [r])) := by rw [valV_A, if_pos (by rw [hdrop]; exact List.mem_cons_self)]
            -- here.pop(address)
            refine ⟨_, rfl, hr0, rfl, .inl ⟨_, .inl e8⟩, _, rfl, _, Sum.inr (adS (pa ++ [r])), _, e8, rfl, hv8, ?_⟩
            rw [show dropK (kvsA (fN S F n) (As.drop j)) (Sum.inr (adS (pa ++ [r]))) = kvsA (fN S F n) (As.drop (j + 1)) by rw [hdrop]; exact kvsA_drop _ hnt.2]
            have hlh : l ≠ hr0 := ne_of pl8l e8 (by intro z; cases z)
            have hla : l ≠ ab := ne_of pl8l b8 (by intro z; cases z)
            have pl9 : (upd H8 hr0 (.dK (kvsA (fN S F n) (As.drop (j + 1))))) l = some (.lst (vR (row4 (stg S F n (As.take j)) pa))) := by rw [upd_ne hlh]; exact pl8l
            refine ⟨_, rfl, _, rfl, 1, rfl, adS (pa ++ [r]), -1, 48 + r, rfl, rfl, szl (by rw [adS_len]; omega), at_last pa r, ⟨#[48 + r]⟩, (r : Int), rfl, fig_int hr4, (by show 1 ≤ 640; decide), l, _, _, r, rfl, rfl, pl9, ix4 hr4 _ rfl, ?_⟩
            have hst : ∀ ad', ad' ≠ pa ++ [r] → stg S F n (As.take j) ad' = stg S F n (As.take (j + 1)) ad' := fun ad' hne => by
              unfold stg
              rw [htake]
              have : ad' ∈ As.take j ++ [pa ++ [r]] ↔ ad' ∈ As.take j := by simp [hne]
              by_cases hm : ad' ∈ As.take j
              · rw [if_pos hm, if_pos (this.mpr hm)]
              · rw [if_neg hm, if_neg fun z => hm (this.mp z)]
            have hnew : stg S F n (As.take (j + 1)) (pa ++ [r]) = num S (trA F n (pa ++ [r])) := by
              unfold stg
              rw [htake, if_pos (by simp)]
            have hset : (vR (row4 (stg S F n (As.take j)) pa)).set r (fN S F n (pa ++ [r])) = vR (row4 (stg S F n (As.take (j + 1))) pa) := by
              rw [← row4_set (v' := stg S F n (As.take (j + 1))) hr4 fun r' hr' => hst _ fun z => hr' (by
                have := List.append_cancel_left z
                injection this), hnew]
              rfl
            rw [hset]
            refine ⟨_, _, PL, rfl, (x8.upd (by simp)).upd2 trivial (fr8 _ hin8), ?_, ?_, ?_, nd18, nd28, fr8, ?_, len8⟩
            · rw [upd_ne (Ne.symm hlh), upd_same]
            · rw [upd_ne (Ne.symm hla), upd_ne nah]; exact b8
            · intro x hx
              by_cases hxl : x.2 = l
              · have : x = (pa, l) := nodup_map_inj (f := (·.2)) nd28 hx hin8 hxl
                subst this
                exact upd_same
              · have hne : x.1 ≠ pa := fun z => hxl (by rw [nodup_map_inj (f := (·.1)) nd18 hx hin8 z])
                have h8 := pl8 x hx
                rw [upd_ne hxl, upd_ne (ne_of h8 e8 (by intro z; cases z)), h8]
                rw [row4_congr fun r' => hst _ fun z => hne (by
                  have h1 := congrArg List.dropLast z
                  rwa [List.dropLast_concat, List.dropLast_concat] at h1)]
            · intro pa'
              rw [mem8, htake]
              constructor
              · rintro (⟨r', h⟩ | rfl)
                · exact ⟨r', List.mem_append_left _ h⟩
                · exact ⟨r, List.mem_append_right _ (List.mem_singleton.mpr rfl)⟩
              · rintro ⟨r', h⟩
                rcases List.mem_append.mp h with h | h
                · exact .inl ⟨r', h⟩
                · rw [List.mem_singleton] at h
                  have h1 := congrArg List.dropLast h
                  rw [List.dropLast_concat, List.dropLast_concat] at h1
                  exact .inr h1
          · have hnP := (valV_P pa PL).2 hv
            rw [kvsP_put hv]
            have hqa : lq ≠ ab := ne_of q8 b8 (by intro z; cases z)
            have hqh : lq ≠ hr0 := ne_of q8 e8 (by intro z; cases z)
            have b9 : (upd H8 ab (.dK (kvsP (PL ++ [(pa, lq)])))) ab = some (.dK (kvsP (PL ++ [(pa, lq)]))) := upd_same
            have e9 : (upd H8 ab (.dK (kvsP (PL ++ [(pa, lq)])))) hr0 = some (.dK (kvsA (fN S F n) (As.drop j))) := by rw [upd_ne (Ne.symm nah)]; exact e8
            have q9 : (upd H8 ab (.dK (kvsP (PL ++ [(pa, lq)])))) lq = some (.lst [.int 0, .int 0, .int 0, .int 0]) := by rw [upd_ne hqa]; exact q8
            have hz : row4 (stg S F n (As.take j)) pa = [0, 0, 0, 0] := by
              have hz' : ∀ r', stg S F n (As.take j) (pa ++ [r']) = 0 := fun r' => by
                unfold stg
                rw [if_neg fun z => hnP ((mem7 pa).mpr ⟨r', z⟩)]
              unfold row4
              rw [hz', hz', hz', hz']
            have pl8l : (upd H8 ab (.dK (kvsP (PL ++ [(pa, lq)])))) lq = some (.lst (vR (row4 (stg S F n (As.take j)) pa))) := by rw [hz]; exact q9
            have pl9 : ∀ x ∈ PL ++ [(pa, lq)], (upd H8 ab (.dK (kvsP (PL ++ [(pa, lq)])))) x.2 = some (.lst (vR (row4 (stg S F n (As.take j)) x.1))) := fun x hx => by
              rcases List.mem_append.mp hx with hx | hx
              · have := pl8 x hx
                rw [upd_ne (ne_of this b8 (by intro z; cases z))]
                exact this
              · rw [List.mem_singleton] at hx
                subst hx
                exact pl8l
            have x9 : Sx [hr0, ab] H6 (upd H8 ab (.dK (kvsP (PL ++ [(pa, lq)])))) := x8.upd (by simp)
            have nd18 : ((PL ++ [(pa, lq)]).map (·.1)).Nodup := by
              rw [List.map_append, List.nodup_append]
              exact ⟨nd1, by simp, fun a ha b hb z => hnP (by simp only [List.map_cons, List.map_nil, List.mem_singleton] at hb; rw [← hb, ← z]; exact ha)⟩
            have nd28 : ((PL ++ [(pa, lq)]).map (·.2)).Nodup := by
              rw [List.map_append, List.nodup_append]
              refine ⟨nd2, by simp, fun a ha b hb z => ?_⟩
              simp only [List.map_cons, List.map_nil, List.mem_singleton] at hb
              obtain ⟨x, hx, ex⟩ := List.mem_map.mp ha
              exact hlqP x hx (by rw [ex, z, hb])
            have fr8 : ∀ x ∈ PL ++ [(pa, lq)], H6 x.2 = none := fun x hx => by
              rcases List.mem_append.mp hx with hx | hx
              · exact fr7 x hx
              · rw [List.mem_singleton] at hx
                subst hx
                exact hlq6
            have hin8 : (pa, lq) ∈ PL ++ [(pa, lq)] := List.mem_append_right _ (List.mem_singleton.mpr rfl)
            have mem8 : ∀ pa', pa' ∈ (PL ++ [(pa, lq)]).map (·.1) ↔ (∃ r, pa' ++ [r] ∈ As.take j) ∨ pa' = pa := fun pa' => by
              rw [List.map_append, List.mem_append, mem7]
              simp
            have len8 : (PL ++ [(pa, lq)]).length ≤ j + 1 := by rw [List.length_append, List.length_singleton]; omega
            clear pl8 e8 b8 x8 q8
            have pl8 := pl9
            have e8 := e9
            have b8 := b9
            have x8 := x9
            clear pl9 e9 b9 x9 q9
            generalize upd H8 ab (.dK (kvsP (PL ++ [(pa, lq)]))) = H8' at *
            generalize PL ++ [(pa, lq)] = PL' at *
            generalize lq = l at *
            have hv8 : valV (kvsA (fN S F n) (As.drop j)) (Sum.inr (adS (pa ++ [r]))) = some (fN S F n (pa ++ [r])) := by rw [valV_A, if_pos (by rw [hdrop]; exact List.mem_cons_self)]
            -- here.pop(address)
            refine ⟨_, rfl, hr0, rfl, .inl ⟨_, .inl e8⟩, _, rfl, _, Sum.inr (adS (pa ++ [r])), _, e8, rfl, hv8, ?_⟩
            rw [show dropK (kvsA (fN S F n) (As.drop j)) (Sum.inr (adS (pa ++ [r]))) = kvsA (fN S F n) (As.drop (j + 1)) by rw [hdrop]; exact kvsA_drop _ hnt.2]
            have hlh : l ≠ hr0 := ne_of pl8l e8 (by intro z; cases z)
            have hla : l ≠ ab := ne_of pl8l b8 (by intro z; cases z)
            have pl9 : (upd H8' hr0 (.dK (kvsA (fN S F n) (As.drop (j + 1))))) l = some (.lst (vR (row4 (stg S F n (As.take j)) pa))) := by rw [upd_ne hlh]; exact pl8l
            refine ⟨_, rfl, _, rfl, 1, rfl, adS (pa ++ [r]), -1, 48 + r, rfl, rfl, szl (by rw [adS_len]; omega), at_last pa r, ⟨#[48 + r]⟩, (r : Int), rfl, fig_int hr4, (by show 1 ≤ 640; decide), l, _, _, r, rfl, rfl, pl9, ix4 hr4 _ rfl, ?_⟩
            have hst : ∀ ad', ad' ≠ pa ++ [r] → stg S F n (As.take j) ad' = stg S F n (As.take (j + 1)) ad' := fun ad' hne => by
              unfold stg
              rw [htake]
              have : ad' ∈ As.take j ++ [pa ++ [r]] ↔ ad' ∈ As.take j := by simp [hne]
              by_cases hm : ad' ∈ As.take j
              · rw [if_pos hm, if_pos (this.mpr hm)]
              · rw [if_neg hm, if_neg fun z => hm (this.mp z)]
            have hnew : stg S F n (As.take (j + 1)) (pa ++ [r]) = num S (trA F n (pa ++ [r])) := by
              unfold stg
              rw [htake, if_pos (by simp)]
            have hset : (vR (row4 (stg S F n (As.take j)) pa)).set r (fN S F n (pa ++ [r])) = vR (row4 (stg S F n (As.take (j + 1))) pa) := by
              rw [← row4_set (v' := stg S F n (As.take (j + 1))) hr4 fun r' hr' => hst _ fun z => hr' (by
                have := List.append_cancel_left z
                injection this), hnew]
              rfl
            rw [hset]
            refine ⟨_, _, PL', rfl, (x8.upd (by simp)).upd2 trivial (fr8 _ hin8), ?_, ?_, ?_, nd18, nd28, fr8, ?_, len8⟩
            · rw [upd_ne (Ne.symm hlh), upd_same]
            · rw [upd_ne (Ne.symm hla), upd_ne nah]; exact b8
            · intro x hx
              by_cases hxl : x.2 = l
              · have : x = (pa, l) := nodup_map_inj (f := (·.2)) nd28 hx hin8 hxl
                subst this
                exact upd_same
              · have hne : x.1 ≠ pa := fun z => hxl (by rw [nodup_map_inj (f := (·.1)) nd18 hx hin8 z])
                have h8 := pl8 x hx
                rw [upd_ne hxl, upd_ne (ne_of h8 e8 (by intro z; cases z)), h8]
                rw [row4_congr fun r' => hst _ fun z => hne (by
                  have h1 := congrArg List.dropLast z
                  rwa [List.dropLast_concat, List.dropLast_concat] at h1)]
            · intro pa'
              rw [mem8, htake]
              constructor
              · rintro (⟨r', h⟩ | rfl)
                · exact ⟨r', List.mem_append_left _ h⟩
                · exact ⟨r, List.mem_append_right _ (List.mem_singleton.mpr rfl)⟩
              · rintro ⟨r', h⟩
                rcases List.mem_append.mp h with h | h
                · exact .inl ⟨r', h⟩
                · rw [List.mem_singleton] at h
                  have h1 := congrArg List.dropLast h
                  rw [List.dropLast_concat, List.dropLast_concat] at h1
                  exact .inr h1
        · rintro σ H7 ⟨a7, a8, PL, rfl, x7, e7, b7, pl7, nd1, nd2, fr7, mem7, len7⟩
          rw [List.length_map] at e7 pl7 mem7 len7
          rw [List.drop_length] at e7
          rw [List.take_length] at pl7 mem7
          have lvP := lvl_up (n := n) (s := n - (i + 1)) (by omega) (by rw [← hs1]; exact lv4) nd1 mem7
          have s07 : Same H H7 := fun c o e => x7 _ _ (by
            have c1 : c ≠ hr0 := ne_of_none e hhr0
            have c2 : c ≠ ab := ne_of_none e hab0
            simp [c1, c2]) (s06 _ _ e)
          have R7 : RowsAt CRows H7 rw lr dn S := R6.of fun c o e h1 h2 => x7 _ _ (by
            have c1 : c ≠ hr0 := ne_of e e6 (h1 _)
            have c2 : c ≠ ab := ne_of e b6 (h1 _)
            simp [c1, c2]) e
          have hll : ∀ x ∈ PL, x.2 ≠ lr := fun x hx z => by
            obtain ⟨_, ⟨as, h2, _⟩, _⟩ := R6
            have := fr7 x hx
            rw [z, h2] at this
            cases this
          have hcmp : ∀ pa ∈ PL.map (·.1), trA F n pa = mk (trA F n (pa ++ [0])) (trA F n (pa ++ [1])) (trA F n (pa ++ [2])) (trA F n (pa ++ [3])) := fun pa hpa => trA_step F n pa (by have := (lvP.ok pa hpa).1; omega)
          have hstn : ∀ pa ∈ PL.map (·.1), ∀ r, r < 4 → ∀ S2, stg S F n As (pa ++ [r]) = num (S ++ S2) (trA F n (pa ++ [r])) ∧ Kn (S ++ S2) (trA F n (pa ++ [r])) := fun pa hpa r hr S2 => by
            have hl := lvP.ok pa hpa
            have hl1 : pa.length = n - (i + 1) := hl.1
            have hal := lv4.al (pa ++ [r]) (by rw [List.length_append, List.length_singleton]; omega) (fun d hd => by
              rcases List.mem_append.mp hd with hd | hd
              · exact hl.2 d hd
              · rw [List.mem_singleton] at hd; omega)
            unfold stg
            by_cases hm : pa ++ [r] ∈ As
            · have := kn4 _ hm
              rw [if_pos hm]
              exact ⟨(num_app S2 this).symm, this.app S2⟩
            · have he : trA F n (pa ++ [r]) = .e := Decidable.byContradiction fun z => hm (hal.mpr z)
              rw [if_neg hm, he]
              exact ⟨rfl, .inl rfl⟩
          -- for address in above
          refine ⟨ab, _, b7, trivial, fun od => ?_⟩
          have b8 : (upd H7 ab (.frz od (.dK (kvsP PL)))) ab = some (.frz od (.dK (kvsP PL))) := upd_same
          have s08 : Same H (upd H7 ab (.frz od (.dK (kvsP PL)))) := same_upd s07 hab0
          have R8 : RowsAt CRows (upd H7 ab (.frz od (.dK (kvsP PL)))) rw lr dn S := R7.of fun c o e h1 h2 => by rw [upd_ne (ne_of e b7 (h1 _))]; exact e
          have e8 : (upd H7 ab (.frz od (.dK (kvsP PL)))) hr0 = some (.dK (kvsA (fN S F n) [])) := by rw [upd_ne (Ne.symm nah)]; exact e7
          have pl8 : ∀ x ∈ PL, (upd H7 ab (.frz od (.dK (kvsP PL)))) x.2 = some (.lst (vR (row4 (stg S F n As) x.1))) := fun x hx => by
            have := pl7 x hx
            rw [upd_ne (ne_of this b7 (by intro z; cases z))]
            exact this
          generalize upd H7 ab (.frz od (.dK (kvsP PL))) = H8 at *
          refine ⟨_, rfl, ab, od, rfl, .inl ⟨_, b8, for_it (walk_keys (kvs := kvsP PL)) (fun m σ H9 => ∃ (a7 a8 : Option V) (S2 : List Qt), σ = [some (.ref p), some (.ref q), some (.ref rw), some (.ref hr0), none, some (.int ((n - i : Nat) : Int)), some (.ref ab), a7, a8] ∧
            RowsAt CRows H9 rw lr dn (S ++ S2) ∧ S2.length ≤ m ∧ H9 ab = some (.frz od (.dK (kvsP PL))) ∧ H9 hr0 = some (.dK (kvsA (fN (S ++ S2) F n) ((PL.map (·.1)).take m))) ∧ (∀ pa ∈ (PL.map (·.1)).take m, Kn (S ++ S2) (trA F n pa)) ∧ (∀ x ∈ PL, H9 x.2 = some (.lst (vR (row4 (stg S F n As) x.1)))) ∧ Same H H9)
            ⟨_, _, [], rfl, by rw [List.append_nil]; exact R8, Nat.zero_le _, b8, by rw [List.append_nil, List.take_zero]; exact e8, (fun pa h => by rw [List.take_zero] at h; cases h), pl8, s08⟩ (fun m σ H9 _ h => by
              obtain ⟨_, _, _, _, _, _, h, _⟩ := h
              exact h) ?_ ?_⟩⟩
          · rintro m x σ H9 H9' hm ⟨a7, a8, S2, rfl, R9, l9, b9, e9, k9, pl9, s9⟩ ⟨rfl, key, v, hkv, rfl⟩
            rw [kvsP_len] at hm
            have hPm : PL[m]? = some PL[m] := List.getElem?_eq_getElem hm
            have hPin : PL[m] ∈ PL := List.getElem_mem hm
            unfold kvsP at hkv
            rw [List.getElem?_map, hPm] at hkv
            have hkv := Option.some.inj hkv
            generalize hpl : PL[m] = pl at *
            obtain ⟨pa, l⟩ := pl
            obtain ⟨rfl, rfl⟩ := Prod.mk.inj hkv
            dsimp only
            have hpaP : pa ∈ PL.map (·.1) := List.mem_map.mpr ⟨_, hPin, rfl⟩
            have hl9 := pl9 _ hPin
            dsimp only at hl9
            obtain ⟨dx9, o9⟩ := R9.ob
            have hvl : valV (kvsP PL) (Sum.inr (adS pa)) = some (V.ref l) := by
              cases hv : valV (kvsP PL) (Sum.inr (adS pa)) with
              | none => exact absurd hpaP ((valV_P pa PL).2 hv)
              | some v =>
                obtain ⟨l', h1, rfl⟩ := (valV_P pa PL).1 v hv
                have := nodup_map_inj (f := (·.1)) nd1 h1 hPin rfl
                rw [(Prod.mk.inj this).2]
            refine ⟨_, rfl, rw, dx9, _, rfl, o9, fR_no _ _ (by decide +kernel) (by decide +kernel), _, rfl, _, rfl, ab, _, rfl, .inl ⟨_, Sum.inr (adS pa), .inr ⟨od, b9⟩, rfl, hvl.symm⟩, l, _, rfl, .inl ⟨lstOf hl9, fun tq htq => ?_⟩⟩
            have s10 : Same H9' (upd H9' tq (.tup (vR (row4 (stg S F n As) pa)))) := same_new htq
            have t10 : (upd H9' tq (.tup (vR (row4 (stg S F n As) pa)))) tq = some (.tup (vR [num (S ++ S2) (trA F n (pa ++ [0])), num (S ++ S2) (trA F n (pa ++ [1])), num (S ++ S2) (trA F n (pa ++ [2])), num (S ++ S2) (trA F n (pa ++ [3]))])) := by
              rw [upd_same]
              unfold row4
              rw [(hstn pa hpaP 0 (by decide) S2).1, (hstn pa hpaP 1 (by decide) S2).1, (hstn pa hpaP 2 (by decide) S2).1, (hstn pa hpaP 3 (by decide) S2).1]
            have R10 := R9.same s10
            have b10 := s10 _ _ b9
            have e10 := s10 _ _ e9
            have s010 := s9.trans s10
            have pl10 : ∀ x ∈ PL, (upd H9' tq (.tup (vR (row4 (stg S F n As) pa)))) x.2 = some (.lst (vR (row4 (stg S F n As) x.1))) := fun x hx => s10 _ _ (pl9 x hx)
            generalize upd H9' tq (.tup (vR (row4 (stg S F n As) pa))) = H10 at *
            have hPLl : PL.length ≤ 2000 := by omega
            refine ⟨⟨rw, lr, dn, tq, S ++ S2, trA F n (pa ++ [0]), trA F n (pa ++ [1]), trA F n (pa ++ [2]), trA F n (pa ++ [3])⟩, rfl, R10, by show (S ++ S2).length < 100000; rw [List.length_append]; have : 2000 * i ≤ 2000 * 6 := Nat.mul_le_mul_left _ (by omega); omega, t10, (hstn pa hpaP 0 (by decide) S2).2, (hstn pa hpaP 1 (by decide) S2).2, (hstn pa hpaP 2 (by decide) S2).2, (hstn pa hpaP 3 (by decide) S2).2, fun H11 R11 x11 => ?_⟩
            dsimp only at R11 x11 ⊢
            rw [← hcmp pa hpaP] at R11 ⊢
            obtain ⟨S3, hS3⟩ := add_ext (S ++ S2) (trA F n pa)
            have hadd := add_len (S ++ S2) (trA F n pa)
            have hkn := add_kn (S ++ S2) (trA F n pa)
            rw [hS3, List.append_assoc] at R11 hadd hkn
            rw [hS3, List.append_assoc]
            obtain ⟨_, ⟨as10, ls10, _⟩, dc10, _⟩ := id R10
            have hne : ∀ c o, H10 c = some o → (∀ xs, o ≠ .lst xs) → (∀ kvs, o ≠ .dT kvs) → H11 c = some o := fun c o e h1 h2 => x11 _ _ (nin2 e ls10 dc10 (h1 _) (h2 _)) e
            have b11 := hne _ _ b10 (fun _ z => by cases z) (fun _ z => by cases z)
            have e11 := hne _ _ e10 (fun _ z => by cases z) (fun _ z => by cases z)
            have pl11 : ∀ x ∈ PL, H11 x.2 = some (.lst (vR (row4 (stg S F n As) x.1))) := fun x hx => by
              have := pl10 x hx
              have c1 := hll x hx
              have c2 : x.2 ≠ dn := ne_of this dc10 (by intro z; cases z)
              exact x11 _ _ (by simp [c1, c2]) this
            have s011 : Same H H11 := Sx.same s010 x11 fun c hc => by
              simp only [List.mem_cons, List.not_mem_nil, or_false] at hc
              rcases hc with rfl | rfl
              · exact hlr0
              · exact hdn0
            have htk : (PL.map (·.1)).take (m + 1) = (PL.map (·.1)).take m ++ [pa] := by rw [List.take_add_one, List.getElem?_map, hPm]; rfl
            have hnpa : pa ∉ (PL.map (·.1)).take m := fun z => by
              have h1 := List.take_append_drop (m + 1) (PL.map (·.1))
              rw [htk] at h1
              rw [← h1, List.append_assoc] at nd1
              exact (List.nodup_append.mp nd1).2.2 _ z _ (List.mem_append_left _ (List.mem_singleton.mpr rfl)) rfl
            have ekv : kvsA (fN (S ++ S2) F n) ((PL.map (·.1)).take m) = kvsA (fN (S ++ (S2 ++ S3)) F n) ((PL.map (·.1)).take m) := kvsA_congr fun pa' hpa' => by
              unfold fN
              rw [← List.append_assoc, num_app S3 (k9 pa' hpa')]
            rw [ekv] at e11
            refine ⟨_, rfl, _, rfl, hr0, _, rfl, DPut.k (k := Sum.inr (adS pa)) e11 (szL (by rw [kvsA_len, List.length_take, List.length_map]; omega)), ?_⟩
            have hput := kvsA_put (fN (S ++ (S2 ++ S3)) F n) hnpa
            rw [show V.int (num (S ++ (S2 ++ S3)) (trA F n pa) : Nat) = fN (S ++ (S2 ++ S3)) F n pa from rfl, hput]
            refine ⟨_, _, S2 ++ S3, rfl, ?_, ?_, ?_, ?_, ?_, ?_, same_upd s011 hhr0⟩
            · exact R11.of fun c o e h1 h2 => by rw [upd_ne (ne_of e e11 (h1 _))]; exact e
            · simp only [List.length_append] at hadd ⊢
              omega
            · rw [upd_ne nah]; exact b11
            · rw [htk, upd_same]
            · intro pa' hpa'
              rw [htk] at hpa'
              rcases List.mem_append.mp hpa' with h | h
              · rw [← List.append_assoc]; exact (k9 pa' h).app S3
              · rw [List.mem_singleton] at h
                subst h
                exact hkn
            · intro x hx
              have := pl11 x hx
              rw [upd_ne (ne_of this e11 (by intro z; cases z))]
              exact this
          · rintro σ H9 ⟨a7, a8, S2, rfl, R9, l9, b9, e9, k9, pl9, s9⟩
            rw [kvsP_len] at l9 e9 k9
            rw [List.take_of_length_le (Nat.le_of_eq (List.length_map _))] at e9 k9
            refine ⟨b9, ?_⟩
            refine ⟨_, _, _, _, S ++ S2, PL.map (·.1), by omega, rfl, same_upd s9 hab0, ?_, ?_, lvP, k9, ?_, ?_⟩
            · exact R9.of fun c o e h1 h2 => by rw [upd_ne (ne_of e b9 (h2 _ _))]; exact e
            · rw [upd_ne (Ne.symm nah)]; exact e9
            · rw [List.length_append]; omega
            · rw [List.length_map]; omega
      · rintro σ H4 ⟨a5, a6, a7, a8, S, As, _, rfl, s4, R4, e4, lv4, kn4, Sl, Al⟩
        rw [Nat.sub_self] at lv4
        obtain ⟨dx4, h4⟩ := R4.ob
        have gt := DGet.k (k := Sum.inr (adS [])) e4
        rw [valV_A] at gt
        have hnot : [] ∉ As → trA F n [] = .e := fun hm => Decidable.byContradiction fun z => hm ((lv4.al [] rfl (fun d hd => by cases hd)).mpr z)
        have hkn : Kn S (tree F n 0 0) := by
          by_cases hm : [] ∈ As
          · exact kn4 [] hm
          · have := hnot hm
            rw [← trA_nil, this]
            exact .inl rfl
        have hval : (if [] ∈ As then some (fN S F n []) else none).getD (.int 0) = V.int (num S (tree F n 0 0) : Nat) := by
          by_cases hm : [] ∈ As
          · rw [if_pos hm]; rfl
          · have := hnot hm
            rw [if_neg hm, ← trA_nil, this]
            rfl
        have hcan := tree_canon F n 0 0
        have hht := tree_ht F n 0 0
        refine ⟨_, rfl, rw, dx4, _, rfl, h4, fR_no _ _ (by decide +kernel) (by decide +kernel), _, rfl, p, CLeaves, dx, _, _, rfl, s4 _ _ hp, T.cl, T.nN, fL_n _ _ _ _ _, _, rfl, hr0, rfl, .inl ⟨_, .inl e4⟩, _, gt, ⟨rw, lr, dn, S, tree F n 0 0, n⟩, ?_, R4, hkn, hcan, by show (tree F n 0 0).ht ≤ 6; omega, by have := post_small (t := tree F n 0 0) (by omega); show (post (tree F n 0 0) []).length ≤ 40000; omega, fun H5 s5 x5 Sh5 => k H5 s5 (s4.trans x5) Sh5⟩
        rw [hval]
        rfl
end
end Qf
namespace Qf
open PySem PySem.Spec PyProof.Rows L2 LamX
theorem ShapeAt.ext {H H' : Hp} {p : Addr} {n : Nat} {t : Qt} (x : ShapeAt H p n t) (s : ExtN H H') : ShapeAt H' p n t := by
  obtain ⟨q, h1, as, h2, h3⟩ := x
  exact ⟨q, ext_tup s h1, as, ext_tup s h2, pr_imp h3 fun a r _ _ e => ext_tup s e⟩
theorem all_pr {α : Type} (gs : List α) : Paired (fun (i : Nat) g => gs[i]? = some g) (List.range gs.length) gs := by
  refine paired_of_get (List.length_range) fun i a b h1 h2 => ?_
  obtain ⟨h3, h4⟩ := List.getElem?_eq_some_iff.mp h1
  rw [List.getElem_range] at h4
  rw [← h4]
  exact h2
def ShG (H : Hp) (n : Nat) (L : List Lf) (ss : List Addr) (gs : List (List Nat)) : Prop := Paired (fun s g => ShapeAt H s n (tree (cellF L g) n 0 0)) ss gs
def spPartsOf (Pt : Addr) : Sp := mkSp (fun a : FoA => [.ref a.tp, .str (if a.by' then "corners" else "sides")]) fun a H Q => ShapeAt H a.tp a.n a.t ∧ Fit a.n a.t ∧ a.t.lvs ≤ 2000 ∧ Tabs (TG Pt) H ∧
  (∀ gs, Grp a.n (leafs a.n a.t) true a.by' gs → ∀ g ∈ gs, UnitG (leafs a.n a.t) g) ∧
  ∀ H' q ss gs, ExtN H H' → Tabs (TG Pt) H' → H' q = some (.lst (ss.map V.ref)) → Grp a.n (leafs a.n a.t) true a.by' gs → ShG H' a.n (leafs a.n a.t) ss gs → Q (.ref q) H'
def spHolesOf (Pt : Addr) : Sp := mkSp (fun a : FoA => [.ref a.tp, .str (if a.by' then "corners" else "sides")]) fun a H Q => ShapeAt H a.tp a.n a.t ∧ Fit a.n a.t ∧ a.t.lvs ≤ 2000 ∧ Tabs (TG Pt) H ∧
  (∀ gs, Grp a.n (leafs a.n a.t) false (!a.by') gs → ∀ g ∈ gs, edgeB a.n (leafs a.n a.t) g = false → UnitG (leafs a.n a.t) g) ∧
  ∀ H' q ss gs, ExtN H H' → Tabs (TG Pt) H' → H' q = some (.lst (ss.map V.ref)) → Grp a.n (leafs a.n a.t) false (!a.by') gs → ShG H' a.n (leafs a.n a.t) ss (gs.filter fun g => !edgeB a.n (leafs a.n a.t) g) → Q (.ref q) H'
/-- a dict tells for each leaf of some groups the group's number -/
structure KOwn (gs : List (List Nat)) (kvs : List (Key × V)) : Prop where
  inn : ∀ (o i : Nat) (g : List Nat), gs[i]? = some g → o ∈ g → valV kvs (Sum.inl (o : Int)) = some (.int (i : Int))
  out : ∀ o : Nat, (∀ g ∈ gs, o ∉ g) → valV kvs (Sum.inl (o : Int)) = none
def DjG (gs : List (List Nat)) : Prop := ∀ (i j : Nat) (g g' : List Nat) (o : Nat), gs[i]? = some g → gs[j]? = some g' → o ∈ g → o ∈ g' → i = j
theorem GrpI.djg {n : Nat} {L : List Lf} {t by' : Bool} {gs : List (List Nat)} (h : gs.Pairwise (fun g g' => ∀ o, o ∈ g → o ∉ g')) : DjG gs := fun i j g g' o h1 h2 ho ho' => by
  rw [List.pairwise_iff_getElem] at h
  obtain ⟨l1, rfl⟩ := List.getElem?_eq_some_iff.mp h1
  obtain ⟨l2, rfl⟩ := List.getElem?_eq_some_iff.mp h2
  rcases Nat.lt_trichotomy i j with q | q | q
  · exact absurd ho' (h i j l1 l2 q o ho)
  · exact q
  · exact absurd ho (h j i l2 l1 q o ho')
structure OwA where
  q : Addr
  as : List Addr
  gs : List (List Nat)
def spOwners : Sp := mkSp (fun a : OwA => [.ref a.q]) fun a H Q => H a.q = some (.lst (a.as.map V.ref)) ∧ LLs H a.as a.gs ∧ a.gs.length ≤ 2000 ∧ (∀ g ∈ a.gs, g.length ≤ 2000) ∧ DjG a.gs ∧
  ∀ H' d kvs, Same H H' → H' d = some (.dK kvs) → KOwn a.gs kvs → Q (.ref d) H'
/-- what owner_left tells of a group -/
def OwnL (n : Nat) (L : List Lf) (os : List Nat) (kvs : List (Key × V)) (v : V) : Prop := ∃ (o : Nat) (x : Lf), o ∈ os ∧ L[o]? = some x ∧ (∀ o' ∈ os, ∀ y : Lf, L[o']? = some y → x.r < y.r ∨ (x.r = y.r ∧ x.c ≤ y.c)) ∧
  ((x.c = 0 ∧ v = .non) ∨ (0 < x.c ∧ ∃ (o' : Nat) (y : Lf), L[o']? = some y ∧ y.has x.r (x.c - 1) ∧ v = (valV kvs (Sum.inl (o' : Int))).getD .non))
structure OlA where
  p : Addr
  q : Addr
  d : Addr
  n : Nat
  L : List Lf
  os : List Nat
  kvs : List (Key × V)
def spOwnerLeft (C : Addr) : Sp := mkSp (fun a : OlA => [.ref a.p, .ref a.q, .ref a.d]) fun a H Q => LvAt C H a.p a.n a.L ∧ Good a.n a.L ∧ H a.q = some (.lst (iV a.os)) ∧ a.os ≠ [] ∧ a.os.length ≤ 2000 ∧ (∀ o ∈ a.os, o < a.L.length) ∧ H a.d = some (.dK a.kvs) ∧
  ∀ H' v, Same H H' → OwnL a.n a.L a.os a.kvs v → Q v H'
structure FlA where
  p : Addr
  c : Addr
  n : Nat
  L : List Lf
  i : Nat
  j : Nat
def spFullLeaf (C : Addr) : Sp := mkSp (fun a : FlA => [.ref a.p, .ref a.c]) fun a H Q => LvAt C H a.p a.n a.L ∧ Good a.n a.L ∧ H a.c = some (.tup [.int (a.i : Nat), .int (a.j : Nat)]) ∧
  ∃ (o : Nat) (y : Lf), a.L[o]? = some y ∧ y.has a.i a.j ∧ y.b = true ∧ ∀ H', Same H H' → Q (.int o) H'
def spWantCellOf : Sp := mkSp (fun a : Nat × Addr × Nat × Nat => [.int (a.1 : Nat), .ref a.2.1]) fun a H Q => H a.2.1 = some (.tup [.int (a.2.2.1 : Nat), .int (a.2.2.2 : Nat)]) ∧ a.1 ≤ 6 ∧ a.2.2.1 < 2 ^ a.1 ∧ a.2.2.2 < 2 ^ a.1 ∧ Q .non H
section
variable {P : Program} {w : World} {K : PySem.W.Frag} {mg : Str → Option Value} {base : Heap}
theorem ok_parts_of (B : Bl mg) (D : Dfn K mg "parts_of" s_parts_of) {CLeaves Pt : Addr} (c_leaves_for : Cal P w K mg base 16 "leaves_for" (spLeavesFor CLeaves)) (c_Leaves_parts : Met P w K mg base 7 CLeaves "parts" (spParts CLeaves Pt)) (c_Leaves_shape_of : Met P w K mg base 10 CLeaves "shape_of" (spShapeOf CLeaves)) : Cal P w K mg base 17 "parts_of" (spPartsOf Pt) := by
  refine cal_of D sc_parts_of (fun _ _ _ _ _ _ us hl => match us, hl with | [_, _], _ => rfl) (fun vs H Q E h => ?_) (fun f cdv A outer s H vs Q E hr h => ?_)
  · obtain ⟨a, rfl, _⟩ := h
    rfl
  · have nd := sc_parts_of.nd
    have hu := hu_of hr
    have hu65 := hu65_of hr
    obtain ⟨⟨tp, n, t, by'⟩, rfl, Sh, F, hlv, HT, hun, k⟩ := h
    dsimp only at Sh F hlv HT hun k
    refine ⟨_, (pss_cons (ps_set (i := 2) nd rfl (by first | exact Or.inl rfl | exact Or.inr rfl) (pe_c c_leaves_for hr (by omega) rfl (pa_cons (pv 0) (pa_cons (pv 1) pa_nil))))
      (pss_one (ps_ret (pe_lc (own := [("group", 3)]) rfl nd (pi_list (pe_mt c_Leaves_parts hr (by omega) (pv 2) (pa_cons (pv 1) pa_nil))) (blkOk_by (N := N_parts_of) (sc := defScope s_parts_of) (by decide +kernel)) (fun _ _ _ _ _ => (pg_name (i := 3) nd rfl (by first | exact Or.inl rfl | exact Or.inr rfl))) (fun _ _ _ _ _ => pts_nil) (fun _ _ _ _ _ => (pe_mt c_Leaves_shape_of hr (by omega) (pv 2) (pa_cons (pv 3) pa_nil))))))), ?_⟩
    have g := good_leafs F.n6 F.ht hlv
    refine ⟨_, rfl, _, rfl, ⟨tp, n, t, by'⟩, rfl, Sh, F, hlv, fun H1 p s1 Lv1 => ?_⟩
    dsimp only at Lv1
    generalize leafs n t = L at *
    obtain ⟨dx, z, hp, hL⟩ := id Lv1
    refine ⟨_, rfl, p, dx, _, rfl, hp, nL_parts, _, rfl, ⟨p, n, L, true, by'⟩, rfl, Lv1, g, HT.ext s1, fun H2 q2 as gs x2 T2 e2 l2 G2 => ?_⟩
    dsimp only at G2
    refine ⟨q2, rfl, ⟨_, lstOf e2⟩, fun D hD => ?_⟩
    have lag : as.length = gs.length := pr_len l2
    have hgl := G2.toGrpI.len
    have hl2 := g.len
    have Lv2 := Lv1.ext x2
    refine lc_map (walk_list (xs := as.map V.ref)) (fun i y H' => ∃ s g', y = V.ref s ∧ gs[i]? = some g' ∧ ShapeAt H' s n (tree (cellF L g') n 0 0)) hD (fun H' s => lstOf (s _ _ e2)) (szL (by rw [List.length_map]; omega)) ?_ ?_ gName_mono ?_
    · rintro i y H3 H' ⟨s, g', h1, h2, h3⟩ ⟨l, hl⟩ sx
      exact ⟨s, g', h1, h2, h3.sx sx fun c xs e => nin1 e hl (by intro z; cases z)⟩
    · rintro i y H3 H' hi s3 _ ⟨rfl, hy⟩ Q' qq
      rw [List.length_map] at hi
      rw [List.getElem?_map, List.getElem?_eq_getElem hi] at hy
      obtain rfl : V.ref as[i] = y := Option.some.inj hy
      obtain ⟨os, ho, hos⟩ := pr_get l2 (List.getElem?_eq_getElem hi)
      have hog := List.mem_of_getElem? ho
      have Lv3 := Lv2.same s3
      obtain ⟨dx3, z3, hp3, _⟩ := id Lv3
      refine ⟨rfl, _, rfl, p, dx3, _, rfl, hp3, nL_shape_of, _, rfl, ⟨p, as[i], n, L, os⟩, rfl, Lv3, g, s3 _ _ hos, G2.nd os hog, (fun o h => by
        obtain ⟨x, hx, _⟩ := G2.mem os hog o h
        exact get_lt hx), hun gs G2 os hog, fun H4 s4 s34 Sh4 => qq _ _ s34 ⟨s4, os, rfl, ho, Sh4⟩⟩
    · intro ys H3 s3 hy py
      rw [List.length_map, lag] at py
      obtain ⟨ss, rfl, h2⟩ := pr_refs (W := fun s g' => ShapeAt H3 s n (tree (cellF L g') n 0 0)) (pr_imp (pr_join py (all_pr gs)) fun y g' _ _ ⟨i, ⟨s, g'', e1, e2, e3⟩, e4⟩ => ⟨s, e1, by rw [e2] at e4; rw [← Option.some.inj e4]; exact e3⟩)
      exact k H3 D ss gs ((ExtN.of s1).trans (x2.trans (ExtN.of s3))) (T2.ext s3) hy G2 h2
theorem ok_holes_of (B : Bl mg) (D : Dfn K mg "holes_of" s_holes_of) {CLeaves Pt : Addr} (c_leaves_for : Cal P w K mg base 16 "leaves_for" (spLeavesFor CLeaves)) (c_Leaves_holes : Met P w K mg base 7 CLeaves "holes" (spHoles CLeaves Pt)) (c_Leaves_shape_of : Met P w K mg base 10 CLeaves "shape_of" (spShapeOf CLeaves)) : Cal P w K mg base 17 "holes_of" (spHolesOf Pt) := by
  refine cal_of D sc_holes_of (fun _ _ _ _ _ _ us hl => match us, hl with | [_, _], _ => rfl) (fun vs H Q E h => ?_) (fun f cdv A outer s H vs Q E hr h => ?_)
  · obtain ⟨a, rfl, _⟩ := h
    rfl
  · have nd := sc_holes_of.nd
    have hu := hu_of hr
    have hu65 := hu65_of hr
    obtain ⟨⟨tp, n, t, by'⟩, rfl, Sh, F, hlv, HT, hun, k⟩ := h
    dsimp only at Sh F hlv HT hun k
    refine ⟨_, (pss_cons (ps_set (i := 2) nd rfl (by first | exact Or.inl rfl | exact Or.inr rfl) (pe_c c_leaves_for hr (by omega) rfl (pa_cons (pv 0) (pa_cons (pv 1) pa_nil))))
      (pss_one (ps_ret (pe_lc (own := [("group", 3)]) rfl nd (pi_list (pe_mt c_Leaves_holes hr (by omega) (pv 2) (pa_cons (pv 1) pa_nil))) (blkOk_by (N := N_holes_of) (sc := defScope s_holes_of) (by decide +kernel)) (fun _ _ _ _ _ => (pg_name (i := 3) nd rfl (by first | exact Or.inl rfl | exact Or.inr rfl))) (fun _ _ _ _ _ => pts_nil) (fun _ _ _ _ _ => (pe_mt c_Leaves_shape_of hr (by omega) (pv 2) (pa_cons (pv 3) pa_nil))))))), ?_⟩
    have g := good_leafs F.n6 F.ht hlv
    refine ⟨_, rfl, _, rfl, ⟨tp, n, t, by'⟩, rfl, Sh, F, hlv, fun H1 p s1 Lv1 => ?_⟩
    dsimp only at Lv1
    generalize leafs n t = L at *
    obtain ⟨dx, z, hp, hL⟩ := id Lv1
    refine ⟨_, rfl, p, dx, _, rfl, hp, nL_holes, _, rfl, ⟨p, n, L, true, by'⟩, rfl, Lv1, g, HT.ext s1, fun H2 q2 as gs0 x2 T2 e2 l2 G2 => ?_⟩
    dsimp only at G2 l2
    refine ⟨q2, rfl, ⟨_, lstOf e2⟩, fun D hD => ?_⟩
    have lag0 : as.length = (gs0.filter fun g => !edgeB n L g).length := pr_len l2
    have hgl := G2.toGrpI.len
    have hl2 := g.len
    have hfl := List.length_filter_le (fun g => !edgeB n L g) gs0
    have hfm : ∀ g' ∈ gs0.filter (fun g => !edgeB n L g), g' ∈ gs0 ∧ edgeB n L g' = false := fun g' h => by
      obtain ⟨h1, h2⟩ := List.mem_filter.mp h
      exact ⟨h1, by simpa using h2⟩
    have k2 := fun H' q ss x t e => k H' q ss gs0 x t e G2
    generalize hgs : gs0.filter (fun g => !edgeB n L g) = gs at *
    have lag := lag0
    have Lv2 := Lv1.ext x2
    refine lc_map (walk_list (xs := as.map V.ref)) (fun i y H' => ∃ s g', y = V.ref s ∧ gs[i]? = some g' ∧ ShapeAt H' s n (tree (cellF L g') n 0 0)) hD (fun H' s => lstOf (s _ _ e2)) (szL (by rw [List.length_map]; omega)) ?_ ?_ gName_mono ?_
    · rintro i y H3 H' ⟨s, g', h1, h2, h3⟩ ⟨l, hl⟩ sx
      exact ⟨s, g', h1, h2, h3.sx sx fun c xs e => nin1 e hl (by intro z; cases z)⟩
    · rintro i y H3 H' hi s3 _ ⟨rfl, hy⟩ Q' qq
      rw [List.length_map] at hi
      rw [List.getElem?_map, List.getElem?_eq_getElem hi] at hy
      obtain rfl : V.ref as[i] = y := Option.some.inj hy
      obtain ⟨os, ho, hos⟩ := pr_get l2 (List.getElem?_eq_getElem hi)
      obtain ⟨hog, hoe⟩ := hfm os (List.mem_of_getElem? ho)
      have Lv3 := Lv2.same s3
      obtain ⟨dx3, z3, hp3, _⟩ := id Lv3
      refine ⟨rfl, _, rfl, p, dx3, _, rfl, hp3, nL_shape_of, _, rfl, ⟨p, as[i], n, L, os⟩, rfl, Lv3, g, s3 _ _ hos, G2.nd os hog, (fun o h => by
        obtain ⟨x, hx, _⟩ := G2.mem os hog o h
        exact get_lt hx), hun gs0 G2 os hog hoe, fun H4 s4 s34 Sh4 => qq _ _ s34 ⟨s4, os, rfl, ho, Sh4⟩⟩
    · intro ys H3 s3 hy py
      rw [List.length_map, lag] at py
      obtain ⟨ss, rfl, h2⟩ := pr_refs (W := fun s g' => ShapeAt H3 s n (tree (cellF L g') n 0 0)) (pr_imp (pr_join py (all_pr gs)) fun y g' _ _ ⟨i, ⟨s, g'', e1, e2, e3⟩, e4⟩ => ⟨s, e1, by rw [e2] at e4; rw [← Option.some.inj e4]; exact e3⟩)
      exact k2 H3 D ss ((ExtN.of s1).trans (x2.trans (ExtN.of s3))) (T2.ext s3) hy h2
theorem ok_full_leaf (B : Bl mg) (D : Dfn K mg "full_leaf" s_full_leaf) {CLeaves : Addr} (T : LT K CLeaves) (c_Leaves_number_at : Met P w K mg base 1 CLeaves "number_at" (spNumberAt CLeaves)) : Cal P w K mg base 2 "full_leaf" (spFullLeaf CLeaves) := by
  refine cal_of D sc_full_leaf (fun _ _ _ _ _ _ us hl => match us, hl with | [_, _], _ => rfl) (fun vs H Q E h => ?_) (fun f cdv A outer s H vs Q E hr h => ?_)
  · obtain ⟨a, rfl, _⟩ := h
    rfl
  · have nd := sc_full_leaf.nd
    have hu := hu_of hr
    have hu65 := hu65_of hr
    obtain ⟨⟨p, c, n, L, i, j⟩, rfl, Lv, g, hc, o, y, ho, hy, hb, k⟩ := h
    dsimp only at Lv g hc ho hy hb k
    refine ⟨_, (pss_cons (ps_set (i := 2) nd rfl (by first | exact Or.inl rfl | exact Or.inr rfl) (pe_mt c_Leaves_number_at hr (by omega) (pv 0) (pa_cons (pe_ix ix_tup (pv 1) pe_int (fun _ _ => rfl)) (pa_cons (pe_ix ix_tup (pv 1) pe_int (fun _ _ => rfl)) pa_nil))))
      (pss_cons (ps_if (pt_not (pt_val (pe_ix ix_list (pe_fld (pv 0) rfl) (pv 2) (fun _ _ => rfl)))) (pss_one ps_never) pss_nil)
      (pss_one (ps_ret (pv 2))))), ?_⟩
    obtain ⟨dx, z, hp, hL⟩ := id Lv
    refine ⟨_, rfl, p, dx, _, rfl, hp, nL_number_at, _, rfl, c, _, _, _, rfl, rfl, tupOf hc, rfl, _, rfl, c, _, _, _, rfl, rfl, tupOf hc, rfl, ⟨p, n, L, i, j⟩, rfl, Lv, g, o, y, ho, hy, fun H1 s1 => ?_⟩
    refine ⟨_, rfl, p, CLeaves, dx, _, _, rfl, s1 _ _ hp, T.cl, T.nT, fL_truths _ _ _ _ _, _, rfl, z.tl, _, _, .bl y.b, rfl, rfl, lstOf (s1 _ _ hL.t), atI_nat (vT_at ho), ?_⟩
    rw [hb]
    exact ⟨_, rfl, iteF ⟨_, rfl, k H1 s1⟩⟩
theorem ok_want_cell_of (B : Bl mg) (D : Dfn K mg "want_cell_of" s_want_cell_of) (c_want_cell : Cal P w K mg base 3 "want_cell" spWantCell) : Cal P w K mg base 4 "want_cell_of" spWantCellOf := by
  refine cal_of D sc_want_cell_of (fun _ _ _ _ _ _ us hl => match us, hl with | [_, _], _ => rfl) (fun vs H Q E h => ?_) (fun f cdv A outer s H vs Q E hr h => ?_)
  · obtain ⟨a, rfl, _⟩ := h
    rfl
  · have nd := sc_want_cell_of.nd
    have hu := hu_of hr
    have hu65 := hu65_of hr
    obtain ⟨⟨n, c, i, j⟩, rfl, hc, hn, hi, hj, k⟩ := h
    dsimp only at hc hn hi hj k
    refine ⟨_, (pss_cons (ps_set (i := 2) nd rfl (by first | exact Or.inl rfl | exact Or.inr rfl) pe_non)
      (pss_cons (ps_set (i := 3) nd rfl (by first | exact Or.inl rfl | exact Or.inr rfl) pe_non)
      (pss_cons (ps_if (PW.pt (pw_and (pt_val (pe_callB call_isi (by rfl) B.isinstance bt_isinstance (pa_cons (pv 1) (pa_cons (pe_bltn (v := .ty "tuple") (u := .type "tuple") (by rfl) B.tuple bt_tuple rfl) pa_nil)))) (pw_and1 (pt_cmpR op_eq (pe_callB call_len_seq (by rfl) B.len bt_len (pa_cons (pv 1) pa_nil)) pe_int (nomark _))))) (pss_one (ps_asg (pv 1) (pg_tup rfl (pgs_cons (pg_name (i := 2) nd rfl (by first | exact Or.inl rfl | exact Or.inr rfl)) (pgs_cons (pg_name (i := 3) nd rfl (by first | exact Or.inl rfl | exact Or.inr rfl)) pgs_nil))))) pss_nil)
      (pss_one (ps_expr (pe_c c_want_cell hr (by omega) rfl (pa_cons (pv 0) (pa_cons (pv 2) (pa_cons (pv 3) pa_nil))))))))), ?_⟩
    refine ⟨_, rfl, _, _, _, _, true, rfl, .ty _, .base (.tup hc), kit_ty (by decide +kernel), true, rfl, iteT ?_⟩
    refine ⟨_, rfl, c, _, rfl, .inr (tupOf hc), rfl, _, rfl, iteT ?_⟩
    refine ⟨_, rfl, c, _, rfl, tupOf hc, rfl, _, _, rfl, _, _, rfl, rfl, ?_⟩
    have e : (2 : Int) ^ n = ((2 ^ n : Nat) : Int) := by push_cast; rfl
    exact ⟨_, rfl, _, rfl, _, rfl, ⟨n, (i : Int), (j : Int)⟩, rfl, by show n ≤ 12; omega, by show (0 : Int) ≤ i; omega, by show (i : Int) < 2 ^ n; rw [e]; omega, by show (0 : Int) ≤ j; omega, by show (j : Int) < 2 ^ n; rw [e]; omega, k⟩
theorem ok_owners (B : Bl mg) (D : Dfn K mg "owners" s_owners)  : Cal P w K mg base 1 "owners" spOwners := by
  refine cal_of D sc_owners (fun _ _ _ _ _ _ us hl => match us, hl with | [_], _ => rfl) (fun vs H Q E h => ?_) (fun f cdv A outer s H vs Q E hr h => ?_)
  · obtain ⟨a, rfl, _⟩ := h
    rfl
  · have nd := sc_owners.nd
    have hu := hu_of hr
    have hu65 := hu65_of hr
    obtain ⟨⟨q, as, gs⟩, rfl, hq, hL, hg1, hg2, hdj, k⟩ := h
    dsimp only at hq hL hg1 hg2 hdj k
    refine ⟨_, (pss_cons (ps_set (i := 1) nd rfl (by first | exact Or.inl rfl | exact Or.inr rfl) pe_dnewK)
      (pss_cons (ps_for PassesOwn.never rfl (pi_enum rfl B.enumerate (pa_cons (pv 0) pa_nil)) (pg_tup rfl (pgs_cons (pg_name (i := 2) nd rfl (by first | exact Or.inl rfl | exact Or.inr rfl)) (pgs_cons (pg_name (i := 3) nd rfl (by first | exact Or.inl rfl | exact Or.inr rfl)) pgs_nil)))
      (pss_one (ps_for PassesOwn.never rfl (pi_list (pv 3)) (pg_name (i := 4) nd rfl (by first | exact Or.inl rfl | exact Or.inr rfl))
      (pss_one (ps_dput hu (pv 1) (pv 4) (pv 2) rfl)))))
      (pss_one (ps_ret (pv 1))))), ?_⟩
    intro d hd
    have s1 := same_new hd (o := .dK [])
    have e1 : (upd H d (.dK [])) d = some (.dK []) := upd_same
    show Ends.nx _ _ (upd H d (.dK []))
    generalize upd H d (.dK []) = H1 at *
    have lag : as.length = gs.length := pr_len hL
    refine ⟨_, rfl, q, _, rfl, lstOf (s1 _ _ hq), ?_⟩
    refine for_it (walk_enum (xs := as.map V.ref)) (fun i σ H2 => ∃ (a2 a3 a4 : Option V) (kvs : List (Key × V)), σ = [some (.ref q), some (.ref d), a2, a3, a4] ∧ Same H H2 ∧ H2 d = some (.dK kvs) ∧ kvs.length ≤ 2000 * i ∧ KOwn (gs.take i) kvs)
      ⟨none, none, none, [], rfl, s1, e1, Nat.zero_le _, ⟨(fun o i g h => by rw [List.take_zero] at h; cases h), fun o _ => rfl⟩⟩ (fun i σ H2 _ h => by
        obtain ⟨_, _, _, _, _, s, _⟩ := h
        exact lstOf (s _ _ hq)) ?_ ?_
    · rintro i x σ H2 H' hi ⟨a2, a3, a4, kvs, rfl, s2, e2, l2, K2⟩ ⟨Tp, v1, v2, rfl, hTp, rfl, f1, f2⟩
      rw [List.length_map] at hi
      obtain rfl : V.int (i : Nat) = v1 := Option.some.inj f1
      have f2 : (as.map V.ref)[i]? = some v2 := f2
      rw [List.getElem?_map, List.getElem?_eq_getElem hi] at f2
      obtain rfl : V.ref as[i] = v2 := Option.some.inj f2
      obtain ⟨os, ho, hos⟩ := pr_get hL (List.getElem?_eq_getElem hi)
      have hosl := hg2 os (List.mem_of_getElem? ho)
      have s3 := same_new hTp (o := .tup [.int (i : Nat), .ref as[i]])
      have e3 := s3 _ _ e2
      have s03 := s2.trans s3
      refine ⟨Tp, _, rfl, tupOf upd_same, rfl, _, _, rfl, _, _, rfl, rfl, ?_⟩
      generalize upd H2 Tp (.tup [.int (i : Nat), .ref as[i]]) = H3 at *
      have etk : gs.take (i + 1) = gs.take i ++ [os] := by rw [List.take_add_one, ho]; rfl
      refine ⟨_, rfl, as[i], rfl, ⟨_, lstOf (s03 _ _ hos)⟩, for_it (walk_list (xs := iV os)) (fun e σ H4 => ∃ (a4 : Option V) (kvs : List (Key × V)), σ = [some (.ref q), some (.ref d), some (.int (i : Nat)), some (.ref as[i]), a4] ∧ Same H H4 ∧ H4 d = some (.dK kvs) ∧ kvs.length ≤ 2000 * i + e ∧
        (∀ (o j : Nat) (g : List Nat), (gs.take i)[j]? = some g → o ∈ g → valV kvs (Sum.inl (o : Int)) = some (.int (j : Int))) ∧ (∀ o ∈ os.take e, valV kvs (Sum.inl (o : Int)) = some (.int (i : Int))) ∧ (∀ o : Nat, (∀ g ∈ gs.take i, o ∉ g) → o ∉ os.take e → valV kvs (Sum.inl (o : Int)) = none))
        ⟨_, kvs, rfl, s03, e3, l2, K2.inn, (fun o h => by rw [List.take_zero] at h; cases h), fun o h _ => K2.out o h⟩ (fun e σ H4 _ h => by
          obtain ⟨_, _, _, s, _⟩ := h
          exact lstOf (s _ _ hos)) ?_ ?_⟩
      · rintro e x σ H4 H' he ⟨a4, kvs, rfl, s4, e4, l4, k1, k2, k3⟩ ⟨rfl, hx⟩
        obtain ⟨o, ho2, rfl⟩ := iV_get hx
        rw [iV_len] at he
        have etk2 : os.take (e + 1) = os.take e ++ [o] := by rw [List.take_add_one, ho2]; rfl
        have ho3 := List.mem_of_getElem? ho2
        have hsz := sizeLine_eq
        refine ⟨_, rfl, _, rfl, _, rfl, d, _, rfl, DPut.k (k := Sum.inl (o : Int)) e4 (by have : 2000 * i ≤ 2000 * 2000 := Nat.mul_le_mul_left _ (by omega); omega), ?_⟩
        have hj : ∀ (o' : Nat), (Sum.inl (o' : Int) : Key) = Sum.inl (o : Int) ↔ o' = o := fun o' => ⟨fun z => Int.ofNat_inj.mp (Sum.inl.inj z), fun z => by rw [z]⟩
        refine ⟨_, putK kvs (Sum.inl (o : Int)) (.int (i : Nat)), rfl, same_upd s4 hd, upd_same, ?_, ?_, ?_, ?_⟩
        · have := length_putK kvs (Sum.inl (o : Int)) (V.int (i : Nat)); omega
        · intro o' j g hg hog
          rw [valV_put, if_neg fun z => ?_]
          · exact k1 o' j g hg hog
          · have z := (hj o').mp z
            subst z
            have hj2 : j < i := by have := get_lt hg; rw [List.length_take] at this; omega
            rw [List.getElem?_take_of_lt hj2] at hg
            have := hdj j i g os o' hg ho hog ho3
            omega
        · intro o' h
          rw [etk2] at h
          rw [valV_put]
          by_cases hoo : o' = o
          · rw [if_pos ((hj o').mpr hoo)]
          · rw [if_neg fun z => hoo ((hj o').mp z)]
            rcases List.mem_append.mp h with h | h
            · exact k2 o' h
            · rw [List.mem_singleton] at h; exact absurd h hoo
        · intro o' h1 h2
          rw [etk2] at h2
          have hoo : o' ≠ o := fun z => h2 (List.mem_append_right _ (List.mem_singleton.mpr z))
          rw [valV_put, if_neg fun z => hoo ((hj o').mp z)]
          exact k3 o' h1 fun z => h2 (List.mem_append_left _ z)
      · rintro σ H4 ⟨a4, kvs, rfl, s4, e4, l4, k1, k2, k3⟩
        rw [iV_len] at l4 k2 k3
        rw [List.take_length] at k2 k3
        refine ⟨_, _, _, kvs, rfl, s4, e4, by omega, ⟨fun o j g hg hog => ?_, fun o h => ?_⟩⟩
        · rw [etk] at hg
          have hli : (gs.take i).length = i := by rw [List.length_take]; omega
          by_cases hji : j < i
          · rw [List.getElem?_append_left (by omega)] at hg
            exact k1 o j g hg hog
          · rw [List.getElem?_append_right (by omega)] at hg
            have hj0 : j - (gs.take i).length = 0 := by
              have := get_lt hg
              rw [List.length_singleton] at this
              omega
            rw [hj0] at hg
            have hg : os = g := Option.some.inj hg
            subst hg
            have : j = i := by omega
            subst this
            exact k2 o hog
        · rw [etk] at h
          exact k3 o (fun g hg => h g (List.mem_append_left _ hg)) (h os (List.mem_append_right _ (List.mem_singleton.mpr rfl)))
    · rintro σ H2 ⟨a2, a3, a4, kvs, rfl, s2, e2, l2, K2⟩
      rw [List.length_map, lag, List.take_length] at K2
      exact ⟨_, rfl, k H2 d kvs s2 e2 K2⟩
theorem ok_owner_left (B : Bl mg) (D : Dfn K mg "owner_left" s_owner_left) {CLeaves : Addr} (c_Leaves_first_cell : Met P w K mg base 1 CLeaves "first_cell" (spFirst CLeaves)) (c_Leaves_number_at : Met P w K mg base 1 CLeaves "number_at" (spNumberAt CLeaves)) : Cal P w K mg base 2 "owner_left" (spOwnerLeft CLeaves) := by
  refine cal_of D sc_owner_left (fun _ _ _ _ _ _ us hl => match us, hl with | [_, _, _], _ => rfl) (fun vs H Q E h => ?_) (fun f cdv A outer s H vs Q E hr h => ?_)
  · obtain ⟨a, rfl, _⟩ := h
    rfl
  · have nd := sc_owner_left.nd
    have hu := hu_of hr
    have hu65 := hu65_of hr
    obtain ⟨⟨p, q, d, n, L, os, kvs⟩, rfl, Lv, g, hq, hne, hos, hlt, hd, k⟩ := h
    dsimp only at Lv g hq hne hos hlt hd k
    refine ⟨_, (pss_cons (ps_asg (pe_mt c_Leaves_first_cell hr (by omega) (pv 0) (pa_cons (pv 1) pa_nil)) (pg_tup rfl (pgs_cons (pg_name (i := 3) nd rfl (by first | exact Or.inl rfl | exact Or.inr rfl)) (pgs_cons (pg_name (i := 4) nd rfl (by first | exact Or.inl rfl | exact Or.inr rfl)) pgs_nil))))
      (pss_cons (ps_if (pt_cmpR op_eq (pv 4) pe_int (nomark _)) (pss_one (ps_ret pe_non)) pss_nil)
      (pss_one (ps_ret (pe_get2 hu (pv 2) (pe_mt c_Leaves_number_at hr (by omega) (pv 0) (pa_cons (pv 3) (pa_cons (pe_op op_sub (pv 4) pe_int) pa_nil))) pe_non))))), ?_⟩
    obtain ⟨dx, z, hp, hL⟩ := id Lv
    refine ⟨_, rfl, p, dx, _, rfl, hp, nL_first_cell, _, rfl, ⟨p, q, n, L, os⟩, rfl, Lv, g, hq, hne, hos, hlt, fun H1 t o x s1 e1 ho hx hmin => ?_⟩
    dsimp only at ho hx hmin
    refine ⟨t, _, rfl, tupOf e1, rfl, _, _, rfl, _, _, rfl, rfl, ?_⟩
    refine ⟨_, rfl, rfl, _, rfl, ite_d (fun h0 => ?_) (fun h0 => ?_)⟩
    · have h0 : x.c = 0 := by have := V.int.inj h0; omega
      exact k H1 _ s1 ⟨o, x, ho, hx, hmin, .inl ⟨h0, rfl⟩⟩
    · have h0 : 0 < x.c := by
        rcases Nat.eq_zero_or_pos x.c with z | z
        · exact absurd (by rw [z]; rfl) h0
        · exact z
      have hlx := g.lt (List.mem_of_getElem? hx)
      have := pow_pos2 x.k
      obtain ⟨o', y, ho', hy⟩ := g.at (i := x.r) (j := x.c - 1) (by omega) (by omega)
      refine ⟨_, rfl, d, rfl, .inl ⟨_, .inl (s1 _ _ hd)⟩, _, rfl, p, dx, _, rfl, s1 _ _ hp, nL_number_at, _, rfl, _, rfl, _, _, rfl, rfl, ⟨p, n, L, x.r, x.c - 1⟩, by show [V.ref p, V.int (x.r : Int), V.int ((x.c : Int) - 1)] = [V.ref p, V.int (x.r : Int), V.int ((x.c - 1 : Nat) : Int)]; rw [show ((x.c - 1 : Nat) : Int) = (x.c : Int) - 1 by omega], Lv.same s1, g, o', y, ho', hy, fun H2 s2 => ?_⟩
      refine ⟨_, DGet.k (k := Sum.inl (o' : Int)) ((s1.trans s2) _ _ hd), ?_⟩
      exact k H2 _ (s1.trans s2) ⟨o, x, ho, hx, hmin, .inr ⟨h0, o', y, ho', hy, rfl⟩⟩
end
end Qf
namespace Qf
open PySem PySem.Spec PyProof.Rows L2 LamX
def spNest (Pt : Addr) : Sp := mkSp (fun a : FoA => [.ref a.tp, .str (if a.by' then "corners" else "sides")]) fun a H Q => ShapeAt H a.tp a.n a.t ∧ Fit a.n a.t ∧ a.t.lvs ≤ 2000 ∧ Tabs (TG Pt) H ∧
  ∀ H' r la lb va vb gsP gsH kH kP, ExtN H H' → Tabs (TG Pt) H' → H' r = some (.tup [.ref la, .ref lb]) → H' la = some (.lst va) → H' lb = some (.lst vb) → Grp a.n (leafs a.n a.t) true a.by' gsP → Grp a.n (leafs a.n a.t) false (!a.by') gsH →
    KOwn (gsH.filter fun g => !edgeB a.n (leafs a.n a.t) g) kH → KOwn gsP kP → Paired (fun g v => OwnL a.n (leafs a.n a.t) g kH v) gsP va → Paired (fun g v => OwnL a.n (leafs a.n a.t) g kP v) (gsH.filter fun g => !edgeB a.n (leafs a.n a.t) g) vb → Q (.ref r) H'
section
variable {P : Program} {w : World} {K : PySem.W.Frag} {mg : Str → Option Value} {base : Heap}
theorem ok_nest (B : Bl mg) (D : Dfn K mg "nest" s_nest) {CLeaves Pt : Addr} (c_leaves_for : Cal P w K mg base 16 "leaves_for" (spLeavesFor CLeaves)) (c_Leaves_parts : Met P w K mg base 7 CLeaves "parts" (spParts CLeaves Pt)) (c_Leaves_holes : Met P w K mg base 7 CLeaves "holes" (spHoles CLeaves Pt)) (c_owners : Cal P w K mg base 1 "owners" spOwners) (c_owner_left : Cal P w K mg base 2 "owner_left" (spOwnerLeft CLeaves)) : Cal P w K mg base 17 "nest" (spNest Pt) := by
  refine cal_of D sc_nest (fun _ _ _ _ _ _ us hl => match us, hl with | [_, _], _ => rfl) (fun vs H Q E h => ?_) (fun f cdv A outer s H vs Q E hr h => ?_)
  · obtain ⟨a, rfl, _⟩ := h
    rfl
  · have nd := sc_nest.nd
    have hu := hu_of hr
    have hu65 := hu65_of hr
    obtain ⟨⟨tp, n, t, by'⟩, rfl, Sh, F, hlv, HT, k⟩ := h
    dsimp only at Sh F hlv HT k
    refine ⟨_, (pss_cons (ps_set (i := 2) nd rfl (by first | exact Or.inl rfl | exact Or.inr rfl) (pe_c c_leaves_for hr (by omega) rfl (pa_cons (pv 0) (pa_cons (pv 1) pa_nil))))
      (pss_cons (ps_set (i := 3) nd rfl (by first | exact Or.inl rfl | exact Or.inr rfl) (pe_mt c_Leaves_parts hr (by omega) (pv 2) (pa_cons (pv 1) pa_nil)))
      (pss_cons (ps_set (i := 4) nd rfl (by first | exact Or.inl rfl | exact Or.inr rfl) (pe_mt c_Leaves_holes hr (by omega) (pv 2) (pa_cons (pv 1) pa_nil)))
      (pss_cons (ps_set (i := 5) nd rfl (by first | exact Or.inl rfl | exact Or.inr rfl) (pe_c c_owners hr (by omega) rfl (pa_cons (pv 4) pa_nil)))
      (pss_cons (ps_set (i := 6) nd rfl (by first | exact Or.inl rfl | exact Or.inr rfl) (pe_c c_owners hr (by omega) rfl (pa_cons (pv 3) pa_nil)))
      (pss_cons (ps_setLc (i := 7) (own := [("group", 8)]) rfl nd rfl rfl (sw_true rfl rfl rfl (by decide +kernel)) (pi_list (pv 3)) (blkOk_by (N := N_nest) (sc := defScope s_nest) (by decide +kernel)) (fun _ _ _ _ _ => (pg_name (i := 8) nd rfl (by first | exact Or.inl rfl | exact Or.inr rfl))) (fun _ _ _ _ _ => pts_nil) (fun _ _ _ _ _ => (pe_c c_owner_left hr (by omega) rfl (pa_cons (pv 2) (pa_cons (pv 8) (pa_cons (pv 5) pa_nil))))))
      (pss_one (ps_ret (pe_tup (pa_cons (pv 7) (pa_cons (pe_lc (own := [("group", 8)]) rfl nd (pi_list (pv 4)) (blkOk_by (N := N_nest) (sc := defScope s_nest) (by decide +kernel)) (fun _ _ _ _ _ => (pg_name (i := 8) nd rfl (by first | exact Or.inl rfl | exact Or.inr rfl))) (fun _ _ _ _ _ => pts_nil) (fun _ _ _ _ _ => (pe_c c_owner_left hr (by omega) rfl (pa_cons (pv 2) (pa_cons (pv 8) (pa_cons (pv 6) pa_nil)))))) pa_nil))))))))))), ?_⟩
    have g := good_leafs F.n6 F.ht hlv
    refine ⟨_, rfl, _, rfl, ⟨tp, n, t, by'⟩, rfl, Sh, F, hlv, fun H1 p s1 Lv1 => ?_⟩
    dsimp only at Lv1
    generalize leafs n t = L at *
    obtain ⟨dx, z, hp, hL⟩ := id Lv1
    refine ⟨_, rfl, p, dx, _, rfl, hp, nL_parts, _, rfl, ⟨p, n, L, true, by'⟩, rfl, Lv1, g, HT.ext s1, fun H2 qP asP gsP x2 T2 e2 l2 G2 => ?_⟩
    dsimp only at G2
    have Lv2 := Lv1.ext x2
    obtain ⟨dx2, z2, hp2, _⟩ := id Lv2
    refine ⟨_, rfl, p, dx2, _, rfl, hp2, nL_holes, _, rfl, ⟨p, n, L, true, by'⟩, rfl, Lv2, g, T2, fun H3 qH asH gsH x3 T3 e3 l3 G3 => ?_⟩
    dsimp only at G3 l3
    have Lv3 := Lv2.ext x3
    have e23 := ext_lst x3 e2
    have l23 := LLs.ext l2 x3
    have hl2 := g.len
    have hgP := G2.toGrpI.len
    have hgH := G3.toGrpI.len
    have hfl := List.length_filter_le (fun g => !edgeB n L g) gsH
    have hfm : ∀ g' ∈ gsH.filter (fun g => !edgeB n L g), g' ∈ gsH := fun g' h => (List.mem_filter.mp h).1
    have djH : DjG (gsH.filter fun g => !edgeB n L g) := GrpI.djg (n := n) (L := L) (t := false) (by' := !by') (List.Pairwise.filter _ G3.dj)
    have djP : DjG gsP := GrpI.djg (n := n) (L := L) (t := true) (by' := by') G2.dj
    have ltP : ∀ g' ∈ gsP, ∀ o ∈ g', o < L.length := fun g' hg o ho => by
      obtain ⟨x, hx, _⟩ := G2.mem g' hg o ho
      exact get_lt hx
    have ltH : ∀ g' ∈ gsH, ∀ o ∈ g', o < L.length := fun g' hg o ho => by
      obtain ⟨x, hx, _⟩ := G3.mem g' hg o ho
      exact get_lt hx
    have szP : ∀ g' ∈ gsP, g'.length ≤ 2000 := fun g' hg => by have := nodup_lt (G2.nd g' hg) (ltP g' hg); omega
    have szH : ∀ g' ∈ gsH, g'.length ≤ 2000 := fun g' hg => by have := nodup_lt (G3.nd g' hg) (ltH g' hg); omega
    have neH : ∀ g' ∈ gsH.filter (fun g => !edgeB n L g), g' ≠ [] := fun g' hg => G3.ne g' (hfm g' hg)
    generalize hgs : gsH.filter (fun g => !edgeB n L g) = hs at *
    refine ⟨_, rfl, ⟨qH, asH, hs⟩, rfl, e3, l3, by show hs.length ≤ 2000; omega, (fun g' hg => szH g' (hfm g' hg)), djH, fun H4 dH kH s4 e4 KH => ?_⟩
    dsimp only at KH
    refine ⟨_, rfl, ⟨qP, asP, gsP⟩, rfl, s4 _ _ e23, pr_imp l23 fun a os _ _ e => s4 _ _ e, by show gsP.length ≤ 2000; omega, szP, djP, fun H5 dP kP s5 e5 KP => ?_⟩
    dsimp only at KP
    have s35 := s4.trans s5
    have Lv5 := Lv3.same s35
    have eP5 := s35 _ _ e23
    have eH5 := s35 _ _ e3
    have lP5 : LLs H5 asP gsP := pr_imp l23 fun a os _ _ e => s35 _ _ e
    have lH5 : LLs H5 asH hs := pr_imp l3 fun a os _ _ e => s35 _ _ e
    have lagP : asP.length = gsP.length := pr_len lP5
    have lagH : asH.length = hs.length := pr_len lH5
    have dH5 := s5 _ _ e4
    -- above
    refine ⟨_, rfl, qP, rfl, ⟨_, lstOf eP5⟩, fun D hD => ?_⟩
    refine lc_map (walk_list (xs := asP.map V.ref)) (fun i y _ => ∃ g', gsP[i]? = some g' ∧ OwnL n L g' kH y) hD (fun H' s => lstOf (s _ _ eP5)) (szL (by rw [List.length_map]; omega)) (fun _ _ _ _ e _ _ => e) ?_ gName_mono ?_
    · rintro i y H6 H' hi s6 _ ⟨rfl, hy⟩ Q' qq
      rw [List.length_map] at hi
      rw [List.getElem?_map, List.getElem?_eq_getElem hi] at hy
      obtain rfl : V.ref asP[i] = y := Option.some.inj hy
      obtain ⟨os, ho, hos⟩ := pr_get lP5 (List.getElem?_eq_getElem hi)
      have hog := List.mem_of_getElem? ho
      exact ⟨rfl, _, rfl, _, rfl, _, rfl, ⟨p, asP[i], dH, n, L, os, kH⟩, rfl, Lv5.same s6, g, s6 _ _ hos, G2.ne os hog, szP os hog, ltP os hog, s6 _ _ dH5, fun H7 v s7 hv => qq v _ s7 ⟨os, ho, hv⟩⟩
    · intro va H6 s6 hva pva
      rw [List.length_map, lagP] at pva
      have pva2 : Paired (fun g' v => OwnL n L g' kH v) gsP va := pr_swap (pr_imp (pr_join pva (all_pr gsP)) fun v g' _ _ ⟨i, ⟨g'', e1, e2⟩, e3⟩ => by
        rw [e1] at e3
        cases e3
        exact e2)
      have eH6 := s6 _ _ eH5
      have lH6 : LLs H6 asH hs := pr_imp lH5 fun a os _ _ e => s6 _ _ e
      have dP6 := s6 _ _ e5
      have Lv6 := Lv5.same s6
      refine ⟨_, rfl, _, rfl, qH, rfl, ⟨_, lstOf eH6⟩, fun D2 hD2 => ?_⟩
      refine lc_map (walk_list (xs := asH.map V.ref)) (fun i y _ => ∃ g', hs[i]? = some g' ∧ OwnL n L g' kP y) hD2 (fun H' s => lstOf (s _ _ eH6)) (szL (by rw [List.length_map]; omega)) (fun _ _ _ _ e _ _ => e) ?_ gName_mono ?_
      · rintro i y H7 H' hi s7 _ ⟨rfl, hy⟩ Q' qq
        rw [List.length_map] at hi
        rw [List.getElem?_map, List.getElem?_eq_getElem hi] at hy
        obtain rfl : V.ref asH[i] = y := Option.some.inj hy
        obtain ⟨os, ho, hos⟩ := pr_get lH6 (List.getElem?_eq_getElem hi)
        have hog := List.mem_of_getElem? ho
        exact ⟨rfl, _, rfl, _, rfl, _, rfl, ⟨p, asH[i], dP, n, L, os, kP⟩, rfl, Lv6.same s7, g, s7 _ _ hos, neH os hog, szH os (hfm os hog), ltH os (hfm os hog), s7 _ _ dP6, fun H8 v s8 hv => qq v _ s8 ⟨os, ho, hv⟩⟩
      · intro vb H7 s7 hvb pvb
        rw [List.length_map, lagH] at pvb
        have pvb2 : Paired (fun g' v => OwnL n L g' kP v) hs vb := pr_swap (pr_imp (pr_join pvb (all_pr hs)) fun v g' _ _ ⟨i, ⟨g'', e1, e2⟩, e3⟩ => by
          rw [e1] at e3
          cases e3
          exact e2)
        refine ⟨szl (by show 2 ≤ 1000000; decide), fun r hr => ?_⟩
        have s8 := sNew s7 hr (o := .tup [.ref D, .ref D2])
        have sx : ExtN H3 (upd H7 r (.tup [.ref D, .ref D2])) := ExtN.of (s35.trans (s6.trans s8))
        subst hgs
        exact k _ r D D2 va vb gsP gsH kH kP ((ExtN.of s1).trans (x2.trans (x3.trans sx))) (T3.ext (s35.trans (s6.trans s8))) upd_same (s8 _ _ hva) (same_new hr _ _ hvb) G2 G3 KH KP pva2 pvb2
end
end Qf
namespace Qf
open PySem PySem.Spec PyProof.Rows L2 LamX
def pV (p : Nat → Option Nat) (o : Nat) : V := match p o with | some q => .int (q : Int) | none => .non
theorem pV_some {p : Nat → Option Nat} {o q : Nat} (h : p o = some q) : pV p o = .int (q : Int) := by unfold pV; rw [h]
theorem pV_none {p : Nat → Option Nat} {o : Nat} (h : p o = none) : pV p o = .non := by unfold pV; rw [h]
theorem kvsN_put (p : Nat → Option Nat) (S : List Nat) (x here : Nat) (h : x ∉ S) : putK (kvsN (pV p) S) (Sum.inl (x : Int)) (.int (here : Int)) = kvsN (pV fun o => if o = x then some here else p o) (S ++ [x]) := by
  rw [putK_new _ (by rw [valV_N, if_neg h])]
  unfold kvsN
  rw [List.map_append]
  congr 1
  · refine List.map_congr_left fun o ho => ?_
    have hne : o ≠ x := fun z => h (by rw [← z]; exact ho)
    have e : (if o = x then some here else p o) = p o := if_neg hne
    show _ = (Sum.inl (o : Int), pV (fun o => if o = x then some here else p o) o)
    unfold pV
    dsimp only
    rw [e]
  · have e : (if x = x then some here else p x) = some here := if_pos rfl
    show [_] = [(Sum.inl (x : Int), pV (fun o => if o = x then some here else p o) x)]
    rw [pV_some e]
structure StA where
  q : Addr
  first : Nat
  as : List Addr
  oss : List (List Nat)
def spSteps : Sp := mkSp (fun a : StA => [.ref a.q, .int (a.first : Int)]) fun a H Q => H a.q = some (.lst (a.as.map V.ref)) ∧ LLs H a.as a.oss ∧ a.oss.length ≤ 2000 ∧ (∀ os ∈ a.oss, os.length ≤ 900000) ∧ (∀ j o, Mm a.oss j o → o < a.oss.length) ∧ a.first < a.oss.length ∧
  ∀ H' d S D p, Same H H' → H' d = some (.dK (kvsN (pV p) S)) → Bfs a.oss a.first S D p → Q (.ref d) H'
section
variable {P : Program} {w : World} {K : PySem.W.Frag} {mg : Str → Option Value} {base : Heap}
theorem ok_steps_from (B : Bl mg) (D : Dfn K mg "steps_from" s_steps_from)  : Cal P w K mg base 1 "steps_from" spSteps := by
  refine cal_of D sc_steps_from (fun _ _ _ _ _ _ us hl => match us, hl with | [_, _], _ => rfl) (fun vs H Q E h => ?_) (fun f cdv A outer s H vs Q E hr h => ?_)
  · obtain ⟨a, rfl, _⟩ := h
    rfl
  · have nd := sc_steps_from.nd
    have hu := hu_of hr
    have hu65 := hu65_of hr
    obtain ⟨⟨q, first, as, oss⟩, rfl, hq, hL, hN, hB, hlt, hf, k⟩ := h
    dsimp only at hq hL hN hB hlt hf k
    refine ⟨_, (pss_cons (ps_set (i := 2) nd rfl (by first | exact Or.inl rfl | exact Or.inr rfl) (pe_disp (pps_cons (pv 1) pe_non pps_nil) (by rfl) (by rfl) (fun z => by cases z) (by decide)))
      (pss_cons (ps_set (i := 3) nd rfl (by first | exact Or.inl rfl | exact Or.inr rfl) (pe_lst (pa_cons (pv 1) pa_nil)))
      (pss_cons (ps_while PassesOwn.never (pt_cmpR (op_neD hr.units) (pv 3) (pe_lst pa_nil) (nomark _)) (pss_cons (ps_set (i := 4) nd rfl (by first | exact Or.inl rfl | exact Or.inr rfl) (pe_lst pa_nil))
      (pss_cons (ps_for PassesOwn.never rfl (pi_list (pv 3)) (pg_name (i := 5) nd rfl (by first | exact Or.inl rfl | exact Or.inr rfl))
      (pss_one (ps_for PassesOwn.never rfl (pi_list (pe_ix ix_list (pv 0) (pv 5) (fun _ _ => rfl))) (pg_name (i := 6) nd rfl (by first | exact Or.inl rfl | exact Or.inr rfl))
      (pss_one (ps_if (pt_cmp (pc_dnotin hu (pv 6) (pv 2))) (pss_cons (ps_dput hu (pv 2) (pv 6) (pv 5) rfl)
      (pss_one (ps_expr (pe_bm PySem.F.plainAttrs_list PySem.F.slot_list_append PySem.F.type_list_append mt_append (pv 4) (pa_cons (pv 6) pa_nil))))) pss_nil)))))
      (pss_one (ps_set (i := 3) nd rfl (by first | exact Or.inl rfl | exact Or.inr rfl) (pv 4))))))
      (pss_one (ps_ret (pv 2)))))), ?_⟩
    have hla : as.length = oss.length := pr_len hL
    intro d hd
    refine ⟨_, rfl, ?_⟩
    refine ⟨upd_same, [(Sum.inl (first : Int), V.non)], rfl, (by show 1 ≤ 15; decide), ?_⟩
    have ek : mergeK [] [((Sum.inl (first : Int) : Key), V.non)] = kvsN (pV fun _ => none) [first] := rfl
    rw [ek, upd_upd]
    have s1 : Same H (upd H d (.dK (kvsN (pV fun _ => none) [first]))) := same_new hd
    have d1 : (upd H d (.dK (kvsN (pV fun _ => none) [first]))) d = some (.dK (kvsN (pV fun _ => none) [first])) := upd_same
    generalize upd H d (.dK (kvsN (pV fun _ => none) [first])) = H1 at *
    refine ⟨_, rfl, szl (by show 1 ≤ 1000000; decide), fun fl hfl => ?_⟩
    have s2 := sNew s1 hfl (o := .lst [.int (first : Int)])
    have d2 := same_new hfl (o := .lst [.int (first : Int)]) _ _ d1
    have f2 : (upd H1 fl (.lst [.int (first : Int)])) fl = some (.lst (iV [first])) := upd_same
    show Ends.nx _ _ (upd H1 fl (.lst [.int (first : Int)]))
    generalize upd H1 fl (.lst [.int (first : Int)]) = H2 at *
    refine ⟨fun m σ H3 => ∃ (fl : Addr) (a4 a5 a6 : Option V) (dd : Nat) (S : List Nat) (D : Nat → Nat) (p : Nat → Option Nat) (fr : List Nat), m = 2 * (oss.length - S.length) + (if fr = [] then 0 else 1) ∧ σ = [some (.ref q), some (.int (first : Int)), some (.ref d), some (.ref fl), a4, a5, a6] ∧
      Same H H3 ∧ H3 d = some (.dK (kvsN (pV p) S)) ∧ H3 fl = some (.lst (iV fr)) ∧ BfO oss first dd S D p fr,
      ⟨_, fl, none, none, none, 0, [first], fun _ => 0, fun _ => none, [first], rfl, rfl, s2, d2, f2, ?_⟩, ?_⟩
    · exact ⟨by simp, fun o ho => by rw [List.mem_singleton] at ho; subst ho; exact hf, ⟨by simp, rfl, rfl⟩, fun o ho hne => absurd (List.mem_singleton.mp ho) hne, fun o ho h => absurd h (Nat.lt_irrefl 0), fun o ho => Nat.le_refl _, fun o => by simp⟩
    clear f2 d2 s2
    rintro m σ H3 ⟨fl, a4, a5, a6, dd, S, D, p, fr, rfl, rfl, s3, d3, f3, BO⟩
    have hSl : S.length ≤ oss.length := nodup_lt BO.nd BO.lt
    refine ⟨_, rfl, szl (by show 0 ≤ 1000000; decide), fun el hel => ?_⟩
    have s4 := same_new hel (o := .lst [])
    refine ⟨.list (fr.map fun (k : Nat) => PyData.int (k : Int)), .list [], .lst (lstOf (s4 _ _ f3)) (dp_ints fr), .lst (lstOf upd_same) .nil, ints_shaped fr, shaped_nil, _, rfl, ?_⟩
    rw [eqv_nil]
    have f4 := s4 _ _ f3
    have d4 := s4 _ _ d3
    have s04 := s3.trans s4
    generalize upd H3 el (.lst []) = H4 at *
    by_cases hfr : fr = []
    · subst hfr
      refine iteF ?_
      exact ⟨_, rfl, k H4 d S D p s04 d4 BO.done⟩
    · rw [show (fr.map fun (k : Nat) => PyData.int (k : Int)).isEmpty = false by cases fr with | nil => exact absurd rfl hfr | cons a r => rfl]
      refine iteT ?_
      refine ⟨_, fun σ' H' hN => hN, ?_⟩
      -- more = []
      refine ⟨szl (by show 0 ≤ 1000000; decide), fun ml hml => ?_⟩
      have hml0 : H ml = none := s04.free hml
      have nmf : ml ≠ fl := fun z => by rw [z, f4] at hml; cases hml
      have nmd : ml ≠ d := fun z => by rw [z, d4] at hml; cases hml
      have nfd : fl ≠ d := ne_of f4 d4 (by intro z; cases z)
      have s5 := sNew s04 hml (o := .lst [])
      have f5 := same_new hml (o := .lst []) _ _ f4
      have d5 := same_new hml (o := .lst []) _ _ d4
      have m5 : (upd H4 ml (.lst [])) ml = some (.lst (iV [])) := upd_same
      show Ends.nx _ _ (upd H4 ml (.lst []))
      generalize upd H4 ml (.lst []) = H5 at *
      have BI0 := BO.start
      refine ⟨_, rfl, fl, rfl, ⟨_, lstOf f5⟩, for_it (walk_list (xs := iV fr)) (fun a σ H6 => ∃ (a5 a6 : Option V) (S' : List Nat) (D : Nat → Nat) (p : Nat → Option Nat) (more : List Nat), σ = [some (.ref q), some (.int (first : Int)), some (.ref d), some (.ref fl), some (.ref ml), a5, a6] ∧
        Same H H6 ∧ H6 d = some (.dK (kvsN (pV p) S')) ∧ H6 fl = some (.lst (iV fr)) ∧ H6 ml = some (.lst (iV more)) ∧ BfI oss first dd S.length fr (fr.take a) S' D p more)
        ⟨_, _, S, D, p, [], rfl, s5, d5, f5, m5, by rw [List.take_zero]; exact BI0⟩ (fun a σ H6 _ h => by
          obtain ⟨_, _, _, _, _, _, _, _, _, h, _⟩ := h
          exact lstOf h) ?_ ?_⟩
      · rintro a x σ H6 H' ha ⟨a5, a6, S', D', p', more, rfl, s6, d6, f6, m6, BI⟩ ⟨rfl, hx⟩
        obtain ⟨here, hh, rfl⟩ := iV_get hx
        have hhf : here ∈ fr := List.mem_of_getElem? hh
        have hhS := (BI.fq here).mp hhf
        have hhl := BI.lt here hhS.1
        have ai : as[here]? = some (as[here]'(by omega)) := List.getElem?_eq_getElem _
        obtain ⟨os, ho, hos⟩ := pr_get hL ai
        have hosl := hB os (List.mem_of_getElem? ho)
        have etk : fr.take (a + 1) = fr.take a ++ [here] := by rw [List.take_add_one, hh]; rfl
        refine ⟨_, rfl, _, rfl, q, _, _, .ref (as[here]'(by omega)), rfl, rfl, lstOf (s6 _ _ hq), atI_nat (by rw [List.getElem?_map, ai]; rfl), _, rfl, ⟨_, lstOf (s6 _ _ hos)⟩, ?_⟩
        refine for_it (walk_list (xs := iV os)) (fun e σ H7 => ∃ (a6 : Option V) (S' : List Nat) (D : Nat → Nat) (p : Nat → Option Nat) (more : List Nat), σ = [some (.ref q), some (.int (first : Int)), some (.ref d), some (.ref fl), some (.ref ml), some (.int (here : Int)), a6] ∧
          Same H H7 ∧ H7 d = some (.dK (kvsN (pV p) S')) ∧ H7 fl = some (.lst (iV fr)) ∧ H7 ml = some (.lst (iV more)) ∧ BfI oss first dd S.length fr (fr.take a) S' D p more ∧ ∀ o ∈ os.take e, o ∈ S')
          ⟨_, S', D', p', more, rfl, s6, d6, f6, m6, BI, fun o h => by rw [List.take_zero] at h; cases h⟩ (fun e σ H7 _ h => by
            obtain ⟨_, _, _, _, _, _, s, _⟩ := h
            exact lstOf (s _ _ hos)) ?_ ?_
        · rintro e x σ H7 H' he ⟨a6, S', D', p', more, rfl, s7, d7, f7, m7, BI, tk7⟩ ⟨rfl, hx⟩
          obtain ⟨o, ho2, rfl⟩ := iV_get hx
          have hm : Mm oss here o := ⟨os, ho, List.mem_of_getElem? ho2⟩
          have hol := hlt here o hm
          have etk2 : os.take (e + 1) = os.take e ++ [o] := by rw [List.take_add_one, ho2]; rfl
          have gt := DGet.k (k := Sum.inl (o : Int)) d7
          refine ⟨_, rfl, _, rfl, d, _, rfl, gt, _, rfl, ?_⟩
          rw [valV_N]
          by_cases hin : o ∈ S'
          · rw [if_pos hin]
            refine iteF ?_
            refine ⟨_, S', D', p', more, rfl, s7, d7, f7, m7, BI, fun o' h => ?_⟩
            rw [etk2] at h
            rcases List.mem_append.mp h with h | h
            · exact tk7 o' h
            · rw [List.mem_singleton.mp h]; exact hin
          · rw [if_neg hin]
            refine iteT ?_
            have BI2 := BI.add hhf hm hin hol
            have hSl' := nodup_lt BI.nd BI.lt
            have hln := BI.ln
            refine ⟨_, rfl, _, rfl, _, rfl, d, _, rfl, DPut.k (k := Sum.inl (o : Int)) d7 (szL (by rw [kvsN_len]; omega)), ?_⟩
            rw [kvsN_put _ _ _ _ hin]
            have d8 : (upd H' d (.dK (kvsN (pV fun o' => if o' = o then some here else p' o') (S' ++ [o])))) d = some (.dK (kvsN (pV fun o' => if o' = o then some here else p' o') (S' ++ [o]))) := upd_same
            have f8 : (upd H' d (.dK (kvsN (pV fun o' => if o' = o then some here else p' o') (S' ++ [o])))) fl = some (.lst (iV fr)) := by rw [upd_ne nfd]; exact f7
            have m8 : (upd H' d (.dK (kvsN (pV fun o' => if o' = o then some here else p' o') (S' ++ [o])))) ml = some (.lst (iV more)) := by rw [upd_ne nmd]; exact m7
            have s8 : Same H (upd H' d (.dK (kvsN (pV fun o' => if o' = o then some here else p' o') (S' ++ [o])))) := same_upd s7 hd
            generalize upd H' d (.dK (kvsN (pV fun o' => if o' = o then some here else p' o') (S' ++ [o]))) = H8 at *
            refine ⟨_, rfl, .inl ⟨rfl, _, .inl (.inl m8)⟩, _, rfl, ml, _, _, rfl, rfl, m8, szL (by rw [iV_len]; omega), ?_⟩
            rw [← iV_snoc]
            refine ⟨_, S' ++ [o], _, _, more ++ [o], rfl, same_upd s8 hml0, ?_, ?_, upd_same, BI2, fun o' h => ?_⟩
            · rw [upd_ne (Ne.symm nmd)]; exact d8
            · rw [upd_ne (Ne.symm nmf)]; exact f8
            · rw [etk2] at h
              rcases List.mem_append.mp h with h | h
              · exact List.mem_append_left _ (tk7 o' h)
              · exact List.mem_append_right _ h
        · rintro σ H7 ⟨a6, S', D', p', more, rfl, s7, d7, f7, m7, BI, tk7⟩
          rw [iV_len, List.take_length] at tk7
          refine ⟨_, _, S', D', p', more, rfl, s7, d7, f7, m7, ?_⟩
          rw [etk]
          exact BI.skip hhf ho tk7
      · rintro σ H6 ⟨a5, a6, S', D', p', more, rfl, s6, d6, f6, m6, BI⟩
        rw [iV_len, List.take_length] at BI
        have hSl' := nodup_lt BI.nd BI.lt
        have hln := BI.ln
        refine ⟨_, rfl, 2 * (oss.length - S'.length) + (if more = [] then 0 else 1), ?_, ml, _, _, _, dd + 1, S', D', p', more, rfl, rfl, s6, d6, m6, BI.stop⟩
        rw [if_neg hfr]
        by_cases hmo : more = []
        · rw [if_pos hmo]
          rw [hmo, List.length_nil] at hln
          omega
        · rw [if_neg hmo]
          have : 0 < more.length := List.length_pos_iff.mpr hmo
          omega
end
end Qf
namespace Qf
open PySem PySem.Spec PyProof.Rows L2 LamX
def adOf (L : List Lf) (o : Nat) : List Nat := ((L[o]?).map Lf.ad).getD []
theorem adOf_eq {L : List Lf} {o : Nat} {x : Lf} (h : L[o]? = some x) : adOf L o = x.ad := by unfold adOf; rw [h]; rfl
theorem adOf_inj {n : Nat} {L : List Lf} (g : Good n L) {o o' : Nat} (h : o < L.length) (h' : o' < L.length) (e : adOf L o = adOf L o') : o = o' := by
  have h1 : L[o]? = some L[o] := List.getElem?_eq_getElem h
  have h2 : L[o']? = some L[o'] := List.getElem?_eq_getElem h'
  rw [adOf_eq h1, adOf_eq h2] at e
  have b1 := g.box _ (List.getElem_mem h)
  have b2 := g.box _ (List.getElem_mem h')
  rw [e, b2] at b1
  injection b1 with r1 b1
  injection b1 with r2 _
  exact g.box_inj h1 h2 r1.symm r2.symm
theorem nodup_map_on {α β : Type} {f : α → β} : ∀ {l : List α}, l.Nodup → (∀ x ∈ l, ∀ y ∈ l, f x = f y → x = y) → (l.map f).Nodup
  | [], _, _ => List.nodup_nil
  | a :: l, nd, h => by
    obtain ⟨h1, h2⟩ := List.nodup_cons.mp nd
    rw [List.map_cons, List.nodup_cons]
    refine ⟨fun z => ?_, nodup_map_on h2 fun x hx y hy => h x (List.mem_cons_of_mem _ hx) y (List.mem_cons_of_mem _ hy)⟩
    obtain ⟨y, hy, e⟩ := List.mem_map.mp z
    have := h y (List.mem_cons_of_mem _ hy) a List.mem_cons_self e
    rw [this] at hy
    exact h1 hy
def zV (L : List Lf) (vs : List Nat) : List V := vs.map fun o => V.str (adS (adOf L o))
structure ChA where
  tp : Addr
  n : Nat
  t : Qt
  by' : Bool
  c1 : Addr
  c2 : Addr
  i1 : Nat
  j1 : Nat
  i2 : Nat
  j2 : Nat
  o1 : Nat
  o2 : Nat
def spChain : Sp := mkSp (fun a : ChA => [.ref a.tp, .str (if a.by' then "corners" else "sides"), .ref a.c1, .ref a.c2]) fun a H Q => ShapeAt H a.tp a.n a.t ∧ Fit a.n a.t ∧ a.t.lvs ≤ 2000 ∧
  H a.c1 = some (.tup [.int (a.i1 : Nat), .int (a.j1 : Nat)]) ∧ H a.c2 = some (.tup [.int (a.i2 : Nat), .int (a.j2 : Nat)]) ∧ a.i1 < 2 ^ a.n ∧ a.j1 < 2 ^ a.n ∧ a.i2 < 2 ^ a.n ∧ a.j2 < 2 ^ a.n ∧
  (∃ y, (leafs a.n a.t)[a.o1]? = some y ∧ y.has a.i1 a.j1 ∧ y.b = true) ∧ (∃ y, (leafs a.n a.t)[a.o2]? = some y ∧ y.has a.i2 a.j2 ∧ y.b = true) ∧ Rch (Lk a.n (leafs a.n a.t) true a.by') a.o1 a.o2 ∧
  ∀ H' q (zs : List (List Nat)) k, Same H H' → H' q = some (.lst (zs.map fun z => V.str (adS z))) → zs.Nodup → zs.length = k + 1 → (∀ z ∈ zs, Figs z ∧ z.length ≤ 6) → k ≤ 2000 → PathN (Lk a.n (leafs a.n a.t) true a.by') a.o1 k a.o2 → (∀ m, PathN (Lk a.n (leafs a.n a.t) true a.by') a.o1 m a.o2 → k ≤ m) → Q (.ref q) H'
section
variable {P : Program} {w : World} {K : PySem.W.Frag} {mg : Str → Option Value} {base : Heap}
theorem ok_chain (B : Bl mg) (D : Dfn K mg "chain" s_chain) {CLeaves : Addr} (T : LT K CLeaves) (c_leaves_for : Cal P w K mg base 16 "leaves_for" (spLeavesFor CLeaves)) (c_want_cell_of : Cal P w K mg base 4 "want_cell_of" spWantCellOf) (c_full_leaf : Cal P w K mg base 2 "full_leaf" (spFullLeaf CLeaves)) (c_Leaves_links : Met P w K mg base 3 CLeaves "links" (spLinks CLeaves)) (c_steps_from : Cal P w K mg base 1 "steps_from" spSteps) : Cal P w K mg base 17 "chain" spChain := by
  refine cal_of D sc_chain (fun _ _ _ _ _ _ us hl => match us, hl with | [_, _, _, _], _ => rfl) (fun vs H Q E h => ?_) (fun f cdv A outer s H vs Q E hr h => ?_)
  · obtain ⟨a, rfl, _⟩ := h
    rfl
  · have nd := sc_chain.nd
    have hu := hu_of hr
    have hu65 := hu65_of hr
    obtain ⟨⟨tp, n, t, by', c1, c2, i1, j1, i2, j2, o1, o2⟩, rfl, Sh, F, hlv, hc1, hc2, hi1, hj1, hi2, hj2, ⟨y1, hy1, hh1, hb1⟩, ⟨y2, hy2, hh2, hb2⟩, hR, k⟩ := h
    dsimp only at Sh F hlv hc1 hc2 hi1 hj1 hi2 hj2 hy1 hh1 hb1 hy2 hh2 hb2 hR k
    refine ⟨_, (pss_cons (ps_set (i := 4) nd rfl (by first | exact Or.inl rfl | exact Or.inr rfl) (pe_c c_leaves_for hr (by omega) rfl (pa_cons (pv 0) (pa_cons (pv 1) pa_nil))))
      (pss_cons (ps_for PassesOwn.never rfl (pi_tup (pe_tup (pa_cons (pv 2) (pa_cons (pv 3) pa_nil)))) (pg_name (i := 5) nd rfl (by first | exact Or.inl rfl | exact Or.inr rfl))
      (pss_one (ps_expr (pe_c c_want_cell_of hr (by omega) rfl (pa_cons (pe_ix ix_tup (pv 0) pe_int (fun _ _ => rfl)) (pa_cons (pv 5) pa_nil))))))
      (pss_cons (ps_set (i := 6) nd rfl (by first | exact Or.inl rfl | exact Or.inr rfl) (pe_c c_full_leaf hr (by omega) rfl (pa_cons (pv 4) (pa_cons (pv 2) pa_nil))))
      (pss_cons (ps_set (i := 7) nd rfl (by first | exact Or.inl rfl | exact Or.inr rfl) (pe_c c_full_leaf hr (by omega) rfl (pa_cons (pv 4) (pa_cons (pv 3) pa_nil))))
      (pss_cons (ps_set (i := 8) nd rfl (by first | exact Or.inl rfl | exact Or.inr rfl) (pe_c c_steps_from hr (by omega) rfl (pa_cons (pe_mt c_Leaves_links hr (by omega) (pv 4) (pa_cons pe_bl (pa_cons (pv 1) pa_nil))) (pa_cons (pv 6) pa_nil))))
      (pss_cons (ps_if (pt_cmp (pc_dnotin hu (pv 7) (pv 8))) (pss_one (ps_ret pe_non)) pss_nil)
      (pss_cons (ps_set (i := 9) nd rfl (by first | exact Or.inl rfl | exact Or.inr rfl) (pe_lst pa_nil))
      (pss_cons (ps_set (i := 10) nd rfl (by first | exact Or.inl rfl | exact Or.inr rfl) (pv 7))
      (pss_cons (ps_while PassesOwn.never (pt_cmpR op_notN (pv 10) pe_non (nomark _)) (pss_cons (ps_expr (pe_bm PySem.F.plainAttrs_list PySem.F.slot_list_append PySem.F.type_list_append mt_append (pv 9) (pa_cons (pe_ix ix_list (pe_fld (pv 4) rfl) (pv 10) (fun _ _ => rfl)) pa_nil)))
      (pss_one (ps_set (i := 10) nd rfl (by first | exact Or.inl rfl | exact Or.inr rfl) (pe_dget hu (pv 8) (pv 10) (fun _ _ => rfl))))))
      (pss_one (ps_ret (pe_listRev rfl rfl B.list rfl B.reversed (pv 9))))))))))))), ?_⟩
    have g := good_leafs F.n6 F.ht hlv
    have hl2 := g.len
    have hn6 := F.n6
    refine ⟨_, rfl, _, rfl, ⟨tp, n, t, by'⟩, rfl, Sh, F, hlv, fun H1 p s1 Lv1 => ?_⟩
    dsimp only at Lv1
    obtain ⟨q0, hq0, _⟩ := Sh.same s1
    generalize leafs n t = L at *
    obtain ⟨dx, z, hp, hL⟩ := id Lv1
    have hc11 := s1 _ _ hc1
    have hc21 := s1 _ _ hc2
    -- for one in (cell, other_cell)
    refine ⟨_, rfl, _, rfl, szl (by show 2 ≤ 1000000; decide), fun tq htq => ?_⟩
    have s2 := same_new htq (o := .tup [.ref c1, .ref c2])
    have t2 : (upd H1 tq (.tup [.ref c1, .ref c2])) tq = some (.tup [.ref c1, .ref c2]) := upd_same
    generalize upd H1 tq (.tup [.ref c1, .ref c2]) = H2 at *
    refine ⟨tq, rfl, ⟨_, tupOf t2⟩, for_it (walk_tup (xs := [V.ref c1, V.ref c2])) (fun i σ H3 => ∃ a5, σ = [some (.ref tp), some (.str (if by' then "corners" else "sides")), some (.ref c1), some (.ref c2), some (.ref p), a5, none, none, none, none, none] ∧ H3 = H2)
      ⟨none, rfl, rfl⟩ (fun i σ H3 _ h => by obtain ⟨_, _, rfl⟩ := h; exact tupOf t2) ?_ ?_⟩
    · rintro i x σ H3 H' hi ⟨a5, rfl, rfl⟩ ⟨rfl, hx⟩
      have go : ∃ c i' j', x = .ref c ∧ H' c = some (.tup [.int (i' : Nat), .int (j' : Nat)]) ∧ i' < 2 ^ n ∧ j' < 2 ^ n := by
        match i, hx with
        | 0, hx => exact ⟨c1, i1, j1, (Option.some.inj hx).symm, s2 _ _ hc11, hi1, hj1⟩
        | 1, hx => exact ⟨c2, i2, j2, (Option.some.inj hx).symm, s2 _ _ hc21, hi2, hj2⟩
      obtain ⟨c, i', j', rfl, hc, hi', hj'⟩ := go
      exact ⟨_, rfl, tp, _, _, _, rfl, rfl, tupOf (s2 _ _ hq0), rfl, _, rfl, ⟨n, c, i', j'⟩, rfl, hc, hn6, hi', hj', ⟨_, rfl, rfl⟩⟩
    · rintro σ H3 ⟨a5, rfl, rfl⟩
      have Lv2 := Lv1.same s2
      refine ⟨_, rfl, _, rfl, ⟨p, c1, n, L, i1, j1⟩, rfl, Lv2, g, s2 _ _ hc11, o1, y1, hy1, hh1, hb1, fun H4 s4 => ?_⟩
      have Lv4 := Lv2.same s4
      refine ⟨_, rfl, _, rfl, ⟨p, c2, n, L, i2, j2⟩, rfl, Lv4, g, s4 _ _ (s2 _ _ hc21), o2, y2, hy2, hh2, hb2, fun H5 s5 => ?_⟩
      have Lv5 := Lv4.same s5
      have s05 := s1.trans (s2.trans (s4.trans s5))
      have s15 := s2.trans (s4.trans s5)
      refine ⟨_, rfl, p, dx, _, rfl, s15 _ _ hp, nL_links, _, rfl, ⟨p, n, L, true, by'⟩, rfl, Lv5, g, fun H6 q1 as oss s6 e6 l6 ol ob om => ?_⟩
      dsimp only at ol om
      have hmm : ∀ a b, Mm oss a b → Lk n L true by' a b := fun a b => (om a b).mp
      refine ⟨_, rfl, ⟨q1, o1, as, oss⟩, rfl, e6, l6, by show oss.length ≤ 2000; omega, ob, (fun j o h => by
        obtain ⟨_, y, _, h2, _⟩ := (om j o).mp h
        have := get_lt h2
        show o < oss.length
        omega), by have := get_lt hy1; show o1 < oss.length; omega, fun H7 d S D pp s7 d7 B7 => ?_⟩
      dsimp only at B7
      obtain ⟨k0, hpath0⟩ := PathN.of_rch hR
      have hin2 : o2 ∈ S := (B7.le (hpath0.imp fun a b => (om a b).mpr)).1
      have s07 := s05.trans (s6.trans s7)
      have s17 := s15.trans (s6.trans s7)
      have gt7 := DGet.k (k := Sum.inl (o2 : Int)) d7
      refine ⟨_, rfl, _, rfl, d, _, rfl, gt7, _, rfl, ?_⟩
      rw [valV_N, if_pos hin2]
      refine iteF ?_
      refine ⟨szl (by show 0 ≤ 1000000; decide), fun fl hfl => ?_⟩
      have s8 := same_new hfl (o := .lst [])
      have f8 : (upd H7 fl (.lst [])) fl = some (.lst (zV L [])) := upd_same
      have d8 := s8 _ _ d7
      have nfd : fl ≠ d := ne_of f8 d8 (by intro z; cases z)
      have hfl1 : H1 fl = none := s17.free hfl
      have hfl0 : H fl = none := s07.free hfl
      have s18 := s17.trans s8
      have s08 := s07.trans s8
      show Ends.nx _ _ (upd H7 fl (.lst []))
      generalize upd H7 fl (.lst []) = H8 at *
      have hSl := nodup_lt B7.nd B7.lt
      refine ⟨_, rfl, ?_⟩
      refine ⟨fun m σ H9 => ∃ (vs : List Nat) (r : Option Nat), m = (match r with | some o => D o + 1 | none => 0) ∧ σ = [some (.ref tp), some (.str (if by' then "corners" else "sides")), some (.ref c1), some (.ref c2), some (.ref p), a5, some (.int (o1 : Nat)), some (.int (o2 : Nat)), some (.ref d), some (.ref fl), some (match r with | some o => V.int (o : Int) | none => V.non)] ∧
        Same H1 H9 ∧ Same H H9 ∧ H9 d = some (.dK (kvsN (pV pp) S)) ∧ H9 fl = some (.lst (zV L vs)) ∧ vs.Nodup ∧ (∀ v ∈ vs, v < oss.length) ∧ (match r with | some o => o ∈ S ∧ vs.length + D o = D o2 ∧ ∀ v ∈ vs, D o < D v | none => vs.length = D o2 + 1),
        ⟨_, [], some o2, rfl, rfl, s18, s08, d8, f8, List.nodup_nil, (fun v h => by cases h), hin2, Nat.zero_add _, fun v h => by cases h⟩, ?_⟩
      rintro m σ H9 ⟨vs, r, rfl, rfl, s19, s09, d9, f9, ndv, ltv, hr⟩
      have hvl := nodup_lt ndv ltv
      cases r with
      | none =>
        refine ⟨_, rfl, rfl, _, rfl, iteF ?_⟩
        refine ⟨_, rfl, fl, _, rfl, lstOf f9, fun q hq => ?_⟩
        have hk : PathN (Lk n L true by') o1 (D o2) o2 := (B7.path (D o2) o2 hin2 rfl).imp hmm
        have hmin : ∀ m, PathN (Lk n L true by') o1 m o2 → D o2 ≤ m := fun m hm => (B7.le (hm.imp fun a b => (om a b).mpr)).2
        have hlvs : ∀ v ∈ vs, v < L.length := fun v hv => by have := ltv v hv; omega
        have hr : vs.length = D o2 + 1 := hr
        refine k _ q (vs.map (adOf L)).reverse (D o2) (s09.trans (same_new hq)) ?_ ?_ ?_ ?_ ?_ hk hmin
        · rw [upd_same, List.map_reverse, List.map_map]
          rfl
        · exact List.pairwise_reverse.mpr (List.Pairwise.imp Ne.symm (nodup_map_on ndv fun x hx y hy e => adOf_inj g (hlvs x hx) (hlvs y hy) e))
        · rw [List.length_reverse, List.length_map]; exact hr
        · intro z' hz
          rw [List.mem_reverse] at hz
          obtain ⟨v, hv, rfl⟩ := List.mem_map.mp hz
          have h1 : L[v]? = some (L[v]'(hlvs v hv)) := List.getElem?_eq_getElem _
          rw [adOf_eq h1]
          have hm := List.mem_of_getElem? h1
          exact ⟨g.fig _ hm, by have := g.adl _ hm; omega⟩
        · omega
      | some o =>
        obtain ⟨hoS, hlen, hlt9⟩ := hr
        have hol := B7.lt o hoS
        have hoL : L[o]? = some (L[o]'(by omega)) := List.getElem?_eq_getElem _
        refine ⟨_, rfl, rfl, _, rfl, iteT ?_⟩
        refine ⟨_, fun σ' H' hN => hN, ?_⟩
        refine ⟨_, rfl, .inl ⟨rfl, _, .inl (.inl f9)⟩, _, rfl, p, CLeaves, dx, _, _, rfl, s19 _ _ hp, T.cl, T.nA, fL_addresses _ _ _ _ _, _, rfl, z.al, _, _, .str (adS (adOf L o)), rfl, rfl, lstOf (s19 _ _ hL.a), atI_nat (by unfold vA; rw [List.getElem?_map, hoL, adOf_eq hoL]; rfl), fl, _, _, rfl, rfl, f9, szL (by unfold zV; rw [List.length_map]; omega), ?_⟩
        have ez : zV L vs ++ [V.str (adS (adOf L o))] = zV L (vs ++ [o]) := by unfold zV; rw [List.map_append]; rfl
        rw [ez]
        have s110 : Same H1 (upd H9 fl (.lst (zV L (vs ++ [o])))) := same_upd s19 hfl1
        have s010 : Same H (upd H9 fl (.lst (zV L (vs ++ [o])))) := same_upd s09 hfl0
        have d10 : (upd H9 fl (.lst (zV L (vs ++ [o])))) d = some (.dK (kvsN (pV pp) S)) := by rw [upd_ne (Ne.symm nfd)]; exact d9
        have f10 : (upd H9 fl (.lst (zV L (vs ++ [o])))) fl = some (.lst (zV L (vs ++ [o]))) := upd_same
        show Ends.nx _ _ (upd H9 fl (.lst (zV L (vs ++ [o]))))
        generalize upd H9 fl (.lst (zV L (vs ++ [o]))) = H10 at *
        have gt10 := DGet.k (k := Sum.inl (o : Int)) d10
        rw [valV_N, if_pos hoS] at gt10
        refine ⟨_, rfl, _, rfl, d, _, rfl, gt10, ?_⟩
        have ndv' : (vs ++ [o]).Nodup := by
          rw [List.nodup_append]
          exact ⟨ndv, by simp, fun a ha b hb e => by
            rw [List.mem_singleton] at hb
            have := hlt9 a ha
            rw [e, hb] at this
            exact Nat.lt_irrefl _ this⟩
        have ltv' : ∀ v ∈ vs ++ [o], v < oss.length := fun v hv => by
          rcases List.mem_append.mp hv with hv | hv
          · exact ltv v hv
          · rw [List.mem_singleton.mp hv]; exact hol
        by_cases hof : o = o1
        · rw [pV_none (by rw [hof]; exact B7.fi.2.2)]
          refine ⟨0, Nat.succ_pos _, vs ++ [o], none, rfl, rfl, s110, s010, d10, f10, ndv', ltv', ?_⟩
          show (vs ++ [o]).length = D o2 + 1
          rw [List.length_append, List.length_singleton]
          rw [hof, B7.fi.2.1] at hlen
          omega
        · obtain ⟨q', h1, h2, h3, h4⟩ := B7.pa o hoS hof
          rw [pV_some h2]
          refine ⟨D q' + 1, by show D q' + 1 < D o + 1; omega, vs ++ [o], some q', rfl, rfl, s110, s010, d10, f10, ndv', ltv', h1, ?_, fun v hv => ?_⟩
          · rw [List.length_append, List.length_singleton]; omega
          · rcases List.mem_append.mp hv with hv | hv
            · have := hlt9 v hv; omega
            · rw [List.mem_singleton.mp hv]; omega
end
end Qf
namespace Qf
open PySem PySem.Spec PyProof.Rows L2 LamX
/-- a pot of digits -/
def PotAt (H : Hp) (p : Addr) : Prop := ∃ a b : Int, H p = some (.lst [.int a, .int b]) ∧ 0 ≤ a ∧ 0 ≤ b ∧ b ≤ 2147483630
def spPot (K : PySem.W.Frag) : Sp := mkSp (fun a : Addr × List Int => [.ref a.1, .int 0]) fun a H Q => SqL K H a.1 (a.2.map V.int) ∧ ∀ H' p, Same H H' → H p = none → PotAt H' p → Q (.ref p) H'
def spDigit : Sp := mkSp (fun a : Addr × Nat => [.ref a.1, .int (a.2 : Nat)]) fun a H Q => PotAt H a.1 ∧ 0 < a.2 ∧ a.2 ≤ 1000 ∧ ∀ (d : Nat) H', d < a.2 → PotAt H' a.1 → Sx [a.1] H H' → Q (.int (d : Nat)) H'
theorem pot_ok {H : Hp} {p : Addr} (c : Int) (h : H p = some (.lst [.int (if (if c < 0 then -c else c) - 10 ^ ((18 : Int).toNat) > 0 then (if c < 0 then -c else c) - 10 ^ ((18 : Int).toNat) else 0), .int ((if c < 0 then -c else c).fmod 2147483629 + 97 * 0 + 1)])) : PotAt H p := by
  have h1 : 0 ≤ (if c < 0 then -c else c).fmod 2147483629 := Int.fmod_nonneg_of_pos _ (by decide)
  have h2 : (if c < 0 then -c else c).fmod 2147483629 < 2147483629 := Int.fmod_lt_of_pos _ (by decide)
  refine ⟨_, _, h, ?_, by omega, by omega⟩
  split <;> omega
structure MeA where
  q : Addr
  b : Bx
  r : Nat
  c : Nat
  s : Nat
def spMeets : Sp := mkSp (fun a : MeA => [.ref a.q, .int (a.r : Nat), .int (a.c : Nat), .int (a.s : Nat)]) fun a H Q => H a.q = some (.tup (vR (bxR a.b))) ∧ Q (.bl (meetsB a.b a.r a.c a.s)) H
def spHas : Sp := mkSp (fun a : MeA => [.ref a.q, .int (a.r : Nat), .int (a.c : Nat), .int (a.s : Nat)]) fun a H Q => H a.q = some (.tup (vR (bxR a.b))) ∧ Q (.bl (hasB a.b a.r a.c a.s)) H
section
variable {P : Program} {w : World} {K : PySem.W.Frag} {mg : Str → Option Value} {base : Heap}
theorem ok__law_pot (B : Bl mg) (D : Dfn K mg "_law_pot" s__law_pot)  : Cal P w K mg base 1 "_law_pot" (spPot K) := by
  refine cal_of D sc__law_pot (fun _ _ _ _ _ _ us hl => match us, hl with | [_, _], _ => rfl) (fun vs H Q E h => ?_) (fun f cdv A outer s H vs Q E hr h => ?_)
  · obtain ⟨a, rfl, _⟩ := h
    rfl
  · have nd := sc__law_pot.nd
    have hu := hu_of hr
    have hu65 := hu65_of hr
    obtain ⟨⟨l, ns⟩, rfl, hl, k⟩ := h
    dsimp only at hl k
    refine ⟨_, (pss_cons (ps_set (i := 2) nd rfl (by first | exact Or.inl rfl | exact Or.inr rfl) pe_int)
      (pss_cons (ps_if (pt_cmpR op_lt (pv 1) (pe_callB call_len_seq (by rfl) B.len bt_len (pa_cons (pv 0) pa_nil)) (nomark _)) (pss_one (ps_set (i := 2) nd rfl (by first | exact Or.inl rfl | exact Or.inr rfl) (pe_ix ix_list (pv 0) (pv 1) (fun _ _ => rfl)))) pss_nil)
      (pss_one (ps_ret (pe_lst (pa_cons (pe_callB (call_max2 rfl) (by rfl) B.max bt_max (pa_cons pe_int (pa_cons (pe_op op_sub (pe_callB call_abs (by rfl) B.abs bt_abs (pa_cons (pv 2) pa_nil)) (pe_op op_pow pe_int pe_int)) pa_nil))) (pa_cons (pe_op op_add (pe_op op_add (pe_op op_modN (pe_callB call_abs (by rfl) B.abs bt_abs (pa_cons (pv 2) pa_nil)) pe_int) (pe_op op_mul pe_int (pv 1))) pe_int) pa_nil))))))), ?_⟩
    have hsq : SqL K H l (ns.map V.int) := hl
    refine ⟨_, rfl, _, rfl, l, _, rfl, .inl hsq, _, _, rfl, rfl, _, rfl, ite_d (fun h0 => ?_) (fun h0 => ?_)⟩
    · have h0 : 0 < ns.length := by rw [List.length_map] at h0; omega
      have hx : (ns.map V.int)[0]? = some (.int ns[0]) := by rw [List.getElem?_map, List.getElem?_eq_getElem h0]; rfl
      refine ⟨_, rfl, _, rfl, l, _, _, .int ns[0], rfl, rfl, hsq, atI_nat (j := 0) hx, ?_⟩
      generalize ns[0] = c at *
      refine ⟨_, rfl, c, rfl, _, _, rfl, rfl, ⟨by decide, by decide, by decide⟩, _, _, rfl, rfl, _, _, rfl, ?_⟩
      refine ⟨_, rfl, c, rfl, _, _, rfl, rfl, (by show (2147483629 : Int) ≠ 0; decide), _, rfl, _, _, rfl, rfl, .inl ⟨by decide, by decide⟩, _, _, rfl, rfl, _, _, rfl, rfl, szl (by show 2 ≤ 1000000; decide), fun p hp => ?_⟩
      exact k _ p (same_new hp) hp (pot_ok c upd_same)
    · refine ⟨_, rfl, 0, rfl, _, _, rfl, rfl, ⟨by decide, by decide, by decide⟩, _, _, rfl, rfl, _, _, rfl, ?_⟩
      refine ⟨_, rfl, 0, rfl, _, _, rfl, rfl, (by show (2147483629 : Int) ≠ 0; decide), _, rfl, _, _, rfl, rfl, .inl ⟨by decide, by decide⟩, _, _, rfl, rfl, _, _, rfl, rfl, szl (by show 2 ≤ 1000000; decide), fun p hp => ?_⟩
      exact k _ p (same_new hp) hp (pot_ok 0 upd_same)
theorem ok__law_digit (B : Bl mg) (D : Dfn K mg "_law_digit" s__law_digit)  : Cal P w K mg base 1 "_law_digit" spDigit := by
  refine cal_of D sc__law_digit (fun _ _ _ _ _ _ us hl => match us, hl with | [_, _], _ => rfl) (fun vs H Q E h => ?_) (fun f cdv A outer s H vs Q E hr h => ?_)
  · obtain ⟨a, rfl, _⟩ := h
    rfl
  · have nd := sc__law_digit.nd
    have hu := hu_of hr
    have hu65 := hu65_of hr
    obtain ⟨⟨p, m⟩, rfl, ⟨a, b, hp, ha, hb, hb2⟩, hm, hm2, k⟩ := h
    dsimp only at hp hm hm2 k
    refine ⟨_, (pss_cons (ps_if (pt_cmpR op_gt (pe_ix ix_list (pv 0) pe_int (fun _ _ => rfl)) pe_int (nomark _)) (pss_cons (ps_set (i := 2) nd rfl (by first | exact Or.inl rfl | exact Or.inr rfl) (pe_op op_modN (pe_ix ix_list (pv 0) pe_int (fun _ _ => rfl)) (pv 1)))
      (pss_cons (ps_asg (pe_op op_fdivN (pe_ix ix_list (pv 0) pe_int (fun _ _ => rfl)) (pv 1)) (pg_sub (pv 0) pe_int set_list))
      (pss_one (ps_ret (pv 2))))) pss_nil)
      (pss_cons (ps_asg (pe_op op_modN (pe_op op_add (pe_op op_mul (pe_ix ix_list (pv 0) pe_int (fun _ _ => rfl)) pe_int) pe_int) pe_int) (pg_sub (pv 0) pe_int set_list))
      (pss_one (ps_ret (pe_op op_modN (pe_op op_fdivN (pe_ix ix_list (pv 0) pe_int (fun _ _ => rfl)) pe_int) (pv 1)))))), ?_⟩
    refine ⟨_, rfl, p, _, _, .int a, rfl, rfl, lstOf hp, rfl, _, _, rfl, rfl, _, rfl, ite_d (fun h0 => ?_) (fun h0 => ?_)⟩
    · have hd0 : 0 ≤ a.fmod (m : Int) := Int.fmod_nonneg_of_pos a (by omega)
      have hd1 : a.fmod (m : Int) < m := Int.fmod_lt_of_pos a (by omega)
      obtain ⟨d, hd⟩ := Int.eq_ofNat_of_zero_le hd0
      refine ⟨_, rfl, p, _, _, .int a, rfl, rfl, lstOf hp, rfl, _, rfl, _, _, rfl, rfl, (by omega), ?_⟩
      refine ⟨_, rfl, p, _, _, .int a, rfl, rfl, lstOf hp, rfl, _, rfl, _, _, rfl, rfl, ⟨by omega, by omega⟩, _, rfl, p, _, 0, 0, rfl, rfl, hp, rfl, ?_⟩
      have hq : 0 ≤ a.fdiv (m : Int) := Int.fdiv_nonneg (by omega) (by omega)
      refine ⟨_, rfl, ?_⟩
      exact qint hd (k d _ (by omega) ⟨a.fdiv m, b, upd_same, hq, hb, hb2⟩ ((Sx.refl _ _).upd List.mem_cons_self))
    · have hb3 : CMul b 48271 := .inr ⟨by decide, by decide⟩
      refine ⟨_, rfl, p, _, _, .int b, rfl, rfl, lstOf hp, rfl, _, _, rfl, rfl, hb3, _, _, rfl, rfl, _, _, rfl, rfl, (by show (2147483629 : Int) ≠ 0; decide), _, rfl, p, _, 1, 1, rfl, rfl, hp, rfl, ?_⟩
      have h1 : 0 ≤ (b * 48271 + 8191).fmod 2147483629 := Int.fmod_nonneg_of_pos _ (by decide)
      have h2 : (b * 48271 + 8191).fmod 2147483629 < 2147483629 := Int.fmod_lt_of_pos _ (by decide)
      generalize hb' : (b * 48271 + 8191).fmod 2147483629 = b' at *
      have hp2 : (upd H p (.lst [.int a, .int b'])) p = some (.lst [.int a, .int b']) := upd_same
      have hd0 : 0 ≤ (b'.fdiv 16).fmod (m : Int) := Int.fmod_nonneg_of_pos _ (by omega)
      have hd1 : (b'.fdiv 16).fmod (m : Int) < m := Int.fmod_lt_of_pos _ (by omega)
      obtain ⟨d, hd⟩ := Int.eq_ofNat_of_zero_le hd0
      refine ⟨_, rfl, p, _, _, .int b', rfl, rfl, lstOf (by show upd H p (.lst [.int a, .int ((b * 48271 + 8191).fmod 2147483629)]) p = _; rw [hb']; exact hp2), rfl, _, _, rfl, rfl, ⟨by decide, by decide⟩, _, rfl, _, _, rfl, rfl, (by show (m : Int) ≠ 0; omega), ?_⟩
      refine qint hd (k d _ (by omega) ⟨a, b', ?_, ha, h1, by omega⟩ ((Sx.refl _ _).upd List.mem_cons_self))
      show upd H p (.lst [.int a, .int ((b * 48271 + 8191).fmod 2147483629)]) p = _
      rw [hb']
      exact hp2
theorem ok__law_meets (B : Bl mg) (D : Dfn K mg "_law_meets" s__law_meets)  : Cal P w K mg base 1 "_law_meets" spMeets := by
  refine cal_of D sc__law_meets (fun _ _ _ _ _ _ us hl => match us, hl with | [_, _, _, _], _ => rfl) (fun vs H Q E h => ?_) (fun f cdv A outer s H vs Q E hr h => ?_)
  · obtain ⟨a, rfl, _⟩ := h
    rfl
  · have nd := sc__law_meets.nd
    have hu := hu_of hr
    have hu65 := hu65_of hr
    obtain ⟨⟨q, b, r, c, s1⟩, rfl, hq, k⟩ := h
    dsimp only at hq k
    refine ⟨_, (pss_cons (ps_if (PW.pt (pw_or (pt_cmpR op_le (pe_op op_add (pv 1) (pv 3)) (pe_ix ix_tup (pv 0) pe_int (fun _ _ => rfl)) (nomark _)) (pw_or1 (pt_cmpR op_le (pe_op op_add (pe_ix ix_tup (pv 0) pe_int (fun _ _ => rfl)) (pe_ix ix_tup (pv 0) pe_int (fun _ _ => rfl))) (pv 1) (nomark _))))) (pss_one (ps_ret pe_bl)) pss_nil)
      (pss_one (ps_ret (pe_and (pe_cmpR op_lt (pv 2) (pe_op op_add (pe_ix ix_tup (pv 0) pe_int (fun _ _ => rfl)) (pe_ix ix_tup (pv 0) pe_int (fun _ _ => rfl))) (nomark _)) (pe_one (pe_cmpR op_lt (pe_ix ix_tup (pv 0) pe_int (fun _ _ => rfl)) (pe_op op_add (pv 2) (pv 3)) (nomark _))))))), ?_⟩
    have g0 : SqT K H q (vR (bxR b)) := tupOf hq
    refine ⟨_, rfl, _, rfl, _, _, rfl, rfl, _, rfl, q, _, _, .int (b.r : Nat), rfl, rfl, g0, rfl, _, _, rfl, rfl, _, rfl, ite_d (fun h1 => iteT (qbl ?_ k)) (fun h1 => ?_)⟩
    · refine (decide_eq_false fun z => ?_).symm
      have h1 : (r : Int) + (s1 : Nat) ≤ (b.r : Nat) := h1
      omega
    refine ⟨_, rfl, q, _, _, .int (b.r : Nat), rfl, rfl, g0, rfl, _, rfl, q, _, _, .int (b.h : Nat), rfl, rfl, g0, rfl, _, _, rfl, rfl, _, rfl, _, _, rfl, rfl, _, rfl, ite_d (fun h2 => qbl ?_ k) (fun h2 => ?_)⟩
    · refine (decide_eq_false fun z => ?_).symm
      have h2 : ((b.r : Nat) : Int) + (b.h : Nat) ≤ (r : Nat) := h2
      omega
    refine ⟨_, rfl, _, rfl, q, _, _, .int (b.c : Nat), rfl, rfl, g0, rfl, _, rfl, q, _, _, .int (b.w : Nat), rfl, rfl, g0, rfl, _, _, rfl, rfl, _, _, rfl, rfl, _, rfl, ite_d (fun h3 => ?_) (fun h3 => qbl ?_ k)⟩
    · refine ⟨_, rfl, q, _, _, .int (b.c : Nat), rfl, rfl, g0, rfl, _, rfl, _, rfl, _, _, rfl, rfl, _, _, rfl, rfl, qbl ?_ k⟩
      have h1 : ¬ (r : Int) + (s1 : Nat) ≤ (b.r : Nat) := h1
      have h2 : ¬ ((b.r : Nat) : Int) + (b.h : Nat) ≤ (r : Nat) := h2
      have h3 : (c : Int) < (b.c : Nat) + (b.w : Nat) := h3
      show decide (((b.c : Nat) : Int) < (c : Int) + (s1 : Nat)) = _
      unfold meetsB
      by_cases h4 : b.c < c + s1
      · rw [decide_eq_true (by omega), decide_eq_true ⟨by omega, by omega, by omega, h4⟩]
      · rw [decide_eq_false (by omega), decide_eq_false fun z => h4 z.2.2.2]
    · refine (decide_eq_false fun z => ?_).symm
      have h3 : ¬ (c : Int) < (b.c : Nat) + (b.w : Nat) := h3
      omega
theorem ok__law_has (B : Bl mg) (D : Dfn K mg "_law_has" s__law_has)  : Cal P w K mg base 1 "_law_has" spHas := by
  refine cal_of D sc__law_has (fun _ _ _ _ _ _ us hl => match us, hl with | [_, _, _, _], _ => rfl) (fun vs H Q E h => ?_) (fun f cdv A outer s H vs Q E hr h => ?_)
  · obtain ⟨a, rfl, _⟩ := h
    rfl
  · have nd := sc__law_has.nd
    have hu := hu_of hr
    have hu65 := hu65_of hr
    obtain ⟨⟨q, b, r, c, s1⟩, rfl, hq, k⟩ := h
    dsimp only at hq k
    refine ⟨_, (pss_cons (ps_if (PW.pt (pw_or (pt_cmpR op_lt (pv 1) (pe_ix ix_tup (pv 0) pe_int (fun _ _ => rfl)) (nomark _)) (pw_or1 (pt_cmpR op_lt (pe_op op_add (pe_ix ix_tup (pv 0) pe_int (fun _ _ => rfl)) (pe_ix ix_tup (pv 0) pe_int (fun _ _ => rfl))) (pe_op op_add (pv 1) (pv 3)) (nomark _))))) (pss_one (ps_ret pe_bl)) pss_nil)
      (pss_one (ps_ret (pe_and (pe_cmpR op_le (pe_ix ix_tup (pv 0) pe_int (fun _ _ => rfl)) (pv 2) (nomark _)) (pe_one (pe_cmpR op_le (pe_op op_add (pv 2) (pv 3)) (pe_op op_add (pe_ix ix_tup (pv 0) pe_int (fun _ _ => rfl)) (pe_ix ix_tup (pv 0) pe_int (fun _ _ => rfl))) (nomark _))))))), ?_⟩
    have g0 : SqT K H q (vR (bxR b)) := tupOf hq
    refine ⟨_, rfl, _, rfl, q, _, _, .int (b.r : Nat), rfl, rfl, g0, rfl, _, _, rfl, rfl, _, rfl, ite_d (fun h1 => iteT (qbl ?_ k)) (fun h1 => ?_)⟩
    · refine (decide_eq_false fun z => ?_).symm
      have h1 : (r : Int) < (b.r : Nat) := h1
      omega
    refine ⟨_, rfl, q, _, _, .int (b.r : Nat), rfl, rfl, g0, rfl, _, rfl, q, _, _, .int (b.h : Nat), rfl, rfl, g0, rfl, _, _, rfl, rfl, _, rfl, _, rfl, _, _, rfl, rfl, _, _, rfl, rfl, _, rfl, ite_d (fun h2 => qbl ?_ k) (fun h2 => ?_)⟩
    · refine (decide_eq_false fun z => ?_).symm
      have h2 : ((b.r : Nat) : Int) + (b.h : Nat) < (r : Nat) + (s1 : Nat) := h2
      omega
    refine ⟨_, rfl, q, _, _, .int (b.c : Nat), rfl, rfl, g0, rfl, _, rfl, _, _, rfl, rfl, _, rfl, ite_d (fun h3 => ?_) (fun h3 => qbl ?_ k)⟩
    · refine ⟨_, rfl, _, rfl, _, _, rfl, rfl, _, rfl, q, _, _, .int (b.c : Nat), rfl, rfl, g0, rfl, _, rfl, q, _, _, .int (b.w : Nat), rfl, rfl, g0, rfl, _, _, rfl, rfl, _, _, rfl, rfl, qbl ?_ k⟩
      have h1 : ¬ (r : Int) < (b.r : Nat) := h1
      have h2 : ¬ ((b.r : Nat) : Int) + (b.h : Nat) < (r : Nat) + (s1 : Nat) := h2
      have h3 : ((b.c : Nat) : Int) ≤ (c : Nat) := h3
      show decide ((c : Int) + (s1 : Nat) ≤ ((b.c : Nat) : Int) + (b.w : Nat)) = _
      unfold hasB
      by_cases h4 : c + s1 ≤ b.c + b.w
      · rw [decide_eq_true (by omega), decide_eq_true ⟨by omega, by omega, by omega, h4⟩]
      · rw [decide_eq_false (by omega), decide_eq_false fun z => h4 z.2.2.2]
    · refine (decide_eq_false fun z => ?_).symm
      have h3 : ¬ ((b.c : Nat) : Int) ≤ (c : Nat) := h3
      omega
end
end Qf
namespace Qf
open PySem PySem.Spec PyProof.Rows L2 LamX
/-- a list of rows of numbers -/
def LstAt (H : Hp) (q : Addr) (RS : List Row) : Prop := ∃ as : List Addr, H q = some (.lst (as.map V.ref)) ∧ Paired (fun a r => H a = some (.tup (vR r))) as RS
theorem LstAt.same {H H' : Hp} {q : Addr} {RS : List Row} (h : LstAt H q RS) (s : Same H H') : LstAt H' q RS := by
  obtain ⟨as, h1, h2⟩ := h
  exact ⟨as, s _ _ h1, pr_imp h2 fun a r _ _ e => s _ _ e⟩
theorem LstAt.sxD {H H' : Hp} {q d : Addr} {RS : List Row} {kvs : List (List Key × V)} (h : LstAt H q RS) (hd : H d = some (.dT kvs)) (s : Sx [d] H H') : LstAt H' q RS := by
  obtain ⟨as, h1, h2⟩ := h
  exact ⟨as, s _ _ (nin1 h1 hd (by intro z; cases z)) h1, pr_imp h2 fun a r _ _ e => s _ _ (nin1 e hd (by intro z; cases z)) e⟩
def lD (r : Row) : PyData := .list (r.map fun (k : Nat) => PyData.int (k : Int))
theorem lD_eqv (r s : Row) : PyData.eqv (lD r) (lD s) = decide (r = s) := by
  unfold lD
  rw [PyData.eqv]
  exact ints_eqvAll r s
theorem lD_lay (r : Row) : (lD r).canLay0 = true := by rw [lD, PyData.canLay0]; exact ints_lay r
theorem lD_depth (r : Row) : (lD r).depth = 1 := by rw [lD, PyData.depth, ints_depth]
theorem lD_shaped (r : Row) : SeqAt.shaped (lD r) = true := by unfold SeqAt.shaped; rw [lD_lay, lD_depth]; rfl
theorem lDs_shaped (R : List Row) : SeqAt.shaped (.list (R.map lD)) = true := shaped_list (fun d hd => by obtain ⟨r, _, rfl⟩ := List.mem_map.mp hd; exact lD_lay r) fun d hd => by obtain ⟨r, _, rfl⟩ := List.mem_map.mp hd; rw [lD_depth]; decide
structure LnA where
  d : Addr
  q : Addr
  BL : List Bx
  T : List Qt
  r : Nat
  c : Nat
  k : Nat
def spLawNumber (h : Nat) : Sp := mkSp (fun a : LnA => [.ref a.d, .ref a.q, .int (a.r : Nat), .int (a.c : Nat), .int (2 ^ a.k : Nat)]) fun a H Q => H a.d = some (.dT (kvsR (rowsOf a.T))) ∧ St a.T ∧ a.T.length + 2 * 4 ^ a.k ≤ 20000 ∧ LstAt H a.q (a.BL.map bxR) ∧ a.BL.length ≤ 1000 ∧ (a.k ≤ h ∧ a.k ≤ 6) ∧ a.r + 2 ^ a.k ≤ 64 ∧ a.c + 2 ^ a.k ≤ 64 ∧
  ∀ H', H' a.d = some (.dT (kvsR (rowsOf (post (tree (fB a.BL) a.k a.r a.c) a.T)))) → Sx [a.d] H H' → Q (.int (num (post (tree (fB a.BL) a.k a.r a.c) a.T) (tree (fB a.BL) a.k a.r a.c) : Nat)) H'
section
variable {P : Program} {w : World} {K : PySem.W.Frag} {mg : Str → Option Value} {base : Heap}
theorem ok__law_numberS (B : Bl mg) (D : Dfn K mg "_law_number" s__law_number) {k0 : Nat} (c__law_meets : Cal P w K mg base 1 "_law_meets" spMeets) (c__law_has : Cal P w K mg base 1 "_law_has" spHas) (c__law_number : Cal P w K mg base (k0 + 2) "_law_number" (spLawNumber k0)) : Cal P w K mg base (k0+3) "_law_number" (spLawNumber (k0 + 1)) := by
  refine cal_of D sc__law_number (fun _ _ _ _ _ _ us hl => match us, hl with | [_, _, _, _, _], _ => rfl) (fun vs H Q E h => ?_) (fun f cdv A outer s H vs Q E hr h => ?_)
  · obtain ⟨a, rfl, _⟩ := h
    rfl
  · have nd := sc__law_number.nd
    have hu := hu_of hr
    have hu65 := hu65_of hr
    obtain ⟨⟨d, q, BL, T, r, c, kk⟩, rfl, hd, sT, hTl, hq, hBl, ⟨hkk, hk6⟩, hr64, hc64, k⟩ := h
    dsimp only at hd sT hTl hq hBl hkk hk6 hr64 hc64 k
    refine ⟨_, (pss_cons (ps_set (i := 5) nd rfl (by first | exact Or.inl rfl | exact Or.inr rfl) (pe_lc (own := [("_law_box", 6)]) rfl nd (pi_list (pv 1)) (blkOk_by (N := N__law_number) (sc := defScope s__law_number) (by decide +kernel)) (fun _ _ _ _ _ => (pg_name (i := 6) nd rfl (by first | exact Or.inl rfl | exact Or.inr rfl))) (fun _ _ _ _ _ => pts_one (pt_val (pe_c c__law_meets hr (by omega) rfl (pa_cons (pv 6) (pa_cons (pv 2) (pa_cons (pv 3) (pa_cons (pv 4) pa_nil))))))) (fun _ _ _ _ _ => (pv 6))))
      (pss_cons (ps_if (PW.pt (pw_or (pt_cmpR (op_eqD hr.units) (pv 5) (pe_lst pa_nil) (nomark _)) (pw_or1 (pt_val (pe_callB (cr_any rfl) (by rfl) B.any bt_any (pa_cons (pe_lc (own := [("_law_box", 6)]) rfl nd (pi_list (pv 5)) (blkOk_by (N := N__law_number) (sc := defScope s__law_number) (by decide +kernel)) (fun _ _ _ _ _ => (pg_name (i := 6) nd rfl (by first | exact Or.inl rfl | exact Or.inr rfl))) (fun _ _ _ _ _ => pts_nil) (fun _ _ _ _ _ => (pe_c c__law_has hr (by omega) rfl (pa_cons (pv 6) (pa_cons (pv 2) (pa_cons (pv 3) (pa_cons (pv 4) pa_nil))))))) pa_nil)))))) (pss_one (ps_ret (pe_callTy call_int1 (by rfl) B.int bt_int (pa_cons (pe_cmpR (op_neD hr.units) (pv 5) (pe_lst pa_nil) (nomark _)) pa_nil)))) pss_nil)
      (pss_cons (ps_set (i := 7) nd rfl (by first | exact Or.inl rfl | exact Or.inr rfl) (pe_op op_fdivN (pv 4) pe_int))
      (pss_cons (ps_setLc (i := 8) (own := [("_law_k", 9)]) rfl nd rfl rfl (sw_true rfl rfl rfl (by decide +kernel)) (pi_range1 rfl B.range (pa_cons pe_int pa_nil)) (blkOk_by (N := N__law_number) (sc := defScope s__law_number) (by decide +kernel)) (fun _ _ _ _ _ => (pg_name (i := 9) nd rfl (by first | exact Or.inl rfl | exact Or.inr rfl))) (fun _ _ _ _ _ => pts_nil) (fun _ _ _ _ _ => (pe_c c__law_number hr (by omega) rfl (pa_cons (pv 0) (pa_cons (pv 5) (pa_cons (pe_op op_add (pv 2) (pe_op op_mul (pv 7) (pe_op op_fdivN (pv 9) pe_int))) (pa_cons (pe_op op_add (pv 3) (pe_op op_mul (pv 7) (pe_op op_modN (pv 9) pe_int))) (pa_cons (pv 7) pa_nil))))))))
      (pss_cons (ps_if (pt_cmpR (op_inTD hu65) (pv 8) (pe_tup (pa_cons (pe_lst (pa_cons pe_int (pa_cons pe_int (pa_cons pe_int (pa_cons pe_int pa_nil))))) (pa_cons (pe_lst (pa_cons pe_int (pa_cons pe_int (pa_cons pe_int (pa_cons pe_int pa_nil))))) pa_nil))) (by rfl)) (pss_one (ps_ret (pe_ix ix_list (pv 8) pe_int (fun _ _ => rfl)))) pss_nil)
      (pss_cons (ps_if (pt_cmp (pc_dnotin hu (pe_callTy call_tuple_of (by rfl) B.tuple bt_tuple (pa_cons (pv 8) pa_nil)) (pv 0))) (pss_one (ps_dput hu (pv 0) (pe_callTy call_tuple_of (by rfl) B.tuple bt_tuple (pa_cons (pv 8) pa_nil)) (pe_op op_add (pe_callB call_len_dT (by rfl) B.len bt_len (pa_cons (pv 0) pa_nil)) pe_int) rfl)) pss_nil)
      (pss_one (ps_ret (pe_dget hu (pv 0) (pe_callTy call_tuple_of (by rfl) B.tuple bt_tuple (pa_cons (pv 8) pa_nil)) (fun _ _ => rfl)))))))))), ?_⟩
    obtain ⟨as, eq0, pb0⟩ := hq
    have lab : as.length = BL.length := by rw [pr_len pb0, List.length_map]
    -- met
    refine ⟨_, rfl, q, rfl, ⟨_, lstOf eq0⟩, fun D hD => ?_⟩
    refine lc_rel (walk_list (xs := as.map V.ref)) (hitF (fun b => meetsB b r c (2 ^ kk)) BL) (fun i y _ => ∃ a, y = V.ref a ∧ as[i]? = some a) hD (fun H' s2 => lstOf (s2 _ _ eq0)) (szL (by rw [List.length_map]; omega)) (fun _ _ _ _ e _ _ => e) ?_ ?_
    · rintro i y H2 H' hi s2 _ ⟨rfl, hy⟩ Q' Z' qq zz
      rw [List.length_map] at hi
      rw [List.getElem?_map, List.getElem?_eq_getElem hi] at hy
      obtain rfl : V.ref as[i] = y := Option.some.inj hy
      have hai : as[i]? = some as[i] := List.getElem?_eq_getElem hi
      obtain ⟨r', hr', er'⟩ := pr_get pb0 hai
      rw [List.getElem?_map] at hr'
      have hBi : BL[i]? = some (BL[i]'(by omega)) := List.getElem?_eq_getElem _
      rw [hBi] at hr'
      obtain rfl := Option.some.inj hr'
      rw [hitF_some hBi] at qq zz
      refine ⟨rfl, _, rfl, _, rfl, _, rfl, _, rfl, ⟨as[i], _, r, c, 2 ^ kk⟩, rfl, s2 _ _ er', _, rfl, ite_b (fun hb => ⟨_, rfl, qq hb _ _ (Same.refl _) ⟨_, rfl, hai⟩⟩) (fun hb => zz hb _ (Same.refl _))⟩
    · intro ys H1 s1 hy py
      rw [List.length_map, lab] at py
      obtain ⟨as', rfl, h2⟩ := pr_refs (W := fun a b => ∃ i : Nat, as[i]? = some a ∧ BL[i]? = some b) (pr_imp (pr_join py (idx_pr (fun b => meetsB b r c (2 ^ kk)) BL)) fun y g' _ _ ⟨i, ⟨a, e, e2⟩, e3⟩ => ⟨a, e, i, e2, e3⟩)
      have hmem : ∀ b ∈ BL.filter (fun b => meetsB b r c (2 ^ kk)), b ∈ BL := fun b hb => (List.mem_filter.mp hb).1
      have hmeet : ∀ b ∈ BL.filter (fun b => meetsB b r c (2 ^ kk)), meetsB b r c (2 ^ kk) = true := fun b hb => (List.mem_filter.mp hb).2
      have hlenm := List.length_filter_le (fun b => meetsB b r c (2 ^ kk)) BL
      have htf : ∀ k' r' c', r ≤ r' → r' + 2 ^ k' ≤ r + 2 ^ kk → c ≤ c' → c' + 2 ^ k' ≤ c + 2 ^ kk → tree (fB (BL.filter fun b => meetsB b r c (2 ^ kk))) k' r' c' = tree (fB BL) k' r' c' := fun k' r' c' a1 a2 a3 a4 => tree_filter a1 a2 a3 a4
      have htn : BL.filter (fun b => meetsB b r c (2 ^ kk)) = [] → tree (fB BL) kk r c = .e := tree_none
      have pm : Paired (fun a b => H1 a = some (.tup (vR (bxR b)))) as' (BL.filter fun b => meetsB b r c (2 ^ kk)) := pr_imp h2 fun a b _ _ ⟨i, e2, e3⟩ => by
        obtain ⟨r', h3, h4⟩ := pr_get pb0 e2
        rw [List.getElem?_map, e3] at h3
        cases h3
        exact s1 _ _ h4
      clear h2
      generalize BL.filter (fun b => meetsB b r c (2 ^ kk)) = met at *
      have d1 := s1 _ _ hd
      have lam : as'.length = met.length := pr_len pm
      -- met == []
      have pmr : Paired (fun a r => H1 a = some (.tup (vR r))) as' (met.map bxR) := pr_map_right pm
      refine ⟨_, rfl, szl (by show 0 ≤ 1000000; decide), fun el hel => ⟨.list ((met.map bxR).map rD), .list [], .lst (lstOf (same_new hel _ _ hy)) (dpAll_of (pr_map_left (f := V.ref) (pr_imp pmr fun a r _ _ e => dp_row (same_new hel _ _ e)))), .lst (lstOf upd_same) .nil, rDs_shaped _, shaped_nil, _, rfl, ?_⟩⟩
      rw [eqv_nil]
      have s2 := sNew s1 hel (o := .lst [])
      have hy2 := same_new hel (o := .lst []) _ _ hy
      have d2 := same_new hel (o := .lst []) _ _ d1
      have pm2 : Paired (fun a b => upd H1 el (.lst []) a = some (.tup (vR (bxR b)))) as' met := pr_imp pm fun a b _ _ e => same_new hel _ _ e
      have pmr2 : Paired (fun a r => upd H1 el (.lst []) a = some (.tup (vR r))) as' (met.map bxR) := pr_map_right pm2
      generalize upd H1 el (.lst []) = H2 at *
      have kpl : ∀ (t : Qt), tree (fB BL) kk r c = t → (t = .e ∨ t = .f) → ∀ H', Same H H' → H' d = some (.dT (kvsR (rowsOf T))) → Q (.int (num T t : Nat)) H' := fun t ht hp H' sH hH => by
        have hpost : post t T = T := by rcases hp with rfl | rfl <;> rfl
        have := k H' (by rw [ht, hpost]; exact hH) (sxS sH)
        rw [ht, hpost] at this
        exact this
      by_cases hme : met = []
      · have ht := htn hme
        subst hme
        refine iteT (iteT ?_)
        refine ⟨_, rfl, szl (by show 0 ≤ 1000000; decide), fun e3 he3 => ⟨.list ((([] : List Bx).map bxR).map rD), .list [], .lst (lstOf (same_new he3 _ _ hy2)) (dpAll_of (pr_map_left (f := V.ref) (pr_imp pmr2 fun a r _ _ e => dp_row (same_new he3 _ _ e)))), .lst (lstOf upd_same) .nil, rDs_shaped _, shaped_nil, ?_⟩⟩
        exact .inr ⟨_, rfl, kpl .e ht (.inl rfl) _ (sNew s2 he3) (same_new he3 _ _ d2)⟩
      · rw [show ((met.map bxR).map rD).isEmpty = false by cases met with | nil => exact absurd rfl hme | cons a r => rfl]
        refine iteF ?_
        -- any(..)
        refine ⟨_, rfl, D, rfl, ⟨_, lstOf hy2⟩, fun D2 hD2 => ?_⟩
        refine lc_map (walk_list (xs := as'.map V.ref)) (fun i y _ => ∃ b, met[i]? = some b ∧ y = .bl (hasB b r c (2 ^ kk))) hD2 (fun H' s => lstOf (s _ _ hy2)) (szL (by rw [List.length_map]; omega)) (fun _ _ _ _ e _ _ => e) ?_ gName_mono ?_
        · rintro i y H3 H' hi s3 _ ⟨rfl, hy'⟩ Q' qq
          rw [List.length_map] at hi
          rw [List.getElem?_map, List.getElem?_eq_getElem hi] at hy'
          obtain rfl : V.ref as'[i] = y := Option.some.inj hy'
          obtain ⟨b, hb, hb2⟩ := pr_get pm2 (List.getElem?_eq_getElem hi)
          exact ⟨rfl, _, rfl, _, rfl, _, rfl, _, rfl, ⟨as'[i], b, r, c, 2 ^ kk⟩, rfl, s3 _ _ hb2, qq _ _ (Same.refl _) ⟨b, hb, rfl⟩⟩
        · intro yb H3 s3 hyb pyb
          rw [List.length_map, lam] at pyb
          have eyb : yb = (met.map fun b => hasB b r c (2 ^ kk)).map V.bl := by
            rw [List.map_map]
            apply List.ext_getElem?
            intro i
            rw [List.getElem?_map]
            cases hb : met[i]? with
            | none => rw [List.getElem?_eq_none (by rw [← pr_len pyb, List.length_range]; exact List.getElem?_eq_none_iff.mp hb)]; rfl
            | some b =>
              obtain ⟨y', e1, b', e2, e3⟩ := pr_get pyb (i := i) (x := i) (List.getElem?_range (get_lt hb))
              rw [hb] at e2
              cases e2
              rw [e1, e3]
              rfl
          refine ⟨D2, _, rfl, lstOf (by rw [hyb, eyb]), _, rfl, ?_⟩
          have hy3 := s3 _ _ hy2
          have d3 := s3 _ _ d2
          have s03 := s2.trans s3
          have pm3 : Paired (fun a b => H3 a = some (.tup (vR (bxR b)))) as' met := pr_imp pm2 fun a b _ _ e => s3 _ _ e
          have pmr3 : Paired (fun a r => H3 a = some (.tup (vR r))) as' (met.map bxR) := pr_map_right pm3
          cases hany : (met.map fun b => hasB b r c (2 ^ kk)).any id with
          | true =>
            refine iteT ?_
            have ht : tree (fB BL) kk r c = .f := by
              obtain ⟨x, hx, hx2⟩ := List.any_eq_true.mp hany
              obtain ⟨b, hb, rfl⟩ := List.mem_map.mp hx
              exact tree_has (hmem b hb) hx2
            refine ⟨_, rfl, szl (by show 0 ≤ 1000000; decide), fun e3 he3 => ⟨.list ((met.map bxR).map rD), .list [], .lst (lstOf (same_new he3 _ _ hy3)) (dpAll_of (pr_map_left (f := V.ref) (pr_imp pmr3 fun a r _ _ e => dp_row (same_new he3 _ _ e)))), .lst (lstOf upd_same) .nil, rDs_shaped _, shaped_nil, ?_⟩⟩
            have hne : (!PyData.eqv (.list ((met.map bxR).map rD)) (.list [])) = true := by rw [eqv_nil]; cases met with | nil => exact absurd rfl hme | cons a r => rfl
            exact .inr ⟨_, rfl, by rw [hne]; exact kpl .f ht (.inr rfl) _ (sNew s03 he3) (same_new he3 _ _ d3)⟩
          | false =>
            refine iteF ?_
            obtain ⟨k1, rfl⟩ : ∃ k1, kk = k1 + 1 := by
              cases kk with
              | zero =>
                exact absurd hany (by
                  obtain ⟨b, hb⟩ : ∃ b, b ∈ met := by cases met with | nil => exact absurd rfl hme | cons a r => exact ⟨a, List.mem_cons_self⟩
                  intro z
                  have := List.any_eq_false.mp z (hasB b r c (2 ^ 0)) (List.mem_map.mpr ⟨b, hb, rfl⟩)
                  exact this (meets_unit (hmeet b hb)))
                  | succ k1 => exact ⟨k1, rfl⟩
            have eh : ((2 ^ (k1 + 1) : Nat) : Int).fdiv 2 = ((2 ^ k1 : Nat) : Int) := by
              have := fdivN (2 ^ (k1 + 1)) 2
              rw [show 2 ^ (k1 + 1) / 2 = 2 ^ k1 by rw [Nat.pow_succ]; omega] at this
              exact this
            refine ⟨_, rfl, _, _, rfl, rfl, ⟨by decide, by decide⟩, ?_⟩
            have h2k : 2 ^ k1 ≤ 64 := Nat.pow_le_pow_right (n := 2) (by decide) (show k1 ≤ 6 by omega)
            have h2k1 : 2 ^ (k1 + 1) = 2 ^ k1 + 2 ^ k1 := by rw [Nat.pow_succ]; omega
            have h4k1 : 4 ^ (k1 + 1) = 4 * 4 ^ k1 := by rw [Nat.pow_succ]; omega
            have hql : ∀ i, i < 4 → 2 ^ k1 * (i / 2) ≤ 2 ^ k1 ∧ 2 ^ k1 * (i % 2) ≤ 2 ^ k1 := fun i hi => by
              have q1 := two_mul_q (k := k1) (d := i / 2) (by omega)
              have q2 := two_mul_q (k := k1) (d := i % 2) (by omega)
              have q3 := pow_pos2 k1
              constructor
              · rw [q1]; split <;> omega
              · rw [q2]; split <;> omega
            refine ⟨4, rfl, by decide, by decide, fun D3 hD3 => ?_⟩
            have n3d : D3 ≠ d := fun z => by rw [z, d3] at hD3; cases hD3
            have hD30 : H D3 = none := s03.free hD3
            have nD3 : ∀ c o, H3 c = some o → (∀ kvs : List (List Key × V), o ≠ .dT kvs) → c ∉ [D3, d] := fun c o e h => by
              simp only [List.mem_cons, List.not_mem_nil, or_false, not_or]
              exact ⟨ne_of_none e hD3, ne_of e d3 (h _)⟩
            refine lc_it (walk_range (n := 4)) (fun i H4 => i ≤ 4 ∧ H4 D3 = some (.lst (iV ((List.range i).map fun j => num (storeQ (fB BL) k1 r c T 4) (quart (fB BL) k1 r c j)))) ∧ H4 d = some (.dT (kvsR (rowsOf (storeQ (fB BL) k1 r c T i)))) ∧ Sx [D3, d] H3 H4)
              ⟨Nat.zero_le _, upd_same, by rw [upd_ne (Ne.symm n3d)]; exact d3, (Sx.refl _ _).upd List.mem_cons_self⟩ (fun _ _ _ _ => trivial) ?_ ?_
            · rintro i x H4 H' hi ⟨_, l4, d4, x4⟩ ⟨rfl, hx⟩
              obtain rfl : x = V.int ((i : Nat) : Int) := Eq.trans hx (congrArg V.int (Int.zero_add _))
              have hq4 := hql i hi
              have m1 : CMul (((2 ^ (k1 + 1) : Nat) : Int).fdiv 2) (((i : Nat) : Int).fdiv 2) := .inl (mul64' eh (by omega))
              have m2 : CMul (((2 ^ (k1 + 1) : Nat) : Int).fdiv 2) (((i : Nat) : Int).fmod 2) := .inl (mul64' eh (by omega))
              have e1 : (r : Int) + ((2 ^ k1 : Nat) : Int) * ((i : Nat) : Int).fdiv 2 = ((r + 2 ^ k1 * (i / 2) : Nat) : Int) := by
                rw [show ((i : Nat) : Int).fdiv 2 = ((i / 2 : Nat) : Int) from fdivN i 2, Int.natCast_add, Int.natCast_mul]
              have e2 : (c : Int) + ((2 ^ k1 : Nat) : Int) * ((i : Nat) : Int).fmod 2 = ((c + 2 ^ k1 * (i % 2) : Nat) : Int) := by
                rw [show ((i : Nat) : Int).fmod 2 = ((i % 2 : Nat) : Int) from fmodN i 2, Int.natCast_add, Int.natCast_mul]
              have hst := storeQ_len (F := fB BL) (k := k1) (r := r) (c := c) (T := T) i
              have hst2 : i * (2 * 4 ^ k1) ≤ 3 * (2 * 4 ^ k1) := Nat.mul_le_mul_right _ (by omega)
              have hquart : tree (fB met) k1 (r + 2 ^ k1 * (i / 2)) (c + 2 ^ k1 * (i % 2)) = quart (fB BL) k1 r c i := htf k1 _ _ (by omega) (by omega) (by omega) (by omega)
              refine ⟨rfl, yes_if ?_⟩
              refine ⟨_, rfl, _, rfl, _, rfl, _, rfl, _, rfl, _, _, rfl, rfl, ⟨by decide, by decide⟩, _, _, rfl, rfl, m1, _, _, rfl, rfl, _, rfl, _, rfl, _, rfl, _, _, rfl, rfl, (by show (2 : Int) ≠ 0; decide), _, _, rfl, rfl, m2, _, _, rfl, rfl, _, rfl, ⟨d, D, met, storeQ (fB BL) k1 r c T i, r + 2 ^ k1 * (i / 2), c + 2 ^ k1 * (i % 2), k1⟩, ?_, d4, storeQ_st sT i, (by show (storeQ (fB BL) k1 r c T i).length + 2 * 4 ^ k1 ≤ 20000; omega), ?_, by show met.length ≤ 1000; omega, ⟨(by show k1 ≤ k0; omega), (by show k1 ≤ 6; omega)⟩, ?_, ?_, fun H5 d5 x5 => ?_⟩
              · show [V.ref d, V.ref D, V.int ((r : Int) + ((2 ^ (k1 + 1) : Nat) : Int).fdiv 2 * ((i : Nat) : Int).fdiv 2), V.int ((c : Int) + ((2 ^ (k1 + 1) : Nat) : Int).fdiv 2 * ((i : Nat) : Int).fmod 2), V.int (((2 ^ (k1 + 1) : Nat) : Int).fdiv 2)] = _
                rw [eh, e1, e2]
              · exact ⟨as', x4 _ _ (nD3 _ _ hy3 (fun _ z => by cases z)) hy3, pr_imp pmr3 fun a r _ _ e => x4 _ _ (nD3 _ _ e (fun _ z => by cases z)) e⟩
              · show r + 2 ^ k1 * (i / 2) + 2 ^ k1 ≤ 64
                omega
              · show c + 2 ^ k1 * (i % 2) + 2 ^ k1 ≤ 64
                omega
              · dsimp only at d5 ⊢
                rw [hquart] at d5 ⊢
                have l5 := x5 _ _ (by simp only [List.mem_singleton]; exact n3d) l4
                refine ⟨_, l5, szL (by rw [iV_len, List.length_map, List.length_range]; omega), by omega, ?_, ?_, ?_⟩
                · rw [upd_same, List.range_succ, List.map_append, List.map_singleton, iV_snoc, (storeQ_kn (fB BL) k1 r c T hi).2]
                  rfl
                · rw [upd_ne (Ne.symm n3d)]; exact d5
                · exact (x4.trans (x5.mono (by simp))).upd (by simp)
            · rintro H4 ⟨_, l4, d4, x4⟩
              have hrow : iV ((List.range 4).map fun j => num (storeQ (fB BL) k1 r c T 4) (quart (fB BL) k1 r c j)) = vR [num (storeQ (fB BL) k1 r c T 4) (quart (fB BL) k1 r c 0), num (storeQ (fB BL) k1 r c T 4) (quart (fB BL) k1 r c 1), num (storeQ (fB BL) k1 r c T 4) (quart (fB BL) k1 r c 2), num (storeQ (fB BL) k1 r c T 4) (quart (fB BL) k1 r c 3)] := rfl
              rw [hrow] at l4
              have ka := (storeQ_kn (fB BL) k1 r c T (i := 0) (by decide)).1
              have kb := (storeQ_kn (fB BL) k1 r c T (i := 1) (by decide)).1
              have kc := (storeQ_kn (fB BL) k1 r c T (i := 2) (by decide)).1
              have kd := (storeQ_kn (fB BL) k1 r c T (i := 3) (by decide)).1
              have sT4 := storeQ_st (F := fB BL) (k := k1) (r := r) (c := c) sT 4
              have lT4 := storeQ_len (F := fB BL) (k := k1) (r := r) (c := c) (T := T) 4
              have hpt := post_tree (fB BL) k1 r c T
              have hsp := storeQ_plain (F := fB BL) (k := k1) (r := r) (c := c) (T := T)
              have htq := tree_quart (fB BL) k1 r c
              rw [hpt] at k
              rw [htq] at k
              generalize storeQ (fB BL) k1 r c T 4 = T4 at *
              generalize quart (fB BL) k1 r c 0 = qa at *
              generalize quart (fB BL) k1 r c 1 = qb at *
              generalize quart (fB BL) k1 r c 2 = qc at *
              generalize quart (fB BL) k1 r c 3 = qd at *
              -- the plain ones
              refine ⟨_, rfl, szl (by show 4 ≤ 1000000; decide), fun l1 hl1 => ?_⟩
              have s5 := same_new hl1 (o := .lst [.int 0, .int 0, .int 0, .int 0])
              refine ⟨szl (by show 4 ≤ 1000000; decide), fun l2 hl2 => ?_⟩
              have s6 := sNew s5 hl2 (o := .lst [.int 1, .int 1, .int 1, .int 1])
              refine ⟨szl (by show 2 ≤ 1000000; decide), fun l3 hl3 => ?_⟩
              have s7 := sNew s6 hl3 (o := .tup [.ref l1, .ref l2])
              have f1 := same_new hl3 (o := .tup [.ref l1, .ref l2]) _ _ (same_new hl2 (o := .lst [.int 1, .int 1, .int 1, .int 1]) _ _ (upd_same (H := H4) (a := l1) (o := .lst [.int 0, .int 0, .int 0, .int 0])))
              have f2 := same_new hl3 (o := .tup [.ref l1, .ref l2]) _ _ (upd_same (H := upd H4 l1 (.lst [.int 0, .int 0, .int 0, .int 0])) (a := l2) (o := .lst [.int 1, .int 1, .int 1, .int 1]))
              have f3 : (upd (upd (upd H4 l1 (.lst [.int 0, .int 0, .int 0, .int 0])) l2 (.lst [.int 1, .int 1, .int 1, .int 1])) l3 (.tup [.ref l1, .ref l2])) l3 = some (.tup [.ref l1, .ref l2]) := upd_same
              have l7 := s7 _ _ l4
              have d7 := s7 _ _ d4
              generalize upd (upd (upd H4 l1 (.lst [.int 0, .int 0, .int 0, .int 0])) l2 (.lst [.int 1, .int 1, .int 1, .int 1])) l3 (.tup [.ref l1, .ref l2]) = H7 at *
              have x7 : Sx [D3, d] H3 H7 := x4.trans (sxS s7)
              have x07 : Sx [d] H H7 := fun cc o n e => x7 _ _ (by
                have : cc ≠ D3 := ne_of_none e hD30
                simp only [List.mem_cons, List.not_mem_nil, or_false, not_or] at n ⊢
                exact ⟨this, n⟩) (s03 _ _ e)
              have dpl : ∀ (l : Addr) (row : Row), H7 l = some (.lst (vR row)) → Dp K H7 (.ref l) (lD row) := fun l row e => .lst (lstOf e) (dp_ints row)
              refine ⟨lD [num T4 qa, num T4 qb, num T4 qc, num T4 qd], [[0, 0, 0, 0], [1, 1, 1, 1]].map lD, dpl D3 _ l7, .tup (tupOf f3) (.cons (dpl l1 [0, 0, 0, 0] f1) (.cons (dpl l2 [1, 1, 1, 1] f2) .nil)), lD_shaped _, lDs_shaped _, _, rfl, ?_⟩
              have ev : (([[0, 0, 0, 0], [1, 1, 1, 1]].map lD).any fun z => PyData.eqv z (lD [num T4 qa, num T4 qb, num T4 qc, num T4 qd])) = decide (Plain4 qa qb qc qd) := by
                simp only [List.map_cons, List.map_nil, List.any_cons, List.any_nil, lD_eqv, Bool.or_false, ← Bool.decide_or]
                congr 1
                unfold Plain4
                rw [← num_row_zero (T := T4), ← num_row_one (T := T4)]
                exact propext ⟨fun h => h.imp Eq.symm Eq.symm, fun h => h.imp Eq.symm Eq.symm⟩
              rw [ev]
              refine ite_d (fun hpl => ?_) (fun hpl => ?_)
              · rw [if_pos hpl] at k
                have e4 := hsp hpl
                subst e4
                refine ⟨_, rfl, D3, _, _, .int (num T4 qa : Nat), rfl, rfl, lstOf l7, rfl, ?_⟩
                have hn : num T4 (mk qa qb qc qd) = num T4 qa := by
                  rcases hpl with ⟨rfl, rfl, rfl, rfl⟩ | ⟨rfl, rfl, rfl, rfl⟩
                  · rw [mk_e]
                  · rw [mk_f]
                have := k H7 d7 x07
                rw [hn] at this
                exact this
              · rw [if_neg hpl, mk_n hpl] at k
                have hrowm : ([num T4 qa, num T4 qb, num T4 qc, num T4 qd] ∈ rowsOf T4) ↔ Qt.n qa qb qc qd ∈ T4 := row_mem sT4 ka kb kc kd
                have hv := valV_from 2 (rowsOf T4) [num T4 qa, num T4 qb, num T4 qc, num T4 qd]
                -- tuple(quarters) not in rows
                refine ⟨_, rfl, D3, _, rfl, .inl ⟨lstOf l7, fun t1 ht1 => ?_⟩⟩
                have s8 := same_new ht1 (o := .tup (vR [num T4 qa, num T4 qb, num T4 qc, num T4 qd]))
                have u8 : (upd H7 t1 (.tup (vR [num T4 qa, num T4 qb, num T4 qc, num T4 qd]))) t1 = some (.tup ((kR [num T4 qa, num T4 qb, num T4 qc, num T4 qd]).map kV)) := by rw [kR_v]; exact upd_same
                have d8 := s8 _ _ d7
                have l8 := s8 _ _ l7
                have x08 : Sx [d] H (upd H7 t1 (.tup (vR [num T4 qa, num T4 qb, num T4 qc, num T4 qd]))) := x07.trans (sxS s8)
                generalize upd H7 t1 (.tup (vR [num T4 qa, num T4 qb, num T4 qc, num T4 qd])) = H8 at *
                refine ⟨_, rfl, d, _, rfl, DGet.t d8 u8, ?_⟩
                unfold kvsR
                rw [hv]
                by_cases hin : Qt.n qa qb qc qd ∈ T4
                · rw [if_pos (hrowm.mpr hin)]
                  refine ⟨false, rfl, iteF ?_⟩
                  have hk : Kn T4 (.n qa qb qc qd) := kn_n.mpr hin
                  rw [add_eq hk] at k
                  refine ⟨_, rfl, _, rfl, D3, _, rfl, .inl ⟨lstOf l8, fun t2 ht2 => ?_⟩⟩
                  have s9 := same_new ht2 (o := .tup (vR [num T4 qa, num T4 qb, num T4 qc, num T4 qd]))
                  have u9 : (upd H8 t2 (.tup (vR [num T4 qa, num T4 qb, num T4 qc, num T4 qd]))) t2 = some (.tup ((kR [num T4 qa, num T4 qb, num T4 qc, num T4 qd]).map kV)) := by rw [kR_v]; exact upd_same
                  have d9 := s9 _ _ d8
                  refine ⟨d, _, rfl, ?_, k _ d9 (x08.trans (sxS s9))⟩
                  have := DGet.t d9 u9
                  unfold kvsR at this
                  rw [hv, if_pos (hrowm.mpr hin)] at this
                  have ei : (rowsOf T4).idxOf [num T4 qa, num T4 qb, num T4 qc, num T4 qd] = T4.idxOf (.n qa qb qc qd) := row_idx sT4 hin
                  rw [ei] at this
                  exact this
                · rw [if_neg fun z => hin (hrowm.mp z)]
                  refine ⟨true, rfl, iteT ?_⟩
                  refine ⟨_, rfl, d, _, rfl, d8, _, _, rfl, rfl, ?_⟩
                  refine ⟨_, rfl, _, rfl, D3, _, rfl, .inl ⟨lstOf l8, fun t2 ht2 => ?_⟩⟩
                  have s9 := same_new ht2 (o := .tup (vR [num T4 qa, num T4 qb, num T4 qc, num T4 qd]))
                  have u9 : (upd H8 t2 (.tup (vR [num T4 qa, num T4 qb, num T4 qc, num T4 qd]))) t2 = some (.tup ((kR [num T4 qa, num T4 qb, num T4 qc, num T4 qd]).map kV)) := by rw [kR_v]; exact upd_same
                  have d9 := s9 _ _ d8
                  have l9 := s9 _ _ l8
                  have x09 : Sx [d] H (upd H8 t2 (.tup (vR [num T4 qa, num T4 qb, num T4 qc, num T4 qd]))) := x08.trans (sxS s9)
                  generalize upd H8 t2 (.tup (vR [num T4 qa, num T4 qb, num T4 qc, num T4 qd])) = H9 at *
                  refine ⟨d, _, rfl, DPut.t d9 u9 (szL (by unfold kvsR; rw [kvsFrom_len, rowsOf_len]; omega)), ?_⟩
                  have hvn : valV (kvsR (rowsOf T4)) (kR [num T4 qa, num T4 qb, num T4 qc, num T4 qd]) = none := by unfold kvsR; rw [hv, if_neg fun z => hin (hrowm.mp z)]
                  have hkv : putK (kvsR (rowsOf T4)) (kR [num T4 qa, num T4 qb, num T4 qc, num T4 qd]) (V.int (((kvsR (rowsOf T4)).length : Int) + 2)) = kvsR (rowsOf (add T4 (.n qa qb qc qd))) := by
                    rw [putK_new _ hvn, rowsOf_add sT4 hin ka kb kc kd]
                    have hl : (V.int (((kvsR (rowsOf T4)).length : Int) + 2)) = V.int (((rowsOf T4).length + 2 : Nat) : Int) := by
                      unfold kvsR
                      rw [kvsFrom_len]
                      rfl
                    rw [hl]
                    exact (kvsFrom_snoc 2 (rowsOf T4) _).symm
                  rw [hkv]
                  have n3 : D3 ≠ d := ne_of l9 d9 (by intro z; cases z)
                  have d10 : (upd H9 d (.dT (kvsR (rowsOf (add T4 (.n qa qb qc qd)))))) d = some (.dT (kvsR (rowsOf (add T4 (.n qa qb qc qd))))) := upd_same
                  have l10 : (upd H9 d (.dT (kvsR (rowsOf (add T4 (.n qa qb qc qd)))))) D3 = some (.lst (vR [num T4 qa, num T4 qb, num T4 qc, num T4 qd])) := by rw [upd_ne n3]; exact l9
                  have x10 : Sx [d] H (upd H9 d (.dT (kvsR (rowsOf (add T4 (.n qa qb qc qd)))))) := x09.upd List.mem_cons_self
                  generalize upd H9 d (.dT (kvsR (rowsOf (add T4 (.n qa qb qc qd))))) = H10 at *
                  refine ⟨_, rfl, _, rfl, D3, _, rfl, .inl ⟨lstOf l10, fun t3 ht3 => ?_⟩⟩
                  have s11 := same_new ht3 (o := .tup (vR [num T4 qa, num T4 qb, num T4 qc, num T4 qd]))
                  have u11 : (upd H10 t3 (.tup (vR [num T4 qa, num T4 qb, num T4 qc, num T4 qd]))) t3 = some (.tup ((kR [num T4 qa, num T4 qb, num T4 qc, num T4 qd]).map kV)) := by rw [kR_v]; exact upd_same
                  have d11 := s11 _ _ d10
                  refine ⟨d, _, rfl, ?_, k _ d11 (x10.trans (sxS s11))⟩
                  have hm2 : [num T4 qa, num T4 qb, num T4 qc, num T4 qd] ∈ rowsOf (add T4 (.n qa qb qc qd)) := by rw [rowsOf_add sT4 hin ka kb kc kd]; exact List.mem_append_right _ List.mem_cons_self
                  have hS2 : St (add T4 (.n qa qb qc qd)) := sT4.add hpl ka kb kc kd
                  have := DGet.t d11 u11
                  unfold kvsR at this
                  rw [valV_from, if_pos hm2] at this
                  have e9 : (rowsOf (add T4 (.n qa qb qc qd))).idxOf [num T4 qa, num T4 qb, num T4 qc, num T4 qd] + 2 = num (add T4 (.n qa qb qc qd)) (.n qa qb qc qd) := by
                    rw [num_n, ← row_idx hS2 (kn_n.mp (add_kn T4 _))]
                    congr 2
                    rw [add_ne fun z => hin (kn_n.mp z)]
                    exact (rowOf_app _ ka kb kc kd).symm
                  rw [e9] at this
                  exact this
theorem ok__law_number0 (B : Bl mg) (D : Dfn K mg "_law_number" s__law_number) (c__law_meets : Cal P w K mg base 1 "_law_meets" spMeets) (c__law_has : Cal P w K mg base 1 "_law_has" spHas) : Cal P w K mg base 2 "_law_number" (spLawNumber 0) := by
  refine cal_of D sc__law_number (fun _ _ _ _ _ _ us hl => match us, hl with | [_, _, _, _, _], _ => rfl) (fun vs H Q E h => ?_) (fun f cdv A outer s H vs Q E hr h => ?_)
  · obtain ⟨a, rfl, _⟩ := h
    rfl
  · have nd := sc__law_number.nd
    have hu := hu_of hr
    have hu65 := hu65_of hr
    obtain ⟨⟨d, q, BL, T, r, c, kk⟩, rfl, hd, sT, hTl, hq, hBl, ⟨hkk, hk6⟩, hr64, hc64, k⟩ := h
    dsimp only at hd sT hTl hq hBl hkk hk6 hr64 hc64 k
    refine ⟨_, (pss_cons (ps_set (i := 5) nd rfl (by first | exact Or.inl rfl | exact Or.inr rfl) (pe_lc (own := [("_law_box", 6)]) rfl nd (pi_list (pv 1)) (blkOk_by (N := N__law_number) (sc := defScope s__law_number) (by decide +kernel)) (fun _ _ _ _ _ => (pg_name (i := 6) nd rfl (by first | exact Or.inl rfl | exact Or.inr rfl))) (fun _ _ _ _ _ => pts_one (pt_val (pe_c c__law_meets hr (by omega) rfl (pa_cons (pv 6) (pa_cons (pv 2) (pa_cons (pv 3) (pa_cons (pv 4) pa_nil))))))) (fun _ _ _ _ _ => (pv 6))))
      (pss_cons (ps_if (PW.pt (pw_or (pt_cmpR (op_eqD hr.units) (pv 5) (pe_lst pa_nil) (nomark _)) (pw_or1 (pt_val (pe_callB (cr_any rfl) (by rfl) B.any bt_any (pa_cons (pe_lc (own := [("_law_box", 6)]) rfl nd (pi_list (pv 5)) (blkOk_by (N := N__law_number) (sc := defScope s__law_number) (by decide +kernel)) (fun _ _ _ _ _ => (pg_name (i := 6) nd rfl (by first | exact Or.inl rfl | exact Or.inr rfl))) (fun _ _ _ _ _ => pts_nil) (fun _ _ _ _ _ => (pe_c c__law_has hr (by omega) rfl (pa_cons (pv 6) (pa_cons (pv 2) (pa_cons (pv 3) (pa_cons (pv 4) pa_nil))))))) pa_nil)))))) (pss_one (ps_ret (pe_callTy call_int1 (by rfl) B.int bt_int (pa_cons (pe_cmpR (op_neD hr.units) (pv 5) (pe_lst pa_nil) (nomark _)) pa_nil)))) pss_nil) pss_never)), ?_⟩
    obtain ⟨as, eq0, pb0⟩ := hq
    have lab : as.length = BL.length := by rw [pr_len pb0, List.length_map]
    -- met
    refine ⟨_, rfl, q, rfl, ⟨_, lstOf eq0⟩, fun D hD => ?_⟩
    refine lc_rel (walk_list (xs := as.map V.ref)) (hitF (fun b => meetsB b r c (2 ^ kk)) BL) (fun i y _ => ∃ a, y = V.ref a ∧ as[i]? = some a) hD (fun H' s2 => lstOf (s2 _ _ eq0)) (szL (by rw [List.length_map]; omega)) (fun _ _ _ _ e _ _ => e) ?_ ?_
    · rintro i y H2 H' hi s2 _ ⟨rfl, hy⟩ Q' Z' qq zz
      rw [List.length_map] at hi
      rw [List.getElem?_map, List.getElem?_eq_getElem hi] at hy
      obtain rfl : V.ref as[i] = y := Option.some.inj hy
      have hai : as[i]? = some as[i] := List.getElem?_eq_getElem hi
      obtain ⟨r', hr', er'⟩ := pr_get pb0 hai
      rw [List.getElem?_map] at hr'
      have hBi : BL[i]? = some (BL[i]'(by omega)) := List.getElem?_eq_getElem _
      rw [hBi] at hr'
      obtain rfl := Option.some.inj hr'
      rw [hitF_some hBi] at qq zz
      refine ⟨rfl, _, rfl, _, rfl, _, rfl, _, rfl, ⟨as[i], _, r, c, 2 ^ kk⟩, rfl, s2 _ _ er', _, rfl, ite_b (fun hb => ⟨_, rfl, qq hb _ _ (Same.refl _) ⟨_, rfl, hai⟩⟩) (fun hb => zz hb _ (Same.refl _))⟩
    · intro ys H1 s1 hy py
      rw [List.length_map, lab] at py
      obtain ⟨as', rfl, h2⟩ := pr_refs (W := fun a b => ∃ i : Nat, as[i]? = some a ∧ BL[i]? = some b) (pr_imp (pr_join py (idx_pr (fun b => meetsB b r c (2 ^ kk)) BL)) fun y g' _ _ ⟨i, ⟨a, e, e2⟩, e3⟩ => ⟨a, e, i, e2, e3⟩)
      have hmem : ∀ b ∈ BL.filter (fun b => meetsB b r c (2 ^ kk)), b ∈ BL := fun b hb => (List.mem_filter.mp hb).1
      have hmeet : ∀ b ∈ BL.filter (fun b => meetsB b r c (2 ^ kk)), meetsB b r c (2 ^ kk) = true := fun b hb => (List.mem_filter.mp hb).2
      have hlenm := List.length_filter_le (fun b => meetsB b r c (2 ^ kk)) BL
      have htf : ∀ k' r' c', r ≤ r' → r' + 2 ^ k' ≤ r + 2 ^ kk → c ≤ c' → c' + 2 ^ k' ≤ c + 2 ^ kk → tree (fB (BL.filter fun b => meetsB b r c (2 ^ kk))) k' r' c' = tree (fB BL) k' r' c' := fun k' r' c' a1 a2 a3 a4 => tree_filter a1 a2 a3 a4
      have htn : BL.filter (fun b => meetsB b r c (2 ^ kk)) = [] → tree (fB BL) kk r c = .e := tree_none
      have pm : Paired (fun a b => H1 a = some (.tup (vR (bxR b)))) as' (BL.filter fun b => meetsB b r c (2 ^ kk)) := pr_imp h2 fun a b _ _ ⟨i, e2, e3⟩ => by
        obtain ⟨r', h3, h4⟩ := pr_get pb0 e2
        rw [List.getElem?_map, e3] at h3
        cases h3
        exact s1 _ _ h4
      clear h2
      generalize BL.filter (fun b => meetsB b r c (2 ^ kk)) = met at *
      have d1 := s1 _ _ hd
      have lam : as'.length = met.length := pr_len pm
      -- met == []
      have pmr : Paired (fun a r => H1 a = some (.tup (vR r))) as' (met.map bxR) := pr_map_right pm
      refine ⟨_, rfl, szl (by show 0 ≤ 1000000; decide), fun el hel => ⟨.list ((met.map bxR).map rD), .list [], .lst (lstOf (same_new hel _ _ hy)) (dpAll_of (pr_map_left (f := V.ref) (pr_imp pmr fun a r _ _ e => dp_row (same_new hel _ _ e)))), .lst (lstOf upd_same) .nil, rDs_shaped _, shaped_nil, _, rfl, ?_⟩⟩
      rw [eqv_nil]
      have s2 := sNew s1 hel (o := .lst [])
      have hy2 := same_new hel (o := .lst []) _ _ hy
      have d2 := same_new hel (o := .lst []) _ _ d1
      have pm2 : Paired (fun a b => upd H1 el (.lst []) a = some (.tup (vR (bxR b)))) as' met := pr_imp pm fun a b _ _ e => same_new hel _ _ e
      have pmr2 : Paired (fun a r => upd H1 el (.lst []) a = some (.tup (vR r))) as' (met.map bxR) := pr_map_right pm2
      generalize upd H1 el (.lst []) = H2 at *
      have kpl : ∀ (t : Qt), tree (fB BL) kk r c = t → (t = .e ∨ t = .f) → ∀ H', Same H H' → H' d = some (.dT (kvsR (rowsOf T))) → Q (.int (num T t : Nat)) H' := fun t ht hp H' sH hH => by
        have hpost : post t T = T := by rcases hp with rfl | rfl <;> rfl
        have := k H' (by rw [ht, hpost]; exact hH) (sxS sH)
        rw [ht, hpost] at this
        exact this
      by_cases hme : met = []
      · have ht := htn hme
        subst hme
        refine iteT (iteT ?_)
        refine ⟨_, rfl, szl (by show 0 ≤ 1000000; decide), fun e3 he3 => ⟨.list ((([] : List Bx).map bxR).map rD), .list [], .lst (lstOf (same_new he3 _ _ hy2)) (dpAll_of (pr_map_left (f := V.ref) (pr_imp pmr2 fun a r _ _ e => dp_row (same_new he3 _ _ e)))), .lst (lstOf upd_same) .nil, rDs_shaped _, shaped_nil, ?_⟩⟩
        exact .inr ⟨_, rfl, kpl .e ht (.inl rfl) _ (sNew s2 he3) (same_new he3 _ _ d2)⟩
      · rw [show ((met.map bxR).map rD).isEmpty = false by cases met with | nil => exact absurd rfl hme | cons a r => rfl]
        refine iteF ?_
        -- any(..)
        refine ⟨_, rfl, D, rfl, ⟨_, lstOf hy2⟩, fun D2 hD2 => ?_⟩
        refine lc_map (walk_list (xs := as'.map V.ref)) (fun i y _ => ∃ b, met[i]? = some b ∧ y = .bl (hasB b r c (2 ^ kk))) hD2 (fun H' s => lstOf (s _ _ hy2)) (szL (by rw [List.length_map]; omega)) (fun _ _ _ _ e _ _ => e) ?_ gName_mono ?_
        · rintro i y H3 H' hi s3 _ ⟨rfl, hy'⟩ Q' qq
          rw [List.length_map] at hi
          rw [List.getElem?_map, List.getElem?_eq_getElem hi] at hy'
          obtain rfl : V.ref as'[i] = y := Option.some.inj hy'
          obtain ⟨b, hb, hb2⟩ := pr_get pm2 (List.getElem?_eq_getElem hi)
          exact ⟨rfl, _, rfl, _, rfl, _, rfl, _, rfl, ⟨as'[i], b, r, c, 2 ^ kk⟩, rfl, s3 _ _ hb2, qq _ _ (Same.refl _) ⟨b, hb, rfl⟩⟩
        · intro yb H3 s3 hyb pyb
          rw [List.length_map, lam] at pyb
          have eyb : yb = (met.map fun b => hasB b r c (2 ^ kk)).map V.bl := by
            rw [List.map_map]
            apply List.ext_getElem?
            intro i
            rw [List.getElem?_map]
            cases hb : met[i]? with
            | none => rw [List.getElem?_eq_none (by rw [← pr_len pyb, List.length_range]; exact List.getElem?_eq_none_iff.mp hb)]; rfl
            | some b =>
              obtain ⟨y', e1, b', e2, e3⟩ := pr_get pyb (i := i) (x := i) (List.getElem?_range (get_lt hb))
              rw [hb] at e2
              cases e2
              rw [e1, e3]
              rfl
          refine ⟨D2, _, rfl, lstOf (by rw [hyb, eyb]), _, rfl, ?_⟩
          have hy3 := s3 _ _ hy2
          have d3 := s3 _ _ d2
          have s03 := s2.trans s3
          have pm3 : Paired (fun a b => H3 a = some (.tup (vR (bxR b)))) as' met := pr_imp pm2 fun a b _ _ e => s3 _ _ e
          have pmr3 : Paired (fun a r => H3 a = some (.tup (vR r))) as' (met.map bxR) := pr_map_right pm3
          cases hany : (met.map fun b => hasB b r c (2 ^ kk)).any id with
          | true =>
            refine iteT ?_
            have ht : tree (fB BL) kk r c = .f := by
              obtain ⟨x, hx, hx2⟩ := List.any_eq_true.mp hany
              obtain ⟨b, hb, rfl⟩ := List.mem_map.mp hx
              exact tree_has (hmem b hb) hx2
            refine ⟨_, rfl, szl (by show 0 ≤ 1000000; decide), fun e3 he3 => ⟨.list ((met.map bxR).map rD), .list [], .lst (lstOf (same_new he3 _ _ hy3)) (dpAll_of (pr_map_left (f := V.ref) (pr_imp pmr3 fun a r _ _ e => dp_row (same_new he3 _ _ e)))), .lst (lstOf upd_same) .nil, rDs_shaped _, shaped_nil, ?_⟩⟩
            have hne : (!PyData.eqv (.list ((met.map bxR).map rD)) (.list [])) = true := by rw [eqv_nil]; cases met with | nil => exact absurd rfl hme | cons a r => rfl
            exact .inr ⟨_, rfl, by rw [hne]; exact kpl .f ht (.inr rfl) _ (sNew s03 he3) (same_new he3 _ _ d3)⟩
          | false =>
            refine iteF ?_
            obtain rfl : kk = 0 := Nat.le_zero.mp hkk
            exact absurd hany (by
              obtain ⟨b, hb⟩ : ∃ b, b ∈ met := by cases met with | nil => exact absurd rfl hme | cons a r => exact ⟨a, List.mem_cons_self⟩
              intro z
              have := List.any_eq_false.mp z (hasB b r c (2 ^ 0)) (List.mem_map.mpr ⟨b, hb, rfl⟩)
              exact this (meets_unit (hmeet b hb)))
theorem ok__law_number (B : Bl mg) (D : Dfn K mg "_law_number" s__law_number) (c__law_meets : Cal P w K mg base 1 "_law_meets" spMeets) (c__law_has : Cal P w K mg base 1 "_law_has" spHas) : ∀ h : Nat, Cal P w K mg base (h + 2) "_law_number" (spLawNumber h)
  | 0 => ok__law_number0 B D c__law_meets c__law_has
  | h + 1 => ok__law_numberS B D c__law_meets c__law_has (ok__law_number B D c__law_meets c__law_has h)
end
end Qf
namespace Qf
open PySem PySem.Spec PyProof.Rows L2 LamX
theorem keys_rows {H : Hp} : ∀ {j : Nat} {R : List Row} {bs : List Addr}, IsKeys H (kvsFrom j R) bs → Paired (fun a r => H a = some (.tup (vR r))) bs R
  | _, [], _, .nil => .nil
  | j, r :: R, _, .cons h t => .cons (by rw [← kR_v]; exact h) (keys_rows (j := j + 1) t)
structure LsA where
  n : Nat
  q : Addr
  BL : List Bx
def spLawShape : Sp := mkSp (fun a : LsA => [.int (a.n : Nat), .ref a.q]) fun a H Q => a.n ≤ 6 ∧ LstAt H a.q (a.BL.map bxR) ∧ a.BL.length ≤ 1000 ∧ ∀ H' tp, Same H H' → ShapeAt H' tp a.n (tree (fB a.BL) a.n 0 0) → Q (.ref tp) H'
def rwR (x : Rw) : Row := [x.r, x.c, x.w]
structure TnA where
  q : Addr
  RL : List Rw
  k : Nat
  tn : Nat
def spLawTurn : Sp := mkSp (fun a : TnA => [.ref a.q, .int (a.k : Nat), .int (a.tn : Nat)]) fun a H Q => LstAt H a.q (a.RL.map rwR) ∧ a.tn ≤ 10 ∧ ∃ x, a.RL[a.k]? = some x ∧ 1 ≤ x.w ∧ x.w ≤ 100 ∧ Q (.int (turnOf x a.k a.tn : Nat)) H
def spLawSnake : Sp := mkSp (fun a : TnA => [.ref a.q, .int (a.tn : Nat)]) fun a H Q => LstAt H a.q (a.RL.map rwR) ∧ a.tn ≤ 10 ∧ a.RL.length ≤ 100 ∧ (∀ x ∈ a.RL, 1 ≤ x.w ∧ x.w ≤ 100) ∧ ∀ H' q', Same H H' → LstAt H' q' ((snakeB a.RL a.tn).map bxR) → Q (.ref q') H'
section
variable {P : Program} {w : World} {K : PySem.W.Frag} {mg : Str → Option Value} {base : Heap}
theorem ok__law_shape (B : Bl mg) (D : Dfn K mg "_law_shape" s__law_shape) (c__law_number : Cal P w K mg base 8 "_law_number" (spLawNumber 6)) : Cal P w K mg base 9 "_law_shape" spLawShape := by
  refine cal_of D sc__law_shape (fun _ _ _ _ _ _ us hl => match us, hl with | [_, _], _ => rfl) (fun vs H Q E h => ?_) (fun f cdv A outer s H vs Q E hr h => ?_)
  · obtain ⟨a, rfl, _⟩ := h
    rfl
  · have nd := sc__law_shape.nd
    have hu := hu_of hr
    have hu65 := hu65_of hr
    obtain ⟨⟨n, q, BL⟩, rfl, hn, hq, hB, k⟩ := h
    dsimp only at hn hq hB k
    refine ⟨_, (pss_cons (ps_set (i := 2) nd rfl (by first | exact Or.inl rfl | exact Or.inr rfl) pe_dnewT)
      (pss_cons (ps_set (i := 3) nd rfl (by first | exact Or.inl rfl | exact Or.inr rfl) (pe_c c__law_number hr (by omega) rfl (pa_cons (pv 2) (pa_cons (pv 1) (pa_cons pe_int (pa_cons pe_int (pa_cons (pe_op op_shl pe_int (pv 0)) pa_nil)))))))
      (pss_one (ps_ret (pe_tup (pa_cons (pv 0) (pa_cons (pv 3) (pa_cons (pe_callTy (call_tuple_dT rfl) (by rfl) B.tuple bt_tuple (pa_cons (pv 2) pa_nil)) pa_nil)))))))), ?_⟩
    intro d hd
    have s1 := same_new hd (o := .dT [])
    have d1 : (upd H d (.dT [])) d = some (.dT (kvsR (rowsOf []))) := upd_same
    show Ends.nx _ _ (upd H d (.dT []))
    have q1 := hq.same s1
    generalize upd H d (.dT []) = H1 at *
    have e0 : (1 : Int) * 2 ^ (n : Int).toNat = ((2 ^ n : Nat) : Int) := by rw [Int.one_mul, Int.toNat_natCast]; push_cast; rfl
    have h2n : 2 ^ n ≤ 64 := Nat.pow_le_pow_right (n := 2) (by decide) hn
    have h4n : 4 ^ n ≤ 4096 := Nat.pow_le_pow_right (n := 4) (by decide) hn
    refine ⟨_, rfl, _, rfl, _, rfl, _, _, rfl, rfl, ⟨by show (0 : Int) ≤ (n : Nat); omega, by show ((n : Nat) : Int) ≤ 1000000; omega, by decide⟩, ⟨d, q, BL, [], 0, 0, n⟩, ?_, d1, St.nil, by show 0 + 2 * 4 ^ n ≤ 20000; omega, q1, hB, ⟨hn, hn⟩, by show 0 + 2 ^ n ≤ 64; omega, by show 0 + 2 ^ n ≤ 64; omega, fun H2 d2 x2 => ?_⟩
    · show [V.ref d, V.ref q, V.int 0, V.int 0, V.int (1 * 2 ^ (n : Int).toNat)] = _
      rw [e0]
      rfl
    dsimp only at d2 x2 ⊢
    have s2 : Same H H2 := Sx.same s1 x2 fun c hc => by rw [List.mem_singleton.mp hc]; exact hd
    have hcan := tree_canon (fB BL) n 0 0
    generalize tree (fB BL) n 0 0 = t at *
    refine ⟨_, rfl, _, rfl, _, rfl, d, _, rfl, .inl d2, fun p bs hp hbs => ?_⟩
    have hrows := keys_rows hbs
    refine ⟨szl (by show 3 ≤ 1000000; decide), fun tp htp => ?_⟩
    have s3 := sNew (same_new hp (o := .tup (bs.map V.ref))) htp (o := .tup [.int (n : Nat), .int (num (post t []) t : Nat), .ref p])
    refine k _ tp (s2.trans s3) ⟨p, upd_same, bs, ?_, pr_imp hrows fun a r _ _ e => s3 _ _ e⟩
    rw [upd_ne (fun z => by subst z; rw [upd_same] at htp; cases htp)]
    exact upd_same
theorem ok__law_turn (B : Bl mg) (D : Dfn K mg "_law_turn" s__law_turn)  : Cal P w K mg base 1 "_law_turn" spLawTurn := by
  refine cal_of D sc__law_turn (fun _ _ _ _ _ _ us hl => match us, hl with | [_, _, _], _ => rfl) (fun vs H Q E h => ?_) (fun f cdv A outer s H vs Q E hr h => ?_)
  · obtain ⟨a, rfl, _⟩ := h
    rfl
  · have nd := sc__law_turn.nd
    have hu := hu_of hr
    have hu65 := hu65_of hr
    obtain ⟨⟨q, RL, kk, tn⟩, rfl, ⟨as, hq, pr⟩, ht, x, hx, hw1, hw2, k⟩ := h
    dsimp only at hq pr ht hx k
    refine ⟨_, (pss_cons (ps_asg (pe_ix ix_list (pv 0) (pv 1) (fun _ _ => rfl)) (pg_tup rfl (pgs_cons (pg_name (i := 3) nd rfl (by first | exact Or.inl rfl | exact Or.inr rfl)) (pgs_cons (pg_name (i := 4) nd rfl (by first | exact Or.inl rfl | exact Or.inr rfl)) (pgs_cons (pg_name (i := 5) nd rfl (by first | exact Or.inl rfl | exact Or.inr rfl)) pgs_nil)))))
      (pss_one (ps_ret (pe_op op_add (pv 4) (pe_op op_mul (pe_op op_sub (pv 5) pe_int) (pe_op op_modN (pe_op op_add (pv 1) (pv 2)) pe_int)))))), ?_⟩
    obtain ⟨a, ha, ea⟩ := pr_get2 pr (i := kk) (y := rwR x) (by rw [List.getElem?_map, hx]; rfl)
    refine ⟨_, rfl, _, rfl, q, _, _, .ref a, rfl, rfl, lstOf hq, atI_nat (by rw [List.getElem?_map, ha]; rfl), ?_⟩
    refine ⟨a, _, rfl, tupOf ea, rfl, _, _, rfl, _, _, rfl, _, _, rfl, rfl, ?_⟩
    have em : CMul (((x.w : Nat) : Int) - 1) ((((kk : Nat) : Int) + (tn : Nat)).fmod 2) := .inl ⟨by omega, by omega⟩
    refine ⟨_, rfl, _, rfl, _, _, rfl, rfl, _, rfl, _, rfl, _, _, rfl, rfl, _, _, rfl, rfl, (by show (2 : Int) ≠ 0; decide), _, _, rfl, rfl, em, _, _, rfl, rfl, qint ?_ k⟩
    have e1 : (((kk : Nat) : Int) + (tn : Nat)).fmod 2 = (((kk + tn) % 2 : Nat) : Int) := fmodN (kk + tn) 2
    show ((x.c : Nat) : Int) + (((x.w : Nat) : Int) - 1) * (((kk : Nat) : Int) + (tn : Nat)).fmod 2 = _
    rw [e1]
    unfold turnOf
    rw [Int.natCast_add, Int.natCast_mul, show ((x.w - 1 : Nat) : Int) = ((x.w : Nat) : Int) - 1 by omega]
theorem ok__law_snake (B : Bl mg) (D : Dfn K mg "_law_snake" s__law_snake) (c__law_turn : Cal P w K mg base 1 "_law_turn" spLawTurn) : Cal P w K mg base 2 "_law_snake" spLawSnake := by
  refine cal_of D sc__law_snake (fun _ _ _ _ _ _ us hl => match us, hl with | [_, _], _ => rfl) (fun vs H Q E h => ?_) (fun f cdv A outer s H vs Q E hr h => ?_)
  · obtain ⟨a, rfl, _⟩ := h
    rfl
  · have nd := sc__law_snake.nd
    have hu := hu_of hr
    have hu65 := hu65_of hr
    obtain ⟨⟨q, RL, k0, tn⟩, rfl, hq0, ht, hl, hw, k⟩ := h
    dsimp only at hq0 ht hl hw k
    refine ⟨_, (pss_cons (ps_setLc (i := 2) (own := [("_law_row", 3), ("_law_column", 4), ("_law_wide", 5)]) rfl nd rfl rfl (sw_true rfl rfl rfl (by decide +kernel)) (pi_list (pv 0)) (blkOk_by (N := N__law_snake) (sc := defScope s__law_snake) (by decide +kernel)) (fun _ _ _ _ _ => (pg_tupK (K := K) (n := 3) rfl (pgs_cons (pg_name (i := 3) nd rfl (by first | exact Or.inl rfl | exact Or.inr rfl)) (pgs_cons (pg_name (i := 4) nd rfl (by first | exact Or.inl rfl | exact Or.inr rfl)) (pgs_cons (pg_name (i := 5) nd rfl (by first | exact Or.inl rfl | exact Or.inr rfl)) pgs_nil))))) (fun _ _ _ _ _ => pts_nil) (fun _ _ _ _ _ => (pe_tup (pa_cons (pv 3) (pa_cons (pv 4) (pa_cons pe_int (pa_cons (pv 5) pa_nil)))))))
      (pss_cons (ps_for PassesOwn.never rfl (pi_range1 rfl B.range (pa_cons (pe_op op_sub (pe_callB call_len_seq (by rfl) B.len bt_len (pa_cons (pv 0) pa_nil)) pe_int) pa_nil)) (pg_name (i := 6) nd rfl (by first | exact Or.inl rfl | exact Or.inr rfl))
      (pss_one (ps_expr (pe_bm PySem.F.plainAttrs_list PySem.F.slot_list_append PySem.F.type_list_append mt_append (pv 2) (pa_cons (pe_tup (pa_cons (pe_op op_add (pe_ix ix_tup (pe_ix ix_list (pv 0) (pv 6) (fun _ _ => rfl)) pe_int (fun _ _ => rfl)) pe_int) (pa_cons (pe_c c__law_turn hr (by omega) rfl (pa_cons (pv 0) (pa_cons (pv 6) (pa_cons (pv 1) pa_nil)))) (pa_cons pe_int (pa_cons pe_int pa_nil))))) pa_nil)))))
      (pss_one (ps_ret (pv 2))))), ?_⟩
    obtain ⟨as, hq, pr⟩ := id hq0
    have las : as.length = RL.length := by rw [pr_len pr, List.length_map]
    refine ⟨_, rfl, q, rfl, ⟨_, lstOf hq⟩, fun D hD => ?_⟩
    refine lc_map (walk_list (xs := as.map V.ref)) (fun i y H' => ∃ t x, y = .ref t ∧ RL[i]? = some x ∧ H' t = some (.tup (vR (bxR ⟨x.r, x.c, 1, x.w⟩)))) hD (fun H' s1 => lstOf (s1 _ _ hq)) (szL (by rw [List.length_map]; omega)) ?_ ?_ gTup3_mono ?_
    · rintro i y H1 H' ⟨t, x, h1, h2, h3⟩ ⟨l, hl⟩ sx
      exact ⟨t, x, h1, h2, sx _ _ (nin1 h3 hl (by intro z; cases z)) h3⟩
    · rintro i y H1 H' hi s1 _ ⟨rfl, hy⟩ Q' qq
      rw [List.length_map] at hi
      rw [List.getElem?_map, List.getElem?_eq_getElem hi] at hy
      obtain rfl : V.ref as[i] = y := Option.some.inj hy
      obtain ⟨r, hr, er⟩ := pr_get pr (List.getElem?_eq_getElem hi)
      rw [List.getElem?_map] at hr
      have hRi : RL[i]? = some (RL[i]'(by omega)) := List.getElem?_eq_getElem _
      rw [hRi] at hr
      obtain rfl := Option.some.inj hr
      refine ⟨as[i], _, rfl, tupOf (s1 _ _ er), rfl, _, _, rfl, _, _, rfl, _, _, rfl, rfl, rfl, ?_⟩
      exact ⟨_, rfl, _, rfl, _, rfl, szl (by show 4 ≤ 1000000; decide), fun t ht => qq _ _ (same_new ht) ⟨t, _, rfl, hRi, upd_same⟩⟩
    · intro ys H1 s1 hy py
      rw [List.length_map, las] at py
      obtain ⟨ts, rfl, h2⟩ := pr_refs (W := fun t x => H1 t = some (.tup (vR (bxR ⟨x.r, x.c, 1, x.w⟩)))) (pr_imp (pr_join py (all_pr RL)) fun y x _ _ ⟨i, ⟨t, x', e1, e2, e3⟩, e4⟩ => ⟨t, e1, by rw [e2] at e4; cases e4; exact e3⟩)
      have hD0 : H D = none := hD
      refine ⟨_, rfl, q, _, rfl, .inl (lstOf (s1 _ _ hq)), _, _, rfl, rfl, _, rfl, by rw [List.length_map, las]; omega, by rw [List.length_map, las]; omega, ?_⟩
      have hn : (((as.map V.ref).length : Int) - 1).toNat = RL.length - 1 := by rw [List.length_map, las]; omega
      rw [hn]
      have base0 : ∀ j, (snakeB RL tn).take (RL.length + j) = RL.map (fun x => (⟨x.r, x.c, 1, x.w⟩ : Bx)) ++ ((List.range (RL.length - 1)).map fun k => (⟨(RL.getD k ⟨0, 0, 0⟩).r + 1, turnOf (RL.getD k ⟨0, 0, 0⟩) k tn, 1, 1⟩ : Bx)).take j := fun j => by
        unfold snakeB
        rw [List.take_append, List.take_of_length_le (by rw [List.length_map]; omega), List.length_map, Nat.add_sub_cancel_left]
      refine for_it (walk_range (n := RL.length - 1)) (fun i σ H2 => ∃ (a6 : Option V) (bs : List Addr), σ = [some (.ref q), some (.int (tn : Nat)), some (.ref D), none, none, none, a6] ∧ Same H H2 ∧ H2 D = some (.lst (bs.map V.ref)) ∧ Paired (fun a b => H2 a = some (.tup (vR (bxR b)))) bs ((snakeB RL tn).take (RL.length + i)))
        ⟨none, ts, rfl, s1, hy, by rw [base0, List.take_zero, List.append_nil]; exact pr_map_right h2⟩ (fun _ _ _ _ _ => trivial) ?_ ?_
      · rintro i x σ H2 H' hi ⟨a6, bs, rfl, s2, e2, p2⟩ ⟨rfl, hx⟩
        obtain rfl : x = V.int ((i : Nat) : Int) := Eq.trans hx (congrArg V.int (Int.zero_add _))
        have hRi : RL[i]? = some (RL[i]'(by omega)) := List.getElem?_eq_getElem _
        have hwi := hw _ (List.mem_of_getElem? hRi)
        obtain ⟨a, ha, ea⟩ := pr_get2 pr (i := i) (y := rwR (RL[i]'(by omega))) (by rw [List.getElem?_map, hRi]; rfl)
        have hg : RL.getD i ⟨0, 0, 0⟩ = RL[i]'(by omega) := by rw [List.getD_eq_getElem?_getD, hRi]; rfl
        refine ⟨_, rfl, .inl ⟨rfl, _, .inl (.inl e2)⟩, _, rfl, _, rfl, q, _, _, .ref a, rfl, rfl, lstOf (s2 _ _ hq), atI_nat (by rw [List.getElem?_map, ha]; rfl), a, _, _, .int ((RL[i]'(by omega)).r : Nat), rfl, rfl, tupOf (s2 _ _ ea), rfl, _, _, rfl, rfl, _, rfl, _, rfl, _, rfl, ⟨q, RL, i, tn⟩, rfl, hq0.same s2, ht, _, hRi, hwi.1, hwi.2, szl (by show 4 ≤ 1000000; decide), fun t htq => ?_⟩
        have s3 := same_new htq (o := .tup [.int (((RL[i]'(by omega)).r : Nat) + 1), .int (turnOf (RL[i]'(by omega)) i tn : Nat), .int 1, .int 1])
        have lbs : bs.length ≤ 200 := by
          rw [pr_len p2, List.length_take]
          have : (snakeB RL tn).length ≤ 200 := by unfold snakeB; rw [List.length_append, List.length_map, List.length_map, List.length_range]; omega
          omega
        refine ⟨D, _, _, rfl, rfl, s3 _ _ e2, szL (by rw [List.length_map]; omega), ?_⟩
        have tt : ∀ c xs o, (upd H' t (.tup [.int (((RL[i]'(by omega)).r : Nat) + 1), .int (turnOf (RL[i]'(by omega)) i tn : Nat), .int 1, .int 1])) c = some (.tup xs) → upd (upd H' t (.tup [.int (((RL[i]'(by omega)).r : Nat) + 1), .int (turnOf (RL[i]'(by omega)) i tn : Nat), .int 1, .int 1])) D o c = some (.tup xs) := fun c xs o e => by
          rw [upd_ne (ne_of e (s3 _ _ e2) (by intro z; cases z))]
          exact e
        refine ⟨_, bs ++ [t], rfl, same_upd (s2.trans s3) hD0, ?_, ?_⟩
        · rw [upd_same, List.map_append]; rfl
        · rw [show RL.length + (i + 1) = RL.length + i + 1 by omega, List.take_add_one]
          have hlast : (snakeB RL tn)[RL.length + i]? = some ⟨(RL[i]'(by omega)).r + 1, turnOf (RL[i]'(by omega)) i tn, 1, 1⟩ := by
            unfold snakeB
            rw [List.getElem?_append_right (by rw [List.length_map]; omega), List.length_map, Nat.add_sub_cancel_left, List.getElem?_map, List.getElem?_range hi]
            dsimp only [Option.map]
            rw [hg]
          rw [hlast]
          exact Paired.snoc (pr_imp p2 fun c b _ _ e => tt _ _ _ (s3 _ _ e)) (tt _ _ _ upd_same)
      · rintro σ H2 ⟨a6, bs, rfl, s2, e2, p2⟩
        refine ⟨_, rfl, k H2 D s2 ⟨bs, e2, pr_map_right ?_⟩⟩
        rw [List.take_of_length_le (by unfold snakeB; rw [List.length_append, List.length_map, List.length_map, List.length_range]; exact Nat.le_refl _)] at p2
        exact p2
end
end Qf
namespace Qf
open PySem PySem.Spec PyProof.Rows L2 LamX
def spLawRound : Sp := mkSp (fun a : TnA => [.ref a.q, .int (a.tn : Nat)]) fun a H Q => LstAt H a.q (a.RL.map rwR) ∧ a.tn ≤ 10 ∧ a.RL.length ≤ 100 ∧ (∀ x ∈ a.RL, 1 ≤ x.w ∧ x.w ≤ 100) ∧ ∃ x, a.RL[0]? = some x ∧ 1 ≤ x.r ∧ 1 ≤ x.c ∧
  ∀ H' q', Same H H' → LstAt H' q' ((roundB x a.RL a.tn).map bxR) → Q (.ref q') H'
def spLawEnds : Sp := mkSp (fun a : TnA => [.ref a.q, .int (a.tn : Nat)]) fun a H Q => LstAt H a.q (a.RL.map rwR) ∧ a.tn ≤ 9 ∧ (∀ x ∈ a.RL, 1 ≤ x.w ∧ x.w ≤ 100) ∧ ∃ x y, a.RL[0]? = some x ∧ a.RL[a.RL.length - 1]? = some y ∧
  ∀ H' q' c1 c2, Same H H' → H' q' = some (.lst [.ref c1, .ref c2]) → H' c1 = some (.tup [.int (x.r : Nat), .int (turnOf x 0 (a.tn + 1) : Nat)]) → H' c2 = some (.tup [.int (y.r : Nat), .int (turnOf y (a.RL.length - 1) a.tn : Nat)]) → Q (.ref q') H'
def spLawLong : Sp := mkSp (fun p : Addr => [.ref p]) fun p H Q => PotAt H p ∧ ∀ (d1 d2 : Nat) H' q', d1 < 2 → d2 < 2 → Sx [p] H H' → PotAt H' p → LstAt H' q' ((longR (32 * d1 + d2)).map rwR) → Q (.ref q') H'
theorem sTh {H H' : Hp} {p : Addr} (_ : H' p = none) (s : Same H H') : Same H H' := s
theorem atTh {H' : Hp} {p c : Addr} {o : HO} (_ : H' p = none) (e : H' c = some o) : H' c = some o := e
theorem tup4 {a b c d : Int} {B : Bx} (ha : a = (B.r : Nat)) (hb : b = (B.c : Nat)) (hc : c = (B.h : Nat)) (hd : d = (B.w : Nat)) : some (HO.tup [V.int a, V.int b, V.int c, V.int d]) = some (HO.tup (vR (bxR B))) := by rw [ha, hb, hc, hd]; rfl
section
variable {P : Program} {w : World} {K : PySem.W.Frag} {mg : Str → Option Value} {base : Heap}
theorem ok__law_ends (B : Bl mg) (D : Dfn K mg "_law_ends" s__law_ends) (c__law_turn : Cal P w K mg base 1 "_law_turn" spLawTurn) : Cal P w K mg base 2 "_law_ends" spLawEnds := by
  refine cal_of D sc__law_ends (fun _ _ _ _ _ _ us hl => match us, hl with | [_, _], _ => rfl) (fun vs H Q E h => ?_) (fun f cdv A outer s H vs Q E hr h => ?_)
  · obtain ⟨a, rfl, _⟩ := h
    rfl
  · have nd := sc__law_ends.nd
    have hu := hu_of hr
    have hu65 := hu65_of hr
    obtain ⟨⟨q, RL, k0, tn⟩, rfl, hq0, ht, hw, x, y, hx, hy, k⟩ := h
    dsimp only at hq0 ht hw hx hy k
    refine ⟨_, (pss_cons (ps_set (i := 2) nd rfl (by first | exact Or.inl rfl | exact Or.inr rfl) (pe_op op_sub (pe_callB call_len_seq (by rfl) B.len bt_len (pa_cons (pv 0) pa_nil)) pe_int))
      (pss_one (ps_ret (pe_lst (pa_cons (pe_tup (pa_cons (pe_ix ix_tup (pe_ix ix_list (pv 0) pe_int (fun _ _ => rfl)) pe_int (fun _ _ => rfl)) (pa_cons (pe_c c__law_turn hr (by omega) rfl (pa_cons (pv 0) (pa_cons pe_int (pa_cons (pe_op op_add (pv 1) pe_int) pa_nil)))) pa_nil))) (pa_cons (pe_tup (pa_cons (pe_ix ix_tup (pe_ix ix_list (pv 0) (pv 2) (fun _ _ => rfl)) pe_int (fun _ _ => rfl)) (pa_cons (pe_c c__law_turn hr (by omega) rfl (pa_cons (pv 0) (pa_cons (pv 2) (pa_cons (pv 1) pa_nil)))) pa_nil))) pa_nil)))))), ?_⟩
    obtain ⟨as, hq, pr⟩ := id hq0
    have las : as.length = RL.length := by rw [pr_len pr, List.length_map]
    have hpos := get_lt hx
    have hwx := hw x (List.mem_of_getElem? hx)
    have hwy := hw y (List.mem_of_getElem? hy)
    have el : ((as.map V.ref).length : Int) - 1 = ((RL.length - 1 : Nat) : Int) := by rw [List.length_map, las]; omega
    obtain ⟨a, ha, ea⟩ := pr_get2 pr (i := 0) (y := rwR x) (by rw [List.getElem?_map, hx]; rfl)
    obtain ⟨b, hb, eb⟩ := pr_get2 pr (i := RL.length - 1) (y := rwR y) (by rw [List.getElem?_map, hy]; rfl)
    refine ⟨_, rfl, q, _, rfl, .inl (lstOf hq), _, _, rfl, rfl, ?_⟩
    refine ⟨_, rfl, q, _, _, .ref a, rfl, rfl, lstOf hq, at_of (j := 0) rfl (by rw [List.getElem?_map, ha]; rfl), a, _, _, .int (x.r : Nat), rfl, rfl, tupOf ea, rfl, _, rfl, _, rfl, _, _, rfl, rfl, ⟨q, RL, 0, tn + 1⟩, rfl, hq0, (by show tn + 1 ≤ 10; omega), x, hx, hwx.1, hwx.2, szl (by show 2 ≤ 1000000; decide), fun c1 hc1 => ?_⟩
    have s1 := same_new hc1 (o := .tup [.int (x.r : Nat), .int (turnOf x 0 (tn + 1) : Nat)])
    refine ⟨_, rfl, _, rfl, q, _, _, .ref b, rfl, rfl, lstOf (s1 _ _ hq), at_of (j := RL.length - 1) el (by rw [List.getElem?_map, hb]; rfl), b, _, _, .int (y.r : Nat), rfl, rfl, tupOf (s1 _ _ eb), rfl, _, rfl, _, rfl, _, rfl, ⟨q, RL, RL.length - 1, tn⟩, ?_, hq0.same s1, (by show tn ≤ 10; omega), y, hy, hwy.1, hwy.2, szl (by show 2 ≤ 1000000; decide), fun c2 hc2 => ⟨szl (by show 2 ≤ 1000000; decide), fun l hl => ?_⟩⟩
    · show [V.ref q, V.int (((as.map V.ref).length : Int) - 1), V.int (tn : Nat)] = _
      rw [el]
    have s2 := sNew s1 hc2 (o := .tup [.int (y.r : Nat), .int (turnOf y (RL.length - 1) tn : Nat)])
    exact k _ l c1 c2 (sNew s2 hl) upd_same (same_new hl _ _ (same_new hc2 _ _ upd_same)) (same_new hl _ _ upd_same)
theorem ok__law_round (B : Bl mg) (D : Dfn K mg "_law_round" s__law_round) (c__law_turn : Cal P w K mg base 1 "_law_turn" spLawTurn) : Cal P w K mg base 2 "_law_round" spLawRound := by
  refine cal_of D sc__law_round (fun _ _ _ _ _ _ us hl => match us, hl with | [_, _], _ => rfl) (fun vs H Q E h => ?_) (fun f cdv A outer s H vs Q E hr h => ?_)
  · obtain ⟨a, rfl, _⟩ := h
    rfl
  · have nd := sc__law_round.nd
    have hu := hu_of hr
    have hu65 := hu65_of hr
    obtain ⟨⟨q, RL, k0, tn⟩, rfl, hq0, ht, hl, hw, x, hx, hr1, hc1, k⟩ := h
    dsimp only at hq0 ht hl hw hx k
    refine ⟨_, (pss_cons (ps_asg (pe_ix ix_list (pv 0) pe_int (fun _ _ => rfl)) (pg_tup rfl (pgs_cons (pg_name (i := 2) nd rfl (by first | exact Or.inl rfl | exact Or.inr rfl)) (pgs_cons (pg_name (i := 3) nd rfl (by first | exact Or.inl rfl | exact Or.inr rfl)) (pgs_cons (pg_name (i := 4) nd rfl (by first | exact Or.inl rfl | exact Or.inr rfl)) pgs_nil)))))
      (pss_cons (ps_set (i := 5) nd rfl (by first | exact Or.inl rfl | exact Or.inr rfl) (pe_op op_sub (pe_op op_mul pe_int (pe_callB call_len_seq (by rfl) B.len bt_len (pa_cons (pv 0) pa_nil))) pe_int))
      (pss_cons (ps_set (i := 6) nd rfl (by first | exact Or.inl rfl | exact Or.inr rfl) (pe_lst (pa_cons (pe_tup (pa_cons (pe_op op_sub (pv 2) pe_int) (pa_cons (pe_op op_sub (pv 3) pe_int) (pa_cons pe_int (pa_cons (pe_op op_add (pv 4) pe_int) pa_nil))))) (pa_cons (pe_tup (pa_cons (pe_op op_add (pv 2) (pv 5)) (pa_cons (pe_op op_sub (pv 3) pe_int) (pa_cons pe_int (pa_cons (pe_op op_add (pv 4) pe_int) pa_nil))))) pa_nil))))
      (pss_cons (ps_set (i := 6) nd rfl (by first | exact Or.inl rfl | exact Or.inr rfl) (pe_op op_cat (pv 6) (pe_lst (pa_cons (pe_tup (pa_cons (pv 2) (pa_cons (pe_op op_sub (pv 3) pe_int) (pa_cons (pv 5) (pa_cons pe_int pa_nil))))) (pa_cons (pe_tup (pa_cons (pv 2) (pa_cons (pe_op op_add (pv 3) (pv 4)) (pa_cons (pv 5) (pa_cons pe_int pa_nil))))) pa_nil)))))
      (pss_cons (ps_for PassesOwn.never rfl (pi_range1 rfl B.range (pa_cons (pe_op op_sub (pe_callB call_len_seq (by rfl) B.len bt_len (pa_cons (pv 0) pa_nil)) pe_int) pa_nil)) (pg_name (i := 7) nd rfl (by first | exact Or.inl rfl | exact Or.inr rfl))
      (pss_one (ps_expr (pe_bm PySem.F.plainAttrs_list PySem.F.slot_list_append PySem.F.type_list_append mt_append (pv 6) (pa_cons (pe_tup (pa_cons (pe_op op_add (pe_op op_add (pv 2) (pe_op op_mul pe_int (pv 7))) pe_int) (pa_cons (pe_op op_add (pv 3) (pe_callTy call_int1 (by rfl) B.int bt_int (pa_cons (pe_cmpR op_eq (pe_c c__law_turn hr (by omega) rfl (pa_cons (pv 0) (pa_cons (pv 7) (pa_cons (pv 1) pa_nil)))) (pv 3) (nomark _)) pa_nil))) (pa_cons pe_int (pa_cons (pe_op op_sub (pv 4) pe_int) pa_nil))))) pa_nil)))))
      (pss_one (ps_ret (pv 6)))))))), ?_⟩
    obtain ⟨as, hq, pr⟩ := id hq0
    have las : as.length = RL.length := by rw [pr_len pr, List.length_map]
    have hpos := get_lt hx
    have hwx := hw x (List.mem_of_getElem? hx)
    obtain ⟨a, ha, ea⟩ := pr_get2 pr (i := 0) (y := rwR x) (by rw [List.getElem?_map, hx]; rfl)
    refine ⟨_, rfl, q, _, _, .ref a, rfl, rfl, lstOf hq, at_of (j := 0) rfl (by rw [List.getElem?_map, ha]; rfl), ?_⟩
    refine ⟨a, _, rfl, tupOf ea, rfl, _, _, rfl, _, _, rfl, _, _, rfl, rfl, ?_⟩
    refine ⟨_, rfl, q, _, rfl, .inl (lstOf hq), _, _, rfl, rfl, .inl ⟨by decide, by decide⟩, _, _, rfl, rfl, ?_⟩
    have eh : (2 : Int) * ((as.map V.ref).length : Nat) - 1 = ((2 * RL.length - 1 : Nat) : Int) := by rw [List.length_map, las]; omega
    have er1 : (x.r : Int) - 1 = ((x.r - 1 : Nat) : Int) := by omega
    have ec1 : (x.c : Int) - 1 = ((x.c - 1 : Nat) : Int) := by omega
    refine ⟨_, rfl, _, _, rfl, rfl, _, rfl, _, _, rfl, rfl, _, rfl, _, _, rfl, rfl, szl (by show 4 ≤ 1000000; decide), fun t1 h1 => ?_⟩
    refine ⟨_, rfl, _, rfl, _, _, rfl, rfl, _, rfl, _, _, rfl, rfl, _, rfl, _, _, rfl, rfl, szl (by show 4 ≤ 1000000; decide), fun t2 h2 => ⟨szl (by show 2 ≤ 1000000; decide), fun l1 g1 => ?_⟩⟩
    refine ⟨_, rfl, _, rfl, _, rfl, _, _, rfl, rfl, _, rfl, szl (by show 4 ≤ 1000000; decide), fun t3 h3 => ?_⟩
    refine ⟨_, rfl, _, rfl, _, rfl, _, _, rfl, rfl, _, rfl, szl (by show 4 ≤ 1000000; decide), fun t4 h4 => ⟨szl (by show 2 ≤ 1000000; decide), fun l2 g2 => ?_⟩⟩
    have s1 := sTh h2 (same_new h1)
    have e1 := atTh h2 (c := t1) upd_same
    have s2 := sTh g1 (sNew s1 h2)
    have e2 := atTh g1 (c := t2) upd_same
    have s3 := sTh h3 (sNew s2 g1)
    have f1 := atTh h3 (c := l1) upd_same
    have s4 := sTh h4 (sNew s3 h3)
    have e3 := atTh h4 (c := t3) upd_same
    have s5 := sTh g2 (sNew s4 h4)
    have e4 := atTh g2 (c := t4) upd_same
    refine ⟨l1, l2, _, _, rfl, rfl, same_new g2 _ _ (same_new h4 _ _ (same_new h3 _ _ f1)), upd_same, (by show 2 + 2 ≤ sizeLine; exact szl (by decide)), fun D hD => ?_⟩
    have s6 := sTh hD (sNew s5 g2)
    have e1' := sTh hD (sNew (sNew (sNew (sNew (same_new h2) g1) h3) h4) g2) _ _ e1
    have e2' := sTh hD (sNew (sNew (sNew (same_new g1) h3) h4) g2) _ _ e2
    have e3' := sTh hD (sNew (same_new h4) g2) _ _ e3
    have e4' := sTh hD (same_new g2) _ _ e4
    revert hD s6 e1' e2' e3' e4'
    generalize upd _ l2 _ = H6
    intro hD s6 e1' e2' e3' e4'
    have hD0 : H D = none := by
      rcases hn : H D with _ | o
      · rfl
      · rw [s6 _ _ hn] at hD; cases hD
    have hn : (((as.map V.ref).length : Int) - 1).toNat = RL.length - 1 := by rw [List.length_map, las]; omega
    have base0 : ∀ j, (roundB x RL tn).take (4 + j) = frameB x RL.length ++ ((List.range (RL.length - 1)).map fun k => wallB x RL tn k).take j := fun j => by
      unfold roundB
      rw [List.take_append, List.take_of_length_le (show (frameB x RL.length).length ≤ 4 + j from Nat.le_add_right 4 j), show 4 + j - (frameB x RL.length).length = j from Nat.add_sub_cancel_left 4 j]
    have lenR : (roundB x RL tn).length = 4 + (RL.length - 1) := by unfold roundB; rw [List.length_append, List.length_map, List.length_range]; rfl
    have p0 : Paired (fun a b => H6 a = some (.tup (vR (bxR b)))) [t1, t2, t3, t4] ((roundB x RL tn).take (4 + 0)) := by
      rw [base0, List.take_zero, List.append_nil]
      refine .cons (e1'.trans (tup4 er1 ec1 rfl (by push_cast; rfl))) (.cons (e2'.trans (tup4 ?_ ec1 rfl (by push_cast; rfl))) (.cons (e3'.trans (tup4 rfl ec1 eh rfl)) (.cons (e4'.trans (tup4 rfl (by push_cast; rfl) eh rfl)) .nil)))
      rw [eh]; push_cast; rfl
    refine ⟨_, rfl, q, _, rfl, .inl (lstOf (upd_ne (ne_of_none (s6 _ _ hq) hD) |>.trans (s6 _ _ hq))), _, _, rfl, rfl, _, rfl, by rw [List.length_map, las]; omega, by rw [List.length_map, las]; omega, ?_⟩
    rw [hn]
    refine for_it (walk_range (n := RL.length - 1)) (fun i σ H2 => ∃ (a6 : Option V) (bs : List Addr), σ = [some (.ref q), some (.int (tn : Nat)), some (.int (x.r : Nat)), some (.int (x.c : Nat)), some (.int (x.w : Nat)), some (.int (2 * ((as.map V.ref).length : Nat) - 1)), some (.ref D), a6] ∧ Same H H2 ∧ H2 D = some (.lst (bs.map V.ref)) ∧ Paired (fun a b => H2 a = some (.tup (vR (bxR b)))) bs ((roundB x RL tn).take (4 + i)))
      ⟨none, [t1, t2, t3, t4], rfl, same_upd s6 hD0, upd_same, ?_⟩ (fun _ _ _ _ _ => trivial) ?_ ?_
    · exact pr_imp p0 fun a b _ _ e => (upd_ne (ne_of_none e hD)).trans e
    · rintro i z σ H2 H' hi ⟨a6, bs, rfl, s2, e2, p2⟩ ⟨rfl, hz⟩
      obtain rfl : z = V.int ((i : Nat) : Int) := Eq.trans hz (congrArg V.int (Int.zero_add _))
      have hRi : RL[i]? = some (RL[i]'(by omega)) := List.getElem?_eq_getElem _
      have hwi := hw _ (List.mem_of_getElem? hRi)
      have hg : RL.getD i ⟨0, 0, 0⟩ = RL[i]'(by omega) := by rw [List.getD_eq_getElem?_getD, hRi]; rfl
      refine ⟨_, rfl, .inl ⟨rfl, _, .inl (.inl e2)⟩, _, rfl, _, rfl, _, _, rfl, rfl, .inl ⟨by decide, by decide⟩, _, _, rfl, rfl, _, _, rfl, rfl, ?_⟩
      refine ⟨_, rfl, _, rfl, _, rfl, _, rfl, ⟨q, RL, i, tn⟩, rfl, hq0.same s2, ht, _, hRi, hwi.1, hwi.2, ?_⟩
      refine ⟨_, rfl, rfl, .inr ⟨_, rfl, _, _, rfl, rfl, _, rfl, _, _, rfl, rfl, szl (by show 4 ≤ 1000000; decide), fun t htq => ?_⟩⟩
      have lbs : bs.length ≤ 200 := by
        rw [pr_len p2, List.length_take, lenR]
        omega
      have e0 : some (HO.tup [V.int ((x.r : Int) + 2 * (i : Nat) + 1), V.int ((x.c : Int) + (if decide (V.int (turnOf (RL[i]'(by omega)) i tn : Nat) = V.int (x.c : Nat)) = true then 1 else 0)), V.int 1, V.int ((x.w : Int) - 1)]) = some (HO.tup (vR (bxR (wallB x RL tn i)))) := by
        unfold wallB
        rw [hg]
        refine tup4 (by push_cast; rfl) ?_ rfl (by show ((x.w : Nat) : Int) - 1 = ((x.w - 1 : Nat) : Int); omega)
        rw [dec_int]
        show _ = ((x.c + (if turnOf (RL[i]'(by omega)) i tn = x.c then 1 else 0) : Nat) : Int)
        by_cases hh : turnOf (RL[i]'(by omega)) i tn = x.c
        · rw [if_pos hh, if_pos (by rw [hh]; exact beq_self_eq_true _)]; push_cast; rfl
        · rw [if_neg hh, if_neg (by rw [beq_iff_eq]; omega)]; push_cast; rfl
      have s3 := same_new htq (o := HO.tup [V.int ((x.r : Int) + 2 * (i : Nat) + 1), V.int ((x.c : Int) + (if decide (V.int (turnOf (RL[i]'(by omega)) i tn : Nat) = V.int (x.c : Nat)) = true then 1 else 0)), V.int 1, V.int ((x.w : Int) - 1)])
      have et := upd_same (H := H') (a := t) (o := HO.tup [V.int ((x.r : Int) + 2 * (i : Nat) + 1), V.int ((x.c : Int) + (if decide (V.int (turnOf (RL[i]'(by omega)) i tn : Nat) = V.int (x.c : Nat)) = true then 1 else 0)), V.int 1, V.int ((x.w : Int) - 1)])
      rw [e0] at et
      refine ⟨D, _, _, rfl, rfl, s3 _ _ e2, szL (by rw [List.length_map]; omega), ?_⟩
      show ∃ a6 bs', _
      revert s3 et
      show Same H' (upd H' t (HO.tup [V.int ((x.r : Int) + 2 * (i : Nat) + 1), V.int ((x.c : Int) + (if decide (V.int (turnOf (RL[i]'(by omega)) i tn : Nat) = V.int (x.c : Nat)) = true then 1 else 0)), V.int 1, V.int ((x.w : Int) - 1)])) → _ → ∃ a6 bs', _ = _ ∧ Same H (upd (upd H' t (HO.tup [V.int ((x.r : Int) + 2 * (i : Nat) + 1), V.int ((x.c : Int) + (if decide (V.int (turnOf (RL[i]'(by omega)) i tn : Nat) = V.int (x.c : Nat)) = true then 1 else 0)), V.int 1, V.int ((x.w : Int) - 1)])) D _) ∧ _
      generalize upd H' t _ = H3
      intro s3 et
      have tt : ∀ c xs o, H3 c = some (.tup xs) → upd H3 D o c = some (.tup xs) := fun c xs o e => by
        rw [upd_ne (ne_of e (s3 _ _ e2) (by intro z; cases z))]
        exact e
      refine ⟨_, bs ++ [t], rfl, same_upd (s2.trans s3) hD0, ?_, ?_⟩
      · rw [upd_same, List.map_append]; rfl
      · rw [show 4 + (i + 1) = 4 + i + 1 by omega, List.take_add_one]
        have hlast : (roundB x RL tn)[4 + i]? = some (wallB x RL tn i) := by
          unfold roundB
          rw [List.getElem?_append_right (Nat.le_add_right 4 i), show 4 + i - (frameB x RL.length).length = i from Nat.add_sub_cancel_left 4 i, List.getElem?_map, List.getElem?_range hi]
          rfl
        rw [hlast]
        exact Paired.snoc (pr_imp p2 fun c b _ _ e => tt _ _ _ (s3 _ _ e)) (tt _ _ _ et)
    · rintro σ H2 ⟨a6, bs, rfl, s2, e2, p2⟩
      refine ⟨_, rfl, k H2 D s2 ⟨bs, e2, pr_map_right ?_⟩⟩
      rw [List.take_of_length_le (by rw [lenR]; exact Nat.le_refl _)] at p2
      exact p2
theorem ok__law_long (B : Bl mg) (D : Dfn K mg "_law_long" s__law_long) (c__law_digit : Cal P w K mg base 1 "_law_digit" spDigit) : Cal P w K mg base 2 "_law_long" spLawLong := by
  refine cal_of D sc__law_long (fun _ _ _ _ _ _ us hl => match us, hl with | [_], _ => rfl) (fun vs H Q E h => ?_) (fun f cdv A outer s H vs Q E hr h => ?_)
  · obtain ⟨a, rfl, _⟩ := h
    rfl
  · have nd := sc__law_long.nd
    have hu := hu_of hr
    have hu65 := hu65_of hr
    obtain ⟨p, rfl, hp, k⟩ := h
    refine ⟨_, (pss_cons (ps_set (i := 1) nd rfl (by first | exact Or.inl rfl | exact Or.inr rfl) (pe_op op_add (pe_op op_mul pe_int (pe_c c__law_digit hr (by omega) rfl (pa_cons (pv 0) (pa_cons pe_int pa_nil)))) (pe_c c__law_digit hr (by omega) rfl (pa_cons (pv 0) (pa_cons pe_int pa_nil)))))
      (pss_one (ps_ret (pe_lc (own := [("_law_k", 2)]) rfl nd (pi_range1 rfl B.range (pa_cons pe_int pa_nil)) (blkOk_by (N := N__law_long) (sc := defScope s__law_long) (by decide +kernel)) (fun _ _ _ _ _ => (pg_name (i := 2) nd rfl (by first | exact Or.inl rfl | exact Or.inr rfl))) (fun _ _ _ _ _ => pts_nil) (fun _ _ _ _ _ => (pe_tup (pa_cons (pe_op op_add (pv 1) (pe_op op_mul pe_int (pv 2))) (pa_cons (pe_op op_mul pe_int (pe_callTy call_int1 (by rfl) B.int bt_int (pa_cons (pe_cmpR op_lt (pv 2) pe_int (nomark _)) pa_nil))) (pa_cons (pe_op op_sub pe_int (pe_op op_mul pe_int (pe_callTy call_int1 (by rfl) B.int bt_int (pa_cons (pe_cmpR op_lt (pv 2) pe_int (nomark _)) pa_nil)))) pa_nil))))))))), ?_⟩
    refine ⟨_, rfl, ⟨p, 2⟩, rfl, hp, (by show 0 < 2; decide), (by show 2 ≤ 1000; decide), fun d1 H1 hd1 p1 x1 => ?_⟩
    refine ⟨_, _, rfl, rfl, .inl ⟨by decide, by decide⟩, _, rfl, ⟨p, 2⟩, rfl, p1, (by show 0 < 2; decide), (by show 2 ≤ 1000; decide), fun d2 H2 hd2 p2 x2 => ?_⟩
    dsimp only at hd1 p1 x1 hd2 p2 x2
    have x02 := x1.trans x2
    refine ⟨_, _, rfl, rfl, 16, rfl, by decide, by decide, fun D hD => ?_⟩
    refine lc_map (walk_range (n := 16)) (fun i y H' => ∃ t, y = V.ref t ∧ H' t = some (.tup (vR (rwR ⟨32 * d1 + d2 + 2 * i, if i < 4 then 8 else 0, if i < 4 then 56 else 64⟩)))) hD (fun _ _ => trivial) (szL (by decide)) ?_ ?_ gName_mono ?_
    · rintro i y H3 H' ⟨t, h1, h3⟩ ⟨l, hl⟩ sx
      exact ⟨t, h1, sx _ _ (nin1 h3 hl (by intro z; cases z)) h3⟩
    · rintro i x H3 H' hi s3 _ ⟨rfl, hx⟩ Q' qq
      obtain rfl : x = V.int ((i : Nat) : Int) := Eq.trans hx (congrArg V.int (Int.zero_add _))
      refine ⟨rfl, _, rfl, _, rfl, _, _, rfl, rfl, .inl ⟨by decide, by decide⟩, _, _, rfl, rfl, ?_⟩
      refine ⟨_, rfl, _, _, rfl, rfl, .inr ⟨_, rfl, _, _, rfl, rfl, .inl ⟨by decide, by decide⟩, ?_⟩⟩
      refine ⟨_, rfl, _, _, rfl, rfl, .inr ⟨_, rfl, _, _, rfl, rfl, .inl ⟨by decide, by decide⟩, _, _, rfl, rfl, szl (by show 3 ≤ 1000000; decide), fun t ht => ?_⟩⟩
      refine qq _ _ (same_new ht) ⟨t, rfl, ?_⟩
      rw [upd_same]
      by_cases h4 : i < 4
      · have e : decide (((i : Nat) : Int) < 4) = true := decide_eq_true (by omega)
        show some (HO.tup [.int (32 * (d1 : Int) + (d2 : Nat) + 2 * (i : Nat)), .int (8 * (if decide (((i : Nat) : Int) < 4) = true then 1 else 0)), .int (64 - 8 * (if decide (((i : Nat) : Int) < 4) = true then 1 else 0))]) = some (HO.tup [.int ((32 * d1 + d2 + 2 * i : Nat) : Int), .int ((if i < 4 then 8 else 0 : Nat) : Int), .int ((if i < 4 then 56 else 64 : Nat) : Int)])
        rw [e, if_pos rfl, if_pos h4, if_pos h4]
        push_cast
        rfl
      · have e : decide (((i : Nat) : Int) < 4) = false := decide_eq_false (by omega)
        show some (HO.tup [.int (32 * (d1 : Int) + (d2 : Nat) + 2 * (i : Nat)), .int (8 * (if decide (((i : Nat) : Int) < 4) = true then 1 else 0)), .int (64 - 8 * (if decide (((i : Nat) : Int) < 4) = true then 1 else 0))]) = some (HO.tup [.int ((32 * d1 + d2 + 2 * i : Nat) : Int), .int ((if i < 4 then 8 else 0 : Nat) : Int), .int ((if i < 4 then 56 else 64 : Nat) : Int)])
        rw [e, if_neg Bool.false_ne_true, if_neg h4, if_neg h4]
        push_cast
        rfl
    · intro ys H3 s3 hy py
      obtain ⟨ts, rfl, h2⟩ := pr_refs (W := fun t i => H3 t = some (.tup (vR (rwR ⟨32 * d1 + d2 + 2 * i, if i < 4 then 8 else 0, if i < 4 then 56 else 64⟩)))) (pr_swap (pr_imp py fun i y _ _ ⟨t, e1, e2⟩ => ⟨t, e1, e2⟩))
      refine k d1 d2 H3 D hd1 hd2 (x02.trans (sxS s3)) ?_ ⟨ts, hy, ?_⟩
      · obtain ⟨a, b, h1, h2⟩ := p2
        exact ⟨a, b, s3 _ _ h1, h2⟩
      · unfold longR
        rw [List.map_map]
        exact pr_map_right h2
end
end Qf
namespace Qf
open PySem PySem.Spec PyProof.Rows L2 LamX
structure IfA where
  tp : Addr
  n : Nat
  t : Qt
  wh : Nat
  by' : Bool
  q : Addr
  RL : List Rw
  tn : Nat
def spLawIsFull (Pt : Addr) : Sp := mkSp (fun a : IfA => [.ref a.tp, .int (a.wh : Nat), .str (if a.by' then "corners" else "sides"), .ref a.q, .int (a.tn : Nat)]) fun a H Q => ShapeAt H a.tp a.n a.t ∧ SnkOK a.n a.t a.RL a.tn ∧ LstAt H a.q (a.RL.map rwR) ∧ a.tn ≤ 9 ∧ (∀ x ∈ a.RL, 1 ≤ x.w ∧ x.w ≤ 100) ∧ a.RL.length ≤ 100 ∧ Tabs (TG Pt) H ∧ ∀ H', Q (.bl true) H'
theorem shDs_shaped (n : Nat) (t : Qt) : SeqAt.shaped (.list [shD n t]) = true := by
  have := shD_depth n t
  have h2 := shD_lay n t
  unfold SeqAt.shaped
  simp [PyData.canLay0, PyData.canLayAll0, PyData.depth, PyData.depthAll, h2]
  omega
theorem shDs_eqv (n : Nat) (t : Qt) : PyData.eqv (.list [shD n t]) (.list [shD n t]) = true := SeqAt.eqv_refl _ (by simp [PyData.canLay0, PyData.canLayAll0, shD_lay n t])
theorem pr_eqmap {α β : Type} {f : β → α} : ∀ {l₁ : List α} {l₂ : List β}, Paired (fun a b => a = f b) l₁ l₂ → l₁ = l₂.map f
  | _, _, .nil => rfl
  | _, _, .cons h t => by rw [h, pr_eqmap t]; rfl
theorem sum_wide : ∀ RL : List Rw, (RL.map fun x => ((x.w : Nat) : Int)).sum = (((RL.map Rw.w).sum : Nat) : Int)
  | [] => rfl
  | a :: l => by rw [List.map_cons, List.sum_cons, sum_wide l, List.map_cons, List.sum_cons, Int.natCast_add]
section
variable {P : Program} {w : World} {K : PySem.W.Frag} {mg : Str → Option Value} {base : Heap}
theorem ok__law_is_full (B : Bl mg) (D : Dfn K mg "_law_is_full" s__law_is_full) {Pt : Addr} (c_parts_of : Cal P w K mg base 17 "parts_of" (spPartsOf Pt)) (c_nest : Cal P w K mg base 17 "nest" (spNest Pt)) (c__law_ends : Cal P w K mg base 2 "_law_ends" spLawEnds) (c_chain : Cal P w K mg base 17 "chain" spChain) : Cal P w K mg base 18 "_law_is_full" (spLawIsFull Pt) := by
  refine cal_of D sc__law_is_full (fun _ _ _ _ _ _ us hl => match us, hl with | [_, _, _, _, _], _ => rfl) (fun vs H Q E h => ?_) (fun f cdv A outer s H vs Q E hr h => ?_)
  · obtain ⟨a, rfl, _⟩ := h
    rfl
  · have nd := sc__law_is_full.nd
    have hu := hu_of hr
    have hu65 := hu65_of hr
    obtain ⟨⟨tp, n, t, wh, by', q, RL, tn⟩, rfl, Sh, G, hq0, ht, hw, hl, HT, k⟩ := h
    dsimp only at Sh G hq0 ht hw hl HT k
    refine ⟨_, (pss_cons (ps_if (pt_cmpR op_eq (pv 1) pe_int (nomark _)) (pss_one (ps_ret (pe_cmpR (op_eqD hr.units) (pe_c c_parts_of hr (by omega) rfl (pa_cons (pv 0) (pa_cons (pv 2) pa_nil))) (pe_lst (pa_cons (pv 0) pa_nil)) (nomark _)))) pss_nil)
      (pss_cons (ps_if (pt_cmpR op_eq (pv 1) pe_int (nomark _)) (pss_one (ps_ret (pe_cmpR (op_eqD hr.units) (pe_c c_nest hr (by omega) rfl (pa_cons (pv 0) (pa_cons (pv 2) pa_nil))) (pe_tup (pa_cons (pe_lst (pa_cons pe_non pa_nil)) (pa_cons (pe_lst pa_nil) pa_nil))) (nomark _)))) pss_nil)
      (pss_cons (ps_set (i := 5) nd rfl (by first | exact Or.inl rfl | exact Or.inr rfl) (pe_c c__law_ends hr (by omega) rfl (pa_cons (pv 3) (pa_cons (pv 4) pa_nil))))
      (pss_cons (ps_set (i := 6) nd rfl (by first | exact Or.inl rfl | exact Or.inr rfl) (pe_c c_chain hr (by omega) rfl (pa_cons (pv 0) (pa_cons (pv 2) (pa_cons (pe_ix ix_list (pv 5) pe_int (fun _ _ => rfl)) (pa_cons (pe_ix ix_list (pv 5) pe_int (fun _ _ => rfl)) pa_nil))))))
      (pss_cons (ps_set (i := 7) nd rfl (by first | exact Or.inl rfl | exact Or.inr rfl) (pe_op op_sub (pe_op op_add (pe_callB (cr_sum rfl) (by rfl) B.sum bt_sum (pa_cons (pe_lc (own := [("_law_row", 8), ("_law_column", 9), ("_law_wide", 10)]) rfl nd (pi_list (pv 3)) (blkOk_by (N := N__law_is_full) (sc := defScope s__law_is_full) (by decide +kernel)) (fun _ _ _ _ _ => (pg_tupK (K := K) (n := 3) rfl (pgs_cons (pg_name (i := 8) nd rfl (by first | exact Or.inl rfl | exact Or.inr rfl)) (pgs_cons (pg_name (i := 9) nd rfl (by first | exact Or.inl rfl | exact Or.inr rfl)) (pgs_cons (pg_name (i := 10) nd rfl (by first | exact Or.inl rfl | exact Or.inr rfl)) pgs_nil))))) (fun _ _ _ _ _ => pts_nil) (fun _ _ _ _ _ => (pv 10))) pa_nil)) (pe_callB call_len_seq (by rfl) B.len bt_len (pa_cons (pv 3) pa_nil))) pe_int))
      (pss_cons (ps_if (pt_cmpR op_eq (pv 2) pe_str (nomark _)) (pss_one (ps_set (i := 7) nd rfl (by first | exact Or.inl rfl | exact Or.inr rfl) (pe_op op_sub (pv 7) (pe_op op_mul pe_int (pe_op op_sub (pe_callB call_len_seq (by rfl) B.len bt_len (pa_cons (pv 3) pa_nil)) pe_int))))) pss_nil)
      (pss_one (ps_ret (pe_and (pe_callB call_isi (by rfl) B.isinstance bt_isinstance (pa_cons (pv 6) (pa_cons (pe_bltn (v := .ty "list") (u := .type "list") (by rfl) B.list bt_list rfl) pa_nil))) (pe_and (pe_cmpR op_eq (pe_lenSetN rfl rfl B.len rfl B.set (pv 6)) (pe_callB call_len_seq (by rfl) B.len bt_len (pa_cons (pv 6) pa_nil)) (nomark _)) (pe_one (pe_cmpR op_eq (pe_callB call_len_seq (by rfl) B.len bt_len (pa_cons (pv 6) pa_nil)) (pv 7) (nomark _))))))))))))), ?_⟩
    refine ⟨_, rfl, rfl, _, rfl, ite_d (fun z => ?_) (fun z => ?_)⟩
    · refine ⟨_, rfl, _, rfl, ⟨tp, n, t, by'⟩, rfl, Sh, G.fit, G.lvs, HT, ?_, fun H1 q1 ss gs s1 HT1 hq1 hG hS => ?_⟩
      · intro gs hG
        obtain ⟨g, rfl, ug, e⟩ := G.part by' gs hG
        intro g' hg'
        rw [List.mem_singleton.mp hg']
        exact ug
      · obtain ⟨g, rfl, ug, e⟩ := G.part by' gs hG
        dsimp only at hS
        cases hS with
        | cons h1 h2 =>
          cases h2
          rename_i s0
          rw [e] at h1
          refine ⟨_, rfl, szl (by show 1 ≤ 1000000; decide), fun l hl => ?_⟩
          have sl := same_new hl (o := HO.lst [V.ref tp])
          refine ⟨.list [shD n t], .list [shD n t], .lst (lstOf (sl _ _ hq1)) (.cons (dp_shape (h1.same sl)) .nil), .lst (lstOf upd_same) (.cons (dp_shape ((Sh.ext s1).same sl)) .nil), shDs_shaped _ _, shDs_shaped _ _, ?_⟩
          rw [shDs_eqv]
          exact k _
    refine ⟨_, rfl, rfl, _, rfl, ite_d (fun z => ?_) (fun z => ?_)⟩
    · refine ⟨_, rfl, _, rfl, ⟨tp, n, t, by'⟩, rfl, Sh, G.fit, G.lvs, HT, fun H1 r la lb va vb gsP gsH kH kP s1 HT1 hr hla hlb hGP hGH oH oP pP pH => ?_⟩
      dsimp only at hGP hGH oH oP pP pH
      obtain ⟨g, rfl, ug, e⟩ := G.part by' gsP hGP
      have e0 : (gsH.filter fun g => !edgeB n (leafs n t) g) = [] := by
        rw [List.filter_eq_nil_iff]
        intro g hg
        rw [G.hole _ gsH hGH g hg]
        decide
      rw [e0] at oH pH
      cases pH
      cases pP with
      | cons h1 h2 =>
        cases h2
        obtain ⟨o, x, _, _, _, h3⟩ := h1
        have hv : ∀ v, ((x.c = 0 ∧ v = V.non) ∨ (0 < x.c ∧ ∃ (o' : Nat) (y : Lf), (leafs n t)[o']? = some y ∧ y.has x.r (x.c - 1) ∧ v = (valV kH (Sum.inl (o' : Int))).getD .non)) → v = .non := by
          rintro v (⟨_, h⟩ | ⟨_, o', y, _, _, h⟩)
          · exact h
          · rw [h, oH.out o' (fun g hg => by cases hg)]
            rfl
        obtain rfl := hv _ h3
        refine ⟨szl (by show 1 ≤ 1000000; decide), fun l1 h1 => ⟨szl (by show 0 ≤ 1000000; decide), fun l2 h2 => ⟨szl (by show 2 ≤ 1000000; decide), fun p hp => ?_⟩⟩⟩
        have s1 := sTh h2 (same_new h1)
        have f1 := atTh h2 (c := l1) upd_same
        have s2 := sTh hp (sNew s1 h2)
        have f1' := sTh hp (same_new h2) _ _ f1
        have f2' := atTh hp (c := l2) upd_same
        have s3 := same_new hp (o := .tup [.ref l1, .ref l2])
        refine ⟨.tuple [.list [.none], .list []], .tuple [.list [.none], .list []], .tup (tupOf (s3 _ _ (s2 _ _ hr))) (.cons (.lst (lstOf (s3 _ _ (s2 _ _ hla))) (.cons .non .nil)) (.cons (.lst (lstOf (s3 _ _ (s2 _ _ hlb))) .nil) .nil)), .tup (tupOf upd_same) (.cons (.lst (lstOf (s3 _ _ f1')) (.cons .non .nil)) (.cons (.lst (lstOf (s3 _ _ f2')) .nil) .nil)), by decide, by decide, ?_⟩
        rw [show PyData.eqv (.tuple [.list [.none], .list []]) (.tuple [.list [.none], .list []]) = true by decide]
        exact k _
    obtain ⟨x, y, o1, o2, hx, hy, hu1, hu2, b1, b2, b3, b4, ch⟩ := G.ends
    refine ⟨_, rfl, _, rfl, ⟨q, RL, 0, tn⟩, rfl, hq0, ht, hw, x, y, hx, hy, fun H1 q1 c1 c2 s1 hq1 hc1 hc2 => ?_⟩
    dsimp only at hc1 hc2
    refine ⟨_, rfl, _, rfl, _, rfl, q1, _, _, .ref c1, rfl, rfl, lstOf hq1, at_of (j := 0) rfl rfl, _, rfl, q1, _, _, .ref c2, rfl, rfl, lstOf hq1, at_of (j := 1) rfl rfl, ⟨tp, n, t, by', c1, c2, x.r, turnOf x 0 (tn + 1), y.r, turnOf y (RL.length - 1) tn, o1, o2⟩, rfl, Sh.same s1, G.fit, G.lvs, hc1, hc2, b1, b2, b3, b4, hu1, hu2, (ch by').1, fun H2 q2 zs kk s2 hq2 nz lz fz hk2 pz mz => ?_⟩
    dsimp only at pz mz
    have len := (ch by').2 kk pz mz
    have s12 := s1.trans s2
    obtain ⟨as, hq, pr⟩ := id hq0
    have las : as.length = RL.length := by rw [pr_len pr, List.length_map]
    have hpos := get_lt hx
    refine ⟨_, rfl, q, rfl, ⟨_, lstOf (s12 _ _ hq)⟩, fun D hD => ?_⟩
    refine lc_map (walk_list (xs := as.map V.ref)) (fun i y H' => ∃ x : Rw, RL[i]? = some x ∧ y = V.int (x.w : Nat)) hD (fun H' s' => lstOf (s' _ _ (s12 _ _ hq))) (szL (by rw [List.length_map]; omega)) (fun _ _ _ _ h _ _ => h) ?_ gTup3_mono ?_
    · rintro i y H3 H' hi s3 _ ⟨rfl, hy⟩ Q' qq
      rw [List.length_map] at hi
      rw [List.getElem?_map, List.getElem?_eq_getElem hi] at hy
      obtain rfl : V.ref as[i] = y := Option.some.inj hy
      obtain ⟨r, hr, er⟩ := pr_get pr (List.getElem?_eq_getElem hi)
      rw [List.getElem?_map] at hr
      have hRi : RL[i]? = some (RL[i]'(by omega)) := List.getElem?_eq_getElem _
      rw [hRi] at hr
      obtain rfl := Option.some.inj hr
      refine ⟨as[i], _, rfl, tupOf (s3 _ _ (s12 _ _ er)), rfl, _, _, rfl, _, _, rfl, _, _, rfl, rfl, rfl, ?_⟩
      exact ⟨_, rfl, qq _ _ (Same.refl _) ⟨_, hRi, rfl⟩⟩
    · intro ys H3 s3 hy py
      rw [List.length_map, las] at py
      obtain rfl : ys = (RL.map fun x => ((x.w : Nat) : Int)).map V.int := by
        rw [List.map_map]
        exact pr_eqmap (pr_imp (pr_join py (all_pr RL)) fun y x _ _ ⟨i, ⟨x', e1, e2⟩, e4⟩ => by rw [e1] at e4; cases e4; exact e2)
      refine ⟨D, _, rfl, lstOf hy, ?_⟩
      have hq3 := s3 _ _ (s12 _ _ hq)
      have hz3 := s3 _ _ hq2
      have el : ((as.map V.ref).length : Int) = (RL.length : Nat) := by rw [List.length_map, las]
      have es := sum_wide RL
      have nz' : (zs.map fun z => adS z).Nodup := List.Pairwise.map _ (fun a b h z => h (adS_inj z)) nz
      have hz3' : H3 q2 = some (.lst ((zs.map fun z => adS z).map V.str)) := by rw [List.map_map]; exact hz3
      have lz1 : (zs.map fun z => adS z).length ≤ 4000 := by rw [List.length_map, lz]; omega
      refine ⟨_, rfl, q, _, rfl, .inl (lstOf hq3), _, _, rfl, rfl, _, _, rfl, rfl, _, rfl, rfl, _, rfl, ite_d (fun z => ?_) (fun z => ?_)⟩
      · have hb : by' = true := by
          cases by'
          · exact absurd (show ("sides" : Str) = "corners" from V.str.inj z) (by decide)
          · rfl
        subst hb
        refine ⟨_, rfl, _, rfl, q, _, rfl, .inl (lstOf hq3), _, _, rfl, rfl, _, _, rfl, rfl, .inl ⟨by decide, by decide⟩, _, _, rfl, rfl, ?_⟩
        refine ⟨_, rfl, _, _, _, _, true, rfl, .ty _, .base (.lst hz3), kit_ty (by decide +kernel), true, rfl, iteT ?_⟩
        refine ⟨_, rfl, q2, _, rfl, lstOf hz3', nz', lz1, _, rfl, q2, _, rfl, .inl (lstOf hz3'), rfl, _, rfl, ite_d (fun _ => ?_) (fun z => absurd (by rw [List.length_map (f := V.str)]) z)⟩
        refine ⟨_, rfl, q2, _, rfl, .inl (lstOf hz3'), _, rfl, rfl, ?_⟩
        have e : V.int (((zs.map fun z => adS z).map V.str).length : Nat) = V.int (((RL.map fun x => ((x.w : Nat) : Int)).sum + ((as.map V.ref).length : Nat) - 1) - 2 * (((as.map V.ref).length : Nat) - 1)) := by
          rw [List.length_map, List.length_map, lz, es, el]
          rw [if_pos rfl] at len
          congr 1
          omega
        show Q (.bl (decide (_ = _))) H3
        rw [decide_eq_true e]
        exact k _
      · have hb : by' = false := by
          cases by'
          · rfl
          · exact absurd rfl z
        subst hb
        refine ⟨_, rfl, _, _, _, _, true, rfl, .ty _, .base (.lst hz3), kit_ty (by decide +kernel), true, rfl, iteT ?_⟩
        refine ⟨_, rfl, q2, _, rfl, lstOf hz3', nz', lz1, _, rfl, q2, _, rfl, .inl (lstOf hz3'), rfl, _, rfl, ite_d (fun _ => ?_) (fun z => absurd (by rw [List.length_map (f := V.str)]) z)⟩
        refine ⟨_, rfl, q2, _, rfl, .inl (lstOf hz3'), _, rfl, rfl, ?_⟩
        have e : V.int (((zs.map fun z => adS z).map V.str).length : Nat) = V.int ((RL.map fun x => ((x.w : Nat) : Int)).sum + ((as.map V.ref).length : Nat) - 1) := by
          rw [List.length_map, List.length_map, lz, es, el]
          rw [if_neg Bool.false_ne_true] at len
          congr 1
          omega
        show Q (.bl (decide (_ = _))) H3
        rw [decide_eq_true e]
        exact k _
end
end Qf
namespace Qf
open PySem PySem.Spec PyProof.Rows L2 LamX
def spLaw (K : PySem.W.Frag) (Pt : Addr) : Sp := mkSp (fun a : Addr × List Int => [.ref a.1]) fun a H Q => SqL K H a.1 (a.2.map V.int) ∧ Tabs (TG Pt) H ∧ ∀ H', Q (.bl true) H'
theorem tabs_sx {T : List (Addr × Str)} {H H' : Hp} {q : Addr} (t : Tabs T H) (x : Sx [q] H H') (hq : PotAt H q) : Tabs T H' := fun p hp => by
  obtain ⟨a, b, h1, h2⟩ := hq
  obtain ⟨ps, g1, g2, g3⟩ := t p hp
  refine ⟨ps, x _ _ (nin1 g1 h1 (by intro z; cases z)) g1, g2, fun pos cv hc => ?_⟩
  obtain ⟨c, e1, e2⟩ := g3 pos cv hc
  exact ⟨c, e1, x _ _ (nin1 e2 h1 (by intro z; cases z)) e2⟩
theorem PotAt.same {H H' : Hp} {q : Addr} (hq : PotAt H q) (s : Same H H') : PotAt H' q := by
  obtain ⟨a, b, h1, h2⟩ := hq
  exact ⟨a, b, s _ _ h1, h2⟩
theorem PotAt.fresh {H : Hp} {q l : Addr} (hq : PotAt H q) (hl : H l = none) : l ∉ [q] := by
  obtain ⟨a, b, h1, h2⟩ := hq
  rw [List.mem_singleton]
  exact (ne_of_none h1 hl).symm
theorem shape_sx {H H' : Hp} {q tp : Addr} {n : Nat} {t : Qt} (h : ShapeAt H tp n t) (x : Sx [q] H H') (hq : PotAt H q) : ShapeAt H' tp n t := by
  obtain ⟨a, b, h1, h2⟩ := hq
  obtain ⟨r, g1, as, g2, g3⟩ := h
  exact ⟨r, x _ _ (nin1 g1 h1 (by intro z; cases z)) g1, as, x _ _ (nin1 g2 h1 (by intro z; cases z)) g2, pr_imp g3 fun a r _ _ e => x _ _ (nin1 e h1 (by intro z; cases z)) e⟩
theorem lst_sx {H H' : Hp} {q r : Addr} {RS : List Row} (h : LstAt H r RS) (hn : RS ≠ []) (x : Sx [q] H H') (hq : PotAt H q) : LstAt H' r RS := by
  obtain ⟨a, b, h1, h2⟩ := hq
  obtain ⟨as, g1, g2⟩ := h
  refine ⟨as, x _ _ (nin1 g1 h1 fun z => ?_) g1, pr_imp g2 fun a r _ _ e => x _ _ (nin1 e h1 (by intro z; cases z)) e⟩
  cases g2 with
  | nil => exact hn rfl
  | cons _ _ => injection z with z; injection z with z; cases z
theorem longR_len (f : Nat) : (longR f).length = 16 := by unfold longR; rw [List.length_map, List.length_range]
theorem longR_ne (f : Nat) : (longR f).map rwR ≠ [] := fun z => by
  have := congrArg List.length z
  rw [List.length_map, longR_len] at this
  cases this
theorem longR_w {f : Nat} : ∀ x ∈ longR f, 1 ≤ x.w ∧ x.w ≤ 100 := by
  intro x hx
  unfold longR at hx
  obtain ⟨k, _, rfl⟩ := List.mem_map.mp hx
  dsimp only
  split <;> decide
theorem snakeB_len (RL : List Rw) (tn : Nat) : (snakeB RL tn).length = RL.length + (RL.length - 1) := by unfold snakeB; rw [List.length_append, List.length_map, List.length_map, List.length_range]
theorem shortR_len (r c w m : Nat) : (shortR r c w m).length = m := by unfold shortR; rw [List.length_map, List.length_range]
theorem shortR_ne {r c w m : Nat} (h : 2 ≤ m) : (shortR r c w m).map rwR ≠ [] := fun z => by
  have := congrArg List.length z
  rw [List.length_map, shortR_len] at this
  have : m = 0 := this
  omega
theorem shortR_w {r c w m : Nat} (h1 : 4 ≤ w) (h2 : w ≤ 28) : ∀ x ∈ shortR r c w m, 1 ≤ x.w ∧ x.w ≤ 100 := by
  intro x hx
  unfold shortR at hx
  obtain ⟨k, _, rfl⟩ := List.mem_map.mp hx
  dsimp only
  omega
theorem roundB_len (x : Rw) (RL : List Rw) (tn : Nat) : (roundB x RL tn).length = 4 + (RL.length - 1) := by unfold roundB; rw [List.length_append, List.length_map, List.length_range]; rfl
theorem nest_vals {n : Nat} {t sn : Qt} (G2 : HolOK n t sn) {by' : Bool} {gsP gsH : List (List Nat)} {kH kP : List (Key × V)} {va vb : List V} (hGP : Grp n (leafs n t) true by' gsP) (hGH : Grp n (leafs n t) false (!by') gsH)
    (oH : KOwn (gsH.filter fun g => !edgeB n (leafs n t) g) kH) (oP : KOwn gsP kP) (pP : Paired (fun g v => OwnL n (leafs n t) g kH v) gsP va) (pH : Paired (fun g v => OwnL n (leafs n t) g kP v) (gsH.filter fun g => !edgeB n (leafs n t) g) vb) : va = [.non] ∧ vb = [.int 0] := by
  obtain ⟨g, rfl⟩ := G2.part by' gsP hGP
  obtain ⟨g', e1, _, _⟩ := G2.hole _ gsH hGH
  have mg' : g' ∈ gsH ∧ edgeB n (leafs n t) g' = false := by
    have : g' ∈ gsH.filter fun g => !edgeB n (leafs n t) g := by rw [e1]; exact List.mem_singleton.mpr rfl
    obtain ⟨m1, m2⟩ := List.mem_filter.mp this
    exact ⟨m1, by simpa using m2⟩
  constructor
  · cases pP with
    | cons h1 h2 =>
      cases h2
      obtain ⟨o, x, ho, hx, hmin, hc⟩ := h1
      rcases hc with ⟨_, h⟩ | ⟨h0, o', y, hy, hyh, h⟩
      · rw [h]
      · rw [h, oH.out o' fun g'' hg'' ho' => ?_]
        · rfl
        · obtain ⟨m1, m2⟩ := List.mem_filter.mp hg''
          have := G2.topP by' [g] gsH hGP hGH g (List.mem_singleton.mpr rfl) o x ho hx hmin o' y hy hyh g'' m1 ho' h0
          rw [this] at m2
          cases m2
  · rw [e1] at pH
    cases pH with
    | cons h1 h2 =>
      cases h2
      obtain ⟨o, x, ho, hx, hmin, hc⟩ := h1
      obtain ⟨t1, t2⟩ := G2.topH _ gsH hGH g' mg'.1 mg'.2 o x ho hx hmin
      rcases hc with ⟨hz, h⟩ | ⟨h0, o', y, hy, hyh, h⟩
      · omega
      · obtain ⟨g2, hg2, ho2⟩ := hGP.cov o' y hy (t2 o' y hy hyh)
        rw [List.mem_singleton.mp hg2] at ho2
        rw [h, oP.inn o' 0 g rfl ho2]
        rfl
section
variable {P : Program} {w : World} {K : PySem.W.Frag} {mg : Str → Option Value} {base : Heap}
theorem fnd_of {x q : Str} {st : Stmt} {N ps : List Str} {k : Nat} {sp : Sp} {f : Addr} {fd : FuncData} (F : FunD K x q (defArgs st) (defBody st) (defScope st) [] [] f fd) (S : FnScope N ps (defScope st))
    (len : ∀ vs H Q E, sp vs H Q E → vs.length = ps.length)
    (body : ∀ (cdv : Value) (A : Around) (outer : List Env) (s : Shared) (H : Hp) (vs : List V) (Q : VK) (E : XK), Room k (A.deeper (envOfC q (defScope st) s.heap.objs.size f cdv)) → sp vs H Q E →
      ∃ t, PSs (cxOf CX0 P w K mg base N q (defScope st) f cdv A outer s H E).nox (defBody st) t ∧ t { nx := fun _ H' => Q .non H', rt := Q } (start N vs) H) :
    FnOk P w K mg base CX0 (k + 1) f fd ps sp := by
  refine F.ok S len fun cdv A outer s H vs Q E hr h => ?_
  obtain ⟨t, h1, h2⟩ := body cdv A outer s H vs Q E hr h
  exact ⟨t, h1.nox, h2⟩
theorem ok_law (B : Bl mg) {f : Addr} {fd : FuncData} (D : FunD K "law" "law" (defArgs s_law) (defBody s_law) (defScope s_law) [] [] f fd) {Pt : Addr} (G : Geo) (c__law_pot : Cal P w K mg base 1 "_law_pot" (spPot K)) (c__law_digit : Cal P w K mg base 1 "_law_digit" spDigit) (c__law_long : Cal P w K mg base 2 "_law_long" spLawLong) (c__law_snake : Cal P w K mg base 2 "_law_snake" spLawSnake) (c__law_round : Cal P w K mg base 2 "_law_round" spLawRound) (c__law_shape : Cal P w K mg base 9 "_law_shape" spLawShape) (c__law_is_full : Cal P w K mg base 18 "_law_is_full" (spLawIsFull Pt)) (c_holes_of : Cal P w K mg base 17 "holes_of" (spHolesOf Pt)) (c_nest : Cal P w K mg base 17 "nest" (spNest Pt)) : FnOk P w K mg base CX0 19 f fd ps_law (spLaw K Pt) := by
  refine fnd_of D sc_law (fun vs H Q E h => ?_) (fun cdv A outer s H vs Q E hr h => ?_)
  · obtain ⟨a, rfl, _⟩ := h
    rfl
  · have nd := sc_law.nd
    have hu := hu_of hr
    have hu65 := hu65_of hr
    obtain ⟨⟨p, xs⟩, rfl, hp, HT, k⟩ := h
    dsimp only at hp HT k
    refine ⟨_, (pss_cons (ps_set (i := 1) nd rfl (by first | exact Or.inl rfl | exact Or.inr rfl) (pe_c c__law_pot hr (by omega) rfl (pa_cons (pv 0) (pa_cons pe_int pa_nil))))
      (pss_cons (ps_set (i := 2) nd rfl (by first | exact Or.inl rfl | exact Or.inr rfl) (pe_ix ix_list (pe_lst (pa_cons pe_str (pa_cons pe_str pa_nil))) (pe_c c__law_digit hr (by omega) rfl (pa_cons (pv 1) (pa_cons pe_int pa_nil))) (fun _ _ => rfl)))
      (pss_cons (ps_if (pt_cmpR op_eq (pe_c c__law_digit hr (by omega) rfl (pa_cons (pv 1) (pa_cons pe_int pa_nil))) pe_int (nomark _)) (pss_cons (ps_set (i := 3) nd rfl (by first | exact Or.inl rfl | exact Or.inr rfl) (pe_c c__law_long hr (by omega) rfl (pa_cons (pv 1) pa_nil)))
      (pss_one (ps_ret (pe_c c__law_is_full hr (by omega) rfl (pa_cons (pe_c c__law_shape hr (by omega) rfl (pa_cons pe_int (pa_cons (pe_c c__law_snake hr (by omega) rfl (pa_cons (pv 3) (pa_cons pe_int pa_nil))) pa_nil))) (pa_cons (pe_c c__law_digit hr (by omega) rfl (pa_cons (pv 1) (pa_cons pe_int pa_nil))) (pa_cons (pv 2) (pa_cons (pv 3) (pa_cons pe_int pa_nil))))))))) pss_nil)
      (pss_cons (ps_set (i := 4) nd rfl (by first | exact Or.inl rfl | exact Or.inr rfl) (pe_op op_add pe_int (pe_c c__law_digit hr (by omega) rfl (pa_cons (pv 1) (pa_cons pe_int pa_nil)))))
      (pss_cons (ps_set (i := 5) nd rfl (by first | exact Or.inl rfl | exact Or.inr rfl) (pe_op op_add pe_int (pe_c c__law_digit hr (by omega) rfl (pa_cons (pv 1) (pa_cons pe_int pa_nil)))))
      (pss_cons (ps_set (i := 6) nd rfl (by first | exact Or.inl rfl | exact Or.inr rfl) (pe_op op_add pe_int (pe_c c__law_digit hr (by omega) rfl (pa_cons (pv 1) (pa_cons pe_int pa_nil)))))
      (pss_cons (ps_set (i := 7) nd rfl (by first | exact Or.inl rfl | exact Or.inr rfl) (pe_op op_add pe_int (pe_c c__law_digit hr (by omega) rfl (pa_cons (pv 1) (pa_cons (pe_op op_sub (pe_op op_shl pe_int (pv 4)) (pe_op op_mul pe_int (pv 6))) pa_nil)))))
      (pss_cons (ps_set (i := 8) nd rfl (by first | exact Or.inl rfl | exact Or.inr rfl) (pe_op op_add pe_int (pe_c c__law_digit hr (by omega) rfl (pa_cons (pv 1) (pa_cons (pe_op op_sub (pe_op op_sub (pe_op op_shl pe_int (pv 4)) (pv 5)) pe_int) pa_nil)))))
      (pss_cons (ps_setLc (i := 3) (own := [("_law_k", 9)]) rfl nd rfl rfl (sw_true rfl rfl rfl (by decide +kernel)) (pi_range1 rfl B.range (pa_cons (pv 6) pa_nil)) (blkOk_by (N := N_law) (sc := defScope s_law) (by decide +kernel)) (fun _ _ _ _ _ => (pg_name (i := 9) nd rfl (by first | exact Or.inl rfl | exact Or.inr rfl))) (fun _ _ _ _ _ => pts_nil) (fun _ _ _ _ _ => (pe_tup (pa_cons (pe_op op_add (pv 7) (pe_op op_mul pe_int (pv 9))) (pa_cons (pv 8) (pa_cons (pv 5) pa_nil))))))
      (pss_cons (ps_set (i := 10) nd rfl (by first | exact Or.inl rfl | exact Or.inr rfl) (pe_c c__law_digit hr (by omega) rfl (pa_cons (pv 1) (pa_cons pe_int pa_nil))))
      (pss_cons (ps_set (i := 11) nd rfl (by first | exact Or.inl rfl | exact Or.inr rfl) (pe_c c__law_shape hr (by omega) rfl (pa_cons (pv 4) (pa_cons (pe_c c__law_snake hr (by omega) rfl (pa_cons (pv 3) (pa_cons (pv 10) pa_nil))) pa_nil))))
      (pss_cons (ps_set (i := 12) nd rfl (by first | exact Or.inl rfl | exact Or.inr rfl) (pe_c c__law_digit hr (by omega) rfl (pa_cons (pv 1) (pa_cons pe_int pa_nil))))
      (pss_cons (ps_if (pt_cmpR op_lt (pv 12) pe_int (nomark _)) (pss_one (ps_ret (pe_c c__law_is_full hr (by omega) rfl (pa_cons (pv 11) (pa_cons (pv 12) (pa_cons (pv 2) (pa_cons (pv 3) (pa_cons (pv 10) pa_nil)))))))) pss_nil)
      (pss_cons (ps_set (i := 13) nd rfl (by first | exact Or.inl rfl | exact Or.inr rfl) (pe_c c__law_shape hr (by omega) rfl (pa_cons (pv 4) (pa_cons (pe_c c__law_round hr (by omega) rfl (pa_cons (pv 3) (pa_cons (pv 10) pa_nil))) pa_nil))))
      (pss_cons (ps_if (pt_cmpR op_eq (pv 12) pe_int (nomark _)) (pss_one (ps_ret (pe_cmpR (op_eqD hr.units) (pe_c c_holes_of hr (by omega) rfl (pa_cons (pv 13) (pa_cons (pv 2) pa_nil))) (pe_lst (pa_cons (pv 11) pa_nil)) (nomark _)))) pss_nil)
      (pss_one (ps_ret (pe_cmpR (op_eqD hr.units) (pe_c c_nest hr (by omega) rfl (pa_cons (pv 13) (pa_cons (pv 2) pa_nil))) (pe_tup (pa_cons (pe_lst (pa_cons pe_non pa_nil)) (pa_cons (pe_lst (pa_cons pe_int pa_nil)) pa_nil))) (nomark _))))))))))))))))))), ?_⟩
    refine ⟨_, rfl, ⟨p, xs⟩, rfl, hp, fun H1 q s1 hqn q1 => ?_⟩
    have T1 := HT.ext s1
    refine ⟨szl (by show 2 ≤ 1000000; decide), fun l hl => ?_⟩
    have q2 := q1.same (same_new hl (o := .lst [.str "sides", .str "corners"]))
    have T2 := T1.ext (same_new hl (o := .lst [.str "sides", .str "corners"]))
    have lq : l ∉ [q] := q1.fresh hl
    have e2 := upd_same (H := H1) (a := l) (o := HO.lst [V.str "sides", V.str "corners"])
    revert q2 T2 e2
    generalize hH2 : upd H1 l (HO.lst [V.str "sides", V.str "corners"]) = H2
    intro q2 T2 e2
    refine ⟨_, rfl, ⟨q, 2⟩, rfl, q2, (by show 0 < 2; decide), (by show 2 ≤ 1000; decide), fun d1 H3 hd1 q3 x3 => ?_⟩
    dsimp only at hd1 q3 x3
    have T3 := tabs_sx T2 x3 q2
    have e3 := x3 _ _ lq e2
    have hb : [V.str "sides", V.str "corners"][d1]? = some (V.str (if decide (d1 = 1) then "corners" else "sides")) := by
      rcases d1 with _ | _ | d
      · rfl
      · rfl
      · exact absurd hd1 (by omega)
    generalize decide (d1 = 1) = by' at hb
    refine ⟨l, _, _, _, rfl, rfl, lstOf e3, atI_nat hb, ?_⟩
    refine ⟨_, rfl, ⟨q, 4⟩, rfl, q3, (by show 0 < 4; decide), (by show 4 ≤ 1000; decide), fun d2 H4 hd2 q4 x4 => ?_⟩
    dsimp only at hd2 q4 x4
    have T4 := tabs_sx T3 x4 q3
    refine ⟨rfl, _, rfl, ite_d (fun z => ?_) (fun z => ?_)⟩
    · refine ⟨_, rfl, q, rfl, q4, fun e1 e2 H5 rq he1 he2 x5 q5 r5 => ?_⟩
      have T5 := tabs_sx T4 x5 q4
      refine ⟨_, rfl, ⟨rq, longR (32 * e1 + e2), 0, 0⟩, rfl, r5, (by show 0 ≤ 10; decide), (by rw [longR_len]; decide), longR_w, fun H6 sq s6 l6 => ?_⟩
      dsimp only at l6
      refine ⟨⟨6, sq, snakeB (longR (32 * e1 + e2)) 0⟩, rfl, (by show 6 ≤ 6; decide), l6, (by show (snakeB _ _).length ≤ 1000; rw [snakeB_len, longR_len]; decide), fun H7 tp s7 S7 => ?_⟩
      dsimp only at S7
      have q7 := q5.same (s6.trans s7)
      refine ⟨_, rfl, ⟨q, 3⟩, rfl, q7, (by show 0 < 3; decide), (by show 3 ≤ 1000; decide), fun d3 H8 hd3 q8 x8 => ?_⟩
      dsimp only at hd3 q8 x8
      refine ⟨_, rfl, _, rfl, ⟨tp, 6, snakeT 6 (longR (32 * e1 + e2)) 0, d3, by', rq, longR (32 * e1 + e2), 0⟩, rfl, shape_sx S7 x8 q7, G.long e1 e2 he1 he2, lst_sx ((r5.same s6).same s7) (longR_ne _) x8 q7, (by show 0 ≤ 9; decide), longR_w, (by rw [longR_len]; decide), tabs_sx (T5.ext (s6.trans s7)) x8 q7, k⟩
    refine ⟨_, rfl, ⟨q, 2⟩, rfl, q4, (by show 0 < 2; decide), (by show 2 ≤ 1000; decide), fun dn H5 hdn q5 x5 => ?_⟩
    dsimp only at hdn q5 x5
    have T5 := tabs_sx T4 x5 q4
    refine ⟨_, _, rfl, rfl, _, rfl, ⟨q, 25⟩, rfl, q5, (by show 0 < 25; decide), (by show 25 ≤ 1000; decide), fun dw H6 hdw q6 x6 => ?_⟩
    dsimp only at hdw q6 x6
    have T6 := tabs_sx T5 x6 q5
    refine ⟨_, _, rfl, rfl, _, rfl, ⟨q, 13⟩, rfl, q6, (by show 0 < 13; decide), (by show 13 ≤ 1000; decide), fun dm H7 hdm q7 x7 => ?_⟩
    dsimp only at hdm q7 x7
    have T7 := tabs_sx T6 x7 q6
    have hn : 32 ≤ 2 ^ (5 + dn) ∧ 2 ^ (5 + dn) ≤ 64 := by
      rcases dn with _ | _ | d
      · decide
      · decide
      · exact absurd hdn (by omega)
    have em : (1 * 2 ^ ((5 : Int) + (dn : Nat)).toNat - 2 * ((2 : Int) + (dm : Nat)) : Int) = ((2 ^ (5 + dn) - 2 * (2 + dm) : Nat) : Int) := by
      rw [show ((5 : Int) + (dn : Nat)).toNat = 5 + dn by omega, Int.one_mul, show ((2 : Int) ^ (5 + dn)) = ((2 ^ (5 + dn) : Nat) : Int) by rw [Int.natCast_pow]; rfl]
      omega
    have ec : (1 * 2 ^ ((5 : Int) + (dn : Nat)).toNat - ((4 : Int) + (dw : Nat)) - 1 : Int) = ((2 ^ (5 + dn) - (4 + dw) - 1 : Nat) : Int) := by
      rw [show ((5 : Int) + (dn : Nat)).toNat = 5 + dn by omega, Int.one_mul, show ((2 : Int) ^ (5 + dn)) = ((2 ^ (5 + dn) : Nat) : Int) by rw [Int.natCast_pow]; rfl]
      omega
    refine ⟨_, _, rfl, rfl, _, rfl, _, rfl, _, _, rfl, rfl, ⟨by omega, by omega, by decide⟩, _, rfl, _, _, rfl, rfl, .inl ⟨by decide, by decide⟩, _, _, rfl, rfl, ⟨q, 2 ^ (5 + dn) - 2 * (2 + dm)⟩, ?_, q7, (by show 0 < 2 ^ (5 + dn) - 2 * (2 + dm); omega), (by show 2 ^ (5 + dn) - 2 * (2 + dm) ≤ 1000; omega), fun dr H8 hdr q8 x8 => ?_⟩
    · show [V.ref q, V.int (1 * 2 ^ ((5 : Int) + (dn : Nat)).toNat - 2 * ((2 : Int) + (dm : Nat)))] = _
      rw [em]
    dsimp only at hdr q8 x8
    have T8 := tabs_sx T7 x8 q7
    refine ⟨_, _, rfl, rfl, _, rfl, _, rfl, _, _, rfl, rfl, ⟨by omega, by omega, by decide⟩, _, rfl, _, _, rfl, rfl, _, _, rfl, rfl, ⟨q, 2 ^ (5 + dn) - (4 + dw) - 1⟩, ?_, q8, (by show 0 < 2 ^ (5 + dn) - (4 + dw) - 1; omega), (by show 2 ^ (5 + dn) - (4 + dw) - 1 ≤ 1000; omega), fun dc H9 hdc q9 x9 => ?_⟩
    · show [V.ref q, V.int (1 * 2 ^ ((5 : Int) + (dn : Nat)).toNat - ((4 : Int) + (dw : Nat)) - 1)] = _
      rw [ec]
    dsimp only at hdc q9 x9
    have T9 := tabs_sx T8 x9 q8
    refine ⟨_, _, rfl, rfl, _, rfl, _, rfl, by omega, by omega, fun D hD => ?_⟩
    have hm : ((2 : Int) + (dm : Nat)).toNat = 2 + dm := by omega
    rw [hm]
    refine lc_map (walk_range (n := 2 + dm)) (fun i y H' => ∃ t, y = V.ref t ∧ H' t = some (.tup (vR (rwR ⟨1 + dr + 2 * i, 1 + dc, 4 + dw⟩)))) hD (fun _ _ => trivial) (szL (by omega)) ?_ ?_ gName_mono ?_
    · rintro i y H3 H' ⟨t, h1, h3⟩ ⟨l, hl⟩ sx
      exact ⟨t, h1, sx _ _ (nin1 h3 hl (by intro z; cases z)) h3⟩
    · rintro i x H3 H' hi s3 _ ⟨rfl, hx⟩ Q' qq
      obtain rfl : x = V.int ((i : Nat) : Int) := Eq.trans hx (congrArg V.int (Int.zero_add _))
      refine ⟨rfl, _, rfl, _, rfl, _, _, rfl, rfl, .inl ⟨by decide, by decide⟩, _, _, rfl, rfl, _, rfl, _, rfl, szl (by show 3 ≤ 1000000; decide), fun t ht => ?_⟩
      refine qq _ _ (same_new ht) ⟨t, rfl, ?_⟩
      rw [upd_same]
      show some (HO.tup [.int ((1 : Int) + (dr : Nat) + 2 * (i : Nat)), .int ((1 : Int) + (dc : Nat)), .int ((4 : Int) + (dw : Nat))]) = some (HO.tup [.int ((1 + dr + 2 * i : Nat) : Int), .int ((1 + dc : Nat) : Int), .int ((4 + dw : Nat) : Int)])
      push_cast
      rfl
    intro ys Ha sa hy py
    obtain ⟨ts, rfl, h2⟩ := pr_refs (W := fun t i => Ha t = some (.tup (vR (rwR ⟨1 + dr + 2 * i, 1 + dc, 4 + dw⟩)))) (pr_swap (pr_imp py fun i y _ _ ⟨t, e1, e2⟩ => ⟨t, e1, e2⟩))
    have ra : LstAt Ha D ((shortR (1 + dr) (1 + dc) (4 + dw) (2 + dm)).map rwR) := ⟨ts, hy, by unfold shortR; rw [List.map_map]; exact pr_map_right h2⟩
    have qa := q9.same sa
    have Ta := T9.ext sa
    refine ⟨_, rfl, ⟨q, 2⟩, rfl, qa, (by show 0 < 2; decide), (by show 2 ≤ 1000; decide), fun tn Hb htn qb xb => ?_⟩
    dsimp only at htn qb xb
    have Tb := tabs_sx Ta xb qa
    have rb := lst_sx ra (shortR_ne (by omega)) xb qa
    have dims : Dims (5 + dn) (1 + dr) (1 + dc) (4 + dw) (2 + dm) tn := ⟨by omega, by omega, by omega, by omega, by omega, by omega, by omega, by omega, by omega, htn⟩
    have G1 := G.short _ _ _ _ _ _ dims
    have G2 := G.hol _ _ _ _ _ _ dims
    have hw := shortR_w (r := 1 + dr) (c := 1 + dc) (w := 4 + dw) (m := 2 + dm) (by omega) (by omega)
    have hlen := shortR_len (1 + dr) (1 + dc) (4 + dw) (2 + dm)
    have hx0 : (shortR (1 + dr) (1 + dc) (4 + dw) (2 + dm))[0]? = some ⟨1 + dr, 1 + dc, 4 + dw⟩ := by
      unfold shortR
      rw [List.getElem?_map, List.getElem?_range (by omega)]
      rfl
    have hne := shortR_ne (r := 1 + dr) (c := 1 + dc) (w := 4 + dw) (m := 2 + dm) (by omega)
    unfold holT at G2
    generalize shortR (1 + dr) (1 + dc) (4 + dw) (2 + dm) = RL at *
    refine ⟨_, rfl, _, rfl, _, rfl, ⟨D, RL, 0, tn⟩, rfl, rb, (by show tn ≤ 10; omega), (by rw [hlen]; omega), hw, fun Hc sq sc lc => ?_⟩
    dsimp only at lc
    refine ⟨⟨5 + dn, sq, snakeB RL tn⟩, rfl, (by show 5 + dn ≤ 6; omega), lc, (by show (snakeB _ _).length ≤ 1000; rw [snakeB_len, hlen]; omega), fun Hd tp sd Sd => ?_⟩
    dsimp only at Sd
    have sbd := sc.trans sd
    have qd := qb.same sbd
    have Td := Tb.ext sbd
    have rd := rb.same sbd
    refine ⟨_, rfl, ⟨q, 5⟩, rfl, qd, (by show 0 < 5; decide), (by show 5 ≤ 1000; decide), fun wh He hwh qe xe => ?_⟩
    dsimp only at hwh qe xe
    have Te := tabs_sx Td xe qd
    have re := lst_sx rd hne xe qd
    have Se := shape_sx Sd xe qd
    refine ⟨_, rfl, _, _, rfl, rfl, _, rfl, ite_d (fun z => ?_) (fun z => ?_)⟩
    · exact ⟨_, rfl, _, rfl, _, rfl, _, rfl, _, rfl, ⟨tp, 5 + dn, snakeT (5 + dn) RL tn, wh, by', D, RL, tn⟩, rfl, Se, G1, re, (by show tn ≤ 9; omega), hw, (by rw [hlen]; omega), Te, k⟩
    refine ⟨_, rfl, _, rfl, _, rfl, ⟨D, RL, 0, tn⟩, rfl, re, (by show tn ≤ 10; omega), (by rw [hlen]; omega), hw, ⟨1 + dr, 1 + dc, 4 + dw⟩, hx0, (by show 1 ≤ 1 + dr; omega), (by show 1 ≤ 1 + dc; omega), fun Hf rq sf lf => ?_⟩
    dsimp only at lf
    refine ⟨⟨5 + dn, rq, roundB ⟨1 + dr, 1 + dc, 4 + dw⟩ RL tn⟩, rfl, (by show 5 + dn ≤ 6; omega), lf, (by show (roundB _ _ _).length ≤ 1000; rw [roundB_len, hlen]; omega), fun Hg tq sg Sg => ?_⟩
    dsimp only at Sg
    have seg := sf.trans sg
    have Tg := Te.ext seg
    have Sg0 := Se.same seg
    refine ⟨_, rfl, rfl, _, rfl, ite_d (fun z => ?_) (fun z => ?_)⟩
    · refine ⟨_, rfl, _, rfl, ⟨tq, 5 + dn, _, by'⟩, rfl, Sg, G2.fit, G2.lvs, Tg, ?_, fun H1 q1 ss gs s1 HT1 hq1 hG hS => ?_⟩
      · intro gs hG g hg he
        obtain ⟨g', e1, ug, e⟩ := G2.hole _ gs hG
        have : g ∈ (gs.filter fun g => !edgeB (5 + dn) (leafs (5 + dn) (tree (fB (roundB ⟨1 + dr, 1 + dc, 4 + dw⟩ RL tn)) (5 + dn) 0 0)) g) := List.mem_filter.mpr ⟨hg, by rw [he]; rfl⟩
        rw [e1, List.mem_singleton] at this
        rw [this]
        exact ug
      · obtain ⟨g', e1, ug, e⟩ := G2.hole _ gs hG
        dsimp only at hS
        rw [e1] at hS
        cases hS with
        | cons h1 h2 =>
          cases h2
          rename_i s0
          rw [e] at h1
          refine ⟨_, rfl, szl (by show 1 ≤ 1000000; decide), fun l hl => ?_⟩
          have sl := same_new hl (o := HO.lst [V.ref tp])
          refine ⟨.list [shD (5 + dn) (snakeT (5 + dn) RL tn)], .list [shD (5 + dn) (snakeT (5 + dn) RL tn)], .lst (lstOf (sl _ _ hq1)) (.cons (dp_shape (h1.same sl)) .nil), .lst (lstOf upd_same) (.cons (dp_shape ((Sg0.ext s1).same sl)) .nil), shDs_shaped _ _, shDs_shaped _ _, ?_⟩
          rw [shDs_eqv]
          exact k _
    · refine ⟨_, rfl, _, rfl, ⟨tq, 5 + dn, _, by'⟩, rfl, Sg, G2.fit, G2.lvs, Tg, fun H1 r la lb va vb gsP gsH kH kP s1 HT1 hr hla hlb hGP hGH oH oP pP pH => ?_⟩
      dsimp only at hGP hGH oH oP pP pH
      obtain ⟨hva, hvb⟩ := nest_vals G2 hGP hGH oH oP pP pH
      subst hva
      subst hvb
      refine ⟨szl (by show 1 ≤ 1000000; decide), fun l1 h1 => ⟨szl (by show 1 ≤ 1000000; decide), fun l2 h2 => ⟨szl (by show 2 ≤ 1000000; decide), fun p hp => ?_⟩⟩⟩
      have s1 := sTh h2 (same_new h1)
      have f1 := atTh h2 (c := l1) upd_same
      have s2 := sTh hp (sNew s1 h2)
      have f1' := sTh hp (same_new h2) _ _ f1
      have f2' := atTh hp (c := l2) upd_same
      have s3 := same_new hp (o := .tup [.ref l1, .ref l2])
      refine ⟨.tuple [.list [.none], .list [.int 0]], .tuple [.list [.none], .list [.int 0]], .tup (tupOf (s3 _ _ (s2 _ _ hr))) (.cons (.lst (lstOf (s3 _ _ (s2 _ _ hla))) (.cons .non .nil)) (.cons (.lst (lstOf (s3 _ _ (s2 _ _ hlb))) (.cons (.int 0) .nil)) .nil)), .tup (tupOf upd_same) (.cons (.lst (lstOf (s3 _ _ f1')) (.cons .non .nil)) (.cons (.lst (lstOf (s3 _ _ f2')) (.cons (.int 0) .nil)) .nil)), by decide, by decide, ?_⟩
      rw [show PyData.eqv (.tuple [.list [.none], .list [.int 0]]) (.tuple [.list [.none], .list [.int 0]]) = true by decide]
      exact k _
end
end Qf
/-! Cells and leaves: plain Lean. -/
namespace Qf
def Adj (by' : Bool) (i j i' j' : Nat) : Prop := i ≤ i' + 1 ∧ i' ≤ i + 1 ∧ j ≤ j' + 1 ∧ j' ≤ j + 1 ∧ (by' = true ∨ i = i' ∨ j = j')
theorem Adj.symm {by' : Bool} {i j i' j' : Nat} (h : Adj by' i j i' j') : Adj by' i' j' i j := by
  obtain ⟨h1, h2, h3, h4, h5⟩ := h
  exact ⟨h2, h1, h4, h3, h5.imp id fun h => h.imp Eq.symm Eq.symm⟩
theorem Adj.wide {by' : Bool} {i j i' j' : Nat} (h : Adj false i j i' j') : Adj by' i j i' j' := by
  obtain ⟨h1, h2, h3, h4, h5⟩ := h
  exact ⟨h1, h2, h3, h4, .inr (h5.resolve_left Bool.false_ne_true)⟩
def At (L : List Lf) (o i j : Nat) : Prop := ∃ x, L[o]? = some x ∧ x.has i j
/-- the leaves of a picture -/
structure Pic (F : Nat → Nat → Bool) (n : Nat) (L : List Lf) : Prop where
  g : Good n L
  tr : ∀ (o : Nat) (x : Lf), L[o]? = some x → ∀ i j, x.has i j → F i j = x.b
section
variable {F : Nat → Nat → Bool} {n : Nat} {L : List Lf}
theorem pic_of (F : Nat → Nat → Bool) {n : Nat} (h6 : n ≤ 6) (hl : (tree F n 0 0).lvs ≤ 2000) : Pic F n (leafs n (tree F n 0 0)) :=
  ⟨good_leafs h6 (tree_ht F n 0 0) hl, fun o x h i j hh => lvB_truth F n 0 0 [] x (List.mem_of_getElem? h) i j hh⟩
theorem Pic.uniq (p : Pic F n L) {o o' i j : Nat} (h : At L o i j) (h' : At L o' i j) : o = o' := by
  obtain ⟨x, h1, h2⟩ := h
  obtain ⟨y, h3, h4⟩ := h'
  exact p.g.uniq h1 h3 h2 h4
theorem Pic.at (p : Pic F n L) {i j : Nat} (hi : i < 2 ^ n) (hj : j < 2 ^ n) : ∃ o, At L o i j := by
  obtain ⟨o, x, h1, h2⟩ := p.g.at hi hj
  exact ⟨o, x, h1, h2⟩
theorem Pic.lt (p : Pic F n L) {o i j : Nat} (h : At L o i j) : i < 2 ^ n ∧ j < 2 ^ n := by
  obtain ⟨x, h1, a1, a2, a3, a4⟩ := h
  have := p.g.lt (List.mem_of_getElem? h1)
  omega
theorem Pic.right (p : Pic F n L) {by' t : Bool} {o o' i j : Nat} (h : At L o i j) (h' : At L o' i (j + 1)) (e : F i j = t) (e' : F i (j + 1) = t) : o = o' ∨ Lk n L t by' o o' := by
  by_cases q : o = o'
  · exact .inl q
  refine .inr ?_
  have hl := p.lt h'
  have hnot : ¬ At L o i (j + 1) := fun z => q (p.uniq z h')
  obtain ⟨x, h1, a1, a2, a3, a4⟩ := h
  obtain ⟨y, h3, h4⟩ := h'
  have ec : x.c + 2 ^ x.k = j + 1 := by
    by_cases z : x.c + 2 ^ x.k = j + 1
    · exact z
    · exact absurd ⟨x, h1, a1, a2, by omega, by omega⟩ hnot
  refine ⟨x, y, h1, h3, ?_, ?_, .inl (.inl ⟨by omega, y, h3, i, a1, a2, by rw [ec]; exact h4⟩)⟩
  · rw [← p.tr o x h1 i j ⟨a1, a2, a3, a4⟩]; exact e
  · rw [← p.tr o' y h3 i (j + 1) h4]; exact e'
theorem Pic.below (p : Pic F n L) {by' t : Bool} {o o' i j : Nat} (h : At L o i j) (h' : At L o' (i + 1) j) (e : F i j = t) (e' : F (i + 1) j = t) : o = o' ∨ Lk n L t by' o o' := by
  by_cases q : o = o'
  · exact .inl q
  refine .inr ?_
  have hl := p.lt h'
  have hnot : ¬ At L o (i + 1) j := fun z => q (p.uniq z h')
  obtain ⟨x, h1, a1, a2, a3, a4⟩ := h
  obtain ⟨y, h3, h4⟩ := h'
  have ec : x.r + 2 ^ x.k = i + 1 := by
    by_cases z : x.r + 2 ^ x.k = i + 1
    · exact z
    · exact absurd ⟨x, h1, by omega, by omega, a3, a4⟩ hnot
  refine ⟨x, y, h1, h3, ?_, ?_, .inl (.inr (.inl ⟨by omega, y, h3, j, a3, a4, by rw [ec]; exact h4⟩))⟩
  · rw [← p.tr o x h1 i j ⟨a1, a2, a3, a4⟩]; exact e
  · rw [← p.tr o' y h3 (i + 1) j h4]; exact e'
theorem Pic.side (p : Pic F n L) {by' t : Bool} {o o' i j i' j' : Nat} (h : At L o i j) (h' : At L o' i' j') (a : Adj false i j i' j') (e : F i j = t) (e' : F i' j' = t) : o = o' ∨ Lk n L t by' o o' := by
  obtain ⟨a1, a2, a3, a4, a5⟩ := a
  rcases a5 with a5 | a5 | a5
  · cases a5
  · subst a5
    by_cases z : j = j'
    · subst z; exact .inl (p.uniq h h')
    · by_cases z2 : j' = j + 1
      · subst z2; exact p.right h h' e e'
      · obtain rfl : j = j' + 1 := by omega
        exact (p.right h' h e' e).imp Eq.symm Lk.symm
  · subst a5
    by_cases z : i = i'
    · subst z; exact .inl (p.uniq h h')
    · by_cases z2 : i' = i + 1
      · subst z2; exact p.below h h' e e'
      · obtain rfl : i = i' + 1 := by omega
        exact (p.below h' h e' e).imp Eq.symm Lk.symm
/-- leaves of one cell -/
def Unit (L : List Lf) (o i j : Nat) : Prop := ∃ x, L[o]? = some x ∧ x.k = 0 ∧ x.r = i ∧ x.c = j
theorem Unit.at {o i j : Nat} (h : Unit L o i j) : At L o i j := by
  obtain ⟨x, h1, h2, rfl, rfl⟩ := h
  exact ⟨x, h1, x.has_self⟩
theorem Pic.corn (p : Pic F n L) {t : Bool} {o o' i j i' j' : Nat} (h : Unit L o i j) (h' : At L o' i' j') (hi : i' = i + 1) (hj : j' = j + 1 ∨ j = j' + 1) (e : F i j = t) (e' : F i' j' = t) : Lk n L t true o o' := by
  have hl := p.lt h'
  have e0 := p.tr
  obtain ⟨x, h1, h2, rfl, rfl⟩ := h
  obtain ⟨y, h3, h4⟩ := h'
  have e2 : 2 ^ x.k = 1 := by rw [h2]
  subst hi
  refine ⟨x, y, h1, h3, ?_, ?_, .inl (.inr (.inr ⟨rfl, by rw [e2]; omega, y, h3, ?_⟩))⟩
  · rw [← e0 o x h1 _ _ x.has_self]; exact e
  · rw [← e0 o' y h3 _ _ h4]; exact e'
  · rw [e2]
    rcases hj with rfl | hj
    · exact .inr ⟨by omega, h4⟩
    · exact .inl ⟨by omega, by rw [show x.c - 1 = j' by omega]; exact h4⟩
theorem Pic.unitLk (p : Pic F n L) {by' t : Bool} {o o' i j i' j' : Nat} (h : Unit L o i j) (h' : Unit L o' i' j') (a : Adj by' i j i' j') (d : ¬ (i = i' ∧ j = j')) (e : F i j = t) (e' : F i' j' = t) : Lk n L t by' o o' := by
  have dd : o ≠ o' := fun z => by
    subst z
    obtain ⟨x, h1, _, h2, h3⟩ := h
    obtain ⟨y, g1, _, g2, g3⟩ := h'
    rw [h1] at g1
    cases g1
    exact d ⟨by omega, by omega⟩
  obtain ⟨a1, a2, a3, a4, a5⟩ := a
  by_cases q : i = i' ∨ j = j'
  · exact (p.side h.at h'.at ⟨a1, a2, a3, a4, .inr q⟩ e e').resolve_left dd
  · have hb : by' = true := a5.resolve_right q
    subst hb
    by_cases z : i' = i + 1
    · exact p.corn h h'.at z (by omega) e e'
    · exact (p.corn h' h.at (by omega) (by omega) e' e).symm
theorem nb_adj {by' : Bool} {x : Lf} {o : Nat} (h : NbOf by' n L x o) : ∃ y i j i' j', L[o]? = some y ∧ x.has i j ∧ y.has i' j' ∧ Adj by' i j i' j' := by
  have hp := pow_pos2 x.k
  rcases h with ⟨h1, y, h2, i, h3, h4, h5⟩ | ⟨h1, y, h2, j, h3, h4, h5⟩ | ⟨hb, h1, y, h2, h3⟩
  · exact ⟨y, i, x.c + 2 ^ x.k - 1, i, x.c + 2 ^ x.k, h2, ⟨h3, h4, by omega, by omega⟩, h5, by omega, by omega, by omega, by omega, .inr (.inl rfl)⟩
  · exact ⟨y, x.r + 2 ^ x.k - 1, j, x.r + 2 ^ x.k, j, h2, ⟨by omega, by omega, h3, h4⟩, h5, by omega, by omega, by omega, by omega, .inr (.inr rfl)⟩
  · rcases h3 with ⟨h3, h5⟩ | ⟨h3, h5⟩
    · exact ⟨y, x.r + 2 ^ x.k - 1, x.c, x.r + 2 ^ x.k, x.c - 1, h2, ⟨by omega, by omega, by omega, by omega⟩, h5, by omega, by omega, by omega, by omega, .inl hb⟩
    · exact ⟨y, x.r + 2 ^ x.k - 1, x.c + 2 ^ x.k - 1, x.r + 2 ^ x.k, x.c + 2 ^ x.k, h2, ⟨by omega, by omega, by omega, by omega⟩, h5, by omega, by omega, by omega, by omega, .inl hb⟩
theorem Pic.lk_adj (p : Pic F n L) {by' t : Bool} {o o' : Nat} (h : Lk n L t by' o o') : ∃ i j i' j', At L o i j ∧ At L o' i' j' ∧ Adj by' i j i' j' ∧ F i j = t ∧ F i' j' = t := by
  obtain ⟨x, y, h1, h2, h3, h4, h5⟩ := h
  rcases h5 with h5 | h5
  · obtain ⟨y', i, j, i', j', e, a1, a2, a3⟩ := nb_adj h5
    rw [h2] at e
    cases e
    exact ⟨i, j, i', j', ⟨x, h1, a1⟩, ⟨y, h2, a2⟩, a3, by rw [p.tr o x h1 i j a1, h3], by rw [p.tr o' y h2 i' j' a2, h4]⟩
  · obtain ⟨x', i, j, i', j', e, a1, a2, a3⟩ := nb_adj h5
    rw [h1] at e
    cases e
    exact ⟨i', j', i, j, ⟨x, h1, a2⟩, ⟨y, h2, a1⟩, a3.symm, by rw [p.tr o x h1 i' j' a2, h3], by rw [p.tr o' y h2 i j a1, h4]⟩
end
end Qf
/-! Runs of cells: plain Lean. -/
namespace Qf
theorem Adj.any {by' : Bool} {i j i' j' : Nat} (h : Adj by' i j i' j') : Adj true i j i' j' := by
  obtain ⟨h1, h2, h3, h4, _⟩ := h
  exact ⟨h1, h2, h3, h4, .inl rfl⟩
/-- the leaves of two cells hang together -/
def CC (n : Nat) (L : List Lf) (t by' : Bool) (i j i' j' : Nat) : Prop := ∀ o o', At L o i j → At L o' i' j' → Rch (Lk n L t by') o o'
section
variable {F : Nat → Nat → Bool} {n : Nat} {L : List Lf} {t by' : Bool}
theorem CC.symm {i j i' j' : Nat} (h : CC n L t by' i j i' j') : CC n L t by' i' j' i j := fun o o' h1 h2 => (h o' o h2 h1).symm fun _ _ => Lk.symm
theorem CC.trans (p : Pic F n L) {i j i' j' i'' j'' : Nat} (hi : i' < 2 ^ n) (hj : j' < 2 ^ n) (h : CC n L t by' i j i' j') (h' : CC n L t by' i' j' i'' j'') : CC n L t by' i j i'' j'' := fun o o' h1 h2 => by
  obtain ⟨o1, h3⟩ := p.at hi hj
  exact (h o o1 h1 h3).trans (h' o1 o' h3 h2)
theorem CC.refl (p : Pic F n L) {i j : Nat} : CC n L t by' i j i j := fun o o' h1 h2 => by
  cases p.uniq h1 h2
  exact .refl
theorem CC.side (p : Pic F n L) {i j i' j' : Nat} (a : Adj false i j i' j') (e : F i j = t) (e' : F i' j' = t) : CC n L t by' i j i' j' := fun o o' h1 h2 => by
  rcases p.side (by' := by') h1 h2 a e e' with rfl | h
  · exact .refl
  · exact .one h
theorem CC.rowN (p : Pic F n L) {i j : Nat} (hi : i < 2 ^ n) : ∀ d, (∀ x, j ≤ x → x ≤ j + d → F i x = t) → j + d < 2 ^ n → CC n L t by' i j i (j + d)
  | 0, _, _ => CC.refl p
  | d + 1, h, hj => CC.trans p hi (by omega) (CC.rowN p hi d (fun x h1 h2 => h x h1 (by omega)) (by omega)) (CC.side p ⟨by omega, by omega, by omega, by omega, .inr (.inl rfl)⟩ (h _ (by omega) (by omega)) (h _ (by omega) (by omega)))
theorem CC.row (p : Pic F n L) {i j j' : Nat} (hi : i < 2 ^ n) (hj : j' < 2 ^ n) (h : ∀ x, j ≤ x → x ≤ j' → F i x = t) (q : j ≤ j') : CC n L t by' i j i j' := by
  obtain ⟨d, rfl⟩ := Nat.exists_eq_add_of_le q
  exact CC.rowN p hi d h hj
theorem CC.colN (p : Pic F n L) {i j : Nat} (hj : j < 2 ^ n) : ∀ d, (∀ x, i ≤ x → x ≤ i + d → F x j = t) → i + d < 2 ^ n → CC n L t by' i j (i + d) j
  | 0, _, _ => CC.refl p
  | d + 1, h, hi => CC.trans p (by omega) hj (CC.colN p hj d (fun x h1 h2 => h x h1 (by omega)) (by omega)) (CC.side p ⟨by omega, by omega, by omega, by omega, .inr (.inr rfl)⟩ (h _ (by omega) (by omega)) (h _ (by omega) (by omega)))
theorem CC.col (p : Pic F n L) {i i' j : Nat} (hj : j < 2 ^ n) (hi : i' < 2 ^ n) (h : ∀ x, i ≤ x → x ≤ i' → F x j = t) (q : i ≤ i') : CC n L t by' i j i' j := by
  obtain ⟨d, rfl⟩ := Nat.exists_eq_add_of_le q
  exact CC.colN p hj d h hi
theorem at_self {o : Nat} {x : Lf} (h : L[o]? = some x) : At L o x.r x.c := ⟨x, h, x.has_self⟩
theorem Pic.tr' (p : Pic F n L) {o i j : Nat} {x : Lf} (h : L[o]? = some x) (a : At L o i j) : F i j = x.b := by
  obtain ⟨y, h1, h2⟩ := a
  rw [h] at h1
  cases h1
  exact p.tr o x h i j h2
/-- what hangs together lies in one group -/
theorem Grp.in_of {gs : List (List Nat)} (G : Grp n L t by' gs) {g : List Nat} (hg : g ∈ gs) {o o' : Nat} (ho : o ∈ g) (h : Rch (Lk n L t by') o o') : o' ∈ g :=
  h.keep (P := fun o => o ∈ g) (fun a b ha r => G.cls g hg a ha b r) ho
theorem Grp.eq_of {gs : List (List Nat)} (G : Grp n L t by' gs) {g g' : List Nat} (hg : g ∈ gs) (hg' : g' ∈ gs) {o : Nat} (ho : o ∈ g) (ho' : o ∈ g') : g = g' := by
  have p := G.dj
  rw [List.pairwise_iff_getElem] at p
  obtain ⟨a, ha, ea⟩ := List.getElem_of_mem hg
  obtain ⟨b, hb, eb⟩ := List.getElem_of_mem hg'
  rcases Nat.lt_trichotomy a b with q | q | q
  · exact absurd (eb ▸ ho') (p a b ha hb q o (ea ▸ ho))
  · subst q
    rw [← ea, ← eb]
  · exact absurd (ea ▸ ho) (p b a hb ha q o (eb ▸ ho'))
theorem Grp.nodup {gs : List (List Nat)} (G : Grp n L t by' gs) : gs.Nodup := by
  refine List.Pairwise.imp_of_mem (fun {g g'} hg hg' d e => ?_) G.dj
  subst e
  cases h : g with
  | nil => exact G.ne g hg h
  | cons a r => exact d a (by rw [h]; exact List.mem_cons_self) (by rw [h]; exact List.mem_cons_self)
theorem only_one {α : Type} {l : List α} {a : α} (nd : l.Nodup) (h : a ∈ l) (hu : ∀ b ∈ l, b = a) : l = [a] := by
  match l, nd, h, hu with
  | [b], _, _, hu => rw [hu b List.mem_cons_self]
  | b :: c :: r, nd, _, hu =>
    have e1 := hu b List.mem_cons_self
    have e2 := hu c (List.mem_cons_of_mem _ List.mem_cons_self)
    have := (List.nodup_cons.mp nd).1
    rw [e1, e2] at this
    exact absurd List.mem_cons_self this
theorem Grp.mem_leaf {gs : List (List Nat)} (G : Grp n L t by' gs) {g : List Nat} (hg : g ∈ gs) : ∃ o x, o ∈ g ∧ L[o]? = some x ∧ x.b = t := by
  cases h : g with
  | nil => exact absurd h (G.ne g hg)
  | cons a r =>
    obtain ⟨x, h1, h2⟩ := G.mem g hg a (by rw [h]; exact List.mem_cons_self)
    exact ⟨a, x, List.mem_cons_self, h1, h2⟩
theorem Grp.at {gs : List (List Nat)} (p : Pic F n L) (G : Grp n L t by' gs) {g : List Nat} (hg : g ∈ gs) {o i j : Nat} (ho : o ∈ g) (h : At L o i j) : F i j = t := by
  obtain ⟨x, h1, h2⟩ := G.mem g hg o ho
  rw [p.tr' h1 h, h2]
/-- at the edge -/
theorem Pic.edge_of (p : Pic F n L) {o i j : Nat} {x : Lf} (h : L[o]? = some x) (a : At L o i j) (e : j = 0 ∨ j + 1 = 2 ^ n) : x.edge n := by
  obtain ⟨y, h1, a1, a2, a3, a4⟩ := a
  rw [h] at h1
  cases h1
  have := p.g.lt (List.mem_of_getElem? h)
  unfold Lf.edge
  omega
/-- a run to the edge -/
theorem Grp.edge_of (p : Pic F n L) {gs : List (List Nat)} (G : Grp n L t by' gs) {g : List Nat} (hg : g ∈ gs) {o i j : Nat} (ho : o ∈ g) (h : At L o i j) (q : (∀ x, x ≤ j → F i x = t) ∨ (∀ x, j ≤ x → x < 2 ^ n → F i x = t)) : edgeB n L g = true := by
  obtain ⟨hi, hj⟩ := p.lt h
  rcases q with q | q
  · obtain ⟨o', h'⟩ := p.at hi (j := 0) (by omega)
    obtain ⟨x, hx, _⟩ := id h'
    exact edgeB_iff.mpr ⟨o', G.in_of hg ho ((CC.row p hi hj (fun x _ h2 => q x h2) (Nat.zero_le j)).symm o o' h h'), x, hx, p.edge_of hx h' (.inl rfl)⟩
  · obtain ⟨o', h'⟩ := p.at hi (j := 2 ^ n - 1) (by omega)
    obtain ⟨x, hx, _⟩ := id h'
    exact edgeB_iff.mpr ⟨o', G.in_of hg ho (CC.row p hi (by omega) (fun x h1 h2 => q x h1 (by omega)) (by omega) o o' h h'), x, hx, p.edge_of hx h' (.inr (by omega))⟩
end
end Qf
/-! A snake's cells: plain Lean. -/
namespace Qf
/-- the p-th column of row k, in the snake's direction -/
def col (lo W : Nat → Nat) (tn k p : Nat) : Nat := if (k + tn) % 2 = 1 then lo k + p else lo k + W k - p
structure Sn (n R0 m : Nat) (lo W : Nat → Nat) (tn : Nat) (S : Nat → Nat → Bool) : Prop where
  m2 : 2 ≤ m
  w : ∀ k, k < m → 3 ≤ W k
  fr : R0 + 2 * m ≤ 2 ^ n + 1
  fc : ∀ k, k < m → lo k + W k < 2 ^ n
  jn : ∀ k, k + 1 < m → col lo W tn (k + 1) 0 = col lo W tn k (W k)
  row : ∀ k, k < m → ∀ j, S (R0 + 2 * k) j = true ↔ lo k ≤ j ∧ j ≤ lo k + W k
  trn : ∀ k, k + 1 < m → ∀ j, S (R0 + 2 * k + 1) j = true ↔ j = col lo W tn k (W k)
  out : ∀ i j, S i j = true → R0 ≤ i ∧ i ≤ R0 + 2 * (m - 1)
theorem col_in {lo W : Nat → Nat} {tn k p : Nat} (h : p ≤ W k) : lo k ≤ col lo W tn k p ∧ col lo W tn k p ≤ lo k + W k := by
  unfold col
  split <;> omega
theorem col_of {lo W : Nat → Nat} {tn k j : Nat} (h1 : lo k ≤ j) (h2 : j ≤ lo k + W k) : ∃ p, p ≤ W k ∧ j = col lo W tn k p := by
  unfold col
  by_cases q : (k + tn) % 2 = 1
  · exact ⟨j - lo k, by omega, by rw [if_pos q]; omega⟩
  · exact ⟨lo k + W k - j, by omega, by rw [if_neg q]; omega⟩
section
variable {n R0 m tn : Nat} {lo W : Nat → Nat} {S : Nat → Nat → Bool}
theorem Sn.cell (s : Sn n R0 m lo W tn S) {i j : Nat} (h : S i j = true) : (∃ k, k < m ∧ i = R0 + 2 * k ∧ lo k ≤ j ∧ j ≤ lo k + W k) ∨ (∃ k, k + 1 < m ∧ i = R0 + 2 * k + 1 ∧ j = col lo W tn k (W k)) := by
  obtain ⟨h1, h2⟩ := s.out i j h
  have := s.m2
  by_cases q : (i - R0) % 2 = 0
  · have e : i = R0 + 2 * ((i - R0) / 2) := by omega
    have hk : (i - R0) / 2 < m := by omega
    exact .inl ⟨(i - R0) / 2, hk, e, (s.row _ hk j).mp (by rw [← e]; exact h)⟩
  · have e : i = R0 + 2 * ((i - R0) / 2) + 1 := by omega
    have hk : (i - R0) / 2 + 1 < m := by omega
    exact .inr ⟨(i - R0) / 2, hk, e, (s.trn _ hk j).mp (by rw [← e]; exact h)⟩
theorem Sn.lt (s : Sn n R0 m lo W tn S) {i j : Nat} (h : S i j = true) : i < 2 ^ n ∧ j < 2 ^ n := by
  have := s.fr
  rcases s.cell h with ⟨k, hk, rfl, h1, h2⟩ | ⟨k, hk, rfl, rfl⟩
  · have := s.fc k hk
    omega
  · have := s.fc k (by omega)
    have := (col_in (lo := lo) (W := W) (tn := tn) (k := k) (Nat.le_refl (W k))).2
    omega
theorem Sn.no4 (s : Sn n R0 m lo W tn S) {i j : Nat} (h1 : S i j = true) (h2 : S i (j + 1) = true) (h3 : S (i + 1) j = true) (h4 : S (i + 1) (j + 1) = true) : False := by
  rcases s.cell h1 with ⟨k, hk, rfl, _, _⟩ | ⟨k, hk, rfl, e⟩
  · have h5 := (s.out _ _ h3).2
    have hk : k + 1 < m := by omega
    have e1 := (s.trn k hk _).mp h3
    have e2 := (s.trn k hk _).mp h4
    omega
  · have e1 := (s.trn k hk _).mp h2
    omega
/-- a picture in which the snake's cells are a colour t, and none beside them -/
structure SnP (n R0 m : Nat) (lo W : Nat → Nat) (tn : Nat) (S F : Nat → Nat → Bool) (L : List Lf) (t : Bool) : Prop where
  s : Sn n R0 m lo W tn S
  p : Pic F n L
  hs : ∀ i j, S i j = true → F i j = t
  hn : ∀ i j i' j', S i j = true → Adj true i j i' j' → F i' j' = t → S i' j' = true
variable {F : Nat → Nat → Bool} {L : List Lf} {t by' : Bool}
theorem SnP.unit (q : SnP n R0 m lo W tn S F L t) {o i j : Nat} (h : S i j = true) (a : At L o i j) : Unit L o i j := by
  obtain ⟨x, h1, a1, a2, a3, a4⟩ := a
  by_cases hk : x.k = 0
  · rw [hk] at a2 a4
    exact ⟨x, h1, hk, by omega, by omega⟩
  exfalso
  obtain ⟨k, ek⟩ : ∃ k, x.k = k + 1 := ⟨x.k - 1, by omega⟩
  obtain ⟨_, _, _, _, ⟨q1, e1⟩, ⟨q2, e2⟩, _⟩ := q.p.g.hin x (List.mem_of_getElem? h1)
  rw [ek, Nat.pow_succ] at e1 e2 a2 a4
  have f1 : x.r = q1 * 2 ^ k * 2 := by rw [e1, Nat.zero_add, Nat.mul_assoc]
  have f2 : x.c = q2 * 2 ^ k * 2 := by rw [e2, Nat.zero_add, Nat.mul_assoc]
  generalize q1 * 2 ^ k = b1 at f1
  generalize q2 * 2 ^ k = b2 at f2
  have ht : t = x.b := by rw [← q.p.tr' h1 ⟨x, h1, a1, (by rw [ek, Nat.pow_succ]; exact a2), a3, (by rw [ek, Nat.pow_succ]; exact a4)⟩, q.hs i j h]
  have key : ∀ i' j', (i' = i / 2 * 2 ∨ i' = i / 2 * 2 + 1) → (j' = j / 2 * 2 ∨ j' = j / 2 * 2 + 1) → S i' j' = true := fun i' j' hi hj => by
    refine q.hn i j i' j' h ⟨by omega, by omega, by omega, by omega, .inl rfl⟩ ?_
    have e : 2 ^ x.k = 2 ^ k * 2 := by rw [ek, Nat.pow_succ]
    rw [ht]
    exact q.p.tr _ x h1 i' j' ⟨by omega, by omega, by omega, by omega⟩
  exact q.s.no4 (key _ _ (.inl rfl) (.inl rfl)) (key _ _ (.inl rfl) (.inr rfl)) (key _ _ (.inr rfl) (.inl rfl)) (key _ _ (.inr rfl) (.inr rfl))
theorem SnP.row (q : SnP n R0 m lo W tn S F L t) {k j j' : Nat} (hk : k < m) (h1 : lo k ≤ j) (h2 : j ≤ lo k + W k) (h3 : lo k ≤ j') (h4 : j' ≤ lo k + W k) : CC n L t by' (R0 + 2 * k) j (R0 + 2 * k) j' := by
  have hf := q.s.fr
  have hc := q.s.fc k hk
  have hh : ∀ x, lo k ≤ x → x ≤ lo k + W k → F (R0 + 2 * k) x = t := fun x a b => q.hs _ _ ((q.s.row k hk x).mpr ⟨a, b⟩)
  rcases Nat.le_total j j' with z | z
  · exact CC.row q.p (by omega) (by omega) (fun x a b => hh x (by omega) (by omega)) z
  · exact (CC.row q.p (by omega) (by omega) (fun x a b => hh x (by omega) (by omega)) z).symm
theorem SnP.turn (q : SnP n R0 m lo W tn S F L t) {k : Nat} (hk : k + 1 < m) : CC n L t by' (R0 + 2 * k) (col lo W tn k (W k)) (R0 + 2 * k + 1) (col lo W tn k (W k)) := by
  have ci := col_in (lo := lo) (W := W) (tn := tn) (k := k) (Nat.le_refl (W k))
  exact CC.side q.p ⟨by omega, by omega, by omega, by omega, .inr (.inr rfl)⟩ (q.hs _ _ ((q.s.row k (by omega) _).mpr ci)) (q.hs _ _ ((q.s.trn k hk _).mpr rfl))
theorem SnP.turn2 (q : SnP n R0 m lo W tn S F L t) {k : Nat} (hk : k + 1 < m) : CC n L t by' (R0 + 2 * k + 1) (col lo W tn k (W k)) (R0 + 2 * (k + 1)) (col lo W tn (k + 1) 0) := by
  have ci := col_in (lo := lo) (W := W) (tn := tn) (k := k + 1) (Nat.zero_le (W (k + 1)))
  have := q.s.jn k hk
  exact CC.side q.p ⟨by omega, by omega, by omega, by omega, .inr (.inr this.symm)⟩ (q.hs _ _ ((q.s.trn k hk _).mpr rfl)) (q.hs _ _ ((q.s.row (k + 1) hk _).mpr ci))
theorem SnP.rows (q : SnP n R0 m lo W tn S F L t) : ∀ k, k < m → CC n L t by' R0 (lo 0) (R0 + 2 * k) (lo k)
  | 0, _ => CC.refl q.p
  | k + 1, hk => by
    have hf := q.s.fr
    have hc := q.s.fc k (by omega)
    have hc' := q.s.fc (k + 1) hk
    have c1 := col_in (lo := lo) (W := W) (tn := tn) (k := k) (Nat.le_refl (W k))
    have c2 := col_in (lo := lo) (W := W) (tn := tn) (k := k + 1) (Nat.zero_le (W (k + 1)))
    refine CC.trans q.p (by omega) (by omega) (q.rows k (by omega)) ?_
    refine CC.trans q.p (by omega) (by omega) (q.row (by omega) (Nat.le_refl _) (by omega) c1.1 c1.2) ?_
    refine CC.trans q.p (by omega) (by omega) (q.turn hk) ?_
    refine CC.trans q.p (by omega) (by omega) (q.turn2 hk) ?_
    exact q.row hk c2.1 c2.2 (Nat.le_refl _) (by omega)
theorem SnP.all (q : SnP n R0 m lo W tn S F L t) {i j : Nat} (h : S i j = true) : CC n L t by' R0 (lo 0) i j := by
  have hf := q.s.fr
  rcases q.s.cell h with ⟨k, hk, rfl, h1, h2⟩ | ⟨k, hk, rfl, rfl⟩
  · have hc := q.s.fc k hk
    exact CC.trans q.p (by omega) (by omega) (q.rows k hk) (q.row hk (Nat.le_refl _) (by omega) h1 h2)
  · have hc := q.s.fc k (by omega)
    have c1 := col_in (lo := lo) (W := W) (tn := tn) (k := k) (Nat.le_refl (W k))
    exact CC.trans q.p (by omega) (by omega) (q.rows k (by omega)) (CC.trans q.p (by omega) (by omega) (q.row (by omega) (Nat.le_refl _) (by omega) c1.1 c1.2) (q.turn hk))
/-- the leaves of the snake -/
def SLf (S : Nat → Nat → Bool) (L : List Lf) (o : Nat) : Prop := ∃ i j, S i j = true ∧ At L o i j
theorem unit_at {o i j i' j' : Nat} (h : Unit L o i j) (a : At L o i' j') : i' = i ∧ j' = j := by
  obtain ⟨x, h1, h2, rfl, rfl⟩ := h
  obtain ⟨y, h3, a1, a2, a3, a4⟩ := a
  rw [h1] at h3
  cases h3
  rw [h2] at a2 a4
  omega
theorem SnP.lk (q : SnP n R0 m lo W tn S F L t) {o o' : Nat} (h : SLf S L o) (l : Lk n L t by' o o') : SLf S L o' := by
  obtain ⟨i0, j0, hS, ha⟩ := h
  obtain ⟨i, j, i', j', a1, a2, ad, _, e2⟩ := q.p.lk_adj l
  obtain ⟨rfl, rfl⟩ := unit_at (q.unit hS ha) a1
  exact ⟨i', j', q.hn _ _ _ _ hS ad.any e2, a2⟩
/-- .. are a group -/
theorem SnP.grp (q : SnP n R0 m lo W tn S F L t) {gs : List (List Nat)} (G : Grp n L t by' gs) : ∃ g ∈ gs, (∀ o, o ∈ g ↔ SLf S L o) ∧ UnitG L g ∧ tree (cellF L g) n 0 0 = tree S n 0 0 := by
  have hm := q.s.m2
  have h0 : S R0 (lo 0) = true := (q.s.row 0 (by omega) _).mpr ⟨Nat.le_refl _, by omega⟩
  obtain ⟨hl1, hl2⟩ := q.s.lt h0
  obtain ⟨o0, a0⟩ := q.p.at hl1 hl2
  obtain ⟨x0, hx0, _⟩ := id a0
  obtain ⟨g, hg, ho0⟩ := G.cov o0 x0 hx0 (by rw [← q.p.tr' hx0 a0, q.hs _ _ h0])
  have hm : ∀ o, o ∈ g ↔ SLf S L o := fun o => by
    constructor
    · intro ho
      exact (G.con g hg o0 ho0 o ho).keep (P := SLf S L) (fun a b ha r => q.lk ha r) ⟨_, _, h0, a0⟩
    · rintro ⟨i, j, hS, ha⟩
      exact G.in_of hg ho0 (q.all hS o0 o a0 ha)
  have hu : UnitG L g := fun o ho x hx => by
    obtain ⟨i, j, hS, ha⟩ := (hm o).mp ho
    obtain ⟨y, h1, h2, _⟩ := q.unit hS ha
    rw [hx] at h1
    cases h1
    exact h2
  refine ⟨g, hg, hm, hu, tree_congr n 0 0 fun i j _ hi _ hj => ?_⟩
  rw [Bool.eq_iff_iff, cellF_iff]
  constructor
  · rintro ⟨o, ho, x, hx, rfl, rfl⟩
    obtain ⟨i, j, hS, ha⟩ := (hm o).mp ho
    obtain ⟨y, h1, h2, rfl, rfl⟩ := q.unit hS ha
    rw [hx] at h1
    cases h1
    exact hS
  · intro hS
    obtain ⟨o, ha⟩ := q.p.at (i := i) (j := j) (by omega) (by omega)
    obtain ⟨y, h1, h2, h3, h4⟩ := q.unit hS ha
    exact ⟨o, (hm o).mpr ⟨i, j, hS, ha⟩, y, h1, h3, h4⟩
end
end Qf
/-! How long a snake's chain is: plain Lean. -/
namespace Qf
def off (W : Nat → Nat) (e : Nat) : Nat → Nat
  | 0 => 0
  | k + 1 => off W e k + W k + 2 * e
def eB (by' : Bool) : Nat := if by' then 0 else 1
section
variable {n R0 m tn : Nat} {lo W : Nat → Nat} {S : Nat → Nat → Bool} {L : List Lf} {by' : Bool}
/-- each leaf of a cell is come to in v steps -/
def PT (n : Nat) (L : List Lf) (by' : Bool) (o1 i j v : Nat) : Prop := ∀ o, At L o i j → PathN (Lk n L true by') o1 v o
theorem SnP.pt (q : SnP n R0 m lo W tn S S L true) {o1 i j i' j' v v' : Nat} (h : PT n L by' o1 i j v) (s : S i j = true) (s' : S i' j' = true) (a : Adj by' i j i' j') (d : i ≠ i' ∨ j ≠ j') (e : v' = v + 1) : PT n L by' o1 i' j' v' := fun o' a' => by
  obtain ⟨hi, hj⟩ := q.s.lt s
  obtain ⟨o, ao⟩ := q.p.at hi hj
  rw [e]
  exact .step (h o ao) (q.p.unitLk (q.unit s ao) (q.unit s' a') a (by omega) s s')
theorem Sn.colS (s : Sn n R0 m lo W tn S) {k p : Nat} (hk : k < m) (hp : p ≤ W k) : S (R0 + 2 * k) (col lo W tn k p) = true := (s.row k hk _).mpr (col_in hp)
theorem col_step {k p : Nat} (hp : p + 1 ≤ W k) : (col lo W tn k (p + 1) ≤ col lo W tn k p + 1 ∧ col lo W tn k p ≤ col lo W tn k (p + 1) + 1) ∧ col lo W tn k p ≠ col lo W tn k (p + 1) := by
  unfold col
  split <;> omega
theorem SnP.ptRow (q : SnP n R0 m lo W tn S S L true) {o1 k p v v' : Nat} (hk : k < m) (hp : p + 1 ≤ W k) (h : PT n L by' o1 (R0 + 2 * k) (col lo W tn k p) v) (e : v' = v + 1) : PT n L by' o1 (R0 + 2 * k) (col lo W tn k (p + 1)) v' := by
  have c := col_step (lo := lo) (W := W) (tn := tn) hp
  exact q.pt h (q.s.colS hk (by omega)) (q.s.colS hk hp) ⟨by omega, by omega, by omega, by omega, .inr (.inl rfl)⟩ (.inr c.2) e
theorem SnP.ptTurn (q : SnP n R0 m lo W tn S S L true) {o1 k : Nat} (hk : k + 1 < m) (h : ∀ p, p ≤ W k → (by' = false ∨ 1 ≤ p) → PT n L by' o1 (R0 + 2 * k) (col lo W tn k p) (off W (eB by') k + p)) : PT n L by' o1 (R0 + 2 * k + 1) (col lo W tn k (W k)) (off W (eB by') k + W k + eB by') := by
  have hw := q.s.w k (by omega)
  have ht := (q.s.trn k hk _).mpr rfl
  cases by' with
  | false => exact q.pt (h (W k) (Nat.le_refl _) (.inl rfl)) (q.s.colS (by omega) (Nat.le_refl _)) ht ⟨by omega, by omega, by omega, by omega, .inr (.inr rfl)⟩ (.inl (by omega)) rfl
  | true =>
    have c := col_step (lo := lo) (W := W) (tn := tn) (k := k) (p := W k - 1) (by omega)
    rw [Nat.sub_add_cancel (by omega)] at c
    exact q.pt (h (W k - 1) (by omega) (.inr (by omega))) (q.s.colS (by omega) (by omega)) ht ⟨by omega, by omega, by omega, by omega, .inl rfl⟩ (.inl (by omega)) (by show _ + W k + 0 = _ + (W k - 1) + 1; omega)
theorem SnP.ptAll (q : SnP n R0 m lo W tn S S L true) {o1 : Nat} (h1 : At L o1 R0 (col lo W tn 0 0)) : ∀ k, k < m → ∀ p, p ≤ W k → (k = 0 ∨ by' = false ∨ 1 ≤ p) → PT n L by' o1 (R0 + 2 * k) (col lo W tn k p) (off W (eB by') k + p)
  | 0, hk, 0, _, _ => fun o a => by cases q.p.uniq h1 a; exact .zero
  | 0, hk, p + 1, hp, _ => q.ptRow hk hp (q.ptAll h1 0 hk p (by omega) (.inl rfl)) (by omega)
  | k + 1, hk, 0, hp, hc => by
    have ih := fun p hp hc => q.ptAll h1 k (by omega) p hp (.inr hc)
    have hb : by' = false := by
      rcases hc with hc | hc | hc
      · omega
      · exact hc
      · omega
    subst hb
    have T := q.ptTurn hk ih
    have jn := q.s.jn k hk
    refine q.pt T ((q.s.trn k hk _).mpr rfl) (q.s.colS hk hp) ⟨by omega, by omega, by omega, by omega, .inr (.inr jn.symm)⟩ (.inl (by omega)) ?_
    show off W 1 k + W k + 2 * 1 + 0 = off W 1 k + W k + 1 + 1
    omega
  | k + 1, hk, p + 1, hp, _ => by
    by_cases hq : by' = false ∨ 1 ≤ p
    · exact q.ptRow hk hp (q.ptAll h1 (k + 1) hk p (by omega) (.inr hq)) (by omega)
    · have ih := fun p hp hc => q.ptAll h1 k (by omega) p hp (.inr hc)
      obtain rfl : p = 0 := by omega
      obtain rfl : by' = true := by
        cases by' with
        | true => rfl
        | false => exact absurd (.inl rfl) hq
      have T := q.ptTurn hk ih
      have jn := q.s.jn k hk
      have c := col_step (lo := lo) (W := W) (tn := tn) (k := k + 1) (p := 0) hp
      rw [jn] at c
      refine q.pt T ((q.s.trn k hk _).mpr rfl) (q.s.colS hk hp) ⟨by omega, by omega, by omega, by omega, .inl rfl⟩ (.inl (by omega)) ?_
      show off W 0 k + W k + 2 * 0 + (0 + 1) = off W 0 k + W k + 0 + 1
      omega
/-- how far a cell is -/
def Pt (R0 m : Nat) (lo W : Nat → Nat) (tn e i j v : Nat) : Prop := (∃ k p, k < m ∧ p ≤ W k ∧ i = R0 + 2 * k ∧ j = col lo W tn k p ∧ v = off W e k + p) ∨ (∃ k, k + 1 < m ∧ i = R0 + 2 * k + 1 ∧ j = col lo W tn k (W k) ∧ v = off W e k + W k + e)
theorem Sn.pt (s : Sn n R0 m lo W tn S) (e : Nat) {i j : Nat} (h : S i j = true) : ∃ v, Pt R0 m lo W tn e i j v := by
  rcases s.cell h with ⟨k, hk, rfl, h1, h2⟩ | ⟨k, hk, rfl, rfl⟩
  · obtain ⟨p, hp, rfl⟩ := col_of (tn := tn) h1 h2
    exact ⟨_, .inl ⟨k, p, hk, hp, rfl, rfl, rfl⟩⟩
  · exact ⟨_, .inr ⟨k, hk, rfl, rfl, rfl⟩⟩
theorem off_succ (W : Nat → Nat) (e k : Nat) : off W e (k + 1) = off W e k + W k + 2 * e := rfl
theorem Sn.lip (s : Sn n R0 m lo W tn S) {i j v i' j' v' : Nat} (h : Pt R0 m lo W tn (eB by') i j v) (h' : Pt R0 m lo W tn (eB by') i' j' v') (a : Adj by' i j i' j') : v' ≤ v + 1 := by
  obtain ⟨a1, a2, a3, a4, a5⟩ := a
  have he : (by' = true ∧ eB by' = 0) ∨ (by' = false ∧ eB by' = 1) := by
    cases by' with
    | true => exact .inl ⟨rfl, rfl⟩
    | false => exact .inr ⟨rfl, rfl⟩
  rcases h with ⟨k, p, hk, hp, rfl, rfl, rfl⟩ | ⟨k, hk, rfl, rfl, rfl⟩ <;> rcases h' with ⟨k', p', hk', hp', e1, e2, rfl⟩ | ⟨k', hk', e1, e2, rfl⟩
  · obtain rfl : k' = k := by omega
    subst e1 e2
    unfold col at a3 a4
    split at a3 <;> split at a4 <;> omega
  · subst e1
    have : k' = k ∨ k = k' + 1 := by omega
    rcases this with rfl | rfl
    · subst e2
      unfold col at a3 a4 a5
      rcases he with ⟨hb, he⟩ | ⟨hb, he⟩
      · split at a3 <;> split at a4 <;> omega
      · rcases a5 with a5 | a5 | a5
        · rw [hb] at a5; cases a5
        · omega
        · split at a5 <;> omega
    · rw [off_succ]; omega
  · subst e1
    have : k' = k ∨ k' = k + 1 := by omega
    rcases this with rfl | rfl
    · omega
    · subst e2
      rw [← s.jn k hk] at a3 a4 a5
      rw [off_succ]
      unfold col at a3 a4 a5
      rcases he with ⟨hb, he⟩ | ⟨hb, he⟩
      · split at a3 <;> split at a4 <;> omega
      · rcases a5 with a5 | a5 | a5
        · rw [hb] at a5; cases a5
        · omega
        · split at a5 <;> omega
  · obtain rfl : k' = k := by omega
    omega
theorem SnP.low (q : SnP n R0 m lo W tn S S L true) {o1 : Nat} (h1 : At L o1 R0 (col lo W tn 0 0)) {k o : Nat} (h : PathN (Lk n L true by') o1 k o) : ∀ i j v, At L o i j → Pt R0 m lo W tn (eB by') i j v → v ≤ k := by
  have hm := q.s.m2
  have s0 := q.s.colS (k := 0) (by omega) (Nat.zero_le _)
  induction h with
  | zero =>
    intro i j v a pv
    obtain ⟨rfl, rfl⟩ := unit_at (q.unit s0 h1) a
    rcases pv with ⟨k, p, hk, hp, e1, e2, rfl⟩ | ⟨k, hk, e1, _⟩
    · obtain rfl : k = 0 := by omega
      unfold col at e2
      show 0 + p ≤ 0
      split at e2 <;> omega
    · omega
  | step _ r ih =>
    intro i j v a pv
    obtain ⟨i1, j1, i2, j2, a1, a2, ad, f1, f2⟩ := q.p.lk_adj r
    obtain ⟨rfl, rfl⟩ := unit_at (q.unit f2 a2) a
    obtain ⟨v1, p1⟩ := q.s.pt (eB by') f1
    have := ih _ _ _ a1 p1
    have := q.s.lip p1 pv ad
    omega
theorem off_sum (by' : Bool) (W : Nat → Nat) : ∀ k, off W (eB by') k + (if by' then 2 * k else 0) = ((List.range k).map W).sum + 2 * k
  | 0 => by cases by' <;> rfl
  | k + 1 => by
    rw [off_succ, List.range_succ, List.map_append, List.sum_append]
    show _ = _ + (W k + 0) + _
    cases by' with
    | true =>
      have ih : off W 0 k + 2 * k = _ := off_sum true W k
      show off W 0 k + W k + 2 * 0 + 2 * (k + 1) = _
      omega
    | false =>
      have ih : off W 1 k + 0 = _ := off_sum false W k
      show off W 1 k + W k + 2 * 1 + 0 = _
      omega
theorem SnP.len (q : SnP n R0 m lo W tn S S L true) {o1 o2 : Nat} (h1 : At L o1 R0 (col lo W tn 0 0)) (h2 : At L o2 (R0 + 2 * (m - 1)) (col lo W tn (m - 1) (W (m - 1)))) :
    Rch (Lk n L true by') o1 o2 ∧ ∀ k, PathN (Lk n L true by') o1 k o2 → (∀ x, PathN (Lk n L true by') o1 x o2 → k ≤ x) → k + 2 + (if by' then 2 * (m - 1) else 0) = ((List.range m).map fun k => W k + 1).sum + m := by
  have hm := q.s.m2
  have hw := q.s.w (m - 1) (by omega)
  have s0 := q.s.colS (k := 0) (p := 0) (by omega) (Nat.zero_le _)
  have s1 := q.s.colS (k := m - 1) (by omega) (Nat.le_refl (W (m - 1)))
  have hp := q.ptAll (by' := by') h1 (m - 1) (by omega) (W (m - 1)) (Nat.le_refl _) (.inr (.inr (by omega))) o2 h2
  refine ⟨(q.all s0).symm.trans q.p (q.s.lt ((q.s.row 0 (by omega) _).mpr ⟨Nat.le_refl _, Nat.le_add_right _ _⟩)).1 (q.s.lt ((q.s.row 0 (by omega) _).mpr ⟨Nat.le_refl _, Nat.le_add_right _ _⟩)).2 (q.all s1) o1 o2 h1 h2, fun k hk hmin => ?_⟩
  have lo1 := q.low h1 hk _ _ _ h2 (.inl ⟨m - 1, W (m - 1), by omega, Nat.le_refl _, rfl, rfl, rfl⟩)
  have hi1 := hmin _ hp
  have hs := off_sum by' W (m - 1)
  have e1 : ∀ k, ((List.range k).map fun k => W k + 1).sum = ((List.range k).map W).sum + k := by
    intro k
    induction k with
    | zero => rfl
    | succ k ih =>
      rw [List.range_succ, List.map_append, List.map_append, List.sum_append, List.sum_append, ih]
      show _ + (W k + 1 + 0) = _ + (W k + 0) + _
      omega
  have e2 : ((List.range m).map W).sum = ((List.range (m - 1)).map W).sum + W (m - 1) := by
    obtain ⟨k, rfl⟩ : ∃ k, m = k + 1 := ⟨m - 1, by omega⟩
    rw [List.range_succ, List.map_append, List.sum_append]
    show _ + (W k + 0) = _
    rw [Nat.add_sub_cancel]
    omega
  rw [e1, e2]
  omega
end
end Qf
/-! How many leaves: plain Lean. -/
namespace Qf
theorem lvs_pos : ∀ t : Qt, 1 ≤ t.lvs
  | .e => Nat.le_refl _
  | .f => Nat.le_refl _
  | .n a b c d => by
    have := lvs_pos a
    show 1 ≤ a.lvs + b.lvs + c.lvs + d.lvs
    omega
theorem lvs_mk (a b c d : Qt) : (mk a b c d).lvs ≤ a.lvs + b.lvs + c.lvs + d.lvs := by
  have h1 := lvs_pos a
  rcases mk_cases a b c d with e | ⟨e, _⟩ | ⟨e, _⟩
  · rw [e]; exact Nat.le_refl _
  · rw [e]; show 1 ≤ _; omega
  · rw [e]; show 1 ≤ _; omega
theorem lvs_le (F : Nat → Nat → Bool) : ∀ k r c, (tree F k r c).lvs ≤ 4 ^ k
  | 0, r, c => by
    unfold tree
    split <;> exact Nat.le_refl _
  | k + 1, r, c => by
    have h := lvs_mk (tree F k r c) (tree F k r (c + 2 ^ k)) (tree F k (r + 2 ^ k) c) (tree F k (r + 2 ^ k) (c + 2 ^ k))
    have h1 := lvs_le F k r c
    have h2 := lvs_le F k r (c + 2 ^ k)
    have h3 := lvs_le F k (r + 2 ^ k) c
    have h4 := lvs_le F k (r + 2 ^ k) (c + 2 ^ k)
    rw [Nat.pow_succ]
    unfold tree
    omega
/-- how many pairs of lines meet a stretch -/
def prs (a b : Nat) : Nat → Nat → Nat
  | 0, r => if r < b ∧ a < r + 2 then 1 else 0
  | k + 1, r => prs a b k r + prs a b k (r + 2 ^ (k + 1))
theorem lvs_box {F : Nat → Nat → Bool} {r1 r2 c1 c2 : Nat} (h : ∀ i j, F i j = true → r1 ≤ i ∧ i < r2 ∧ c1 ≤ j ∧ j < c2) : ∀ k r c, (tree F (k + 1) r c).lvs ≤ 4 ^ k + 3 * (prs r1 r2 k r * prs c1 c2 k c)
  | 0, r, c => by
    by_cases q1 : r < r2 ∧ r1 < r + 2
    · by_cases q2 : c < c2 ∧ c1 < c + 2
      · have := lvs_le F 1 r c
        have e1 : prs r1 r2 0 r = 1 := if_pos q1
        have e2 : prs c1 c2 0 c = 1 := if_pos q2
        rw [e1, e2]
        exact this
      · have : tree F 1 r c = .e := (tree_e 1 r c).mpr fun i j a1 a2 a3 a4 => by
          cases e : F i j with
          | false => rfl
          | true => have := h i j e; omega
        rw [this]
        show 1 ≤ 1 + _
        omega
    · have : tree F 1 r c = .e := (tree_e 1 r c).mpr fun i j a1 a2 a3 a4 => by
        cases e : F i j with
        | false => rfl
        | true => have := h i j e; omega
      rw [this]
      show 1 ≤ 1 + _
      omega
  | k + 1, r, c => by
    have h0 := lvs_mk (tree F (k + 1) r c) (tree F (k + 1) r (c + 2 ^ (k + 1))) (tree F (k + 1) (r + 2 ^ (k + 1)) c) (tree F (k + 1) (r + 2 ^ (k + 1)) (c + 2 ^ (k + 1)))
    have h1 := lvs_box h k r c
    have h2 := lvs_box h k r (c + 2 ^ (k + 1))
    have h3 := lvs_box h k (r + 2 ^ (k + 1)) c
    have h4 := lvs_box h k (r + 2 ^ (k + 1)) (c + 2 ^ (k + 1))
    have e : 4 ^ (k + 1) = 4 ^ k * 4 := by rw [Nat.pow_succ]
    have ex : ∀ a b c d : Nat, (a + b) * (c + d) = a * c + a * d + (b * c + b * d) := fun a b c d => by rw [Nat.add_mul, Nat.mul_add, Nat.mul_add]
    show (mk _ _ _ _).lvs ≤ 4 ^ (k + 1) + 3 * ((prs r1 r2 k r + prs r1 r2 k (r + 2 ^ (k + 1))) * (prs c1 c2 k c + prs c1 c2 k (c + 2 ^ (k + 1))))
    rw [e, ex]
    omega
theorem prs27 : ∀ a, a < 64 → prs a (a + 27) 5 0 ≤ 14 := by decide +kernel
theorem prs28 : ∀ a, a < 64 → prs a (a + 28) 5 0 ≤ 15 := by decide +kernel
theorem prs29 : ∀ a, a < 64 → prs a (a + 29) 5 0 ≤ 15 := by decide +kernel
theorem prs30 : ∀ a, a < 64 → prs a (a + 30) 5 0 ≤ 16 := by decide +kernel
/-- the long snake's cells, told at once -/
def lgF (f i j : Nat) : Bool := Nat.ble f i && (Nat.ble i (f + 30) && bif Nat.beq ((i - f) % 2) 0 then Nat.ble 8 j || Nat.ble 8 (i - f) else bif Nat.beq ((i - f) % 4) 3 then Nat.beq j 63 else bif Nat.ble (i - f) 7 then Nat.beq j 8 else Nat.beq j 0)
def lgN (d1 d2 : Nat) : Bool := Nat.ble (tree (lgF (32 * d1 + d2)) 6 0 0).lvs 2000
theorem long_lvs : (lgN 0 0 && (lgN 0 1 && (lgN 1 0 && lgN 1 1))) = true := by decide +kernel
end Qf
/-! The full snake: plain Lean. -/
namespace Qf
def rl (R0 m : Nat) (lo W : Nat → Nat) : List Rw := (List.range m).map fun k => ⟨R0 + 2 * k, lo k, W k + 1⟩
section
variable {n R0 m tn : Nat} {lo W : Nat → Nat}
theorem rl_len : (rl R0 m lo W).length = m := by unfold rl; rw [List.length_map, List.length_range]
theorem rl_get {k : Nat} (hk : k < m) : (rl R0 m lo W)[k]? = some ⟨R0 + 2 * k, lo k, W k + 1⟩ := by
  unfold rl
  rw [List.getElem?_map, List.getElem?_range hk]
  rfl
theorem turn_col {r k : Nat} : turnOf ⟨r, lo k, W k + 1⟩ k tn = col lo W tn k (W k) := by
  show lo k + W k * ((k + tn) % 2) = _
  unfold col
  split
  · rename_i h; rw [h, Nat.mul_one]
  · rename_i h
    have : (k + tn) % 2 = 0 := by omega
    rw [this]; omega
theorem snake_iff {i j : Nat} : fB (snakeB (rl R0 m lo W) tn) i j = true ↔ (∃ k, k < m ∧ i = R0 + 2 * k ∧ lo k ≤ j ∧ j ≤ lo k + W k) ∨ (∃ k, k + 1 < m ∧ i = R0 + 2 * k + 1 ∧ j = col lo W tn k (W k)) := by
  rw [fB_iff]
  unfold snakeB
  constructor
  · rintro ⟨b, hb, hh⟩
    rcases List.mem_append.mp hb with hb | hb
    · obtain ⟨x, hx, rfl⟩ := List.mem_map.mp hb
      obtain ⟨k, hk, rfl⟩ := List.mem_map.mp hx
      have hk := List.mem_range.mp hk
      obtain ⟨h1, h2, h3, h4⟩ := hh
      have h1 : R0 + 2 * k ≤ i := h1
      have h2 : i < R0 + 2 * k + 1 := h2
      have h3 : lo k ≤ j := h3
      have h4 : j < lo k + (W k + 1) := h4
      exact .inl ⟨k, hk, by omega, h3, by omega⟩
    · obtain ⟨k, hk, rfl⟩ := List.mem_map.mp hb
      have hk := List.mem_range.mp hk
      rw [rl_len] at hk
      rw [List.getD_eq_getElem?_getD, rl_get (by omega)] at hh
      obtain ⟨h1, h2, h3, h4⟩ := hh
      have h1 : R0 + 2 * k + 1 ≤ i := h1
      have h2 : i < R0 + 2 * k + 1 + 1 := h2
      have h3 : turnOf ⟨R0 + 2 * k, lo k, W k + 1⟩ k tn ≤ j := h3
      have h4 : j < turnOf ⟨R0 + 2 * k, lo k, W k + 1⟩ k tn + 1 := h4
      rw [turn_col] at h3 h4
      exact .inr ⟨k, by omega, by omega, by omega⟩
  · rintro (⟨k, hk, rfl, h3, h4⟩ | ⟨k, hk, rfl, rfl⟩)
    · refine ⟨⟨R0 + 2 * k, lo k, 1, W k + 1⟩, List.mem_append_left _ (List.mem_map.mpr ⟨⟨R0 + 2 * k, lo k, W k + 1⟩, List.mem_map.mpr ⟨k, List.mem_range.mpr hk, rfl⟩, rfl⟩), ?_⟩
      exact ⟨Nat.le_refl _, Nat.lt_succ_self _, h3, Nat.lt_succ_of_le h4⟩
    · refine ⟨⟨R0 + 2 * k + 1, turnOf ⟨R0 + 2 * k, lo k, W k + 1⟩ k tn, 1, 1⟩, List.mem_append_right _ (List.mem_map.mpr ⟨k, List.mem_range.mpr (by rw [rl_len]; omega), ?_⟩), ?_⟩
      · rw [List.getD_eq_getElem?_getD, rl_get (by omega)]
        rfl
      · rw [turn_col]
        exact ⟨Nat.le_refl _, Nat.lt_succ_self _, Nat.le_refl _, Nat.lt_succ_self _⟩
theorem sn_of (m2 : 2 ≤ m) (w : ∀ k, k < m → 3 ≤ W k) (fr : R0 + 2 * m ≤ 2 ^ n + 1) (fc : ∀ k, k < m → lo k + W k < 2 ^ n) (jn : ∀ k, k + 1 < m → col lo W tn (k + 1) 0 = col lo W tn k (W k)) : Sn n R0 m lo W tn (fB (snakeB (rl R0 m lo W) tn)) := by
  refine ⟨m2, w, fr, fc, jn, fun k hk j => ?_, fun k hk j => ?_, fun i j h => ?_⟩
  · rw [snake_iff]
    constructor
    · rintro (⟨k', hk', e, h⟩ | ⟨k', hk', e, h⟩)
      · obtain rfl : k' = k := by omega
        exact h
      · omega
    · exact fun h => .inl ⟨k, hk, rfl, h⟩
  · rw [snake_iff]
    constructor
    · rintro (⟨k', hk', e, h⟩ | ⟨k', hk', e, h⟩)
      · omega
      · obtain rfl : k' = k := by omega
        exact h
    · exact fun h => .inr ⟨k, hk, rfl, h⟩
  · rcases snake_iff.mp h with ⟨k, hk, e, _⟩ | ⟨k, hk, e, _⟩ <;> omega
theorem Sn.snp {S : Nat → Nat → Bool} (s : Sn n R0 m lo W tn S) (h6 : n ≤ 6) (hl : (tree S n 0 0).lvs ≤ 2000) : SnP n R0 m lo W tn S S (leafs n (tree S n 0 0)) true :=
  ⟨s, pic_of S h6 hl, fun _ _ h => h, fun _ _ _ _ _ _ h => h⟩
theorem Sn.run {S : Nat → Nat → Bool} (s : Sn n R0 m lo W tn S) {i j : Nat} (h : S i j = false) : (∀ x, x ≤ j → S i x = false) ∨ (∀ x, j ≤ x → x < 2 ^ n → S i x = false) := by
  have nt : ∀ {x}, ¬ S i x = true → S i x = false := fun {x} z => by
    cases e : S i x with
    | false => rfl
    | true => exact absurd e z
  have hf : ¬ S i j = true := by rw [h]; exact Bool.false_ne_true
  by_cases q : ∃ x, S i x = true
  · obtain ⟨x0, hx0⟩ := q
    rcases s.cell hx0 with ⟨k, hk, rfl, _⟩ | ⟨k, hk, rfl, _⟩
    · rw [s.row k hk] at hf
      by_cases z : lo k ≤ j
      · exact .inr fun x h1 _ => nt fun hx => by have := (s.row k hk x).mp hx; omega
      · exact .inl fun x h1 => nt fun hx => by have := (s.row k hk x).mp hx; omega
    · rw [s.trn k hk] at hf
      by_cases z : col lo W tn k (W k) ≤ j
      · exact .inr fun x h1 _ => nt fun hx => by have := (s.trn k hk x).mp hx; omega
      · exact .inl fun x h1 => nt fun hx => by have := (s.trn k hk x).mp hx; omega
  · exact .inl fun x _ => nt fun hx => q ⟨x, hx⟩
theorem snk_ok (h6 : n ≤ 6) (s : Sn n R0 m lo W tn (fB (snakeB (rl R0 m lo W) tn))) (hl : (snakeT n (rl R0 m lo W) tn).lvs ≤ 2000) : SnkOK n (snakeT n (rl R0 m lo W) tn) (rl R0 m lo W) tn := by
  have q := s.snp h6 hl
  have hm := s.m2
  refine ⟨fit_of h6 (tree_canon _ _ _ _) (tree_ht _ _ _ _), hl, fun by' gs G => ?_, fun by' gs G g hg => ?_, ?_⟩
  · obtain ⟨g, hg, h1, h2, h3⟩ := q.grp G
    refine ⟨g, only_one G.nodup hg fun b hb => ?_, h2, h3⟩
    obtain ⟨o, x, ho, hx, hb'⟩ := G.mem_leaf hb
    exact G.eq_of hb hg ho ((h1 o).mpr ⟨x.r, x.c, by rw [q.p.tr' hx (at_self hx), hb'], at_self hx⟩)
  · obtain ⟨o, x, ho, hx, hb'⟩ := G.mem_leaf hg
    exact G.edge_of q.p hg ho (at_self hx) (s.run (by rw [q.p.tr' hx (at_self hx), hb']))
  · have hr := s.fr
    have hc0 := s.fc 0 (by omega)
    have hc1 := s.fc (m - 1) (by omega)
    have w0 := s.w 0 (by omega)
    have s0 := s.colS (k := 0) (p := 0) (by omega) (Nat.zero_le _)
    have s1 := s.colS (k := m - 1) (by omega) (Nat.le_refl (W (m - 1)))
    obtain ⟨i0, j0⟩ := s.lt s0
    obtain ⟨i1, j1⟩ := s.lt s1
    have t0 : turnOf ⟨R0 + 2 * 0, lo 0, W 0 + 1⟩ 0 (tn + 1) = col lo W tn 0 0 := by
      rw [turn_col]
      unfold col
      split <;> split <;> omega
    have t1 : turnOf ⟨R0 + 2 * (m - 1), lo (m - 1), W (m - 1) + 1⟩ (m - 1) tn = col lo W tn (m - 1) (W (m - 1)) := turn_col
    obtain ⟨o1, a1⟩ := q.p.at i0 j0
    obtain ⟨o2, a2⟩ := q.p.at i1 j1
    refine ⟨⟨R0 + 2 * 0, lo 0, W 0 + 1⟩, ⟨R0 + 2 * (m - 1), lo (m - 1), W (m - 1) + 1⟩, o1, o2, rl_get (by omega), by rw [rl_len]; exact rl_get (by omega), ?_, ?_, i0, ?_, i1, ?_, fun by' => ?_⟩
    · obtain ⟨u, h1, h2⟩ := id a1
      exact ⟨u, h1, by rw [t0]; exact h2, by rw [← q.p.tr' h1 a1, s0]⟩
    · obtain ⟨u, h1, h2⟩ := id a2
      exact ⟨u, h1, by rw [rl_len, t1]; exact h2, by rw [← q.p.tr' h1 a2, s1]⟩
    · rw [t0]; exact j0
    · rw [rl_len, t1]; exact j1
    · have e : (rl R0 m lo W).map Rw.w = (List.range m).map fun k => W k + 1 := by
        unfold rl
        rw [List.map_map]
        rfl
      rw [rl_len, e]
      exact q.len a1 a2
end
theorem short_rl {r c m w : Nat} : shortR r c (w + 1) m = rl r m (fun _ => c) fun _ => w := rfl
theorem long_rl (f : Nat) : longR f = rl f 16 (fun k => if k < 4 then 8 else 0) fun k => if k < 4 then 55 else 63 := by
  unfold longR rl
  refine List.map_congr_left fun k _ => ?_
  dsimp only
  by_cases h : k < 4
  · rw [if_pos h, if_pos h, if_pos h]
  · rw [if_neg h, if_neg h, if_neg h]
theorem short_sn {n r c w m tn : Nat} (d : Dims n r c (w + 1) m tn) : Sn n r m (fun _ => c) (fun _ => w) tn (fB (snakeB (shortR r c (w + 1) m) tn)) := by
  have h1 := d.w1
  have h2 := d.m1
  have h3 := d.r2
  have h4 := d.c2
  rw [short_rl]
  refine sn_of h2 (fun k hk => by omega) (by omega) (fun k hk => by omega) fun k hk => ?_
  unfold col
  dsimp only
  split <;> split <;> omega
theorem short_cells {n r c w m tn : Nat} (d : Dims n r c (w + 1) m tn) {i j : Nat} (h : fB (snakeB (shortR r c (w + 1) m) tn) i j = true) : r ≤ i ∧ i ≤ r + 2 * (m - 1) ∧ c ≤ j ∧ j ≤ c + w := by
  have s := short_sn d
  obtain ⟨h1, h2⟩ := s.out i j h
  rcases s.cell h with ⟨k, _, _, h3, h4⟩ | ⟨k, _, _, rfl⟩
  · exact ⟨h1, h2, h3, h4⟩
  · have := col_in (lo := fun _ => c) (W := fun _ => w) (tn := tn) (k := k) (Nat.le_refl w)
    exact ⟨h1, h2, this.1, this.2⟩
theorem lvs_few {F : Nat → Nat → Bool} {n r c a b x y : Nat} (hn : n = 5 ∨ n = 6) (h : ∀ i j, F i j = true → r ≤ i ∧ i < r + a ∧ c ≤ j ∧ j < c + b) (hx : prs r (r + a) 5 0 ≤ x) (hy : prs c (c + b) 5 0 ≤ y) (hxy : 3 * (x * y) ≤ 976) : (tree F n 0 0).lvs ≤ 2000 := by
  rcases hn with rfl | rfl
  · have := lvs_le F 5 0 0
    have e : 4 ^ 5 = 1024 := by decide
    omega
  · have h1 : (tree F 6 0 0).lvs ≤ _ := lvs_box h 5 0 0
    have h2 := Nat.mul_le_mul hx hy
    have e : 4 ^ 5 = 1024 := by decide
    omega
theorem Dims.n6 {n r c w m tn : Nat} (d : Dims n r c w m tn) : n ≤ 6 ∧ 2 ^ n ≤ 64 := by
  rcases d.n5 with rfl | rfl
  · exact ⟨by decide, by decide⟩
  · exact ⟨by decide, by decide⟩
theorem short_lvs {n r c w m tn : Nat} (d : Dims n r c (w + 1) m tn) : (snakeT n (shortR r c (w + 1) m) tn).lvs ≤ 2000 := by
  have h2 := d.w2
  have h3 := d.m2
  have h4 := d.r2
  have h5 := d.c2
  have h6 := d.n6
  have h7 := d.m1
  exact lvs_few (a := 27) (b := 28) (r := r) (c := c) d.n5 (fun i j h => by have := short_cells d h; omega) (prs27 r (by omega)) (prs28 c (by omega)) (by decide)
theorem short_ok {n r c w m tn : Nat} (d : Dims n r c w m tn) : SnkOK n (snakeT n (shortR r c w m) tn) (shortR r c w m) tn := by
  have h1 := d.w1
  obtain ⟨w, rfl⟩ : ∃ v, w = v + 1 := ⟨w - 1, by omega⟩
  exact snk_ok d.n6.1 (short_sn d) (short_lvs d)
theorem long_sn {f : Nat} (hf : f ≤ 33) : Sn 6 f 16 (fun k => if k < 4 then 8 else 0) (fun k => if k < 4 then 55 else 63) 0 (fB (snakeB (longR f) 0)) := by
  rw [long_rl]
  refine sn_of (by decide) (fun k hk => ?_) (by show f + 32 ≤ 65; omega) (fun k hk => ?_) fun k hk => ?_
  · show 3 ≤ if k < 4 then 55 else 63
    split <;> decide
  · show (if k < 4 then 8 else 0) + (if k < 4 then 55 else 63) < 64
    split <;> decide
  · unfold col
    by_cases h1 : k < 4 <;> by_cases h2 : k + 1 < 4 <;> by_cases h3 : (k + 0) % 2 = 1 <;> by_cases h4 : (k + 1 + 0) % 2 = 1 <;> simp only [h1, h2, h3, h4, if_true, if_false] <;> omega
theorem lgF_iff {f i j : Nat} : lgF f i j = true ↔ f ≤ i ∧ i ≤ f + 30 ∧ (((i - f) % 2 = 0 ∧ (8 ≤ j ∨ 8 ≤ i - f)) ∨ ((i - f) % 2 ≠ 0 ∧ (((i - f) % 4 = 3 ∧ j = 63) ∨ ((i - f) % 4 ≠ 3 ∧ ((i - f ≤ 7 ∧ j = 8) ∨ (¬ i - f ≤ 7 ∧ j = 0)))))) := by
  unfold lgF
  by_cases h1 : (i - f) % 2 = 0 <;> by_cases h2 : (i - f) % 4 = 3 <;> by_cases h3 : i - f ≤ 7 <;> simp [h1, h2, h3, cond_eq_ite, Nat.beq_eq, Nat.ble_eq]
theorem long_eq {f : Nat} (hf : f ≤ 33) (i j : Nat) (hj : j < 64) : fB (snakeB (longR f) 0) i j = lgF f i j := by
  rw [Bool.eq_iff_iff, lgF_iff, long_rl, snake_iff]
  constructor
  · rintro (⟨k, hk, rfl, h1, h2⟩ | ⟨k, hk, rfl, h⟩)
    · refine ⟨by omega, by omega, .inl ⟨by omega, ?_⟩⟩
      split at h1 <;> omega
    · unfold col at h
      dsimp only at h
      refine ⟨by omega, by omega, .inr ⟨by omega, ?_⟩⟩
      split at h <;> split at h <;> omega
  · rintro ⟨h1, h2, ⟨h3, h4⟩ | ⟨h3, h4⟩⟩
    · refine .inl ⟨(i - f) / 2, by omega, by omega, ?_⟩
      split <;> omega
    · refine .inr ⟨(i - f) / 2, by omega, by omega, ?_⟩
      unfold col
      dsimp only
      split <;> split <;> omega
theorem long_ok (d1 d2 : Nat) (h1 : d1 < 2) (h2 : d2 < 2) : SnkOK 6 (snakeT 6 (longR (32 * d1 + d2)) 0) (longR (32 * d1 + d2)) 0 := by
  have hl : (snakeT 6 (longR (32 * d1 + d2)) 0).lvs ≤ 2000 := by
    unfold snakeT
    rw [tree_congr (G := lgF (32 * d1 + d2)) 6 0 0 fun i j _ _ _ hj => long_eq (by omega) i j (by omega)]
    have := long_lvs
    rw [Bool.and_eq_true, Bool.and_eq_true, Bool.and_eq_true] at this
    obtain ⟨g1, g2, g3, g4⟩ := this
    match d1, d2, h1, h2 with
    | 0, 0, _, _ => exact Nat.le_of_ble_eq_true g1
    | 0, 1, _, _ => exact Nat.le_of_ble_eq_true g2
    | 1, 0, _, _ => exact Nat.le_of_ble_eq_true g3
    | 1, 1, _, _ => exact Nat.le_of_ble_eq_true g4
  have s := long_sn (f := 32 * d1 + d2) (by omega)
  rw [long_rl] at s hl ⊢
  exact snk_ok (by decide) s hl
end Qf
/-! The hollow square: plain Lean. -/
namespace Qf
/-- a full box but for a snake's cells -/
structure Hw (n r c w m tn : Nat) (S F : Nat → Nat → Bool) : Prop where
  s : Sn n r m (fun _ => c) (fun _ => w) tn S
  n6 : n ≤ 6
  r1 : 1 ≤ r
  c1 : 1 ≤ c
  r2 : r + 2 * m ≤ 2 ^ n
  c2 : c + w + 2 ≤ 2 ^ n
  cells : ∀ i j, S i j = true → r ≤ i ∧ i ≤ r + 2 * (m - 1) ∧ c ≤ j ∧ j ≤ c + w
  iff : ∀ i j, F i j = true ↔ (r - 1 ≤ i ∧ i ≤ r + 2 * m - 1 ∧ c - 1 ≤ j ∧ j ≤ c + w + 1) ∧ S i j = false
  few : (tree F n 0 0).lvs ≤ 2000
section
variable {n r c w m tn : Nat} {S F : Nat → Nat → Bool}
theorem nt {b : Bool} (h : ¬ b = true) : b = false := by
  cases b with
  | false => rfl
  | true => exact absurd rfl h
theorem Hw.pic (h : Hw n r c w m tn S F) : Pic F n (leafs n (tree F n 0 0)) := pic_of F h.n6 h.few
theorem Hw.snp (h : Hw n r c w m tn S F) : SnP n r m (fun _ => c) (fun _ => w) tn S F (leafs n (tree F n 0 0)) false := by
  have hr := h.r1
  have hc := h.c1
  have hm := h.s.m2
  refine ⟨h.s, h.pic, fun i j hS => nt fun z => ?_, fun i j i' j' hS a e => ?_⟩
  · have := ((h.iff i j).mp z).2
    rw [hS] at this
    cases this
  · have hb := h.cells i j hS
    obtain ⟨a1, a2, a3, a4, _⟩ := a
    by_cases z : S i' j' = true
    · exact z
    · have := (h.iff i' j').mpr ⟨by omega, nt z⟩
      rw [e] at this
      cases this
theorem Hw.box (h : Hw n r c w m tn S F) {i j : Nat} (q : r - 1 ≤ i ∧ i ≤ r + 2 * m - 1 ∧ c - 1 ≤ j ∧ j ≤ c + w + 1) (hS : S i j = false) : F i j = true := (h.iff i j).mpr ⟨q, hS⟩
theorem Hw.off (h : Hw n r c w m tn S F) {i j : Nat} (q : ¬ (r - 1 ≤ i ∧ i ≤ r + 2 * m - 1 ∧ c - 1 ≤ j ∧ j ≤ c + w + 1)) : F i j = false := nt fun z => q ((h.iff i j).mp z).1
theorem Hw.edge (h : Hw n r c w m tn S F) {i j : Nat} (q : ¬ (r ≤ i ∧ i ≤ r + 2 * (m - 1) ∧ c ≤ j ∧ j ≤ c + w)) : S i j = false := nt fun z => q (h.cells i j z)
theorem Hw.run (h : Hw n r c w m tn S F) {i j : Nat} (e : F i j = false) (hS : S i j = false) : (∀ x, x ≤ j → F i x = false) ∨ (∀ x, j ≤ x → x < 2 ^ n → F i x = false) := by
  have q : ¬ (r - 1 ≤ i ∧ i ≤ r + 2 * m - 1 ∧ c - 1 ≤ j ∧ j ≤ c + w + 1) := fun z => by
    rw [h.box z hS] at e
    cases e
  by_cases z : r - 1 ≤ i ∧ i ≤ r + 2 * m - 1 ∧ c - 1 ≤ j
  · exact .inr fun x h1 _ => h.off (by omega)
  · exact .inl fun x h1 => h.off (by omega)
/-- all full cells hang together -/
theorem Hw.all (h : Hw n r c w m tn S F) {by' : Bool} {i j : Nat} (e : F i j = true) : CC n (leafs n (tree F n 0 0)) true by' (r - 1) (c - 1) i j := by
  have p := h.pic
  have hr := h.r1
  have hc := h.c1
  have hm := h.s.m2
  have h2 := h.r2
  have h3 := h.c2
  obtain ⟨q, hS⟩ := (h.iff i j).mp e
  rcases h.s.run hS with z | z
  · refine CC.trans p (i' := i) (j' := c - 1) (by omega) (by omega) ?_ ?_
    · exact CC.col p (by omega) (by omega) (fun x a b => h.box (by omega) (h.edge (by omega))) (by omega)
    · exact CC.row p (by omega) (by omega) (fun x a b => h.box (by omega) (z x (by omega))) (by omega)
  · refine CC.trans p (i' := r - 1) (j' := c + w + 1) (by omega) (by omega) ?_ (CC.trans p (i' := i) (j' := c + w + 1) (by omega) (by omega) ?_ ?_)
    · exact CC.row p (by omega) (by omega) (fun x a b => h.box (by omega) (h.edge (by omega))) (by omega)
    · exact CC.col p (by omega) (by omega) (fun x a b => h.box (by omega) (h.edge (by omega))) (by omega)
    · exact (CC.row p (by omega) (by omega) (fun x a b => h.box (by omega) (z x (by omega) (by omega))) (by omega)).symm
theorem Hw.rootF (h : Hw n r c w m tn S F) : F (r - 1) (c - 1) = true := by
  have hr := h.r1
  exact h.box (by omega) (h.edge (by omega))
theorem Hw.root (h : Hw n r c w m tn S F) {by' : Bool} {gs : List (List Nat)} (G : Grp n (leafs n (tree F n 0 0)) true by' gs) : ∃ o y, (leafs n (tree F n 0 0))[o]? = some y ∧ y.b = true ∧ y.r = r - 1 ∧ y.c = c - 1 ∧ At (leafs n (tree F n 0 0)) o (r - 1) (c - 1) ∧ ∀ g ∈ gs, o ∈ g := by
  have p := h.pic
  have hr := h.r1
  have hc := h.c1
  have h2 := h.r2
  have h3 := h.c2
  obtain ⟨o, a⟩ := p.at (i := r - 1) (j := c - 1) (by omega) (by omega)
  obtain ⟨y, hy, a1, a2, a3, a4⟩ := id a
  have hb : y.b = true := by rw [← p.tr' hy a]; exact h.rootF
  have hF := ((h.iff y.r y.c).mp (by rw [p.tr' hy (at_self hy)]; exact hb)).1
  refine ⟨o, y, hy, hb, by omega, by omega, a, fun g hg => ?_⟩
  obtain ⟨o', x, ho', hx, hxb⟩ := G.mem_leaf hg
  exact G.in_of hg ho' ((h.all (by rw [p.tr' hx (at_self hx)]; exact hxb)).symm o' o (at_self hx) a)
theorem hol_ok (h : Hw n r c w m tn S F) : HolOK n (tree F n 0 0) (tree S n 0 0) := by
  have p := h.pic
  have q := h.snp
  have hr := h.r1
  have hc := h.c1
  have hm := h.s.m2
  have h2 := h.r2
  have h3 := h.c2
  have sedge : ∀ g, (∀ o, o ∈ g ↔ SLf S (leafs n (tree F n 0 0)) o) → edgeB n (leafs n (tree F n 0 0)) g = false := fun g hg => nt fun z => by
    obtain ⟨o, ho, x, hx, he⟩ := edgeB_iff.mp z
    obtain ⟨i, j, hS, a⟩ := (hg o).mp ho
    obtain ⟨y, e1, e2, rfl, rfl⟩ := q.unit hS a
    rw [hx] at e1
    cases e1
    have hb := h.cells _ _ hS
    unfold Lf.edge at he
    rw [e2] at he
    omega
  have huniq : ∀ by' gs, Grp n (leafs n (tree F n 0 0)) false by' gs → ∀ g ∈ gs, (∀ o, o ∈ g ↔ SLf S (leafs n (tree F n 0 0)) o) → ∀ b ∈ gs, edgeB n (leafs n (tree F n 0 0)) b = false → b = g := fun by' gs G g hg hm b hb he => by
    obtain ⟨o, x, ho, hx, hxb⟩ := G.mem_leaf hb
    by_cases z : S x.r x.c = true
    · exact G.eq_of hb hg ho ((hm o).mpr ⟨_, _, z, at_self hx⟩)
    · have := G.edge_of p hb ho (at_self hx) (h.run (by rw [p.tr' hx (at_self hx)]; exact hxb) (nt z))
      rw [he] at this
      cases this
  refine ⟨fit_of h.n6 (tree_canon _ _ _ _) (tree_ht _ _ _ _), h.few, fun by' gs G => ?_, fun by' gs G => ?_, fun by' gs gs' G G' g hg o x ho hx hmin o' y hy hyh g' hg' ho' h0 => ?_, fun by' gs G g hg he o x ho hx hmin => ?_⟩
  · obtain ⟨g, hg, e1, e2, e3⟩ := q.grp G
    refine ⟨g, only_one (G.nodup.filter _) (List.mem_filter.mpr ⟨hg, by rw [sedge g e1]; rfl⟩) fun b hb => ?_, e2, e3⟩
    obtain ⟨hb1, hb2⟩ := List.mem_filter.mp hb
    exact huniq by' gs G g hg e1 b hb1 (by simpa using hb2)
  · obtain ⟨o, y, hy, hb, _, _, a, hall⟩ := h.root G
    obtain ⟨g, hg, ho⟩ := G.cov o y hy hb
    exact ⟨g, only_one G.nodup hg fun b hb => G.eq_of hb hg (hall b hb) ho⟩
  · obtain ⟨o0, y0, hy0, hb0, er, ec, a0, hall⟩ := h.root G
    have hlt := hmin o0 (hall g hg) y0 hy0
    obtain ⟨x', hx', hxb⟩ := G.mem g hg o ho
    rw [hx] at hx'
    cases hx'
    have hF := ((h.iff x.r x.c).mp (by rw [p.tr' hx (at_self hx)]; exact hxb)).1
    have e1 : x.r = r - 1 := by omega
    have e2 : x.c = c - 1 := by omega
    rw [e1, e2] at hyh
    exact G'.edge_of p hg' ho' ⟨y, hy, hyh⟩ (.inl fun z hz => h.off (by omega))
  · obtain ⟨g0, hg0, e1, _, _⟩ := q.grp G
    obtain rfl := huniq by' gs G g0 hg0 e1 g hg he
    have hS0 : S r c = true := (h.s.row 0 (by omega) c).mpr ⟨Nat.le_refl _, Nat.le_add_right _ _⟩
    obtain ⟨o0, a0⟩ := p.at (i := r) (j := c) (by omega) (by omega)
    obtain ⟨y0, hy0, _, f1, f2⟩ := q.unit hS0 a0
    have hlt := hmin o0 ((e1 o0).mpr ⟨r, c, hS0, a0⟩) y0 hy0
    obtain ⟨i, j, hS, a⟩ := (e1 o).mp ho
    obtain ⟨x', hx', _, rfl, rfl⟩ := q.unit hS a
    rw [hx] at hx'
    cases hx'
    have hb := h.cells _ _ hS
    have g1 : x.r = r := by omega
    have g2 : x.c = c := by omega
    refine ⟨by omega, fun o' y hy hyh => ?_⟩
    rw [← p.tr' hy ⟨y, hy, hyh⟩, g1, g2]
    exact h.box (by omega) (h.edge (by omega))
end
theorem round_iff {n r c w m tn : Nat} (d : Dims n r c (w + 1) m tn) (i j : Nat) : fB (roundB ⟨r, c, w + 1⟩ (shortR r c (w + 1) m) tn) i j = true ↔ (r - 1 ≤ i ∧ i ≤ r + 2 * m - 1 ∧ c - 1 ≤ j ∧ j ≤ c + w + 1) ∧ fB (snakeB (shortR r c (w + 1) m) tn) i j = false := by
  have s := short_sn d
  have hr := d.r1
  have hc := d.c1
  have hm := d.m1
  have hw := d.w1
  have hwall : ∀ k, k + 1 < m → wallB ⟨r, c, w + 1⟩ (shortR r c (w + 1) m) tn k = ⟨r + 2 * k + 1, c + (if col (fun _ => c) (fun _ => w) tn k w = c then 1 else 0), 1, w⟩ := fun k hk => by
    unfold wallB
    rw [short_rl, List.getD_eq_getElem?_getD, rl_get (by omega)]
    show (⟨_, c + (if turnOf ⟨r + 2 * k, c, w + 1⟩ k tn = c then 1 else 0), 1, w + 1 - 1⟩ : Bx) = _
    rw [turn_col (lo := fun _ => c) (W := fun _ => w)]
    rfl
  rw [fB_iff]
  unfold roundB
  rw [show (shortR r c (w + 1) m).length = m from rl_len]
  constructor
  · rintro ⟨b, hb, hh⟩
    rcases List.mem_append.mp hb with hb | hb
    · unfold frameB at hb
      simp only [List.mem_cons, List.not_mem_nil, or_false] at hb
      have key : (r - 1 ≤ i ∧ i ≤ r + 2 * m - 1 ∧ c - 1 ≤ j ∧ j ≤ c + w + 1) ∧ ¬ (r ≤ i ∧ i ≤ r + 2 * (m - 1) ∧ c ≤ j ∧ j ≤ c + w) := by
        unfold Bx.has at hh
        rcases hb with rfl | rfl | rfl | rfl <;> dsimp only at hh <;> omega
      exact ⟨key.1, nt fun z => key.2 (short_cells d z)⟩
    · obtain ⟨k, hk, rfl⟩ := List.mem_map.mp hb
      have hk := List.mem_range.mp hk
      rw [hwall k (by omega)] at hh
      unfold Bx.has at hh
      dsimp only at hh
      obtain rfl : i = r + 2 * k + 1 := by omega
      have ht := s.trn k (by omega) j
      have cc : col (fun _ => c) (fun _ => w) tn k w = c ∨ col (fun _ => c) (fun _ => w) tn k w = c + w := by
        unfold col
        dsimp only
        split <;> omega
      refine ⟨?_, nt fun z => ?_⟩
      · split at hh <;> omega
      · have := ht.mp z
        split at hh <;> omega
  · rintro ⟨hb, hS⟩
    by_cases q : i = r - 1 ∨ i = r + 2 * m - 1 ∨ j = c - 1 ∨ j = c + w + 1
    · have : ∃ b ∈ frameB ⟨r, c, w + 1⟩ m, b.has i j := by
        unfold frameB
        simp only [List.mem_cons, List.not_mem_nil, or_false, exists_eq_or_imp, exists_eq_left]
        unfold Bx.has
        dsimp only
        omega
      obtain ⟨b, h1, h2⟩ := this
      exact ⟨b, List.mem_append_left _ h1, h2⟩
    · have hS' : ¬ fB (snakeB (shortR r c (w + 1) m) tn) i j = true := by rw [hS]; exact Bool.false_ne_true
      by_cases q2 : (i - r) % 2 = 0
      · obtain ⟨k, rfl⟩ : ∃ k, i = r + 2 * k := ⟨(i - r) / 2, by omega⟩
        exact absurd ((s.row k (by omega) j).mpr (by omega)) hS'
      · obtain ⟨k, rfl⟩ : ∃ k, i = r + 2 * k + 1 := ⟨(i - r) / 2, by omega⟩
        have ht := s.trn k (by omega) j
        have hne : j ≠ col (fun _ => c) (fun _ => w) tn k w := fun z => hS' (ht.mpr z)
        have cc : col (fun _ => c) (fun _ => w) tn k w = c ∨ col (fun _ => c) (fun _ => w) tn k w = c + w := by
          unfold col
          dsimp only
          split <;> omega
        refine ⟨_, List.mem_append_right _ (List.mem_map.mpr ⟨k, List.mem_range.mpr (by omega), rfl⟩), ?_⟩
        rw [hwall k (by omega)]
        unfold Bx.has
        dsimp only
        split <;> omega
theorem hol_all {n r c w m tn : Nat} (d : Dims n r c w m tn) : HolOK n (holT n r c w m tn) (snakeT n (shortR r c w m) tn) := by
  have h1 := d.w1
  obtain ⟨w, rfl⟩ : ∃ v, w = v + 1 := ⟨w - 1, by omega⟩
  have h2 := d.w2
  have h3 := d.m2
  have h4 := d.r2
  have h5 := d.c2
  have h6 := d.n6
  have h7 := d.m1
  have h8 := d.r1
  have h9 := d.c1
  have few : (holT n r c (w + 1) m tn).lvs ≤ 2000 := lvs_few (a := 29) (b := 30) (r := r - 1) (c := c - 1) d.n5 (fun i j h => by have := ((round_iff d i j).mp h).1; omega) (prs29 (r - 1) (by omega)) (prs30 (c - 1) (by omega)) (by decide)
  exact hol_ok (r := r) (c := c) (w := w) (m := m) (tn := tn) ⟨short_sn d, h6.1, h8, h9, h4, by omega, fun i j h => short_cells d h, round_iff d, few⟩
theorem geo : Geo := ⟨fun _ _ _ _ _ _ d => short_ok d, fun _ _ _ _ _ _ d => hol_all d, long_ok⟩
end Qf
namespace Qf
open PySem PySem.Spec PyProof.Rows L2 LamX
def loose0 : List Str := ["FloorError", "NoFloor", "NoAddress", "NoCell", "NoShape", "TooMany", "NotFull", "NoWay", "MOST_SIZE", "FIGURES", "is_whole", "is_size", "is_address", "is_cell", "want_size", "want_address", "want_cell", "box_of", "Rows", "one_of", "is_number", "is_row", "depths_of", "is_telling", "is_shape", "want_shape", "MOST_LEAVES", "many_in", "want_coarse", "leaves_of"]
def loose1 : List Str := ["SIDES", "CORNERS", "want_way", "other_way", "Leaves", "reached", "leaves_for", "parts_of", "holes_of", "owners", "owner_left", "nest", "full_leaf", "steps_from", "chain", "want_cell_of", "_law_pot", "_law_digit", "_law_meets", "_law_has", "_law_number", "_law_shape", "_law_turn", "_law_snake", "_law_round", "_law_ends", "_law_is_full", "_law_long"]
def loose : List Str := loose0 ++ loose1
def d_is_whole : He.DefD := ⟨("is_whole", none), "is_whole", "is_whole", defArgs s_is_whole, defBody s_is_whole, defScope s_is_whole, [], []⟩
def d_is_size : He.DefD := ⟨("is_size", none), "is_size", "is_size", defArgs s_is_size, defBody s_is_size, defScope s_is_size, [], []⟩
def d_is_address : He.DefD := ⟨("is_address", none), "is_address", "is_address", defArgs s_is_address, defBody s_is_address, defScope s_is_address, [], []⟩
def d_is_cell : He.DefD := ⟨("is_cell", none), "is_cell", "is_cell", defArgs s_is_cell, defBody s_is_cell, defScope s_is_cell, [], []⟩
def d_want_size : He.DefD := ⟨("want_size", none), "want_size", "want_size", defArgs s_want_size, defBody s_want_size, defScope s_want_size, [], []⟩
def d_want_address : He.DefD := ⟨("want_address", none), "want_address", "want_address", defArgs s_want_address, defBody s_want_address, defScope s_want_address, [], []⟩
def d_want_cell : He.DefD := ⟨("want_cell", none), "want_cell", "want_cell", defArgs s_want_cell, defBody s_want_cell, defScope s_want_cell, [], []⟩
def d_box_of : He.DefD := ⟨("box_of", none), "box_of", "box_of", defArgs s_box_of, defBody s_box_of, defScope s_box_of, [], []⟩
def d_Rows___init__ : He.DefD := ⟨("Rows", some "__init__"), "__init__", "Rows.__init__", defArgs s_Rows___init__, defBody s_Rows___init__, defScope s_Rows___init__, [], []⟩
def d_Rows_number : He.DefD := ⟨("Rows", some "number"), "number", "Rows.number", defArgs s_Rows_number, defBody s_Rows_number, defScope s_Rows_number, [], []⟩
def d_Rows_quarters : He.DefD := ⟨("Rows", some "quarters"), "quarters", "Rows.quarters", defArgs s_Rows_quarters, defBody s_Rows_quarters, defScope s_Rows_quarters, [], []⟩
def d_Rows_take : He.DefD := ⟨("Rows", some "take"), "take", "Rows.take", defArgs s_Rows_take, defBody s_Rows_take, defScope s_Rows_take, [], []⟩
def d_Rows_order : He.DefD := ⟨("Rows", some "order"), "order", "Rows.order", defArgs s_Rows_order, defBody s_Rows_order, defScope s_Rows_order, [], []⟩
def d_Rows_shape : He.DefD := ⟨("Rows", some "shape"), "shape", "Rows.shape", defArgs s_Rows_shape, defBody s_Rows_shape, defScope s_Rows_shape, [], []⟩
def d_one_of : He.DefD := ⟨("one_of", none), "one_of", "one_of", defArgs s_one_of, defBody s_one_of, defScope s_one_of, [], []⟩
def d_is_number : He.DefD := ⟨("is_number", none), "is_number", "is_number", defArgs s_is_number, defBody s_is_number, defScope s_is_number, [], []⟩
def d_is_row : He.DefD := ⟨("is_row", none), "is_row", "is_row", defArgs s_is_row, defBody s_is_row, defScope s_is_row, [], []⟩
def d_depths_of : He.DefD := ⟨("depths_of", none), "depths_of", "depths_of", defArgs s_depths_of, defBody s_depths_of, defScope s_depths_of, [], []⟩
def d_is_telling : He.DefD := ⟨("is_telling", none), "is_telling", "is_telling", defArgs s_is_telling, defBody s_is_telling, defScope s_is_telling, [], []⟩
def d_is_shape : He.DefD := ⟨("is_shape", none), "is_shape", "is_shape", defArgs s_is_shape, defBody s_is_shape, defScope s_is_shape, [], []⟩
def d_want_shape : He.DefD := ⟨("want_shape", none), "want_shape", "want_shape", defArgs s_want_shape, defBody s_want_shape, defScope s_want_shape, [], []⟩
def d_many_in : He.DefD := ⟨("many_in", none), "many_in", "many_in", defArgs s_many_in, defBody s_many_in, defScope s_many_in, [], []⟩
def d_want_coarse : He.DefD := ⟨("want_coarse", none), "want_coarse", "want_coarse", defArgs s_want_coarse, defBody s_want_coarse, defScope s_want_coarse, [], []⟩
def d_leaves_of : He.DefD := ⟨("leaves_of", none), "leaves_of", "leaves_of", defArgs s_leaves_of, defBody s_leaves_of, defScope s_leaves_of, [], []⟩
def d_want_way : He.DefD := ⟨("want_way", none), "want_way", "want_way", defArgs s_want_way, defBody s_want_way, defScope s_want_way, [], []⟩
def d_other_way : He.DefD := ⟨("other_way", none), "other_way", "other_way", defArgs s_other_way, defBody s_other_way, defScope s_other_way, [], []⟩
def d_Leaves___init__ : He.DefD := ⟨("Leaves", some "__init__"), "__init__", "Leaves.__init__", defArgs s_Leaves___init__, defBody s_Leaves___init__, defScope s_Leaves___init__, [], []⟩
def d_Leaves_is_on : He.DefD := ⟨("Leaves", some "is_on"), "is_on", "Leaves.is_on", defArgs s_Leaves_is_on, defBody s_Leaves_is_on, defScope s_Leaves_is_on, [], []⟩
def d_Leaves_number_at : He.DefD := ⟨("Leaves", some "number_at"), "number_at", "Leaves.number_at", defArgs s_Leaves_number_at, defBody s_Leaves_number_at, defScope s_Leaves_number_at, [], []⟩
def d_Leaves_on_right : He.DefD := ⟨("Leaves", some "on_right"), "on_right", "Leaves.on_right", defArgs s_Leaves_on_right, defBody s_Leaves_on_right, defScope s_Leaves_on_right, [], []⟩
def d_Leaves_below : He.DefD := ⟨("Leaves", some "below"), "below", "Leaves.below", defArgs s_Leaves_below, defBody s_Leaves_below, defScope s_Leaves_below, [], []⟩
def d_Leaves_at_corners : He.DefD := ⟨("Leaves", some "at_corners"), "at_corners", "Leaves.at_corners", defArgs s_Leaves_at_corners, defBody s_Leaves_at_corners, defScope s_Leaves_at_corners, [], []⟩
def d_Leaves_links : He.DefD := ⟨("Leaves", some "links"), "links", "Leaves.links", defArgs s_Leaves_links, defBody s_Leaves_links, defScope s_Leaves_links, [], []⟩
def d_Leaves_groups : He.DefD := ⟨("Leaves", some "groups"), "groups", "Leaves.groups", defArgs s_Leaves_groups, defBody s_Leaves_groups, defScope s_Leaves_groups, [], []⟩
def d_Leaves_first_cell : He.DefD := ⟨("Leaves", some "first_cell"), "first_cell", "Leaves.first_cell", defArgs s_Leaves_first_cell, defBody s_Leaves_first_cell, defScope s_Leaves_first_cell, [], []⟩
def d_Leaves_is_at_edge : He.DefD := ⟨("Leaves", some "is_at_edge"), "is_at_edge", "Leaves.is_at_edge", defArgs s_Leaves_is_at_edge, defBody s_Leaves_is_at_edge, defScope s_Leaves_is_at_edge, [], []⟩
def d_Leaves_parts : He.DefD := ⟨("Leaves", some "parts"), "parts", "Leaves.parts", defArgs s_Leaves_parts, defBody s_Leaves_parts, defScope s_Leaves_parts, [], []⟩
def d_Leaves_holes : He.DefD := ⟨("Leaves", some "holes"), "holes", "Leaves.holes", defArgs s_Leaves_holes, defBody s_Leaves_holes, defScope s_Leaves_holes, [], []⟩
def d_Leaves_shape_of : He.DefD := ⟨("Leaves", some "shape_of"), "shape_of", "Leaves.shape_of", defArgs s_Leaves_shape_of, defBody s_Leaves_shape_of, defScope s_Leaves_shape_of, [], []⟩
def d_reached : He.DefD := ⟨("reached", none), "reached", "reached", defArgs s_reached, defBody s_reached, defScope s_reached, [], []⟩
def d_leaves_for : He.DefD := ⟨("leaves_for", none), "leaves_for", "leaves_for", defArgs s_leaves_for, defBody s_leaves_for, defScope s_leaves_for, [], []⟩
def d_parts_of : He.DefD := ⟨("parts_of", none), "parts_of", "parts_of", defArgs s_parts_of, defBody s_parts_of, defScope s_parts_of, [], []⟩
def d_holes_of : He.DefD := ⟨("holes_of", none), "holes_of", "holes_of", defArgs s_holes_of, defBody s_holes_of, defScope s_holes_of, [], []⟩
def d_owners : He.DefD := ⟨("owners", none), "owners", "owners", defArgs s_owners, defBody s_owners, defScope s_owners, [], []⟩
def d_owner_left : He.DefD := ⟨("owner_left", none), "owner_left", "owner_left", defArgs s_owner_left, defBody s_owner_left, defScope s_owner_left, [], []⟩
def d_nest : He.DefD := ⟨("nest", none), "nest", "nest", defArgs s_nest, defBody s_nest, defScope s_nest, [], []⟩
def d_full_leaf : He.DefD := ⟨("full_leaf", none), "full_leaf", "full_leaf", defArgs s_full_leaf, defBody s_full_leaf, defScope s_full_leaf, [], []⟩
def d_steps_from : He.DefD := ⟨("steps_from", none), "steps_from", "steps_from", defArgs s_steps_from, defBody s_steps_from, defScope s_steps_from, [], []⟩
def d_chain : He.DefD := ⟨("chain", none), "chain", "chain", defArgs s_chain, defBody s_chain, defScope s_chain, [], []⟩
def d_want_cell_of : He.DefD := ⟨("want_cell_of", none), "want_cell_of", "want_cell_of", defArgs s_want_cell_of, defBody s_want_cell_of, defScope s_want_cell_of, [], []⟩
def d__law_pot : He.DefD := ⟨("_law_pot", none), "_law_pot", "_law_pot", defArgs s__law_pot, defBody s__law_pot, defScope s__law_pot, [], []⟩
def d__law_digit : He.DefD := ⟨("_law_digit", none), "_law_digit", "_law_digit", defArgs s__law_digit, defBody s__law_digit, defScope s__law_digit, [], []⟩
def d__law_meets : He.DefD := ⟨("_law_meets", none), "_law_meets", "_law_meets", defArgs s__law_meets, defBody s__law_meets, defScope s__law_meets, [], []⟩
def d__law_has : He.DefD := ⟨("_law_has", none), "_law_has", "_law_has", defArgs s__law_has, defBody s__law_has, defScope s__law_has, [], []⟩
def d__law_number : He.DefD := ⟨("_law_number", none), "_law_number", "_law_number", defArgs s__law_number, defBody s__law_number, defScope s__law_number, [], []⟩
def d__law_shape : He.DefD := ⟨("_law_shape", none), "_law_shape", "_law_shape", defArgs s__law_shape, defBody s__law_shape, defScope s__law_shape, [], []⟩
def d__law_turn : He.DefD := ⟨("_law_turn", none), "_law_turn", "_law_turn", defArgs s__law_turn, defBody s__law_turn, defScope s__law_turn, [], []⟩
def d__law_snake : He.DefD := ⟨("_law_snake", none), "_law_snake", "_law_snake", defArgs s__law_snake, defBody s__law_snake, defScope s__law_snake, [], []⟩
def d__law_round : He.DefD := ⟨("_law_round", none), "_law_round", "_law_round", defArgs s__law_round, defBody s__law_round, defScope s__law_round, [], []⟩
def d__law_ends : He.DefD := ⟨("_law_ends", none), "_law_ends", "_law_ends", defArgs s__law_ends, defBody s__law_ends, defScope s__law_ends, [], []⟩
def d__law_is_full : He.DefD := ⟨("_law_is_full", none), "_law_is_full", "_law_is_full", defArgs s__law_is_full, defBody s__law_is_full, defScope s__law_is_full, [], []⟩
def d__law_long : He.DefD := ⟨("_law_long", none), "_law_long", "_law_long", defArgs s__law_long, defBody s__law_long, defScope s__law_long, [], []⟩
def d_law : He.DefD := ⟨("law", none), "law", "law", defArgs s_law, defBody s_law, defScope s_law, [], []⟩
def fn : List He.DefD := [d_is_whole, d_is_size, d_is_address, d_is_cell, d_want_size, d_want_address, d_want_cell, d_box_of, d_Rows___init__, d_Rows_number, d_Rows_quarters, d_Rows_take, d_Rows_order, d_Rows_shape, d_one_of, d_is_number, d_is_row, d_depths_of, d_is_telling, d_is_shape, d_want_shape, d_many_in, d_want_coarse, d_leaves_of, d_want_way, d_other_way, d_Leaves___init__, d_Leaves_is_on, d_Leaves_number_at, d_Leaves_on_right]
def fnB : List He.DefD := [d_Leaves_below, d_Leaves_at_corners, d_Leaves_links, d_Leaves_groups, d_Leaves_first_cell, d_Leaves_is_at_edge, d_Leaves_parts, d_Leaves_holes, d_Leaves_shape_of, d_reached, d_leaves_for, d_parts_of, d_holes_of, d_owners, d_owner_left, d_nest, d_full_leaf, d_steps_from, d_chain, d_want_cell_of, d__law_pot, d__law_digit, d__law_meets, d__law_has, d__law_number, d__law_shape, d__law_turn, d__law_snake, d__law_round, d__law_ends, d__law_is_full, d__law_long, d_law]
def fa0 : List He.Fa := [.glo "is_whole", .glo "is_size", .glo "is_address", .glo "is_cell", .glo "want_size", .glo "want_address", .glo "want_cell", .glo "box_of", .glo "one_of", .glo "is_number", .glo "is_row", .glo "depths_of", .glo "is_telling", .glo "is_shape", .glo "want_shape", .glo "many_in", .glo "want_coarse", .glo "leaves_of", .glo "want_way", .glo "other_way", .glo "reached", .glo "leaves_for", .glo "parts_of", .glo "holes_of", .glo "owners", .glo "owner_left", .glo "nest", .glo "full_leaf", .glo "steps_from", .glo "chain"]
def fa1 : List He.Fa := [.glo "want_cell_of", .glo "_law_pot", .glo "_law_digit", .glo "_law_meets", .glo "_law_has", .glo "_law_number", .glo "_law_shape", .glo "_law_turn", .glo "_law_snake", .glo "_law_round", .glo "_law_ends", .glo "_law_is_full", .glo "_law_long", .glo "law", .cls "Rows", .cls "Leaves", .mkr "Rows", .mkr "Leaves", .glo "Rows", .glo "Leaves", .meth "Rows" "number", .meth "Rows" "quarters", .meth "Rows" "take", .meth "Rows" "order", .meth "Rows" "shape", .meth "Leaves" "is_on", .meth "Leaves" "number_at", .meth "Leaves" "on_right", .meth "Leaves" "below", .meth "Leaves" "at_corners"]
def fa2 : List He.Fa := [.meth "Leaves" "links", .meth "Leaves" "groups", .meth "Leaves" "first_cell", .meth "Leaves" "is_at_edge", .meth "Leaves" "parts", .meth "Leaves" "holes", .meth "Leaves" "shape_of", .noat "Rows" "rows", .noat "Rows" "numbers", .noat "Leaves" "n", .noat "Leaves" "addresses", .noat "Leaves" "truths", .noat "Leaves" "boxes", .noat "Leaves" "numbers", .free "isinstance", .free "int", .free "bool", .free "str", .free "tuple", .free "list", .free "len", .free "all", .free "any", .free "max", .free "min", .free "abs", .free "sum", .free "enumerate", .free "range", .free "sorted"]
def fa3 : List He.Fa := [.free "dict", .free "set", .free "reversed", .int "MOST_SIZE" 12, .int "MOST_LEAVES" 2000, .str "FIGURES" "0123", .str "SIDES" "sides", .str "CORNERS" "corners"]
def fa : List He.Fa := fa0 ++ fa1 ++ fa2 ++ fa3
abbrev R : PySem.W.OpenRow := PySem.W.OpenLaw.row PySem.Challenge.rw_quarterfold_k69_whole_long_parts
def fnAll : List He.DefD := fn ++ fnB
def tf : List He.Defn := [("Leaves", some "groups")]
abbrev hk : PySem.W.Hook := He.hookX 5 fa fnAll [] tf (fun _ => true)
def ob (s : PySem.W.SharedT) : He.AlX := He.obsX 5 fa fnAll [] tf (fun _ => true) (HandSHeadRun.getT s)
theorem ob_eq (s : PySem.W.SharedT) : ob s = hk.obs s.abs := He.obsX_eq (HandSHeadRun.getT_eq s)
theorem run (w : World) : HandSHeadRun.RunEq R (PySem.W.view R.prog [68]) hk ob 8000 loose w := by
  intro os
  kernel_rfl
section
variable {w : World} {K : PySem.W.Frag} {h : Heap} {mg : Str → Option Value}
theorem bl_of (X : K.In h) (G : h.Ns mainGlobals mg) (c : He.SaysD fa fnAll K) : Bl mg := by
  refine ⟨He.free_ok X G (c.fact 74 (f := .free "isinstance") rfl), He.free_ok X G (c.fact 75 (f := .free "int") rfl), He.free_ok X G (c.fact 76 (f := .free "bool") rfl), He.free_ok X G (c.fact 77 (f := .free "str") rfl), He.free_ok X G (c.fact 78 (f := .free "tuple") rfl), He.free_ok X G (c.fact 79 (f := .free "list") rfl), He.free_ok X G (c.fact 80 (f := .free "len") rfl), He.free_ok X G (c.fact 81 (f := .free "all") rfl), He.free_ok X G (c.fact 82 (f := .free "any") rfl), He.free_ok X G (c.fact 83 (f := .free "max") rfl), He.free_ok X G (c.fact 84 (f := .free "min") rfl), He.free_ok X G (c.fact 85 (f := .free "abs") rfl), He.free_ok X G (c.fact 86 (f := .free "sum") rfl), He.free_ok X G (c.fact 87 (f := .free "enumerate") rfl), He.free_ok X G (c.fact 88 (f := .free "range") rfl), He.free_ok X G (c.fact 89 (f := .free "sorted") rfl), He.free_ok X G (c.fact 90 (f := .free "dict") rfl), He.free_ok X G (c.fact 91 (f := .free "set") rfl), He.free_ok X G (c.fact 92 (f := .free "reversed") rfl), ?_, ?_, ?_, ?_, ?_⟩
  · obtain ⟨t, e⟩ := He.int_ok X G (c.fact 93 (f := .int "MOST_SIZE" 12) rfl)
    exact ⟨_, e, t, rfl⟩
  · obtain ⟨t, e⟩ := He.str_ok X G (c.fact 95 (f := .str "FIGURES" "0123") rfl)
    exact ⟨_, e, t, rfl⟩
  · obtain ⟨t, e⟩ := He.int_ok X G (c.fact 94 (f := .int "MOST_LEAVES" 2000) rfl)
    exact ⟨_, e, t, rfl⟩
  · obtain ⟨t, e⟩ := He.str_ok X G (c.fact 96 (f := .str "SIDES" "sides") rfl)
    exact ⟨_, e, t, rfl⟩
  · obtain ⟨t, e⟩ := He.str_ok X G (c.fact 97 (f := .str "CORNERS" "corners") rfl)
    exact ⟨_, e, t, rfl⟩
theorem D_is_whole (X : K.In h) (G : h.Ns mainGlobals mg) (c : He.SaysD fa fnAll K) : Dfn K mg "is_whole" s_is_whole := by
  obtain ⟨fd, F⟩ := c.def_ 0 (d := d_is_whole) rfl
  exact ⟨⟨_, fd, F, He.glo_ok X G (c.fact 0 (f := .glo "is_whole") rfl)⟩⟩
theorem D_is_size (X : K.In h) (G : h.Ns mainGlobals mg) (c : He.SaysD fa fnAll K) : Dfn K mg "is_size" s_is_size := by
  obtain ⟨fd, F⟩ := c.def_ 1 (d := d_is_size) rfl
  exact ⟨⟨_, fd, F, He.glo_ok X G (c.fact 1 (f := .glo "is_size") rfl)⟩⟩
theorem D_is_address (X : K.In h) (G : h.Ns mainGlobals mg) (c : He.SaysD fa fnAll K) : Dfn K mg "is_address" s_is_address := by
  obtain ⟨fd, F⟩ := c.def_ 2 (d := d_is_address) rfl
  exact ⟨⟨_, fd, F, He.glo_ok X G (c.fact 2 (f := .glo "is_address") rfl)⟩⟩
theorem D_is_cell (X : K.In h) (G : h.Ns mainGlobals mg) (c : He.SaysD fa fnAll K) : Dfn K mg "is_cell" s_is_cell := by
  obtain ⟨fd, F⟩ := c.def_ 3 (d := d_is_cell) rfl
  exact ⟨⟨_, fd, F, He.glo_ok X G (c.fact 3 (f := .glo "is_cell") rfl)⟩⟩
theorem D_want_size (X : K.In h) (G : h.Ns mainGlobals mg) (c : He.SaysD fa fnAll K) : Dfn K mg "want_size" s_want_size := by
  obtain ⟨fd, F⟩ := c.def_ 4 (d := d_want_size) rfl
  exact ⟨⟨_, fd, F, He.glo_ok X G (c.fact 4 (f := .glo "want_size") rfl)⟩⟩
theorem D_want_address (X : K.In h) (G : h.Ns mainGlobals mg) (c : He.SaysD fa fnAll K) : Dfn K mg "want_address" s_want_address := by
  obtain ⟨fd, F⟩ := c.def_ 5 (d := d_want_address) rfl
  exact ⟨⟨_, fd, F, He.glo_ok X G (c.fact 5 (f := .glo "want_address") rfl)⟩⟩
theorem D_want_cell (X : K.In h) (G : h.Ns mainGlobals mg) (c : He.SaysD fa fnAll K) : Dfn K mg "want_cell" s_want_cell := by
  obtain ⟨fd, F⟩ := c.def_ 6 (d := d_want_cell) rfl
  exact ⟨⟨_, fd, F, He.glo_ok X G (c.fact 6 (f := .glo "want_cell") rfl)⟩⟩
theorem D_box_of (X : K.In h) (G : h.Ns mainGlobals mg) (c : He.SaysD fa fnAll K) : Dfn K mg "box_of" s_box_of := by
  obtain ⟨fd, F⟩ := c.def_ 7 (d := d_box_of) rfl
  exact ⟨⟨_, fd, F, He.glo_ok X G (c.fact 7 (f := .glo "box_of") rfl)⟩⟩
theorem D_Rows___init__ (X : K.In h) (G : h.Ns mainGlobals mg) (c : He.SaysD fa fnAll K) : Dmk K mg "Rows" (He.ga K "Rows") "Rows.__init__" s_Rows___init__ := by
  obtain ⟨fd, F⟩ := c.def_ 8 (d := d_Rows___init__) rfl
  exact ⟨⟨_, fd, F, He.mkr_ok (c.fact 46 (f := .mkr "Rows") rfl), He.glo_ok X G (c.fact 48 (f := .glo "Rows") rfl)⟩⟩
theorem D_Rows_number (c : He.SaysD fa fnAll K) : Dme K (He.ga K "Rows") "number" "Rows.number" s_Rows_number := by
  obtain ⟨fd, F⟩ := c.def_ 9 (d := d_Rows_number) rfl
  exact ⟨⟨_, fd, F, He.meth_ok (c.fact 50 (f := .meth "Rows" "number") rfl)⟩⟩
theorem D_Rows_quarters (c : He.SaysD fa fnAll K) : Dme K (He.ga K "Rows") "quarters" "Rows.quarters" s_Rows_quarters := by
  obtain ⟨fd, F⟩ := c.def_ 10 (d := d_Rows_quarters) rfl
  exact ⟨⟨_, fd, F, He.meth_ok (c.fact 51 (f := .meth "Rows" "quarters") rfl)⟩⟩
theorem D_Rows_take (c : He.SaysD fa fnAll K) : Dme K (He.ga K "Rows") "take" "Rows.take" s_Rows_take := by
  obtain ⟨fd, F⟩ := c.def_ 11 (d := d_Rows_take) rfl
  exact ⟨⟨_, fd, F, He.meth_ok (c.fact 52 (f := .meth "Rows" "take") rfl)⟩⟩
theorem D_Rows_order (c : He.SaysD fa fnAll K) : Dme K (He.ga K "Rows") "order" "Rows.order" s_Rows_order := by
  obtain ⟨fd, F⟩ := c.def_ 12 (d := d_Rows_order) rfl
  exact ⟨⟨_, fd, F, He.meth_ok (c.fact 53 (f := .meth "Rows" "order") rfl)⟩⟩
theorem D_Rows_shape (c : He.SaysD fa fnAll K) : Dme K (He.ga K "Rows") "shape" "Rows.shape" s_Rows_shape := by
  obtain ⟨fd, F⟩ := c.def_ 13 (d := d_Rows_shape) rfl
  exact ⟨⟨_, fd, F, He.meth_ok (c.fact 54 (f := .meth "Rows" "shape") rfl)⟩⟩
theorem D_one_of (X : K.In h) (G : h.Ns mainGlobals mg) (c : He.SaysD fa fnAll K) : Dfn K mg "one_of" s_one_of := by
  obtain ⟨fd, F⟩ := c.def_ 14 (d := d_one_of) rfl
  exact ⟨⟨_, fd, F, He.glo_ok X G (c.fact 8 (f := .glo "one_of") rfl)⟩⟩
theorem D_is_number (X : K.In h) (G : h.Ns mainGlobals mg) (c : He.SaysD fa fnAll K) : Dfn K mg "is_number" s_is_number := by
  obtain ⟨fd, F⟩ := c.def_ 15 (d := d_is_number) rfl
  exact ⟨⟨_, fd, F, He.glo_ok X G (c.fact 9 (f := .glo "is_number") rfl)⟩⟩
theorem D_is_row (X : K.In h) (G : h.Ns mainGlobals mg) (c : He.SaysD fa fnAll K) : Dfn K mg "is_row" s_is_row := by
  obtain ⟨fd, F⟩ := c.def_ 16 (d := d_is_row) rfl
  exact ⟨⟨_, fd, F, He.glo_ok X G (c.fact 10 (f := .glo "is_row") rfl)⟩⟩
theorem D_depths_of (X : K.In h) (G : h.Ns mainGlobals mg) (c : He.SaysD fa fnAll K) : Dfn K mg "depths_of" s_depths_of := by
  obtain ⟨fd, F⟩ := c.def_ 17 (d := d_depths_of) rfl
  exact ⟨⟨_, fd, F, He.glo_ok X G (c.fact 11 (f := .glo "depths_of") rfl)⟩⟩
theorem D_is_telling (X : K.In h) (G : h.Ns mainGlobals mg) (c : He.SaysD fa fnAll K) : Dfn K mg "is_telling" s_is_telling := by
  obtain ⟨fd, F⟩ := c.def_ 18 (d := d_is_telling) rfl
  exact ⟨⟨_, fd, F, He.glo_ok X G (c.fact 12 (f := .glo "is_telling") rfl)⟩⟩
theorem D_is_shape (X : K.In h) (G : h.Ns mainGlobals mg) (c : He.SaysD fa fnAll K) : Dfn K mg "is_shape" s_is_shape := by
  obtain ⟨fd, F⟩ := c.def_ 19 (d := d_is_shape) rfl
  exact ⟨⟨_, fd, F, He.glo_ok X G (c.fact 13 (f := .glo "is_shape") rfl)⟩⟩
theorem D_want_shape (X : K.In h) (G : h.Ns mainGlobals mg) (c : He.SaysD fa fnAll K) : Dfn K mg "want_shape" s_want_shape := by
  obtain ⟨fd, F⟩ := c.def_ 20 (d := d_want_shape) rfl
  exact ⟨⟨_, fd, F, He.glo_ok X G (c.fact 14 (f := .glo "want_shape") rfl)⟩⟩
theorem D_many_in (X : K.In h) (G : h.Ns mainGlobals mg) (c : He.SaysD fa fnAll K) : Dfn K mg "many_in" s_many_in := by
  obtain ⟨fd, F⟩ := c.def_ 21 (d := d_many_in) rfl
  exact ⟨⟨_, fd, F, He.glo_ok X G (c.fact 15 (f := .glo "many_in") rfl)⟩⟩
theorem D_want_coarse (X : K.In h) (G : h.Ns mainGlobals mg) (c : He.SaysD fa fnAll K) : Dfn K mg "want_coarse" s_want_coarse := by
  obtain ⟨fd, F⟩ := c.def_ 22 (d := d_want_coarse) rfl
  exact ⟨⟨_, fd, F, He.glo_ok X G (c.fact 16 (f := .glo "want_coarse") rfl)⟩⟩
theorem D_leaves_of (X : K.In h) (G : h.Ns mainGlobals mg) (c : He.SaysD fa fnAll K) : Dfn K mg "leaves_of" s_leaves_of := by
  obtain ⟨fd, F⟩ := c.def_ 23 (d := d_leaves_of) rfl
  exact ⟨⟨_, fd, F, He.glo_ok X G (c.fact 17 (f := .glo "leaves_of") rfl)⟩⟩
theorem D_want_way (X : K.In h) (G : h.Ns mainGlobals mg) (c : He.SaysD fa fnAll K) : Dfn K mg "want_way" s_want_way := by
  obtain ⟨fd, F⟩ := c.def_ 24 (d := d_want_way) rfl
  exact ⟨⟨_, fd, F, He.glo_ok X G (c.fact 18 (f := .glo "want_way") rfl)⟩⟩
theorem D_other_way (X : K.In h) (G : h.Ns mainGlobals mg) (c : He.SaysD fa fnAll K) : Dfn K mg "other_way" s_other_way := by
  obtain ⟨fd, F⟩ := c.def_ 25 (d := d_other_way) rfl
  exact ⟨⟨_, fd, F, He.glo_ok X G (c.fact 19 (f := .glo "other_way") rfl)⟩⟩
theorem D_Leaves___init__ (X : K.In h) (G : h.Ns mainGlobals mg) (c : He.SaysD fa fnAll K) : Dmk K mg "Leaves" (He.ga K "Leaves") "Leaves.__init__" s_Leaves___init__ := by
  obtain ⟨fd, F⟩ := c.def_ 26 (d := d_Leaves___init__) rfl
  exact ⟨⟨_, fd, F, He.mkr_ok (c.fact 47 (f := .mkr "Leaves") rfl), He.glo_ok X G (c.fact 49 (f := .glo "Leaves") rfl)⟩⟩
theorem D_Leaves_is_on (c : He.SaysD fa fnAll K) : Dme K (He.ga K "Leaves") "is_on" "Leaves.is_on" s_Leaves_is_on := by
  obtain ⟨fd, F⟩ := c.def_ 27 (d := d_Leaves_is_on) rfl
  exact ⟨⟨_, fd, F, He.meth_ok (c.fact 55 (f := .meth "Leaves" "is_on") rfl)⟩⟩
theorem D_Leaves_number_at (c : He.SaysD fa fnAll K) : Dme K (He.ga K "Leaves") "number_at" "Leaves.number_at" s_Leaves_number_at := by
  obtain ⟨fd, F⟩ := c.def_ 28 (d := d_Leaves_number_at) rfl
  exact ⟨⟨_, fd, F, He.meth_ok (c.fact 56 (f := .meth "Leaves" "number_at") rfl)⟩⟩
theorem D_Leaves_on_right (c : He.SaysD fa fnAll K) : Dme K (He.ga K "Leaves") "on_right" "Leaves.on_right" s_Leaves_on_right := by
  obtain ⟨fd, F⟩ := c.def_ 29 (d := d_Leaves_on_right) rfl
  exact ⟨⟨_, fd, F, He.meth_ok (c.fact 57 (f := .meth "Leaves" "on_right") rfl)⟩⟩
theorem D_Leaves_below (c : He.SaysD fa fnAll K) : Dme K (He.ga K "Leaves") "below" "Leaves.below" s_Leaves_below := by
  obtain ⟨fd, F⟩ := c.def_ 30 (d := d_Leaves_below) rfl
  exact ⟨⟨_, fd, F, He.meth_ok (c.fact 58 (f := .meth "Leaves" "below") rfl)⟩⟩
theorem D_Leaves_at_corners (c : He.SaysD fa fnAll K) : Dme K (He.ga K "Leaves") "at_corners" "Leaves.at_corners" s_Leaves_at_corners := by
  obtain ⟨fd, F⟩ := c.def_ 31 (d := d_Leaves_at_corners) rfl
  exact ⟨⟨_, fd, F, He.meth_ok (c.fact 59 (f := .meth "Leaves" "at_corners") rfl)⟩⟩
theorem D_Leaves_links (c : He.SaysD fa fnAll K) : Dme K (He.ga K "Leaves") "links" "Leaves.links" s_Leaves_links := by
  obtain ⟨fd, F⟩ := c.def_ 32 (d := d_Leaves_links) rfl
  exact ⟨⟨_, fd, F, He.meth_ok (c.fact 60 (f := .meth "Leaves" "links") rfl)⟩⟩
theorem D_Leaves_groups (c : He.SaysD fa fnAll K) : DmT K (He.ga K "Leaves") "groups" "Leaves.groups" s_Leaves_groups (He.cT K ("Leaves", some "groups")).1 := by
  obtain ⟨fd, F⟩ := c.def_ 33 (d := d_Leaves_groups) rfl
  obtain ⟨oc, od, dV, kV, doc, pm, an, cdv, ct, osl, e, lk, hcd, _, _⟩ := id F.ex
  obtain ⟨cc, ec⟩ := He.codeIn_ref hcd
  have e2 : fd.code = .ref cc := by rw [e]; exact ec
  exact ⟨⟨_, fd, F, He.meth_ok (c.fact 61 (f := .meth "Leaves" "groups") rfl), by rw [e2]; exact congrArg Value.ref (He.codeOf_eq lk e2).symm⟩⟩
theorem D_Leaves_first_cell (c : He.SaysD fa fnAll K) : Dme K (He.ga K "Leaves") "first_cell" "Leaves.first_cell" s_Leaves_first_cell := by
  obtain ⟨fd, F⟩ := c.def_ 34 (d := d_Leaves_first_cell) rfl
  exact ⟨⟨_, fd, F, He.meth_ok (c.fact 62 (f := .meth "Leaves" "first_cell") rfl)⟩⟩
theorem D_Leaves_is_at_edge (c : He.SaysD fa fnAll K) : Dme K (He.ga K "Leaves") "is_at_edge" "Leaves.is_at_edge" s_Leaves_is_at_edge := by
  obtain ⟨fd, F⟩ := c.def_ 35 (d := d_Leaves_is_at_edge) rfl
  exact ⟨⟨_, fd, F, He.meth_ok (c.fact 63 (f := .meth "Leaves" "is_at_edge") rfl)⟩⟩
theorem D_Leaves_parts (c : He.SaysD fa fnAll K) : Dme K (He.ga K "Leaves") "parts" "Leaves.parts" s_Leaves_parts := by
  obtain ⟨fd, F⟩ := c.def_ 36 (d := d_Leaves_parts) rfl
  exact ⟨⟨_, fd, F, He.meth_ok (c.fact 64 (f := .meth "Leaves" "parts") rfl)⟩⟩
theorem D_Leaves_holes (c : He.SaysD fa fnAll K) : Dme K (He.ga K "Leaves") "holes" "Leaves.holes" s_Leaves_holes := by
  obtain ⟨fd, F⟩ := c.def_ 37 (d := d_Leaves_holes) rfl
  exact ⟨⟨_, fd, F, He.meth_ok (c.fact 65 (f := .meth "Leaves" "holes") rfl)⟩⟩
theorem D_Leaves_shape_of (c : He.SaysD fa fnAll K) : Dme K (He.ga K "Leaves") "shape_of" "Leaves.shape_of" s_Leaves_shape_of := by
  obtain ⟨fd, F⟩ := c.def_ 38 (d := d_Leaves_shape_of) rfl
  exact ⟨⟨_, fd, F, He.meth_ok (c.fact 66 (f := .meth "Leaves" "shape_of") rfl)⟩⟩
theorem D_reached (X : K.In h) (G : h.Ns mainGlobals mg) (c : He.SaysD fa fnAll K) : Dfn K mg "reached" s_reached := by
  obtain ⟨fd, F⟩ := c.def_ 39 (d := d_reached) rfl
  exact ⟨⟨_, fd, F, He.glo_ok X G (c.fact 20 (f := .glo "reached") rfl)⟩⟩
theorem D_leaves_for (X : K.In h) (G : h.Ns mainGlobals mg) (c : He.SaysD fa fnAll K) : Dfn K mg "leaves_for" s_leaves_for := by
  obtain ⟨fd, F⟩ := c.def_ 40 (d := d_leaves_for) rfl
  exact ⟨⟨_, fd, F, He.glo_ok X G (c.fact 21 (f := .glo "leaves_for") rfl)⟩⟩
theorem D_parts_of (X : K.In h) (G : h.Ns mainGlobals mg) (c : He.SaysD fa fnAll K) : Dfn K mg "parts_of" s_parts_of := by
  obtain ⟨fd, F⟩ := c.def_ 41 (d := d_parts_of) rfl
  exact ⟨⟨_, fd, F, He.glo_ok X G (c.fact 22 (f := .glo "parts_of") rfl)⟩⟩
theorem D_holes_of (X : K.In h) (G : h.Ns mainGlobals mg) (c : He.SaysD fa fnAll K) : Dfn K mg "holes_of" s_holes_of := by
  obtain ⟨fd, F⟩ := c.def_ 42 (d := d_holes_of) rfl
  exact ⟨⟨_, fd, F, He.glo_ok X G (c.fact 23 (f := .glo "holes_of") rfl)⟩⟩
theorem D_owners (X : K.In h) (G : h.Ns mainGlobals mg) (c : He.SaysD fa fnAll K) : Dfn K mg "owners" s_owners := by
  obtain ⟨fd, F⟩ := c.def_ 43 (d := d_owners) rfl
  exact ⟨⟨_, fd, F, He.glo_ok X G (c.fact 24 (f := .glo "owners") rfl)⟩⟩
theorem D_owner_left (X : K.In h) (G : h.Ns mainGlobals mg) (c : He.SaysD fa fnAll K) : Dfn K mg "owner_left" s_owner_left := by
  obtain ⟨fd, F⟩ := c.def_ 44 (d := d_owner_left) rfl
  exact ⟨⟨_, fd, F, He.glo_ok X G (c.fact 25 (f := .glo "owner_left") rfl)⟩⟩
theorem D_nest (X : K.In h) (G : h.Ns mainGlobals mg) (c : He.SaysD fa fnAll K) : Dfn K mg "nest" s_nest := by
  obtain ⟨fd, F⟩ := c.def_ 45 (d := d_nest) rfl
  exact ⟨⟨_, fd, F, He.glo_ok X G (c.fact 26 (f := .glo "nest") rfl)⟩⟩
theorem D_full_leaf (X : K.In h) (G : h.Ns mainGlobals mg) (c : He.SaysD fa fnAll K) : Dfn K mg "full_leaf" s_full_leaf := by
  obtain ⟨fd, F⟩ := c.def_ 46 (d := d_full_leaf) rfl
  exact ⟨⟨_, fd, F, He.glo_ok X G (c.fact 27 (f := .glo "full_leaf") rfl)⟩⟩
theorem D_steps_from (X : K.In h) (G : h.Ns mainGlobals mg) (c : He.SaysD fa fnAll K) : Dfn K mg "steps_from" s_steps_from := by
  obtain ⟨fd, F⟩ := c.def_ 47 (d := d_steps_from) rfl
  exact ⟨⟨_, fd, F, He.glo_ok X G (c.fact 28 (f := .glo "steps_from") rfl)⟩⟩
theorem D_chain (X : K.In h) (G : h.Ns mainGlobals mg) (c : He.SaysD fa fnAll K) : Dfn K mg "chain" s_chain := by
  obtain ⟨fd, F⟩ := c.def_ 48 (d := d_chain) rfl
  exact ⟨⟨_, fd, F, He.glo_ok X G (c.fact 29 (f := .glo "chain") rfl)⟩⟩
theorem D_want_cell_of (X : K.In h) (G : h.Ns mainGlobals mg) (c : He.SaysD fa fnAll K) : Dfn K mg "want_cell_of" s_want_cell_of := by
  obtain ⟨fd, F⟩ := c.def_ 49 (d := d_want_cell_of) rfl
  exact ⟨⟨_, fd, F, He.glo_ok X G (c.fact 30 (f := .glo "want_cell_of") rfl)⟩⟩
theorem D__law_pot (X : K.In h) (G : h.Ns mainGlobals mg) (c : He.SaysD fa fnAll K) : Dfn K mg "_law_pot" s__law_pot := by
  obtain ⟨fd, F⟩ := c.def_ 50 (d := d__law_pot) rfl
  exact ⟨⟨_, fd, F, He.glo_ok X G (c.fact 31 (f := .glo "_law_pot") rfl)⟩⟩
theorem D__law_digit (X : K.In h) (G : h.Ns mainGlobals mg) (c : He.SaysD fa fnAll K) : Dfn K mg "_law_digit" s__law_digit := by
  obtain ⟨fd, F⟩ := c.def_ 51 (d := d__law_digit) rfl
  exact ⟨⟨_, fd, F, He.glo_ok X G (c.fact 32 (f := .glo "_law_digit") rfl)⟩⟩
theorem D__law_meets (X : K.In h) (G : h.Ns mainGlobals mg) (c : He.SaysD fa fnAll K) : Dfn K mg "_law_meets" s__law_meets := by
  obtain ⟨fd, F⟩ := c.def_ 52 (d := d__law_meets) rfl
  exact ⟨⟨_, fd, F, He.glo_ok X G (c.fact 33 (f := .glo "_law_meets") rfl)⟩⟩
theorem D__law_has (X : K.In h) (G : h.Ns mainGlobals mg) (c : He.SaysD fa fnAll K) : Dfn K mg "_law_has" s__law_has := by
  obtain ⟨fd, F⟩ := c.def_ 53 (d := d__law_has) rfl
  exact ⟨⟨_, fd, F, He.glo_ok X G (c.fact 34 (f := .glo "_law_has") rfl)⟩⟩
theorem D__law_number (X : K.In h) (G : h.Ns mainGlobals mg) (c : He.SaysD fa fnAll K) : Dfn K mg "_law_number" s__law_number := by
  obtain ⟨fd, F⟩ := c.def_ 54 (d := d__law_number) rfl
  exact ⟨⟨_, fd, F, He.glo_ok X G (c.fact 35 (f := .glo "_law_number") rfl)⟩⟩
theorem D__law_shape (X : K.In h) (G : h.Ns mainGlobals mg) (c : He.SaysD fa fnAll K) : Dfn K mg "_law_shape" s__law_shape := by
  obtain ⟨fd, F⟩ := c.def_ 55 (d := d__law_shape) rfl
  exact ⟨⟨_, fd, F, He.glo_ok X G (c.fact 36 (f := .glo "_law_shape") rfl)⟩⟩
theorem D__law_turn (X : K.In h) (G : h.Ns mainGlobals mg) (c : He.SaysD fa fnAll K) : Dfn K mg "_law_turn" s__law_turn := by
  obtain ⟨fd, F⟩ := c.def_ 56 (d := d__law_turn) rfl
  exact ⟨⟨_, fd, F, He.glo_ok X G (c.fact 37 (f := .glo "_law_turn") rfl)⟩⟩
theorem D__law_snake (X : K.In h) (G : h.Ns mainGlobals mg) (c : He.SaysD fa fnAll K) : Dfn K mg "_law_snake" s__law_snake := by
  obtain ⟨fd, F⟩ := c.def_ 57 (d := d__law_snake) rfl
  exact ⟨⟨_, fd, F, He.glo_ok X G (c.fact 38 (f := .glo "_law_snake") rfl)⟩⟩
theorem D__law_round (X : K.In h) (G : h.Ns mainGlobals mg) (c : He.SaysD fa fnAll K) : Dfn K mg "_law_round" s__law_round := by
  obtain ⟨fd, F⟩ := c.def_ 58 (d := d__law_round) rfl
  exact ⟨⟨_, fd, F, He.glo_ok X G (c.fact 39 (f := .glo "_law_round") rfl)⟩⟩
theorem D__law_ends (X : K.In h) (G : h.Ns mainGlobals mg) (c : He.SaysD fa fnAll K) : Dfn K mg "_law_ends" s__law_ends := by
  obtain ⟨fd, F⟩ := c.def_ 59 (d := d__law_ends) rfl
  exact ⟨⟨_, fd, F, He.glo_ok X G (c.fact 40 (f := .glo "_law_ends") rfl)⟩⟩
theorem D__law_is_full (X : K.In h) (G : h.Ns mainGlobals mg) (c : He.SaysD fa fnAll K) : Dfn K mg "_law_is_full" s__law_is_full := by
  obtain ⟨fd, F⟩ := c.def_ 60 (d := d__law_is_full) rfl
  exact ⟨⟨_, fd, F, He.glo_ok X G (c.fact 41 (f := .glo "_law_is_full") rfl)⟩⟩
theorem D__law_long (X : K.In h) (G : h.Ns mainGlobals mg) (c : He.SaysD fa fnAll K) : Dfn K mg "_law_long" s__law_long := by
  obtain ⟨fd, F⟩ := c.def_ 61 (d := d__law_long) rfl
  exact ⟨⟨_, fd, F, He.glo_ok X G (c.fact 42 (f := .glo "_law_long") rfl)⟩⟩
theorem D_law (X : K.In h) (G : h.Ns mainGlobals mg) (c : He.SaysD fa fnAll K) : Dfn K mg "law" s_law := by
  obtain ⟨fd, F⟩ := c.def_ 62 (d := d_law) rfl
  exact ⟨⟨_, fd, F, He.glo_ok X G (c.fact 43 (f := .glo "law") rfl)⟩⟩
theorem rt_of (c : He.SaysD fa fnAll K) : RT K (He.ga K "Rows") := ⟨He.cls_ok (c.fact 44 (f := .cls "Rows") rfl), He.noat_ok (c.fact 67 (f := .noat "Rows" "rows") rfl), He.noat_ok (c.fact 68 (f := .noat "Rows" "numbers") rfl)⟩
theorem lt_of (c : He.SaysD fa fnAll K) : LT K (He.ga K "Leaves") := ⟨He.cls_ok (c.fact 45 (f := .cls "Leaves") rfl), He.noat_ok (c.fact 69 (f := .noat "Leaves" "n") rfl), He.noat_ok (c.fact 70 (f := .noat "Leaves" "addresses") rfl), He.noat_ok (c.fact 71 (f := .noat "Leaves" "truths") rfl), He.noat_ok (c.fact 72 (f := .noat "Leaves" "boxes") rfl), He.noat_ok (c.fact 73 (f := .noat "Leaves" "numbers") rfl)⟩
end
theorem facts {w : World} {K : PySem.W.Frag} {h : Heap} {mg : Str → Option Value} {f : Addr} (X : K.In h) (G : h.Ns mainGlobals mg) (hfa : mg ("law" : Str) = some (.ref f)) (x : He.SaysX fa fnAll [] tf (fun _ => true) w h K) :
    LamX.LawAtS PySem.Challenge.rw_quarterfold_k69_whole_long_parts w K CX0 19 63 "_law_script" mg f h := by
  have c := x.t.d
  have B := bl_of X G c
  obtain ⟨fd, Fl⟩ := c.def_ 62 (d := d_law) rfl
  have e := hfa.symm.trans (He.glo_ok X G (c.fact 43 (f := .glo "law") rfl))
  cases e
  have T := lt_of c
  have TR := rt_of c
  have b := FunD.bindsA (ps := ["_law_script"]) Fl fun _ _ _ _ _ _ us hl => match us, hl with | [_], _ => rfl
  refine ⟨fd, tf.map (He.cT K), spLaw K (He.cT K ("Leaves", some "groups")).2, fun p hp => ?_, fun p hp => ?_, fun p hp => ?_, fun s v => b s [v] rfl, fun H a ns _ _ hT hS => ?_, fun base _ _ TB => ?_⟩
  · obtain ⟨q, hq, rfl⟩ := List.mem_map.mp hp
    exact x.empty q hq
  · obtain ⟨q, hq, rfl⟩ := List.mem_map.mp hp
    exact x.out q hq
  · obtain ⟨q, hq, rfl⟩ := List.mem_map.mp hp
    exact PySem.W.codeHd_of_K X (x.hd q hq)
  · refine ⟨(a, ns), rfl, hS, fun p hp => ?_, fun _ => rfl⟩
    rw [List.mem_singleton.mp hp]
    exact ⟨#[], hT _ (List.mem_map.mpr ⟨_, List.mem_singleton.mpr rfl, rfl⟩), trivial, fun pos cv z => by cases z⟩
  have TBg := TB _ (List.mem_map.mpr ⟨("Leaves", some "groups"), List.mem_singleton.mpr rfl, rfl⟩)
  have c__law_pot := ok__law_pot (P := (PySem.Challenge.rw_quarterfold_k69_whole_long_parts).prog) (w := w) (base := base) B (D__law_pot X G c)
  have c__law_digit := ok__law_digit (P := (PySem.Challenge.rw_quarterfold_k69_whole_long_parts).prog) (w := w) (base := base) B (D__law_digit X G c)
  have c__law_long := ok__law_long (P := (PySem.Challenge.rw_quarterfold_k69_whole_long_parts).prog) (w := w) (base := base) B (D__law_long X G c) c__law_digit
  have c__law_turn := ok__law_turn (P := (PySem.Challenge.rw_quarterfold_k69_whole_long_parts).prog) (w := w) (base := base) B (D__law_turn X G c)
  have c__law_snake := ok__law_snake (P := (PySem.Challenge.rw_quarterfold_k69_whole_long_parts).prog) (w := w) (base := base) B (D__law_snake X G c) c__law_turn
  have c__law_round := ok__law_round (P := (PySem.Challenge.rw_quarterfold_k69_whole_long_parts).prog) (w := w) (base := base) B (D__law_round X G c) c__law_turn
  have c__law_meets := ok__law_meets (P := (PySem.Challenge.rw_quarterfold_k69_whole_long_parts).prog) (w := w) (base := base) B (D__law_meets X G c)
  have c__law_has := ok__law_has (P := (PySem.Challenge.rw_quarterfold_k69_whole_long_parts).prog) (w := w) (base := base) B (D__law_has X G c)
  have c__law_number := ok__law_number (P := (PySem.Challenge.rw_quarterfold_k69_whole_long_parts).prog) (w := w) (base := base) B (D__law_number X G c) c__law_meets c__law_has 6
  have c__law_shape := ok__law_shape (P := (PySem.Challenge.rw_quarterfold_k69_whole_long_parts).prog) (w := w) (base := base) B (D__law_shape X G c) c__law_number
  have c_is_whole := ok_is_whole (P := (PySem.Challenge.rw_quarterfold_k69_whole_long_parts).prog) (w := w) (base := base) B (D_is_whole X G c)
  have c_is_size := ok_is_size (P := (PySem.Challenge.rw_quarterfold_k69_whole_long_parts).prog) (w := w) (base := base) B (D_is_size X G c) c_is_whole
  have c_is_number := ok_is_number (P := (PySem.Challenge.rw_quarterfold_k69_whole_long_parts).prog) (w := w) (base := base) B (D_is_number X G c) c_is_whole
  have c_is_row := ok_is_row (P := (PySem.Challenge.rw_quarterfold_k69_whole_long_parts).prog) (w := w) (base := base) B (D_is_row X G c) c_is_number
  have c_depths_of := ok_depths_of (P := (PySem.Challenge.rw_quarterfold_k69_whole_long_parts).prog) (w := w) (base := base) B (D_depths_of X G c)
  have c_is_telling := ok_is_telling (P := (PySem.Challenge.rw_quarterfold_k69_whole_long_parts).prog) (w := w) (base := base) B (D_is_telling X G c) c_is_size c_is_row c_is_number c_depths_of
  have c_Rows___init__ := ok_Rows___init__ (P := (PySem.Challenge.rw_quarterfold_k69_whole_long_parts).prog) (w := w) (base := base) B TR.cl (D_Rows___init__ X G c) TR
  have c_Rows_number := ok_Rows_number (P := (PySem.Challenge.rw_quarterfold_k69_whole_long_parts).prog) (w := w) (base := base) B TR.cl (D_Rows_number c) TR
  have c_Rows_take := ok_Rows_take (P := (PySem.Challenge.rw_quarterfold_k69_whole_long_parts).prog) (w := w) (base := base) B TR.cl (D_Rows_take c) TR c_Rows_number
  have c_Rows_quarters := ok_Rows_quarters (P := (PySem.Challenge.rw_quarterfold_k69_whole_long_parts).prog) (w := w) (base := base) B TR.cl (D_Rows_quarters c) TR
  have c_Rows_order := ok_Rows_order (P := (PySem.Challenge.rw_quarterfold_k69_whole_long_parts).prog) (w := w) (base := base) B TR.cl (D_Rows_order c) TR c_Rows_quarters 6
  have c_Rows_shape := ok_Rows_shape (P := (PySem.Challenge.rw_quarterfold_k69_whole_long_parts).prog) (w := w) (base := base) B TR.cl (D_Rows_shape c) TR c_Rows_quarters c_Rows_order
  have c_one_of := ok_one_of (P := (PySem.Challenge.rw_quarterfold_k69_whole_long_parts).prog) (w := w) (base := base) B (D_one_of X G c) TR c_Rows___init__ c_Rows_take c_Rows_shape
  have c_is_shape := ok_is_shape (P := (PySem.Challenge.rw_quarterfold_k69_whole_long_parts).prog) (w := w) (base := base) B (D_is_shape X G c) c_is_telling c_one_of
  have c_want_shape := ok_want_shape (P := (PySem.Challenge.rw_quarterfold_k69_whole_long_parts).prog) (w := w) (base := base) B (D_want_shape X G c) c_is_shape
  have c_want_way := ok_want_way (P := (PySem.Challenge.rw_quarterfold_k69_whole_long_parts).prog) (w := w) (base := base) B (D_want_way X G c)
  have c_many_in := ok_many_in (P := (PySem.Challenge.rw_quarterfold_k69_whole_long_parts).prog) (w := w) (base := base) B (D_many_in X G c)
  have c_want_coarse := ok_want_coarse (P := (PySem.Challenge.rw_quarterfold_k69_whole_long_parts).prog) (w := w) (base := base) B (D_want_coarse X G c) c_many_in
  have c_leaves_of := ok_leaves_of (P := (PySem.Challenge.rw_quarterfold_k69_whole_long_parts).prog) (w := w) (base := base) B (D_leaves_of X G c) c_want_shape c_want_coarse
  have c_want_size := ok_want_size (P := (PySem.Challenge.rw_quarterfold_k69_whole_long_parts).prog) (w := w) (base := base) B (D_want_size X G c) c_is_size
  have c_is_address := ok_is_address (P := (PySem.Challenge.rw_quarterfold_k69_whole_long_parts).prog) (w := w) (base := base) B (D_is_address X G c)
  have c_want_address := ok_want_address (P := (PySem.Challenge.rw_quarterfold_k69_whole_long_parts).prog) (w := w) (base := base) B (D_want_address X G c) c_is_address
  have c_box_of := ok_box_of (P := (PySem.Challenge.rw_quarterfold_k69_whole_long_parts).prog) (w := w) (base := base) B (D_box_of X G c) c_want_size c_want_address
  have c_Leaves___init__ := ok_Leaves___init__ (P := (PySem.Challenge.rw_quarterfold_k69_whole_long_parts).prog) (w := w) (base := base) B T.cl (D_Leaves___init__ X G c) T c_leaves_of c_box_of
  have c_leaves_for := ok_leaves_for (P := (PySem.Challenge.rw_quarterfold_k69_whole_long_parts).prog) (w := w) (base := base) B (D_leaves_for X G c) c_want_shape c_want_way c_Leaves___init__
  have c_Leaves_is_on := ok_Leaves_is_on (P := (PySem.Challenge.rw_quarterfold_k69_whole_long_parts).prog) (w := w) (base := base) B T.cl (D_Leaves_is_on c) T
  have c_Leaves_number_at := ok_Leaves_number_at (P := (PySem.Challenge.rw_quarterfold_k69_whole_long_parts).prog) (w := w) (base := base) B T.cl (D_Leaves_number_at c) T
  have c_Leaves_on_right := ok_Leaves_on_right (P := (PySem.Challenge.rw_quarterfold_k69_whole_long_parts).prog) (w := w) (base := base) B T.cl (D_Leaves_on_right c) T c_Leaves_is_on c_Leaves_number_at
  have c_Leaves_below := ok_Leaves_below (P := (PySem.Challenge.rw_quarterfold_k69_whole_long_parts).prog) (w := w) (base := base) B T.cl (D_Leaves_below c) T c_Leaves_is_on c_Leaves_number_at
  have c_Leaves_at_corners := ok_Leaves_at_corners (P := (PySem.Challenge.rw_quarterfold_k69_whole_long_parts).prog) (w := w) (base := base) B T.cl (D_Leaves_at_corners c) T c_Leaves_is_on c_Leaves_number_at
  have c_Leaves_links := ok_Leaves_links (P := (PySem.Challenge.rw_quarterfold_k69_whole_long_parts).prog) (w := w) (base := base) B T.cl (D_Leaves_links c) T c_Leaves_on_right c_Leaves_below c_Leaves_at_corners
  have c_reached := ok_reached (P := (PySem.Challenge.rw_quarterfold_k69_whole_long_parts).prog) (w := w) (base := base) B (D_reached X G c)
  have c_Leaves_first_cell := ok_Leaves_first_cell (P := (PySem.Challenge.rw_quarterfold_k69_whole_long_parts).prog) (w := w) (base := base) B T.cl (D_Leaves_first_cell c) T
  have c_Leaves_groups := ok_Leaves_groups (P := (PySem.Challenge.rw_quarterfold_k69_whole_long_parts).prog) (w := w) (base := base) B T.cl (D_Leaves_groups c) TBg T c_Leaves_links c_reached c_Leaves_first_cell
  have c_Leaves_parts := ok_Leaves_parts (P := (PySem.Challenge.rw_quarterfold_k69_whole_long_parts).prog) (w := w) (base := base) B T.cl (D_Leaves_parts c) c_Leaves_groups
  have c_Leaves_shape_of := ok_Leaves_shape_of (P := (PySem.Challenge.rw_quarterfold_k69_whole_long_parts).prog) (w := w) (base := base) B T.cl (D_Leaves_shape_of c) T TR c_Rows___init__ c_Rows_number c_Rows_shape
  have c_parts_of := ok_parts_of (P := (PySem.Challenge.rw_quarterfold_k69_whole_long_parts).prog) (w := w) (base := base) B (D_parts_of X G c) c_leaves_for c_Leaves_parts c_Leaves_shape_of
  have c_Leaves_is_at_edge := ok_Leaves_is_at_edge (P := (PySem.Challenge.rw_quarterfold_k69_whole_long_parts).prog) (w := w) (base := base) B T.cl (D_Leaves_is_at_edge c) T
  have c_other_way := ok_other_way (P := (PySem.Challenge.rw_quarterfold_k69_whole_long_parts).prog) (w := w) (base := base) B (D_other_way X G c)
  have c_Leaves_holes := ok_Leaves_holes (P := (PySem.Challenge.rw_quarterfold_k69_whole_long_parts).prog) (w := w) (base := base) B T.cl (D_Leaves_holes c) T c_Leaves_groups c_Leaves_is_at_edge c_other_way
  have c_owners := ok_owners (P := (PySem.Challenge.rw_quarterfold_k69_whole_long_parts).prog) (w := w) (base := base) B (D_owners X G c)
  have c_owner_left := ok_owner_left (P := (PySem.Challenge.rw_quarterfold_k69_whole_long_parts).prog) (w := w) (base := base) B (D_owner_left X G c) c_Leaves_first_cell c_Leaves_number_at
  have c_nest := ok_nest (P := (PySem.Challenge.rw_quarterfold_k69_whole_long_parts).prog) (w := w) (base := base) B (D_nest X G c) c_leaves_for c_Leaves_parts c_Leaves_holes c_owners c_owner_left
  have c__law_ends := ok__law_ends (P := (PySem.Challenge.rw_quarterfold_k69_whole_long_parts).prog) (w := w) (base := base) B (D__law_ends X G c) c__law_turn
  have c_is_cell := ok_is_cell (P := (PySem.Challenge.rw_quarterfold_k69_whole_long_parts).prog) (w := w) (base := base) B (D_is_cell X G c) c_is_whole
  have c_want_cell := ok_want_cell (P := (PySem.Challenge.rw_quarterfold_k69_whole_long_parts).prog) (w := w) (base := base) B (D_want_cell X G c) c_is_cell
  have c_want_cell_of := ok_want_cell_of (P := (PySem.Challenge.rw_quarterfold_k69_whole_long_parts).prog) (w := w) (base := base) B (D_want_cell_of X G c) c_want_cell
  have c_full_leaf := ok_full_leaf (P := (PySem.Challenge.rw_quarterfold_k69_whole_long_parts).prog) (w := w) (base := base) B (D_full_leaf X G c) T c_Leaves_number_at
  have c_steps_from := ok_steps_from (P := (PySem.Challenge.rw_quarterfold_k69_whole_long_parts).prog) (w := w) (base := base) B (D_steps_from X G c)
  have c_chain := ok_chain (P := (PySem.Challenge.rw_quarterfold_k69_whole_long_parts).prog) (w := w) (base := base) B (D_chain X G c) T c_leaves_for c_want_cell_of c_full_leaf c_Leaves_links c_steps_from
  have c__law_is_full := ok__law_is_full (P := (PySem.Challenge.rw_quarterfold_k69_whole_long_parts).prog) (w := w) (base := base) B (D__law_is_full X G c) c_parts_of c_nest c__law_ends c_chain
  have c_holes_of := ok_holes_of (P := (PySem.Challenge.rw_quarterfold_k69_whole_long_parts).prog) (w := w) (base := base) B (D_holes_of X G c) c_leaves_for c_Leaves_holes c_Leaves_shape_of
  exact ok_law B Fl geo c__law_pot c__law_digit c__law_long c__law_snake c__law_round c__law_shape c__law_is_full c_holes_of c_nest
end Qf
open PySem PySem.W PySem.Calls PyProof.Rows
theorem PySem.Challenge.cw_quarterfold_k69_whole_long_parts_holds : PySem.Challenge.rw_quarterfold_k69_whole_long_parts.Holds := by
  w_on; o_law
  refine HandSHeadRun.head_any (r := OpenLaw.row PySem.Challenge.rw_quarterfold_k69_whole_long_parts) (q := view (OpenLaw.row PySem.Challenge.rw_quarterfold_k69_whole_long_parts).prog [68]) (H := Qf.hk) (ob := Qf.ob) (M := 8000) (loose := Qf.loose) (d := HandSHeadRun.topDef (OpenLaw.row PySem.Challenge.rw_quarterfold_k69_whole_long_parts).prog 68) (kwd := []) Qf.ob_eq
    (by kernel_rfl) (fun s => by kernel_rfl) Qf.run (by kernel_rfl) (by kernel_rfl) (by kernel_rfl) (by rfl) (by first | assumption | decide +kernel) (by decide +kernel) ⟨rfl, rfl, rfl, rfl, rfl, by decide +kernel⟩ ?hw ?hc
  case hw => w_witness2
  case hc =>
    refine LamX.walk_ofTsE (l := PySem.Challenge.rw_quarterfold_k69_whole_long_parts) (n := 63) (k := 19) (x := "_law_script") (CX := fun _ => L2.CX0) rfl (by decide) (by kernel_rfl) ⟨rfl, by decide, by decide⟩ ?F (fun _ _ _ _ _ z => z)
    intro w mg fa h Y G hmg0
    obtain ⟨K, KX, c⟩ := Y
    have hmg : mg ("law" : PySem.Str) = some (.ref fa) := by
      have e : (HandSHeadRun.topDef (OpenLaw.row PySem.Challenge.rw_quarterfold_k69_whole_long_parts).prog 68).name = ("law" : PySem.Str) := by kernel_rfl
      rw [← e]
      exact hmg0
    exact ⟨K, KX, Qf.facts KX G hmg c⟩
