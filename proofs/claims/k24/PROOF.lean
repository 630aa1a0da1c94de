import PyProof.Rows.All
import Wide.All
import OpenK.AllK
import Wide.FinOn
import HandS.ForMost
import HandS.HeadHook4
import HandS.ClsMeth
import HandS.Property
import HandS.Star
import HandS.IsInst
import KE.KStateDown
import HandS.Head0
import HandS.Head1
import HandS.Head2
import HandS.HeadEnd
import HandS.Walk
import HandS.DictComp
import HandS.SlotsOwn
import HandS.OwnEq
import KE.GoesMore
import PyProof.Draws
import HandS.TupMul
import HandS.SetBool
import HandS.SetKeys
import HandS.Conv
import HandS.DictTup
import KE.KDictCopyH
import KE.KDictSum
import KE.SortData
import HandS.Lambda
import HandS.SortKw
import KE.SortKeyHeap
import KE.KDictPairs
import HandS.TupAny
import HandS.ListItems
import PyProof.Rows.RegFStrParts
import HandS.EndBits
import PySem.Challenge.RW_strayjoins_k24_whole_words_in_any_order
set_option Elab.async false
set_option linter.all false
set_option maxRecDepth 100000
set_option maxHeartbeats 4000000
/-! SjText: where each def of the text stands, its names by slot. Printed by gentext.py. -/
namespace Sj
open PySem L2
def top (i : Nat) : Stmt := PySem.Challenge.pw_strayjoins_k24_whole_words_in_any_order.main.body.getD i (.Pass ⟨0, 0, 0, 0⟩)
abbrev s_is_integer : Stmt := top 18
abbrev n_is_integer : List Str := ["value"]
abbrev p_is_integer : List Str := ["value"]
theorem sc_is_integer : FnScope n_is_integer p_is_integer (defScope s_is_integer) := ⟨rfl, rfl, rfl, by decide +kernel, rfl, by decide +kernel, by decide +kernel⟩
abbrev s_is_between : Stmt := top 19
abbrev n_is_between : List Str := ["value", "least", "most"]
abbrev p_is_between : List Str := ["value", "least", "most"]
theorem sc_is_between : FnScope n_is_between p_is_between (defScope s_is_between) := ⟨rfl, rfl, rfl, by decide +kernel, rfl, by decide +kernel, by decide +kernel⟩
abbrev s_is_name : Stmt := top 20
abbrev n_is_name : List Str := ["value", "letter"]
abbrev p_is_name : List Str := ["value"]
theorem sc_is_name : FnScope n_is_name p_is_name (defScope s_is_name) := ⟨rfl, rfl, rfl, by decide +kernel, rfl, by decide +kernel, by decide +kernel⟩
abbrev s_has_names : Stmt := top 22
abbrev n_has_names : List Str := ["names", "value", "name"]
abbrev p_has_names : List Str := ["names", "value"]
theorem sc_has_names : FnScope n_has_names p_has_names (defScope s_has_names) := ⟨rfl, rfl, rfl, by decide +kernel, rfl, by decide +kernel, by decide +kernel⟩
abbrev s_check_answers : Stmt := top 23
abbrev n_check_answers : List Str := ["table", "answers", "frame", "index", "answer", "name"]
abbrev p_check_answers : List Str := ["table", "answers"]
theorem sc_check_answers : FnScope n_check_answers p_check_answers (defScope s_check_answers) := ⟨rfl, rfl, rfl, by decide +kernel, rfl, by decide +kernel, by decide +kernel⟩
abbrev s_levels_read : Stmt := top 24
abbrev n_levels_read : List Str := ["table", "answers", "name", "frame", "answer"]
abbrev p_levels_read : List Str := ["table", "answers", "name"]
theorem sc_levels_read : FnScope n_levels_read p_levels_read (defScope s_levels_read) := ⟨rfl, rfl, rfl, by decide +kernel, rfl, by decide +kernel, by decide +kernel⟩
abbrev s_lifted_at : Stmt := top 25
abbrev n_lifted_at : List Str := ["levels", "driven", "index", "level"]
abbrev p_lifted_at : List Str := ["levels", "driven"]
theorem sc_lifted_at : FnScope n_lifted_at p_lifted_at (defScope s_lifted_at) := ⟨rfl, rfl, rfl, by decide +kernel, rfl, by decide +kernel, by decide +kernel⟩
abbrev s_Readings_init : Stmt := inClass (top 26) 0
abbrev n_Readings_init : List Str := ["self", "table", "answers", "frame", "name", "faults", "index", "answer"]
abbrev p_Readings_init : List Str := ["self", "table", "answers"]
theorem sc_Readings_init : FnScope n_Readings_init p_Readings_init (defScope s_Readings_init) := ⟨rfl, rfl, rfl, by decide +kernel, rfl, by decide +kernel, by decide +kernel⟩
abbrev s_Readings_lifted_legs : Stmt := inClass (top 26) 1
abbrev n_Readings_lifted_legs : List Str := ["self", "found", "name", "index", "is_locked"]
abbrev p_Readings_lifted_legs : List Str := ["self"]
theorem sc_Readings_lifted_legs : FnScope n_Readings_lifted_legs p_Readings_lifted_legs (defScope s_Readings_lifted_legs) := ⟨rfl, rfl, rfl, by decide +kernel, rfl, by decide +kernel, by decide +kernel⟩
abbrev s_Readings_lost_words : Stmt := inClass (top 26) 2
abbrev n_Readings_lost_words : List Str := ["self", "found", "levels", "names", "index", "level"]
abbrev p_Readings_lost_words : List Str := ["self"]
theorem sc_Readings_lost_words : FnScope n_Readings_lost_words p_Readings_lost_words (defScope s_Readings_lost_words) := ⟨rfl, rfl, rfl, by decide +kernel, rfl, by decide +kernel, by decide +kernel⟩
abbrev s_Readings_at_level : Stmt := inClass (top 26) 3
abbrev n_Readings_at_level : List Str := ["self", "names", "index", "level", "name"]
abbrev p_Readings_at_level : List Str := ["self", "names", "index", "level"]
theorem sc_Readings_at_level : FnScope n_Readings_at_level p_Readings_at_level (defScope s_Readings_at_level) := ⟨rfl, rfl, rfl, by decide +kernel, rfl, by decide +kernel, by decide +kernel⟩
abbrev s_Readings_need : Stmt := inClass (top 26) 4
abbrev n_Readings_need : List Str := ["self", "name"]
abbrev p_Readings_need : List Str := ["self", "name"]
theorem sc_Readings_need : FnScope n_Readings_need p_Readings_need (defScope s_Readings_need) := ⟨rfl, rfl, rfl, by decide +kernel, rfl, by decide +kernel, by decide +kernel⟩
abbrev s_Readings_classes : Stmt := inClass (top 26) 7
abbrev n_Readings_classes : List Str := ["self"]
abbrev p_Readings_classes : List Str := ["self"]
theorem sc_Readings_classes : FnScope n_Readings_classes p_Readings_classes (defScope s_Readings_classes) := ⟨rfl, rfl, rfl, by decide +kernel, rfl, by decide +kernel, by decide +kernel⟩
abbrev s_Readings_idle : Stmt := inClass (top 26) 8
abbrev n_Readings_idle : List Str := ["self"]
abbrev p_Readings_idle : List Str := ["self"]
theorem sc_Readings_idle : FnScope n_Readings_idle p_Readings_idle (defScope s_Readings_idle) := ⟨rfl, rfl, rfl, by decide +kernel, rfl, by decide +kernel, by decide +kernel⟩
abbrev s_Readings_locked : Stmt := inClass (top 26) 9
abbrev n_Readings_locked : List Str := ["self", "name"]
abbrev p_Readings_locked : List Str := ["self"]
theorem sc_Readings_locked : FnScope n_Readings_locked p_Readings_locked (defScope s_Readings_locked) := ⟨rfl, rfl, rfl, by decide +kernel, rfl, by decide +kernel, by decide +kernel⟩
abbrev s_Readings_mute : Stmt := inClass (top 26) 10
abbrev n_Readings_mute : List Str := ["self", "drivers", "name"]
abbrev p_Readings_mute : List Str := ["self"]
theorem sc_Readings_mute : FnScope n_Readings_mute p_Readings_mute (defScope s_Readings_mute) := ⟨rfl, rfl, rfl, by decide +kernel, rfl, by decide +kernel, by decide +kernel⟩
abbrev s_Readings_levels : Stmt := inClass (top 26) 11
abbrev n_Readings_levels : List Str := ["self", "name"]
abbrev p_Readings_levels : List Str := ["self", "name"]
theorem sc_Readings_levels : FnScope n_Readings_levels p_Readings_levels (defScope s_Readings_levels) := ⟨rfl, rfl, rfl, by decide +kernel, rfl, by decide +kernel, by decide +kernel⟩
abbrev s_Readings_class_of : Stmt := inClass (top 26) 12
abbrev n_Readings_class_of : List Str := ["self", "name"]
abbrev p_Readings_class_of : List Str := ["self", "name"]
theorem sc_Readings_class_of : FnScope n_Readings_class_of p_Readings_class_of (defScope s_Readings_class_of) := ⟨rfl, rfl, rfl, by decide +kernel, rfl, by decide +kernel, by decide +kernel⟩
abbrev s_Readings_marked : Stmt := inClass (top 26) 13
abbrev n_Readings_marked : List Str := ["self", "name", "top", "index", "level"]
abbrev p_Readings_marked : List Str := ["self", "name"]
theorem sc_Readings_marked : FnScope n_Readings_marked p_Readings_marked (defScope s_Readings_marked) := ⟨rfl, rfl, rfl, by decide +kernel, rfl, by decide +kernel, by decide +kernel⟩
abbrev s_Readings_makers : Stmt := inClass (top 26) 14
abbrev n_Readings_makers : List Str := ["self", "name", "index", "levels"]
abbrev p_Readings_makers : List Str := ["self", "name", "index"]
theorem sc_Readings_makers : FnScope n_Readings_makers p_Readings_makers (defScope s_Readings_makers) := ⟨rfl, rfl, rfl, by decide +kernel, rfl, by decide +kernel, by decide +kernel⟩
abbrev s_Readings_is_cover : Stmt := inClass (top 26) 15
abbrev n_Readings_is_cover : List Str := ["self", "names", "levels", "name", "index"]
abbrev p_Readings_is_cover : List Str := ["self", "names"]
theorem sc_Readings_is_cover : FnScope n_Readings_is_cover p_Readings_is_cover (defScope s_Readings_is_cover) := ⟨rfl, rfl, rfl, by decide +kernel, rfl, by decide +kernel, by decide +kernel⟩
abbrev s_has_both_rails : Stmt := top 28
abbrev n_has_both_rails : List Str := ["block"]
abbrev p_has_both_rails : List Str := ["block"]
theorem sc_has_both_rails : FnScope n_has_both_rails p_has_both_rails (defScope s_has_both_rails) := ⟨rfl, rfl, rfl, by decide +kernel, rfl, by decide +kernel, by decide +kernel⟩
abbrev s_fault_of_boards : Stmt := top 29
abbrev n_fault_of_boards : List Str := ["frame", "blocks", "names", "block", "name"]
abbrev p_fault_of_boards : List Str := ["frame", "blocks"]
theorem sc_fault_of_boards : FnScope n_fault_of_boards p_fault_of_boards (defScope s_fault_of_boards) := ⟨rfl, rfl, rfl, by decide +kernel, rfl, by decide +kernel, by decide +kernel⟩
abbrev s_Board_init : Stmt := inClass (top 32) 0
abbrev n_Board_init : List Str := ["self", "frame", "blocks", "fault", "joined", "block", "name"]
abbrev p_Board_init : List Str := ["self", "frame", "blocks"]
theorem sc_Board_init : FnScope n_Board_init p_Board_init (defScope s_Board_init) := ⟨rfl, rfl, rfl, by decide +kernel, rfl, by decide +kernel, by decide +kernel⟩
abbrev s_Board_of : Stmt := inClass (top 32) 1
abbrev n_Board_of : List Str := ["cls", "frame", "blocks"]
abbrev p_Board_of : List Str := ["cls", "frame", "blocks"]
theorem sc_Board_of : FnScope n_Board_of p_Board_of (defScope s_Board_of) := ⟨rfl, rfl, rfl, by decide +kernel, rfl, by decide +kernel, by decide +kernel⟩
abbrev s_Board_reads : Stmt := inClass (top 32) 4
abbrev n_Board_reads : List Str := ["self", "word", "name", "block", "one"]
abbrev p_Board_reads : List Str := ["self", "word", "name"]
theorem sc_Board_reads : FnScope n_Board_reads p_Board_reads (defScope s_Board_reads) := ⟨rfl, rfl, rfl, by decide +kernel, rfl, by decide +kernel, by decide +kernel⟩
abbrev s_Board_call : Stmt := inClass (top 32) 8
abbrev n_Board_call : List Str := ["self", "word", "name"]
abbrev p_Board_call : List Str := ["self", "word"]
theorem sc_Board_call : FnScope n_Board_call p_Board_call (defScope s_Board_call) := ⟨rfl, rfl, rfl, by decide +kernel, rfl, by decide +kernel, by decide +kernel⟩
abbrev s_Board_getitem : Stmt := inClass (top 32) 9
abbrev n_Board_getitem : List Str := ["self", "name"]
abbrev p_Board_getitem : List Str := ["self", "name"]
theorem sc_Board_getitem : FnScope n_Board_getitem p_Board_getitem (defScope s_Board_getitem) := ⟨rfl, rfl, rfl, by decide +kernel, rfl, by decide +kernel, by decide +kernel⟩
abbrev s_Leg_init : Stmt := inClass (top 34) 1
abbrev n_Leg_init : List Str := ["self", "name"]
abbrev p_Leg_init : List Str := ["self", "name"]
theorem sc_Leg_init : FnScope n_Leg_init p_Leg_init (defScope s_Leg_init) := ⟨rfl, rfl, rfl, by decide +kernel, rfl, by decide +kernel, by decide +kernel⟩
abbrev s_Leg_drives : Stmt := inClass (top 34) 2
abbrev n_Leg_drives : List Str := ["self"]
abbrev p_Leg_drives : List Str := ["self"]
theorem sc_Leg_drives : FnScope n_Leg_drives p_Leg_drives (defScope s_Leg_drives) := ⟨rfl, rfl, rfl, by decide +kernel, rfl, by decide +kernel, by decide +kernel⟩
abbrev s_fault_of_frames : Stmt := top 39
abbrev n_fault_of_frames : List Str := ["legs", "most", "top", "rails", "leg", "rail"]
abbrev p_fault_of_frames : List Str := ["legs", "most", "top", "rails"]
theorem sc_fault_of_frames : FnScope n_fault_of_frames p_fault_of_frames (defScope s_fault_of_frames) := ⟨rfl, rfl, rfl, by decide +kernel, rfl, by decide +kernel, by decide +kernel⟩
abbrev s_Frame_init : Stmt := inClass (top 41) 1
abbrev n_Frame_init : List Str := ["self", "top", "ground", "power", "legs", "fault", "leg"]
abbrev p_Frame_init : List Str := ["self", "top", "ground", "power", "legs"]
theorem sc_Frame_init : FnScope n_Frame_init p_Frame_init (defScope s_Frame_init) := ⟨rfl, rfl, rfl, by decide +kernel, rfl, by decide +kernel, by decide +kernel⟩
abbrev s_Frame_of : Stmt := inClass (top 41) 2
abbrev n_Frame_of : List Str := ["cls", "legs", "top", "ground", "power"]
abbrev p_Frame_of : List Str := ["cls", "legs", "top", "ground", "power"]
theorem sc_Frame_of : FnScope n_Frame_of p_Frame_of (defScope s_Frame_of) := ⟨rfl, rfl, rfl, by decide +kernel, rfl, by decide +kernel, by decide +kernel⟩
abbrev s_Frame_legs : Stmt := inClass (top 41) 3
abbrev n_Frame_legs : List Str := ["self"]
abbrev p_Frame_legs : List Str := ["self"]
theorem sc_Frame_legs : FnScope n_Frame_legs p_Frame_legs (defScope s_Frame_legs) := ⟨rfl, rfl, rfl, by decide +kernel, rfl, by decide +kernel, by decide +kernel⟩
abbrev s_Frame_names : Stmt := inClass (top 41) 4
abbrev n_Frame_names : List Str := ["self"]
abbrev p_Frame_names : List Str := ["self"]
theorem sc_Frame_names : FnScope n_Frame_names p_Frame_names (defScope s_Frame_names) := ⟨rfl, rfl, rfl, by decide +kernel, rfl, by decide +kernel, by decide +kernel⟩
abbrev s_Frame_drivers : Stmt := inClass (top 41) 5
abbrev n_Frame_drivers : List Str := ["self", "name", "leg"]
abbrev p_Frame_drivers : List Str := ["self"]
theorem sc_Frame_drivers : FnScope n_Frame_drivers p_Frame_drivers (defScope s_Frame_drivers) := ⟨rfl, rfl, rfl, by decide +kernel, rfl, by decide +kernel, by decide +kernel⟩
abbrev s_Frame_rails : Stmt := inClass (top 41) 7
abbrev n_Frame_rails : List Str := ["self"]
abbrev p_Frame_rails : List Str := ["self"]
theorem sc_Frame_rails : FnScope n_Frame_rails p_Frame_rails (defScope s_Frame_rails) := ⟨rfl, rfl, rfl, by decide +kernel, rfl, by decide +kernel, by decide +kernel⟩
abbrev s_Frame_members : Stmt := inClass (top 41) 8
abbrev n_Frame_members : List Str := ["self"]
abbrev p_Frame_members : List Str := ["self"]
theorem sc_Frame_members : FnScope n_Frame_members p_Frame_members (defScope s_Frame_members) := ⟨rfl, rfl, rfl, by decide +kernel, rfl, by decide +kernel, by decide +kernel⟩
abbrev s_Frame_contains : Stmt := inClass (top 41) 9
abbrev n_Frame_contains : List Str := ["self", "name"]
abbrev p_Frame_contains : List Str := ["self", "name"]
theorem sc_Frame_contains : FnScope n_Frame_contains p_Frame_contains (defScope s_Frame_contains) := ⟨rfl, rfl, rfl, by decide +kernel, rfl, by decide +kernel, by decide +kernel⟩
abbrev s_Frame_eq : Stmt := inClass (top 41) 13
abbrev n_Frame_eq : List Str := ["self", "other"]
abbrev p_Frame_eq : List Str := ["self", "other"]
theorem sc_Frame_eq : FnScope n_Frame_eq p_Frame_eq (defScope s_Frame_eq) := ⟨rfl, rfl, rfl, by decide +kernel, rfl, by decide +kernel, by decide +kernel⟩
abbrev s_levels_of : Stmt := top 43
abbrev n_levels_of : List Str := ["frame", "levels", "name"]
abbrev p_levels_of : List Str := ["frame", "levels"]
theorem sc_levels_of : FnScope n_levels_of p_levels_of (defScope s_levels_of) := ⟨rfl, rfl, rfl, by decide +kernel, rfl, by decide +kernel, by decide +kernel⟩
abbrev s_Word_init : Stmt := inClass (top 44) 0
abbrev n_Word_init : List Str := ["self", "frame", "pairs", "levels"]
abbrev p_Word_init : List Str := ["self", "frame", "pairs", "levels"]
theorem sc_Word_init : FnScope n_Word_init p_Word_init (defScope s_Word_init) := ⟨rfl, rfl, rfl, by decide +kernel, rfl, by decide +kernel, by decide +kernel⟩
abbrev s_Word_of : Stmt := inClass (top 44) 1
abbrev n_Word_of : List Str := ["cls", "frame", "levels", "pairs"]
abbrev p_Word_of : List Str := ["cls", "frame", "levels"]
theorem sc_Word_of : FnScope n_Word_of p_Word_of (defScope s_Word_of) := ⟨rfl, rfl, rfl, by decide +kernel, rfl, by decide +kernel, by decide +kernel⟩
abbrev s_Word_getitem : Stmt := inClass (top 44) 5
abbrev n_Word_getitem : List Str := ["self", "name"]
abbrev p_Word_getitem : List Str := ["self", "name"]
theorem sc_Word_getitem : FnScope n_Word_getitem p_Word_getitem (defScope s_Word_getitem) := ⟨rfl, rfl, rfl, by decide +kernel, rfl, by decide +kernel, by decide +kernel⟩
abbrev s_is_word : Stmt := top 45
abbrev n_is_word : List Str := ["frame", "value"]
abbrev p_is_word : List Str := ["frame", "value"]
theorem sc_is_word : FnScope n_is_word p_is_word (defScope s_is_word) := ⟨rfl, rfl, rfl, by decide +kernel, rfl, by decide +kernel, by decide +kernel⟩
abbrev s_Table_init : Stmt := inClass (top 47) 1
abbrev n_Table_init : List Str := ["self", "frame", "words", "word"]
abbrev p_Table_init : List Str := ["self", "frame", "words"]
theorem sc_Table_init : FnScope n_Table_init p_Table_init (defScope s_Table_init) := ⟨rfl, rfl, rfl, by decide +kernel, rfl, by decide +kernel, by decide +kernel⟩
abbrev s_Table_of : Stmt := inClass (top 47) 2
abbrev n_Table_of : List Str := ["cls", "frame", "words"]
abbrev p_Table_of : List Str := ["cls", "frame", "words"]
theorem sc_Table_of : FnScope n_Table_of p_Table_of (defScope s_Table_of) := ⟨rfl, rfl, rfl, by decide +kernel, rfl, by decide +kernel, by decide +kernel⟩
abbrev s_Table_answers_of : Stmt := inClass (top 47) 5
abbrev n_Table_answers_of : List Str := ["self", "board", "word"]
abbrev p_Table_answers_of : List Str := ["self", "board"]
theorem sc_Table_answers_of : FnScope n_Table_answers_of p_Table_answers_of (defScope s_Table_answers_of) := ⟨rfl, rfl, rfl, by decide +kernel, rfl, by decide +kernel, by decide +kernel⟩
abbrev s_Table_driven : Stmt := inClass (top 47) 6
abbrev n_Table_driven : List Str := ["self", "name", "word"]
abbrev p_Table_driven : List Str := ["self", "name"]
theorem sc_Table_driven : FnScope n_Table_driven p_Table_driven (defScope s_Table_driven) := ⟨rfl, rfl, rfl, by decide +kernel, rfl, by decide +kernel, by decide +kernel⟩
abbrev s_Table_len : Stmt := inClass (top 47) 8
abbrev n_Table_len : List Str := ["self"]
abbrev p_Table_len : List Str := ["self"]
theorem sc_Table_len : FnScope n_Table_len p_Table_len (defScope s_Table_len) := ⟨rfl, rfl, rfl, by decide +kernel, rfl, by decide +kernel, by decide +kernel⟩
abbrev s_law_pen : Stmt := top 49
abbrev n_law_pen : List Str := ["_law_script"]
abbrev p_law_pen : List Str := ["_law_script"]
theorem sc_law_pen : FnScope n_law_pen p_law_pen (defScope s_law_pen) := ⟨rfl, rfl, rfl, by decide +kernel, rfl, by decide +kernel, by decide +kernel⟩
abbrev s_law_draw : Stmt := top 50
abbrev n_law_draw : List Str := ["_law_pen_here", "_law_many", "_law_digit", "_law_at", "_law_cell", "_law_great", "_law_mixed_here"]
abbrev p_law_draw : List Str := ["_law_pen_here", "_law_many"]
theorem sc_law_draw : FnScope n_law_draw p_law_draw (defScope s_law_draw) := ⟨rfl, rfl, rfl, by decide +kernel, rfl, by decide +kernel, by decide +kernel⟩
abbrev s_law_pick : Stmt := top 51
abbrev n_law_pick : List Str := ["_law_pen_here", "_law_some"]
abbrev p_law_pick : List Str := ["_law_pen_here", "_law_some"]
theorem sc_law_pick : FnScope n_law_pick p_law_pick (defScope s_law_pick) := ⟨rfl, rfl, rfl, by decide +kernel, rfl, by decide +kernel, by decide +kernel⟩
abbrev s_law_tags : Stmt := top 52
abbrev n_law_tags : List Str := ["_law_pen_here", "_law_many", "_law_pool", "_law_turn"]
abbrev p_law_tags : List Str := ["_law_pen_here", "_law_many"]
theorem sc_law_tags : FnScope n_law_tags p_law_tags (defScope s_law_tags) := ⟨rfl, rfl, rfl, by decide +kernel, rfl, by decide +kernel, by decide +kernel⟩
abbrev s_law_bare : Stmt := top 53
abbrev n_law_bare : List Str := ["_law_pen_here", "_law_most", "_law_tags_here", "_law_bare_here", "_law_tag"]
abbrev p_law_bare : List Str := ["_law_pen_here", "_law_most"]
theorem sc_law_bare : FnScope n_law_bare p_law_bare (defScope s_law_bare) := ⟨rfl, rfl, rfl, by decide +kernel, rfl, by decide +kernel, by decide +kernel⟩
abbrev s_law_frame : Stmt := top 54
abbrev n_law_frame : List Str := ["_law_bare_here", "_law_legs_so", "_law_rails_so", "_law_tag"]
abbrev p_law_frame : List Str := ["_law_bare_here"]
theorem sc_law_frame : FnScope n_law_frame p_law_frame (defScope s_law_frame) := ⟨rfl, rfl, rfl, by decide +kernel, rfl, by decide +kernel, by decide +kernel⟩
abbrev s_law_members : Stmt := top 55
abbrev n_law_members : List Str := ["_law_bare_here"]
abbrev p_law_members : List Str := ["_law_bare_here"]
theorem sc_law_members : FnScope n_law_members p_law_members (defScope s_law_members) := ⟨rfl, rfl, rfl, by decide +kernel, rfl, by decide +kernel, by decide +kernel⟩
abbrev s_law_levels : Stmt := top 56
abbrev n_law_levels : List Str := ["_law_pen_here", "_law_bare_here", "_law_way", "_law_found", "_law_tag", "_law_level_so"]
abbrev p_law_levels : List Str := ["_law_pen_here", "_law_bare_here"]
theorem sc_law_levels : FnScope n_law_levels p_law_levels (defScope s_law_levels) := ⟨rfl, rfl, rfl, by decide +kernel, rfl, by decide +kernel, by decide +kernel⟩
abbrev s_law_parted : Stmt := top 57
abbrev n_law_parted : List Str := ["_law_pen_here", "_law_bare_here", "_law_blocks_so", "_law_tag", "_law_at", "_law_fits_so"]
abbrev p_law_parted : List Str := ["_law_pen_here", "_law_bare_here"]
theorem sc_law_parted : FnScope n_law_parted p_law_parted (defScope s_law_parted) := ⟨rfl, rfl, rfl, by decide +kernel, rfl, by decide +kernel, by decide +kernel⟩
abbrev s_law_readings : Stmt := top 60
abbrev n_law_readings : List Str := ["_law_bare_here", "_law_blocks_so", "_law_rows", "_law_web", "_law_field", "_law_row"]
abbrev p_law_readings : List Str := ["_law_bare_here", "_law_blocks_so", "_law_rows"]
theorem sc_law_readings : FnScope n_law_readings p_law_readings (defScope s_law_readings) := ⟨rfl, rfl, rfl, by decide +kernel, rfl, by decide +kernel, by decide +kernel⟩
abbrev s_law_sorts : Stmt := top 61
abbrev n_law_sorts : List Str := ["_law_told"]
abbrev p_law_sorts : List Str := ["_law_told"]
theorem sc_law_sorts : FnScope n_law_sorts p_law_sorts (defScope s_law_sorts) := ⟨rfl, rfl, rfl, by decide +kernel, rfl, by decide +kernel, by decide +kernel⟩
abbrev s_law_mixed : Stmt := top 62
abbrev n_law_mixed : List Str := ["_law_pen_here", "_law_many", "_law_left", "_law_turn"]
abbrev p_law_mixed : List Str := ["_law_pen_here", "_law_many"]
theorem sc_law_mixed : FnScope n_law_mixed p_law_mixed (defScope s_law_mixed) := ⟨rfl, rfl, rfl, by decide +kernel, rfl, by decide +kernel, by decide +kernel⟩
abbrev s_law_order_right : Stmt := top 63
abbrev n_law_order_right : List Str := ["_law_pen_here", "_law_bare_here", "_law_blocks_so", "_law_rows", "_law_told", "_law_order", "_law_k", "_law_other", "_law_tag", "_law_at", "_law_marked_so", "_law_due"]
abbrev p_law_order_right : List Str := ["_law_pen_here", "_law_bare_here", "_law_blocks_so", "_law_rows", "_law_told"]
theorem sc_law_order_right : FnScope n_law_order_right p_law_order_right (defScope s_law_order_right) := ⟨rfl, rfl, rfl, by decide +kernel, rfl, by decide +kernel, by decide +kernel⟩
abbrev s_law_is_finer : Stmt := top 64
abbrev n_law_is_finer : List Str := ["_law_one", "_law_other", "_law_group", "_law_tag"]
abbrev p_law_is_finer : List Str := ["_law_one", "_law_other"]
theorem sc_law_is_finer : FnScope n_law_is_finer p_law_is_finer (defScope s_law_is_finer) := ⟨rfl, rfl, rfl, by decide +kernel, rfl, by decide +kernel, by decide +kernel⟩
abbrev s_law_less_right : Stmt := top 65
abbrev n_law_less_right : List Str := ["_law_pen_here", "_law_bare_here", "_law_blocks_so", "_law_rows", "_law_told", "_law_at", "_law_other", "_law_group", "_law_some", "_law_rest", "_law_tag"]
abbrev p_law_less_right : List Str := ["_law_pen_here", "_law_bare_here", "_law_blocks_so", "_law_rows", "_law_told"]
theorem sc_law_less_right : FnScope n_law_less_right p_law_less_right (defScope s_law_less_right) := ⟨rfl, rfl, rfl, by decide +kernel, rfl, by decide +kernel, by decide +kernel⟩
abbrev s_law_renamed : Stmt := top 66
abbrev n_law_renamed : List Str := ["_law_pen_here", "_law_bare_here", "_law_legs_so", "_law_start", "_law_found", "_law_k", "_law_tag"]
abbrev p_law_renamed : List Str := ["_law_pen_here", "_law_bare_here"]
theorem sc_law_renamed : FnScope n_law_renamed p_law_renamed (defScope s_law_renamed) := ⟨rfl, rfl, rfl, by decide +kernel, rfl, by decide +kernel, by decide +kernel⟩
abbrev s_law_names_right : Stmt := top 67
abbrev n_law_names_right : List Str := ["_law_pen_here", "_law_bare_here", "_law_blocks_so", "_law_rows", "_law_told", "_law_known", "_law_other_bare", "_law_sort", "_law_other_rows", "_law_other", "_law_due", "_law_tag", "_law_row", "_law_block", "_law_group"]
abbrev p_law_names_right : List Str := ["_law_pen_here", "_law_bare_here", "_law_blocks_so", "_law_rows", "_law_told"]
theorem sc_law_names_right : FnScope n_law_names_right p_law_names_right (defScope s_law_names_right) := ⟨rfl, rfl, rfl, by decide +kernel, rfl, by decide +kernel, by decide +kernel⟩
abbrev s_law : Stmt := top 68
abbrev n_law : List Str := ["_law_script", "_law_pen_here", "_law_turn", "_law_bare_here", "_law_rows", "_law_blocks_so", "_law_told", "_law_longer", "_law_k", "_law_tag"]
abbrev p_law : List Str := ["_law_script"]
theorem sc_law : FnScope n_law p_law (defScope s_law) := ⟨rfl, rfl, rfl, by decide +kernel, rfl, by decide +kernel, by decide +kernel⟩
end Sj
set_option Elab.async false
set_option linter.all false
set_option maxRecDepth 100000
set_option maxHeartbeats 4000000
/-! SjHook: the facts of the top that the walk asks. Printed by genhook.py. -/
namespace Sj
open PySem PySem.Spec PyProof.Rows L2 He
abbrev Frg : Type := PySem.W.Frag
/-- the def inside a property's or a classmethod's record -/
def pG (K : Frg) (p : Addr) (T : String) : Addr := match PySem.W.recIn K p T with
  | some (.ref f :: _) => f
  | _ => 0
/-- what isinstance asks of an instance's class -/
structure InsF (K : Frg) (C : Addr) : Prop where
  ca : PySem.W.findIn K (.ref C) "__class__" = some (some (.builtin "object.__class__"))
  cn : PySem.W.specialIn K (.builtin "object.__class__") "__get__" = some (some (.builtin "getset_descriptor.__get__"))
  ct : PySem.W.takesIn K (.builtin "object.__class__") = some true
  cm : PySem.W.mroIn K C (.type "object") = some true
/-- an own special method -/
structure SpecF (K : Frg) (C : Addr) (m : Str) (f : Addr) : Prop where
  at_ : PySem.W.findIn K (.ref C) m = some (some (.ref f))
  fn : PySem.W.isFn K (.ref f) = true
  fi : PySem.W.fnIn K f = true
inductive Fx where
  | glo (x : Str) | free (x : Str) | int (x : Str) (i : Int) | str (x z : Str) | cls (x : Str) | noat (x f : Str) | meth (x m : Str) | mkr (x : Str) | con (x f : Str) (v : Dv)
  | inst (x : Str) | prop (x f : Str) | cm (x m : Str) | rd (x : Str) | spec (x m : Str) | seq (x : Str) | kit (x : Str) (cs : List Str) | same (x y m : Str)
def Fx.ok (K : Frg) : Fx → Bool
  | .glo x => (Fa.glo x).ok K
  | .free x => (Fa.free x).ok K
  | .int x i => (Fa.int x i).ok K
  | .str x z => (Fa.str x z).ok K
  | .cls x => (Fa.cls x).ok K
  | .noat x f => (Fa.noat x f).ok K
  | .meth x m => (Fa.meth x m).ok K
  | .mkr x => (Fa.mkr x).ok K
  | .con x f v => conB K x f v && !(PySem.W.copiedNames.contains f)
  | .inst x => eqO (PySem.W.findIn K (.ref (ga K x)) "__class__") (some (some (.builtin "object.__class__"))) && (eqO (PySem.W.specialIn K (.builtin "object.__class__") "__get__") (some (some (.builtin "getset_descriptor.__get__"))) &&
      (decide (PySem.W.takesIn K (.builtin "object.__class__") = some true) && decide (PySem.W.mroIn K (ga K x) (.type "object") = some true)))
  | .prop x f => eqO (PySem.W.findIn K (.ref (ga K x)) f) (some (some (.ref (ma K (ga K x) f)))) && (eqO (PySem.W.specialIn K (.ref (ma K (ga K x) f)) "__get__") (some (some (.builtin "property.__get__"))) &&
      (decide (PySem.W.takesIn K (.ref (ma K (ga K x) f)) = some true) && (match PySem.W.recIn K (ma K (ga K x) f) "property" with
        | some (.ref _ :: _) => true
        | _ => false)))
  | .cm x m => (match PySem.W.findCls K (.ref (ga K x)) (.type "type") m with
      | some (.get (.builtin b) (.ref p) .none (.ref c)) => decide (b = "classmethod.__get__") && (decide (p = ma K (ga K x) m) && decide (c = ga K x))
      | _ => false) && ((match PySem.W.recIn K (ma K (ga K x) m) "classmethod" with
        | some (.ref _ :: _) => true
        | _ => false) && PySem.W.fnIn K (pG K (ma K (ga K x) m) "classmethod"))
  | .rd x => PySem.W.readsIn K (ga K x) (.type "type") && eqO (PySem.W.specialIn K (.ref (ga K x)) "__getattribute__") (some (some (.builtin "type.__getattribute__")))
  | .spec x m => eqO (PySem.W.findIn K (.ref (ga K x)) m) (some (some (.ref (ma K (ga K x) m)))) && (PySem.W.isFn K (.ref (ma K (ga K x) m)) && PySem.W.fnIn K (ma K (ga K x) m))
  | .seq x => PySem.W.noSeq K (ga K x)
  | .kit x cs => decide (PySem.W.kitAny K (.ref (ga K x)) (cs.map fun c => .ref (ga K c)) = some true)
  | .same x y m => decide (ma K (ga K x) m = ma K (ga K y) m)
section
variable {K : Frg} {h : Heap} {mg : Str → Option Value}
theorem glo_okx (X : K.In h) (G : h.Ns mainGlobals mg) {x : Str} (c : (Fx.glo x).ok K = true) : mg x = some (.ref (ga K x)) := glo_ok X G c
theorem free_okx (X : K.In h) (G : h.Ns mainGlobals mg) {x : Str} (c : (Fx.free x).ok K = true) : mg x = none := free_ok X G c
theorem int_okx (X : K.In h) (G : h.Ns mainGlobals mg) {x : Str} {i : Int} (c : (Fx.int x i).ok K = true) : ∃ t, mg x = some (.int i t) := int_ok X G c
theorem str_okx (X : K.In h) (G : h.Ns mainGlobals mg) {x z : Str} (c : (Fx.str x z).ok K = true) : ∃ t, mg x = some (.str z t) := str_ok X G c
theorem cls_okx {x : Str} (c : (Fx.cls x).ok K = true) : Cls K (ga K x) := cls_ok c
theorem noat_okx {x f : Str} (c : (Fx.noat x f).ok K = true) : NoAttr K (ga K x) f := noat_ok c
theorem meth_okx {x m : Str} (c : (Fx.meth x m).ok K = true) : Meth K (ga K x) m (ma K (ga K x) m) := meth_ok c
theorem mkr_okx {x : Str} (c : (Fx.mkr x).ok K = true) : Mk K (ga K x) (ma K (ga K x) "__init__") := mkr_ok c
theorem con_okx {x f : Str} {v : Dv} (c : (Fx.con x f v).ok K = true) : ∃ u, Con K (ga K x) f (v.v K) u := by
  obtain ⟨c1, c2⟩ := ba c
  exact conB_ok c1 (by simpa using c2)
theorem inst_okx {x : Str} (c : (Fx.inst x).ok K = true) : InsF K (ga K x) := by
  obtain ⟨c1, c⟩ := ba c
  obtain ⟨c2, c⟩ := ba c
  obtain ⟨c3, c4⟩ := ba c
  exact ⟨eqO_ok c1, eqO_ok c2, of_decide_eq_true c3, of_decide_eq_true c4⟩
theorem rec_okx {p : Addr} {T : String} (c : (match PySem.W.recIn K p T with | some (.ref _ :: _) => true | _ => false) = true) : ∃ rest, PySem.W.recIn K p T = some (.ref (pG K p T) :: rest) := by
  unfold pG
  split at c
  · rename_i f r e
    exact ⟨r, by rw [e]⟩
  · cases c
theorem prop_okx {x f : Str} (c : (Fx.prop x f).ok K = true) : PropOf K (ga K x) f (ma K (ga K x) f) (pG K (ma K (ga K x) f) "property") := by
  obtain ⟨c1, c⟩ := ba c
  obtain ⟨c2, c⟩ := ba c
  obtain ⟨c3, c4⟩ := ba c
  exact ⟨eqO_ok c1, eqO_ok c2, of_decide_eq_true c3, rec_okx c4⟩
theorem cm_okx {x m : Str} (c : (Fx.cm x m).ok K = true) : ClX.CMet K (ga K x) (.type "type") m (ma K (ga K x) m) (pG K (ma K (ga K x) m) "classmethod") := by
  obtain ⟨c1, c⟩ := ba c
  obtain ⟨c2, c3⟩ := ba c
  refine ⟨?_, rec_okx c2, c3⟩
  split at c1
  · rename_i b p r e
    obtain ⟨e1, c1⟩ := ba c1
    obtain ⟨e2, e3⟩ := ba c1
    rw [e, of_decide_eq_true e1, of_decide_eq_true e2, of_decide_eq_true e3]
  · cases c1
theorem rd_okx {x : Str} (c : (Fx.rd x).ok K = true) : ClX.CRead K (ga K x) (.type "type") := by
  obtain ⟨c1, c2⟩ := ba c
  exact ⟨c1, eqO_ok c2⟩
theorem spec_okx {x m : Str} (c : (Fx.spec x m).ok K = true) : SpecF K (ga K x) m (ma K (ga K x) m) := by
  obtain ⟨c1, c⟩ := ba c
  obtain ⟨c2, c3⟩ := ba c
  exact ⟨eqO_ok c1, c2, c3⟩
theorem seq_okx {x : Str} (c : (Fx.seq x).ok K = true) : PySem.W.noSeq K (ga K x) = true := c
theorem kit_okx {x : Str} {cs : List Str} (c : (Fx.kit x cs).ok K = true) : PySem.W.kitAny K (.ref (ga K x)) (cs.map fun c => .ref (ga K c)) = some true := of_decide_eq_true c
theorem same_okx {x y m : Str} (c : (Fx.same x y m).ok K = true) : ma K (ga K x) m = ma K (ga K y) m := of_decide_eq_true c
end
/-! ### defs -/
structure DefX where
  loc : Frg → Addr
  name : Str
  qual : Str
  st : Stmt
  kwd : List (Str × Dv) := []
def fnWa (K : Frg) (a : Addr) : FnW := match K.lookup a with
  | some ⟨_, _, .func fd, _⟩ => some (fd.name, fd.qualname, fd.params, fd.body, fd.scope, fd.globals, fd.closure, fd.builtins)
  | _ => none
def DefX.val (d : DefX) : FnW := some (d.name, d.qual, defArgs d.st, .stmts (defBody d.st), defScope d.st, mainGlobals, [], builtinsNs)
def DefX.kws (K : Frg) (d : DefX) : List (Str × V) := d.kwd.map fun q => (q.1, q.2.v K)
def DefX.ok (K : Frg) (d : DefX) : Bool := PySem.W.keepIn K (.ref (d.loc K)) && (match K.lookup (d.loc K) with
  | some ⟨_, _, .func fd, _⟩ => PySem.W.codeIn K fd.code d.qual && (dflB K fd.defaults [] && kwdB K fd.kwdefaults (d.kws K))
  | _ => false)
abbrev FunX (K : Frg) (d : DefX) : Prop := ∃ fd, FunD K d.name d.qual (defArgs d.st) (defBody d.st) (defScope d.st) [] (d.kws K) (d.loc K) fd
theorem DefX.fun {K : Frg} {d : DefX} (e : fnWa K (d.loc K) = d.val) (c : d.ok K = true) : FunX K d := by
  obtain ⟨kp, c2⟩ := ba c
  unfold fnWa at e
  cases z : K.lookup (d.loc K) with
  | none =>
    rw [z] at c2
    cases c2
  | some o =>
    obtain ⟨oc, od, dt, osl⟩ := o
    rw [z] at c2 e
    cases dt with
    | func fd =>
      obtain ⟨n1, n2, n3, n4, n5, n6, n7, n8, n9, n10, n11, n12, n13, n14, n15⟩ := fd
      have e2 : (some (n1, n2, n3, n4, n5, n6, n7, n15) : FnW) = some (d.name, d.qual, defArgs d.st, .stmts (defBody d.st), defScope d.st, mainGlobals, [], builtinsNs) := e
      simp only [Option.some.injEq, Prod.mk.injEq] at e2
      obtain ⟨h1, h2, h3, h4, h5, h6, h7, h8⟩ := e2
      subst h1 h2 h3 h4 h5 h6 h7 h8
      have c3 : (PySem.W.codeIn K n13 d.qual && (dflB K n8 [] && kwdB K n9 (d.kws K))) = true := c2
      obtain ⟨k1, k2⟩ := ba c3
      obtain ⟨k3, k4⟩ := ba k2
      exact ⟨_, ⟨oc, od, n8, n9, n10, n11, n12, n13, n14, osl, rfl, z, k1, dflB_ok k3, kwdB_ok k4⟩, kp⟩
    | _ => cases c2
def fxs : List Fx := [.cls "Readings", .glo "Readings", .noat "Readings" "own_table", .noat "Readings" "own_answers", .noat "Readings" "read", .noat "Readings" "driven_at", .noat "Readings" "groups", .noat "Readings" "high", .noat "Readings" "own_idle", .noat "Readings" "lowered", .mkr "Readings", .inst "Readings", .cls "Board", .glo "Board", .noat "Board" "frame", .noat "Board" "own_blocks", .mkr "Board", .inst "Board", .cls "Driver", .glo "Driver", .noat "Driver" "name", .mkr "Driver", .inst "Driver", .cls "Listener", .glo "Listener", .noat "Listener" "name", .mkr "Listener", .inst "Listener", .cls "Frame", .glo "Frame", .noat "Frame" "top", .noat "Frame" "ground", .noat "Frame" "power", .noat "Frame" "own_legs", .mkr "Frame", .inst "Frame", .cls "Word", .glo "Word", .noat "Word" "frame", .noat "Word" "told", .mkr "Word", .inst "Word", .cls "Table", .glo "Table", .noat "Table" "frame", .noat "Table" "own_words", .mkr "Table", .inst "Table", .meth "Readings" "lifted_legs", .meth "Readings" "lost_words", .meth "Readings" "at_level", .meth "Readings" "need", .meth "Readings" "levels", .meth "Readings" "class_of", .meth "Readings" "marked", .meth "Readings" "makers", .meth "Readings" "is_cover", .meth "Board" "reads", .meth "Table" "answers_of", .meth "Table" "driven", .prop "Readings" "classes", .prop "Readings" "idle", .prop "Readings" "locked", .prop "Readings" "mute", .prop "Driver" "drives", .prop "Listener" "drives", .prop "Frame" "legs", .prop "Frame" "names", .prop "Frame" "drivers", .prop "Frame" "rails", .prop "Frame" "members", .cm "Board" "of", .rd "Board", .cm "Frame" "of", .rd "Frame", .cm "Word" "of", .rd "Word", .cm "Table" "of", .rd "Table", .spec "Table" "__len__", .spec "Frame" "__contains__", .spec "Board" "__getitem__", .spec "Word" "__getitem__", .spec "Board" "__call__", .spec "Frame" "__eq__", .seq "Board", .seq "Word", .glo "is_integer", .glo "is_between", .glo "is_name", .glo "has_names", .glo "check_answers", .glo "levels_read", .glo "lifted_at", .glo "has_both_rails", .glo "fault_of_boards", .glo "fault_of_frames", .glo "levels_of", .glo "is_word", .glo "_law_pen", .glo "_law_draw", .glo "_law_pick", .glo "_law_tags", .glo "_law_bare", .glo "_law_frame", .glo "_law_members", .glo "_law_levels", .glo "_law_parted", .glo "_law_readings", .glo "_law_sorts", .glo "_law_mixed", .glo "_law_order_right", .glo "_law_is_finer", .glo "_law_less_right", .glo "_law_renamed", .glo "_law_names_right", .glo "law", .free "isinstance", .free "len", .free "all", .free "any", .free "set", .free "sorted", .free "tuple", .free "list", .free "dict", .free "int", .free "min", .free "range", .free "enumerate", .free "repr", .free "abs", .free "str", .free "bool", .str "LETTERS" "abcdefghijklmnopqrstuvwxyz", .str "GROUND" "ground", .str "POWER" "power", .str "NOTHING" "nothing", .int "MOST_LETTERS" 8, .int "MOST_TOP" 3, .con "Driver" "KIND" (.str "driver"), .con "Listener" "KIND" (.str "listener"), .con "Frame" "MOST" (.int 40), .con "Table" "MOST" (.int 60), .kit "Driver" ["Driver", "Listener"], .kit "Listener" ["Driver", "Listener"], .kit "Frame" ["Frame"], .kit "Word" ["Word"], .same "Listener" "Driver" "__init__", .same "Listener" "Driver" "drives"]
def d_is_integer : DefX := ⟨fun K => ga K "is_integer", "is_integer", "is_integer", s_is_integer, []⟩
def d_is_between : DefX := ⟨fun K => ga K "is_between", "is_between", "is_between", s_is_between, []⟩
def d_is_name : DefX := ⟨fun K => ga K "is_name", "is_name", "is_name", s_is_name, []⟩
def d_has_names : DefX := ⟨fun K => ga K "has_names", "has_names", "has_names", s_has_names, []⟩
def d_check_answers : DefX := ⟨fun K => ga K "check_answers", "check_answers", "check_answers", s_check_answers, []⟩
def d_levels_read : DefX := ⟨fun K => ga K "levels_read", "levels_read", "levels_read", s_levels_read, []⟩
def d_lifted_at : DefX := ⟨fun K => ga K "lifted_at", "lifted_at", "lifted_at", s_lifted_at, []⟩
def d_Readings_init : DefX := ⟨fun K => ma K (ga K "Readings") "__init__", "__init__", "Readings.__init__", s_Readings_init, []⟩
def d_Readings_lifted_legs : DefX := ⟨fun K => ma K (ga K "Readings") "lifted_legs", "lifted_legs", "Readings.lifted_legs", s_Readings_lifted_legs, []⟩
def d_Readings_lost_words : DefX := ⟨fun K => ma K (ga K "Readings") "lost_words", "lost_words", "Readings.lost_words", s_Readings_lost_words, []⟩
def d_Readings_at_level : DefX := ⟨fun K => ma K (ga K "Readings") "at_level", "at_level", "Readings.at_level", s_Readings_at_level, []⟩
def d_Readings_need : DefX := ⟨fun K => ma K (ga K "Readings") "need", "need", "Readings.need", s_Readings_need, []⟩
def d_Readings_classes : DefX := ⟨fun K => pG K (ma K (ga K "Readings") "classes") "property", "classes", "Readings.classes", s_Readings_classes, []⟩
def d_Readings_idle : DefX := ⟨fun K => pG K (ma K (ga K "Readings") "idle") "property", "idle", "Readings.idle", s_Readings_idle, []⟩
def d_Readings_locked : DefX := ⟨fun K => pG K (ma K (ga K "Readings") "locked") "property", "locked", "Readings.locked", s_Readings_locked, []⟩
def d_Readings_mute : DefX := ⟨fun K => pG K (ma K (ga K "Readings") "mute") "property", "mute", "Readings.mute", s_Readings_mute, []⟩
def d_Readings_levels : DefX := ⟨fun K => ma K (ga K "Readings") "levels", "levels", "Readings.levels", s_Readings_levels, []⟩
def d_Readings_class_of : DefX := ⟨fun K => ma K (ga K "Readings") "class_of", "class_of", "Readings.class_of", s_Readings_class_of, []⟩
def d_Readings_marked : DefX := ⟨fun K => ma K (ga K "Readings") "marked", "marked", "Readings.marked", s_Readings_marked, []⟩
def d_Readings_makers : DefX := ⟨fun K => ma K (ga K "Readings") "makers", "makers", "Readings.makers", s_Readings_makers, []⟩
def d_Readings_is_cover : DefX := ⟨fun K => ma K (ga K "Readings") "is_cover", "is_cover", "Readings.is_cover", s_Readings_is_cover, []⟩
def d_has_both_rails : DefX := ⟨fun K => ga K "has_both_rails", "has_both_rails", "has_both_rails", s_has_both_rails, []⟩
def d_fault_of_boards : DefX := ⟨fun K => ga K "fault_of_boards", "fault_of", "fault_of", s_fault_of_boards, []⟩
def d_Board_init : DefX := ⟨fun K => ma K (ga K "Board") "__init__", "__init__", "Board.__init__", s_Board_init, []⟩
def d_Board_of : DefX := ⟨fun K => pG K (ma K (ga K "Board") "of") "classmethod", "of", "Board.of", s_Board_of, []⟩
def d_Board_reads : DefX := ⟨fun K => ma K (ga K "Board") "reads", "reads", "Board.reads", s_Board_reads, []⟩
def d_Board_call : DefX := ⟨fun K => ma K (ga K "Board") "__call__", "__call__", "Board.__call__", s_Board_call, []⟩
def d_Board_getitem : DefX := ⟨fun K => ma K (ga K "Board") "__getitem__", "__getitem__", "Board.__getitem__", s_Board_getitem, []⟩
def d_Leg_init : DefX := ⟨fun K => ma K (ga K "Driver") "__init__", "__init__", "Leg.__init__", s_Leg_init, []⟩
def d_Leg_drives : DefX := ⟨fun K => pG K (ma K (ga K "Driver") "drives") "property", "drives", "Leg.drives", s_Leg_drives, []⟩
def d_fault_of_frames : DefX := ⟨fun K => ga K "fault_of_frames", "fault_of", "fault_of", s_fault_of_frames, []⟩
def d_Frame_init : DefX := ⟨fun K => ma K (ga K "Frame") "__init__", "__init__", "Frame.__init__", s_Frame_init, [("top", .int 1), ("ground", .bl false), ("power", .bl false)]⟩
def d_Frame_of : DefX := ⟨fun K => pG K (ma K (ga K "Frame") "of") "classmethod", "of", "Frame.of", s_Frame_of, [("top", .int 1), ("ground", .bl false), ("power", .bl false)]⟩
def d_Frame_legs : DefX := ⟨fun K => pG K (ma K (ga K "Frame") "legs") "property", "legs", "Frame.legs", s_Frame_legs, []⟩
def d_Frame_names : DefX := ⟨fun K => pG K (ma K (ga K "Frame") "names") "property", "names", "Frame.names", s_Frame_names, []⟩
def d_Frame_drivers : DefX := ⟨fun K => pG K (ma K (ga K "Frame") "drivers") "property", "drivers", "Frame.drivers", s_Frame_drivers, []⟩
def d_Frame_rails : DefX := ⟨fun K => pG K (ma K (ga K "Frame") "rails") "property", "rails", "Frame.rails", s_Frame_rails, []⟩
def d_Frame_members : DefX := ⟨fun K => pG K (ma K (ga K "Frame") "members") "property", "members", "Frame.members", s_Frame_members, []⟩
def d_Frame_contains : DefX := ⟨fun K => ma K (ga K "Frame") "__contains__", "__contains__", "Frame.__contains__", s_Frame_contains, []⟩
def d_Frame_eq : DefX := ⟨fun K => ma K (ga K "Frame") "__eq__", "__eq__", "Frame.__eq__", s_Frame_eq, []⟩
def d_levels_of : DefX := ⟨fun K => ga K "levels_of", "levels_of", "levels_of", s_levels_of, []⟩
def d_Word_init : DefX := ⟨fun K => ma K (ga K "Word") "__init__", "__init__", "Word.__init__", s_Word_init, []⟩
def d_Word_of : DefX := ⟨fun K => pG K (ma K (ga K "Word") "of") "classmethod", "of", "Word.of", s_Word_of, []⟩
def d_Word_getitem : DefX := ⟨fun K => ma K (ga K "Word") "__getitem__", "__getitem__", "Word.__getitem__", s_Word_getitem, []⟩
def d_is_word : DefX := ⟨fun K => ga K "is_word", "is_word", "is_word", s_is_word, []⟩
def d_Table_init : DefX := ⟨fun K => ma K (ga K "Table") "__init__", "__init__", "Table.__init__", s_Table_init, []⟩
def d_Table_of : DefX := ⟨fun K => pG K (ma K (ga K "Table") "of") "classmethod", "of", "Table.of", s_Table_of, []⟩
def d_Table_answers_of : DefX := ⟨fun K => ma K (ga K "Table") "answers_of", "answers_of", "Table.answers_of", s_Table_answers_of, []⟩
def d_Table_driven : DefX := ⟨fun K => ma K (ga K "Table") "driven", "driven", "Table.driven", s_Table_driven, []⟩
def d_Table_len : DefX := ⟨fun K => ma K (ga K "Table") "__len__", "__len__", "Table.__len__", s_Table_len, []⟩
def d_law_pen : DefX := ⟨fun K => ga K "_law_pen", "_law_pen", "_law_pen", s_law_pen, []⟩
def d_law_draw : DefX := ⟨fun K => ga K "_law_draw", "_law_draw", "_law_draw", s_law_draw, []⟩
def d_law_pick : DefX := ⟨fun K => ga K "_law_pick", "_law_pick", "_law_pick", s_law_pick, []⟩
def d_law_tags : DefX := ⟨fun K => ga K "_law_tags", "_law_tags", "_law_tags", s_law_tags, []⟩
def d_law_bare : DefX := ⟨fun K => ga K "_law_bare", "_law_bare", "_law_bare", s_law_bare, []⟩
def d_law_frame : DefX := ⟨fun K => ga K "_law_frame", "_law_frame", "_law_frame", s_law_frame, []⟩
def d_law_members : DefX := ⟨fun K => ga K "_law_members", "_law_members", "_law_members", s_law_members, []⟩
def d_law_levels : DefX := ⟨fun K => ga K "_law_levels", "_law_levels", "_law_levels", s_law_levels, []⟩
def d_law_parted : DefX := ⟨fun K => ga K "_law_parted", "_law_parted", "_law_parted", s_law_parted, []⟩
def d_law_readings : DefX := ⟨fun K => ga K "_law_readings", "_law_readings", "_law_readings", s_law_readings, []⟩
def d_law_sorts : DefX := ⟨fun K => ga K "_law_sorts", "_law_sorts", "_law_sorts", s_law_sorts, []⟩
def d_law_mixed : DefX := ⟨fun K => ga K "_law_mixed", "_law_mixed", "_law_mixed", s_law_mixed, []⟩
def d_law_order_right : DefX := ⟨fun K => ga K "_law_order_right", "_law_order_right", "_law_order_right", s_law_order_right, []⟩
def d_law_is_finer : DefX := ⟨fun K => ga K "_law_is_finer", "_law_is_finer", "_law_is_finer", s_law_is_finer, []⟩
def d_law_less_right : DefX := ⟨fun K => ga K "_law_less_right", "_law_less_right", "_law_less_right", s_law_less_right, []⟩
def d_law_renamed : DefX := ⟨fun K => ga K "_law_renamed", "_law_renamed", "_law_renamed", s_law_renamed, []⟩
def d_law_names_right : DefX := ⟨fun K => ga K "_law_names_right", "_law_names_right", "_law_names_right", s_law_names_right, []⟩
def d_law : DefX := ⟨fun K => ga K "law", "law", "law", s_law, []⟩
def dxs : List DefX := [d_is_integer, d_is_between, d_is_name, d_has_names, d_check_answers, d_levels_read, d_lifted_at, d_Readings_init, d_Readings_lifted_legs, d_Readings_lost_words, d_Readings_at_level, d_Readings_need, d_Readings_classes, d_Readings_idle, d_Readings_locked, d_Readings_mute, d_Readings_levels, d_Readings_class_of, d_Readings_marked, d_Readings_makers, d_Readings_is_cover, d_has_both_rails, d_fault_of_boards, d_Board_init, d_Board_of, d_Board_reads, d_Board_call, d_Board_getitem, d_Leg_init, d_Leg_drives, d_fault_of_frames, d_Frame_init, d_Frame_of, d_Frame_legs, d_Frame_names, d_Frame_drivers, d_Frame_rails, d_Frame_members, d_Frame_contains, d_Frame_eq, d_levels_of, d_Word_init, d_Word_of, d_Word_getitem, d_is_word, d_Table_init, d_Table_of, d_Table_answers_of, d_Table_driven, d_Table_len, d_law_pen, d_law_draw, d_law_pick, d_law_tags, d_law_bare, d_law_frame, d_law_members, d_law_levels, d_law_parted, d_law_readings, d_law_sorts, d_law_mixed, d_law_order_right, d_law_is_finer, d_law_less_right, d_law_renamed, d_law_names_right, d_law]
/-! ### the hook -/
def obsX (K : Frg) : Bool × List FnW := ((fxs.all fun f => f.ok K) && dxs.all fun d => d.ok K, dxs.map fun d => fnWa K (d.loc K))
def valX : Bool × List FnW := (true, dxs.map DefX.val)
def SaysX (K : Frg) : Prop := obsX K = valX
/-- a def's code, as it names it -/
def codeV (K : Frg) (a : Addr) : Value := match K.lookup a with
  | some ⟨_, _, .func fd, _⟩ => fd.code
  | _ => .none
/-- the code object of the def that makes a lambda, its table -/
def cF (K : Frg) : Addr := match codeV K (d_Frame_init.loc K) with
  | .ref c => c
  | _ => 0
def tF (K : Frg) : Addr := tabOf K (cF K)
def tabF (g : Addr → Option Obj) (K : Frg) : Bool := PySem.W.codeHdIn K (cF K) (tF K) && (match g (tF K) with
  | some o => emptyTab o
  | none => false)
structure HdX (K : Frg) (h : Heap) : Prop where
  hd : PySem.W.codeHdIn K (cF K) (tF K) = true
  out : K.lookup (tF K) = none
  empty : h.get? (tF K) = some { cls := .none, data := .fields #[] }
/-- the addresses that are looked at: the module's names, the statics, the classes, their namespaces, the defs and their code (found once by a run; the kernel's run checks what stands there) -/
def adX : List Addr := [3, 2, 380, 520, 721, 829, 930, 584, 596, 570, 379, 519, 720, 828, 929, 583, 595, 569, 319, 327, 333, 339, 546, 635, 643, 649, 663, 671, 422, 626, 753, 861, 223, 230, 235, 240, 247, 252, 259, 271, 278, 285, 290, 297, 318, 326, 332, 338, 346, 353, 358, 365, 370, 391, 396, 413, 420, 441, 465, 472, 538, 545, 603, 616, 624, 634, 642, 648, 662, 670, 678, 706, 730, 744, 751, 788, 840, 852, 859, 880, 885, 899, 941, 948, 955, 960, 967, 972, 979, 986, 993, 1008, 1015, 1020, 1025, 1030, 1035, 1042, 1047, 1052, 222, 229, 234, 239, 246, 251, 258, 270, 277, 284, 289, 296, 317, 325, 331, 337, 345, 352, 357, 364, 369, 390, 395, 412, 419, 440, 464, 471, 537, 544, 602, 615, 623, 633, 641, 647, 661, 669, 677, 705, 729, 743, 750, 787, 839, 851, 858, 879, 884, 898, 940, 947, 954, 959, 966, 971, 978, 985, 992, 1007, 1014, 1019, 1024, 1029, 1034, 1041, 1046, 1051, 611, 617]
abbrev ObX : Type := (Bool × List FnW) × Bool
def obsXG (g : Addr → Option Obj) : ObX := (obsX (frT g adX), tabF g (frT g adX))
theorem hdX_of {h : Heap} (e : tabF h.get? (frT h.get? adX) = true) : HdX (frT h.get? adX) h := by
  obtain ⟨h1, h2⟩ := ba e
  cases q : h.get? (tF (frT h.get? adX)) with
  | none =>
    rw [q] at h2
    cases h2
  | some o =>
    rw [q] at h2
    exact ⟨h1, frT_none q h2, by rw [q, emptyTab_eq h2]⟩
def hookX : PySem.W.Hook where
  α := ObX
  obs := fun s => obsXG s.heap.get?
  val := fun _ => (valX, true)
  says := fun _ h => ∃ K : Frg, K.In h ∧ SaysX K ∧ HdX K h
  of := fun _ _ e => ⟨_, frT_in, congrArg (fun z : ObX => z.1) e, hdX_of (congrArg (fun z : ObX => z.2) e)⟩
  keeps := fun _ _ _ ⟨K, hK, c, d⟩ k => ⟨K, PySem.W.Frag.In.keeps hK k, c, d.hd, d.out, k _ _ d.empty⟩
theorem obsXG_eq {g : Addr → Option Obj} {s : Shared} (h : ∀ a, g a = s.heap.get? a) : obsXG g = hookX.obs s := by
  have e : g = s.heap.get? := funext h
  rw [e]
  rfl
/-- the bundle: what the top has left, as the walk asks it -/
structure Txt (K : Frg) (mg : Str → Option Value) (h : Heap) : Prop where
  X : K.In h
  G : h.Ns mainGlobals mg
  says : SaysX K
section
variable {K : Frg} {mg : Str → Option Value} {h : Heap}
theorem Txt.f (T : Txt K mg h) (i : Nat) {f : Fx} (e : fxs[i]? = some f := by rfl) : f.ok K = true :=
  List.all_eq_true.mp (ba (show ((fxs.all fun f => f.ok K) && dxs.all fun d => d.ok K) = true from congrArg (fun z : Bool × List FnW => z.1) T.says)).1 f (List.mem_of_getElem? e)
theorem Txt.d (T : Txt K mg h) (i : Nat) {d : DefX} (e : dxs[i]? = some d := by rfl) : FunX K d := by
  have c2 := (ba (show ((fxs.all fun f => f.ok K) && dxs.all fun d => d.ok K) = true from congrArg (fun z : Bool × List FnW => z.1) T.says)).2
  have e1 : dxs.map (fun d => fnWa K (d.loc K)) = dxs.map DefX.val := congrArg (fun z : Bool × List FnW => z.2) T.says
  have e2 : (dxs.map fun d => fnWa K (d.loc K))[i]? = (dxs.map DefX.val)[i]? := by rw [e1]
  rw [List.getElem?_map, List.getElem?_map, e] at e2
  exact DefX.fun (Option.some.inj e2) (List.all_eq_true.mp c2 d (List.mem_of_getElem? e))
theorem Txt.kReadings (T : Txt K mg h) : Cls K (ga K "Readings") := cls_okx (T.f 0)
theorem Txt.gReadings (T : Txt K mg h) : mg "Readings" = some (.ref (ga K "Readings")) := glo_okx T.X T.G (T.f 1)
theorem Txt.nReadings_own_table (T : Txt K mg h) : NoAttr K (ga K "Readings") "own_table" := noat_okx (T.f 2)
theorem Txt.nReadings_own_answers (T : Txt K mg h) : NoAttr K (ga K "Readings") "own_answers" := noat_okx (T.f 3)
theorem Txt.nReadings_read (T : Txt K mg h) : NoAttr K (ga K "Readings") "read" := noat_okx (T.f 4)
theorem Txt.nReadings_driven_at (T : Txt K mg h) : NoAttr K (ga K "Readings") "driven_at" := noat_okx (T.f 5)
theorem Txt.nReadings_groups (T : Txt K mg h) : NoAttr K (ga K "Readings") "groups" := noat_okx (T.f 6)
theorem Txt.nReadings_high (T : Txt K mg h) : NoAttr K (ga K "Readings") "high" := noat_okx (T.f 7)
theorem Txt.nReadings_own_idle (T : Txt K mg h) : NoAttr K (ga K "Readings") "own_idle" := noat_okx (T.f 8)
theorem Txt.nReadings_lowered (T : Txt K mg h) : NoAttr K (ga K "Readings") "lowered" := noat_okx (T.f 9)
theorem Txt.mkReadings (T : Txt K mg h) : Mk K (ga K "Readings") (ma K (ga K "Readings") "__init__") := mkr_okx (T.f 10)
theorem Txt.iReadings (T : Txt K mg h) : InsF K (ga K "Readings") := inst_okx (T.f 11)
theorem Txt.kBoard (T : Txt K mg h) : Cls K (ga K "Board") := cls_okx (T.f 12)
theorem Txt.gBoard (T : Txt K mg h) : mg "Board" = some (.ref (ga K "Board")) := glo_okx T.X T.G (T.f 13)
theorem Txt.nBoard_frame (T : Txt K mg h) : NoAttr K (ga K "Board") "frame" := noat_okx (T.f 14)
theorem Txt.nBoard_own_blocks (T : Txt K mg h) : NoAttr K (ga K "Board") "own_blocks" := noat_okx (T.f 15)
theorem Txt.mkBoard (T : Txt K mg h) : Mk K (ga K "Board") (ma K (ga K "Board") "__init__") := mkr_okx (T.f 16)
theorem Txt.iBoard (T : Txt K mg h) : InsF K (ga K "Board") := inst_okx (T.f 17)
theorem Txt.kDriver (T : Txt K mg h) : Cls K (ga K "Driver") := cls_okx (T.f 18)
theorem Txt.gDriver (T : Txt K mg h) : mg "Driver" = some (.ref (ga K "Driver")) := glo_okx T.X T.G (T.f 19)
theorem Txt.nDriver_name (T : Txt K mg h) : NoAttr K (ga K "Driver") "name" := noat_okx (T.f 20)
theorem Txt.mkDriver (T : Txt K mg h) : Mk K (ga K "Driver") (ma K (ga K "Driver") "__init__") := mkr_okx (T.f 21)
theorem Txt.iDriver (T : Txt K mg h) : InsF K (ga K "Driver") := inst_okx (T.f 22)
theorem Txt.kListener (T : Txt K mg h) : Cls K (ga K "Listener") := cls_okx (T.f 23)
theorem Txt.gListener (T : Txt K mg h) : mg "Listener" = some (.ref (ga K "Listener")) := glo_okx T.X T.G (T.f 24)
theorem Txt.nListener_name (T : Txt K mg h) : NoAttr K (ga K "Listener") "name" := noat_okx (T.f 25)
theorem Txt.mkListener (T : Txt K mg h) : Mk K (ga K "Listener") (ma K (ga K "Listener") "__init__") := mkr_okx (T.f 26)
theorem Txt.iListener (T : Txt K mg h) : InsF K (ga K "Listener") := inst_okx (T.f 27)
theorem Txt.kFrame (T : Txt K mg h) : Cls K (ga K "Frame") := cls_okx (T.f 28)
theorem Txt.gFrame (T : Txt K mg h) : mg "Frame" = some (.ref (ga K "Frame")) := glo_okx T.X T.G (T.f 29)
theorem Txt.nFrame_top (T : Txt K mg h) : NoAttr K (ga K "Frame") "top" := noat_okx (T.f 30)
theorem Txt.nFrame_ground (T : Txt K mg h) : NoAttr K (ga K "Frame") "ground" := noat_okx (T.f 31)
theorem Txt.nFrame_power (T : Txt K mg h) : NoAttr K (ga K "Frame") "power" := noat_okx (T.f 32)
theorem Txt.nFrame_own_legs (T : Txt K mg h) : NoAttr K (ga K "Frame") "own_legs" := noat_okx (T.f 33)
theorem Txt.mkFrame (T : Txt K mg h) : Mk K (ga K "Frame") (ma K (ga K "Frame") "__init__") := mkr_okx (T.f 34)
theorem Txt.iFrame (T : Txt K mg h) : InsF K (ga K "Frame") := inst_okx (T.f 35)
theorem Txt.kWord (T : Txt K mg h) : Cls K (ga K "Word") := cls_okx (T.f 36)
theorem Txt.gWord (T : Txt K mg h) : mg "Word" = some (.ref (ga K "Word")) := glo_okx T.X T.G (T.f 37)
theorem Txt.nWord_frame (T : Txt K mg h) : NoAttr K (ga K "Word") "frame" := noat_okx (T.f 38)
theorem Txt.nWord_told (T : Txt K mg h) : NoAttr K (ga K "Word") "told" := noat_okx (T.f 39)
theorem Txt.mkWord (T : Txt K mg h) : Mk K (ga K "Word") (ma K (ga K "Word") "__init__") := mkr_okx (T.f 40)
theorem Txt.iWord (T : Txt K mg h) : InsF K (ga K "Word") := inst_okx (T.f 41)
theorem Txt.kTable (T : Txt K mg h) : Cls K (ga K "Table") := cls_okx (T.f 42)
theorem Txt.gTable (T : Txt K mg h) : mg "Table" = some (.ref (ga K "Table")) := glo_okx T.X T.G (T.f 43)
theorem Txt.nTable_frame (T : Txt K mg h) : NoAttr K (ga K "Table") "frame" := noat_okx (T.f 44)
theorem Txt.nTable_own_words (T : Txt K mg h) : NoAttr K (ga K "Table") "own_words" := noat_okx (T.f 45)
theorem Txt.mkTable (T : Txt K mg h) : Mk K (ga K "Table") (ma K (ga K "Table") "__init__") := mkr_okx (T.f 46)
theorem Txt.iTable (T : Txt K mg h) : InsF K (ga K "Table") := inst_okx (T.f 47)
theorem Txt.mReadings_lifted_legs (T : Txt K mg h) : Meth K (ga K "Readings") "lifted_legs" (ma K (ga K "Readings") "lifted_legs") := meth_okx (T.f 48)
theorem Txt.mReadings_lost_words (T : Txt K mg h) : Meth K (ga K "Readings") "lost_words" (ma K (ga K "Readings") "lost_words") := meth_okx (T.f 49)
theorem Txt.mReadings_at_level (T : Txt K mg h) : Meth K (ga K "Readings") "at_level" (ma K (ga K "Readings") "at_level") := meth_okx (T.f 50)
theorem Txt.mReadings_need (T : Txt K mg h) : Meth K (ga K "Readings") "need" (ma K (ga K "Readings") "need") := meth_okx (T.f 51)
theorem Txt.mReadings_levels (T : Txt K mg h) : Meth K (ga K "Readings") "levels" (ma K (ga K "Readings") "levels") := meth_okx (T.f 52)
theorem Txt.mReadings_class_of (T : Txt K mg h) : Meth K (ga K "Readings") "class_of" (ma K (ga K "Readings") "class_of") := meth_okx (T.f 53)
theorem Txt.mReadings_marked (T : Txt K mg h) : Meth K (ga K "Readings") "marked" (ma K (ga K "Readings") "marked") := meth_okx (T.f 54)
theorem Txt.mReadings_makers (T : Txt K mg h) : Meth K (ga K "Readings") "makers" (ma K (ga K "Readings") "makers") := meth_okx (T.f 55)
theorem Txt.mReadings_is_cover (T : Txt K mg h) : Meth K (ga K "Readings") "is_cover" (ma K (ga K "Readings") "is_cover") := meth_okx (T.f 56)
theorem Txt.mBoard_reads (T : Txt K mg h) : Meth K (ga K "Board") "reads" (ma K (ga K "Board") "reads") := meth_okx (T.f 57)
theorem Txt.mTable_answers_of (T : Txt K mg h) : Meth K (ga K "Table") "answers_of" (ma K (ga K "Table") "answers_of") := meth_okx (T.f 58)
theorem Txt.mTable_driven (T : Txt K mg h) : Meth K (ga K "Table") "driven" (ma K (ga K "Table") "driven") := meth_okx (T.f 59)
theorem Txt.pReadings_classes (T : Txt K mg h) : PropOf K (ga K "Readings") "classes" (ma K (ga K "Readings") "classes") (pG K (ma K (ga K "Readings") "classes") "property") := prop_okx (T.f 60)
theorem Txt.pReadings_idle (T : Txt K mg h) : PropOf K (ga K "Readings") "idle" (ma K (ga K "Readings") "idle") (pG K (ma K (ga K "Readings") "idle") "property") := prop_okx (T.f 61)
theorem Txt.pReadings_locked (T : Txt K mg h) : PropOf K (ga K "Readings") "locked" (ma K (ga K "Readings") "locked") (pG K (ma K (ga K "Readings") "locked") "property") := prop_okx (T.f 62)
theorem Txt.pReadings_mute (T : Txt K mg h) : PropOf K (ga K "Readings") "mute" (ma K (ga K "Readings") "mute") (pG K (ma K (ga K "Readings") "mute") "property") := prop_okx (T.f 63)
theorem Txt.pDriver_drives (T : Txt K mg h) : PropOf K (ga K "Driver") "drives" (ma K (ga K "Driver") "drives") (pG K (ma K (ga K "Driver") "drives") "property") := prop_okx (T.f 64)
theorem Txt.pListener_drives (T : Txt K mg h) : PropOf K (ga K "Listener") "drives" (ma K (ga K "Listener") "drives") (pG K (ma K (ga K "Listener") "drives") "property") := prop_okx (T.f 65)
theorem Txt.pFrame_legs (T : Txt K mg h) : PropOf K (ga K "Frame") "legs" (ma K (ga K "Frame") "legs") (pG K (ma K (ga K "Frame") "legs") "property") := prop_okx (T.f 66)
theorem Txt.pFrame_names (T : Txt K mg h) : PropOf K (ga K "Frame") "names" (ma K (ga K "Frame") "names") (pG K (ma K (ga K "Frame") "names") "property") := prop_okx (T.f 67)
theorem Txt.pFrame_drivers (T : Txt K mg h) : PropOf K (ga K "Frame") "drivers" (ma K (ga K "Frame") "drivers") (pG K (ma K (ga K "Frame") "drivers") "property") := prop_okx (T.f 68)
theorem Txt.pFrame_rails (T : Txt K mg h) : PropOf K (ga K "Frame") "rails" (ma K (ga K "Frame") "rails") (pG K (ma K (ga K "Frame") "rails") "property") := prop_okx (T.f 69)
theorem Txt.pFrame_members (T : Txt K mg h) : PropOf K (ga K "Frame") "members" (ma K (ga K "Frame") "members") (pG K (ma K (ga K "Frame") "members") "property") := prop_okx (T.f 70)
theorem Txt.cBoard_of (T : Txt K mg h) : ClX.CMet K (ga K "Board") (.type "type") "of" (ma K (ga K "Board") "of") (pG K (ma K (ga K "Board") "of") "classmethod") := cm_okx (T.f 71)
theorem Txt.rBoard (T : Txt K mg h) : ClX.CRead K (ga K "Board") (.type "type") := rd_okx (T.f 72)
theorem Txt.cFrame_of (T : Txt K mg h) : ClX.CMet K (ga K "Frame") (.type "type") "of" (ma K (ga K "Frame") "of") (pG K (ma K (ga K "Frame") "of") "classmethod") := cm_okx (T.f 73)
theorem Txt.rFrame (T : Txt K mg h) : ClX.CRead K (ga K "Frame") (.type "type") := rd_okx (T.f 74)
theorem Txt.cWord_of (T : Txt K mg h) : ClX.CMet K (ga K "Word") (.type "type") "of" (ma K (ga K "Word") "of") (pG K (ma K (ga K "Word") "of") "classmethod") := cm_okx (T.f 75)
theorem Txt.rWord (T : Txt K mg h) : ClX.CRead K (ga K "Word") (.type "type") := rd_okx (T.f 76)
theorem Txt.cTable_of (T : Txt K mg h) : ClX.CMet K (ga K "Table") (.type "type") "of" (ma K (ga K "Table") "of") (pG K (ma K (ga K "Table") "of") "classmethod") := cm_okx (T.f 77)
theorem Txt.rTable (T : Txt K mg h) : ClX.CRead K (ga K "Table") (.type "type") := rd_okx (T.f 78)
theorem Txt.sTable_len (T : Txt K mg h) : SpecF K (ga K "Table") "__len__" (ma K (ga K "Table") "__len__") := spec_okx (T.f 79)
theorem Txt.sFrame_contains (T : Txt K mg h) : SpecF K (ga K "Frame") "__contains__" (ma K (ga K "Frame") "__contains__") := spec_okx (T.f 80)
theorem Txt.sBoard_getitem (T : Txt K mg h) : SpecF K (ga K "Board") "__getitem__" (ma K (ga K "Board") "__getitem__") := spec_okx (T.f 81)
theorem Txt.sWord_getitem (T : Txt K mg h) : SpecF K (ga K "Word") "__getitem__" (ma K (ga K "Word") "__getitem__") := spec_okx (T.f 82)
theorem Txt.sBoard_call (T : Txt K mg h) : SpecF K (ga K "Board") "__call__" (ma K (ga K "Board") "__call__") := spec_okx (T.f 83)
theorem Txt.sFrame_eq (T : Txt K mg h) : SpecF K (ga K "Frame") "__eq__" (ma K (ga K "Frame") "__eq__") := spec_okx (T.f 84)
theorem Txt.qBoard (T : Txt K mg h) : PySem.W.noSeq K (ga K "Board") = true := seq_okx (T.f 85)
theorem Txt.qWord (T : Txt K mg h) : PySem.W.noSeq K (ga K "Word") = true := seq_okx (T.f 86)
theorem Txt.g_is_integer (T : Txt K mg h) : mg "is_integer" = some (.ref (ga K "is_integer")) := glo_okx T.X T.G (T.f 87)
theorem Txt.g_is_between (T : Txt K mg h) : mg "is_between" = some (.ref (ga K "is_between")) := glo_okx T.X T.G (T.f 88)
theorem Txt.g_is_name (T : Txt K mg h) : mg "is_name" = some (.ref (ga K "is_name")) := glo_okx T.X T.G (T.f 89)
theorem Txt.g_has_names (T : Txt K mg h) : mg "has_names" = some (.ref (ga K "has_names")) := glo_okx T.X T.G (T.f 90)
theorem Txt.g_check_answers (T : Txt K mg h) : mg "check_answers" = some (.ref (ga K "check_answers")) := glo_okx T.X T.G (T.f 91)
theorem Txt.g_levels_read (T : Txt K mg h) : mg "levels_read" = some (.ref (ga K "levels_read")) := glo_okx T.X T.G (T.f 92)
theorem Txt.g_lifted_at (T : Txt K mg h) : mg "lifted_at" = some (.ref (ga K "lifted_at")) := glo_okx T.X T.G (T.f 93)
theorem Txt.g_has_both_rails (T : Txt K mg h) : mg "has_both_rails" = some (.ref (ga K "has_both_rails")) := glo_okx T.X T.G (T.f 94)
theorem Txt.g_fault_of_boards (T : Txt K mg h) : mg "fault_of_boards" = some (.ref (ga K "fault_of_boards")) := glo_okx T.X T.G (T.f 95)
theorem Txt.g_fault_of_frames (T : Txt K mg h) : mg "fault_of_frames" = some (.ref (ga K "fault_of_frames")) := glo_okx T.X T.G (T.f 96)
theorem Txt.g_levels_of (T : Txt K mg h) : mg "levels_of" = some (.ref (ga K "levels_of")) := glo_okx T.X T.G (T.f 97)
theorem Txt.g_is_word (T : Txt K mg h) : mg "is_word" = some (.ref (ga K "is_word")) := glo_okx T.X T.G (T.f 98)
theorem Txt.g_law_pen (T : Txt K mg h) : mg "_law_pen" = some (.ref (ga K "_law_pen")) := glo_okx T.X T.G (T.f 99)
theorem Txt.g_law_draw (T : Txt K mg h) : mg "_law_draw" = some (.ref (ga K "_law_draw")) := glo_okx T.X T.G (T.f 100)
theorem Txt.g_law_pick (T : Txt K mg h) : mg "_law_pick" = some (.ref (ga K "_law_pick")) := glo_okx T.X T.G (T.f 101)
theorem Txt.g_law_tags (T : Txt K mg h) : mg "_law_tags" = some (.ref (ga K "_law_tags")) := glo_okx T.X T.G (T.f 102)
theorem Txt.g_law_bare (T : Txt K mg h) : mg "_law_bare" = some (.ref (ga K "_law_bare")) := glo_okx T.X T.G (T.f 103)
theorem Txt.g_law_frame (T : Txt K mg h) : mg "_law_frame" = some (.ref (ga K "_law_frame")) := glo_okx T.X T.G (T.f 104)
theorem Txt.g_law_members (T : Txt K mg h) : mg "_law_members" = some (.ref (ga K "_law_members")) := glo_okx T.X T.G (T.f 105)
theorem Txt.g_law_levels (T : Txt K mg h) : mg "_law_levels" = some (.ref (ga K "_law_levels")) := glo_okx T.X T.G (T.f 106)
theorem Txt.g_law_parted (T : Txt K mg h) : mg "_law_parted" = some (.ref (ga K "_law_parted")) := glo_okx T.X T.G (T.f 107)
theorem Txt.g_law_readings (T : Txt K mg h) : mg "_law_readings" = some (.ref (ga K "_law_readings")) := glo_okx T.X T.G (T.f 108)
theorem Txt.g_law_sorts (T : Txt K mg h) : mg "_law_sorts" = some (.ref (ga K "_law_sorts")) := glo_okx T.X T.G (T.f 109)
theorem Txt.g_law_mixed (T : Txt K mg h) : mg "_law_mixed" = some (.ref (ga K "_law_mixed")) := glo_okx T.X T.G (T.f 110)
theorem Txt.g_law_order_right (T : Txt K mg h) : mg "_law_order_right" = some (.ref (ga K "_law_order_right")) := glo_okx T.X T.G (T.f 111)
theorem Txt.g_law_is_finer (T : Txt K mg h) : mg "_law_is_finer" = some (.ref (ga K "_law_is_finer")) := glo_okx T.X T.G (T.f 112)
theorem Txt.g_law_less_right (T : Txt K mg h) : mg "_law_less_right" = some (.ref (ga K "_law_less_right")) := glo_okx T.X T.G (T.f 113)
theorem Txt.g_law_renamed (T : Txt K mg h) : mg "_law_renamed" = some (.ref (ga K "_law_renamed")) := glo_okx T.X T.G (T.f 114)
theorem Txt.g_law_names_right (T : Txt K mg h) : mg "_law_names_right" = some (.ref (ga K "_law_names_right")) := glo_okx T.X T.G (T.f 115)
theorem Txt.g_law (T : Txt K mg h) : mg "law" = some (.ref (ga K "law")) := glo_okx T.X T.G (T.f 116)
theorem Txt.b_isinstance (T : Txt K mg h) : mg "isinstance" = none := free_okx T.X T.G (T.f 117)
theorem Txt.b_len (T : Txt K mg h) : mg "len" = none := free_okx T.X T.G (T.f 118)
theorem Txt.b_all (T : Txt K mg h) : mg "all" = none := free_okx T.X T.G (T.f 119)
theorem Txt.b_any (T : Txt K mg h) : mg "any" = none := free_okx T.X T.G (T.f 120)
theorem Txt.b_set (T : Txt K mg h) : mg "set" = none := free_okx T.X T.G (T.f 121)
theorem Txt.b_sorted (T : Txt K mg h) : mg "sorted" = none := free_okx T.X T.G (T.f 122)
theorem Txt.b_tuple (T : Txt K mg h) : mg "tuple" = none := free_okx T.X T.G (T.f 123)
theorem Txt.b_list (T : Txt K mg h) : mg "list" = none := free_okx T.X T.G (T.f 124)
theorem Txt.b_dict (T : Txt K mg h) : mg "dict" = none := free_okx T.X T.G (T.f 125)
theorem Txt.b_int (T : Txt K mg h) : mg "int" = none := free_okx T.X T.G (T.f 126)
theorem Txt.b_min (T : Txt K mg h) : mg "min" = none := free_okx T.X T.G (T.f 127)
theorem Txt.b_range (T : Txt K mg h) : mg "range" = none := free_okx T.X T.G (T.f 128)
theorem Txt.b_enumerate (T : Txt K mg h) : mg "enumerate" = none := free_okx T.X T.G (T.f 129)
theorem Txt.b_repr (T : Txt K mg h) : mg "repr" = none := free_okx T.X T.G (T.f 130)
theorem Txt.b_abs (T : Txt K mg h) : mg "abs" = none := free_okx T.X T.G (T.f 131)
theorem Txt.b_str (T : Txt K mg h) : mg "str" = none := free_okx T.X T.G (T.f 132)
theorem Txt.b_bool (T : Txt K mg h) : mg "bool" = none := free_okx T.X T.G (T.f 133)
theorem Txt.vLETTERS (T : Txt K mg h) : ∃ t, mg "LETTERS" = some (.str "abcdefghijklmnopqrstuvwxyz" t) := str_okx T.X T.G (T.f 134)
theorem Txt.vGROUND (T : Txt K mg h) : ∃ t, mg "GROUND" = some (.str "ground" t) := str_okx T.X T.G (T.f 135)
theorem Txt.vPOWER (T : Txt K mg h) : ∃ t, mg "POWER" = some (.str "power" t) := str_okx T.X T.G (T.f 136)
theorem Txt.vNOTHING (T : Txt K mg h) : ∃ t, mg "NOTHING" = some (.str "nothing" t) := str_okx T.X T.G (T.f 137)
theorem Txt.vMOST_LETTERS (T : Txt K mg h) : ∃ t, mg "MOST_LETTERS" = some (.int 8 t) := int_okx T.X T.G (T.f 138)
theorem Txt.vMOST_TOP (T : Txt K mg h) : ∃ t, mg "MOST_TOP" = some (.int 3 t) := int_okx T.X T.G (T.f 139)
theorem Txt.oDriver_KIND (T : Txt K mg h) : ∃ u, Con K (ga K "Driver") "KIND" (.str "driver") u := con_okx (T.f 140)
theorem Txt.oListener_KIND (T : Txt K mg h) : ∃ u, Con K (ga K "Listener") "KIND" (.str "listener") u := con_okx (T.f 141)
theorem Txt.oFrame_MOST (T : Txt K mg h) : ∃ u, Con K (ga K "Frame") "MOST" (.int 40) u := con_okx (T.f 142)
theorem Txt.oTable_MOST (T : Txt K mg h) : ∃ u, Con K (ga K "Table") "MOST" (.int 60) u := con_okx (T.f 143)
theorem Txt.tDriver (T : Txt K mg h) : PySem.W.kitAny K (.ref (ga K "Driver")) [.ref (ga K "Driver"), .ref (ga K "Listener")] = some true := kit_okx (T.f 144)
theorem Txt.tListener (T : Txt K mg h) : PySem.W.kitAny K (.ref (ga K "Listener")) [.ref (ga K "Driver"), .ref (ga K "Listener")] = some true := kit_okx (T.f 145)
theorem Txt.tFrame (T : Txt K mg h) : PySem.W.kitAny K (.ref (ga K "Frame")) [.ref (ga K "Frame")] = some true := kit_okx (T.f 146)
theorem Txt.tWord (T : Txt K mg h) : PySem.W.kitAny K (.ref (ga K "Word")) [.ref (ga K "Word")] = some true := kit_okx (T.f 147)
theorem Txt.same_init (T : Txt K mg h) : ma K (ga K "Listener") "__init__" = ma K (ga K "Driver") "__init__" := same_okx (T.f 148)
theorem Txt.same_drives (T : Txt K mg h) : ma K (ga K "Listener") "drives" = ma K (ga K "Driver") "drives" := same_okx (T.f 149)
theorem Txt.d_is_integer (T : Txt K mg h) : FunX K d_is_integer := T.d 0
theorem Txt.d_is_between (T : Txt K mg h) : FunX K d_is_between := T.d 1
theorem Txt.d_is_name (T : Txt K mg h) : FunX K d_is_name := T.d 2
theorem Txt.d_has_names (T : Txt K mg h) : FunX K d_has_names := T.d 3
theorem Txt.d_check_answers (T : Txt K mg h) : FunX K d_check_answers := T.d 4
theorem Txt.d_levels_read (T : Txt K mg h) : FunX K d_levels_read := T.d 5
theorem Txt.d_lifted_at (T : Txt K mg h) : FunX K d_lifted_at := T.d 6
theorem Txt.d_Readings_init (T : Txt K mg h) : FunX K d_Readings_init := T.d 7
theorem Txt.d_Readings_lifted_legs (T : Txt K mg h) : FunX K d_Readings_lifted_legs := T.d 8
theorem Txt.d_Readings_lost_words (T : Txt K mg h) : FunX K d_Readings_lost_words := T.d 9
theorem Txt.d_Readings_at_level (T : Txt K mg h) : FunX K d_Readings_at_level := T.d 10
theorem Txt.d_Readings_need (T : Txt K mg h) : FunX K d_Readings_need := T.d 11
theorem Txt.d_Readings_classes (T : Txt K mg h) : FunX K d_Readings_classes := T.d 12
theorem Txt.d_Readings_idle (T : Txt K mg h) : FunX K d_Readings_idle := T.d 13
theorem Txt.d_Readings_locked (T : Txt K mg h) : FunX K d_Readings_locked := T.d 14
theorem Txt.d_Readings_mute (T : Txt K mg h) : FunX K d_Readings_mute := T.d 15
theorem Txt.d_Readings_levels (T : Txt K mg h) : FunX K d_Readings_levels := T.d 16
theorem Txt.d_Readings_class_of (T : Txt K mg h) : FunX K d_Readings_class_of := T.d 17
theorem Txt.d_Readings_marked (T : Txt K mg h) : FunX K d_Readings_marked := T.d 18
theorem Txt.d_Readings_makers (T : Txt K mg h) : FunX K d_Readings_makers := T.d 19
theorem Txt.d_Readings_is_cover (T : Txt K mg h) : FunX K d_Readings_is_cover := T.d 20
theorem Txt.d_has_both_rails (T : Txt K mg h) : FunX K d_has_both_rails := T.d 21
theorem Txt.d_fault_of_boards (T : Txt K mg h) : FunX K d_fault_of_boards := T.d 22
theorem Txt.d_Board_init (T : Txt K mg h) : FunX K d_Board_init := T.d 23
theorem Txt.d_Board_of (T : Txt K mg h) : FunX K d_Board_of := T.d 24
theorem Txt.d_Board_reads (T : Txt K mg h) : FunX K d_Board_reads := T.d 25
theorem Txt.d_Board_call (T : Txt K mg h) : FunX K d_Board_call := T.d 26
theorem Txt.d_Board_getitem (T : Txt K mg h) : FunX K d_Board_getitem := T.d 27
theorem Txt.d_Leg_init (T : Txt K mg h) : FunX K d_Leg_init := T.d 28
theorem Txt.d_Leg_drives (T : Txt K mg h) : FunX K d_Leg_drives := T.d 29
theorem Txt.d_fault_of_frames (T : Txt K mg h) : FunX K d_fault_of_frames := T.d 30
theorem Txt.d_Frame_init (T : Txt K mg h) : FunX K d_Frame_init := T.d 31
theorem Txt.d_Frame_of (T : Txt K mg h) : FunX K d_Frame_of := T.d 32
theorem Txt.d_Frame_legs (T : Txt K mg h) : FunX K d_Frame_legs := T.d 33
theorem Txt.d_Frame_names (T : Txt K mg h) : FunX K d_Frame_names := T.d 34
theorem Txt.d_Frame_drivers (T : Txt K mg h) : FunX K d_Frame_drivers := T.d 35
theorem Txt.d_Frame_rails (T : Txt K mg h) : FunX K d_Frame_rails := T.d 36
theorem Txt.d_Frame_members (T : Txt K mg h) : FunX K d_Frame_members := T.d 37
theorem Txt.d_Frame_contains (T : Txt K mg h) : FunX K d_Frame_contains := T.d 38
theorem Txt.d_Frame_eq (T : Txt K mg h) : FunX K d_Frame_eq := T.d 39
theorem Txt.d_levels_of (T : Txt K mg h) : FunX K d_levels_of := T.d 40
theorem Txt.d_Word_init (T : Txt K mg h) : FunX K d_Word_init := T.d 41
theorem Txt.d_Word_of (T : Txt K mg h) : FunX K d_Word_of := T.d 42
theorem Txt.d_Word_getitem (T : Txt K mg h) : FunX K d_Word_getitem := T.d 43
theorem Txt.d_is_word (T : Txt K mg h) : FunX K d_is_word := T.d 44
theorem Txt.d_Table_init (T : Txt K mg h) : FunX K d_Table_init := T.d 45
theorem Txt.d_Table_of (T : Txt K mg h) : FunX K d_Table_of := T.d 46
theorem Txt.d_Table_answers_of (T : Txt K mg h) : FunX K d_Table_answers_of := T.d 47
theorem Txt.d_Table_driven (T : Txt K mg h) : FunX K d_Table_driven := T.d 48
theorem Txt.d_Table_len (T : Txt K mg h) : FunX K d_Table_len := T.d 49
theorem Txt.d_law_pen (T : Txt K mg h) : FunX K d_law_pen := T.d 50
theorem Txt.d_law_draw (T : Txt K mg h) : FunX K d_law_draw := T.d 51
theorem Txt.d_law_pick (T : Txt K mg h) : FunX K d_law_pick := T.d 52
theorem Txt.d_law_tags (T : Txt K mg h) : FunX K d_law_tags := T.d 53
theorem Txt.d_law_bare (T : Txt K mg h) : FunX K d_law_bare := T.d 54
theorem Txt.d_law_frame (T : Txt K mg h) : FunX K d_law_frame := T.d 55
theorem Txt.d_law_members (T : Txt K mg h) : FunX K d_law_members := T.d 56
theorem Txt.d_law_levels (T : Txt K mg h) : FunX K d_law_levels := T.d 57
theorem Txt.d_law_parted (T : Txt K mg h) : FunX K d_law_parted := T.d 58
theorem Txt.d_law_readings (T : Txt K mg h) : FunX K d_law_readings := T.d 59
theorem Txt.d_law_sorts (T : Txt K mg h) : FunX K d_law_sorts := T.d 60
theorem Txt.d_law_mixed (T : Txt K mg h) : FunX K d_law_mixed := T.d 61
theorem Txt.d_law_order_right (T : Txt K mg h) : FunX K d_law_order_right := T.d 62
theorem Txt.d_law_is_finer (T : Txt K mg h) : FunX K d_law_is_finer := T.d 63
theorem Txt.d_law_less_right (T : Txt K mg h) : FunX K d_law_less_right := T.d 64
theorem Txt.d_law_renamed (T : Txt K mg h) : FunX K d_law_renamed := T.d 65
theorem Txt.d_law_names_right (T : Txt K mg h) : FunX K d_law_names_right := T.d 66
theorem Txt.d_law (T : Txt K mg h) : FunX K d_law := T.d 67
end
end Sj
set_option Elab.async false
set_option linter.all false
set_option maxRecDepth 100000
set_option maxHeartbeats 0
/-! SjHead: the top run once in the kernel, the hook's facts read behind it. -/
namespace SjHd
open PySem PySem.W PySem.Calls PyProof.Rows Sj
abbrev rowR : OpenRow := OpenLaw.row PySem.Challenge.rw_strayjoins_k24_whole_words_in_any_order
abbrev qv : Program := view rowR.prog [68]
def names1 : List PySem.Str := ["_wall", "JoinError", "InvalidFrame", "InvalidWord", "InvalidBoard", "InvalidAnswer", "NoBoard", "MissingError", "NoLeg", "NoWord", "TooMany", "LETTERS", "MOST_LETTERS", "GROUND", "POWER", "NOTHING", "is_integer", "is_between", "is_name", "has_names", "check_answers", "levels_read", "lifted_at", "Readings", "has_both_rails", "fault_of", "fault_of_boards", "merged", "Board", "Leg", "Driver", "Listener"]
def names2 : List PySem.Str := ["MOST_TOP", "fault_of_frames", "Frame", "levels_of", "Word", "is_word", "Table", "_law_pen", "_law_draw", "_law_pick", "_law_tags", "_law_bare", "_law_frame", "_law_members", "_law_levels", "_law_parted", "_law_level", "_law_answer", "_law_readings", "_law_sorts", "_law_mixed", "_law_order_right", "_law_is_finer", "_law_less_right", "_law_renamed", "_law_names_right"]
def names : List PySem.Str := names1 ++ names2
def obX (s : SharedT) : ObX := obsXG (HandSHeadRun.getT s)
theorem obX_eq (s : SharedT) : obX s = hookX.obs s.abs := obsXG_eq (HandSHeadRun.getT_eq s)
theorem run (w : World) : HandSHeadRun.RunEq rowR qv hookX obX 10000 names w := by
  intro os
  kernel_rfl
end SjHd
set_option Elab.async false
set_option linter.all false
set_option maxRecDepth 100000
set_option maxHeartbeats 4000000
/-! SjBase: short words for calls, over promises by position. -/
namespace Sj
open PySem PySem.Spec PyProof.Rows L2 He
abbrev Fn0 (P : Program) (w : World) (K : Frg) (mg : Str → Option Value) (base : Heap) (k : Nat) (f : Addr) (sp : Sp) : Prop := FnR P w K mg base CX0 k f sp
section
variable {P : Program} {w : World} {K : Frg} {mg : Str → Option Value} {base : Heap}
/-- a def with positional parameters keeps its promise -/
theorem mkFn {d : DefX} {N ps : List Str} {k : Nat} {sp : Sp} (D : FunX K d) (S : FnScope N ps (defScope d.st)) (hkw : d.kws K = [])
    (hb : ∀ (kV doc pm : Value) (an : Option Addr) (cdv ct : Value) (us : List Value), us.length = ps.length → bindArgs (PySem.W.fnOf d.name d.qual (defArgs d.st) (defBody d.st) (defScope d.st) .none kV doc pm an cdv ct) ⟨us, []⟩ = pure (ps.zip us))
    (len : ∀ vs H Q E, sp vs H Q E → vs.length = ps.length)
    (hbody : ∀ (cdv : Value) (A : Around) (outer : List Env) (s : Shared) (H : Hp) (vs : List V) (Q : VK) (E : XK), Room k (A.deeper (envOfC d.qual (defScope d.st) s.heap.objs.size (d.loc K) cdv)) → sp vs H Q E →
      ∃ t, PSs (cxOf CX0 P w K mg base N d.qual (defScope d.st) (d.loc K) cdv A outer s H E).nox (defBody d.st) t ∧ t { nx := fun _ H' => Q .non H', rt := Q } (start N vs) H) : Fn0 P w K mg base (k + 1) (d.loc K) sp := by
  obtain ⟨fd, F⟩ := D
  have F2 := F.ok (P := P) (w := w) (mg := mg) (base := base) (CX := CX0) (sp := sp) (k := k) S len fun cdv A outer s H vs Q E hr h => by
    obtain ⟨t, h1, h2⟩ := hbody cdv A outer s H vs Q E hr h
    exact ⟨t, h1.nox, h2⟩
  have b : Binds K fd ps [] := by
    obtain ⟨oc, od, dV, kV, doc, pm, an, cdv, ct, osl, rfl, lk, hcd, hD, hK⟩ := F.ex
    rcases hD with ⟨_, rfl⟩ | ⟨e, _⟩
    · exact .all (hb kV doc pm an cdv ct)
    · exact absurd rfl e
  refine (F2.raw b .nil).imp fun vs H Q E h => ?_
  rw [List.append_nil]
  exact h
theorem keepX {d : DefX} (D : FunX K d) : PySem.W.keepIn K (.ref (d.loc K)) = true := let ⟨_, F⟩ := D; F.kp
/-- a def of the module, by its name -/
structure GF (P : Program) (w : World) (K : Frg) (mg : Str → Option Value) (base : Heap) (x : Str) (k : Nat) (sp : Sp) : Prop where
  ex : ∃ f, mg x = some (.ref f) ∧ PySem.W.keepIn K (.ref f) = true ∧ Fn0 P w K mg base k f sp
/-- a method of the class at C -/
structure MF (P : Program) (w : World) (K : Frg) (mg : Str → Option Value) (base : Heap) (C : Addr) (m : Str) (k : Nat) (sp : Sp) : Prop where
  cl : Cls K C
  ex : ∃ f, Meth K C m f ∧ Fn0 P w K mg base k f sp
/-- a property -/
structure PF (P : Program) (w : World) (K : Frg) (mg : Str → Option Value) (base : Heap) (C : Addr) (m : Str) (k : Nat) (sp : Sp) : Prop where
  cl : Cls K C
  ex : ∃ p g, PropOf K C m p g ∧ Fn0 P w K mg base k g sp
/-- a class's making -/
structure KF (P : Program) (w : World) (K : Frg) (mg : Str → Option Value) (base : Heap) (C : Addr) (k : Nat) (sp : Sp) : Prop where
  ex : ∃ f, Mk K C f ∧ Fn0 P w K mg base k f sp
/-- an own special method -/
structure SF (P : Program) (w : World) (K : Frg) (mg : Str → Option Value) (base : Heap) (C : Addr) (m : Str) (k : Nat) (sp : Sp) : Prop where
  ex : ∃ f, SpecF K C m f ∧ Fn0 P w K mg base k f sp
end
/-- what a call with these arguments asks -/
def tR (sp : Sp) (t : TA) : TE := fun σ H Q => t σ H fun vs H1 => sp vs H1 Q E0
def tRm (C : Addr) (m : Str) (sp : Sp) (ta : TE) (t : TA) : TE := fun σ H Q => ta σ H fun x H1 => ∃ a dx fs, x = .ref a ∧ H1 a = some (.ins C dx fs) ∧ fs.lookup m = none ∧ t σ H1 fun vs H2 => sp (x :: vs) H2 Q E0
def tRp (C : Addr) (sp : Sp) (ta : TE) : TE := fun σ H Q => ta σ H fun x H1 => ∃ a dx fs, x = .ref a ∧ H1 a = some (.ins C dx fs) ∧ sp [.ref a] H1 Q E0
section
variable {X : Cx} {j k : Nat} {x : Str} {sp : Sp} {e o : Expr} {es : List Expr} {t : TA} {ta : TE} {p pos apos : Pos} {C : Addr} {m : Str}
theorem pc (G : GF X.prog X.w X.K X.mg X.base x j sp) (hr : Room k X.A) (ha : PA X (e :: es) t) (hj : j ≤ k := by decide) (hg : Gl X x := by rfl) (hd : (x == ("__debug__" : Str)) = false := by decide)
    (he : starEach (e :: es) X.env = (false, eval e X.env) :: starEach es X.env := by rfl) (hpl : (backTo pos (starEach es X.env)).any (·.1) = false := by rfl) : PE X (.Call (.Name x p) (e :: es) [] pos) (tR sp t) := by
  obtain ⟨f, hm, hk, F⟩ := G.ex
  refine ⟨fun pins s σ H Q I h => wpAny_Call_Name_kw (ld_glob I hg hm ?_ hd)⟩
  refine PySem.W.callWith_K (h₀ := X.base) I.ok.mod.kin hk (thn (ha.run pos pins s σ H _ I h) fun us s1 ⟨vs, H1, I1, r, q⟩ => ⟨I1.kIn, ?_⟩) he hpl
  exact wpAny_call (run_fnR F (hr.mono hj) pass0 I1 r q)
theorem pm {pl : Sem Bool} (G : MF X.prog X.w X.K X.mg X.base C m j sp) (hr : Room k X.A) (ho : PE X o ta) (ha : PA X (e :: es) t) (hj : j ≤ k := by decide)
    (he : starEach (e :: es) X.env = (false, eval e X.env) :: starEach es X.env := by rfl) (hpl : (backTo pos (starEach es X.env)).any (·.1) = false := by rfl)
    (ht : eval (.Call (.Attribute o m apos) (e :: es) [] pos) X.env = (do
      let ov ← eval o X.env
      standAt apos.atName
      let (f, first) ← holding [ov] (getMethod ov m pl)
      callWith pos f first (backTo pos (starEach (e :: es) X.env)) (backToKw pos (keywordEach [] X.env))) := by rfl) : PE X (.Call (.Attribute o m apos) (e :: es) [] pos) (tRm C m sp ta t) := by
  obtain ⟨f, hm, F⟩ := G.ex
  refine ⟨fun pins s σ H Q I h => PySem.W.methodCall_KW (pl := pl) (thn (ho.run pins s σ H _ I h) fun u s1 ⟨y, H1, I1, ry, a, dx, fs, ey, ea, l, q⟩ => ?_) ht⟩
  subst ey
  obtain rfl : u = Value.ref a := ry
  refine getmeth_ok I1 ea G.cl hm l ?_
  refine PySem.W.callWith_K (first := [.ref a]) (h₀ := X.base) I.ok.mod.kin hm.kp (thn (ha.run pos pins s1 σ H1 _ I1 q) fun us s2 ⟨vs, H2, I2, r, q2⟩ => ⟨I2.kIn, ?_⟩) he hpl
  exact wpAny_call (run_fnR (us := .ref a :: us) (vs := .ref a :: vs) F (hr.mono hj) pass0 I2 (.cons rfl r) q2)
theorem pm0 {pl : Sem Bool} (G : MF X.prog X.w X.K X.mg X.base C m j sp) (hr : Room k X.A) (ho : PE X o ta) (hj : j ≤ k := by decide)
    (ht : eval (.Call (.Attribute o m apos) [] [] pos) X.env = (do
      let ov ← eval o X.env
      standAt apos.atName
      let (f, first) ← holding [ov] (getMethod ov m pl)
      callWith pos f first (backTo pos (starEach [] X.env)) (backToKw pos (keywordEach [] X.env))) := by rfl) : PE X (.Call (.Attribute o m apos) [] [] pos) (tRm C m sp ta tNil) := by
  obtain ⟨f, hm, F⟩ := G.ex
  refine ⟨fun pins s σ H Q I h => PySem.W.methodCall_KW (pl := pl) (thn (ho.run pins s σ H _ I h) fun u s1 ⟨y, H1, I1, ry, a, dx, fs, ey, ea, l, q⟩ => ?_) ht⟩
  subst ey
  obtain rfl : u = Value.ref a := ry
  refine getmeth_ok I1 ea G.cl hm l ?_
  exact PySem.W.callWith_K0 (first := [.ref a]) I1.kIn hm.kp (wpAny_call (run_fnR (us := [.ref a]) (vs := [.ref a]) F (hr.mono hj) pass0 I1 (.cons rfl .nil) q))
/-- a property read -/
theorem pp (G : PF X.prog X.w X.K X.mg X.base C m j sp) (hr : Room k X.A) (ho : PE X o ta) (hj : j + 1 ≤ k := by decide) (hab : attributeBase o m X.env (eval o X.env) = eval o X.env := by rfl) :
    PE X (.Attribute o m pos) (tRp C sp ta) := by
  obtain ⟨p, g, hp, F⟩ := G.ex
  refine ⟨fun pins s σ H Q I h => attr_of hab (thn (ho.run pins s σ H _ I h) fun u s1 ⟨y, H1, I1, ry, a, dx, fs, ey, ea, q⟩ => ?_)⟩
  subst ey
  obtain rfl : u = Value.ref a := ry
  obtain ⟨mA, O, _, _, _, _⟩ := ins_get I1.hok ea
  obtain ⟨od, J, _⟩ := O.look
  obtain ⟨rest, hrec⟩ := hp.rec_
  have I2 := I1.tok (s1.toks + 1)
  have hc : (PySem.W.clsIn X.K C).isSome = true := by
    obtain ⟨cd, hc, _⟩ := PySem.W.any_some G.cl.hd
    rw [hc]
    rfl
  refine PySem.W.get_bind I1.kIn J (PySem.W.plainGet_of (G.cl.get m)).1 (PySem.W.findObj_data hc hp.at_ hp.get hp.tak) (PySem.W.plainGet_of (G.cl.get m)).2 (wpAny_call (PySem.W.prop_get (s := { s1 with toks := s1.toks + 1 }) I1.kIn hrec ?_))
  refine codeAny_mono (F X.A.in1 X.stack { s1 with toks := s1.toks + 1 } H1 [.ref a] [.ref a] Q E0 ((hr.mono hj).in1) I2.env0.in1 (.cons rfl .nil) q) fun r s' hq => ?_
  cases r with
  | error er => exact False.elim hq
  | ok fl =>
    cases fl with
    | ret u =>
      obtain ⟨v, H', I3, rv, q3⟩ := I2.after hq
      show wpAny _ _ (handedOut u) _ _ _
      rw [PySem.W.handedOut_of (handed_of rv)]
      exact wpAny_pure ⟨v, H', I3, rv, q3⟩
    | next => exact False.elim hq
    | brk => exact False.elim hq
    | cont => exact False.elim hq
end
end Sj
set_option Elab.async false
set_option linter.all false
set_option maxRecDepth 100000
set_option maxHeartbeats 4000000
/-! SjNames: is_integer, is_between, is_name. -/
namespace Sj
open PySem PySem.Spec PyProof.Rows L2 He
theorem bt_isinstance : bootBuiltins "isinstance" = some (.builtin "isinstance") := by decide +kernel
theorem bt_len : bootBuiltins "len" = some (.builtin "len") := by decide +kernel
theorem bt_all : bootBuiltins "all" = some (.builtin "all") := by decide +kernel
theorem bt_any : bootBuiltins "any" = some (.builtin "any") := by decide +kernel
theorem bt_sorted : bootBuiltins "sorted" = some (.builtin "sorted") := by decide +kernel
theorem bt_min : bootBuiltins "min" = some (.builtin "min") := by decide +kernel
theorem bt_abs : bootBuiltins "abs" = some (.builtin "abs") := by decide +kernel
theorem bt_repr : bootBuiltins "repr" = some (.builtin "repr") := by decide +kernel
theorem bt_set : bootBuiltins "set" = some (.type "set") := by decide +kernel
theorem bt_tuple : bootBuiltins "tuple" = some (.type "tuple") := by decide +kernel
theorem bt_list : bootBuiltins "list" = some (.type "list") := by decide +kernel
theorem bt_dict : bootBuiltins "dict" = some (.type "dict") := by decide +kernel
theorem bt_int : bootBuiltins "int" = some (.type "int") := by decide +kernel
theorem bt_str : bootBuiltins "str" = some (.type "str") := by decide +kernel
theorem bt_bool : bootBuiltins "bool" = some (.type "bool") := by decide +kernel
theorem bt_range : bootBuiltins "range" = some (.type "range") := by decide +kernel
section
variable {P : Program} {w : World} {K : Frg} {mg : Str → Option Value} {base h : Heap}
def sp_is_integer : Sp := fun vs H Q _ => ∃ n : Int, vs = [.int n] ∧ Q (.bl true) H
theorem ok_is_integer (T : Txt K mg h) : GF P w K mg base "is_integer" 1 sp_is_integer := by
  refine ⟨_, T.g_is_integer, keepX T.d_is_integer, mkFn T.d_is_integer sc_is_integer rfl (fun _ _ _ _ _ _ us hl => match us, hl with | [_], _ => rfl) (fun vs H Q E h => ?_) (fun cdv A outer s H vs Q E hr h => ?_)⟩
  · obtain ⟨n, rfl, _⟩ := h
    rfl
  · obtain ⟨n, rfl, q⟩ := h
    refine ⟨_, pss_one (ps_ret (pe_and (pe_callB call_isi (by rfl) T.b_isinstance bt_isinstance (pa_cons (pv 0) (pa_cons (pe_bltn (v := .ty "int") (by rfl) T.b_int bt_int rfl) pa_nil)))
      (pe_one (pe_not (pe_callB call_isi (by rfl) T.b_isinstance bt_isinstance (pa_cons (pv 0) (pa_cons (pe_bltn (v := .ty "bool") (by rfl) T.b_bool bt_bool rfl) pa_nil))))))), ?_⟩
    refine ⟨_, rfl, _, _, _, _, true, rfl, .ty "int", .base (.int n), kit_ty (by decide +kernel), true, rfl, iteT ?_⟩
    exact ⟨_, rfl, _, _, _, _, false, rfl, .ty "bool", .base (.int n), kit_ty (by decide +kernel), false, rfl, q⟩
def sp_is_between : Sp := fun vs H Q _ => ∃ n a b : Int, vs = [.int n, .int a, .int b] ∧ Q (.bl (decide (a ≤ n ∧ n ≤ b))) H
theorem ok_is_between (T : Txt K mg h) : GF P w K mg base "is_between" 2 sp_is_between := by
  refine ⟨_, T.g_is_between, keepX T.d_is_between, mkFn T.d_is_between sc_is_between rfl (fun _ _ _ _ _ _ us hl => match us, hl with | [_, _, _], _ => rfl) (fun vs H Q E h => ?_) (fun cdv A outer s H vs Q E hr h => ?_)⟩
  · obtain ⟨n, a, b, rfl, _⟩ := h
    rfl
  · obtain ⟨n, a, b, rfl, q⟩ := h
    refine ⟨_, pss_one (ps_ret (pe_and (pc (ok_is_integer T) hr (pa_cons (pv 0) pa_nil)) (pe_one (pe_chain op_le op_le (pv 1) (pv 0) (pv 2))))), ?_⟩
    refine ⟨_, rfl, n, rfl, true, rfl, iteT ?_⟩
    refine ⟨_, rfl, _, rfl, _, _, rfl, rfl, _, rfl, ?_⟩
    by_cases h1 : a ≤ n
    · rw [decide_eq_true h1]
      refine iteT ⟨_, rfl, _, _, rfl, rfl, ?_⟩
      have e : decide (a ≤ n ∧ n ≤ b) = decide (n ≤ b) := by simp [h1]
      rw [e] at q
      exact q
    · rw [decide_eq_false h1]
      refine iteF ?_
      have e : decide (a ≤ n ∧ n ≤ b) = false := by simp [h1]
      rw [e] at q
      exact q
end
end Sj
set_option Elab.async false
set_option linter.all false
set_option maxRecDepth 100000
set_option maxHeartbeats 4000000
/-! SjComp: comprehensions whose turns only add to the heap. -/
namespace Sj
open PySem PySem.Spec PyProof.Rows L2 He
/-- all but what stands at D is as it was -/
def SameB (D : Addr) (H H' : Hp) : Prop := ∀ b o, b ≠ D → H b = some o → H' b = some o
theorem SameB.of {D : Addr} {H H' : Hp} (s : Same H H') : SameB D H H' := fun b o _ h => s b o h
theorem SameB.upd {D : Addr} {H : Hp} {o : HO} : SameB D H (upd H D o) := fun b u hb h => by rw [upd_ne hb]; exact h
theorem SameB.trans {D : Addr} {H H1 H2 : Hp} (a : SameB D H H1) (b : SameB D H1 H2) : SameB D H H2 := fun c o hc h => b c o hc (a c o hc h)
theorem same_new {H : Hp} {p : Addr} {o : HO} (h : H p = none) : Same H (upd H p o) := fun b u e => by rw [upd_ne (ne_of_none e h)]; exact e
theorem same_mut {H H' : Hp} {p : Addr} {o : HO} (s : Same H H') (h : H p = none) : Same H (upd H' p o) := fun b u e => by rw [upd_ne (ne_of_none e h)]; exact s b u e
theorem paired_snoc {α β : Type} {F : α → β → Prop} {a : α} {b : β} (hf : F a b) : ∀ {l : List α} {m : List β}, Paired F l m → Paired F (l ++ [a]) (m ++ [b])
  | _, _, .nil => .cons hf .nil
  | _, _, .cons r t => .cons r (paired_snoc hf t)
theorem paired_map {α β : Type} {g : α → β} : ∀ {l : List α} {m : List β}, Paired (fun x y => y = g x) l m → m = l.map g
  | _, _, .nil => rfl
  | _, _, .cons r t => by rw [List.map_cons, ← paired_map t, r]
theorem paired_mapR {α β γ : Type} {F : α → γ → Prop} {g : β → γ} : ∀ {l : List α} {m : List β}, Paired (fun x y => F x (g y)) l m → Paired F l (m.map g)
  | _, _, .nil => .nil
  | _, _, .cons r t => .cons r (paired_mapR t)
theorem paired_len {α β : Type} {F : α → β → Prop} {l : List α} {m : List β} (h : Paired F l m) : l.length = m.length := Paired.length h
theorem paired_fst {α β γ : Type} {F : α → β × γ → Prop} {g : α → β} (hF : ∀ a p, F a p → p.1 = g a) : ∀ {l : List α} {m : List (β × γ)}, Paired F l m → m.map (·.1) = l.map g
  | _, _, .nil => rfl
  | _, _, .cons r t => by rw [List.map_cons, List.map_cons, paired_fst hF t, hF _ _ r]
theorem take_filter_yes {α : Type} {xs : List α} {f : α → Bool} {i : Nat} {x : α} (hx : xs[i]? = some x) (hf : f x = true) : (xs.take (i + 1)).filter f = (xs.take i).filter f ++ [x] := by
  rw [List.take_succ, hx]
  simp [List.filter_append, hf]
theorem take_filter_no {α : Type} {xs : List α} {f : α → Bool} {i : Nat} {x : α} (hx : xs[i]? = some x) (hf : f x = false) : (xs.take (i + 1)).filter f = (xs.take i).filter f := by
  rw [List.take_succ, hx]
  simp [List.filter_append, hf]
section
variable {J : It} {xs : List V} {G : Hp → Prop} {j : Nat} {tt : TT} {te tk : TE} {vs : List Nat} {σ : L2.St} {H1 : Hp} {D : Addr} {Qd : Hp → Prop}
theorem lcm (wk : Walk J xs.length G (YAt xs)) (f : V → Bool) (R : Addr → V → V → Hp → Prop) (hD : H1 D = none) (hG : ∀ H', Same H1 H' → G H') (hR : ∀ x y H H', SameB D H H' → R D x y H → R D x y H') (hz : xs.length ≤ 1000)
    (hw : ∀ x, wipe ((wipe σ vs).set j (some x)) vs = wipe σ vs)
    (ht : ∀ x ∈ xs, ∀ H2, Same H1 H2 → ∀ Q : Bool → Hp → Prop, (∀ H3, Same H2 H3 → Q (f x) H3) → tt ((wipe σ vs).set j (some x)) H2 Q)
    (he : ∀ x ∈ xs, f x = true → ∀ H2 acc, Same H1 H2 → H2 D = some (.lst acc) → ∀ Q : VK, (∀ y H3, Same H2 H3 → R D x y H3 → Q y H3) → te ((wipe σ vs).set j (some x)) H2 Q)
    (k : ∀ ys H2, Same H1 H2 → H2 D = some (.lst ys) → Paired (fun x y => R D x y H2) (xs.filter f) ys → Qd H2) :
    ∃ W : Nat → Nat → Hp → Prop, (∃ m, W 0 m (upd H1 D (.lst []))) ∧ ∀ i m H, W i m H →
      (J.stop i H ∧ Qd H) ∨ (J.go i H ∧ ∃ Nx : Hp → Prop, (∀ H', Nx H' → ∃ m', m' < m ∧ W (i + 1) m' H') ∧ ∀ x H', J.yld i H x H' → gName j x (wipe σ vs) H' fun σ2 H2 => wipe σ2 vs = wipe σ vs ∧ tt σ2 H2 fun b H3 =>
        if b = true then te σ2 H3 fun y H4 => ∃ acc, H4 D = some (.lst acc) ∧ acc.length < sizeLine ∧ Nx (upd H4 D (.lst (acc ++ [y]))) else Nx H3) := by
  refine lc_it wk (fun i H => Same H1 H ∧ ∃ ys, H D = some (.lst ys) ∧ Paired (fun x y => R D x y H) ((xs.take i).filter f) ys) ⟨same_new hD, [], upd_same, by rw [List.take_zero]; exact .nil⟩ (fun i H _ p => hG H p.1) ?_ ?_
  · rintro i x H H' hi ⟨s, ys, hd, pr⟩ ⟨rfl, hx⟩
    have mem := List.mem_of_getElem? hx
    refine ⟨hw x, ht x mem _ s _ fun H3 s3 => ?_⟩
    have hl : ys.length < sizeLine := by
      have h1 := paired_len pr
      have h2 := List.length_filter_le f (xs.take i)
      have h3 : (xs.take i).length ≤ xs.length := by rw [List.length_take]; exact Nat.min_le_right _ _
      exact small1000 (by omega)
    cases hf : f x with
    | true =>
      refine iteT (he x mem hf H3 ys (s.trans s3) (s3 D _ hd) _ fun y H4 s4 r => ⟨ys, s4 D _ (s3 D _ hd), hl, same_mut (s.trans (s3.trans s4)) hD, ys ++ [y], upd_same, ?_⟩)
      rw [take_filter_yes hx hf]
      exact paired_snoc (F := fun a b => R D a b (upd H4 D (.lst (ys ++ [y])))) (hR _ _ _ _ SameB.upd r) (Paired.mapP pr fun a b q => hR _ _ _ _ ((SameB.of (s3.trans s4)).trans SameB.upd) q)
    | false =>
      refine iteF ⟨s.trans s3, ys, s3 D _ hd, ?_⟩
      rw [take_filter_no hx hf]
      exact Paired.mapP pr fun a b q => hR _ _ _ _ (SameB.of s3) q
  · rintro H ⟨s, ys, hd, pr⟩
    rw [List.take_length] at pr
    exact k ys H s hd pr
/-- without a test -/
theorem lcm1 (wk : Walk J xs.length G (YAt xs)) (R : Addr → V → V → Hp → Prop) (hD : H1 D = none) (hG : ∀ H', Same H1 H' → G H') (hR : ∀ x y H H', SameB D H H' → R D x y H → R D x y H') (hz : xs.length ≤ 1000)
    (hw : ∀ x, wipe ((wipe σ vs).set j (some x)) vs = wipe σ vs)
    (he : ∀ x ∈ xs, ∀ H2 acc, Same H1 H2 → H2 D = some (.lst acc) → ∀ Q : VK, (∀ y H3, Same H2 H3 → R D x y H3 → Q y H3) → te ((wipe σ vs).set j (some x)) H2 Q)
    (k : ∀ ys H2, Same H1 H2 → H2 D = some (.lst ys) → Paired (fun x y => R D x y H2) xs ys → Qd H2) :
    ∃ W : Nat → Nat → Hp → Prop, (∃ m, W 0 m (upd H1 D (.lst []))) ∧ ∀ i m H, W i m H →
      (J.stop i H ∧ Qd H) ∨ (J.go i H ∧ ∃ Nx : Hp → Prop, (∀ H', Nx H' → ∃ m', m' < m ∧ W (i + 1) m' H') ∧ ∀ x H', J.yld i H x H' → gName j x (wipe σ vs) H' fun σ2 H2 => wipe σ2 vs = wipe σ vs ∧ tYes σ2 H2 fun b H3 =>
        if b = true then te σ2 H3 fun y H4 => ∃ acc, H4 D = some (.lst acc) ∧ acc.length < sizeLine ∧ Nx (upd H4 D (.lst (acc ++ [y]))) else Nx H3) :=
  lcm wk (fun _ => true) R hD hG hR hz hw (fun x hx H2 s Q q => q H2 (Same.refl H2)) (fun x hx _ => he x hx) fun ys H2 s hd pr => k ys H2 s hd (by
    have e : xs.filter (fun _ => true) = xs := List.filter_eq_self.mpr fun _ _ => rfl
    rw [e] at pr
    exact pr)
/-- elements that are plain values: xs.map g -/
theorem lcv (wk : Walk J xs.length G (YAt xs)) (g : V → V) (hD : H1 D = none) (hG : ∀ H', Same H1 H' → G H') (hz : xs.length ≤ 1000) (hw : ∀ x, wipe ((wipe σ vs).set j (some x)) vs = wipe σ vs)
    (he : ∀ x ∈ xs, ∀ H2, Same H1 H2 → ∀ Q : VK, (∀ H3, Same H2 H3 → Q (g x) H3) → te ((wipe σ vs).set j (some x)) H2 Q)
    (k : ∀ H2, Same H1 H2 → H2 D = some (.lst (xs.map g)) → Qd H2) :
    ∃ W : Nat → Nat → Hp → Prop, (∃ m, W 0 m (upd H1 D (.lst []))) ∧ ∀ i m H, W i m H →
      (J.stop i H ∧ Qd H) ∨ (J.go i H ∧ ∃ Nx : Hp → Prop, (∀ H', Nx H' → ∃ m', m' < m ∧ W (i + 1) m' H') ∧ ∀ x H', J.yld i H x H' → gName j x (wipe σ vs) H' fun σ2 H2 => wipe σ2 vs = wipe σ vs ∧ tYes σ2 H2 fun b H3 =>
        if b = true then te σ2 H3 fun y H4 => ∃ acc, H4 D = some (.lst acc) ∧ acc.length < sizeLine ∧ Nx (upd H4 D (.lst (acc ++ [y]))) else Nx H3) :=
  lcm1 wk (fun _ x y _ => y = g x) hD hG (fun _ _ _ _ _ h => h) hz hw (fun x hx H2 _ s _ Q q => he x hx H2 s Q fun H3 s3 => q _ H3 s3 rfl) fun ys H2 s hd pr => k H2 s (by rw [paired_map pr] at hd; exact hd)
/-- those of xs that f lets through -/
theorem lcf (wk : Walk J xs.length G (YAt xs)) (f : V → Bool) (hD : H1 D = none) (hG : ∀ H', Same H1 H' → G H') (hz : xs.length ≤ 1000) (hw : ∀ x, wipe ((wipe σ vs).set j (some x)) vs = wipe σ vs) (hj : ∀ x, ((wipe σ vs).set j (some x))[j]? = some (some x))
    (ht : ∀ x ∈ xs, ∀ H2, Same H1 H2 → ∀ Q : Bool → Hp → Prop, (∀ H3, Same H2 H3 → Q (f x) H3) → tt ((wipe σ vs).set j (some x)) H2 Q)
    (k : ∀ H2, Same H1 H2 → H2 D = some (.lst (xs.filter f)) → Qd H2) :
    ∃ W : Nat → Nat → Hp → Prop, (∃ m, W 0 m (upd H1 D (.lst []))) ∧ ∀ i m H, W i m H →
      (J.stop i H ∧ Qd H) ∨ (J.go i H ∧ ∃ Nx : Hp → Prop, (∀ H', Nx H' → ∃ m', m' < m ∧ W (i + 1) m' H') ∧ ∀ x H', J.yld i H x H' → gName j x (wipe σ vs) H' fun σ2 H2 => wipe σ2 vs = wipe σ vs ∧ tt σ2 H2 fun b H3 =>
        if b = true then tVar j σ2 H3 fun y H4 => ∃ acc, H4 D = some (.lst acc) ∧ acc.length < sizeLine ∧ Nx (upd H4 D (.lst (acc ++ [y]))) else Nx H3) :=
  lcm (te := tVar j) wk f (fun _ x y _ => y = x) hD hG (fun _ _ _ _ _ h => h) hz hw ht (fun x hx _ H2 _ s _ Q q => ⟨x, hj x, q x H2 (Same.refl H2) rfl⟩) fun ys H2 s hd pr => k H2 s (by
    have e := paired_map (g := id) pr
    rw [List.map_id] at e
    rw [e] at hd
    exact hd)
/-- {key: value for x in xs if f x}, the keys apart -/
theorem dcm (wk : Walk J xs.length G (YAt xs)) (f : V → Bool) (key : V → Key) (R : Addr → V → V → Hp → Prop) (hD : H1 D = none) (hG : ∀ H', Same H1 H' → G H') (hR : ∀ x y H H', SameB D H H' → R D x y H → R D x y H') (hz : xs.length ≤ 1000)
    (hnd : ((xs.filter f).map key).Nodup) (hw : ∀ x, wipe ((wipe σ vs).set j (some x)) vs = wipe σ vs)
    (ht : ∀ x ∈ xs, ∀ H2, Same H1 H2 → ∀ Q : Bool → Hp → Prop, (∀ H3, Same H2 H3 → Q (f x) H3) → tt ((wipe σ vs).set j (some x)) H2 Q)
    (hk : ∀ x ∈ xs, f x = true → ∀ H2, Same H1 H2 → ∀ Q : VK, (∀ H3, Same H2 H3 → Q (kV (key x)) H3) → tk ((wipe σ vs).set j (some x)) H2 Q)
    (he : ∀ x ∈ xs, f x = true → ∀ H2 kvs, Same H1 H2 → H2 D = some (.dK kvs) → ∀ Q : VK, (∀ y H3, Same H2 H3 → R D x y H3 → Q y H3) → te ((wipe σ vs).set j (some x)) H2 Q)
    (k : ∀ kvs H2, Same H1 H2 → H2 D = some (.dK kvs) → Paired (fun x kv => kv.1 = key x ∧ R D x kv.2 H2) (xs.filter f) kvs → Qd H2) :
    ∃ W : Nat → Nat → Hp → Prop, (∃ m, W 0 m (upd H1 D (.dK []))) ∧ ∀ i m H, W i m H →
      (J.stop i H ∧ Qd H) ∨ (J.go i H ∧ ∃ Nx : Hp → Prop, (∀ H', Nx H' → ∃ m', m' < m ∧ W (i + 1) m' H') ∧ ∀ x H', J.yld i H x H' → gName j x (wipe σ vs) H' fun σ2 H2 => wipe σ2 vs = wipe σ vs ∧ tt σ2 H2 fun b H3 =>
        if b = true then tk σ2 H3 fun y H4 => te σ2 H4 fun z H5 => ∃ kvs k, y = kV k ∧ H5 D = some (.dK kvs) ∧ kvs.length < sizeLine ∧ Nx (upd H5 D (.dK (putK kvs k z))) else Nx H3) := by
  let Pv : Nat → Hp → Prop := fun i H => Same H1 H ∧ ∃ kvs : List (Key × V), H D = some (.dK kvs) ∧ Paired (fun x (kv : Key × V) => kv.1 = key x ∧ R D x kv.2 H) ((xs.take i).filter f) kvs
  have h0 : Pv 0 (upd H1 D (.dK [])) := ⟨same_new hD, [], upd_same, by rw [List.take_zero]; exact .nil⟩
  refine ⟨fun i m H => m = xs.length - i ∧ i ≤ xs.length ∧ Pv i H, ⟨xs.length, by simp, Nat.zero_le _, h0⟩, ?_⟩
  rintro i m H ⟨rfl, hi, s, kvs, hd, pr⟩
  have q := hG H s
  by_cases hlt : i < xs.length
  · refine .inr ⟨wk.goes i H hlt q, Pv (i + 1), fun H' p' => ⟨xs.length - (i + 1), by omega, rfl, hlt, p'⟩, fun x H' y => ?_⟩
    obtain ⟨rfl, hx⟩ := wk.yields i H x H' hlt q y
    have mem := List.mem_of_getElem? hx
    refine ⟨hw x, ht x mem _ s _ fun H3 s3 => ?_⟩
    have hl : kvs.length < sizeLine := by
      have h1 := paired_len pr
      have h2 := List.length_filter_le f (xs.take i)
      have h3 : (xs.take i).length ≤ xs.length := by rw [List.length_take]; exact Nat.min_le_right _ _
      exact small1000 (by omega)
    cases hf : f x with
    | true =>
      have hnew : valV kvs (key x) = none := by
        cases e : valV kvs (key x) with
        | none => rfl
        | some v =>
          exfalso
          have h1 := valV_in e
          rw [paired_fst (fun a p (z : p.1 = key a ∧ _) => z.1) pr] at h1
          have h2 : (xs.filter f).map key = (((xs.take i).filter f).map key ++ [key x]) ++ ((xs.drop (i + 1)).filter f).map key := by
            rw [← List.map_singleton, ← List.map_append, ← List.map_append, ← take_filter_yes hx hf, ← List.filter_append, List.take_append_drop]
          rw [h2] at hnd
          have h3 := (List.nodup_append.mp hnd).1
          have h4 := (List.nodup_append.mp h3).2.2
          exact h4 _ h1 _ (List.mem_singleton.mpr rfl) rfl
      refine iteT (hk x mem hf H3 (s.trans s3) _ fun H4 s4 => he x mem hf H4 kvs (s.trans (s3.trans s4)) ((s3.trans s4) D _ hd) _ fun y H5 s5 r => ⟨kvs, key x, rfl, (s3.trans (s4.trans s5)) D _ hd, hl, same_mut (s.trans (s3.trans (s4.trans s5))) hD, _, upd_same, ?_⟩)
      rw [putK_new _ hnew, take_filter_yes hx hf]
      exact paired_snoc (F := fun a (kv : Key × V) => kv.1 = key a ∧ R D a kv.2 (upd H5 D (.dK (kvs ++ [(key x, y)])))) ⟨rfl, hR _ _ _ _ SameB.upd r⟩ (Paired.mapP pr fun a b q => ⟨q.1, hR _ _ _ _ ((SameB.of (s3.trans (s4.trans s5))).trans SameB.upd) q.2⟩)
    | false =>
      refine iteF ⟨s.trans s3, kvs, s3 D _ hd, ?_⟩
      rw [take_filter_no hx hf]
      exact Paired.mapP pr fun a b q => ⟨q.1, hR _ _ _ _ (SameB.of s3) q.2⟩
  · have e : i = xs.length := by omega
    subst e
    rw [List.take_length] at pr
    exact .inl ⟨wk.stops H q, k kvs H s hd pr⟩
end
/-! ### the rules in short -/
section
variable {X : Cx} {elt kx vx iter : Expr} {x : Str} {tp pos : Pos} {scope : Scope} {wi : TI} {te tk : TE} {c : Expr} {tc : TT}
/-- [elt for x in iter]: x at place i -/
theorem plc (i : Nat) (hN : X.N.Nodup) (hi : PI X (.Name x tp) iter wi) (he : ∀ (s : Shared) (H : Hp) (C : Addr) (cl : List (Str × Addr)) (fp : List Addr), PE (X.blk s H scope (compEnvC scope cl C X.env) fp) elt te)
    (ok : blkC X.N X.env.scope scope [(x, i)] = true := by kernel_rfl) (hc : X.calm = true := by rfl) (h1 : X.N[i]? = some x := by rfl) (h2 : ∀ (s : Shared) (H : Hp) (C : Addr) (cl : List (Str × Addr)) (fp : List Addr), L2.Loc (X.blk s H scope (compEnvC scope cl C X.env) fp).env.scope x := by intro _ _ _ _ _; first | exact Or.inl rfl | exact Or.inr rfl)
    (h3 : ∀ (s : Shared) (H : Hp) (C : Addr) (cl : List (Str × Addr)) (fp : List Addr), (X.blk s H scope (compEnvC scope cl C X.env) fp).fn x = true ∨ (X.blk s H scope (compEnvC scope cl C X.env) fp).env.scope.names.lookup x = some .local := by intro _ _ _ _ _; first | exact Or.inl rfl | exact Or.inr rfl) (hs : ∀ x, foldedSetIterable iter X.env x = pure x := by intro _; rfl) :
    PE X (.ListComp elt [⟨.Name x tp, iter, [], 0⟩] scope pos) (tLc wi (gName i) tYes te [i]) :=
  pe_lc (own := [(x, i)]) hc hN hi (blkOk_by ok) (fun s H C cl fp => pg_name (X := X.blk s H scope (compEnvC scope cl C X.env) fp) (i := i) hN h1 (h2 s H C cl fp) (h3 s H C cl fp)) (fun _ _ _ _ _ => pts_nil) he hs
/-- [elt for x in iter if c] -/
theorem plcIf (i : Nat) (hN : X.N.Nodup) (hi : PI X (.Name x tp) iter wi) (ht : ∀ (s : Shared) (H : Hp) (C : Addr) (cl : List (Str × Addr)) (fp : List Addr), PT (X.blk s H scope (compEnvC scope cl C X.env) fp) c tc)
    (he : ∀ (s : Shared) (H : Hp) (C : Addr) (cl : List (Str × Addr)) (fp : List Addr), PE (X.blk s H scope (compEnvC scope cl C X.env) fp) elt te)
    (ok : blkC X.N X.env.scope scope [(x, i)] = true := by kernel_rfl) (hc : X.calm = true := by rfl) (h1 : X.N[i]? = some x := by rfl) (h2 : ∀ (s : Shared) (H : Hp) (C : Addr) (cl : List (Str × Addr)) (fp : List Addr), L2.Loc (X.blk s H scope (compEnvC scope cl C X.env) fp).env.scope x := by intro _ _ _ _ _; first | exact Or.inl rfl | exact Or.inr rfl)
    (h3 : ∀ (s : Shared) (H : Hp) (C : Addr) (cl : List (Str × Addr)) (fp : List Addr), (X.blk s H scope (compEnvC scope cl C X.env) fp).fn x = true ∨ (X.blk s H scope (compEnvC scope cl C X.env) fp).env.scope.names.lookup x = some .local := by intro _ _ _ _ _; first | exact Or.inl rfl | exact Or.inr rfl) (hs : ∀ x, foldedSetIterable iter X.env x = pure x := by intro _; rfl) :
    PE X (.ListComp elt [⟨.Name x tp, iter, [c], 0⟩] scope pos) (tLc wi (gName i) tc te [i]) :=
  pe_lc (own := [(x, i)]) hc hN hi (blkOk_by ok) (fun s H C cl fp => pg_name (X := X.blk s H scope (compEnvC scope cl C X.env) fp) (i := i) hN h1 (h2 s H C cl fp) (h3 s H C cl fp)) (fun s H C cl fp => pts_one (ht s H C cl fp)) he hs
/-- {kx: vx for x in iter} -/
theorem pdc (i : Nat) (hN : X.N.Nodup) (hi : PI X (.Name x tp) iter wi) (hk : ∀ (s : Shared) (H : Hp) (C : Addr) (cl : List (Str × Addr)) (fp : List Addr), PE (X.blk s H scope (compEnvC scope cl C X.env) fp) kx tk)
    (he : ∀ (s : Shared) (H : Hp) (C : Addr) (cl : List (Str × Addr)) (fp : List Addr), PE (X.blk s H scope (compEnvC scope cl C X.env) fp) vx te)
    (ok : blkC X.N X.env.scope scope [(x, i)] = true := by kernel_rfl) (hc : X.calm = true := by rfl) (h1 : X.N[i]? = some x := by rfl) (h2 : ∀ (s : Shared) (H : Hp) (C : Addr) (cl : List (Str × Addr)) (fp : List Addr), L2.Loc (X.blk s H scope (compEnvC scope cl C X.env) fp).env.scope x := by intro _ _ _ _ _; first | exact Or.inl rfl | exact Or.inr rfl)
    (h3 : ∀ (s : Shared) (H : Hp) (C : Addr) (cl : List (Str × Addr)) (fp : List Addr), (X.blk s H scope (compEnvC scope cl C X.env) fp).fn x = true ∨ (X.blk s H scope (compEnvC scope cl C X.env) fp).env.scope.names.lookup x = some .local := by intro _ _ _ _ _; first | exact Or.inl rfl | exact Or.inr rfl) (hs : ∀ x, foldedSetIterable iter X.env x = pure x := by intro _; rfl) :
    PE X (.DictComp kx vx [⟨.Name x tp, iter, [], 0⟩] scope pos) (tDc wi (gName i) tYes tk te [i]) :=
  pe_dc (own := [(x, i)]) hc hN hi (blkOk_by ok) (fun s H C cl fp => pg_name (X := X.blk s H scope (compEnvC scope cl C X.env) fp) (i := i) hN h1 (h2 s H C cl fp) (h3 s H C cl fp)) (fun _ _ _ _ _ => pts_nil) hk he hs
/-- {kx: vx for x in iter if c} -/
theorem pdcIf (i : Nat) (hN : X.N.Nodup) (hi : PI X (.Name x tp) iter wi) (ht : ∀ (s : Shared) (H : Hp) (C : Addr) (cl : List (Str × Addr)) (fp : List Addr), PT (X.blk s H scope (compEnvC scope cl C X.env) fp) c tc)
    (hk : ∀ (s : Shared) (H : Hp) (C : Addr) (cl : List (Str × Addr)) (fp : List Addr), PE (X.blk s H scope (compEnvC scope cl C X.env) fp) kx tk)
    (he : ∀ (s : Shared) (H : Hp) (C : Addr) (cl : List (Str × Addr)) (fp : List Addr), PE (X.blk s H scope (compEnvC scope cl C X.env) fp) vx te)
    (ok : blkC X.N X.env.scope scope [(x, i)] = true := by kernel_rfl) (hc : X.calm = true := by rfl) (h1 : X.N[i]? = some x := by rfl) (h2 : ∀ (s : Shared) (H : Hp) (C : Addr) (cl : List (Str × Addr)) (fp : List Addr), L2.Loc (X.blk s H scope (compEnvC scope cl C X.env) fp).env.scope x := by intro _ _ _ _ _; first | exact Or.inl rfl | exact Or.inr rfl)
    (h3 : ∀ (s : Shared) (H : Hp) (C : Addr) (cl : List (Str × Addr)) (fp : List Addr), (X.blk s H scope (compEnvC scope cl C X.env) fp).fn x = true ∨ (X.blk s H scope (compEnvC scope cl C X.env) fp).env.scope.names.lookup x = some .local := by intro _ _ _ _ _; first | exact Or.inl rfl | exact Or.inr rfl) (hs : ∀ x, foldedSetIterable iter X.env x = pure x := by intro _; rfl) :
    PE X (.DictComp kx vx [⟨.Name x tp, iter, [c], 0⟩] scope pos) (tDc wi (gName i) tc tk te [i]) :=
  pe_dc (own := [(x, i)]) hc hN hi (blkOk_by ok) (fun s H C cl fp => pg_name (X := X.blk s H scope (compEnvC scope cl C X.env) fp) (i := i) hN h1 (h2 s H C cl fp) (h3 s H C cl fp)) (fun s H C cl fp => pts_one (ht s H C cl fp)) hk he hs
end
end Sj
set_option Elab.async false
set_option linter.all false
set_option maxRecDepth 100000
set_option maxHeartbeats 4000000
/-! SjName2: is_name, has_names, has_both_rails. -/
namespace Sj
open PySem PySem.Spec PyProof.Rows L2 He
def lettersS : Str := "abcdefghijklmnopqrstuvwxyz"
def okName (s : Str) : Bool := decide (1 ≤ s.length ∧ s.length ≤ 8) && (s.cps.toList.all (fun c => decide (c ∈ lettersS.cps.toList)) && (decide (s ≠ "ground") && (decide (s ≠ "power") && decide (s ≠ "nothing"))))
theorem walk_strL {z : Str} : Walk (Its z) (z.cps.toList.map fun c => V.str ⟨#[c]⟩).length (fun _ => True) (YAt (z.cps.toList.map fun c => V.str ⟨#[c]⟩)) := by
  have e : (z.cps.toList.map fun c => V.str ⟨#[c]⟩).length = z.cps.size := by simp
  rw [e]
  refine walk_str.mono (fun _ _ => trivial) fun i H x H' hi _ y => ?_
  obtain ⟨e1, c, e2, e3⟩ := y
  refine ⟨e1, ?_⟩
  rw [List.getElem?_map, Array.getElem?_toList, e2, e3]
  rfl
section
variable {P : Program} {w : World} {K : Frg} {mg : Str → Option Value} {base h : Heap}
def sp_is_name : Sp := fun vs H Q _ => ∃ s : Str, vs = [.str s] ∧ okName s = true ∧ ∀ H', Same H H' → Q (.bl true) H'
theorem ok_is_name (T : Txt K mg h) : GF P w K mg base "is_name" 1 sp_is_name := by
  obtain ⟨tL, gL⟩ := T.vLETTERS
  obtain ⟨tM, gM⟩ := T.vMOST_LETTERS
  obtain ⟨tG, gG⟩ := T.vGROUND
  obtain ⟨tP, gP⟩ := T.vPOWER
  obtain ⟨tN, gN⟩ := T.vNOTHING
  refine ⟨_, T.g_is_name, keepX T.d_is_name, mkFn T.d_is_name sc_is_name rfl (fun _ _ _ _ _ _ us hl => match us, hl with | [_], _ => rfl) (fun vs H Q E h => ?_) (fun cdv A outer s H vs Q E hr h => ?_)⟩
  · obtain ⟨n, rfl, _⟩ := h
    rfl
  · obtain ⟨z, rfl, hz, q⟩ := h
    refine ⟨_, pss_cons (ps_if (PW.pt (pw_or (pt_not (pt_val (pe_callB call_isi (by rfl) T.b_isinstance bt_isinstance (pa_cons (pv 0) (pa_cons (pe_bltn (v := .ty "str") (by rfl) T.b_str bt_str rfl) pa_nil)))))
        (pw_or1 (pt_not (pt_chain op_le op_le pe_int (pe_callB call_len_str (by rfl) T.b_len bt_len (pa_cons (pv 0) pa_nil)) (pe_glob (v := .int 8) (by rfl) gM ⟨_, rfl⟩)))))) (pss_one (ps_ret pe_bl)) pss_nil)
      (pss_one (ps_ret (pe_and (pe_callB (cr_all rfl) (by rfl) T.b_all bt_all (pa_cons (plc 1 sc_is_name.nd (pi_str (pv 0)) (fun _ _ _ _ _ => pe_cmpR op_in_sign (pv 1) (pe_glob (v := .str lettersS) (by rfl) gL ⟨_, rfl⟩) (by rfl))) pa_nil))
        (pe_one (pe_cmpR op_notIn_seq (pv 0) (pe_tup (pa_cons (pe_glob (v := .str "ground") (by rfl) gG ⟨_, rfl⟩) (pa_cons (pe_glob (v := .str "power") (by rfl) gP ⟨_, rfl⟩) (pa_cons (pe_glob (v := .str "nothing") (by rfl) gN ⟨_, rfl⟩) pa_nil)))) (by rfl)))))), ?_⟩
    simp only [okName, Bool.and_eq_true, decide_eq_true_eq] at hz
    obtain ⟨⟨hz1, hz2⟩, hz3, hz4, hz5, hz6⟩ := hz
    refine ⟨_, rfl, _, _, _, _, true, rfl, .ty "str", .base (.str z), kit_ty (by decide +kernel), true, rfl, iteF ?_⟩
    refine ⟨_, rfl, z, rfl, small1000 (by omega) |> Nat.le_of_lt, _, _, rfl, rfl, _, rfl, ?_⟩
    rw [decide_eq_true (show (1 : Int) ≤ (z.length : Int) by omega)]
    refine iteT ⟨_, _, rfl, rfl, _, rfl, ?_⟩
    rw [decide_eq_true (show (z.length : Int) ≤ 8 by omega)]
    refine iteF ?_
    refine ⟨_, rfl, z, rfl, fun D hD => lcv walk_strL (fun _ => .bl true) hD (fun _ _ => trivial) (by simp; show z.length ≤ 1000; omega) (fun _ => rfl) (fun x hx H2 s2 Q2 q2 => ?_) fun H2 s2 hd => ?_⟩
    · obtain ⟨c, hc, rfl⟩ := List.mem_map.mp hx
      refine ⟨_, rfl, c, lettersS, rfl, rfl, ?_⟩
      rw [show decide (c ∈ lettersS.cps.toList) = true from List.all_eq_true.mp hz3 c hc]
      exact q2 H2 (Same.refl _)
    · refine ⟨D, z.cps.toList.map fun _ => true, rfl, SqL.of (by rw [hd, List.map_map, List.map_map]; rfl), true, by simp, iteT ?_⟩
      refine ⟨_, rfl, by show 3 ≤ sizeLine; decide, fun p hp => ⟨p, _, rfl, .inr (SqT.of upd_same), rfl, rfl, ?_⟩⟩
      have e : inV (.str z) [.str "ground", .str "power", .str "nothing"] = false := by
        simp only [inV, List.any_cons, List.any_nil, eqV, Bool.or_false, Bool.or_eq_false_iff, beq_eq_false_iff_ne]
        exact ⟨fun e => hz4 e.symm, fun e => hz5 e.symm, fun e => hz6 e.symm⟩
      rw [e]
      exact q _ (s2.trans (same_new hp))
end
end Sj
set_option Elab.async false
set_option linter.all false
set_option maxRecDepth 100000
set_option maxHeartbeats 4000000
/-! SjRule1: len, in, [ ] and == by own special methods; enumerate over a tuple. -/
namespace Sj
open PySem PySem.Spec PyProof.Rows L2 He
section
variable {X : Cx} {j k : Nat} {C : Addr} {sp : Sp}
/-- len(o), o an instance with its own __len__ -/
def rLenO (C : Addr) (sp : Sp) : List V → Hp → VK → Prop := fun xs H Q => ∃ a dx fs, xs = [V.ref a] ∧ H a = some (.ins C dx fs) ∧ sp [.ref a] H (fun v H' => ∃ n : Nat, v = .int n ∧ n ≤ 100000 ∧ Q (.int n) H') E0
theorem call_lenO (G : SF X.prog X.w X.K X.mg X.base C "__len__" j sp) (hr : Room k X.A) (hj : j + 1 ≤ k := by decide) : CallR X (.builtin "len") (rLenO C sp) := by
  intro pins s σ H xs us Q I r h
  obtain ⟨f, hf, F⟩ := G.ex
  obtain ⟨a, dx, fs, rfl, ea, h⟩ := h
  obtain ⟨u, rfl, ru⟩ := vals1 r
  obtain rfl : u = Value.ref a := ru
  obtain ⟨mA, O, _⟩ := ins_get I.hok ea
  obtain ⟨od, J, _⟩ := O.look
  obtain ⟨m, hF⟩ := I.fr
  refine PySem.W.len_K hF I.ok.mod.kin J hf.at_ hf.fn (wpAny_call (codeAny_mono (SlX.run_at (X := X) (ws := [.ref a]) F ((hr.mono hj).in1) I.env0.in1 pass0 I (.cons rfl .nil) h) fun r s' hq => ?_))
  cases r with
  | error e => exact hq
  | ok fl =>
    cases fl with
    | ret v =>
      obtain ⟨z, H', I', rz, n, rfl, hn, q⟩ := hq
      obtain ⟨t, rfl⟩ := rz
      exact ⟨⟨Int.natCast_nonneg n, by omega⟩, ⟨.int n, H', I'.tok _, ⟨_, rfl⟩, q⟩⟩
    | next => exact False.elim hq
    | brk => exact False.elim hq
    | cont => exact False.elim hq
/-- x in o, o an instance with its own __contains__ -/
def rInO (C : Addr) (sp : Sp) : R2 := fun x y H Q => ∃ a dx fs, y = V.ref a ∧ H a = some (.ins C dx fs) ∧ sp [.ref a, x] H (fun v H' => ∃ b, v = .bl b ∧ Q (.bl b) H') E0
theorem op_inO (G : SF X.prog X.w X.K X.mg X.base C "__contains__" j sp) (hr : Room k X.A) (hj : j ≤ k := by decide) : OpR X (compareOp .In) (rInO C sp) := by
  intro pins s σ H x y v u Q I rx ry h
  obtain ⟨f, hf, F⟩ := G.ex
  obtain ⟨a, dx, fs, rfl, ea, h⟩ := h
  obtain rfl : u = Value.ref a := ry
  obtain ⟨mA, O, _⟩ := ins_get I.hok ea
  obtain ⟨od, J, _⟩ := O.look
  obtain ⟨m, hF⟩ := I.fr
  refine PySem.W.in_K hF I.ok.mod.kin J hf.at_ hf.fn (wpAny_call (codeAny_mono (run_fnR (X := X) (vs := [.ref a, x]) F (hr.mono hj) pass0 I (.cons rfl (.cons rx .nil)) h) fun r s' hq => ?_))
  cases r with
  | error e => exact hq
  | ok fl =>
    cases fl with
    | ret v =>
      obtain ⟨z, H', I', rz, b, rfl, q⟩ := hq
      cases rz
      exact wpAny_truthy_bool ⟨.bl b, H', I', rfl, q⟩
    | next => exact False.elim hq
    | brk => exact False.elim hq
    | cont => exact False.elim hq
/-- o[i], o an instance with its own __getitem__ -/
def rGetO (C : Addr) (sp : Sp) : R2 := fun x y H Q => ∃ a dx fs, x = V.ref a ∧ H a = some (.ins C dx fs) ∧ sp [.ref a, y] H Q E0
theorem pe_getO {a b : Expr} {ta tb : TE} {pos : Pos} (G : SF X.prog X.w X.K X.mg X.base C "__getitem__" j sp) (hr : Room k X.A) (ha : PE X a ta) (hb : PE X b tb) (hj : j + 1 ≤ k := by decide)
    (hsl : ∀ x i, subscripted b true (.ref x) i = runValue (.builtin "lifetime.subscript" ⟨[.ref x, i], []⟩) := by intro _ _; with_unfolding_all rfl) : PE X (.Subscript a b pos) (tOp (rGetO C sp) ta tb) := by
  refine ⟨fun pins s σ H Q I h => Subscript_ (binT ha hb I h fun v u s2 x y H2 I2 rx ry q => ?_)⟩
  obtain ⟨f, hf, F⟩ := G.ex
  obtain ⟨p, dx, fs, rfl, ea, q⟩ := q
  obtain rfl : v = Value.ref p := rx
  obtain ⟨mA, O, _⟩ := ins_get I2.hok ea
  obtain ⟨od, J, _⟩ := O.look
  obtain ⟨m, hF⟩ := I2.fr
  refine PySem.W.sub_K hF I2.ok.mod.kin J hf.at_ hf.fi hf.fn (wpAny_call (codeAny_mono (SlX.run_at (X := X) (ws := [.ref p, y]) F ((hr.mono hj).in1) I2.env0.in1 pass0 I2 (.cons rfl (.cons ry .nil)) q) fun r s' hq => ?_)) (hsl _ _)
  cases r with
  | error e => exact hq
  | ok fl =>
    cases fl with
    | ret v => exact hq
    | next => exact False.elim hq
    | brk => exact False.elim hq
    | cont => exact False.elim hq
/-- a == b, a an instance with its own __eq__, b one of the same class -/
def rEqO (C : Addr) (sp : Sp) : R2 := fun x y H Q => ∃ a b dx dy fs gs, x = V.ref a ∧ y = V.ref b ∧ H a = some (.ins C dx fs) ∧ H b = some (.ins C dy gs) ∧ sp [.ref a, .ref b] H (fun v H' => ∃ r, v = .bl r ∧ Q (.bl r) H') E0
theorem op_eqO (G : SF X.prog X.w X.K X.mg X.base C "__eq__" j sp) (hr : Room k X.A) (hj : j ≤ k := by decide) : OpR X (compareOp .Eq) (rEqO C sp) := by
  intro pins s σ H x y v u Q I rx ry h
  obtain ⟨f, hf, F⟩ := G.ex
  obtain ⟨a, b, dx, dy, fs, gs, rfl, rfl, ea, eb, h⟩ := h
  obtain rfl : v = Value.ref a := rx
  obtain rfl : u = Value.ref b := ry
  obtain ⟨mA, O, _⟩ := ins_get I.hok ea
  obtain ⟨od, J, _⟩ := O.look
  obtain ⟨mB, O', _⟩ := ins_get I.hok eb
  obtain ⟨od', J', _⟩ := O'.look
  obtain ⟨m, hF⟩ := I.fr
  show wpAny (model X.prog X.w) X.A (richCompare .Eq (.ref a) (.ref b)) (EP X pins σ Q) X.xe s
  refine PySem.W.cmp_K (op := .Eq) (tb := .ref C) hr.units0 hF I.ok.mod.kin J J'.type (by simp [PySem.W.notFirst]) hf.at_ hf.fn (wpAny_call (codeAny_mono (run_fnR (X := X) (vs := [.ref a, .ref b]) F (hr.mono hj) pass0 I (.cons rfl (.cons rfl .nil)) h) fun r s' hq => ?_))
  cases r with
  | error e => exact hq
  | ok fl =>
    cases fl with
    | ret v =>
      obtain ⟨z, H', I', rz, r, rfl, q⟩ := hq
      cases rz
      exact ⟨.bl r, H', I', rfl, q⟩
    | next => exact False.elim hq
    | brk => exact False.elim hq
    | cont => exact False.elim hq
end
/-! ### enumerate(t), t a tuple -/
def IteT (K : Frg) (a : Addr) (xs : List V) : It :=
  ⟨fun i H => SqT K H a xs ∧ i < xs.length, fun i H v H' => ∃ T x, v = .ref T ∧ H T = none ∧ H' = upd H T (.tup [.int (i : Nat), x]) ∧ xs[i]? = some x, fun i H => SqT K H a xs ∧ i = xs.length⟩
theorem turn_enumT {P : Program} {w : World} {K : Frg} {elts : List Expr} {kk : Nat} {tpos : Pos} (a e it : Addr) (xs : List V) :
    Turn P w K (.Tuple elts kk tpos) (IteT K a xs) [e, it] e (fun i h => (∃ old, IsEnum h e it ((i : Nat) : Int) old) ∧ h.IsTupleIter it a i ∧ e ≠ it ∧ a ≠ it ∧ e ≠ a) where
  mem := by simp
  obj := fun i h st b hb => by
    obtain ⟨⟨old, he⟩, ⟨o, ho, hc, hd⟩, _⟩ := st
    rcases List.mem_cons.mp hb with z | z
    · rw [z]; exact ⟨_, he, fun v q => nomatch q⟩
    · rw [List.mem_singleton.mp z]; exact ⟨o, ho, fun v q => by rw [hd] at q; cases q⟩
  keep := fun i h h' st k => ⟨⟨st.1.choose, k e (by simp) _ st.1.choose_spec⟩, st.2.1.at fun o q => k it (by simp) o q, st.2.2⟩
  item := by
    intro X hP hw hK hc i pins s σ H E I hf st hg
    subst hP hw hK
    obtain ⟨⟨old, he⟩, hit, hne, hai, hea⟩ := st
    obtain ⟨hq, hi⟩ := hg
    obtain ⟨its, rv, p, hz⟩ := I.tuple hq
    have hlen : xs.length = its.length := rv.length
    have hel : e < s.heap.objs.size := Heap.lt_size he
    have hil : it < s.heap.objs.size := by obtain ⟨_, q, _⟩ := hit; exact Heap.lt_size q
    have D := Draws.tuple (prog := X.prog) (w := X.w) (A := X.A.in1) (I.ok.hd hc) it a hai its.toArray
    refine wpAny_pyNext_enum_itemD D he ⟨hit, p⟩ (show i < its.toArray.size by rw [List.size_toArray]; omega) hne (by simp [hne, hea]) fun u h' tk hu ho hst hT hsz hk => ?_
    have hu2 : its[i]? = some u := by simpa using hu
    have hx : ∃ x, xs[i]? = some x := ⟨xs[i], List.getElem?_eq_getElem hi⟩
    obtain ⟨x, hx⟩ := hx
    obtain ⟨u2, hu3, ru⟩ := rv.get hx
    rw [hu2] at hu3
    cases hu3
    refine ⟨_, rfl, wpAny_letOwnedTupleGo_enum (s := { s with heap := h', toks := tk + 1 }) ho fun h'' he' sb => ?_⟩
    have hT2 : h''.get? s.heap.objs.size = some { cls := .type "tuple", data := .seq #[.int i tk, u] } := (sb.2 _ (Nat.ne_of_gt hel)).trans hT
    have new : ObjOk X.prog X.w (upd H s.heap.objs.size (.tup [.int (i : Nat), x])) h'' s.heap.objs.size (.tup [.int (i : Nat), x]) :=
      ⟨by show 2 ≤ sizeLine; decide, [.int i tk, u], .cons ⟨_, rfl⟩ (.cons ru .nil), ⟨_, hT2, rfl, _, rfl⟩⟩
    have I1 : Inv X pins σ (upd H s.heap.objs.size (.tup [.int (i : Nat), x])) { s with heap := h'', toks := tk + 1 } :=
      I.turnedNew (ch := [e, it]) (fun b ob hb q => (sb.2 b (fun z => hb (by simp [z]))).trans (hk b ob (fun z => hb (by simp [z])) (fun z => hb (by simp [z])) q)) hf (Nat.le_refl _) new
    refine ⟨.ref s.heap.objs.size, _, I1, rfl, ⟨_, x, rfl, I.hok.fresh (Nat.le_refl _), rfl, hx⟩, ⟨⟨u, ?_⟩, hst.1.at fun o q => (sb.2 it (Ne.symm hne)).trans q, hne, hai, hea⟩, fun b hb => ?_⟩
    · have e1 : ((i + 1 : Nat) : Int) = (i : Int) + 1 := by omega
      rw [e1]
      exact he'
    · have hb' : b < s.heap.objs.size := by
        rcases List.mem_cons.mp hb with z | z
        · rw [z]; exact hel
        · rw [List.mem_singleton.mp z]; exact hil
      rw [upd_ne (Nat.ne_of_lt hb')]
      exact (hf b hb).1
  done := by
    intro X hP hw hK hc i pins s σ H E I hf st hg
    subst hP hw hK
    obtain ⟨⟨old, he⟩, hit, hne, hai, hea⟩ := st
    obtain ⟨hq, hi⟩ := hg
    obtain ⟨its, rv, p, hz⟩ := I.tuple hq
    have hlen : xs.length = its.length := rv.length
    obtain ⟨f0, f1, f2, f3, f4, f5⟩ := hf it (by simp)
    have D := Draws.tuple (prog := X.prog) (w := X.w) (A := X.A.in1) (I.ok.hd hc) it a hai its.toArray
    have hsz : its.toArray.size = i := by rw [List.size_toArray]; omega
    exact wpAny_pyNext_enum_endD D he ⟨by rw [hsz]; exact hit, p⟩ fun h' eb => ⟨rfl, I.turned (t' := s.toks) (fun b o hb q => eb b o hb q) f0 f1 f3 f4 f5⟩
  self := fun A i s Q E st h => let ⟨⟨_, he⟩, _⟩ := st; wpAny_pyIter_enum he h
theorem meets_enumT (l : Addr) (items : Array Value) (n : Nat) (dct : Option Addr) (sl : Array (Option Value)) :
    Meets (Builtin.«enumerate.__new__» ⟨[.type "enumerate", .ref l], []⟩) (fun _ R s => s.heap.get? l = some { cls := .type "tuple", dict := dct, data := .seq items n, slots := sl } ∧
      R (.ok (.ret (.ref (s.heap.push { cls := .type "tuple_iterator", data := .fields #[.ref l, .int 0 0] }).objs.size)))
        { s with heap := (s.heap.push { cls := .type "tuple_iterator", data := .fields #[.ref l, .int 0 0] }).push { cls := .type "enumerate", data := .fields #[.none, .bool false, .ref s.heap.objs.size, rawInt 0, .none, .none] } }) :=
  .of_wp fun prog w A R s h => by
    obtain ⟨hp, g, d, tk, os⟩ := s
    obtain ⟨hl, h⟩ := h
    have hsub := sub_enumerate
    have hL : Heap.IsTuple (Shared.heap ⟨hp, g, d, tk, os⟩) l items := ⟨_, hl, rfl, n, rfl⟩
    wp_walk using PySem.AutoSeq1.wpAny_loadPart' hl
    refine wpAny_stack_any fun st => wpAny_pure ?_
    split
    · rename_i c _ _ _ _ _
      cases (c == Value.type "enumerate") <;> (wp_walk using PySem.AutoSeq1.wpAny_loadPart' hl, wpAny_pyIter_tuple hL; exact ⟨_, rfl, h⟩)
    · wp_walk using PySem.AutoSeq1.wpAny_loadPart' hl, wpAny_pyIter_tuple hL
      exact ⟨_, rfl, h⟩
theorem call_enumT {prog : Program} {w : World} {A : Around} {E : Value → Shared → Prop} {s : Shared} {l : Addr} {items : Array Value} {Q : Value → Shared → Prop} (hL : s.heap.IsTuple l items)
    (h : ∀ h', IsEnum h' (s.heap.objs.size + 1) s.heap.objs.size 0 .none → h'.IsTupleIter s.heap.objs.size l 0 → (∀ b o, s.heap.get? b = some o → h'.get? b = some o) → Q (.ref (s.heap.objs.size + 1)) { s with heap := h' }) :
    wpAny (model prog w) A (call (.type "enumerate") [.ref l]) Q E s := by
  obtain ⟨⟨c, dct, dt, sl⟩, hl, hc, n, hd⟩ := hL
  replace hc : c = .type "tuple" := hc
  replace hd : dt = .seq items n := hd
  subst hc hd
  refine callType_new F.called_enumerate (by decide) (F.typeCall_enumerate_1 _) (F.newCall_enumerate_1 _) (fun obj => F.args_object_init_2 obj _) F.entry_enumerate_new (meets_enumT l items n dct sl) ⟨hl, ?_⟩
  have hz : (s.heap.push { cls := .type "tuple_iterator", data := .fields #[.ref l, .int 0 0] }).objs.size = s.heap.objs.size + 1 := Heap.size_push ..
  show _ ∧ _
  rw [hz]
  have he : IsEnum ((s.heap.push { cls := .type "tuple_iterator", data := .fields #[.ref l, .int 0 0] }).push { cls := .type "enumerate", data := .fields #[.none, .bool false, .ref s.heap.objs.size, rawInt 0, .none, .none] }) (s.heap.objs.size + 1) s.heap.objs.size 0 .none := by
    have z := Heap.get?_push_size (s.heap.push { cls := .type "tuple_iterator", data := .fields #[.ref l, .int 0 0] }) (o := { cls := .type "enumerate", data := .fields #[.none, .bool false, .ref s.heap.objs.size, rawInt 0, .none, .none] }) rfl
    rw [hz] at z
    exact z
  exact ⟨⟨_, he, rfl⟩, h _ he ⟨_, Heap.get?_push_of_some _ (Heap.get?_push_size _ rfl), rfl, rfl⟩ fun b o x => Heap.get?_push_of_some _ (Heap.get?_push_of_some _ x)⟩
def iEnumT (K : Frg) (ta : TA) : TI := fun σ H R => ta σ H fun vs H1 => ∃ a xs, vs = [.ref a] ∧ SqT K H1 a xs ∧ R (IteT K a xs) H1
theorem pi_enumT {X : Cx} {e : Expr} {ta : TA} {p pos tpos : Pos} {elts : List Expr} {kk : Nat} (hg : Gl X "enumerate") (hm : X.mg "enumerate" = none) (ha : PA X [e] ta) (hs : starEach [e] X.env = [(false, eval e X.env)] := by rfl) :
    PI X (.Tuple elts kk tpos) (.Call (.Name "enumerate" p) [e] [] pos) (iEnumT X.K ta) := by
  refine ⟨fun pins s σ H R I h => Call_ (ld_blt I hg hm boot_enumerate (PyProof.Rows.callWith_type1 (thn (ha.run pos pins s σ H _ I h) fun us s1 ⟨vs, H1, I1, r1, q1⟩ => ?_) hs rfl))⟩
  obtain ⟨a, xs, ex, hq, q⟩ := q1
  subst ex
  obtain ⟨u, rfl, ru⟩ := vals1 r1
  obtain rfl : u = Value.ref a := ru
  obtain ⟨its, rv, p', hz⟩ := I1.tuple hq
  have hlt : a < s1.heap.objs.size := by obtain ⟨_, z, _⟩ := p'; exact Heap.lt_size z
  refine call_enumT p' fun h' he hit hk => wpAny_pyIter_enum he ?_
  have I2 : Inv X pins σ H1 { s1 with heap := h' } := I1.kept (t' := s1.toks) hk
  refine ⟨s1.heap.objs.size + 1, [s1.heap.objs.size + 1, s1.heap.objs.size], _, _, H1, rfl, I2, turn_enumT a (s1.heap.objs.size + 1) s1.heap.objs.size xs, ⟨⟨.none, he⟩, hit, Nat.succ_ne_self _, Nat.ne_of_lt hlt, Nat.ne_of_gt (Nat.lt_succ_of_lt hlt)⟩, fun b hb => ?_, q⟩
  have hle : s1.heap.objs.size ≤ b := by
    rcases List.mem_cons.mp hb with z | z
    · rw [z]; exact Nat.le_add_right _ _
    · rw [List.mem_singleton.mp z]; exact Nat.le_refl _
  exact I1.fpOk hle (I1.hok.fresh hle)
theorem walk_enumT {K : Frg} {a : Addr} {xs : List V} : Walk (IteT K a xs) xs.length (fun H => SqT K H a xs) (YPair (fun i => some (.int (i : Nat))) (fun i => xs[i]?)) := by
  refine ⟨fun i _ hi q => ⟨q, hi⟩, fun _ q => ⟨q, rfl⟩, fun i H v H' _ q y => ?_⟩
  obtain ⟨T, x, h1, h2, h3, h4⟩ := y
  exact ⟨T, .int (i : Nat), x, h1, h2, h3, rfl, h4⟩
end Sj
set_option Elab.async false
set_option linter.all false
set_option maxRecDepth 100000
set_option maxHeartbeats 4000000
/-! SjRule2: a tuple times a small number, none and one among them. -/
namespace Sj
open PySem PySem.Spec PyProof.Rows L2 He
theorem tuple_mul1 (l : Addr) (items : Array Value) (n : Nat) (dd : Option Addr) (sl : Array (Option Value)) (u : Tok) :
    Meets (Builtin.«tuple.__mul__» ⟨[.ref l, .int 1 u], []⟩) (fun _ R s => s.heap.get? l = some { cls := .type "tuple", dict := dd, data := .seq items n, slots := sl } ∧ R (.ok (.ret (Value.ref l))) s) :=
  .of_wp fun prog w A R s h => by
    obtain ⟨hp, g, d, tk, os⟩ := s
    obtain ⟨hl, h⟩ := h
    have f1 := AutoSeq1.idx_int
    wp_walk using PySem.AutoSeq1.wpAny_loadPart' hl
    exact ⟨_, rfl, h⟩
theorem tuple_mul0 (l : Addr) (items : Array Value) (n : Nat) (dd : Option Addr) (sl : Array (Option Value)) (u : Tok) (hne : items.isEmpty = false) :
    Meets (Builtin.«tuple.__mul__» ⟨[.ref l, .int 0 u], []⟩) (fun _ R s => s.heap.get? l = some { cls := .type "tuple", dict := dd, data := .seq items n, slots := sl } ∧
      R (.ok (.ret (Value.ref s.heap.objs.size))) { s with heap := s.heap.push { cls := Value.type "tuple", data := Data.seq #[] }, toks := s.toks }) :=
  .of_wp fun prog w A R s h => by
    obtain ⟨hp, g, d, tk, os⟩ := s
    obtain ⟨hl, h⟩ := h
    have f1 := AutoSeq1.idx_int
    wp_walk using PySem.AutoSeq1.wpAny_loadPart' hl
    repeat (first
      | (refine wpAny_ite_false (decide_eq_false (by rw [hne]; simp)) ?_; wp_walk using PySem.AutoSeq1.wpAny_loadPart' hl))
    exact ⟨_, rfl, h⟩
/-- t * k, t a tuple that is not empty, k from 0 on -/
def rRepU (K : Frg) : R2 := fun x y H Q => ∃ l k xs, x = .ref l ∧ y = .int k ∧ SqT K H l xs ∧ xs ≠ [] ∧ 0 ≤ k ∧ k ≤ 1000 ∧ xs.length ≤ 1000 ∧ ∀ p H', Same H H' → SqT K H' p (List.replicate k.toNat xs).flatten → (H l = some (.tup xs) → H' p = some (.tup (List.replicate k.toNat xs).flatten)) → Q (.ref p) H'
theorem op_repU {X : Cx} : OpR X (binaryOp .Mult) (rRepU X.K) := by
  intro pins s σ H x y v u Q I rx ry h
  obtain ⟨l, k, xs, rfl, rfl, hT, hne, h0, h2, hz, q⟩ := h
  by_cases hk : 2 ≤ k
  · exact op_repT pins s σ H _ _ v u Q I rx ry ⟨l, k, xs, rfl, rfl, hT, hne, hk, h2, hz, fun p hp => q p _ (same_new hp) (SqT.of upd_same) fun _ => upd_same⟩
  · cases rx
    obtain ⟨t, rfl⟩ := ry
    obtain ⟨its, r, ⟨⟨cls, dd, data, sl⟩, ho, hc, n, hd⟩, hs⟩ := I.tuple hT
    simp only at hc hd
    subst hc hd
    have hle : its.length = xs.length := r.length.symm
    have hn : its ≠ [] := fun e => hne (by
      rw [e] at hle
      exact List.eq_nil_of_length_eq_zero hle.symm)
    have hi : its.toArray.isEmpty = false := by
      cases its with
      | nil => exact absurd rfl hn
      | cons a b => rfl
    by_cases h1 : k = 1
    · subst h1
      refine wpAny_binaryOp_repeat_ref (T := "tuple") (U := "int") (by decide) ⟨_, ho, rfl⟩ (fun s' => typeIs_int s' 1 t) noFill_tuple_mul F.fills_int_mul F.slot_int_rmul repeat_tuple F.slot_int_index.lookup
        (call_meets F.slot_int_rmul (typeIs_int s 1 t) F.entry_int_rmul (F.args_int_rmul_2 _ _) (int_rmul_tuple 1 t l its.toArray n dd sl)
          ⟨ho, rfl, ⟨_, ho, rfl⟩, call_meets F.slot_tuple_mul ⟨_, ho, rfl⟩ F.entry_tuple_mul (F.args_tuple_mul_2 _ _) (tuple_mul1 l its.toArray n dd sl t) ⟨ho, ?_⟩⟩)
      have e : (List.replicate (1 : Int).toNat xs).flatten = xs := by simp
      refine ⟨.ref l, H, I, rfl, q l H (Same.refl H) ?_ ?_⟩
      · rw [e]
        exact hT
      · rw [e]
        exact fun z => z
    · obtain rfl : k = 0 := by omega
      refine wpAny_binaryOp_repeat_ref (T := "tuple") (U := "int") (by decide) ⟨_, ho, rfl⟩ (fun s' => typeIs_int s' 0 t) noFill_tuple_mul F.fills_int_mul F.slot_int_rmul repeat_tuple F.slot_int_index.lookup
        (call_meets F.slot_int_rmul (typeIs_int s 0 t) F.entry_int_rmul (F.args_int_rmul_2 _ _) (int_rmul_tuple 0 t l its.toArray n dd sl)
          ⟨ho, rfl, ⟨_, ho, rfl⟩, call_meets F.slot_tuple_mul ⟨_, ho, rfl⟩ F.entry_tuple_mul (F.args_tuple_mul_2 _ _) (tuple_mul0 l its.toArray n dd sl t hi) ⟨ho, ?_⟩⟩)
      refine ⟨.ref s.heap.objs.size, _, I.laid (t' := s.toks) (o := .tup []) (fun b ob q => Heap.get?_push_of_some _ q) (Nat.le_refl _) ?_, rfl, q _ _ (same_new (I.hok.fresh (Nat.le_refl _))) (SqT.of upd_same) fun _ => upd_same⟩
      exact ⟨by show 0 ≤ sizeLine; decide, [], .nil, IsTup.new _ _⟩
end Sj
set_option Elab.async false
set_option linter.all false
set_option maxRecDepth 100000
set_option maxHeartbeats 4000000
/-! SjRule3: sets of texts: the set comprehension, set(list), set(tuple), len. -/
namespace Sj
open PySem PySem.Spec PyProof.Rows L2 He
theorem setOf_cg {P : Program} {w : World} {h : Heap} {a : Addr} {S S' : Key → Bool} {n n' : Nat} (hS : h.SetOf (mixKind P w) a S n) (e : ∀ k, S k = S' k) (en : n = n') : h.SetOf (mixKind P w) a S' n' := by
  obtain rfl : S = S' := funext e
  rw [← en]
  exact hS
theorem setK_fresh {P : Program} {w : World} (h : Heap) : (h.push { cls := .type "set", dict := none, data := .set #[] 0 (.fresh 0 0 (!w.params.followText "set-order")) }).SetOf (mixKind P w) h.objs.size (fun _ => false) 0 :=
  ⟨_, #[], 0, _, Heap.get?_push_size _ rfl, ⟨rfl, rfl, rfl⟩, rfl, (fun e he => by simp at he), (fun k => by simp), (by decide), (by rfl), rfl⟩
section
variable {X : Cx}
theorem addK_ok {pins : List (Addr × Obj)} {σ : L2.St} {H : Hp} {s : Shared} {E : Value → Shared → Prop} {D : Addr} {S : Key → Bool} {n : Nat} {y : Key} {u : Value} {Q : Value → Shared → Prop} (I : Inv X pins σ H s) (hD : H D = some (SetK X.prog X.w D S n)) (ry : RelV (kV y) u) (room : n + 1 < scanBound)
    (h : ∀ s', Inv X pins σ (upd H D (SetK X.prog X.w D (fun j => S j || decide (j = y)) (if S y = true then n else n + 1))) s' → Q .none s') : wpAny (model X.prog X.w) X.A (call (.builtin "set.add") [.ref D, u]) Q E s := by
  refine call_set_add (kV_is ry) (key_scan ry) (setK_get I hD) room fun h' sb new => ?_
  have he : ∃ u, h'.get? D = some u := by
    have ⟨o, _, _, _, ho, _⟩ := new
    exact ⟨o, ho⟩
  exact h _ (I.write (e := D) (t' := s.toks + 1) (by rw [hD]; trivial) (.inl rfl) (fun b u hb hu => (sb.2 b hb).trans hu) he (setK_new new))
/-- {elt for target in iter if ..}, elt a key: D the new set -/
def tScK (P : Program) (w : World) (wi : TI) (g : TG) (tt : TT) (te : TE) (vs : List Nat) : TE := fun σ H Q => wi σ H fun J H1 => ∀ D, H1 D = none → ∃ W : Nat → Nat → Hp → Prop, (∃ m, W 0 m (upd H1 D (SetK P w D (fun _ => false) 0))) ∧ ∀ i m H, W i m H →
  (J.stop i H ∧ Q (.ref D) H) ∨ (J.go i H ∧ ∃ Nx : Hp → Prop, (∀ H', Nx H' → ∃ m', m' < m ∧ W (i + 1) m' H') ∧ ∀ x H', J.yld i H x H' → g x (wipe σ vs) H' fun σ2 H2 => wipe σ2 vs = wipe σ vs ∧ tt σ2 H2 fun b H3 =>
    if b = true then te σ2 H3 fun y H4 => ∃ (c : Key) (S : Key → Bool) (n : Nat), y = kV c ∧ H4 D = some (SetK P w D S n) ∧ n + 1 < scanBound ∧ Nx (upd H4 D (SetK P w D (fun j => S j || decide (j = c)) (if S c = true then n else n + 1))) else Nx H3)
theorem sck_core {pins : List (Addr × Obj)} {s : Shared} {σ : L2.St} {H : Hp} {Q : VK} {elt tg iter : Expr} {ifs : List Expr} {scope : Scope} {own : List (PySem.Str × Nat)} {pos pos' : Pos} {wi : TI} {g : TG} {tt : TT} {te : TE} {use : Option (Value → Sem Unit)} {Qf : Value → Shared → Prop}
    (hc : X.calm = true) (hN : X.N.Nodup) (I : Inv X pins σ H s) (hi : PI X tg iter wi) (ok : BlkOk X.N X.env.scope scope own)
    (hg : ∀ (s : Shared) (H : Hp) (C : Addr) (cl : List (PySem.Str × Addr)) (fp : List Addr), PG (X.blk s H scope (compEnvC scope cl C X.env) fp) tg g) (ht : ∀ (s : Shared) (H : Hp) (C : Addr) (cl : List (PySem.Str × Addr)) (fp : List Addr), PTs (X.blk s H scope (compEnvC scope cl C X.env) fp) ifs tt)
    (he : ∀ (s : Shared) (H : Hp) (C : Addr) (cl : List (PySem.Str × Addr)) (fp : List Addr), PE (X.blk s H scope (compEnvC scope cl C X.env) fp) elt te) (hs : ∀ x, foldedSetIterable iter X.env x = pure x)
    (h : tScK X.prog X.w wi g tt te (own.map (·.2)) σ H Q)
    (hRR : ∀ D C s' m H', Inv X pins σ H' s' → Q (.ref D) H' → s'.heap.Ns C m → FpOk X pins H' C → compPost (model X.prog X.w) X.A X.xe use Qf (.ref D) C (.ok .next) s') :
    wpAny (model X.prog X.w) X.A (comprehension (.SetComp elt [⟨tg, iter, ifs, 0⟩] scope pos) scope X.env pos' (newSet (.type "set")) false (eval iter X.env) use) Qf X.xe s := by
  have hfree : ∀ y ∈ scope.names, y.2 = .free → ∃ c, X.env.cells.lookup y.1 = some c := fun y hy e => by
    rcases ok.free y hy e with k | k
    · exact I.ok.has _ (.inl k)
    · exact I.ok.has _ (.inr k)
  refine wpAny_comprehension_free (use := use) rfl hs (closure_ok hfree) ok.kind (fun y hy e => by rw [ok.uniq y hy, e])
    (thn (hi.run pins s σ H _ I h) fun xv s1 hx => thn hx fun itv s2 h2 => ?_)
  obtain ⟨it, fp, tn, J, H2, e, I2, T, st2, f2, q⟩ := h2
  subst e
  refine PpSet.newSet_ok (newEnv_comp ?_)
  generalize hD : s2.heap.objs.size = D
  have hDn : H2 D = none := I2.hok.fresh (Nat.le_of_eq hD)
  obtain ⟨W, ⟨m0, w0⟩, turn⟩ := q D hDn
  -- the new list
  generalize hs3 : ({ s2 with heap := s2.heap.push { cls := .type "set", dict := none, data := .set #[] 0 (.fresh 0 0 (!X.w.params.followText "set-order")) } } : Shared) = s3
  have I3 : Inv X pins σ (upd H2 D (SetK X.prog X.w D (fun _ => false) 0)) s3 := by
    rw [← hs3]
    refine I2.laid (t' := s2.toks) (fun b o e => Heap.get?_push_of_some _ e) (Nat.le_of_eq hD) ?_
    rw [← hD]
    exact setK_new (setK_fresh _)
  have h3 : s3.heap = s2.heap.push { cls := .type "set", dict := none, data := .set #[] 0 (.fresh 0 0 (!X.w.params.followText "set-order")) } := by rw [← hs3]
  have sz : ∀ b ∈ fp, b < s2.heap.objs.size := fun b hb => by
    obtain ⟨o, e, _⟩ := T.obj _ _ st2 b hb
    exact Heap.lt_size e
  have f3 : ∀ b ∈ fp, FpOk X pins (upd H2 D (SetK X.prog X.w D (fun _ => false) 0)) b ∧ b < s3.heap.objs.size := fun b hb => by
    have hlt := sz b hb
    refine ⟨⟨?_, (f2 b hb).2⟩, by rw [h3, Heap.size_push]; exact Nat.lt_succ_of_lt hlt⟩
    rw [upd_ne (by rw [← hD]; exact Nat.ne_of_lt hlt)]
    exact (f2 b hb).1
  have st3 : tn 0 s3.heap := T.keep _ _ _ st2 fun b _ o e => by rw [h3]; exact Heap.get?_push_of_some _ e
  have I4 := block_start I3 ok hN f3
  have pg := hg s3 (upd H2 D (SetK X.prog X.w D (fun _ => false) 0)) s3.heap.objs.size (cellsFrom (s3.heap.objs.size + 1) scope.names (cloFrom X.env.cells scope.names [])) fp
  have pt := ht s3 (upd H2 D (SetK X.prog X.w D (fun _ => false) 0)) s3.heap.objs.size (cellsFrom (s3.heap.objs.size + 1) scope.names (cloFrom X.env.cells scope.names [])) fp
  have pe := he s3 (upd H2 D (SetK X.prog X.w D (fun _ => false) 0)) s3.heap.objs.size (cellsFrom (s3.heap.objs.size + 1) scope.names (cloFrom X.env.cells scope.names [])) fp
  show codeAny _ _ (.compStart (.SetComp elt [⟨tg, iter, ifs, 0⟩] scope pos) 0 (.ref it) (.ref D) (compEnvC scope (cellsFrom (s3.heap.objs.size + 1) scope.names (cloFrom X.env.cells scope.names [])) s3.heap.objs.size X.env)) (compPost (model X.prog X.w) X.A X.xe use Qf (.ref D) s3.heap.objs.size) { s3 with heap := pushCells (s3.heap.push { cls := .type "dict", data := .dict #[] }) scope.names }
  have nfp : ∀ b ∈ fp, (upd H2 D (SetK X.prog X.w D (fun _ => false) 0)) b = none := fun b hb => (f3 b hb).1.1
  generalize hce : compEnvC scope (cellsFrom (s3.heap.objs.size + 1) scope.names (cloFrom X.env.cells scope.names [])) s3.heap.objs.size X.env = ce at I4 pg pt pe ⊢
  have cL : ce.locals = s3.heap.objs.size := by subst hce; rfl
  generalize hH3 : upd H2 D (SetK X.prog X.w D (fun _ => false) 0) = H3 at I3 I4 pg pt pe w0 nfp f3
  generalize hs4 : ({ s3 with heap := pushCells (s3.heap.push { cls := .type "dict", data := .dict #[] }) scope.names } : Shared) = s4 at I4 ⊢
  have st4 : tn 0 s4.heap := T.keep _ _ _ st3 fun b _ o e => by rw [← hs4]; exact pushCells_keeps _ _ _ _ (Heap.get?_push_of_some _ e)
  have stat : ∀ {σ' : L2.St} {H' : Hp} {s' : Shared}, Inv (X.blk s3 H3 scope ce fp) [] σ' H' s' → (∀ b ∈ fp, H' b = none) → ∀ b ∈ fp, FpOk (X.blk s3 H3 scope ce fp) [] H' b := fun {σ' H' s'} I' hn b hb =>
    ⟨hn b hb, (I'.ok.exf b hb).1, I'.ok.exfs b hb, .inl hb, fun x c e => (I'.ok.exf b hb).2 x c e, fun p hp => absurd (show p ∈ ([] : List (Addr × Obj)) ++ [] from hp) (by simp)⟩
  have loop : codeAny (model X.prog X.w) X.A (.compLoop (.SetComp elt [⟨tg, iter, ifs, 0⟩] scope pos) 0 (.ref it) (.ref D) ce) (compPost (model X.prog X.w) X.A X.xe use Qf (.ref D) s3.heap.objs.size) s4 := by
    refine PpSet.compLoopS_any (fun n s' => ∃ i H', Inv (X.blk s3 H3 scope ce fp) [] (wipe σ (own.map (·.2))) H' s' ∧ tn i s'.heap ∧ (∀ b ∈ fp, H' b = none) ∧ W i n H') ?_ m0 ⟨0, H3, I4, st4, nfp, w0⟩
    rintro n s5 ⟨i, H5, I5, st5, n5, w5⟩
    rcases turn i n H5 w5 with ⟨stop, qq⟩ | ⟨go, Nx, hNx, step⟩
    · have td := T.done (X.blk s3 H3 scope ce fp) rfl rfl rfl hc i [] s5 _ H5 (fun _ _ => False) I5 (stat I5 n5) st5 stop
      refine thnF td fun r s6 ⟨hr, I6⟩ => ?_
      subst hr
      -- back in the def's context
      have I7 : Inv X pins σ H5 s6 := I3.call' (ch := fp) I6.os I6.base I6.hok I6.bare fun b hb => ⟨(f3 b hb).1.2.2.2.1, (f3 b hb).1.2.1, (f3 b hb).1.2.2.2.2.1, (f3 b hb).1.2.2.2.2.2⟩
      have nC : H5 s3.heap.objs.size = none := by
        have z : H5 ce.locals = none := I6.free
        rw [cL] at z
        exact z
      obtain ⟨m, hn, _⟩ := I6.loc
      have hn : s6.heap.Ns ce.locals m := hn
      rw [cL] at hn
      exact hRR D s3.heap.objs.size s6 m H5 I7 qq hn (I3.fpOk (Nat.le_refl _) nC)
    · have ti := T.item (X.blk s3 H3 scope ce fp) rfl rfl rfl hc i [] s5 _ H5 (fun _ _ => False) I5 (stat I5 n5) st5 go
      refine thnF ti fun r s6 ⟨u, hr, h6⟩ => ?_
      subst hr
      refine thnF h6 fun _ s7 ⟨x, H7, I7, r7, y7, st7, n7⟩ => ?_
      have I7' := I7.pinned (stat I7 n7) (T.obj _ _ st7)
      refine thnF (pg.run _ s7 _ H7 x u _ I7' r7 (step x H7 y7)) fun _ s8 ⟨σ8, H8, I8, hw8, q8⟩ => ?_
      refine thnF (pt.run _ s8 σ8 H8 _ I8 q8) fun b s9 ⟨H9, I9, q9⟩ => ?_
      -- the turn's end
      have fin : ∀ {s' : Shared} {H' : Hp}, Inv (X.blk s3 H3 scope ce fp) ([] ++ pinsAt fp s7.heap) σ8 H' s' → Nx H' → ∃ m, m < n ∧ ∃ i H', Inv (X.blk s3 H3 scope ce fp) [] (wipe σ (own.map (·.2))) H' s' ∧ tn i s'.heap ∧ (∀ b ∈ fp, H' b = none) ∧ W i m H' := fun {s' H'} I' nx => by
        obtain ⟨m', hm, w'⟩ := hNx H' nx
        have pin' : ∀ b ∈ fp, ∀ o, s7.heap.get? b = some o → s'.heap.get? b = some o ∧ H' b = none := fun b hb o e =>
          let z := I'.pin (b, o) (List.mem_append_right _ (List.mem_append_right _ (mem_pinsAt hb e)))
          ⟨z.1, z.2.1⟩
        have hl : (wipe σ (own.map (·.2))).length = σ8.length := by rw [← hw8, wipe_length]
        refine ⟨m', hm, i + 1, H', (I'.unpinned (pins := [])).weak hl (fun j v e => ?_), T.keep _ _ _ st7 fun b hb o e => (pin' b hb o e).1, fun b hb => ?_, w'⟩
        · rw [← hw8] at e
          exact (wipe_some e).1
        · obtain ⟨o, e, _⟩ := T.obj _ _ st7 b hb
          exact (pin' b hb o e).2
      cases b with
      | false =>
        simp only [Bool.false_eq_true, if_false] at q9 ⊢
        exact fin I9 q9
      | true =>
        simp only [if_true] at q9 ⊢
        refine thnF (pe.run _ s9 σ8 H9 _ I9 q9) fun z s10 ⟨yv, H10, I10, r10, cb, S0, n0, ey, hD10, hz10, nx⟩ => ?_
        subst ey
        exact addK_ok (X := X.blk s3 H3 scope ce fp) I10 hD10 r10 hz10 fun s11 I11 => fin I11 nx
  exact PpSet.codeAny_compStart_set loop (T.self X.A 0 _ _ _ st4 loop)
/-- as a value -/
theorem pe_scK {elt tg iter : Expr} {ifs : List Expr} {scope : Scope} {own : List (PySem.Str × Nat)} {pos : Pos} {wi : TI} {g : TG} {tt : TT} {te : TE} (hc : X.calm = true) (hN : X.N.Nodup) (hi : PI X tg iter wi) (ok : BlkOk X.N X.env.scope scope own)
    (hg : ∀ (s : Shared) (H : Hp) (C : Addr) (cl : List (PySem.Str × Addr)) (fp : List Addr), PG (X.blk s H scope (compEnvC scope cl C X.env) fp) tg g) (ht : ∀ (s : Shared) (H : Hp) (C : Addr) (cl : List (PySem.Str × Addr)) (fp : List Addr), PTs (X.blk s H scope (compEnvC scope cl C X.env) fp) ifs tt)
    (he : ∀ (s : Shared) (H : Hp) (C : Addr) (cl : List (PySem.Str × Addr)) (fp : List Addr), PE (X.blk s H scope (compEnvC scope cl C X.env) fp) elt te) (hs : ∀ x, foldedSetIterable iter X.env x = pure x := by intro _; rfl) :
    PE X (.SetComp elt [⟨tg, iter, ifs, 0⟩] scope pos) (tScK X.prog X.w wi g tt te (own.map (·.2))) := by
  refine ⟨fun pins s σ H Q I h => ?_⟩
  rw [PpSet.eval_SetComp]
  refine sck_core hc hN I hi ok hg ht he hs h fun D C s' m H' I' q hn f => ⟨m, hn, fun h'' sb => ?_⟩
  obtain ⟨f0, f1, f2, f3, f4, f5⟩ := f
  exact ⟨.ref D, H', I'.turned (t' := s'.toks) (fun b o hb e => (sb.2 b hb).trans e) f0 f1 f3 f4 f5, rfl, q⟩
end
section
variable {prog : Program} {w : World} {A : Around} {R : Result → Shared → Prop} {I : Addr} {fp wr : List Addr} {G : Array GenState → Array GenState → Prop} {n : Nat} {P : Nat → Value → Prop} {St : Nat → Shared → Prop}
theorem loopK (W : WalksS prog w A.in1 I fp wr G n P St) (S : Addr) (hSf : S ∉ fp) (ks : List Key) (hnd : ks.Nodup) (hsz : ks.length = n) (hb : n + 1 < scanBound)
    (hval : ∀ i v, P i v → ∃ k, ks[i]? = some k ∧ RelV (kV k) v) :
    ∀ (k i : Nat) (s : Shared), n - i = k → i ≤ n → St i s → s.heap.SetOf (mixKind prog w) S (fun j => (ks.take i).any fun k => decide (k = j)) i →
      (∀ s', Moved (S :: wr) G s s' → s'.heap.SetOf (mixKind prog w) S (fun j => (ks.take n).any fun k => decide (k = j)) n → R (.ok (.ret .none)) s') →
      codeAny (model prog w) A (.builtin "set.update.loop" ⟨[.ref S, .ref I], []⟩) R s := by
  have hSw : S ∉ wr := fun h => hSf (W.sub _ h)
  have hsub : ∀ b ∈ wr, b ∈ S :: wr := fun b hb => List.mem_cons_of_mem _ hb
  intro k
  induction k with
  | zero =>
    intro i s hk hi hst hS hR
    have hin : i = n := by omega
    subst hin
    refine codeAny_builtin PyProof.Rows.F.entry_set_update_loop ?_
    rw [Around.under_plainId PyProof.Rows.F.plain_set_update_loop _]
    show wpAny _ A.in1 (pyNext (.ref I) >>= _) _ _ s
    refine wpAny_bind (W.done s _ _ hst fun s' hm => ?_)
    show wpAny _ A.in1 (ret Value.none) _ _ s'
    exact wpAny_pure (hR s' (hm.mono hsub) (setOf_at hS fun o ho => hm.heap S _ hSw ho))
  | succ k ih =>
    intro i s hk hi hst hS hR
    have hlt : i < n := by omega
    refine codeAny_builtin PyProof.Rows.F.entry_set_update_loop ?_
    rw [Around.under_plainId PyProof.Rows.F.plain_set_update_loop _]
    show wpAny _ A.in1 (pyNext (.ref I) >>= _) _ _ s
    refine wpAny_bind (W.item i s _ _ hlt hst fun v s' hP hst' hm => ?_)
    obtain ⟨y, hy, rv⟩ := hval i v hP
    have hS' := setOf_at (h' := s'.heap) hS fun o ho => hm.heap S _ hSw ho
    have hnew : ¬ y ∈ ks.take i := fun hm => by
      obtain ⟨j, hj⟩ := List.mem_iff_getElem?.mp hm
      rw [List.getElem?_take] at hj
      split at hj
      · rename_i hji
        obtain ⟨h1, e1⟩ := List.getElem?_eq_some_iff.mp hj
        obtain ⟨h2, e2⟩ := List.getElem?_eq_some_iff.mp hy
        exact List.pairwise_iff_getElem.mp hnd j i h1 h2 hji (e1.trans e2.symm)
      · cases hj
    show wpAny _ A.in1 (holding [v] (setAdd S v) >>= _) _ _ s'
    refine wpAny_bind (wpAny_holding ?_)
    unfold setAdd
    refine wpAny_holding ?_
    refine wpAny_bind ((mixKind prog w).pyHash (kV_is rv) ?_)
    refine wpAny_setAddHashed_of (knd := mixKind prog w) (s := { s' with toks := s'.toks + 1 }) (kV_is rv) (key_scan rv) hS' (by omega) fun h' hsb hS2 => ?_
    have hSi : h'.SetOf (mixKind prog w) S (fun j => (ks.take (i + 1)).any fun k => decide (k = j)) (i + 1) := by
      refine setOf_cg hS2 (fun j => ?_) (if_neg (by simpa using hnew))
      rw [List.take_succ, hy]
      show ((ks.take i).any (fun k => decide (k = j)) || decide (j = y)) = _
      simp [eq_comm]
    refine wpAny_pure ⟨plainId_quiet PyProof.Rows.F.plain_set_update_loop _, ih (i + 1) _ (by omega) hlt (W.frame _ s' _ _ hst' (Nat.le_succ _) fun b hb o e => ?_) hSi fun s'' hm'' hS'' => ?_⟩
    · rw [hsb.2 b (fun h : b = S => hSf (by rw [← h]; exact hb))]; exact e
    · refine hR s'' (Moved.trans W.gtrans ((hm.mono hsub).then_heap (Nat.le_succ _) fun b o hb e => ?_) hm'') hS''
      rw [hsb.2 b (fun h : b = S => hb (by rw [h]; exact List.mem_cons_self))]; exact e
end
section
variable {prog : Program} {w : World} {A : Around} {E : Value → Shared → Prop} {s : Shared}
set_option maxHeartbeats 3200000 in
theorem call_set_listK {l : Addr} {items : Array Value} {ks : List Key} {Q : Value → Shared → Prop}
    (hh : A.handled = none) (hl : s.heap.IsList l items) (hi : Vals (ks.map kV) items.toList) (hnd : ks.Nodup) (hb : ks.length + 1 < scanBound)
    (h : ∀ (h' : Heap) (tk : Nat), h'.SetOf (mixKind prog w) s.heap.objs.size (fun j => ks.any fun k => decide (k = j)) ks.length →
      (∀ b o, b < s.heap.objs.size → s.heap.get? b = some o → h'.get? b = some o) → Q (.ref s.heap.objs.size) { s with heap := h', toks := tk }) :
    wpAny (model prog w) A (call (.type "set") [.ref l]) Q E s := by
  obtain ⟨c, tl, hmro⟩ := PySem.F.called_set.mro
  have hmade := PySem.F.called_set.made
  have hsub := PySem.F.called_set.sub
  refine wpAny_call (codeAny_of_tree ?_)
  show wpAny _ _ (callAny (.type "set") _) _ _ _
  refine wpAny_pure ⟨Code.quiet_builtin _ (by decide +kernel), codeAny_builtin PySem.F.entry_type_call ?_⟩
  rw [Around.under_plain (weight_type_call_type "set" [.ref l] []) rfl]
  have h1 := PySem.F.called_set.notType
  have h2 := PySem.F.called_set.canCreate
  have hct := PySem.F.typeCall_set_1 (.ref l)
  repeat (any_goals (first | assumption | wp_step))

  refine codeAny_mono (code_set_new_1 (.ref l) (E := E) (Q₁ := fun obj s₁ => ∃ led : Bool, obj = .ref s.heap.objs.size ∧ s₁ = { s with heap := s.heap.push { cls := .type "set", dict := none, data := .set #[] 0 (.fresh 0 0 led) } }) fun led => ⟨led, rfl, rfl⟩) fun r s₁ hr => ?_
  cases r with
  | error e => exact hr
  | ok fl =>
    cases fl with
    | ret obj =>
      obtain ⟨led, rfl, rfl⟩ := hr
      have hS : (s.heap.push { cls := .type "set", dict := none, data := .set #[] 0 (.fresh 0 0 led) }).get? s.heap.objs.size = some { cls := .type "set", dict := none, data := .set #[] 0 (.fresh 0 0 led) } := Heap.get?_push_size _ rfl
      have hT : Shared.TypeIs { s with heap := s.heap.push { cls := .type "set", dict := none, data := .set #[] 0 (.fresh 0 0 led) } } (.ref s.heap.objs.size) "set" := ⟨_, hS, rfl⟩
      have hli := PySem.F.called_set.init.lookup
      have hbi := PySem.F.called_set.init.bind (.ref s.heap.objs.size)
      repeat (any_goals (first | assumption | wp_step))

      refine codeAny_mono (codeAny_call_builtin (R := wants (fun r s₂ => r = .none ∧ ∃ h' tk, s₂ = { s with heap := h', toks := tk } ∧
          h'.SetOf (mixKind prog w) s.heap.objs.size (fun j => ks.any fun k => decide (k = j)) ks.length ∧
          (∀ b o, b < s.heap.objs.size → s.heap.get? b = some o → h'.get? b = some o)) E) PySem.F.called_set.init.plain PySem.F.entry_set_init (check_set_init_1 hT ?_)) fun r₂ s₂ hr₂ => ?_
      · obtain ⟨ol, hol, hcl, nl, hdl⟩ := hl
        obtain ⟨ocls, odict, odata, oslots⟩ := ol
        simp only at hcl hdl
        subst hcl; subst hdl
        have hol' : (s.heap.push { cls := .type "set", dict := none, data := .set #[] 0 (.fresh 0 0 led) }).get? l = some { cls := .type "list", dict := odict, data := .seq items nl, slots := oslots } := Heap.get?_push_of_some _ hol
        have hsls := PySem.F.sub_list_set
        have hslf := PySem.F.sub_list_frozenset
        have hne : (Value.type "list" == Value.type "dict") = false := by decide
        have hl1 : (s.heap.push { cls := .type "set", dict := none, data := .set #[] 0 (.fresh 0 0 led) }).IsList l items := ⟨_, hol', rfl, nl, rfl⟩
        unfold Builtin.«set.__init__» noKeywords Builtin.Frozenset.updateFrom
        generalize hPI : pyIter = PI
        wp_walk
        subst hPI

        refine wpAny_pyIter_list hl1 ?_
        refine wpAny_bind (wpAny_runValue ?_)
        have hlS : l < s.heap.objs.size := Heap.lt_size hol
        have hh3 : A.in1.in1.in1.handled = none := by simp [hh]
        have hneI : l ≠ (s.heap.push { cls := .type "set", dict := none, data := .set #[] 0 (.fresh 0 0 led) }).objs.size := by
          rw [Heap.size_push]; exact Nat.ne_of_lt (Nat.lt_succ_of_lt hlS)
        have hSf : s.heap.objs.size ∉ [(s.heap.push { cls := .type "set", dict := none, data := .set #[] 0 (.fresh 0 0 led) }).objs.size, l] := by
          rw [Heap.size_push]; simp only [List.mem_cons, List.mem_singleton, List.not_mem_nil, or_false, not_or]
          exact ⟨Nat.ne_of_lt (Nat.lt_succ_self _), Nat.ne_of_gt hlS⟩
        have hsz : ks.length = items.size := by
          have q := hi.length
          rw [List.length_map, Array.length_toList] at q
          exact q
        have hval : ∀ (i : Nat) (v : Value), items[i]? = some v → ∃ k, ks[i]? = some k ∧ RelV (kV k) v := fun i v hv => by
          have hi2 : i < ks.length := by rw [hsz]; exact (Array.getElem?_eq_some_iff.mp hv).1
          obtain ⟨u, hu, ru⟩ := hi.get (x := kV ks[i]) (i := i) (by rw [List.getElem?_map, List.getElem?_eq_getElem hi2]; rfl)
          rw [Array.getElem?_toList, hv] at hu
          cases hu
          exact ⟨ks[i], List.getElem?_eq_getElem hi2, ru⟩
        refine loopK ((Walks.list hh3 _ l hneI items).toS) s.heap.objs.size
          hSf ks hnd hsz (by rw [← hsz]; exact hb) hval (items.size - 0) 0 _ (by omega) (Nat.zero_le _)
          ⟨⟨_, Heap.get?_push_size _ rfl, rfl, rfl⟩, (hl1.push _)⟩ ?hS0 ?hR
        case hS0 =>
          have hget : ((s.heap.push { cls := .type "set", dict := none, data := .set #[] 0 (.fresh 0 0 led) }).push { cls := .type "list_iterator", data := .fields #[.ref l, .int 0 0] }).get? s.heap.objs.size
              = some { cls := .type "set", dict := none, data := .set #[] 0 (.fresh 0 0 led) } := Heap.get?_push_of_some _ hS
          exact ⟨_, #[], 0, _, hget, ⟨rfl, rfl, rfl⟩, rfl, (fun e he => by simp at he), (fun k => by simp), (by decide), (by rfl), rfl⟩
        case hR =>
          intro s' hm hS'
          rw [← hsz, List.take_length] at hS'
          obtain ⟨h', g', d', tk', os'⟩ := s'
          have eg : g' = s.gens := hm.gens
          have ed : d' = s.drawn := hm.drawn
          have eo : os' = s.os := hm.os
          subst eg; subst ed; subst eo
          show wpAny _ _ _ _ _ _
          refine wpAny_pure ?_
          show wpAny _ _ (ret Value.none) _ _ _
          refine wpAny_pure ⟨rfl, h', tk', rfl, hS', fun b o hb e => ?_⟩
          have hb1 : b ≠ s.heap.objs.size := Nat.ne_of_lt hb
          have hb2 : b ≠ (s.heap.push { cls := .type "set", dict := none, data := .set #[] 0 (.fresh 0 0 led) }).objs.size := by
            rw [Heap.size_push]; exact Nat.ne_of_lt (Nat.lt_succ_of_lt hb)
          exact hm.heap b o (by simp only [List.mem_cons, List.mem_singleton, List.not_mem_nil, or_false, not_or]; exact ⟨hb1, hb2⟩) (Heap.get?_push_of_some _ (Heap.get?_push_of_some _ e))

      · cases r₂ with
        | error e => exact hr₂
        | ok fl₂ =>
          cases fl₂ with
          | ret r =>
            obtain ⟨rfl, h', tk, rfl, hS', hk'⟩ := hr₂
            repeat (any_goals (first | assumption | wp_step))
            exact h _ _ hS' hk'
          | _ => exact hr₂.elim
    | _ => exact hr.elim

set_option maxHeartbeats 3200000 in
theorem call_set_tupleK {l : Addr} {items : Array Value} {ks : List Key} {Q : Value → Shared → Prop}
    (hh : A.handled = none) (hl : s.heap.IsTuple l items) (hi : Vals (ks.map kV) items.toList) (hnd : ks.Nodup) (hb : ks.length + 1 < scanBound)
    (h : ∀ (h' : Heap) (tk : Nat), h'.SetOf (mixKind prog w) s.heap.objs.size (fun j => ks.any fun k => decide (k = j)) ks.length →
      (∀ b o, b < s.heap.objs.size → s.heap.get? b = some o → h'.get? b = some o) → Q (.ref s.heap.objs.size) { s with heap := h', toks := tk }) :
    wpAny (model prog w) A (call (.type "set") [.ref l]) Q E s := by
  obtain ⟨c, tl, hmro⟩ := PySem.F.called_set.mro
  have hmade := PySem.F.called_set.made
  have hsub := PySem.F.called_set.sub
  refine wpAny_call (codeAny_of_tree ?_)
  show wpAny _ _ (callAny (.type "set") _) _ _ _
  refine wpAny_pure ⟨Code.quiet_builtin _ (by decide +kernel), codeAny_builtin PySem.F.entry_type_call ?_⟩
  rw [Around.under_plain (weight_type_call_type "set" [.ref l] []) rfl]
  have h1 := PySem.F.called_set.notType
  have h2 := PySem.F.called_set.canCreate
  have hct := PySem.F.typeCall_set_1 (.ref l)
  repeat (any_goals (first | assumption | wp_step))

  refine codeAny_mono (code_set_new_1 (.ref l) (E := E) (Q₁ := fun obj s₁ => ∃ led : Bool, obj = .ref s.heap.objs.size ∧ s₁ = { s with heap := s.heap.push { cls := .type "set", dict := none, data := .set #[] 0 (.fresh 0 0 led) } }) fun led => ⟨led, rfl, rfl⟩) fun r s₁ hr => ?_
  cases r with
  | error e => exact hr
  | ok fl =>
    cases fl with
    | ret obj =>
      obtain ⟨led, rfl, rfl⟩ := hr
      have hS : (s.heap.push { cls := .type "set", dict := none, data := .set #[] 0 (.fresh 0 0 led) }).get? s.heap.objs.size = some { cls := .type "set", dict := none, data := .set #[] 0 (.fresh 0 0 led) } := Heap.get?_push_size _ rfl
      have hT : Shared.TypeIs { s with heap := s.heap.push { cls := .type "set", dict := none, data := .set #[] 0 (.fresh 0 0 led) } } (.ref s.heap.objs.size) "set" := ⟨_, hS, rfl⟩
      have hli := PySem.F.called_set.init.lookup
      have hbi := PySem.F.called_set.init.bind (.ref s.heap.objs.size)
      repeat (any_goals (first | assumption | wp_step))

      refine codeAny_mono (codeAny_call_builtin (R := wants (fun r s₂ => r = .none ∧ ∃ h' tk, s₂ = { s with heap := h', toks := tk } ∧
          h'.SetOf (mixKind prog w) s.heap.objs.size (fun j => ks.any fun k => decide (k = j)) ks.length ∧
          (∀ b o, b < s.heap.objs.size → s.heap.get? b = some o → h'.get? b = some o)) E) PySem.F.called_set.init.plain PySem.F.entry_set_init (check_set_init_1 hT ?_)) fun r₂ s₂ hr₂ => ?_
      · obtain ⟨ol, hol, hcl, nl, hdl⟩ := hl
        obtain ⟨ocls, odict, odata, oslots⟩ := ol
        simp only at hcl hdl
        subst hcl; subst hdl
        have hol' : (s.heap.push { cls := .type "set", dict := none, data := .set #[] 0 (.fresh 0 0 led) }).get? l = some { cls := .type "tuple", dict := odict, data := .seq items nl, slots := oslots } := Heap.get?_push_of_some _ hol
        have hsls := PySem.F.sub_tuple_set
        have hslf := PySem.F.sub_tuple_frozenset
        have hne : (Value.type "tuple" == Value.type "dict") = false := by decide
        have hl1 : (s.heap.push { cls := .type "set", dict := none, data := .set #[] 0 (.fresh 0 0 led) }).IsTuple l items := ⟨_, hol', rfl, nl, rfl⟩
        unfold Builtin.«set.__init__» noKeywords Builtin.Frozenset.updateFrom
        generalize hPI : pyIter = PI
        wp_walk
        subst hPI

        refine wpAny_pyIter_tuple hl1 ?_
        refine wpAny_bind (wpAny_runValue ?_)
        have hlS : l < s.heap.objs.size := Heap.lt_size hol
        have hh3 : A.in1.in1.in1.handled = none := by simp [hh]
        have hneI : l ≠ (s.heap.push { cls := .type "set", dict := none, data := .set #[] 0 (.fresh 0 0 led) }).objs.size := by
          rw [Heap.size_push]; exact Nat.ne_of_lt (Nat.lt_succ_of_lt hlS)
        have hSf : s.heap.objs.size ∉ [(s.heap.push { cls := .type "set", dict := none, data := .set #[] 0 (.fresh 0 0 led) }).objs.size, l] := by
          rw [Heap.size_push]; simp only [List.mem_cons, List.mem_singleton, List.not_mem_nil, or_false, not_or]
          exact ⟨Nat.ne_of_lt (Nat.lt_succ_self _), Nat.ne_of_gt hlS⟩
        have hsz : ks.length = items.size := by
          have q := hi.length
          rw [List.length_map, Array.length_toList] at q
          exact q
        have hval : ∀ (i : Nat) (v : Value), items[i]? = some v → ∃ k, ks[i]? = some k ∧ RelV (kV k) v := fun i v hv => by
          have hi2 : i < ks.length := by rw [hsz]; exact (Array.getElem?_eq_some_iff.mp hv).1
          obtain ⟨u, hu, ru⟩ := hi.get (x := kV ks[i]) (i := i) (by rw [List.getElem?_map, List.getElem?_eq_getElem hi2]; rfl)
          rw [Array.getElem?_toList, hv] at hu
          cases hu
          exact ⟨ks[i], List.getElem?_eq_getElem hi2, ru⟩
        refine loopK ((Walks.tuple hh3 _ l hneI items).toS) s.heap.objs.size
          hSf ks hnd hsz (by rw [← hsz]; exact hb) hval (items.size - 0) 0 _ (by omega) (Nat.zero_le _)
          ⟨⟨_, Heap.get?_push_size _ rfl, rfl, rfl⟩, (hl1.push _)⟩ ?hS0 ?hR
        case hS0 =>
          have hget : ((s.heap.push { cls := .type "set", dict := none, data := .set #[] 0 (.fresh 0 0 led) }).push { cls := .type "tuple_iterator", data := .fields #[.ref l, .int 0 0] }).get? s.heap.objs.size
              = some { cls := .type "set", dict := none, data := .set #[] 0 (.fresh 0 0 led) } := Heap.get?_push_of_some _ hS
          exact ⟨_, #[], 0, _, hget, ⟨rfl, rfl, rfl⟩, rfl, (fun e he => by simp at he), (fun k => by simp), (by decide), (by rfl), rfl⟩
        case hR =>
          intro s' hm hS'
          rw [← hsz, List.take_length] at hS'
          obtain ⟨h', g', d', tk', os'⟩ := s'
          have eg : g' = s.gens := hm.gens
          have ed : d' = s.drawn := hm.drawn
          have eo : os' = s.os := hm.os
          subst eg; subst ed; subst eo
          show wpAny _ _ _ _ _ _
          refine wpAny_pure ?_
          show wpAny _ _ (ret Value.none) _ _ _
          refine wpAny_pure ⟨rfl, h', tk', rfl, hS', fun b o hb e => ?_⟩
          have hb1 : b ≠ s.heap.objs.size := Nat.ne_of_lt hb
          have hb2 : b ≠ (s.heap.push { cls := .type "set", dict := none, data := .set #[] 0 (.fresh 0 0 led) }).objs.size := by
            rw [Heap.size_push]; exact Nat.ne_of_lt (Nat.lt_succ_of_lt hb)
          exact hm.heap b o (by simp only [List.mem_cons, List.mem_singleton, List.not_mem_nil, or_false, not_or]; exact ⟨hb1, hb2⟩) (Heap.get?_push_of_some _ (Heap.get?_push_of_some _ e))

      · cases r₂ with
        | error e => exact hr₂
        | ok fl₂ =>
          cases fl₂ with
          | ret r =>
            obtain ⟨rfl, h', tk, rfl, hS', hk'⟩ := hr₂
            repeat (any_goals (first | assumption | wp_step))
            exact h _ _ hS' hk'
          | _ => exact hr₂.elim
    | _ => exact hr.elim

end
section
variable {X : Cx}
/-- set(xs), xs a list or a tuple of unlike keys -/
def rSetOfK (K : Frg) (P : Program) (w : World) : List V → Hp → VK → Prop := fun vs H Q => ∃ (l : Addr) (ks : List Key), vs = [.ref l] ∧ (SqL K H l (ks.map kV) ∨ SqT K H l (ks.map kV)) ∧ ks.Nodup ∧ ks.length ≤ 1000 ∧
  ∀ p, H p = none → Q (.ref p) (upd H p (SetK P w p (fun j => ks.any fun k => decide (k = j)) ks.length))
theorem cr_setOfK (hc : X.calm = true := by rfl) : CallR X (.type "set") (rSetOfK X.K X.prog X.w) := by
  intro pins s σ H xs us Q I r h
  obtain ⟨l, ks, rfl, hq, hnd, hz, q⟩ := h
  obtain ⟨u, rfl, ru⟩ := vals1 r
  obtain rfl : u = Value.ref l := ru
  have hb : ks.length + 1 < scanBound := by unfold scanBound; omega
  have fin : ∀ (h' : Heap) (tk : Nat), h'.SetOf (mixKind X.prog X.w) s.heap.objs.size (fun j => ks.any fun k => decide (k = j)) ks.length → (∀ b o, b < s.heap.objs.size → s.heap.get? b = some o → h'.get? b = some o) →
      EP X pins σ Q (.ref s.heap.objs.size) { s with heap := h', toks := tk } := fun h' tk hS hk =>
    ⟨.ref _, _, I.laid (t' := tk) (fun b o e => hk b o (Heap.lt_size e) e) (Nat.le_refl _) (setK_new hS), rfl, q _ (I.hok.fresh (Nat.le_refl _))⟩
  rcases hq with hq | hq
  · obtain ⟨its, r, pl, hz⟩ := I.list hq
    exact call_set_listK (ks := ks) (I.ok.hd hc) pl.isList r hnd hb fin
  · obtain ⟨its, r, pl, hz⟩ := I.tuple hq
    exact call_set_tupleK (ks := ks) (I.ok.hd hc) pl r hnd hb fin
/-- len(s), s a set of keys -/
def rLenSK (P : Program) (w : World) : List V → Hp → VK → Prop := fun vs H Q => ∃ a S n, vs = [V.ref a] ∧ H a = some (SetK P w a S n) ∧ Q (.int (n : Nat)) H
theorem cr_lenSK : CallR X (.builtin "len") (rLenSK X.prog X.w) := by
  intro pins s σ H xs us Q I r h
  obtain ⟨a, S, n, rfl, ea, q⟩ := h
  obtain ⟨u, rfl, ru⟩ := vals1 r
  obtain rfl : u = Value.ref a := ru
  obtain ⟨o, es, ep, t, ho, hex, hd, _, _, hlt, hf, hn⟩ := setK_get I ea
  refine call_len_set ho hex hd hf (by unfold scanBound at hlt; omega) ⟨.int (n : Nat), H, I.tok _, ⟨_, by rw [hn]⟩, q⟩
end
end Sj
set_option Elab.async false
set_option linter.all false
set_option maxRecDepth 100000
set_option maxHeartbeats 4000000
/-! SjRule4: the set comprehension's reading; a list or a tuple of texts. -/
namespace Sj
open PySem PySem.Spec PyProof.Rows L2 He
theorem map_take_not {α β : Type} {key : α → β} {xs : List α} {i : Nat} {x : α} (hnd : (xs.map key).Nodup) (hx : xs[i]? = some x) : ¬ key x ∈ (xs.take i).map key := fun h => by
  obtain ⟨j, hj⟩ := List.mem_iff_getElem?.mp h
  rw [List.getElem?_map, List.getElem?_take] at hj
  split at hj
  · rename_i hji
    have e1 : (xs.map key)[j]? = some (key x) := by rw [List.getElem?_map]; exact hj
    have e2 : (xs.map key)[i]? = some (key x) := by rw [List.getElem?_map, hx]; rfl
    obtain ⟨h1, e1⟩ := List.getElem?_eq_some_iff.mp e1
    obtain ⟨h2, e2⟩ := List.getElem?_eq_some_iff.mp e2
    exact List.pairwise_iff_getElem.mp hnd j i h1 h2 hji (e1.trans e2.symm)
  · cases hj
section
variable {J : It} {xs : List V} {G : Hp → Prop} {j : Nat} {te : TE} {vs : List Nat} {σ : L2.St} {H1 : Hp} {D : Addr} {Qd : Hp → Prop} {P : Program} {w : World}
theorem scm (wk : Walk J xs.length G (YAt xs)) (key : V → Key) (hnd : (xs.map key).Nodup) (hD : H1 D = none) (hG : ∀ H', Same H1 H' → G H') (hz : xs.length ≤ 1000)
    (hw : ∀ x, wipe ((wipe σ vs).set j (some x)) vs = wipe σ vs)
    (he : ∀ x ∈ xs, ∀ H2, Same H1 H2 → ∀ Q : VK, (∀ H3, Same H2 H3 → Q (kV (key x)) H3) → te ((wipe σ vs).set j (some x)) H2 Q)
    (k : ∀ S H2, Same H1 H2 → H2 D = some (SetK P w D S xs.length) → Qd H2) :
    ∃ W : Nat → Nat → Hp → Prop, (∃ m, W 0 m (upd H1 D (SetK P w D (fun _ => false) 0))) ∧ ∀ i m H, W i m H →
      (J.stop i H ∧ Qd H) ∨ (J.go i H ∧ ∃ Nx : Hp → Prop, (∀ H', Nx H' → ∃ m', m' < m ∧ W (i + 1) m' H') ∧ ∀ x H', J.yld i H x H' → gName j x (wipe σ vs) H' fun σ2 H2 => wipe σ2 vs = wipe σ vs ∧ tYes σ2 H2 fun b H3 =>
        if b = true then te σ2 H3 fun y H4 => ∃ (c : Key) (S : Key → Bool) (n : Nat), y = kV c ∧ H4 D = some (SetK P w D S n) ∧ n + 1 < scanBound ∧ Nx (upd H4 D (SetK P w D (fun j => S j || decide (j = c)) (if S c = true then n else n + 1))) else Nx H3) := by
  let Pv : Nat → Hp → Prop := fun i H => Same H1 H ∧ ∃ S : Key → Bool, H D = some (SetK P w D S i) ∧ ∀ k, S k = true ↔ k ∈ (xs.take i).map key
  refine ⟨fun i m H => m = xs.length - i ∧ i ≤ xs.length ∧ Pv i H, ⟨xs.length, by simp, Nat.zero_le _, same_new hD, _, upd_same, fun k => by simp⟩, ?_⟩
  rintro i m H ⟨rfl, hi, s, S, hd, pr⟩
  have q := hG H s
  by_cases hlt : i < xs.length
  · refine .inr ⟨wk.goes i H hlt q, Pv (i + 1), fun H' p' => ⟨xs.length - (i + 1), by omega, rfl, hlt, p'⟩, fun x H' y => ?_⟩
    obtain ⟨rfl, hx⟩ := wk.yields i H x H' hlt q y
    have mem := List.mem_of_getElem? hx
    refine ⟨hw x, iteT (B := Pv (i + 1) H') (he x mem H' s _ fun H3 s3 => ⟨key x, S, i, rfl, s3 D _ hd, by unfold scanBound; omega, same_mut (s.trans s3) hD, (fun j => S j || decide (j = key x)), ?_, ?_⟩)⟩
    · have hno : ¬ S (key x) = true := fun h => map_take_not hnd hx ((pr _).mp h)
      rw [if_neg hno]
      exact upd_same
    · intro k
      rw [List.take_succ, hx]
      simp only [Option.toList, List.map_append, List.map_cons, List.map_nil, List.mem_append, List.mem_singleton, Bool.or_eq_true, decide_eq_true_eq]
      exact or_congr (pr k) Iff.rfl
  · have e : i = xs.length := by omega
    subst e
    exact .inl ⟨wk.stops H q, k S H s hd⟩
end
section
variable {X : Cx} {elt iter : Expr} {x : Str} {tp pos : Pos} {scope : Scope} {wi : TI} {te : TE}
/-- {elt for x in iter}: x at place i -/
theorem psc (i : Nat) (hN : X.N.Nodup) (hi : PI X (.Name x tp) iter wi) (he : ∀ (s : Shared) (H : Hp) (C : Addr) (cl : List (Str × Addr)) (fp : List Addr), PE (X.blk s H scope (compEnvC scope cl C X.env) fp) elt te)
    (ok : blkC X.N X.env.scope scope [(x, i)] = true := by kernel_rfl) (hc : X.calm = true := by rfl) (h1 : X.N[i]? = some x := by rfl) (h2 : ∀ (s : Shared) (H : Hp) (C : Addr) (cl : List (Str × Addr)) (fp : List Addr), L2.Loc (X.blk s H scope (compEnvC scope cl C X.env) fp).env.scope x := by intro _ _ _ _ _; first | exact Or.inl rfl | exact Or.inr rfl)
    (h3 : ∀ (s : Shared) (H : Hp) (C : Addr) (cl : List (Str × Addr)) (fp : List Addr), (X.blk s H scope (compEnvC scope cl C X.env) fp).fn x = true ∨ (X.blk s H scope (compEnvC scope cl C X.env) fp).env.scope.names.lookup x = some .local := by intro _ _ _ _ _; first | exact Or.inl rfl | exact Or.inr rfl) (hs : ∀ x, foldedSetIterable iter X.env x = pure x := by intro _; rfl) :
    PE X (.SetComp elt [⟨.Name x tp, iter, [], 0⟩] scope pos) (tScK X.prog X.w wi (gName i) tYes te [i]) :=
  pe_scK (own := [(x, i)]) hc hN hi (blkOk_by ok) (fun s H C cl fp => pg_name (X := X.blk s H scope (compEnvC scope cl C X.env) fp) (i := i) hN h1 (h2 s H C cl fp) (h3 s H C cl fp)) (fun _ _ _ _ _ => pts_nil) he hs
end
/-- texts as values and as keys -/
def vS (xs : List Str) : List V := xs.map V.str
theorem vS_keys (xs : List Str) : vS xs = (xs.map (Sum.inr : Str → Key)).map kV := by
  rw [vS, List.map_map]
  rfl
theorem nodup_keys {xs : List Str} (h : xs.Nodup) : (xs.map (Sum.inr : Str → Key)).Nodup := List.Pairwise.map _ (fun a b hab e => hab (Sum.inr.inj e)) h
theorem inV_strs (z : Str) (xs : List Str) : inV (.str z) (vS xs) = decide (z ∈ xs) := by
  induction xs with
  | nil => rfl
  | cons a r ih =>
    show ((a == z) || inV (.str z) (vS r)) = _
    rw [ih, Bool.eq_iff_iff, Bool.or_eq_true, beq_iff_eq, decide_eq_true_iff, decide_eq_true_iff, List.mem_cons]
    exact or_congr eq_comm Iff.rfl
end Sj
set_option Elab.async false
set_option linter.all false
set_option maxRecDepth 100000
set_option maxHeartbeats 4000000
/-! SjRule5: a dict's keys and its values, made into lists and tuples. -/
namespace Sj
open PySem PySem.Spec PyProof.Rows L2 He
theorem kdl_mono {prog : Program} {w : World} {T : String} {r d : Addr} {n : Nat} {P P' : Nat → Value → Prop} {OK : Heap → Prop} (K : PySem.W.KdlSrc prog w T r d n P OK) (h : ∀ i v, i < n → P i v → P' i v) : PySem.W.KdlSrc prog w T r d n P' OK where
  type := K.type
  there := K.there
  keep := K.keep
  notList := K.notList
  notTuple := K.notTuple
  hint := K.hint
  iter := fun A s hh ok => let ⟨oI, St1, h1, W, h2⟩ := K.iter A s hh ok; ⟨oI, St1, h1, W.mono_item h, h2⟩
/-- the view d.values() at p -/
def valsO (p d : Addr) : HO := .ext fun h => h.IsValuesView p d
theorem valsO_ok {P : Program} {w : World} {H : Hp} {h : Heap} {p d : Addr} (e : h.get? p = some { cls := .type "dict_values", data := .fields #[.ref d] }) : ObjOk P w H h p (valsO p d) :=
  ⟨⟨_, e, rfl, rfl⟩, ⟨_, e⟩, fun h1 h2 x k => let ⟨o, ho, r⟩ := x; ⟨o, k o ho, r⟩⟩
/-- what stands at r gives xs, one by one -/
def IsSrc (H : Hp) (r : Addr) (xs : List V) : Prop :=
  (∃ kvs : List (Key × V), H r = some (.dK kvs) ∧ xs = kvs.map fun kv => kV kv.1) ∨ (∃ d, ∃ kvs : List (Key × V), H r = some (valsO r d) ∧ H d = some (.dK kvs) ∧ xs = kvs.map (·.2)) ∨
  (∃ d, ∃ kvs : List (List Key × V), H r = some (valsO r d) ∧ H d = some (.dT kvs) ∧ xs = kvs.map (·.2))
section
variable {X : Cx} {pins : List (Addr × Obj)} {σ : L2.St} {H : Hp} {s : Shared}
theorem dK_raw {d : Addr} {kvs : List (Key × V)} (I : Inv X pins σ H s) (h : H d = some (.dK kvs)) : kvs.length ≤ sizeLine ∧ (d == sysModules) = false ∧ ∃ (es : Array DictEntry) (ep : Nat), s.heap.DictRaw d es ep ∧ es.size = kvs.length ∧
    ∀ (i : Nat) (k : Key) (v : V), kvs[i]? = some (k, v) → ∃ en, es[i]? = some en ∧ RelV (kV k) en.key ∧ RelV v en.val := by
  obtain ⟨z, hs, vs, kv, o, es, ep, ho, hx, hdt, r⟩ := dk_of I.hok h
  have l1 := r.2.1.length
  have l2 : kvs.length = vs.length := Paired.length kv
  rw [Array.length_toList] at l1
  refine ⟨z, hs, es, ep, ⟨o, ho, hx, hdt⟩, by omega, fun i k v e => ?_⟩
  obtain ⟨u, hu, ru⟩ := kv_get kv e
  have hi : i < es.size := by
    have := (List.getElem?_eq_some_iff.mp e).1
    omega
  obtain ⟨h1, h2⟩ := r.2.1.get? (e := es[i]) (by simp [hi]) hu
  exact ⟨es[i], Array.getElem?_eq_getElem hi, relV_key h1, by rw [h2]; exact ru⟩
theorem dT_raw {d : Addr} {kvs : List (List Key × V)} (I : Inv X pins σ H s) (h : H d = some (.dT kvs)) : kvs.length ≤ sizeLine ∧ (d == sysModules) = false ∧ ∃ (es : Array DictEntry) (ep : Nat), s.heap.DictRaw d es ep ∧ es.size = kvs.length ∧
    ∀ (i : Nat) (k : List Key) (v : V), kvs[i]? = some (k, v) → ∃ en, ∃ q, es[i]? = some en ∧ en.key = .ref q ∧ H q = some (.tup (k.map kV)) ∧ RelV v en.val := by
  obtain ⟨z, hs, xs, pr, o, es, ep, ho, hx, hdt, he, _⟩ := (show ObjOk X.prog X.w H s.heap d (.dT kvs) from I.hok d _ h)
  have l1 : es.size = xs.length := size_of_entries he
  have l2 : kvs.length = xs.length := Paired.length pr
  refine ⟨z, hs, es, ep, ⟨o, ho, hx, hdt⟩, by omega, fun i k v e => ?_⟩
  obtain ⟨b, hb, e1, e2, e3⟩ := paired_get pr e
  have q := entry_at he i
  rw [hb] at q
  exact ⟨_, b.2.1, q, rfl, e2, e3⟩
theorem src_of {r : Addr} {xs : List V} (I : Inv X pins σ H s) (h : IsSrc H r xs) : xs.length ≤ sizeLine ∧ ∃ (T : String) (d : Addr) (OK : Heap → Prop), OK s.heap ∧ PySem.W.KdlSrc X.prog X.w T r d xs.length (fun i v => ∃ x, xs[i]? = some x ∧ RelV x v) OK := by
  have get : ∀ {κ : Type} {kvs : List (κ × V)} {es : Array DictEntry} {f : κ × V → V} {i : Nat}, es.size = kvs.length → i < es.size → ∃ k v, kvs[i]? = some (k, v) ∧ (kvs.map f)[i]? = some (f (k, v)) := fun {κ kvs es f i} e hi => by
    have hi2 : i < kvs.length := by omega
    exact ⟨kvs[i].1, kvs[i].2, List.getElem?_eq_getElem hi2, by rw [List.getElem?_map, List.getElem?_eq_getElem hi2]; rfl⟩
  rcases h with ⟨kvs, hr, rfl⟩ | ⟨d, kvs, hr, hd, rfl⟩ | ⟨d, kvs, hr, hd, rfl⟩
  · obtain ⟨z, hs, es, ep, hm, hz, hx⟩ := dK_raw I hr
    refine ⟨by rw [List.length_map]; exact z, "dict", r, (fun h => h.DictRaw r es ep), hm, ?_⟩
    rw [List.length_map, ← hz]
    refine kdl_mono (PySem.KdlSrc.rawDict hs) fun i v hi ⟨hi2, e⟩ => ?_
    obtain ⟨k, x, h1, h2⟩ := get (f := fun kv => kV kv.1) hz hi
    obtain ⟨en, e1, e2, e3⟩ := hx i k x h1
    rw [Array.getElem?_eq_getElem hi] at e1
    cases e1
    exact ⟨_, h2, by rw [e]; exact e2⟩
  · obtain ⟨z, hs, es, ep, hm, hz, hx⟩ := dK_raw I hd
    have hv : s.heap.IsValuesView r d := (show ObjOk X.prog X.w H s.heap r (valsO r d) from I.hok r _ hr).1
    refine ⟨by rw [List.length_map]; exact z, "dict_values", d, (fun h => h.IsValuesView r d ∧ h.DictRaw d es ep), ⟨hv, hm⟩, ?_⟩
    rw [List.length_map, ← hz]
    refine kdl_mono PySem.KdlSrc.rawValues fun i v hi ⟨hi2, e⟩ => ?_
    obtain ⟨k, x, h1, h2⟩ := get (f := fun kv => kv.2) hz hi
    obtain ⟨en, e1, e2, e3⟩ := hx i k x h1
    rw [Array.getElem?_eq_getElem hi] at e1
    cases e1
    exact ⟨_, h2, by rw [e]; exact e3⟩
  · obtain ⟨z, hs, es, ep, hm, hz, hx⟩ := dT_raw I hd
    have hv : s.heap.IsValuesView r d := (show ObjOk X.prog X.w H s.heap r (valsO r d) from I.hok r _ hr).1
    refine ⟨by rw [List.length_map]; exact z, "dict_values", d, (fun h => h.IsValuesView r d ∧ h.DictRaw d es ep), ⟨hv, hm⟩, ?_⟩
    rw [List.length_map, ← hz]
    refine kdl_mono PySem.KdlSrc.rawValues fun i v hi ⟨hi2, e⟩ => ?_
    obtain ⟨k, x, h1, h2⟩ := get (f := fun kv => kv.2) hz hi
    obtain ⟨en, q, e1, _, _, e3⟩ := hx i k x h1
    rw [Array.getElem?_eq_getElem hi] at e1
    cases e1
    exact ⟨_, h2, by rw [e]; exact e3⟩
theorem vals_items {xs : List V} {acc : Array Value} (h : ItemsOf (fun i v => ∃ x, xs[i]? = some x ∧ RelV x v) acc xs.length) : Vals xs acc.toList := by
  refine vals_of_at (h.1.symm.trans (Array.length_toList ..).symm) fun j x u h1 h2 => ?_
  obtain ⟨y, e, r⟩ := h.2 j u (by rw [← Array.getElem?_toList]; exact h2)
  rw [h1] at e
  cases e
  exact r
end
section
variable {prog : Program} {w : World} {A : Around} {E : Value → Shared → Prop} {s : Shared} {T : String} {r d : Addr} {n : Nat} {P : Nat → Value → Prop} {OK : Heap → Prop}
theorem code_tuple_src {Q₁ : Value → Shared → Prop} (K : PySem.W.KdlSrc prog w T r d n P OK) (hh : A.handled = none) (hok : OK s.heap) (hn : n ≤ sizeLine)
    (h : ∀ (h' : Heap) (tk : Nat) (acc : Array Value), (∀ b o, s.heap.get? b = some o → h'.get? b = some o) → ItemsOf P acc n → Q₁ (.ref h'.objs.size) { s with heap := h'.push { cls := .type "tuple", data := .seq acc }, toks := tk }) :
    codeAny (model prog w) A (.call (.builtin "tuple.__new__") ⟨[.type "tuple", .ref r], []⟩) (wants Q₁ E) s := by
  refine codeAny_of_tree ?_
  show wpAny _ A.in1 (do checkBuiltinCall "tuple.__new__" ⟨[.type "tuple", .ref r], []⟩; again (.builtin "tuple.__new__" ⟨[.type "tuple", .ref r], []⟩)) _ _ s
  refine wpAny_bind (wpAny_of_eq (PySem.F.newCall_tuple_1 _) (wpAny_pure ⟨plainId_quiet PySem.F.plain_tuple_new _, codeAny_builtin PySem.F.entry_tuple_new ?_⟩))
  rw [Around.under_plainId PySem.F.plain_tuple_new _]
  have hsub := sub_tuple_self
  have hinit := init_tuple_lookup
  have hmh := madeHere_tuple
  have hTI : s.TypeIs (.ref r) T := K.type s hok
  have hh1 : A.in1.handled = none := hh
  have hnl := K.notList
  have hnt := K.notTuple
  wp_walk using wpAny_typeOf hTI, PySem.W.kdu_collect (A := A.in1) K hh1 hok hn
  intro h' tk acc hk hacc
  show wpAny _ _ (Builtin.Tuple.tupleExact acc.toList.toArray >>= fun v => ret v) _ _ _
  unfold Builtin.Tuple.tupleExact
  refine wpAny_bind (wpAny_newObj_type ?_ (by show acc.toList.toArray.size ≤ sizeLine; simp only [Array.toArray_toList]; rw [hacc.1]; exact hn))
  refine wpAny_pure ?_
  have e : acc.toList.toArray = acc := by simp
  rw [e]
  exact h h' tk acc hk hacc
theorem call_tuple_src {Q : Value → Shared → Prop} (K : PySem.W.KdlSrc prog w T r d n P OK) (hh : A.handled = none) (hok : OK s.heap) (hn : n ≤ sizeLine)
    (hQ : ∀ (h' : Heap) (tk : Nat) (acc : Array Value), (∀ b o, s.heap.get? b = some o → h'.get? b = some o) → ItemsOf P acc n → Q (.ref h'.objs.size) { s with heap := h'.push { cls := .type "tuple", data := .seq acc }, toks := tk }) :
    wpAny (model prog w) A (call (.type "tuple") [.ref r]) Q E s := by
  refine callType_codes (Q₁ := fun obj s₁ => s₁.TypeIs obj "tuple" ∧ Q obj s₁) PySem.F.called_tuple (PySem.F.typeCall_tuple_1 _) PySem.F.entry_object_init
    (code_tuple_src (A := A.in1) K hh hok hn fun h' tk acc hk hacc => ⟨⟨_, Heap.get?_push_size _ rfl, rfl⟩, hQ h' tk acc hk hacc⟩) fun obj s₁ h₁ => ?_
  exact ⟨h₁.1, PySem.F.args_object_init_2 obj _, object_init_meets PySem.F.called_tuple.init.lookup PySem.F.called_tuple.made (by decide) prog w A.in1 _ s₁ ⟨h₁.1, rfl, h₁.2⟩⟩
end
section
variable {X : Cx}
/-- tuple(d), tuple(d.values()) -/
def rTupSrc : List V → Hp → VK → Prop := fun vs H Q => ∃ r xs, vs = [.ref r] ∧ IsSrc H r xs ∧ ∀ p, H p = none → Q (.ref p) (upd H p (.tup xs))
theorem cr_tupSrc (hc : X.calm = true := by rfl) : CallR X (.type "tuple") rTupSrc := by
  intro pins s σ H vs us Q I r h
  obtain ⟨a, xs, rfl, hs, q⟩ := h
  obtain ⟨u, rfl, ru⟩ := vals1 r
  obtain rfl : u = Value.ref a := ru
  obtain ⟨z, T, d, OK, ok, K⟩ := src_of I hs
  refine call_tuple_src K (I.ok.hd hc) ok z fun h' tk acc hk hacc => ?_
  have I1 : Inv X pins σ H { s with heap := h', toks := tk } := I.kept (t' := tk) hk
  refine ⟨.ref h'.objs.size, upd H h'.objs.size (.tup xs), I1.laid (t' := tk) (fun b o e => Heap.get?_push_of_some _ e) (Nat.le_refl _) ⟨z, acc.toList, vals_items hacc, ?_⟩, rfl, q _ (I1.hok.fresh (Nat.le_refl _))⟩
  rw [Array.toArray_toList]
  exact IsTup.new _ _
/-- d.values() -/
def rVals : V → List V → Hp → VK → Prop := fun x xs H Q => ∃ a, x = .ref a ∧ xs = [] ∧ ((∃ kvs : List (Key × V), H a = some (.dK kvs)) ∨ ∃ kvs : List (List Key × V), H a = some (.dT kvs)) ∧ ∀ p, H p = none → Q (.ref p) (upd H p (valsO p a))
theorem mt_vals : MtR X "dict.values" rVals := by
  intro pins s σ H x xs v us Q I rx rxs h
  obtain ⟨a, rfl, rfl, ha, q⟩ := h
  cases rx
  cases rxs
  have raw : (a == sysModules) = false ∧ ∃ (es : Array DictEntry) (ep : Nat), s.heap.DictRaw a es ep := by
    rcases ha with ⟨kvs, ha⟩ | ⟨kvs, ha⟩
    · obtain ⟨_, hs, es, ep, hm, _⟩ := dK_raw I ha
      exact ⟨hs, es, ep, hm⟩
    · obtain ⟨_, hs, es, ep, hm, _⟩ := dT_raw I ha
      exact ⟨hs, es, ep, hm⟩
  obtain ⟨hs, es, ep, hm⟩ := raw
  refine call_meetsIn PySem.F.slot_dict_values hm.typeIs PySem.F.entry_dict_values (PySem.F.args_dict_values_1 _) (PySem.meets_dict_values_raw a hs) ⟨⟨es, ep, hm⟩, ?_⟩
  exact ⟨.ref s.heap.objs.size, _, I.laid (t' := s.toks) (fun b u e => Heap.get?_push_of_some _ e) (Nat.le_refl _) (valsO_ok (Heap.get?_push_size _ rfl)), rfl, q _ (I.hok.fresh (Nat.le_refl _))⟩
end
end Sj
set_option Elab.async false
set_option linter.all false
set_option maxRecDepth 100000
set_option maxHeartbeats 4000000
/-! SjRule6: tuples of texts sorted; for .. in d.items() where the keys are tuples; a dict spread out in a display. -/
namespace Sj
open PySem PySem.Spec PyProof.Rows L2 He
/-- a tuple of texts, by its place -/
abbrev TT2 := Addr × List Str
def encT (b : TT2) : PyData := .tuple (b.2.map PyData.str)
def leT (a b : TT2) : Bool := PySem.W.dataLe false encT a b
def refT (b : TT2) : V := .ref b.1
theorem alike_strs : ∀ xs ys : List Str, PySem.W.alikeAll (xs.map .str) (ys.map .str) = true
  | [], _ => by simp [PySem.W.alikeAll]
  | _ :: _, [] => by simp [PySem.W.alikeAll]
  | x :: xs, y :: ys => by
    show PySem.W.alikeAll (.str x :: xs.map .str) (.str y :: ys.map .str) = true
    rw [PySem.W.alikeAll, alike_strs xs ys]
    simp [PySem.W.alike]
theorem depth_strs : ∀ xs : List Str, PyData.depthAll (xs.map .str) = 0
  | [] => by simp [PyData.depthAll]
  | x :: xs => by
    show PyData.depthAll (.str x :: xs.map .str) = 0
    rw [PyData.depthAll, depth_strs xs]
    simp [PyData.depth]
theorem reads_strs {h : Heap} : ∀ {xs : List Str} {us : List Value}, Vals (xs.map V.str) us → ReadsAll h us (xs.map .str) []
  | [], _, .nil => .nil
  | x :: xs, _, .cons r t => by
    obtain ⟨k, rfl⟩ := r
    exact .cons (as := []) (bs := []) (.str x k) (reads_strs t)
theorem each_refs {R : Value → TT2 → Prop} : ∀ {bs : List TT2} {us : List Value}, Vals (bs.map refT) us → (∀ b ∈ bs, R (.ref b.1) b) → PySem.W.EachIs R us bs
  | [], _, .nil, _ => .nil
  | b :: bs, _, .cons r t, h => by
    obtain rfl := r
    exact .cons (h b List.mem_cons_self) (each_refs t fun c hc => h c (List.mem_cons_of_mem _ hc))
theorem refs_each : ∀ {bs : List TT2} {us : List Value}, PySem.W.EachIs (fun v b => v = .ref b.1) us bs → Vals (bs.map refT) us
  | _, _, .nil => .nil
  | _, _, .cons h t => .cons h (refs_each t)
section
variable {X : Cx}
/-- sorted(x), x a list, or the values of a dict, of tuples of texts -/
def rSortT (K : Frg) : List V → Hp → VK → Prop := fun vs H Q => ∃ (r : Addr) (bs : List TT2), vs = [.ref r] ∧ (IsSrc H r (bs.map refT) ∨ SqL K H r (bs.map refT)) ∧ (∀ b ∈ bs, SqT K H b.1 (b.2.map V.str) ∧ b.2 ≠ []) ∧ bs.length ≤ 1000 ∧
  ∀ p, H p = none → Q (.ref p) (upd H p (.lst ((bs.mergeSort leT).map refT)))
theorem cr_sortT {k : Nat} (hr : Room k X.A) (hc : X.calm = true := by rfl) : CallR X (.builtin "sorted") (rSortT X.K) := by
  intro pins s σ H vs us Q I r h
  obtain ⟨a, bs, rfl, hs, ht, hz, q⟩ := h
  obtain ⟨u, rfl, ru⟩ := vals1 r
  obtain rfl : u = Value.ref a := ru
  have hz2 : bs.length ≤ sizeLine := Nat.le_of_lt (small1000 hz)
  have hal : PySem.W.AllAlike (bs.map encT) := PySem.W.AllAlike.of fun b b' => alike_strs _ _
  have hk : PySem.W.Sortable (bs.map encT) := .inl fun d hd => by
    obtain ⟨b, hb, rfl⟩ := List.mem_map.mp hd
    have := (ht b hb).2
    unfold encT
    cases e : b.2 with
    | nil => exact absurd e this
    | cons x r => exact ⟨_, _, rfl⟩
  have hu : ∀ b, b ∈ bs → X.A.units + 2 + (encT b).depth < cLine := fun b hb => by
    have h1 := hr.units
    have h2 : (encT b).depth ≤ 1 := by
      unfold encT
      simp only [PyData.depth, depth_strs]
      omega
    omega
  have rd : ∀ (h' : Heap), (∀ b o, s.heap.get? b = some o → h'.get? b = some o) → ∀ b ∈ bs, Reads h' (.ref b.1) (encT b) [] := fun h' k b hb => by
    obtain ⟨its, rv, ⟨o, ho, hc, n, hd⟩, _⟩ := I.tuple (ht b hb).1
    exact .tuple (k _ _ ho) hc hd (by simpa using reads_strs rv)
  have lenO : ((bs.mergeSort leT).map refT).length ≤ sizeLine := by
    rw [List.length_map, List.length_mergeSort]
    exact hz2
  rcases hs with hs | hs
  · obtain ⟨z, T, d, OK, ok, K⟩ := src_of I hs
    refine Calls.call_function_entry PyProof.Rows.kind_sorted PyProof.Rows.plain_sorted PyProof.Rows.entry_sorted (PyProof.Rows.args_sorted1 _) ?_
    unfold Builtin.«sorted»
    refine wpAny_bind (m := checkCount "sorted" 1 1 _) (wpAny_pure ?_)
    refine wpAny_bind (PySem.W.kdu_collect (A := X.A.in1) K (I.ok.hd hc) ok z fun h' tk acc hk' hacc => ?_)
    have rv := vals_items hacc
    have hlen : acc.toList.length = bs.length := by rw [← rv.length, List.length_map]
    have I1 : Inv X pins σ H { s with heap := h', toks := tk } := I.kept hk'
    refine wpAny_bind (wpAny_newList ?_ (by rw [hlen]; exact hz2))
    have hoL : (h'.push (seqObj "list" acc.toList.toArray 0)).get? h'.objs.size = some (seqObj "list" acc.toList.toArray 0) := Heap.get?_push_size _ rfl
    show wpAny _ _ _ _ _ { s with heap := h'.push (seqObj "list" acc.toList.toArray 0), toks := tk }
    refine wpAny_bind (wpAny_holding (PySem.W.list_sort_data (R := fun v b => v = .ref b.1) (bs := bs) (enc := encT) hoL (each_refs rv fun b _ => rfl) (each_refs rv fun b hb => ⟨[], rd _ (fun c o e => Heap.get?_push_of_some _ (hk' c o e)) b hb, by simp⟩) hal hk hz2 (fun b hb => ?_) fun out e1 e2 => ?_))
    · have := hu b hb
      show X.A.units + 1 + 1 + _ < _
      omega
    obtain ⟨e', he'⟩ := PyProof.Rows.sortedHeap_at (vs := acc.toList) (out := out.toArray) hoL
    refine wpAny_pure ⟨_, rfl, .ref h'.objs.size, upd H h'.objs.size (.lst ((bs.mergeSort leT).map refT)), I1.laid (t' := tk) (fun b u e => ?_) (Nat.le_refl _)
      (show ObjOk X.prog X.w _ _ _ (.lst _) from ⟨lenO, out, e', refs_each e2, he'⟩), rfl, q _ (I1.hok.fresh (Nat.le_refl _))⟩
    have hb : b < h'.objs.size := Heap.lt_size e
    rw [PyProof.Rows.sortedHeap_old (Nat.ne_of_lt hb) (by rw [size_push']; exact Nat.lt_succ_of_lt hb)]
    exact Heap.get?_push_of_some _ e
  · obtain ⟨its, rv, hl, _⟩ := I.list hs
    refine PySem.W.sorted_data (R := fun v b => v = .ref b.1) (bs := bs) (enc := encT) hl.isList (each_refs rv fun b _ => rfl) (each_refs rv fun b hb => ⟨[], rd _ (fun _ _ e => e) b hb⟩) hal hk hz2 hu fun out e1 e2 => ?_
    obtain ⟨ep, he'⟩ := PyProof.Rows.sortedAll_at s.heap its out.toArray
    exact ⟨.ref _, upd H (s.heap.objs.size + 1) (.lst ((bs.mergeSort leT).map refT)), I.laid (t' := s.toks) (fun _ _ => PyProof.Rows.sortedAll_old) (Nat.le_succ _) ⟨lenO, out, ep, refs_each e2, he'⟩, rfl, q _ (I.hok.fresh (Nat.le_succ _))⟩
end
/-! ### for k, v in d.items(), the keys tuples; the dict locked -/
def ItiT (d : Addr) (o : Obj) (kvs : List (List Key × V)) : It :=
  ⟨fun i H => H d = some (.frz o (.dT kvs)) ∧ i < kvs.length, fun i H x H' => ∃ T k v q, kvs[i]? = some (k, v) ∧ x = .ref T ∧ H T = none ∧ H q = some (.tup (k.map kV)) ∧ H' = upd H T (.tup [.ref q, v]), fun i H => H d = some (.frz o (.dT kvs)) ∧ i = kvs.length⟩
theorem frz_rawT {X : Cx} {pins : List (Addr × Obj)} {σ : L2.St} {H : Hp} {s : Shared} {d : Addr} {o : Obj} {kvs : List (List Key × V)} (I : Inv X pins σ H s) (h : H d = some (.frz o (.dT kvs))) :
    (d == sysModules) = false ∧ ∃ (es : Array DictEntry) (ep : Nat), o.data = .dict es ep ∧ s.heap.DictRaw d es ep ∧ es.size = kvs.length ∧
    ∀ (i : Nat) (k : List Key) (v : V), kvs[i]? = some (k, v) → ∃ en, ∃ q, es[i]? = some en ∧ en.key = .ref q ∧ H q = some (.tup (k.map kV)) ∧ RelV v en.val := by
  obtain ⟨hd, z, hs, xs, pr, o', es, ep, ho, hx, hdt, he, _⟩ := I.hok d _ h
  have l1 : es.size = xs.length := size_of_entries he
  have l2 : kvs.length = xs.length := Paired.length pr
  have eo : o' = o := Option.some.inj (ho.symm.trans hd)
  refine ⟨hs, es, ep, by rw [← eo]; exact hdt, ⟨o', ho, hx, hdt⟩, by omega, fun i k v e => ?_⟩
  obtain ⟨b, hb, e1, e2, e3⟩ := paired_get pr e
  have q := entry_at he i
  rw [hb] at q
  exact ⟨_, b.2.1, q, rfl, e2, e3⟩
theorem turn_itemsT {P : Program} {w : World} {K : Frg} {d : Addr} {o : Obj} {es : Array DictEntry} {ep : Nat} {kvs : List (List Key × V)} {elts : List Expr} {kk : Nat} {tpos : Pos} (it : Addr) (hod : o.data = .dict es ep) :
    Turn P w K (.Tuple elts kk tpos) (ItiT d o kvs) [it] it (fun i h => ∃ ok ov, IsItemIter h it d i es.size ep ok ov) where
  mem := by simp
  obj := fun i h st b hb => by
    rw [List.mem_singleton.mp hb]
    obtain ⟨ok, ov, e⟩ := st
    exact ⟨_, e, fun v z => nomatch z⟩
  keep := fun i h h' st k => let ⟨ok, ov, e⟩ := st; ⟨ok, ov, k it (by simp) _ e⟩
  item := by
    intro X hP hw hK hc i pins s σ H E I hf st hg
    subst hP hw hK
    obtain ⟨hd, hi⟩ := hg
    obtain ⟨hs, es', ep', hdt, hm, hsz, hx⟩ := frz_rawT I hd
    obtain ⟨rfl, rfl⟩ := dict_ep hod hdt
    obtain ⟨⟨k, v⟩, hkv⟩ : ∃ p, kvs[i]? = some p := ⟨kvs[i], List.getElem?_eq_getElem hi⟩
    obtain ⟨en, q, hen, hkey, hq, ru⟩ := hx i k v hkv
    obtain ⟨ok, ov, he⟩ := st
    have hlt : it < s.heap.objs.size := Heap.lt_size he
    have hi2 : i < es'.size := by omega
    have hen2 : es'[i] = en := by
      rw [Array.getElem?_eq_getElem hi2] at hen
      exact Option.some.inj hen
    refine wpAny_pyNext_items_item_raw he hm hi2 fun h' ho hT hz hk => ?_
    rw [hen2] at ho hT
    refine ⟨_, rfl, wpAny_letOwnedTupleGo_items (s := { s with heap := h' }) ho fun h'' he' sb => ?_⟩
    have hT2 : h''.get? s.heap.objs.size = some { cls := .type "tuple", data := .seq #[en.key, en.val] } := (sb.2 _ (Nat.ne_of_gt hlt)).trans hT
    have new : ObjOk X.prog X.w (upd H s.heap.objs.size (.tup [.ref q, v])) h'' s.heap.objs.size (.tup [.ref q, v]) :=
      ⟨by show 2 ≤ sizeLine; decide, [en.key, en.val], .cons hkey (.cons ru .nil), ⟨_, hT2, rfl, _, rfl⟩⟩
    have I1 : Inv X pins σ (upd H s.heap.objs.size (.tup [.ref q, v])) { s with heap := h'' } :=
      I.turnedNew (t' := s.toks) (ch := [it]) (fun b ob hb e => (sb.2 b (by simpa using hb)).trans (hk b ob (by simpa using hb) e)) hf (Nat.le_refl _) new
    refine ⟨.ref s.heap.objs.size, _, I1, rfl, ⟨_, k, v, q, hkv, rfl, I.hok.fresh (Nat.le_refl _), hq, rfl⟩, ⟨en.key, en.val, he'⟩, fun b hb => ?_⟩
    rw [List.mem_singleton.mp hb, upd_ne (Nat.ne_of_lt hlt)]
    exact (hf it (by simp)).1
  done := by
    intro X hP hw hK hc i pins s σ H E I hf st hg
    subst hP hw hK
    obtain ⟨hd, hi⟩ := hg
    obtain ⟨f0, f1, f2, f3, f4, f5⟩ := hf it (by simp)
    obtain ⟨hs, es', ep', hdt, hm, hsz, hx⟩ := frz_rawT I hd
    obtain ⟨rfl, rfl⟩ := dict_ep hod hdt
    obtain ⟨ok, ov, he⟩ := st
    exact wpAny_pyNext_items_end_raw (I.ok.hd hc) he hm (by omega) fun h' eb => ⟨rfl, I.turned (t' := s.toks) (fun b ob hb e => eb b ob hb e) f0 f1 f3 f4 f5⟩
  self := fun A i s Q E st h => let ⟨_, _, e⟩ := st; PySem.W.kcp_self e h
def iItemsT (td : TE) : TI := fun σ H R => td σ H fun x H1 => ∃ d o kvs, x = .ref d ∧ H1 d = some (.frz o (.dT kvs)) ∧ R (ItiT d o kvs) H1
theorem pi_itemsT {X : Cx} {e : Expr} {td : TE} {apos cpos : Pos} {elts : List Expr} {kk : Nat} {tpos : Pos} (he : PE X e td) (hbase : attributeBase e "items" X.env (eval e X.env) = eval e X.env := by rfl) (hline : (apos.endLine == cpos.line) = true := by rfl) :
    PI X (.Tuple elts kk tpos) (.Call (.Attribute e "items" apos) [] [] cpos) (iItemsT td) := by
  refine ⟨fun pins s σ H R I h => ?_⟩
  refine wpAny_Call_method (T := "dict") (id := "dict.items") hbase rfl hline PySem.F.plainAttrs_dict PySem.F.slot_dict_items PySem.F.type_dict_items (thn (he.run pins s σ H _ I h) fun u s1 ⟨x, H1, I1, rx, d, o, kvs, ex, hd, q⟩ => ?_)
  subst ex
  obtain rfl : u = Value.ref d := rx
  obtain ⟨hs, es, ep, hdt, hm, hsz, hx⟩ := frz_rawT I1 hd
  have noD : ∀ b, Value.ref d = .ref b → ∃ ob, s1.heap.get? b = some ob ∧ ob.dict = none := fun b e => by
    cases e
    obtain ⟨o', ho', hx', _⟩ := hm
    exact ⟨o', ho', hx'.2.1⟩
  refine ⟨hm.typeIs, noD, ?_⟩
  have I2 : Inv X pins σ H1 { s1 with heap := s1.heap.push { cls := .type "dict_items", data := .fields #[.ref d] } } := I1.kept (t' := s1.toks) fun b ob q => Heap.get?_push_of_some _ q
  have fin : wpAny (model X.prog X.w) X.A (pyIter (.ref s1.heap.objs.size)) (PIE X pins σ (.Tuple elts kk tpos) R) X.xe { s1 with heap := s1.heap.push { cls := .type "dict_items", data := .fields #[.ref d] } } := by
    refine wpAny_pyIter_items_raw (d := d) (es := es) (ep := ep) ⟨_, Heap.get?_push_size _ rfl, rfl, rfl⟩ (hm.at fun o e => Heap.get?_push_of_some _ e) (pi_one (tk := s1.toks) I2 _ (turn_itemsT _ hdt) ⟨.none, .none, ?_⟩ q)
    exact Heap.get?_push_size _ rfl
  show wpAny _ _ (callWith cpos (.builtin "dict.items") [.ref d] [] []) _ X.xe s1
  exact method_meetsIn PySem.F.slot_dict_items PySem.F.entry_dict_items rfl (PySem.evalArgs_none ⟨rfl, hm.typeIs, PySem.F.args_dict_items_1 _, _, PySem.meets_dict_items_raw d hs, ⟨⟨es, ep, hm⟩, fin⟩⟩)
theorem walk_itemsT {d : Addr} {o : Obj} {kvs : List (List Key × V)} : Walk (ItiT d o kvs) kvs.length (fun H => H d = some (.frz o (.dT kvs)))
    (fun i H x H' => ∃ T k v q, kvs[i]? = some (k, v) ∧ x = .ref T ∧ H T = none ∧ H q = some (.tup (k.map kV)) ∧ H' = upd H T (.tup [.ref q, v])) :=
  ⟨fun i _ hi q => ⟨q, hi⟩, fun _ q => ⟨q, rfl⟩, fun i H v H' _ q y => y⟩
end Sj
set_option Elab.async false
set_option linter.all false
set_option maxRecDepth 100000
set_option maxHeartbeats 4000000
/-! SjRule7: calls with a star and with keywords; defs that take them. -/
namespace Sj
open PySem PySem.Spec PyProof.Rows L2 He
/-! ### a dict spread out -/
section
variable {X : Cx} {pins : List (Addr × Obj)} {σ : L2.St} {H : Hp} {s : Shared}
theorem star_dK {a : Addr} {kvs : List (Key × V)} {E : Value → Shared → Prop} {Q : List Value → Shared → Prop} (hc : X.calm = true) (I : Inv X pins σ H s) (h : H a = some (.dK kvs)) (hQ : ∀ us s', Inv X pins σ H s' → Vals (kvs.map fun kv => kV kv.1) us → Q us s') : PySem.W.StarOf (model X.prog X.w) X.A E (.ref a) Q s := by
  obtain ⟨z, hs, es, ep, hm, hz, hx⟩ := dK_raw I h
  have K : PySem.W.KdlSrc X.prog X.w "dict" a a (kvs.map fun kv => kV kv.1).length (fun i v => ∃ x, (kvs.map fun kv => kV kv.1)[i]? = some x ∧ RelV x v) (fun h => h.DictRaw a es ep) := by
    rw [List.length_map, ← hz]
    refine kdl_mono (PySem.KdlSrc.rawDict hs) fun i v hi ⟨hi2, e⟩ => ?_
    have hi3 : i < kvs.length := by omega
    obtain ⟨en, e1, e2, e3⟩ := hx i kvs[i].1 kvs[i].2 (List.getElem?_eq_getElem hi3)
    rw [Array.getElem?_eq_getElem hi] at e1
    cases e1
    exact ⟨kV kvs[i].1, by rw [List.getElem?_map, List.getElem?_eq_getElem hi3]; rfl, by rw [e]; exact e2⟩
  unfold PySem.W.StarOf notIterableAtAll
  refine wpAny_bind (wpAny_specialOf hm.typeIs PySem.F.slot_dict_iter.lookup (wpAny_pure ⟨rfl, ?_⟩))
  refine PySem.W.kdu_collect K (I.ok.hd hc) hm (by rw [List.length_map]; exact z) fun h' tk acc hk hacc => hQ _ _ (I.kept (t' := tk) hk) (vals_items hacc)
end
def tStarD (te : TE) (t : TA) : TA := fun σ H Q => te σ H fun x H1 => ∃ p, ∃ kvs : List (Key × V), x = V.ref p ∧ H1 p = some (.dK kvs) ∧ t σ H1 fun ys H2 => Q ((kvs.map fun kv => kV kv.1) ++ ys) H2
theorem pa_starD {X : Cx} {e : Expr} {es : List Expr} {te : TE} {t : TA} {p : Pos} (he : PE X e te) (hr : PA X es t) (hc : X.calm = true := by rfl) (hs : starEach (.Starred e p :: es) X.env = (true, eval e X.env) :: starEach es X.env := by rfl) : PA X (.Starred e p :: es) (tStarD te t) := by
  refine ⟨fun pos pins s σ H Q I h => ?_⟩
  refine PySem.W.items_star (thn (he.run pins s σ H _ I h) fun v s1 ⟨y, H1, I1, ry, a, kvs, ey, hx, q⟩ => ?_) hs
  subst ey
  obtain rfl : v = Value.ref a := ry
  refine star_dK hc I1 hx fun us s2 I2 rv => ?_
  exact thn (hr.run pos pins s2 σ H1 _ I2 q) fun ws s3 ⟨vs, H3, I3, r3, q3⟩ => ⟨_, H3, I3, rv.append r3, q3⟩
/-! ### promises by position and by keywords -/
abbrev SpK := List V → List V → Hp → VK → XK → Prop
def FnK (P : Program) (w : World) (K : Frg) (mg : Str → Option Value) (base : Heap) (k : Nat) (f : Addr) (ks : List Str) (sp : SpK) : Prop :=
  ∀ (A : Around) (outer : List Env) (s : Shared) (H : Hp) (us ws : List Value) (vs zs : List V) (Q : VK) (E : XK), Room k A → Env0 P w K mg base A outer s H → Vals vs us → Vals zs ws → zs.length = ks.length → sp vs zs H Q E →
    codeAny (model P w) A (.call (.ref f) ⟨us, ks.zip ws⟩) (CR CX0 outer P w H s Q E) s
section
variable {P : Program} {w : World} {K : Frg} {mg : Str → Option Value} {base : Heap}
/-- positional parameters and keyword-only ones, all told -/
theorem mkFnK {d : DefX} {N ps ks : List Str} {k n : Nat} {sp : Sp} (D : FunX K d) (S : FnScope N ps (defScope d.st))
    (hb : ∀ (kV doc pm : Value) (an : Option Addr) (cdv ct : Value) (us ws : List Value), us.length = n → ws.length = ks.length → bindArgs (PySem.W.fnOf d.name d.qual (defArgs d.st) (defBody d.st) (defScope d.st) .none kV doc pm an cdv ct) ⟨us, ks.zip ws⟩ = pure (ps.zip (us ++ ws)))
    (len : ∀ vs H Q E, sp vs H Q E → vs.length = ps.length)
    (hbody : ∀ (cdv : Value) (A : Around) (outer : List Env) (s : Shared) (H : Hp) (vs : List V) (Q : VK) (E : XK), Room k (A.deeper (envOfC d.qual (defScope d.st) s.heap.objs.size (d.loc K) cdv)) → sp vs H Q E →
      ∃ t, PSs (cxOf CX0 P w K mg base N d.qual (defScope d.st) (d.loc K) cdv A outer s H E).nox (defBody d.st) t ∧ t { nx := fun _ H' => Q .non H', rt := Q } (start N vs) H) :
    FnK P w K mg base (k + 1) (d.loc K) ks (fun vs zs H Q E => vs.length = n ∧ sp (vs ++ zs) H Q E) := by
  obtain ⟨fd, F⟩ := D
  have F2 := F.ok (P := P) (w := w) (mg := mg) (base := base) (CX := CX0) (sp := sp) (k := k) S len fun cdv A outer s H vs Q E hr h => by
    obtain ⟨t, h1, h2⟩ := hbody cdv A outer s H vs Q E hr h
    exact ⟨t, h1.nox, h2⟩
  obtain ⟨oc, od, dV, kV, doc, pm, an, cdv, ct, osl, e, lk, hcd, hD, hK⟩ := F.ex
  rcases hD with ⟨_, rfl⟩ | ⟨e2, _⟩
  · intro A outer s H us ws vs zs Q E hr e0 r rz l2 ⟨l1, hsp⟩
    have e1 : us.length = n := by rw [← r.length]; exact l1
    have e2 : ws.length = ks.length := by rw [← rz.length]; exact l2
    refine F2.run A outer s H ⟨us, ks.zip ws⟩ (us ++ ws) (vs ++ zs) Q E hr e0 ?_ (r.append rz) hsp
    rw [e]
    exact BindsTo.of_eq (hb kV doc pm an cdv ct us ws e1 e2)
  · exact absurd rfl e2
/-- def f(a, .., *v) -/
theorem mkFnS {d : DefX} {N ps : List Str} {pv : Str} {k : Nat} {sp : Sp} (D : FunX K d) (S : FnScope N (ps ++ [pv]) (defScope d.st))
    (hb : ∀ (kV doc pm : Value) (an : Option Addr) (cdv ct : Value) (us rest : List Value), us.length = ps.length → bindArgs (PySem.W.fnOf d.name d.qual (defArgs d.st) (defBody d.st) (defScope d.st) .none kV doc pm an cdv ct) ⟨us ++ rest, []⟩ = (newTuple rest >>= fun t => pure (ps.zip us ++ [(pv, t)])))
    (hbody : ∀ (cdv : Value) (A : Around) (outer : List Env) (s : Shared) (H : Hp) (vs : List V) (Q : VK) (E : XK), Room k (A.deeper (envOfC d.qual (defScope d.st) s.heap.objs.size (d.loc K) cdv)) → sp vs H Q E →
      ∃ t, PSs (cxOf CX0 P w K mg base N d.qual (defScope d.st) (d.loc K) cdv A outer s H E).nox (defBody d.st) t ∧ t { nx := fun _ H' => Q .non H', rt := Q } (start N vs) H) :
    Fn0 P w K mg base (k + 1) (d.loc K) (fun vs H Q E => ∃ ws rest, vs = ws ++ rest ∧ ws.length = ps.length ∧ rest.length ≤ sizeLine ∧ ∀ p, H p = Option.none → sp (ws ++ [V.ref p]) (upd H p (.tup rest)) Q E) := by
  obtain ⟨fd, F⟩ := D
  obtain ⟨oc, od, dV, kV, doc, pm, an, cdv, ct, osl, rfl, lk, hcd, hD, hK⟩ := F.ex
  rcases hD with ⟨_, rfl⟩ | ⟨e2, _⟩
  · refine StX.fn_star lk hcd S StX.cxUp_none (hb kV doc pm an cdv ct) fun A outer s H vs Q E hr h => ?_
    obtain ⟨t, h1, h2⟩ := hbody cdv A outer s H vs Q E hr h
    exact ⟨t, h1.nox, h2⟩
  · exact absurd rfl e2
/-- def f(a, .., *v, **d), called without keywords -/
theorem mkFnSK {d : DefX} {N ps : List Str} {pv pd : Str} {k : Nat} {sp : Sp} (D : FunX K d) (S : FnScope N (ps ++ [pv, pd]) (defScope d.st))
    (hb : ∀ (kV doc pm : Value) (an : Option Addr) (cdv ct : Value) (us rest : List Value), us.length = ps.length → bindArgs (PySem.W.fnOf d.name d.qual (defArgs d.st) (defBody d.st) (defScope d.st) .none kV doc pm an cdv ct) ⟨us ++ rest, []⟩ =
      (newTuple rest >>= fun t => (alloc ({ cls := .type "dict", data := .dict #[] } : Obj) : Sem Addr) >>= fun d => pure (ps.zip us ++ [(pv, t), (pd, Value.ref d)])))
    (hbody : ∀ (cdv : Value) (A : Around) (outer : List Env) (s : Shared) (H : Hp) (vs : List V) (Q : VK) (E : XK), Room k (A.deeper (envOfC d.qual (defScope d.st) s.heap.objs.size (d.loc K) cdv)) → sp vs H Q E →
      ∃ t, PSs (cxOf CX0 P w K mg base N d.qual (defScope d.st) (d.loc K) cdv A outer s H E).nox (defBody d.st) t ∧ t { nx := fun _ H' => Q .non H', rt := Q } (start N vs) H) :
    Fn0 P w K mg base (k + 1) (d.loc K) (fun vs H Q E => ∃ ws rest, vs = ws ++ rest ∧ ws.length = ps.length ∧ rest.length ≤ sizeLine ∧ ∀ p d, H p = Option.none → H d = Option.none → d ≠ p → sp (ws ++ [V.ref p, V.ref d]) (upd (upd H p (.tup rest)) d (.dK [])) Q E) := by
  obtain ⟨fd, F⟩ := D
  obtain ⟨oc, od, dV, kV, doc, pm, an, cdv, ct, osl, rfl, lk, hcd, hD, hK⟩ := F.ex
  rcases hD with ⟨_, rfl⟩ | ⟨e2, _⟩
  · refine StX.fn_starkw lk hcd S StX.cxUp_none (hb kV doc pm an cdv ct) fun A outer s H vs Q E hr h => ?_
    obtain ⟨t, h1, h2⟩ := hbody cdv A outer s H vs Q E hr h
    exact ⟨t, h1.nox, h2⟩
  · exact absurd rfl e2
/-- def f(a, *v, k = .., ..), all the keywords told: the tuple stands last -/
theorem mkFnKS {d : DefX} {N ps ks : List Str} {pv : Str} {k n : Nat} {sp : Sp} (D : FunX K d) (S : FnScope N (ps ++ [pv]) (defScope d.st)) (hn : n + ks.length = ps.length)
    (hb : ∀ (kV doc pm : Value) (an : Option Addr) (cdv ct : Value) (us rest ws : List Value), us.length = n → ws.length = ks.length → bindArgs (PySem.W.fnOf d.name d.qual (defArgs d.st) (defBody d.st) (defScope d.st) .none kV doc pm an cdv ct) ⟨us ++ rest, ks.zip ws⟩ = (newTuple rest >>= fun t => pure (ps.zip (us ++ ws) ++ [(pv, t)])))
    (hbody : ∀ (cdv : Value) (A : Around) (outer : List Env) (s : Shared) (H : Hp) (vs : List V) (Q : VK) (E : XK), (∃ c, cdv = .ref c) → cdv = codeV K (d.loc K) → Room k (A.deeper (envOfC d.qual (defScope d.st) s.heap.objs.size (d.loc K) cdv)) → sp vs H Q E →
      ∃ t, PSs (cxOf CX0 P w K mg base N d.qual (defScope d.st) (d.loc K) cdv A outer s H E).nox (defBody d.st) t ∧ t { nx := fun _ H' => Q .non H', rt := Q } (start N vs) H) :
    FnK P w K mg base (k + 1) (d.loc K) ks (fun vs zs H Q E => ∃ xs rest, vs = xs ++ rest ∧ xs.length = n ∧ rest.length ≤ sizeLine ∧ ∀ p, H p = Option.none → sp (xs ++ zs ++ [V.ref p]) (upd H p (.tup rest)) Q E) := by
  obtain ⟨fd, F⟩ := D
  obtain ⟨oc, od, dV, kV, doc, pm, an, cdv, ct, osl, rfl, lk, hcd, hD, hK⟩ := F.ex
  rcases hD with ⟨_, rfl⟩ | ⟨e2, _⟩
  · intro A outer s H us ws vs zs Q E hr e0 r rz l2 ⟨xs, rest, ev, hl, hz, hq⟩
    subst ev
    obtain ⟨u1, u2, eu, r1, r2⟩ := StX.vals_split r
    subst eu
    have hn0 : H s.heap.objs.size = Option.none := e0.hok.fresh (Nat.le_refl _)
    have hl1 : u1.length = n := by rw [← r1.length]; exact hl
    have hl2 : u2.length ≤ sizeLine := by rw [← r2.length]; exact hz
    have hl3 : ws.length = ks.length := by rw [← rz.length]; exact l2
    have hl4 : (u1 ++ ws).length = ps.length := by rw [List.length_append, hl1, hl3]; exact hn
    refine StX.run_bnd lk hcd S hr e0 (G := fun ys H2 => ∃ p, H p = Option.none ∧ ys = xs ++ zs ++ [V.ref p] ∧ H2 = upd H p (.tup rest)) (fun A' Ex Q' h => ?_) fun s2 H2 ys ⟨p, hp, ex, eH⟩ hr' => ?_
    · rw [hb kV doc pm an cdv ct u1 u2 ws hl1 hl3]
      refine wpAny_bind (wpAny_newTuple (wpAny_pure ?_) hl2)
      have new : ObjOk P w (upd H s.heap.objs.size (.tup rest)) (s.heap.push ({ cls := .type "tuple", data := .seq u2.toArray } : Obj)) s.heap.objs.size (.tup rest) := ⟨hz, u2, r2, ⟨_, Heap.get?_push_size _ rfl, rfl, _, rfl⟩⟩
      have un := StX.un_laid (fs := frs outer) (s := s) (o := ({ cls := .type "tuple", data := .seq u2.toArray } : Obj)) (u := .tup rest) hn0
      have z := h _ _ (xs ++ zs ++ [V.ref s.heap.objs.size]) (u1 ++ ws ++ [Value.ref s.heap.objs.size]) (StX.env0_laid e0 new) un rfl (fun e s' z => z) ((r1.append rz).append (.cons rfl .nil))
        (by rw [List.length_append, List.length_append, List.length_append, hl, l2, hn] <;> rfl) ⟨_, hn0, rfl, rfl⟩
      rw [List.zip_append hl4.symm] at z
      exact z
    · subst ex eH
      obtain ⟨t, h1, h2⟩ := hbody cdv A outer s2 _ _ Q E (codeIn_ref hcd) (by unfold codeV; rw [lk]) hr' (hq p hp)
      exact ⟨t, h1.nox, h2⟩
  · exact absurd rfl e2
end
/-! ### the calls -/
section
variable {M : Model} {A : Around} {E : Value → Shared → Prop} {s : Shared}
theorem callKW_of {f : Value} {first : List Value} {pos : Pos} {Q : Value → Shared → Prop} {P : Heap → Prop} {args : List (Bool × Sem Value)} {kws : List (Option Str × Sem Value)} (hst : args.any (·.1) = true)
    (hk : ∀ h, P h → ∃ k, (k = Keeper.frame ∨ k = Keeper.machine ∨ k = Keeper.boundFrame) ∧ PySem.W.Looks M h (keeperOf f) k)
    (h : wpAny M A (evalArgs f true args kws) (fun a s₁ => P s₁.heap ∧ wpAny M A (call f (first ++ a.pos) a.kw) Q E s₁) E s) : wpAny M A (callWith pos f first args kws) Q E s := by
  unfold callWith
  refine wpAny_bind (wpAny_holding (wpAny_mono h (fun a s₁ h₁ => wpAny_bind (wpAny_standAt ?_)) fun _ _ x => x))
  obtain ⟨k, hk', L⟩ := hk _ h₁.1
  simp only [hst, Bool.true_or]
  refine wpAny_bind (L.here ?_)
  have tail : ∀ {t : Sem Value}, wpAny M A t Q E s₁ → wpAny M A (t >>= fun r => holding [r] point >>= fun _ => pure r) Q E s₁ :=
    fun ht => wpAny_bind (wpAny_mono ht (fun r s₂ hr => wpAny_bind (wpAny_holding (wpAny_point (wpAny_pure hr)))) fun _ _ x => x)
  have marked (mk : Value) : wpAny M A (callMarked mk f (first ++ a.pos) a.kw) Q E s₁ := by unfold callMarked; exact PySem.Calls.wpAny_keep h₁.2
  rcases hk' with rfl | rfl | rfl <;> dsimp only <;> first | exact tail (marked _) | exact tail (wpAny_operating h₁.2)
theorem loneKW_of {f : Value} {x : Sem Value} {pos : Pos} {kws : List (Option Str × Sem Value)} {Q : Args → Shared → Prop} (hall : kws.all (·.1.isSome) = true)
    (h : wpAny M A x (fun v s₁ => wpAny M A (evalAll (kws.map (·.2))) (fun ws s₂ => PySem.W.StarOf M A E v (fun vs s₃ => Q ⟨vs, (kws.filterMap (·.1)).zip ws⟩ s₃) s₂) E s₁) E s) :
    wpAny M A (evalArgs f true [(true, (do let v ← x; standAt pos; pure v))] kws) Q E s := by
  unfold evalArgs
  first
    | refine wpAny_bind (wpAny_bind (wpAny_mono h (fun v s₁ h₁ => wpAny_bind (wpAny_standAt (wpAny_pure ?_))) fun _ _ x => x))
    | refine wpAny_bind (wpAny_bind (wpAny_bind (wpAny_mono h (fun v s₁ h₁ => wpAny_bind (wpAny_standAt (wpAny_pure (wpAny_pure ?_)))) fun _ _ x => x)))
  refine wpAny_holding ?_
  simp only [hall, if_true]
  refine wpAny_bind (wpAny_mono h₁ (fun ws s₂ h₂ => ?_) fun _ _ x => x)
  unfold PySem.W.StarOf at h₂
  refine wpAny_bind (wpAny_bind (wpAny_mono h₂ (fun b s₂ h₂ => ?_) fun _ _ x => x))
  obtain ⟨rfl, h₂⟩ := h₂
  have z := wpAny_holding (vs := ((kws.filterMap (·.1)).zip ws).map (·.2)) (wpAny_mono h₂ (fun vs s₃ h₃ => (wpAny_pure h₃ : wpAny M A (pure (⟨vs, (kws.filterMap (·.1)).zip ws⟩ : Args)) Q E s₃)) fun _ _ x => x)
  simp only [Bool.false_eq_true, if_false]
  exact z
end
/-- a class's making, with keywords -/
structure KFK (P : Program) (w : World) (K : Frg) (mg : Str → Option Value) (base : Heap) (C : Addr) (k : Nat) (ks : List Str) (sp : SpK) : Prop where
  ex : ∃ f, Mk K C f ∧ FnK P w K mg base k f ks sp
/-- a classmethod of the class at C, with keywords -/
structure CFK (P : Program) (w : World) (K : Frg) (mg : Str → Option Value) (base : Heap) (C : Addr) (m : Str) (k : Nat) (ks : List Str) (sp : SpK) : Prop where
  ex : ∃ mc p g, ClX.CRead K C mc ∧ ClX.CMet K C mc m p g ∧ FnK P w K mg base k g ks sp
/-- .. without -/
structure CF (P : Program) (w : World) (K : Frg) (mg : Str → Option Value) (base : Heap) (C : Addr) (m : Str) (k : Nat) (sp : Sp) : Prop where
  ex : ∃ mc p g, ClX.CRead K C mc ∧ ClX.CMet K C mc m p g ∧ Fn0 P w K mg base k g sp
section
variable {X : Cx} {j k : Nat} {C : Addr} {sp : Sp} {spk : SpK} {ks : List Str} {x m : Str} {e o : Expr} {es : List Expr} {kws : List Keyword} {te tf ta : TE} {t tk : TA} {p sp_ pos apos : Pos}
/-- C(e, ..) by the class's name -/
theorem pk (G : KF X.prog X.w X.K X.mg X.base C j sp) (hr : Room k X.A) (hm : X.mg x = some (.ref C)) (ha : PA X (e :: es) t) (hj : j + 1 ≤ k := by decide) (hg : Gl X x := by rfl) (hdb : (x == ("__debug__" : Str)) = false := by decide)
    (he : starEach (e :: es) X.env = (false, eval e X.env) :: starEach es X.env := by rfl) (hpl : (backTo pos (starEach es X.env)).any (·.1) = false := by rfl) : PE X (.Call (.Name x p) (e :: es) [] pos) (StX.tMakeR C sp E0 t) := by
  obtain ⟨f, M, F⟩ := G.ex
  exact StX.pe_makeR M F (hr.mono hj) hg hm pass0 ha hdb he hpl
/-- c(e, .., *y), c a name that holds the class at C -/
theorem pks (G : KF X.prog X.w X.K X.mg X.base C j sp) (hr : Room k X.A) (hf : PE X (.Name x p) tf) (ha : PA X (e :: es) t) (hj : j + 1 ≤ k := by decide)
    (he : starEach (e :: es) X.env = (false, eval e X.env) :: starEach es X.env := by rfl) (hst : (backTo pos (starEach es X.env)).any (·.1) = true := by rfl) :
    PE X (.Call (.Name x p) (e :: es) [] pos) (fun σ H Q => tf σ H fun y H1 => y = .ref C ∧ StX.tMakeR C sp E0 t σ H1 Q) := by
  obtain ⟨f, M, F⟩ := G.ex
  refine ⟨fun pins s σ H Q I h => wpAny_Call_Name_kw (thn (hf.run pins s σ H _ I h) fun u s1 ⟨y, H1, I1, ry, ey, q⟩ => ?_)⟩
  subst ey
  obtain rfl : u = Value.ref C := ry
  refine PySem.W.callWith_S2 (h₀ := X.base) I1.ok.mod.kin M.kp (thn (ha.run pos pins s1 σ H1 _ I1 q) fun us s2 ⟨vs, H2, I2, r, q2⟩ => ⟨I2.kIn, ?_⟩) he hst
  exact StX.run_makeR M F (hr.mono hj) pass0 I2 r q2
/-- c(*y, k = v, ..) -/
def tMakeKS (K : Frg) (C : Addr) (ks : List Str) (sp : SpK) (te : TE) (tk : TA) : TE := fun σ H Q => te σ H fun z H2 => ∃ a, z = V.ref a ∧ tk σ H2 fun zs H3 => zs.length = ks.length ∧ ∃ xs, (SqT K H3 a xs ∨ SqL K H3 a xs) ∧ ∀ x dx, H3 x = none → H3 dx = none → dx ≠ x →
  sp (V.ref x :: xs) zs (upd (upd H3 dx (.own x)) x (.ins C dx [])) (fun v H' => v = .non ∧ Q (.ref x) H') E0
theorem pksK (G : KFK X.prog X.w X.K X.mg X.base C j ks spk) (hr : Room k X.A) (hf : PE X (.Name x p) tf) (hy : PE X e te) (hkw : PK X kws tk) (hj : j + 1 ≤ k := by decide)
    (hall : (backToKw pos (keywordEach kws X.env)).all (·.1.isSome) = true := by rfl) (hks : (backToKw pos (keywordEach kws X.env)).filterMap (·.1) = ks := by rfl) (hst : starEach [.Starred e sp_] X.env = [(true, eval e X.env)] := by rfl) :
    PE X (.Call (.Name x p) [.Starred e sp_] kws pos) (fun σ H Q => tf σ H fun y H1 => y = .ref C ∧ tMakeKS X.K C ks spk te tk σ H1 Q) := by
  obtain ⟨f, M, F⟩ := G.ex
  refine ⟨fun pins s σ H Q I h => wpAny_Call_Name_kw (thn (hf.run pins s σ H _ I h) fun u s1 ⟨y, H1, I1, ry, ey, q⟩ => ?_)⟩
  subst ey
  obtain rfl : u = Value.ref C := ry
  rw [hst]
  refine callKW_of (P := X.K.In) rfl (PySem.W.keeps_K M.kp) (loneKW_of hall (thn (hy.run pins s1 σ H1 _ I1 q) fun v s2 ⟨z, H2, I2, rz, a, ez, q2⟩ => ?_))
  subst ez
  obtain rfl : v = Value.ref a := rz
  refine thn (hkw.run pos pins s2 σ H2 _ I2 q2) fun ws s3 ⟨zs, H3, I3, rzs, hl, xs, hx, q3⟩ => ?_
  refine StX.star_any I3 hx fun us s4 I4 rv => ?_
  rw [hks]
  refine ⟨I4.kIn, ?_⟩
  have hq := q3 (s4.heap.objs.size + 1) s4.heap.objs.size (I4.hok.fresh (Nat.le_succ _)) (I4.hok.fresh (Nat.le_refl _)) (Nat.ne_of_lt (Nat.lt_succ_self _))
  have I5 := Inv.made (C := C) I4
  have r2 : Vals (V.ref (s4.heap.objs.size + 1) :: xs) (Value.ref (s4.heap.objs.size + 1) :: us) := .cons rfl rv
  have hr' : Room (j + 1) X.A := hr.mono hj
  refine wpAny_call (make_map (f := f) I4.kIn M.makes M.init (beq_iff_eq.mp M.fn) (codeAny_mono (F _ X.stack _ _ (Value.ref (s4.heap.objs.size + 1) :: us) ws _ zs _ E0 (hr'.make C us (ks.zip ws)) (I5.env0.make C us (ks.zip ws)) r2 rzs hl hq) fun r s' hq' => ?_))
  cases r with
  | error e => exact False.elim hq'
  | ok fl =>
    cases fl with
    | ret u =>
      obtain ⟨v, H', I6, rv, ev, q6⟩ := I5.after hq'
      subst ev
      exact ⟨rv, ⟨V.ref (s4.heap.objs.size + 1), H', I6, rfl, q6⟩⟩
    | next => exact False.elim hq'
    | brk => exact False.elim hq'
    | cont => exact False.elim hq'
/-- o.m(e, ..), o the class at C -/
theorem pcm {pl : Sem Bool} (G : CF X.prog X.w X.K X.mg X.base C m j sp) (hr : Room k X.A) (ho : PE X o ta) (ha : PA X (e :: es) t) (hj : j ≤ k := by decide)
    (hst : starEach (e :: es) X.env = (false, eval e X.env) :: starEach es X.env := by rfl) (hpl : (backTo pos (starEach es X.env)).any (·.1) = false := by rfl)
    (ht : eval (.Call (.Attribute o m apos) (e :: es) [] pos) X.env = (do
      let ov ← eval o X.env
      standAt apos.atName
      let (f, first) ← holding [ov] (getMethod ov m pl)
      callWith pos f first (backTo pos (starEach (e :: es) X.env)) (backToKw pos (keywordEach [] X.env))) := by rfl) :
    PE X (.Call (.Attribute o m apos) (e :: es) [] pos) (ClX.tCMeth C sp E0 ta t) := by
  obtain ⟨mc, p, g, R, c, F⟩ := G.ex
  exact ClX.pe_cmeth ho R c F (hr.mono hj) pass0 ha hst hpl ht
/-- .. with keywords -/
def tCMethK (C : Addr) (ks : List Str) (sp : SpK) (ta : TE) (t tk : TA) : TE := fun σ H Q => ta σ H fun x H1 => x = .ref C ∧ t σ H1 fun vs H2 => tk σ H2 fun zs H3 => zs.length = ks.length ∧ sp (.ref C :: vs) zs H3 Q E0
theorem pcmK {pl : Sem Bool} (G : CFK X.prog X.w X.K X.mg X.base C m j ks spk) (hr : Room k X.A) (ho : PE X o ta) (ha : PA X (e :: es) t) (hkw : PK X kws tk) (hj : j ≤ k := by decide)
    (hall : (backToKw pos (keywordEach kws X.env)).all (·.1.isSome) = true := by rfl) (hks : (backToKw pos (keywordEach kws X.env)).filterMap (·.1) = ks := by rfl)
    (hst : starEach (e :: es) X.env = (false, eval e X.env) :: starEach es X.env := by rfl) (hpl : ((backTo pos (starEach (e :: es) X.env)).any (·.1) || (backToKw pos (keywordEach kws X.env)).any (·.1.isNone)) = false := by rfl)
    (ht : eval (.Call (.Attribute o m apos) (e :: es) kws pos) X.env = (do
      let ov ← eval o X.env
      standAt apos.atName
      let (f, first) ← holding [ov] (getMethod ov m pl)
      callWith pos f first (backTo pos (starEach (e :: es) X.env)) (backToKw pos (keywordEach kws X.env))) := by rfl) :
    PE X (.Call (.Attribute o m apos) (e :: es) kws pos) (tCMethK C ks spk ta t tk) := by
  obtain ⟨mc, p, g, R, c, F⟩ := G.ex
  refine ⟨fun pins s σ H Q I h => ?_⟩
  refine PySem.W.methodCall_KW (pl := pl) (thn (ho.run pins s σ H _ I h) fun u s1 ⟨x, H1, I1, rx, ex, q⟩ => ?_) ht
  subst ex
  obtain rfl : u = Value.ref C := rx
  refine ClX.getmethcm_ok I1 R c fun s2 I2 => ?_
  refine PySem.W.callWith_of (P := PySem.W.MethP X.K s1.heap.objs.size g (.ref C)) hpl (PySem.W.keeps_M c.fi) (PyProof.Rows.evalArgs_kw2 hall (thn (ha.run pos _ s2 σ H1 _ I2 q) fun us s3 ⟨vs, H3, I3, rv, q2⟩ => ?_) hst)
  refine thn (hkw.run pos _ s3 σ H3 _ I3 q2) fun ws s4 ⟨zs, H4, I4, rz, hl, q4⟩ => ?_
  rw [hks]
  refine ⟨⟨ClX.pin_at I4, I4.kIn⟩, ?_⟩
  have r2 : Vals (V.ref C :: vs) (Value.ref C :: us) := .cons rfl rv
  have z : wpAny (model X.prog X.w) X.A (call (.ref s1.heap.objs.size) us (ks.zip ws)) (EP X ((s1.heap.objs.size, PySem.W.methodObj (.ref g) (.ref C)) :: pins) σ Q) X.xe s4 := by
    refine wpAny_call (PySem.W.method_call (ClX.pin_at I4) (codeAny_mono (F X.A X.stack s4 H4 (Value.ref C :: us) ws _ zs Q E0 (hr.mono hj) I4.env0 r2 rz hl q4) fun r s' hq' => ?_))
    cases r with
    | error e => exact False.elim hq'
    | ok fl =>
      cases fl with
      | ret u => exact I4.after hq'
      | next => exact False.elim hq'
      | brk => exact False.elim hq'
      | cont => exact False.elim hq'
  exact thn z fun _ _ y => ClX.unpinE y
end
end Sj
set_option Elab.async false
set_option linter.all false
set_option maxRecDepth 100000
set_option maxHeartbeats 4000000
/-! SjRule8: sorted(t, key=lambda x: x.f), t a tuple of instances whose f is a text. -/
namespace Sj
open PySem PySem.Spec PyProof.Rows L2 He
/-! ### a lambda, made and known -/
abbrev lamObj (q : Str) (params : Arguments) (body : Expr) (scope : Scope) (pm : Value) (c' : Addr) (ctv : Value) : Obj := PySem.W.kla_obj "<lambda>" q params body scope [] pm c' ctv
/-- the lambda at f, its code at c' -/
def LamO (f : Addr) (q : Str) (params : Arguments) (body : Expr) (scope : Scope) (c' : Addr) : HO := .ext fun h => ∃ pm ctv, h.get? f = some (lamObj q params body scope pm c' ctv)
theorem lamO_ok {P : Program} {w : World} {H : Hp} {h : Heap} {f c' : Addr} {q : Str} {params : Arguments} {body : Expr} {scope : Scope} {pm ctv : Value} (e : h.get? f = some (lamObj q params body scope pm c' ctv)) : ObjOk P w H h f (LamO f q params body scope c') :=
  ⟨⟨pm, ctv, e⟩, ⟨_, e⟩, fun h1 h2 ⟨pm, ctv, e⟩ k => ⟨pm, ctv, k _ e⟩⟩
theorem clo_nil {cells : List (Str × Addr)} : ∀ {names : List (Str × NameKind)} {acc : List (Str × Addr)}, (∀ y ∈ names, y.2 ≠ .free) → cloFrom cells names acc = acc
  | [], _, _ => rfl
  | (x, k) :: r, acc, h => by
    have hk : k ≠ .free := h (x, k) List.mem_cons_self
    have e : cloFrom cells ((x, k) :: r) acc = cloFrom cells r acc := by
      cases k with
      | free => exact absurd rfl hk
      | _ => rfl
    rw [e]
    exact clo_nil fun y hy => h y (List.mem_cons_of_mem _ hy)
section
variable {X : Cx}
/-- the lambda's value: known at f, its code known at c' -/
def tLam1 (P : Addr) (q : Str) (params : Arguments) (body : Expr) (scope : Scope) : TE := fun σ H Q => LamX.TabS H P q ∧ ∀ f c' H1, LamX.ExtN H H1 → LamX.TabS H1 P q → H1 f = some (LamO f q params body scope c') → H1 c' = some (LamX.CodeO c' q) → Q (.ref f) H1
theorem pe_lam1 {c P : Addr} {params : Arguments} {body : Expr} {scope : Scope} {pos : Pos} (TB : LamX.TabB X.base X.mg c P) (hcode : X.env.code = .ref c) (hdef : defaultsOf params X.env = ([], [])) (hfree : ∀ y ∈ scope.names, y.2 ≠ .free) :
    PE X (.Lambda params body scope pos) (tLam1 P (X.env.qual ++ "<lambda>") params body scope) := by
  refine ⟨fun pins s σ H Q I h => ?_⟩
  obtain ⟨⟨ps, hP, ht, ha⟩, h⟩ := h
  refine PySem.W.kla_eval hdef ?_
  have bP : s.heap.BuiltinsAt X.mg P := TB.bm.keeps I.bk
  have hP' : s.heap.get? P = some { cls := .none, data := .fields ps } := I.hok P _ hP
  have ec : cloFrom X.env.cells scope.names [] = [] := clo_nil hfree
  have cl : closureFor scope X.env = pure [] := by
    have e := closure_ok (env := X.env) (scope := scope) fun y hy e => absurd e (hfree y hy)
    rw [ec] at e
    exact e
  cases hc : codeAmong pos ps.toList with
  | none =>
    refine PySem.W.kla_makeFunction (mg := X.mg) (c := c) (P := P) (ps := ps) cl I.ok.glob (I.mod.glob.keeps I.bk) hcode (TB.code.keeps I.bk) hP' ht hc TB.gP bP fun c' ctv h' tk hx hge hlt hrec htb => ?_
    obtain ⟨c2, oc, vs, t, e2, hoc, hd, hv⟩ := hrec
    cases e2
    have hsz : s.heap.objs.size ≤ h'.objs.size := Nat.le_trans hge (Nat.le_of_lt hlt)
    have nC : H c' = none := I.hok.fresh hge
    have I1 := LamX.inv_table (t' := tk) (more := #[rawInt pos.line, rawInt pos.col, .ref c']) (h' := h') I hP (fun b o hb e => hx b o hb e) htb hge ⟨oc, vs, t, hoc, hd, hv⟩
    have nf : (upd (upd H P (.tbl (ps ++ #[rawInt pos.line, rawInt pos.col, .ref c']))) c' (LamX.CodeO c' (X.env.qual ++ "<lambda>"))) h'.objs.size = none := I1.hok.fresh (Nat.le_refl _)
    have I2 := I1.laid (t' := tk) (o := LamO h'.objs.size (X.env.qual ++ "<lambda>") params body scope c') (h' := h'.push (lamObj (X.env.qual ++ "<lambda>") params body scope ((X.mg "__name__").getD .none) c' ctv)) (fun b o e => Heap.get?_push_of_some _ e) (Nat.le_refl _) (lamO_ok (Heap.get?_push_size _ rfl))
    have hE : LamX.ExtN H (upd (upd H P (.tbl (ps ++ #[rawInt pos.line, rawInt pos.col, .ref c']))) c' (LamX.CodeO c' (X.env.qual ++ "<lambda>"))) := fun b o e n => by
      rw [upd_ne (ne_of_none e nC), upd_ne (fun z => n ps (Option.some.inj (e.symm.trans (by rw [z]; exact hP))))]
      exact e
    have hE2 : ∀ b o, (upd (upd H P (.tbl (ps ++ #[rawInt pos.line, rawInt pos.col, .ref c']))) c' (LamX.CodeO c' (X.env.qual ++ "<lambda>"))) b = some o → upd (upd (upd H P (.tbl (ps ++ #[rawInt pos.line, rawInt pos.col, .ref c']))) c' (LamX.CodeO c' (X.env.qual ++ "<lambda>"))) h'.objs.size (LamO h'.objs.size (X.env.qual ++ "<lambda>") params body scope c') b = some o := fun b o e => by
      rw [upd_ne (ne_of_none e nf)]
      exact e
    have eL : (ps ++ #[rawInt pos.line, rawInt pos.col, .ref c']).toList = ps.toList ++ [rawInt pos.line, rawInt pos.col, .ref c'] := by simp
    have hT : LamX.TabS (upd (upd H P (.tbl (ps ++ #[rawInt pos.line, rawInt pos.col, .ref c']))) c' (LamX.CodeO c' (X.env.qual ++ "<lambda>"))) P (X.env.qual ++ "<lambda>") := by
      refine ⟨_, by rw [upd_ne (ne_of_none hP nC), upd_same], by rw [eL]; exact PySem.TriplesOk_snoc _ _ _ _ ht, fun p' cv hcv => ?_⟩
      rw [eL] at hcv
      rcases LamX.among_app _ ht hcv with z | z
      · obtain ⟨c0, e1, e2⟩ := ha p' cv z
        exact ⟨c0, e1, hE _ _ e2 LamX.codeO_ne⟩
      · exact ⟨c', z, upd_same⟩
    exact ⟨.ref h'.objs.size, _, I2, rfl, h _ c' _ (hE.trans (LamX.ExtN.of hE2)) (hT.ext hE2) upd_same (hE2 _ _ upd_same)⟩
  | some cv =>
    obtain ⟨c', e, hco⟩ := ha pos cv hc
    subst e
    refine PySem.W.kla_makeFunctionHit (mg := X.mg) (c := c) (P := P) (ps := ps) cl I.ok.glob (I.mod.glob.keeps I.bk) hcode (TB.code.keeps I.bk) hP' ht hc bP fun ctv h' tk hx hsz => ?_
    have I1 : Inv X pins σ H { s with heap := h', toks := tk } := I.kept fun b o e => hx b o e
    have nf : H h'.objs.size = none := I1.hok.fresh (Nat.le_refl _)
    have I2 := I1.laid (t' := tk) (o := LamO h'.objs.size (X.env.qual ++ "<lambda>") params body scope c') (h' := h'.push (lamObj (X.env.qual ++ "<lambda>") params body scope ((X.mg "__name__").getD .none) c' ctv)) (fun b o e => Heap.get?_push_of_some _ e) (Nat.le_refl _) (lamO_ok (Heap.get?_push_size _ rfl))
    have hE2 : ∀ b o, H b = some o → upd H h'.objs.size (LamO h'.objs.size (X.env.qual ++ "<lambda>") params body scope c') b = some o := fun b o e => by
      rw [upd_ne (ne_of_none e nf)]
      exact e
    have hT : LamX.TabS H P (X.env.qual ++ "<lambda>") := ⟨ps, hP, ht, ha⟩
    exact ⟨.ref h'.objs.size, _, I2, rfl, h _ c' _ (LamX.ExtN.of hE2) (hT.ext hE2) upd_same (hE2 _ _ hco)⟩
end
/-! ### the sort -/
/-- an instance's place and its text -/
abbrev NN := Addr × Str
def encN (b : NN) : PyData := .str b.2
def leN (a b : NN) : Bool := PySem.W.dataLe false encN a b
def refN (b : NN) : V := .ref b.1
theorem each_refN : ∀ {bs : List NN} {us : List Value}, Vals (bs.map refN) us → PySem.W.EachIs (fun v b => v = .ref b.1) us bs
  | [], _, .nil => .nil
  | b :: bs, _, .cons r t => .cons r (each_refN t)
theorem refN_each : ∀ {bs : List NN} {us : List Value}, PySem.W.EachIs (fun v b => v = .ref b.1) us bs → Vals (bs.map refN) us
  | _, _, .nil => .nil
  | _, _, .cons h t => .cons h (refN_each t)
theorem sorted_keyT {prog : Program} {w : World} {A : Around} {E : Value → Shared → Prop} {s : Shared} {l : Addr} {f : Addr} {vs : List Value} {bs : List NN} {Q : Value → Shared → Prop} (hl : s.heap.IsTuple l vs.toArray) (e : PySem.W.EachIs (fun v b => v = .ref b.1) vs bs) (hL : bs.length ≤ sizeLine)
    (hu : A.units + 64 < cLine)
    (turn : ∀ x ∈ bs, ∀ (h : Heap) (tk : Nat), (∀ b o, s.heap.get? b = some o → h.get? b = some o) →
      wpAny (model prog w) A.in1.in1 (call (.ref f) [.ref x.1]) (PySem.W.KeyPure (encN x) { s with heap := h, toks := tk }) (fun _ _ => False) { s with heap := h, toks := tk })
    (h : ∀ (h1 : Heap) out c h' tk, (∀ b o, s.heap.get? b = some o → h1.get? b = some o) → (∀ b o, h1.get? b = some o → h'.get? b = some o) → h'.get? h1.objs.size = some (PyProof.Rows.seqObj "list" (List.toArray out) c) → PySem.W.EachIs (fun v b => v = .ref b.1) out (bs.mergeSort leN) → Q (.ref h1.objs.size) { s with heap := h', toks := tk }) :
    wpAny (model prog w) A (call (.builtin "sorted") [.ref l] [(Str.ofString "key", .ref f)]) Q E s := by
  obtain ⟨o, ho, hc, n, hd⟩ := hl
  have hlen := e.length
  refine PyProof.Rows.call_function_entry_kw PyProof.Rows.kind_sorted PyProof.Rows.plain_sorted PyProof.Rows.entry_sorted (PyProof.Rows.ksk_s1 _ _) ?_
  unfold Builtin.«sorted»
  refine wpAny_bind (m := checkCount "sorted" 1 1 _) (wpAny_pure ?_)
  refine wpAny_bind (wpAny_collect_seq l (.inr rfl) ho hc hd (fun h1 hk1 => ?_) (by rw [List.size_toArray, hlen]; exact hL))
  have ev : vs.toArray.toList = vs := by simp
  rw [ev]
  refine wpAny_bind (wpAny_newList ?_ (by rw [hlen]; exact hL))
  have hoL : (h1.push (PyProof.Rows.seqObj "list" vs.toArray 0)).get? h1.objs.size = some (PyProof.Rows.seqObj "list" vs.toArray 0) := Heap.get?_push_size _ rfl
  show wpAny _ _ _ _ _ { s with heap := h1.push (PyProof.Rows.seqObj "list" vs.toArray 0) }
  refine wpAny_bind (wpAny_holding (PySem.W.list_sort_key_data (b := false) (R := fun v b => v = .ref b.1) (bs := bs) encN hoL e (PySem.W.AllAlike.of fun _ _ => by simp [PySem.W.alike, encN]) (PySem.W.Sortable.others fun b => ⟨(fun z => nomatch z), fun xs z => nomatch z⟩) hL (fun x _ => ?_) (PyProof.Rows.ksk_l1 _ _) (PyProof.Rows.ksk_t1 _ _)
    (fun v x hv hx h2 tk kp => ?_) fun out c h2 tk kp hD ho2 eo => ?_))
  · show A.units + 1 + 1 + 0 < cLine
    omega
  · rw [hv]
    exact turn x hx h2 tk fun b o q => kp b o (Nat.ne_of_lt (Heap.lt_size (hk1 b o q))) (Heap.get?_push_of_some _ (hk1 b o q))
  · exact wpAny_pure ⟨_, rfl, h h1 out c h2 tk hk1 (fun b o q => kp b o (Nat.ne_of_lt (Heap.lt_size q)) (Heap.get?_push_of_some _ q)) hD eo⟩
/-! ### the rule -/
/-- the lambda's names: its parameter alone -/
structure LamP (scope : Scope) (a : Str) : Prop where
  kind : scope.kind = .function
  co : scope.isCoroutine = false
  gen : scope.isGenerator = false
  own : ∀ y ∈ scope.names, y.2 ≠ .cell
  par : scope.names.lookup a = some .local
/-- sorted(l, key=f), f the lambda that reads the attribute at of what it gets -/
def rSortLam (K : Frg) (q : Str) (params : Arguments) (scope : Scope) (a at_ : Str) (p1 p2 : Pos) : List V → List V → Hp → VK → Prop := fun vs zs H Q => ∃ l f c', ∃ bs : List NN, vs = [.ref l] ∧ zs = [.ref f] ∧ H f = some (LamO f q params (.Attribute (.Name a p1) at_ p2) scope c') ∧ H c' = some (LamX.CodeO c' q) ∧ SqT K H l (bs.map refN) ∧ bs.length ≤ 1000 ∧
  (∀ b ∈ bs, ∃ C dx fs, H b.1 = some (.ins C dx fs) ∧ Cls K C ∧ NoAttr K C at_ ∧ fs.lookup at_ = some (.str b.2)) ∧ ∀ p, H p = none → Q (.ref p) (upd H p (.lst ((bs.mergeSort leN).map refN)))
theorem cr_sortLam {X : Cx} {k : Nat} {q : Str} {params : Arguments} {scope : Scope} {a at_ : Str} {p1 p2 : Pos} (hr : Room (k + 8) X.A) (L : LamP scope a)
    (hbind : ∀ (pm cv ctv v : Value), bindArgs (PySem.W.kla_fn "<lambda>" q params (.Attribute (.Name a p1) at_ p2) scope [] pm cv ctv) ⟨[v], []⟩ = pure [(a, v)]) (hd : (a == ("__debug__" : Str)) = false := by decide)
    (hab : ∀ env : Env, attributeBase (.Name a p1) at_ env (eval (.Name a p1) env) = eval (.Name a p1) env := by intro _; rfl) : CallRK X (.builtin "sorted") [Str.ofString "key"] (rSortLam X.K q params scope a at_ p1 p2) := by
  intro pins s σ H vs zs us ws Q I r rz h
  obtain ⟨l, f, c', bs, rfl, rfl, hf, hc', hT, hz, hb, q3⟩ := h
  obtain rfl := Vals.ref1 r
  obtain ⟨w1, rfl, e1⟩ := vals1 rz
  obtain rfl : w1 = Value.ref f := e1
  obtain ⟨its, rv, hl, _⟩ := I.tuple hT
  obtain ⟨⟨pm, ctv, hfo⟩, _, _⟩ := (show ObjOk X.prog X.w H s.heap f (LamO f q params (.Attribute (.Name a p1) at_ p2) scope c') from I.hok f _ hf)
  obtain ⟨⟨oc, cvs, tc, hoc, hdc, hvc⟩, _, _⟩ := (show ObjOk X.prog X.w H s.heap c' (LamX.CodeO c' q) from I.hok c' _ hc')
  have hz2 : bs.length ≤ sizeLine := Nat.le_of_lt (small1000 hz)
  refine sorted_keyT (bs := bs) hl (each_refN rv) hz2 hr.units (fun x hx h tk kp => ?_) fun h1 out c h2 tk k1 k2 hD eo => ?_
  · obtain ⟨C, dx, fs, hi, cl, na, lk⟩ := hb x hx
    obtain ⟨mA, O, ro, _, _, _⟩ := ins_get I.hok hi
    obtain ⟨u, hu, ru⟩ := RelO.some_of (v := V.str x.2) (o := mA at_) (by rw [← lk]; exact ro at_)
    obtain ⟨tk2, rfl⟩ := ru
    have KX : X.K.In h := fun b o e => kp b o (I.kIn b o e)
    have lim : h.NoLimit := I.nolimit.keeps kp
    have Oh : ObjM h x.1 dx C mA := ⟨kp _ _ O.obj, let ⟨ob, es, ep, e, z⟩ := O.ns; ⟨ob, es, ep, kp _ _ e, z⟩, O.ne⟩
    refine wpAny_call (PySem.W.kla_callFunE (s := { s with heap := h, toks := tk }) (by have := hr.depth; exact this) (kp _ _ hfo) rfl L.co L.gen rfl ⟨c', oc, cvs, tc, rfl, kp _ _ hoc, hdc, hvc⟩ ?_)
    rw [hbind]
    refine wpAny_pure (wpAny_newFunctionEnv (fun y hy => L.own y hy) (fun y hy => by rw [List.mem_singleton.mp hy]; exact L.par) (fun h₁ hns hsb => ⟨lim.fresh _ hsb, ?_⟩) L.kind)
    have kp1 : ∀ b o, h.get? b = some o → h₁.get? b = some o := fun b o e => hsb.extBut b o (Nat.ne_of_lt (Heap.lt_size e)) (Heap.get?_push_of_some _ e)
    refine PySem.W.kla_codeExpr ?_
    refine attr_of (hab _) ?_
    refine wpAny_Name (wpAny_loadName_local L.kind L.par hns (v := .ref x.1) (by simp) ?_) hd
    refine get_map (fun b o e => kp1 b o (KX b o e)) (⟨kp1 _ _ Oh.obj, let ⟨ob, es, ep, e, z⟩ := Oh.ns; ⟨ob, es, ep, kp1 _ _ e, z⟩, Oh.ne⟩ : ObjM h₁ x.1 dx C mA) (cl.get at_) cl.hd na hu rfl ?_
    exact ⟨h₁, _, rfl, kp1, .str x.2 tk2⟩
  · have I1 : Inv X pins σ H { s with heap := h1 } := I.kept (t' := s.toks) k1
    refine ⟨.ref h1.objs.size, upd H h1.objs.size (.lst ((bs.mergeSort leN).map refN)), I1.laid (t' := tk) k2 (Nat.le_refl _) ⟨?_, out, c, refN_each eo, hD⟩, rfl, q3 _ (I1.hok.fresh (Nat.le_refl _))⟩
    rw [List.length_map, List.length_mergeSort]
    exact hz2
end Sj
set_option Elab.async false
set_option linter.all false
set_option maxRecDepth 100000
set_option maxHeartbeats 4000000
/-! SjRule10: a dict comprehension of two clauses. -/
namespace Sj
open PySem PySem.Spec PyProof.Rows L2 He
theorem dTurn2_out (kx vx t0 i0 t1 i1 : Expr) (ifs0 ifs1 : List Expr) (scope : Scope) (pos : Pos) (it acc : Value) (env : Env) :
    compTurn (.DictComp kx vx [⟨t0, i0, ifs0, 0⟩, ⟨t1, i1, ifs1, 0⟩] scope pos) 0 it acc env = (do
      standAt i0.pos
      match ← pyNext it with
      | none => pure (.done .next)
      | some v =>
        letOwnedTupleGo t0 it v
        assign t0 env v
        let mut ok := true
        for c in ifs0 do
          if ok then ok ← isTrue c env (eval c env)
        if ok then
          let x ← eval i1 env
          standAt i1.pos
          let x ← foldedSetIterable i1 env x
          let _ ← runOwn (.compStart (.DictComp kx vx [⟨t0, i0, ifs0, 0⟩, ⟨t1, i1, ifs1, 0⟩] scope pos) 1 (← holding [x] (pyIter x)) acc env) env
        again (.compLoop (.DictComp kx vx [⟨t0, i0, ifs0, 0⟩, ⟨t1, i1, ifs1, 0⟩] scope pos) 0 it acc env)) := by rfl
theorem dTurn2_in (kx vx t0 i0 t1 i1 : Expr) (ifs0 ifs1 : List Expr) (scope : Scope) (pos : Pos) (it : Value) (D : Addr) (env : Env) :
    compTurn (.DictComp kx vx [⟨t0, i0, ifs0, 0⟩, ⟨t1, i1, ifs1, 0⟩] scope pos) 1 it (.ref D) env = (do
      standAt i1.pos
      match ← pyNext it with
      | none => pure (.done .next)
      | some v =>
        letOwnedTupleGo t1 it v
        assign t1 env v
        let mut ok := true
        for c in ifs1 do
          if ok then ok ← isTrue c env (eval c env)
        if ok then
          (do
            let kv ← eval kx env
            let vv ← holding [kv] (eval vx env)
            standAt { kx.pos with endLine := vx.pos.endLine, endCol := vx.pos.endCol }
            holding [kv, vv] (dictSet D kv vv))
        again (.compLoop (.DictComp kx vx [⟨t0, i0, ifs0, 0⟩, ⟨t1, i1, ifs1, 0⟩] scope pos) 1 it (.ref D) env)) := by rfl

section
variable {prog : Program} {w : World} {A : Around} {R : Result → Shared → Prop} {s : Shared} {kx vx t0 i0 t1 i1 : Expr} {ifs0 ifs1 : List Expr} {scope : Scope} {pos : Pos} {it acc : Value} {env : Env}
/-- the loop of the first clause -/
theorem dLoop2_out (hs : ∀ x, foldedSetIterable i1 env x = pure x) (I : Nat → Shared → Prop)
    (turn : ∀ n s, I n s → wpAny (model prog w) A (pyNext it) (fun r s₁ => match r with
      | none => R (.ok .next) s₁
      | some v => wpAny (model prog w) A (letOwnedTupleGo t0 it v) (fun _ s₁' => wpAny (model prog w) A (assign t0 env v) (fun _ s₂ =>
          wpAny (model prog w) A (forIn ifs0 true fun c r => if r = true then do let ok ← isTrue c env (eval c env); pure (ForInStep.yield ok) else pure (ForInStep.yield r)) (fun ok s₃ =>
            if ok = true then wpAny (model prog w) A (eval i1 env) (fun x s₄ => wpAny (model prog w) A (pyIter x) (fun it1 s₅ =>
              codeAny (model prog w) A (.compStart (.DictComp kx vx [⟨t0, i0, ifs0, 0⟩, ⟨t1, i1, ifs1, 0⟩] scope pos) 1 it1 acc env) (fun r s' => match r with
                | .ok _ => ∃ m, m < n ∧ I m s'
                | .error _ => False) s₅) (notedBy (model prog w) A env fun e s' => R (.error e) s') s₄) (notedBy (model prog w) A env fun e s' => R (.error e) s') s₃
            else ∃ m, m < n ∧ I m s₃) (notedBy (model prog w) A env fun e s' => R (.error e) s') s₂) (notedBy (model prog w) A env fun e s' => R (.error e) s') s₁') (notedBy (model prog w) A env fun e s' => R (.error e) s') s₁) (notedBy (model prog w) A env fun e s' => R (.error e) s') s)
    (n : Nat) (h : I n s) :
    codeAny (model prog w) A (.compLoop (.DictComp kx vx [⟨t0, i0, ifs0, 0⟩, ⟨t1, i1, ifs1, 0⟩] scope pos) 0 it acc env) R s := by
  refine codeAny_loop rfl I (fun n s hI => ?_) n h
  show wpAny _ A ((compTurn (.DictComp kx vx [⟨t0, i0, ifs0, 0⟩, ⟨t1, i1, ifs1, 0⟩] scope pos) 0 it acc env).onRaise (fun x => do noteFrame x env; theTreesLotGoes x)) _ _ s
  refine wpAny_noted ?_
  rw [dTurn2_out]
  refine wpAny_bind (wpAny_standAt (wpAny_bind (wpAny_mono (turn n s hI) (fun r s₁ h₁ => ?_) fun _ _ h' => h')))
  cases r with
  | none => exact wpAny_pure h₁
  | some v =>
    refine wpAny_bind (wpAny_mono h₁ (fun _ s₁' h₁' => ?_) fun _ _ h' => h')
    refine wpAny_bind (wpAny_mono h₁' (fun _ s₂ h₂ => wpAny_bind (wpAny_mono h₂ (fun ok s₃ h₃ => ?_) fun _ _ h' => h')) fun _ _ h' => h')
    cases ok with
    | false => exact wpAny_pure ⟨rfl, h₃⟩
    | true =>
      refine wpAny_bind (wpAny_mono h₃ (fun x s₄ h₄ => ?_) fun _ _ h' => h')
      refine wpAny_bind (wpAny_standAt (wpAny_bind (wpAny_of_eq (hs x) (wpAny_bind (wpAny_holding (wpAny_mono h₄ (fun it1 s₅ h₅ => ?_) fun _ _ h' => h'))))))
      refine wpAny_bind (wpAny_runOwn ?_)
      rw [Around.mark_none]
      refine codeAny_mono h₅ fun r s' hr => ?_
      cases r with
      | ok f =>
        first
          | exact wpAny_pure ⟨rfl, hr⟩
          | exact wpAny_bind (wpAny_pure (wpAny_pure ⟨rfl, hr⟩))
      | error e => exact hr.elim
/-- the loop of the second -/
theorem dLoop2_in {D : Addr} (I : Nat → Shared → Prop)
    (turn : ∀ n s, I n s → wpAny (model prog w) A (pyNext it) (fun r s₁ => match r with
      | none => R (.ok .next) s₁
      | some v => wpAny (model prog w) A (letOwnedTupleGo t1 it v) (fun _ s₁' => wpAny (model prog w) A (assign t1 env v) (fun _ s₂ =>
          wpAny (model prog w) A (forIn ifs1 true fun c r => if r = true then do let ok ← isTrue c env (eval c env); pure (ForInStep.yield ok) else pure (ForInStep.yield r)) (fun ok s₃ =>
            if ok = true then wpAny (model prog w) A (eval kx env) (fun kv s₄ => wpAny (model prog w) A (eval vx env) (fun vv s₅ =>
              wpAny (model prog w) A (dictSet D kv vv) (fun _ s₆ => ∃ m, m < n ∧ I m s₆) (notedBy (model prog w) A env fun e s' => R (.error e) s') s₅) (notedBy (model prog w) A env fun e s' => R (.error e) s') s₄) (notedBy (model prog w) A env fun e s' => R (.error e) s') s₃
            else ∃ m, m < n ∧ I m s₃) (notedBy (model prog w) A env fun e s' => R (.error e) s') s₂) (notedBy (model prog w) A env fun e s' => R (.error e) s') s₁') (notedBy (model prog w) A env fun e s' => R (.error e) s') s₁) (notedBy (model prog w) A env fun e s' => R (.error e) s') s)
    (n : Nat) (h : I n s) :
    codeAny (model prog w) A (.compLoop (.DictComp kx vx [⟨t0, i0, ifs0, 0⟩, ⟨t1, i1, ifs1, 0⟩] scope pos) 1 it (.ref D) env) R s := by
  refine codeAny_loop rfl I (fun n s hI => ?_) n h
  show wpAny _ A ((compTurn (.DictComp kx vx [⟨t0, i0, ifs0, 0⟩, ⟨t1, i1, ifs1, 0⟩] scope pos) 1 it (.ref D) env).onRaise (fun x => do noteFrame x env; theTreesLotGoes x)) _ _ s
  refine wpAny_noted ?_
  rw [dTurn2_in]
  refine wpAny_bind (wpAny_standAt (wpAny_bind (wpAny_mono (turn n s hI) (fun r s₁ h₁ => ?_) fun _ _ h' => h')))
  cases r with
  | none => exact wpAny_pure h₁
  | some v =>
    refine wpAny_bind (wpAny_mono h₁ (fun _ s₁' h₁' => ?_) fun _ _ h' => h')
    refine wpAny_bind (wpAny_mono h₁' (fun _ s₂ h₂ => wpAny_bind (wpAny_mono h₂ (fun ok s₃ h₃ => ?_) fun _ _ h' => h')) fun _ _ h' => h')
    cases ok with
    | false => exact wpAny_pure ⟨rfl, h₃⟩
    | true =>
      exact wpAny_bind (wpAny_bind (wpAny_mono h₃ (fun kv s₄ h₄ => wpAny_bind (wpAny_holding (wpAny_mono h₄ (fun vv s₅ h₅ => wpAny_bind (wpAny_standAt (wpAny_holding (wpAny_mono h₅ (fun _ s₆ h₆ => wpAny_pure ⟨rfl, h₆⟩) fun _ _ h' => h')))) fun _ _ h' => h'))) fun _ _ h' => h'))
/-- the second clause's start -/
theorem dStart1_ok (h0 : codeAny (model prog w) A (.compLoop (.DictComp kx vx [⟨t0, i0, ifs0, 0⟩, ⟨t1, i1, ifs1, 0⟩] scope pos) 1 it acc env) R s)
    (h : wpAny (model prog w) A (pyIter it) (fun it' s' => codeAny (model prog w) A (.compLoop (.DictComp kx vx [⟨t0, i0, ifs0, 0⟩, ⟨t1, i1, ifs1, 0⟩] scope pos) 1 it' acc env) R s')
      (notedBy (model prog w) A env fun x s' => R (.error x) s') s) :
    codeAny (model prog w) A (.compStart (.DictComp kx vx [⟨t0, i0, ifs0, 0⟩, ⟨t1, i1, ifs1, 0⟩] scope pos) 1 it acc env) R s := by
  refine codeAny_of_tree ?_
  show wpAny _ _ ((compStart (.DictComp kx vx [⟨t0, i0, ifs0, 0⟩, ⟨t1, i1, ifs1, 0⟩] scope pos) 1 it acc env).onRaise (fun x => do noteFrame x env; standAt theWindowsPlace)) _ _ s
  refine wpAny_notedAt ?_
  unfold compStart
  show wpAny _ _ (ask >>= _) _ _ s
  refine wpAny_bind (wpAny_askSetting (wpAny_ite ?_))
  split
  · first
      | exact wpAny_bind (wpAny_pure (wpAny_pure (And.intro rfl h0)))
      | exact wpAny_pure (And.intro rfl h0)
  · first
      | exact wpAny_bind (wpAny_rule (wpAny_bind (wpAny_standAt (wpAny_bind (wpAny_mono h (fun it' s' h' => wpAny_pure (And.intro rfl h')) fun _ _ x => x)))))
      | (refine wpAny_bind (wpAny_rule ?_); show wpAny _ _ (standAt i1.pos >>= _) _ _ s; exact wpAny_bind (wpAny_standAt (wpAny_bind (wpAny_mono h (fun it' s' h' => wpAny_pure (And.intro rfl h')) fun _ _ x => x))))
end

section
variable {X : Cx}
/-- [elt for tg in iter if .. for tg1 in iter1 if ..]: behind the first clause's store and tests the second source's own loop, from which Nx is reached. vs: the block's names; vs1: those of the second target -/
def tDc2 (wi : TI) (g : TG) (tt : TT) (wi1 : TI) (g1 : TG) (tt1 : TT) (tk tv : TE) (vs vs1 : List Nat) : TE := fun σ H Q => wi σ H fun J H1 => ∀ D, H1 D = none → ∃ W : Nat → Nat → Hp → Prop, (∃ m, W 0 m (upd H1 D (.dK []))) ∧ ∀ i m H, W i m H →
  (J.stop i H ∧ Q (.ref D) H) ∨ (J.go i H ∧ ∃ Nx : Hp → Prop, (∀ H', Nx H' → ∃ m', m' < m ∧ W (i + 1) m' H') ∧ ∀ x H', J.yld i H x H' → g x (wipe σ vs) H' fun σ2 H2 => wipe σ2 vs = wipe σ vs ∧ tt σ2 H2 fun b H3 =>
    if b = true then wi1 σ2 H3 fun J1 H4 => ∃ W1 : Nat → Nat → Hp → Prop, (∃ m, W1 0 m H4) ∧ ∀ j k H, W1 j k H →
      (J1.stop j H ∧ Nx H) ∨ (J1.go j H ∧ ∃ Nx1 : Hp → Prop, (∀ H', Nx1 H' → ∃ k', k' < k ∧ W1 (j + 1) k' H') ∧ ∀ x H', J1.yld j H x H' → g1 x (wipe σ2 vs1) H' fun σ3 H5 => wipe σ3 vs1 = wipe σ2 vs1 ∧ tt1 σ3 H5 fun b H6 =>
        if b = true then tk σ3 H6 fun y H7 => tv σ3 H7 fun z H8 => ∃ kvs k, y = kV k ∧ H8 D = some (.dK kvs) ∧ kvs.length < sizeLine ∧ Nx1 (upd H8 D (.dK (putK kvs k z))) else Nx1 H6)
    else Nx H3)
theorem dc2_core {pins : List (Addr × Obj)} {s : Shared} {σ : L2.St} {H : Hp} {Q : VK} {kx vx tg iter tg1 iter1 : Expr} {ifs ifs1 : List Expr} {scope : Scope} {own : List (Str × Nat)} {vs1 : List Nat} {pos pos' : Pos} {wi wi1 : TI} {g g1 : TG} {tt tt1 : TT} {tk tv : TE} {use : Option (Value → Sem Unit)} {Qf : Value → Shared → Prop}
    (hc : X.calm = true) (hN : X.N.Nodup) (I : Inv X pins σ H s) (hi : PI X tg iter wi) (ok : BlkOk X.N X.env.scope scope own) (hv : ∀ i ∈ vs1, i ∈ own.map (·.2))
    (hg : ∀ (s : Shared) (H : Hp) (C : Addr) (cl : List (Str × Addr)) (fp : List Addr), PG (X.blk s H scope (compEnvC scope cl C X.env) fp) tg g) (ht : ∀ (s : Shared) (H : Hp) (C : Addr) (cl : List (Str × Addr)) (fp : List Addr), PTs (X.blk s H scope (compEnvC scope cl C X.env) fp) ifs tt)
    (hk : ∀ (s : Shared) (H : Hp) (C : Addr) (cl : List (Str × Addr)) (fp : List Addr), PE (X.blk s H scope (compEnvC scope cl C X.env) fp) kx tk)
    (he : ∀ (s : Shared) (H : Hp) (C : Addr) (cl : List (Str × Addr)) (fp : List Addr), PE (X.blk s H scope (compEnvC scope cl C X.env) fp) vx tv) (hs : ∀ x, foldedSetIterable iter X.env x = pure x)
    (hi1 : ∀ (s : Shared) (H : Hp) (C : Addr) (cl : List (Str × Addr)) (fp : List Addr), PI (X.blk s H scope (compEnvC scope cl C X.env) fp) tg1 iter1 wi1)
    (hg1 : ∀ (s : Shared) (H : Hp) (C : Addr) (cl : List (Str × Addr)) (fp : List Addr), PG (X.blk s H scope (compEnvC scope cl C X.env) fp) tg1 g1)
    (ht1 : ∀ (s : Shared) (H : Hp) (C : Addr) (cl : List (Str × Addr)) (fp : List Addr), PTs (X.blk s H scope (compEnvC scope cl C X.env) fp) ifs1 tt1)
    (hs1 : ∀ env x, foldedSetIterable iter1 env x = pure x)
    (h : tDc2 wi g tt wi1 g1 tt1 tk tv (own.map (·.2)) vs1 σ H Q)
    (hRR : ∀ D C s' m H', Inv X pins σ H' s' → Q (.ref D) H' → s'.heap.Ns C m → FpOk X pins H' C → compPost (model X.prog X.w) X.A X.xe use Qf (.ref D) C (.ok .next) s') :
    wpAny (model X.prog X.w) X.A (comprehension (.DictComp kx vx [⟨tg, iter, ifs, 0⟩, ⟨tg1, iter1, ifs1, 0⟩] scope pos) scope X.env pos' newDict false (eval iter X.env) use) Qf X.xe s := by
  have hfree : ∀ y ∈ scope.names, y.2 = .free → ∃ c, X.env.cells.lookup y.1 = some c := fun y hy e => by
    rcases ok.free y hy e with k | k
    · exact I.ok.has _ (.inl k)
    · exact I.ok.has _ (.inr k)
  refine wpAny_comprehension_free (use := use) rfl hs (closure_ok hfree) ok.kind (fun y hy e => by rw [ok.uniq y hy, e])
    (thn (hi.run pins s σ H _ I h) fun xv s1 hx => thn hx fun itv s2 h2 => ?_)
  obtain ⟨it, fp, tn, J, H2, e, I2, T, st2, f2, q⟩ := h2
  subst e
  refine wpAny_newObj_type (newEnv_comp ?_)
  generalize hD : s2.heap.objs.size = D
  have hDn : H2 D = none := I2.hok.fresh (Nat.le_of_eq hD)
  obtain ⟨W, ⟨m0, w0⟩, turn⟩ := q D hDn
  -- the new list
  generalize hs3 : ({ s2 with heap := s2.heap.push { cls := .type "dict", data := .dict #[] } } : Shared) = s3
  have I3 : Inv X pins σ (upd H2 D (.dK [])) s3 := by
    rw [← hs3]
    refine I2.laid (t' := s2.toks) (fun b o e => Heap.get?_push_of_some _ e) (Nat.le_of_eq hD) ?_
    rw [← hD]
    exact dk_empty s2.heap I2.big
  have h3 : s3.heap = s2.heap.push { cls := .type "dict", data := .dict #[] } := by rw [← hs3]
  have sz : ∀ b ∈ fp, b < s2.heap.objs.size := fun b hb => by
    obtain ⟨o, e, _⟩ := T.obj _ _ st2 b hb
    exact Heap.lt_size e
  have f3 : ∀ b ∈ fp, FpOk X pins (upd H2 D (.dK [])) b ∧ b < s3.heap.objs.size := fun b hb => by
    have hlt := sz b hb
    refine ⟨⟨?_, (f2 b hb).2⟩, by rw [h3, Heap.size_push]; exact Nat.lt_succ_of_lt hlt⟩
    rw [upd_ne (by rw [← hD]; exact Nat.ne_of_lt hlt)]
    exact (f2 b hb).1
  have st3 : tn 0 s3.heap := T.keep _ _ _ st2 fun b _ o e => by rw [h3]; exact Heap.get?_push_of_some _ e
  have I4 := block_start I3 ok hN f3
  have pg := hg s3 (upd H2 D (.dK [])) s3.heap.objs.size (cellsFrom (s3.heap.objs.size + 1) scope.names (cloFrom X.env.cells scope.names [])) fp
  have pt := ht s3 (upd H2 D (.dK [])) s3.heap.objs.size (cellsFrom (s3.heap.objs.size + 1) scope.names (cloFrom X.env.cells scope.names [])) fp
  have pk := hk s3 (upd H2 D (.dK [])) s3.heap.objs.size (cellsFrom (s3.heap.objs.size + 1) scope.names (cloFrom X.env.cells scope.names [])) fp
  have pe := he s3 (upd H2 D (.dK [])) s3.heap.objs.size (cellsFrom (s3.heap.objs.size + 1) scope.names (cloFrom X.env.cells scope.names [])) fp
  have pi1 := hi1 s3 (upd H2 D (.dK [])) s3.heap.objs.size (cellsFrom (s3.heap.objs.size + 1) scope.names (cloFrom X.env.cells scope.names [])) fp
  have pg1 := hg1 s3 (upd H2 D (.dK [])) s3.heap.objs.size (cellsFrom (s3.heap.objs.size + 1) scope.names (cloFrom X.env.cells scope.names [])) fp
  have pt1 := ht1 s3 (upd H2 D (.dK [])) s3.heap.objs.size (cellsFrom (s3.heap.objs.size + 1) scope.names (cloFrom X.env.cells scope.names [])) fp
  show codeAny _ _ (.compStart (.DictComp kx vx [⟨tg, iter, ifs, 0⟩, ⟨tg1, iter1, ifs1, 0⟩] scope pos) 0 (.ref it) (.ref D) (compEnvC scope (cellsFrom (s3.heap.objs.size + 1) scope.names (cloFrom X.env.cells scope.names [])) s3.heap.objs.size X.env)) (compPost (model X.prog X.w) X.A X.xe use Qf (.ref D) s3.heap.objs.size) { s3 with heap := pushCells (s3.heap.push { cls := .type "dict", data := .dict #[] }) scope.names }
  have nfp : ∀ b ∈ fp, (upd H2 D (.dK [])) b = none := fun b hb => (f3 b hb).1.1
  generalize hce : compEnvC scope (cellsFrom (s3.heap.objs.size + 1) scope.names (cloFrom X.env.cells scope.names [])) s3.heap.objs.size X.env = ce at I4 pg pt pk pe pi1 pg1 pt1 ⊢
  have cL : ce.locals = s3.heap.objs.size := by subst hce; rfl
  generalize hH3 : upd H2 D (.dK []) = H3 at I3 I4 pg pt pk pe pi1 pg1 pt1 w0 nfp f3
  generalize hs4 : ({ s3 with heap := pushCells (s3.heap.push { cls := .type "dict", data := .dict #[] }) scope.names } : Shared) = s4 at I4 ⊢
  have st4 : tn 0 s4.heap := T.keep _ _ _ st3 fun b _ o e => by rw [← hs4]; exact pushCells_keeps _ _ _ _ (Heap.get?_push_of_some _ e)
  have stat : ∀ {σ' : L2.St} {H' : Hp} {s' : Shared}, Inv (X.blk s3 H3 scope ce fp) [] σ' H' s' → (∀ b ∈ fp, H' b = none) → ∀ b ∈ fp, FpOk (X.blk s3 H3 scope ce fp) [] H' b := fun {σ' H' s'} I' hn b hb =>
    ⟨hn b hb, (I'.ok.exf b hb).1, I'.ok.exfs b hb, .inl hb, fun x c e => (I'.ok.exf b hb).2 x c e, fun p hp => absurd (show p ∈ ([] : List (Addr × Obj)) ++ [] from hp) (by simp)⟩
  have loop : codeAny (model X.prog X.w) X.A (.compLoop (.DictComp kx vx [⟨tg, iter, ifs, 0⟩, ⟨tg1, iter1, ifs1, 0⟩] scope pos) 0 (.ref it) (.ref D) ce) (compPost (model X.prog X.w) X.A X.xe use Qf (.ref D) s3.heap.objs.size) s4 := by
    refine dLoop2_out (hs1 ce) (fun n s' => ∃ i H', Inv (X.blk s3 H3 scope ce fp) [] (wipe σ (own.map (·.2))) H' s' ∧ tn i s'.heap ∧ (∀ b ∈ fp, H' b = none) ∧ W i n H') ?_ m0 ⟨0, H3, I4, st4, nfp, w0⟩
    rintro n s5 ⟨i, H5, I5, st5, n5, w5⟩
    rcases turn i n H5 w5 with ⟨stop, qq⟩ | ⟨go, Nx, hNx, step⟩
    · have td := T.done (X.blk s3 H3 scope ce fp) rfl rfl rfl hc i [] s5 _ H5 (fun _ _ => False) I5 (stat I5 n5) st5 stop
      refine thnF td fun r s6 ⟨hr, I6⟩ => ?_
      subst hr
      -- back in the def's context
      have I7 : Inv X pins σ H5 s6 := I3.call' (ch := fp) I6.os I6.base I6.hok I6.bare fun b hb => ⟨(f3 b hb).1.2.2.2.1, (f3 b hb).1.2.1, (f3 b hb).1.2.2.2.2.1, (f3 b hb).1.2.2.2.2.2⟩
      have nC : H5 s3.heap.objs.size = none := by
        have z : H5 ce.locals = none := I6.free
        rw [cL] at z
        exact z
      obtain ⟨m, hn, _⟩ := I6.loc
      have hn : s6.heap.Ns ce.locals m := hn
      rw [cL] at hn
      exact hRR D s3.heap.objs.size s6 m H5 I7 qq hn (I3.fpOk (Nat.le_refl _) nC)
    · have ti := T.item (X.blk s3 H3 scope ce fp) rfl rfl rfl hc i [] s5 _ H5 (fun _ _ => False) I5 (stat I5 n5) st5 go
      refine thnF ti fun r s6 ⟨u, hr, h6⟩ => ?_
      subst hr
      refine thnF h6 fun _ s7 ⟨x, H7, I7, r7, y7, st7, n7⟩ => ?_
      have I7' := I7.pinned (stat I7 n7) (T.obj _ _ st7)
      refine thnF (pg.run _ s7 _ H7 x u _ I7' r7 (step x H7 y7)) fun _ s8 ⟨σ8, H8, I8, hw8, q8⟩ => ?_
      refine thnF (pt.run _ s8 σ8 H8 _ I8 q8) fun b s9 ⟨H9, I9, q9⟩ => ?_
      -- the turn's end, from any slots that know what the block knew at its start
      have fin : ∀ {σ9 : L2.St} {s' : Shared} {H' : Hp}, Inv (X.blk s3 H3 scope ce fp) ([] ++ pinsAt fp s7.heap) σ9 H' s' → (wipe σ (own.map (·.2))).length = σ9.length → (∀ (j : Nat) v, (wipe σ (own.map (·.2)))[j]? = some (some v) → σ9[j]? = some (some v)) → Nx H' →
          ∃ m, m < n ∧ ∃ i H', Inv (X.blk s3 H3 scope ce fp) [] (wipe σ (own.map (·.2))) H' s' ∧ tn i s'.heap ∧ (∀ b ∈ fp, H' b = none) ∧ W i m H' := fun {σ9 s' H'} I' hl hk nx => by
        obtain ⟨m', hm, w'⟩ := hNx H' nx
        have pin' : ∀ b ∈ fp, ∀ o, s7.heap.get? b = some o → s'.heap.get? b = some o ∧ H' b = none := fun b hb o e =>
          let z := I'.pin (b, o) (List.mem_append_right _ (List.mem_append_right _ (mem_pinsAt hb e)))
          ⟨z.1, z.2.1⟩
        refine ⟨m', hm, i + 1, H', (I'.unpinned (pins := [])).weak hl hk, T.keep _ _ _ st7 fun b hb o e => (pin' b hb o e).1, fun b hb => ?_, w'⟩
        obtain ⟨o, e, _⟩ := T.obj _ _ st7 b hb
        exact (pin' b hb o e).2
      have hl8 : (wipe σ (own.map (·.2))).length = σ8.length := by rw [← hw8, wipe_length]
      have hk8 : ∀ (j : Nat) v, (wipe σ (own.map (·.2)))[j]? = some (some v) → σ8[j]? = some (some v) := fun j v e => by
        rw [← hw8] at e
        exact (wipe_some e).1
      have hk9 : ∀ (j : Nat) v, (wipe σ (own.map (·.2)))[j]? = some (some v) → (wipe σ8 vs1)[j]? = some (some v) := fun j v e => by
        rw [← hw8] at e
        obtain ⟨e1, e2⟩ := wipe_some e
        rw [wipe_out fun z => e2 (hv j z)]
        exact e1
      cases b with
      | false =>
        simp only [Bool.false_eq_true, if_false] at q9 ⊢
        exact fin I9 hl8 hk8 q9
      | true =>
        simp only [if_true] at q9 ⊢
        refine thnF (pi1.run _ s9 σ8 H9 _ I9 q9) fun xv s10 hx => thnF hx fun itv s11 h11 => ?_
        obtain ⟨it1, fp1, tn1, J1, H11, e1, I11, T1, st11, f11, W1, ⟨m1, w1⟩, turn1⟩ := h11
        subst e1
        -- the inner loop
        have stat1 : ∀ {H' : Hp}, (∀ b ∈ fp1, H' b = none) → ∀ b ∈ fp1, FpOk (X.blk s3 H3 scope ce fp) ([] ++ pinsAt fp s7.heap) H' b := fun hn b hb => ⟨hn b hb, (f11 b hb).2⟩
        have loop1 : codeAny (model X.prog X.w) X.A (.compLoop (.DictComp kx vx [⟨tg, iter, ifs, 0⟩, ⟨tg1, iter1, ifs1, 0⟩] scope pos) 1 (.ref it1) (.ref D) ce)
            (fun r s' => match r with
              | .ok _ => ∃ m, m < n ∧ ∃ i H', Inv (X.blk s3 H3 scope ce fp) [] (wipe σ (own.map (·.2))) H' s' ∧ tn i s'.heap ∧ (∀ b ∈ fp, H' b = none) ∧ W i m H'
              | .error _ => False) s11 := by
          refine dLoop2_in (fun k s' => ∃ j H', Inv (X.blk s3 H3 scope ce fp) ([] ++ pinsAt fp s7.heap) (wipe σ8 vs1) H' s' ∧ tn1 j s'.heap ∧ (∀ b ∈ fp1, H' b = none) ∧ W1 j k H') ?_ m1 ⟨0, H11, I11.weak (wipe_length _ _) (fun j v e => (wipe_some e).1), st11, fun b hb => (f11 b hb).1, w1⟩
          rintro k s12 ⟨j, H12, I12, st12, n12, w12⟩
          rcases turn1 j k H12 w12 with ⟨stop1, nx1⟩ | ⟨go1, Nx1, hNx1, step1⟩
          · refine thnF (T1.done (X.blk s3 H3 scope ce fp) rfl rfl rfl hc j _ s12 (wipe σ8 vs1) H12 (fun _ _ => False) I12 (stat1 n12) st12 stop1) fun r s13 ⟨hr, I13⟩ => ?_
            subst hr
            exact fin I13 (hl8.trans (wipe_length σ8 vs1).symm) hk9 nx1
          · refine thnF (T1.item (X.blk s3 H3 scope ce fp) rfl rfl rfl hc j _ s12 (wipe σ8 vs1) H12 (fun _ _ => False) I12 (stat1 n12) st12 go1) fun r s13 ⟨u1, hr, h13⟩ => ?_
            subst hr
            refine thnF h13 fun _ s14 ⟨x1, H14, I14, r14, y14, st14, n14⟩ => ?_
            have I14' := I14.pinned (stat1 n14) (T1.obj _ _ st14)
            refine thnF (pg1.run _ s14 (wipe σ8 vs1) H14 x1 u1 _ I14' r14 (step1 x1 H14 y14)) fun _ s15 ⟨σ15, H15, I15, hw15, q15⟩ => ?_
            refine thnF (pt1.run _ s15 σ15 H15 _ I15 q15) fun b1 s16 ⟨H16, I16, q16⟩ => ?_
            have fin1 : ∀ {s' : Shared} {H' : Hp}, Inv (X.blk s3 H3 scope ce fp) (([] ++ pinsAt fp s7.heap) ++ pinsAt fp1 s14.heap) σ15 H' s' → Nx1 H' → ∃ m, m < k ∧ ∃ j H', Inv (X.blk s3 H3 scope ce fp) ([] ++ pinsAt fp s7.heap) (wipe σ8 vs1) H' s' ∧ tn1 j s'.heap ∧ (∀ b ∈ fp1, H' b = none) ∧ W1 j m H' := fun {s' H'} I' nx => by
              obtain ⟨m', hm, w'⟩ := hNx1 H' nx
              have pin' : ∀ b ∈ fp1, ∀ o, s14.heap.get? b = some o → s'.heap.get? b = some o ∧ H' b = none := fun b hb o e =>
                let z := I'.pin (b, o) (List.mem_append_right _ (List.mem_append_right _ (mem_pinsAt hb e)))
                ⟨z.1, z.2.1⟩
              refine ⟨m', hm, j + 1, H', I'.unpinned.weak (by rw [← hw15, wipe_length]) (fun j v e => by rw [← hw15] at e; exact (wipe_some e).1), T1.keep _ _ _ st14 fun b hb o e => (pin' b hb o e).1, fun b hb => ?_, w'⟩
              obtain ⟨o, e, _⟩ := T1.obj _ _ st14 b hb
              exact (pin' b hb o e).2
            cases b1 with
            | false =>
              simp only [Bool.false_eq_true, if_false] at q16 ⊢
              exact fin1 I16 q16
            | true =>
              simp only [if_true] at q16 ⊢
              refine thnF (pk.run _ s16 σ15 H16 _ I16 q16) fun z s17 ⟨yk, H17, I17, r17, q17⟩ => ?_
              refine thnF (pe.run _ s17 σ15 H17 _ I17 q17) fun z2 s18 ⟨yv, H18, I18, r18, kvs, k2, ek, hD18, hz18, nx⟩ => ?_
              subst ek
              exact d_dictSet (X := X.blk s3 H3 scope ce fp) I18 hD18 hz18 r17 r18 fun s19 I19 => fin1 I19 nx
        exact dStart1_ok loop1 (T1.self X.A 0 _ _ _ st11 loop1)
  exact codeAny_compStart_dict loop (T.self X.A 0 _ _ _ st4 loop)
/-- as a value -/
theorem pe_dc2 {kx vx tg iter tg1 iter1 : Expr} {ifs ifs1 : List Expr} {scope : Scope} {own : List (Str × Nat)} {vs1 : List Nat} {pos : Pos} {wi wi1 : TI} {g g1 : TG} {tt tt1 : TT} {tk tv : TE} (hc : X.calm = true) (hN : X.N.Nodup) (hi : PI X tg iter wi) (ok : BlkOk X.N X.env.scope scope own) (hv : ∀ i ∈ vs1, i ∈ own.map (·.2))
    (hg : ∀ (s : Shared) (H : Hp) (C : Addr) (cl : List (Str × Addr)) (fp : List Addr), PG (X.blk s H scope (compEnvC scope cl C X.env) fp) tg g) (ht : ∀ (s : Shared) (H : Hp) (C : Addr) (cl : List (Str × Addr)) (fp : List Addr), PTs (X.blk s H scope (compEnvC scope cl C X.env) fp) ifs tt)
    (hi1 : ∀ (s : Shared) (H : Hp) (C : Addr) (cl : List (Str × Addr)) (fp : List Addr), PI (X.blk s H scope (compEnvC scope cl C X.env) fp) tg1 iter1 wi1)
    (hg1 : ∀ (s : Shared) (H : Hp) (C : Addr) (cl : List (Str × Addr)) (fp : List Addr), PG (X.blk s H scope (compEnvC scope cl C X.env) fp) tg1 g1) (ht1 : ∀ (s : Shared) (H : Hp) (C : Addr) (cl : List (Str × Addr)) (fp : List Addr), PTs (X.blk s H scope (compEnvC scope cl C X.env) fp) ifs1 tt1)
    (hk : ∀ (s : Shared) (H : Hp) (C : Addr) (cl : List (Str × Addr)) (fp : List Addr), PE (X.blk s H scope (compEnvC scope cl C X.env) fp) kx tk)
    (he : ∀ (s : Shared) (H : Hp) (C : Addr) (cl : List (Str × Addr)) (fp : List Addr), PE (X.blk s H scope (compEnvC scope cl C X.env) fp) vx tv) (hs : ∀ x, foldedSetIterable iter X.env x = pure x := by intro _; rfl) (hs1 : ∀ env x, foldedSetIterable iter1 env x = pure x := by intro _ _; rfl) :
    PE X (.DictComp kx vx [⟨tg, iter, ifs, 0⟩, ⟨tg1, iter1, ifs1, 0⟩] scope pos) (tDc2 wi g tt wi1 g1 tt1 tk tv (own.map (·.2)) vs1) := by
  refine ⟨fun pins s σ H Q I h => ?_⟩
  rw [arm_eval_DictComp]
  refine dc2_core hc hN I hi ok hv hg ht hk he hs hi1 hg1 ht1 hs1 h fun D C s' m H' I' q hn f => ⟨m, hn, fun h'' sb => ?_⟩
  obtain ⟨f0, f1, f2, f3, f4, f5⟩ := f
  exact ⟨.ref D, H', I'.turned (t' := s'.toks) (fun b o hb e => (sb.2 b hb).trans e) f0 f1 f3 f4 f5, rfl, q⟩
end
end Sj
set_option Elab.async false
set_option linter.all false
set_option maxRecDepth 100000
set_option maxHeartbeats 4000000
/-! SjRule9: match by two texts; == of tuples of the same things; repr of nested texts; promises where no repr runs. -/
namespace Sj
open PySem PySem.Spec PyProof.Rows L2 He
section
variable {X : Cx}
/-- match x: case a: .. case b: .. -/
def tMatch2 (ta : TE) (a b : Str) (t1 t2 : TS) : TS := fun D σ H => ta σ H fun x H1 => ∃ z, x = .str z ∧ (z = a → t1 D σ H1) ∧ (z ≠ a → z = b → t2 D σ H1) ∧ (z ≠ a → z ≠ b → D.nx σ H1)
theorem pat_str {pins : List (Addr × Obj)} {s : Shared} {σ : L2.St} {H : Hp} {z a : Str} {v : Value} {j : Nat} {p1 p2 : Pos} {Q : Option (List (Str × Value)) → Shared → Prop} (I : Inv X pins σ H s) (r : RelV (.str z) v)
    (h : ∀ s', Inv X pins σ H s' → Q (if z = a then some [] else none) s') : wpAny (model X.prog X.w) X.A (matchPattern (.MatchValue (.Constant (.str a) j p1) p2) X.env v) Q X.xe s := by
  refine wpAny_matchPattern_Value (thn ((pe_str (X := X) (x := a) (j := j) (pos := p1)).run pins s σ H (fun y H1 => y = .str a ∧ H1 = H) I ⟨rfl, rfl⟩) fun u s1 ⟨y, H1, I1, r1, e1, e2⟩ => ?_)
  subst e1
  rw [e2] at I1
  refine thn (op_eq pins s1 σ H (.str z) (.str a) v u (fun y H1 => y = .bl (decide (z = a)) ∧ H1 = H) I1 r r1 ⟨rfl, ?_, rfl⟩) fun c s2 ⟨y, H2, I2, r2, e3, e4⟩ => ?_
  · show V.bl _ = V.bl _
    congr 1
    rw [decide_eq_decide]
    exact ⟨fun e => by injection e, fun e => by rw [e]⟩
  subst e3
  rw [e4] at I2
  obtain rfl : c = Value.bool (decide (z = a)) := r2
  refine wpAny_truthy_bool ?_
  have q := h s2 I2
  by_cases hz : z = a
  · rw [if_pos hz] at q
    rw [if_pos (decide_eq_true hz)]
    exact q
  · rw [if_neg hz] at q
    rw [if_neg (by rw [decide_eq_false hz]; exact Bool.false_ne_true)]
    exact q
theorem ps_match2 {e : Expr} {ta : TE} {a b : Str} {j1 j2 : Nat} {p1 p2 p3 p4 pos : Pos} {b1 b2 : List Stmt} {t1 t2 : TS} (he : PE X e ta) (h1 : PSs X b1 t1) (h2 : PSs X b2 t2) :
    PS X (.Match e [⟨.MatchValue (.Constant (.str a) j1 p1) p2, none, b1⟩, ⟨.MatchValue (.Constant (.str b) j2 p3) p4, none, b2⟩] pos) (tMatch2 ta a b t1 t2) := by
  refine ⟨fun pins s σ H D I h => wpAny_Match (thn (he.run pins s σ H _ I h) fun v s1 ⟨y, H1, I1, ry, z, ey, q1, q2, q3⟩ => ?_)⟩
  subst ey
  refine wpAny_matchCases_cons (pat_str I1 ry fun s2 I2 => ?_)
  by_cases ha : z = a
  · rw [if_pos ha]
    show wpAny _ _ (assignInOrder [] []) _ _ _
    refine wpAny_pure ?_
    exact h1.run pins s2 σ H1 D I2 (q1 ha)
  · rw [if_neg ha]
    refine wpAny_matchCases_cons (pat_str I2 ry fun s3 I3 => ?_)
    by_cases hb : z = b
    · rw [if_pos hb]
      show wpAny _ _ (assignInOrder [] []) _ _ _
      refine wpAny_pure ?_
      exact h2.run pins s3 σ H1 D I3 (q2 ha hb)
    · rw [if_neg hb]
      exact wpAny_matchCases_nil ⟨σ, H1, I3, q3 ha hb⟩
/-- t == u, two tuples of the same objects -/
def rEqRefs (K : Frg) : R2 := fun x y H Q => ∃ a b, ∃ cs : List Addr, x = V.ref a ∧ y = V.ref b ∧ SqT K H a (cs.map V.ref) ∧ SqT K H b (cs.map V.ref) ∧ Q (.bl true) H
theorem vals_refs_eq : ∀ {cs : List Addr} {us : List Value}, Vals (cs.map V.ref) us → us = cs.map Value.ref
  | [], _, .nil => rfl
  | c :: cs, _, .cons r t => by
    rw [List.map_cons, ← vals_refs_eq t]
    congr
theorem op_eqRefs {k : Nat} (hr : Room k X.A) : OpR X (compareOp .Eq) (rEqRefs X.K) := by
  intro pins s σ H x y v u Q I rx ry h
  obtain ⟨a, b, cs, rfl, rfl, ha, hb, q⟩ := h
  obtain rfl : v = Value.ref a := rx
  obtain rfl : u = Value.ref b := ry
  obtain ⟨us, r1, p1, _⟩ := I.tuple ha
  obtain ⟨ws, r2, p2, _⟩ := I.tuple hb
  obtain rfl := vals_refs_eq r1
  obtain rfl := vals_refs_eq r2
  refine GQ.rc_tupG rfl hr.units0 (fun _ s' => s' = s) p1 p2 (fun i h1 h2 s' e => ?_) (fun s' e => ?_) rfl
  · exact SeqAt.EqAt.same _ X.prog X.w _ _ ⟨rfl, e⟩
  · rw [e]
    exact ⟨.bl true, H, I, rfl, q⟩
/-! ### promises where nothing is being shown -/
/-- like FnR, where no repr runs -/
def FnG (P : Program) (w : World) (K : Frg) (mg : Str → Option Value) (base : Heap) (k : Nat) (f : Addr) (sp : Sp) : Prop :=
  ∀ (A : Around) (outer : List Env) (s : Shared) (H : Hp) (us : List Value) (vs : List V) (Q : VK) (E : XK), Room k A → A.guards = some [] → Env0 P w K mg base A outer s H → Vals vs us → sp vs H Q E → codeAny (model P w) A (.call (.ref f) ⟨us, []⟩) (CR CX0 outer P w H s Q E) s
theorem deeper_guards {A : Around} {env : Env} : (A.deeper env).guards = A.guards := rfl
end
section
variable {P : Program} {w : World} {K : Frg} {mg : Str → Option Value} {base : Heap}
theorem mkFnG {d : DefX} {N ps : List Str} {k : Nat} {sp : Sp} (D : FunX K d) (S : FnScope N ps (defScope d.st))
    (hb : ∀ (kV doc pm : Value) (an : Option Addr) (cdv ct : Value) (us : List Value), us.length = ps.length → bindArgs (PySem.W.fnOf d.name d.qual (defArgs d.st) (defBody d.st) (defScope d.st) .none kV doc pm an cdv ct) ⟨us, []⟩ = pure (ps.zip us))
    (len : ∀ vs H Q E, sp vs H Q E → vs.length = ps.length)
    (hbody : ∀ (cdv : Value) (A : Around) (outer : List Env) (s : Shared) (H : Hp) (vs : List V) (Q : VK) (E : XK), A.guards = some [] → Room k (A.deeper (envOfC d.qual (defScope d.st) s.heap.objs.size (d.loc K) cdv)) → sp vs H Q E →
      ∃ t, PSs (cxOf CX0 P w K mg base N d.qual (defScope d.st) (d.loc K) cdv A outer s H E).nox (defBody d.st) t ∧ t { nx := fun _ H' => Q .non H', rt := Q } (start N vs) H) : FnG P w K mg base (k + 1) (d.loc K) sp := by
  obtain ⟨fd, F⟩ := D
  obtain ⟨oc, od, dV, kV, doc, pm, an, cdv, ct, osl, rfl, lk, hcd, hD, hK⟩ := F.ex
  rcases hD with ⟨_, rfl⟩ | ⟨e2, _⟩
  · intro A outer s H us vs Q E hr hgd e0 r hsp
    have hl : us.length = ps.length := by rw [← r.length]; exact len _ _ _ _ hsp
    refine StX.run_bnd lk hcd S hr e0 (G := fun xs H2 => xs = vs ∧ H2 = H) (fun A' Ex Q' h => ?_) fun s2 H2 xs ⟨ex, eH⟩ hr' => ?_
    · rw [hb kV doc pm an cdv ct us hl]
      refine wpAny_pure ?_
      exact h s H vs us e0 Un.refl rfl (fun e s' z => z) r (len _ _ _ _ hsp) ⟨rfl, rfl⟩
    · subst ex eH
      obtain ⟨t, h1, h2⟩ := hbody cdv A outer s2 _ _ Q E hgd hr' hsp
      exact ⟨t, h1.nox, h2⟩
  · exact absurd rfl e2
/-- such a def of the module, by its name -/
structure GG (P : Program) (w : World) (K : Frg) (mg : Str → Option Value) (base : Heap) (x : Str) (k : Nat) (sp : Sp) : Prop where
  ex : ∃ f, mg x = some (.ref f) ∧ PySem.W.keepIn K (.ref f) = true ∧ FnG P w K mg base k f sp
end
section
variable {X : Cx} {j k : Nat} {x : Str} {sp : Sp} {e : Expr} {es : List Expr} {t : TA} {p pos : Pos}
theorem pcg (G : GG X.prog X.w X.K X.mg X.base x j sp) (hr : Room k X.A) (hgd : X.A.guards = some []) (ha : PA X (e :: es) t) (hj : j ≤ k := by decide) (hg : Gl X x := by rfl) (hd : (x == ("__debug__" : Str)) = false := by decide)
    (he : starEach (e :: es) X.env = (false, eval e X.env) :: starEach es X.env := by rfl) (hpl : (backTo pos (starEach es X.env)).any (·.1) = false := by rfl) : PE X (.Call (.Name x p) (e :: es) [] pos) (tR sp t) := by
  obtain ⟨f, hm, hk, F⟩ := G.ex
  refine ⟨fun pins s σ H Q I h => wpAny_Call_Name_kw (ld_glob I hg hm ?_ hd)⟩
  refine PySem.W.callWith_K (h₀ := X.base) I.ok.mod.kin hk (thn (ha.run pos pins s σ H _ I h) fun us s1 ⟨vs, H1, I1, r, q⟩ => ⟨I1.kIn, ?_⟩) he hpl
  refine wpAny_call (codeAny_mono (F X.A X.stack s1 H1 us vs Q E0 (hr.mono hj) hgd I1.env0 r q) fun r s' hq => ?_)
  cases r with
  | error e => exact False.elim hq
  | ok fl =>
    cases fl with
    | ret u => exact I1.after hq
    | next => exact False.elim hq
    | brk => exact False.elim hq
    | cont => exact False.elim hq
/-! ### repr -/
/-- what a value shows, where it is nested texts -/
def ShT (K : Frg) (H : Hp) (v : V) (xs : List Str) : Prop := ∃ a, v = .ref a ∧ SqT K H a (vS xs)
/-- the data of sorts: a tuple of tuples of texts, and three tuples of texts -/
def dT (xs : List Str) : PyData := .tuple (xs.map .str)
def dSorts (gs : List (List Str)) (i l m : List Str) : PyData := .list [.tuple (gs.map dT), dT i, dT l, dT m]
theorem show_strs : ∀ xs : List Str, PyData.showableAll (xs.map .str) = true
  | [] => by simp [PyData.showableAll]
  | x :: xs => by
    show PyData.showableAll (.str x :: xs.map .str) = true
    rw [PyData.showableAll, show_strs xs]
    simp [PyData.showable]
theorem show_dTs : ∀ gs : List (List Str), PyData.showableAll (gs.map dT) = true
  | [] => by simp [PyData.showableAll]
  | g :: gs => by
    show PyData.showableAll (dT g :: gs.map dT) = true
    rw [PyData.showableAll, show_dTs gs]
    simp [PyData.showable, dT, show_strs]
theorem nodict_strs : ∀ xs : List Str, PyData.hasDictAll (xs.map .str) = false
  | [] => by simp [PyData.hasDictAll]
  | x :: xs => by
    show PyData.hasDictAll (.str x :: xs.map .str) = false
    rw [PyData.hasDictAll, nodict_strs xs]
    simp [PyData.hasDict]
theorem nodict_dTs : ∀ gs : List (List Str), PyData.hasDictAll (gs.map dT) = false
  | [] => by simp [PyData.hasDictAll]
  | g :: gs => by
    show PyData.hasDictAll (dT g :: gs.map dT) = false
    rw [PyData.hasDictAll, nodict_dTs gs]
    simp [PyData.hasDict, dT, nodict_strs]
theorem depth_dTs : ∀ gs : List (List Str), PyData.depthAll (gs.map dT) ≤ 1
  | [] => by simp [PyData.depthAll]
  | g :: gs => by
    show PyData.depthAll (dT g :: gs.map dT) ≤ 1
    have h := depth_dTs gs
    simp only [PyData.depthAll]
    have e : (dT g).depth = 1 := by simp only [dT, PyData.depth, depth_strs]
    omega
theorem sorts_facts (gs : List (List Str)) (i l m : List Str) : (dSorts gs i l m).showable = true ∧ (dSorts gs i l m).hasDict = false ∧ (dSorts gs i l m).depth ≤ 3 := by
  have h := depth_dTs gs
  refine ⟨?_, ?_, ?_⟩
  · simp [dSorts, PyData.showable, PyData.showableAll, show_dTs, dT, show_strs]
  · simp [dSorts, PyData.hasDict, PyData.hasDictAll, dT, nodict_strs]
    exact nodict_dTs gs
  · have e : ∀ g, (dT g).depth = 1 := fun g => by simp only [dT, PyData.depth, depth_strs]
    simp only [dSorts, PyData.depth, PyData.depthAll, e]
    omega
def rRepr (K : Frg) : List V → Hp → VK → Prop := fun vs H Q => ∃ (a c : Addr) (bs : List TT2) (vi vl vm : V) (i l m : List Str), vs = [.ref a] ∧ SqL K H a [.ref c, vi, vl, vm] ∧ SqT K H c (bs.map refT) ∧ (∀ b ∈ bs, SqT K H b.1 (b.2.map V.str)) ∧ ShT K H vi i ∧ ShT K H vl l ∧ ShT K H vm m ∧
  (dSorts (bs.map (·.2)) i l m).shown.length ≤ sizeLine ∧ Q (.str (dSorts (bs.map (·.2)) i l m).shown) H
theorem sT_reads {pins : List (Addr × Obj)} {σ : L2.St} {H : Hp} {s : Shared} {a : Addr} {xs : List Str} (I : Inv X pins σ H s) (h : SqT X.K H a (vS xs)) : Reads s.heap (.ref a) (dT xs) [] := by
  obtain ⟨its, rv, ⟨o, ho, hc, n, hd⟩, _⟩ := I.tuple h
  exact .tuple ho hc hd (by simpa using reads_strs rv)
theorem cr_repr (hr : Room k X.A) (hgd : X.A.guards = some []) : CallR X (.builtin "repr") (rRepr X.K) := by
  intro pins s σ H vs us Q I r h
  obtain ⟨a, c, bs, vi, vl, vm, i, l, m, rfl, ha, hc, hb, ⟨pi, rfl, hi⟩, ⟨pl, rfl, hl⟩, ⟨pm, rfl, hm⟩, hz, q⟩ := h
  obtain rfl := Vals.ref1 r
  obtain ⟨its, rv, ⟨ol, nl, hol, hcl0, _, hdat⟩, _⟩ := I.list ha
  have er : its = [.ref c, .ref pi, .ref pl, .ref pm] := vals_refs_eq (cs := [c, pi, pl, pm]) rv
  obtain ⟨tc, rc, ⟨o, ho, hcl, n2, hd⟩, _⟩ := I.tuple hc
  have all : ∀ {bs : List TT2} {us : List Value}, Vals (bs.map refT) us → (∀ b ∈ bs, SqT X.K H b.1 (b.2.map V.str)) → ReadsAll s.heap us ((bs.map (·.2)).map dT) [] := by
    intro bs
    induction bs with
    | nil =>
      intro us r _
      cases r
      exact .nil
    | cons b bs ih =>
      intro us r h
      cases r with
      | cons h1 h2 =>
        obtain rfl := h1
        exact .cons (as := []) (bs := []) (sT_reads I (h b List.mem_cons_self)) (ih h2 fun x hx => h x (List.mem_cons_of_mem _ hx))
  have rd : Reads s.heap (.ref a) (dSorts (bs.map (·.2)) i l m) [a] := by
    refine .list (vs := its.toArray) hol hcl0 hdat ?_
    rw [er]
    exact .cons (as := []) (bs := []) (.tuple ho hcl hd (by simpa using all rc hb)) (.cons (as := []) (bs := []) (sT_reads I hi) (.cons (as := []) (bs := []) (sT_reads I hl) (.cons (as := []) (bs := []) (sT_reads I hm) .nil)))
  obtain ⟨f1, f2, f3⟩ := sorts_facts (bs.map (·.2)) i l m
  have hu := hr.units
  exact repr_of_reads' rd f1 (fun e => by rw [f2] at e; cases e) hgd (by omega) (fun _ _ e => e) (fun h' u tk k => ⟨.str _, H, I.kept (t' := tk) k, ⟨u, rfl⟩, q⟩) hz
end
end Sj
set_option Elab.async false
set_option linter.all false
set_option maxRecDepth 100000
set_option maxHeartbeats 4000000
/-! SjRule11: {**dict(t), **d}, t a tuple of pairs. -/
namespace Sj
open PySem PySem.Spec PyProof.Rows L2 He
section
variable {prog : Program} {w : World} {A : Around} {E : Value → Shared → Prop} {s : Shared} {K : Type} [DecidableEq K] {knd : PySem.KeyKind prog w K}
theorem dictPut_pairs {d : Addr} {kvs : List (K × Value)} {k : K} {key v : Value} {Q : Unit → Shared → Prop} (hkey : knd.is k key = true) (hm : s.heap.DictOf knd d kvs)
    (hQ : ∀ h', h'.DictOf knd d (stored kvs k v) → Heap.SameBut d s.heap h' → Q () { s with heap := h' }) (hsz : kvs.length ≤ sizeLine) : wpAny (model prog w) A (dictPut d (knd.hash k) key v) Q E s := by
  obtain ⟨o, es, ep, ho, hc, hd, hk, hp, hn⟩ := hm
  have hes : es.size ≤ sizeLine := by
    have e1 := hp.length
    have e2 : es.toList.length = es.size := by simp
    omega
  have hidx : (es.findIdx? fun e => knd.is k e.key) = kvs.findIdx? fun kv => decide (kv.1 = k) := by
    rw [← hp.findIdx k]
    obtain ⟨l⟩ := es
    simp
  unfold dictPut
  refine wpAny_bind (wpAny_dictFind_of hkey ho hd hk ?_)
  cases hi : es.findIdx? fun e => knd.is k e.key with
  | some i =>
    refine wpAny_updateDict ho hd (hQ _ ⟨_, _, ep, Heap.get?_update_self _ ho (Obj.isFreed_of_dict (Obj.data_mapDict hd _)), hc.mapDict _, Obj.data_mapDict hd _, hk.modify _ _, ?_, ?_⟩ (Heap.SameBut.update ..))
    · rw [stored, if_pos (any_of_findIdx_some (hidx ▸ hi))]
      have hl : (es.toList.findIdx? fun e => knd.is k e.key) = some i := by
        rw [← hi]
        obtain ⟨l⟩ := es
        simp
      have z := hp.modify hn hl v
      obtain ⟨l⟩ := es
      simpa using z
    · rw [stored, if_pos (any_of_findIdx_some (hidx ▸ hi)), keys_map_store]
      exact hn
  | none =>
    have hnot : k ∉ kvs.map (·.1) := not_mem_of_findIdx_none (hidx ▸ hi)
    have hany : ¬ (kvs.any fun kv => decide (kv.1 = k)) = true := by
      rw [List.any_eq_true]
      rintro ⟨kv, hkv, he⟩
      exact hnot (List.mem_map.mpr ⟨kv, hkv, of_decide_eq_true he⟩)
    refine wpAny_updateDictKeys (hz := hes) ho hd (hQ _ ⟨_, _, ep + 1, Heap.get?_update_self _ ho (Obj.isFreed_of_dict (Obj.data_mapDictKeys hd _)), hc.mapDictKeys _, Obj.data_mapDictKeys hd _, hk.push hkey _, ?_, ?_⟩ (Heap.SameBut.update ..))
    · rw [stored, if_neg hany]
      have z := hp.append hkey (knd.hash k) v
      obtain ⟨l⟩ := es
      simpa using z
    · rw [stored, if_neg hany, List.map_append, List.nodup_append]
      refine ⟨hn, by simp, fun a ha b hb => ?_⟩
      simp only [List.map_cons, List.map_nil, List.mem_singleton] at hb
      subst hb
      exact fun e => hnot (e ▸ ha)
theorem mergeMap_loop {d o : Addr} {kvs more : List (K × Value)} {Q : Unit → Shared → Prop} (hdo : d ≠ o) (hd : s.heap.DictOf knd d kvs) (ho : s.heap.DictOf knd o more)
    (hQ : ∀ h', h'.DictOf knd d (merged kvs more) → Heap.SameBut d s.heap h' → Q () { s with heap := h' }) (hsz : kvs.length + more.length ≤ sizeLine) :
    wpAny (model prog w) A (do
      let l ← dictEntries o
      let epoch ← dictEpoch o
      forIn (List.range l.size) PUnit.unit fun i (_ : PUnit) => (do
          let l' ← dictEntries o
          match l'[i]? with
            | some e => do
              holding [e.key, e.val]
                  (if false = true then do
                    let f ← dictFind d e.key e.hash
                    if f.isSome = true then do
                        rule "dict.merge.duplicate-key"
                        let x ← newExc (Value.type "KeyError") [e.key]
                        raiseNew x
                        dictPut d e.hash e.key e.val
                      else dictPut d e.hash e.key e.val
                  else dictPut d e.hash e.key e.val)
              let ep' ← dictEpoch o
              if (ep' != epoch) = true then do
                  (unsupported "dict.changed-during-merge" : Sem PUnit)
                  pure (ForInStep.yield PUnit.unit)
                else pure (ForInStep.yield PUnit.unit)
            | _ => do
              (unsupported "dict.changed-during-merge" : Sem PUnit)
              pure (ForInStep.yield PUnit.unit) : Sem (ForInStep PUnit))
      pure ()) Q E s := by
  obtain ⟨oo, eso, epo, hoo, hco, hdo', hko, hpo, hno⟩ := id ho
  have hlen : more.length = eso.size := by rw [← hpo.length]; simp
  refine wpAny_bind (wpAny_dictEntries hoo hdo' ?_)
  refine wpAny_bind (wpAny_dictEpoch hoo hdo' ?_)
  refine wpAny_bind ?_
  rw [List.range_eq_range']
  refine wpAny_forIn_list _
    (fun rest _ s' => ∃ h' i, s' = { s with heap := h' } ∧ rest = List.range' i (eso.size - i) ∧ i ≤ eso.size ∧ h'.DictOf knd d (merged kvs (more.take i)) ∧ h'.get? o = some oo ∧ Heap.SameBut d s.heap h')
    _ ?_ ?_ _ _ ⟨s.heap, 0, rfl, by simp, Nat.zero_le _, by simpa [merged] using hd, hoo, Heap.SameBut.refl _ _⟩
  · rintro x rest b s' ⟨h', i, rfl, hr, hi, hd', hoo', hs'⟩
    have hlt : i < eso.size := by
      rcases Nat.lt_or_ge i eso.size with h | h
      · exact h
      · rw [Nat.sub_eq_zero_of_le h] at hr
        simp at hr
    obtain ⟨rfl, hrest⟩ : x = i ∧ rest = List.range' (i + 1) (eso.size - (i + 1)) := by
      have e : eso.size - i = (eso.size - (i + 1)) + 1 := by omega
      rw [e, List.range'_succ] at hr
      injection hr with h1 h2
      exact ⟨h1, h2⟩
    refine wpAny_bind (wpAny_dictEntries hoo' hdo' ?_)
    rw [Array.getElem?_eq_getElem hlt]
    obtain ⟨kv, hkv⟩ : ∃ kv, more[x]? = some kv := ⟨more[x]'(by rw [hlen]; exact hlt), List.getElem?_eq_getElem _⟩
    obtain ⟨k, v⟩ := kv
    obtain ⟨hkey, hval⟩ := hpo.get? (e := eso[x]) (by simp [hlt]) hkv
    obtain ⟨k', hkey', hhash⟩ := hko eso[x] (Array.getElem_mem hlt)
    obtain rfl : k' = k := knd.inj _ _ _ hkey' hkey
    have hmx : (merged kvs (more.take x)).length ≤ sizeLine := by
      have e1 := merged_length_le kvs (more.take x)
      have e2 : (more.take x).length ≤ more.length := by rw [List.length_take]; omega
      omega
    dsimp only
    rw [if_neg Bool.false_ne_true, hhash, hval]
    refine wpAny_bind (wpAny_holding (dictPut_pairs (hsz := hmx) hkey hd' fun h'' hd'' hs'' => ?_))
    have hoo'' : h''.get? o = some oo := (hs''.2 o (Ne.symm hdo)).trans hoo'
    refine wpAny_bind (wpAny_dictEpoch hoo'' hdo' ?_)
    rw [if_neg (by simp)]
    exact wpAny_pure ⟨h'', x + 1, rfl, hrest, hlt, by rw [merged_take_succ kvs more x (k', v) hkv]; exact hd'', hoo'', hs'.trans hs''⟩
  · rintro b s' ⟨h', i, rfl, hr, hi, hd', hoo', hs'⟩
    have hin : i = eso.size := by
      rcases Nat.lt_or_ge i eso.size with h | h
      · exfalso
        have e : eso.size - i = (eso.size - (i + 1)) + 1 := by omega
        rw [e, List.range'_succ] at hr
        cases hr
      · omega
    rw [hin, ← hlen, List.take_length] at hd'
    exact wpAny_pure (hQ h' hd' hs')
theorem mergeMap_dicts {d o : Addr} {kvs more : List (K × Value)} {Q : Unit → Shared → Prop} (hdo : d ≠ o) (hoS : (o == sysModules) = false) (hd : s.heap.DictOf knd d kvs) (ho : s.heap.DictOf knd o more)
    (hnr : ∀ k v, knd.is k v = true → ∀ a, v ≠ .ref a)
    (hQ : ∀ h', h'.DictOf knd d (merged kvs more) → Heap.SameBut d s.heap h' → Q () { s with heap := h' }) (hsz : kvs.length + more.length ≤ sizeLine) : wpAny (model prog w) A (mergeMapping d (.ref o) false) Q E s := by
  obtain ⟨od, esd, epd, hod, hcd, hdd, hkd, hpd, hnd⟩ := id hd
  obtain ⟨oo, eso, epo, hoo, hco, hdo', hko, hpo, hno⟩ := id ho
  have hlen : more.length = eso.size := by rw [← hpo.length]; simp
  have hT : s.TypeIs (.ref o) "dict" := ⟨oo, hoo, hco.1⟩
  unfold mergeMapping
  refine wpAny_bind (wpAny_isInstance (T := "dict") (U := "dict") (b := true) hT (by rw [isSubtype_type]; kernel_rfl) ?_)
  rw [if_pos rfl]
  refine wpAny_bind (wpAny_specialOf hT PySem.F.slot_dict_iter.lookup ?_)
  refine wpAny_bind (wpAny_pure ?_)
  rw [show ((some (Value.builtin "dict.__iter__") == some (Value.builtin "dict.__iter__")) = true) from by decide +kernel]
  dsimp only
  rw [if_neg (by rw [hoS]; exact Bool.false_ne_true)]
  refine wpAny_bind (wpAny_dictEntries hod hdd ?_)
  refine wpAny_ite_split (fun _ => ?_) (fun _ => ?_)
  · refine wpAny_bind (wpAny_dictEntries hoo hdo' ?_)
    refine wpAny_bind ?_
    rw [← Array.forIn_toList]
    refine wpAny_forIn_list _ (fun rest _ s' => s' = s ∧ ∀ e ∈ rest, ∀ a, e.key ≠ .ref a) _ ?_ ?_ _ _ ⟨rfl, fun e he a => ?_⟩
    · rintro e rest b s' ⟨rfl, hall⟩
      have h1 := hall e List.mem_cons_self
      split
      · rename_i a2 h2
        exact absurd h2 (h1 a2)
      · exact wpAny_pure ⟨rfl, fun x hx => hall x (List.mem_cons_of_mem _ hx)⟩
    · rintro b s' ⟨rfl, _⟩
      exact mergeMap_loop hdo hd ho hQ hsz
    · obtain ⟨k, h1, _⟩ := hko e (by simpa using he)
      exact hnr k _ h1 a
  · exact mergeMap_loop hdo hd ho hQ hsz
end
section
variable {X : Cx}
/-- {**a, **b} -/
def tStar2 (t1 t2 : TE) : TE := fun σ H Q => ∀ p, H p = none → t1 σ (upd H p (.dK [])) fun x H2 => ∃ a k1, x = .ref a ∧ H2 a = some (.dK k1) ∧ a ≠ p ∧ H2 p = some (.dK []) ∧ k1.length ≤ 1000 ∧
  t2 σ (upd H2 p (.dK (mergeK [] k1))) fun y H4 => ∃ b k2, y = .ref b ∧ H4 b = some (.dK k2) ∧ b ≠ p ∧ H4 p = some (.dK (mergeK [] k1)) ∧ k2.length ≤ 1000 ∧ Q (.ref p) (upd H4 p (.dK (mergeK (mergeK [] k1) k2)))
theorem merge_ok {pins : List (Addr × Obj)} {σ : L2.St} {H : Hp} {s : Shared} {A : Around} {E : Value → Shared → Prop} {p a : Addr} {k0 k1 : List (Key × V)} {Q : Unit → Shared → Prop} (I : Inv X pins σ H s) (hp : H p = some (.dK k0)) (ha : H a = some (.dK k1)) (hne : a ≠ p) (hz0 : k0.length ≤ 10000) (hz : k1.length ≤ 10000)
    (h : ∀ s', Inv X pins σ (upd H p (.dK (mergeK k0 k1))) s' → Q () s') : wpAny (model X.prog X.w) A (mergeMapping p (.ref a) false) Q E s := by
  obtain ⟨z0, hd0, v0, r0, d0⟩ := dk_of I.hok hp
  obtain ⟨z1, hd1, v1, r1, d1⟩ := dk_of I.hok ha
  have e0 := r0.length
  have e1 := r1.length
  refine mergeMap_dicts (knd := mixKind X.prog X.w) (Ne.symm hne) hd1 d0 d1 (fun k v hk a e => ?_) (fun h' dd' hs => ?_) (by rw [← e0, ← e1, sizeLine_eq]; omega)
  · subst e
    rcases keyIs_shape (show keyIs k (Value.ref a) = true from hk) with ⟨i, t, _, e⟩ | ⟨x, t, _, e⟩ <;> cases e
  · have he : ∃ q, h'.get? p = some q := let ⟨q, _, _, hq, _⟩ := dd'; ⟨q, hq⟩
    have hl : (mergeK k0 k1).length ≤ sizeLine := by
      have := length_mergeK k1 k0
      rw [sizeLine_eq]
      omega
    exact h _ (d_write (t' := s.toks) I (by rw [hp]; exact True.intro) hs he (dk_new hl hd0 (KV.merge r1 r0) dd'))
theorem pe_star2 {e1 e2 : Expr} {t1 t2 : TE} {pos : Pos} (h1 : PE X e1 t1) (h2 : PE X e2 t2) : PE X (.Dict [none, none] [e1, e2] pos) (tStar2 t1 t2) := by
  refine ⟨fun pins s σ H Q I h => ?_⟩
  rw [arm_eval_Dict]
  refine wpAny_bind (wpAny_standAt ?_)
  show wpAny _ _ (dictDisplay [(none, (do let x ← eval e1 X.env; standAt pos; pure x)), (none, (do let x ← eval e2 X.env; standAt pos; pure x))]) _ _ s
  unfold dictDisplay
  dsimp only
  refine wpAny_bind ?_
  rw [List.forIn_cons]
  refine wpAny_bind ?_
  dsimp only
  rw [if_pos (show ([] : List (Sem Value × Sem Value)).isEmpty = true from rfl)]
  refine wpAny_bind (wpAny_pure ?_)
  dsimp only
  refine wpAny_bind (wpAny_alloc ?_)
  have hn : H s.heap.objs.size = none := I.hok.fresh (Nat.le_refl _)
  generalize hp : s.heap.objs.size = p at hn
  have I1 : Inv X pins σ (upd H p (.dK [])) { s with heap := s.heap.push { cls := .type "dict", data := .dict #[] } } := by
    refine I.laid (t' := s.toks) (fun b o e => Heap.get?_push_of_some _ e) (Nat.le_of_eq hp) ?_
    rw [← hp]
    exact dk_empty s.heap I.big
  refine wpAny_bind (wpAny_holding (wpAny_bind (thn (h1.run pins _ σ _ _ I1 (h p hn)) fun u s1 ⟨x, H2, I2, rx, a, k1, ex, ha, hne, hpp, hz1, q⟩ => wpAny_bind (wpAny_standAt (wpAny_pure ?_)))))
  subst ex
  obtain rfl : u = Value.ref a := rx
  refine wpAny_bind (wpAny_onRaise (wpAny_tryCatch (wpAny_onRaise (wpAny_holding (merge_ok I2 hpp ha hne (by simp) (by omega) fun s2 I3 => ?_)))))
  refine wpAny_pure ?_
  dsimp only
  rw [List.forIn_cons]
  refine wpAny_bind ?_
  dsimp only
  rw [if_pos (show ([] : List (Sem Value × Sem Value)).isEmpty = true from rfl)]
  refine wpAny_bind (wpAny_pure ?_)
  dsimp only
  refine wpAny_bind (wpAny_pure ?_)
  refine wpAny_bind (wpAny_holding (wpAny_bind (thn (h2.run pins _ σ _ _ I3 q) fun u s3 ⟨y, H4, I4, ry, b, k2, ey, hb, hne2, hpp2, hz2, q2⟩ => wpAny_bind (wpAny_standAt (wpAny_pure ?_)))))
  subst ey
  obtain rfl : u = Value.ref b := ry
  have lm : (mergeK [] k1).length ≤ 10000 := by
    have := length_mergeK k1 []
    simp only [List.length_nil] at this
    omega
  refine wpAny_bind (wpAny_onRaise (wpAny_tryCatch (wpAny_onRaise (wpAny_holding (merge_ok I4 hpp2 hb hne2 lm (by omega) fun s4 I5 => ?_)))))
  refine wpAny_pure ?_
  dsimp only
  rw [List.forIn_nil]
  refine wpAny_pure ?_
  dsimp only
  rw [if_pos (show ([] : List (Sem Value × Sem Value)).isEmpty = true from rfl)]
  refine wpAny_bind (wpAny_pure ?_)
  exact wpAny_pure ⟨.ref p, _, I5, rfl, q2⟩
/-- a tuple of these, and nothing more -/
def PlT (p : Addr) (xs : List V) : HO := .ext fun h => ∃ its : List Value, Vals xs its ∧ PlainSeq "tuple" h p its.toArray
theorem plT_ok {P : Program} {w : World} {H : Hp} {h : Heap} {p : Addr} {xs : List V} {its : List Value} (r : Vals xs its) (e : h.get? p = some { cls := .type "tuple", data := .seq its.toArray }) : ObjOk P w H h p (PlT p xs) :=
  ⟨⟨its, r, _, _, e, rfl, rfl, rfl⟩, ⟨_, e⟩, fun h1 h2 ⟨its, r, o, n, e, z⟩ k => ⟨its, r, o, n, k _ e, z⟩⟩
/-- dict(t), t a tuple of pairs -/
def rDictT (K : Frg) : List V → Hp → VK → Prop := fun vs H Q => ∃ (a : Addr) (ps : List Addr) (kvs : List (Key × V)), vs = [.ref a] ∧ H a = some (PlT a (ps.map V.ref)) ∧ ps.length ≤ 1000 ∧ Paired (fun p kv => SqT K H p [kV kv.1, kv.2]) ps kvs ∧ ∀ p, H p = none → Q (.ref p) (upd H p (.dK (mergeK [] kvs)))
theorem cr_dictT (hc : X.calm = true := by rfl) : CallR X (.type "dict") (rDictT X.K) := by
  intro pins s σ H vs us Q I r h
  obtain ⟨a, ps, kvs, rfl, hq, hz, hp, q⟩ := h
  obtain rfl := Vals.ref1 r
  obtain ⟨⟨its, rv, pl⟩, _, _⟩ := (show ObjOk X.prog X.w H s.heap a (PlT a (ps.map V.ref)) from I.hok a _ hq)
  obtain rfl := refs_at rv
  obtain ⟨prs, rel, hl, hpr⟩ := pairs_of I hp
  -- the pairs as they stand
  have key : ∀ j, j < ps.length → ∃ (q : Key × Value) (u : Value), prs[j]? = some q ∧ IsTup s.heap (ps.getD j 0) #[u, q.2] ∧ keyIs q.1 u = true := fun j hj => by
    have e1 : prs[j]? = some (prs[j]'(by omega)) := List.getElem?_eq_getElem _
    obtain ⟨b, u, e2, e3, e4⟩ := hpr j _ e1
    refine ⟨_, u, e1, ?_, e4⟩
    rw [List.getD_eq_getElem?_getD, e2]
    exact e3
  have keyU : ∀ j : Fin ps.length, ∃ u : Value, ∃ q : Key × Value, prs[j.1]? = some q ∧ IsTup s.heap (ps.getD j.1 0) #[u, q.2] ∧ keyIs q.1 u = true := fun j => by
    obtain ⟨q, u, h1, h2, h3⟩ := key j.1 j.2
    exact ⟨u, q, h1, h2, h3⟩
  let us : List (Value × Value) := (List.finRange ps.length).map fun j => ((keyU j).choose, (keyU j).choose_spec.choose.2)
  have lus : us.length = ps.length := by simp [us]
  have atus : ∀ (j : Nat) (k v : Value), us[j]? = some (k, v) → ∃ q : Key × Value, prs[j]? = some q ∧ v = q.2 ∧ IsTup s.heap (ps.getD j 0) #[k, v] ∧ keyIs q.1 k = true := fun j k v e => by
    rw [List.getElem?_map] at e
    cases e1 : (List.finRange ps.length)[j]? with
    | none =>
      rw [e1] at e
      cases e
    | some i =>
      rw [e1] at e
      have hi : i.1 = j := by
        obtain ⟨h1, h2⟩ := List.getElem?_eq_some_iff.mp e1
        rw [← h2]
        simp
      have e2 := Option.some.inj e
      injection e2 with e3 e4
      obtain ⟨z1, z2, z3⟩ := (keyU i).choose_spec.choose_spec
      refine ⟨(keyU i).choose_spec.choose, by rw [← hi]; exact z1, e4.symm, ?_, by rw [← e3]; exact z3⟩
      rw [← hi, ← e3, ← e4]
      exact z2
  have pit : PairItems s.heap (ps.map Value.ref).toArray (fun j => ps.getD j 0) us := by
    refine ⟨by simp [lus], fun j k v e => ?_⟩
    obtain ⟨q, h1, h2, h3, h4⟩ := atus j k v e
    have hj : j < ps.length := by
      have := (List.getElem?_eq_some_iff.mp e).1
      omega
    refine ⟨?_, .inl h3⟩
    simp [hj]
  have hm : (s.heap.objs.size == sysModules) = false := beq_eq_false_iff_ne.mpr (Nat.ne_of_gt I.big)
  refine PySem.call_dict_pairs (knd := mixKind X.prog X.w) (kvs := prs) (PairArg.tuple a (ps.map Value.ref).toArray (fun j => ps.getD j 0) us) (I.ok.hd hc) ⟨pl, pit⟩ ⟨by omega, fun i k v e => ?_⟩ (by rw [lus]; exact Nat.le_of_lt (small1000 hz)) fun h' tk hd' k => ?_
  · obtain ⟨q, h1, h2, h3, h4⟩ := atus i k v e
    exact ⟨q.1, by rw [h1, h2], h4⟩
  · have hlen : (mergeK [] kvs).length ≤ sizeLine := by
      refine Nat.le_trans (length_mergeK kvs []) ?_
      rw [List.length_nil, Nat.zero_add, rel.length, hl]
      exact Nat.le_of_lt (small1000 hz)
    exact ⟨.ref s.heap.objs.size, upd H s.heap.objs.size (.dK (mergeK [] kvs)), I.laid (t' := tk) (fun b o e => k b o (by simp) e) (Nat.le_refl _) (show ObjOk X.prog X.w _ _ _ (.dK (mergeK [] kvs)) from ⟨hlen, hm, merged [] prs, KV.merge rel .nil, hd'⟩), rfl, q _ (I.hok.fresh (Nat.le_refl _))⟩
end
section
variable {P : Program} {w : World} {K : Frg} {mg : Str → Option Value} {base : Heap}
/-- def f(a, .., *v, **d), called without keywords: the tuple known whole -/
theorem mkFnSKP {d : DefX} {N ps : List Str} {pv pd : Str} {k : Nat} {sp : Sp} (D : FunX K d) (S : FnScope N (ps ++ [pv, pd]) (defScope d.st))
    (hb : ∀ (kV doc pm : Value) (an : Option Addr) (cdv ct : Value) (us rest : List Value), us.length = ps.length → bindArgs (PySem.W.fnOf d.name d.qual (defArgs d.st) (defBody d.st) (defScope d.st) .none kV doc pm an cdv ct) ⟨us ++ rest, []⟩ =
      (newTuple rest >>= fun t => (alloc ({ cls := .type "dict", data := .dict #[] } : Obj) : Sem Addr) >>= fun d => pure (ps.zip us ++ [(pv, t), (pd, Value.ref d)])))
    (hbody : ∀ (cdv : Value) (A : Around) (outer : List Env) (s : Shared) (H : Hp) (vs : List V) (Q : VK) (E : XK), Room k (A.deeper (envOfC d.qual (defScope d.st) s.heap.objs.size (d.loc K) cdv)) → sp vs H Q E →
      ∃ t, PSs (cxOf CX0 P w K mg base N d.qual (defScope d.st) (d.loc K) cdv A outer s H E).nox (defBody d.st) t ∧ t { nx := fun _ H' => Q .non H', rt := Q } (start N vs) H) :
    Fn0 P w K mg base (k + 1) (d.loc K) (fun vs H Q E => ∃ ws rest, vs = ws ++ rest ∧ ws.length = ps.length ∧ rest.length ≤ sizeLine ∧ ∀ p d, H p = Option.none → H d = Option.none → d ≠ p → sp (ws ++ [V.ref p, V.ref d]) (upd (upd H p (PlT p rest)) d (.dK [])) Q E) := by
  obtain ⟨fd, F⟩ := D
  obtain ⟨oc, od, dV, kV, doc, pm, an, cdv, ct, osl, rfl, lk, hcd, hD, hK⟩ := F.ex
  rcases hD with ⟨_, rfl⟩ | ⟨e2, _⟩
  · intro A outer s H us vs Q E hr e0 r ⟨ws, rest, ev, hl, hz, hq⟩
    subst ev
    obtain ⟨u1, u2, eu, r1, r2⟩ := StX.vals_split r
    subst eu
    have hn : H s.heap.objs.size = Option.none := e0.hok.fresh (Nat.le_refl _)
    have hl1 : u1.length = ps.length := by rw [← r1.length]; exact hl
    have hl2 : u2.length ≤ sizeLine := by rw [← r2.length]; exact hz
    refine StX.run_bnd lk hcd S hr e0 (G := fun xs H2 => ∃ p d, H p = Option.none ∧ H d = Option.none ∧ d ≠ p ∧ xs = ws ++ [V.ref p, V.ref d] ∧ H2 = upd (upd H p (PlT p rest)) d (.dK [])) (fun A' Ex Q' h => ?_) fun s2 H2 xs ⟨p, d, hp, hd, hne, ex, eH⟩ hr' => ?_
    · rw [hb kV doc pm an cdv ct u1 u2 hl1]
      refine wpAny_bind (wpAny_newTuple (wpAny_bind (wpAny_alloc (wpAny_pure ?_))) hl2)
      have new : ObjOk P w (upd H s.heap.objs.size (PlT s.heap.objs.size rest)) (s.heap.push ({ cls := .type "tuple", data := .seq u2.toArray } : Obj)) s.heap.objs.size (PlT s.heap.objs.size rest) := plT_ok r2 (Heap.get?_push_size _ rfl)
      have e1 := StX.env0_laid e0 new
      have un1 := StX.un_laid (fs := frs outer) (s := s) (o := ({ cls := .type "tuple", data := .seq u2.toArray } : Obj)) (u := PlT s.heap.objs.size rest) hn
      have hn2 := e1.hok.fresh (Nat.le_refl _)
      have e2 := StX.env0_laid (u := .dK []) (o := ({ cls := .type "dict", data := .dict #[] } : Obj)) e1 (dk_empty _ (StX.env0_big e1))
      have un2 := un1.trans (StX.un_laid (fs := frs outer) (s := { s with heap := s.heap.push ({ cls := .type "tuple", data := .seq u2.toArray } : Obj) }) (o := ({ cls := .type "dict", data := .dict #[] } : Obj)) (u := .dK []) hn2)
      have sz : (s.heap.push ({ cls := .type "tuple", data := .seq u2.toArray } : Obj)).objs.size = s.heap.objs.size + 1 := Heap.size_push _ _
      have ne : (s.heap.push ({ cls := .type "tuple", data := .seq u2.toArray } : Obj)).objs.size ≠ s.heap.objs.size := by
        rw [sz]
        exact Nat.succ_ne_self _
      have hd : H (s.heap.push ({ cls := .type "tuple", data := .seq u2.toArray } : Obj)).objs.size = Option.none := e0.hok.fresh (by rw [sz]; exact Nat.le_succ _)
      have z := h _ _ (ws ++ [V.ref s.heap.objs.size, V.ref (s.heap.push ({ cls := .type "tuple", data := .seq u2.toArray } : Obj)).objs.size]) (u1 ++ [Value.ref s.heap.objs.size, Value.ref (s.heap.push ({ cls := .type "tuple", data := .seq u2.toArray } : Obj)).objs.size]) e2 un2 rfl
        (fun e s' z => z) (r1.append (.cons rfl (.cons rfl .nil))) (by rw [List.length_append, List.length_append, hl] <;> rfl) ⟨_, _, hn, hd, ne, rfl, rfl⟩
      rw [List.zip_append hl1.symm] at z
      exact z
    · subst ex eH
      obtain ⟨t, h1, h2⟩ := hbody cdv A outer s2 _ _ Q E hr' (hq p d hp hd hne)
      exact ⟨t, h1.nox, h2⟩
  · exact absurd rfl e2
end
end Sj
set_option Elab.async false
set_option linter.all false
set_option maxRecDepth 100000
set_option maxHeartbeats 4000000
/-! SjRule12: readings: comprehensions over pairs; of two clauses. -/
namespace Sj
open PySem PySem.Spec PyProof.Rows L2 He
/-- a, b = .. -/
abbrev g2 (K : Frg) (i j : Nat) : TG := gTup K 2 (gCons (gName i) (gCons (gName j) gNil))
theorem g2_of {K : Frg} {i j : Nat} {T : Addr} {a b : V} {σ : L2.St} {H : Hp} {Q : L2.St → Hp → Prop} (h : SqT K H T [a, b]) (q : Q ((σ.set i (some a)).set j (some b)) H) : g2 K i j (.ref T) σ H Q :=
  ⟨T, [a, b], rfl, h, rfl, a, [b], rfl, b, [], rfl, rfl, q⟩
section
variable {J : It} {n : Nat} {fx fy : Nat → Option V} {G : Hp → Prop} {i1 i2 : Nat} {tt : TT} {te : TE} {vs : List Nat} {σ : L2.St} {H1 : Hp} {D : Addr} {Qd : Hp → Prop} {K : Frg}
/-- [.. for a, b in pairs if ..] -/
theorem lcp (wk : Walk J n G (YPair fx fy)) (ps : List (V × V)) (hn : ps.length = n) (hp : ∀ i a b, fx i = some a → fy i = some b → ps[i]? = some (a, b)) (f : V × V → Bool) (R : Addr → V × V → V → Hp → Prop) (hD : H1 D = none) (hG : ∀ H', Same H1 H' → G H')
    (hR : ∀ x y H H', SameB D H H' → R D x y H → R D x y H') (hz : ps.length ≤ 1000) (hw : ∀ a b, wipe (((wipe σ vs).set i1 (some a)).set i2 (some b)) vs = wipe σ vs)
    (ht : ∀ p ∈ ps, ∀ H2, Same H1 H2 → ∀ Q : Bool → Hp → Prop, (∀ H3, Same H2 H3 → Q (f p) H3) → tt (((wipe σ vs).set i1 (some p.1)).set i2 (some p.2)) H2 Q)
    (he : ∀ p ∈ ps, f p = true → ∀ H2, Same H1 H2 → ∀ Q : VK, (∀ y H3, Same H2 H3 → R D p y H3 → Q y H3) → te (((wipe σ vs).set i1 (some p.1)).set i2 (some p.2)) H2 Q)
    (k : ∀ ys H2, Same H1 H2 → H2 D = some (.lst ys) → Paired (fun x y => R D x y H2) (ps.filter f) ys → Qd H2) :
    ∃ W : Nat → Nat → Hp → Prop, (∃ m, W 0 m (upd H1 D (.lst []))) ∧ ∀ i m H, W i m H →
      (J.stop i H ∧ Qd H) ∨ (J.go i H ∧ ∃ Nx : Hp → Prop, (∀ H', Nx H' → ∃ m', m' < m ∧ W (i + 1) m' H') ∧ ∀ x H', J.yld i H x H' → g2 K i1 i2 x (wipe σ vs) H' fun σ2 H2 => wipe σ2 vs = wipe σ vs ∧ tt σ2 H2 fun b H3 =>
        if b = true then te σ2 H3 fun y H4 => ∃ acc, H4 D = some (.lst acc) ∧ acc.length < sizeLine ∧ Nx (upd H4 D (.lst (acc ++ [y]))) else Nx H3) := by
  let Pv : Nat → Hp → Prop := fun i H => Same H1 H ∧ ∃ ys, H D = some (.lst ys) ∧ Paired (fun x y => R D x y H) ((ps.take i).filter f) ys
  have h0 : Pv 0 (upd H1 D (.lst [])) := ⟨same_new hD, [], upd_same, by rw [List.take_zero]; exact .nil⟩
  refine ⟨fun i m H => m = n - i ∧ i ≤ n ∧ Pv i H, ⟨n, by simp, Nat.zero_le _, h0⟩, ?_⟩
  rintro i m H ⟨rfl, hi, s, ys, hd, pr⟩
  have q := hG H s
  by_cases hlt : i < n
  · refine .inr ⟨wk.goes i H hlt q, Pv (i + 1), fun H' p' => ⟨n - (i + 1), by omega, rfl, hlt, p'⟩, fun x H' y => ?_⟩
    obtain ⟨T, a, b, rfl, hT, rfl, hxa, hyb⟩ := wk.yields i H x H' hlt q y
    have hx := hp i a b hxa hyb
    have mem := List.mem_of_getElem? hx
    have sT : Same H (upd H T (.tup [a, b])) := same_new hT
    refine g2_of (SqT.of upd_same) ⟨hw a b, ht (a, b) mem _ (s.trans sT) _ fun H3 s3 => ?_⟩
    have hl : ys.length < sizeLine := by
      have h1 := paired_len pr
      have h2 := List.length_filter_le f (ps.take i)
      have h3 : (ps.take i).length ≤ ps.length := by rw [List.length_take]; exact Nat.min_le_right _ _
      exact small1000 (by omega)
    have s4 := sT.trans s3
    cases hf : f (a, b) with
    | true =>
      refine iteT (B := Pv (i + 1) H3) (he (a, b) mem hf H3 (s.trans s4) _ fun y H4 s5 r => ⟨ys, s5 D _ (s4 D _ hd), hl, same_mut (s.trans (s4.trans s5)) hD, ys ++ [y], upd_same, ?_⟩)
      rw [take_filter_yes hx hf]
      exact paired_snoc (F := fun a b => R D a b (upd H4 D (.lst (ys ++ [y])))) (hR _ _ _ _ SameB.upd r) (Paired.mapP pr fun a b q => hR _ _ _ _ ((SameB.of (s4.trans s5)).trans SameB.upd) q)
    | false =>
      refine iteF ⟨s.trans s4, ys, s4 D _ hd, ?_⟩
      rw [take_filter_no hx hf]
      exact Paired.mapP pr fun a b q => hR _ _ _ _ (SameB.of s4) q
  · have e : i = n := by omega
    subst e
    rw [← hn, List.take_length] at pr
    exact .inl ⟨wk.stops H q, k ys H s hd pr⟩
end
section
variable {J : It} {xs : List V} {G : Hp → Prop} {j j1 : Nat} {wi1 : TI} {te tk : TE} {vs vs1 : List Nat} {σ : L2.St} {H1 : Hp} {D : Addr} {Qd : Hp → Prop}
theorem flatMap_take {α β : Type} {f : α → List β} {l : List α} {i : Nat} {x : α} (h : l[i]? = some x) : (l.take (i + 1)).flatMap f = (l.take i).flatMap f ++ f x := by
  rw [List.take_succ, h]
  simp
theorem flatMap_take_len {α β : Type} {f : α → List β} {l : List α} {i : Nat} {x : α} (h : l[i]? = some x) : ((l.take i).flatMap f).length + (f x).length ≤ (l.flatMap f).length := by
  have e := flatMap_take (f := f) h
  have e2 : l.flatMap f = (l.take (i + 1)).flatMap f ++ (l.drop (i + 1)).flatMap f := by rw [← List.flatMap_append, List.take_append_drop]
  rw [e2, e]
  simp
/-- [y for x in xs for y in ys x] -/
theorem lc2v (wk : Walk J xs.length G (YAt xs)) (ys : V → List V) (hD : H1 D = none) (hG : ∀ H', Same H1 H' → G H') (hz : (xs.flatMap ys).length ≤ 1000) (hw : ∀ x, wipe ((wipe σ vs).set j (some x)) vs = wipe σ vs)
    (hw1 : ∀ x y, wipe ((wipe ((wipe σ vs).set j (some x)) vs1).set j1 (some y)) vs1 = wipe ((wipe σ vs).set j (some x)) vs1)
    (hin : ∀ x ∈ xs, ∀ H2, Same H1 H2 → ∀ R : It → Hp → Prop, (∀ J1 G1, Walk J1 (ys x).length G1 (YAt (ys x)) → (∀ H', Same H1 H' → G1 H') → R J1 H2) → wi1 ((wipe σ vs).set j (some x)) H2 R)
    (he : ∀ x ∈ xs, ∀ y ∈ ys x, ∀ H2, ∀ Q : VK, Q y H2 → te ((wipe ((wipe σ vs).set j (some x)) vs1).set j1 (some y)) H2 Q)
    (k : ∀ H2, Same H1 H2 → H2 D = some (.lst (xs.flatMap ys)) → Qd H2) :
    ∃ W : Nat → Nat → Hp → Prop, (∃ m, W 0 m (upd H1 D (.lst []))) ∧ ∀ i m H, W i m H →
      (J.stop i H ∧ Qd H) ∨ (J.go i H ∧ ∃ Nx : Hp → Prop, (∀ H', Nx H' → ∃ m', m' < m ∧ W (i + 1) m' H') ∧ ∀ x H', J.yld i H x H' → gName j x (wipe σ vs) H' fun σ2 H2 => wipe σ2 vs = wipe σ vs ∧ tYes σ2 H2 fun b H3 =>
        if b = true then wi1 σ2 H3 fun J1 H4 => ∃ W1 : Nat → Nat → Hp → Prop, (∃ m, W1 0 m H4) ∧ ∀ j k H, W1 j k H →
          (J1.stop j H ∧ Nx H) ∨ (J1.go j H ∧ ∃ Nx1 : Hp → Prop, (∀ H', Nx1 H' → ∃ k', k' < k ∧ W1 (j + 1) k' H') ∧ ∀ x H', J1.yld j H x H' → gName j1 x (wipe σ2 vs1) H' fun σ3 H5 => wipe σ3 vs1 = wipe σ2 vs1 ∧ tYes σ3 H5 fun b H6 =>
            if b = true then te σ3 H6 fun y H7 => ∃ acc, H7 D = some (.lst acc) ∧ acc.length < sizeLine ∧ Nx1 (upd H7 D (.lst (acc ++ [y]))) else Nx1 H6)
        else Nx H3) := by
  let Pv : Nat → Hp → Prop := fun i H => Same H1 H ∧ H D = some (.lst ((xs.take i).flatMap ys))
  refine ⟨fun i m H => m = xs.length - i ∧ i ≤ xs.length ∧ Pv i H, ⟨xs.length, by simp, Nat.zero_le _, same_new hD, by rw [List.take_zero]; exact upd_same⟩, ?_⟩
  rintro i m H ⟨rfl, hi, s, hd⟩
  have q := hG H s
  by_cases hlt : i < xs.length
  · refine .inr ⟨wk.goes i H hlt q, Pv (i + 1), fun H' p' => ⟨xs.length - (i + 1), by omega, rfl, hlt, p'⟩, fun x H' y => ?_⟩
    obtain ⟨rfl, hx⟩ := wk.yields i H x H' hlt q y
    have mem := List.mem_of_getElem? hx
    refine ⟨hw x, iteT (B := Pv (i + 1) H') (hin x mem H' s _ fun J1 G1 wk1 hG1 => ?_)⟩
    have hlen := flatMap_take_len (f := ys) hx
    refine ⟨fun j k H => k = (ys x).length - j ∧ j ≤ (ys x).length ∧ Same H1 H ∧ H D = some (.lst ((xs.take i).flatMap ys ++ (ys x).take j)), ⟨(ys x).length, by simp, Nat.zero_le _, s, by simpa using hd⟩, ?_⟩
    rintro j k H ⟨rfl, hj, s1, hd1⟩
    have q1 := hG1 H s1
    by_cases hlt1 : j < (ys x).length
    · refine .inr ⟨wk1.goes j H hlt1 q1, fun H => Same H1 H ∧ H D = some (.lst ((xs.take i).flatMap ys ++ (ys x).take (j + 1))), fun H' p' => ⟨(ys x).length - (j + 1), by omega, rfl, hlt1, p'.1, p'.2⟩, fun x1 H' y1 => ?_⟩
      obtain ⟨rfl, hx1⟩ := wk1.yields j H x1 H' hlt1 q1 y1
      have mem1 := List.mem_of_getElem? hx1
      refine ⟨hw1 x x1, iteT (B := Same H1 H' ∧ H' D = some (.lst ((xs.take i).flatMap ys ++ (ys x).take (j + 1)))) (he x mem x1 mem1 H' _ ⟨_, hd1, small1000 ?_, same_mut s1 hD, ?_⟩)⟩
      · rw [List.length_append, List.length_take]
        omega
      · rw [List.take_succ, hx1, ← List.append_assoc]
        exact upd_same
    · have e : j = (ys x).length := by omega
      subst e
      refine .inl ⟨wk1.stops H q1, s1, ?_⟩
      rw [List.take_length] at hd1
      rw [flatMap_take hx]
      exact hd1
  · have e : i = xs.length := by omega
    subst e
    rw [List.take_length] at hd
    exact .inl ⟨wk.stops H q, k H s hd⟩
/-- the pairs of two clauses -/
def prs (xs : List V) (ys : V → List V) : List (V × V) := xs.flatMap fun x => (ys x).map fun y => (x, y)
/-- {key y: .. for x in xs for y in ys x}, the keys apart -/
theorem dc2m (wk : Walk J xs.length G (YAt xs)) (ys : V → List V) (key : V → Key) (R : Addr → V × V → V → Hp → Prop) (hD : H1 D = none) (hG : ∀ H', Same H1 H' → G H') (hR : ∀ x y H H', SameB D H H' → R D x y H → R D x y H') (hz : (prs xs ys).length ≤ 1000)
    (hnd : ((prs xs ys).map fun z => key z.2).Nodup) (hw : ∀ x, wipe ((wipe σ vs).set j (some x)) vs = wipe σ vs) (hw1 : ∀ x y, wipe ((wipe ((wipe σ vs).set j (some x)) vs1).set j1 (some y)) vs1 = wipe ((wipe σ vs).set j (some x)) vs1)
    (hin : ∀ x ∈ xs, ∀ H2, Same H1 H2 → ∀ R : It → Hp → Prop, (∀ J1 G1, Walk J1 (ys x).length G1 (YAt (ys x)) → (∀ H', Same H1 H' → G1 H') → R J1 H2) → wi1 ((wipe σ vs).set j (some x)) H2 R)
    (hk : ∀ x ∈ xs, ∀ y ∈ ys x, ∀ H2, ∀ Q : VK, Q (kV (key y)) H2 → tk ((wipe ((wipe σ vs).set j (some x)) vs1).set j1 (some y)) H2 Q)
    (he : ∀ x ∈ xs, ∀ y ∈ ys x, ∀ H2, Same H1 H2 → (∃ kvs, H2 D = some (.dK kvs)) → ∀ Q : VK, (∀ z H3, Same H2 H3 → R D (x, y) z H3 → Q z H3) → te ((wipe ((wipe σ vs).set j (some x)) vs1).set j1 (some y)) H2 Q)
    (k : ∀ kvs H2, Same H1 H2 → H2 D = some (.dK kvs) → Paired (fun (z : V × V) (kv : Key × V) => kv.1 = key z.2 ∧ R D z kv.2 H2) (prs xs ys) kvs → Qd H2) :
    ∃ W : Nat → Nat → Hp → Prop, (∃ m, W 0 m (upd H1 D (.dK []))) ∧ ∀ i m H, W i m H →
      (J.stop i H ∧ Qd H) ∨ (J.go i H ∧ ∃ Nx : Hp → Prop, (∀ H', Nx H' → ∃ m', m' < m ∧ W (i + 1) m' H') ∧ ∀ x H', J.yld i H x H' → gName j x (wipe σ vs) H' fun σ2 H2 => wipe σ2 vs = wipe σ vs ∧ tYes σ2 H2 fun b H3 =>
        if b = true then wi1 σ2 H3 fun J1 H4 => ∃ W1 : Nat → Nat → Hp → Prop, (∃ m, W1 0 m H4) ∧ ∀ j k H, W1 j k H →
          (J1.stop j H ∧ Nx H) ∨ (J1.go j H ∧ ∃ Nx1 : Hp → Prop, (∀ H', Nx1 H' → ∃ k', k' < k ∧ W1 (j + 1) k' H') ∧ ∀ x H', J1.yld j H x H' → gName j1 x (wipe σ2 vs1) H' fun σ3 H5 => wipe σ3 vs1 = wipe σ2 vs1 ∧ tYes σ3 H5 fun b H6 =>
            if b = true then tk σ3 H6 fun y H7 => te σ3 H7 fun z H8 => ∃ kvs k, y = kV k ∧ H8 D = some (.dK kvs) ∧ kvs.length < sizeLine ∧ Nx1 (upd H8 D (.dK (putK kvs k z))) else Nx1 H6)
        else Nx H3) := by
  let F : V → List (V × V) := fun x => (ys x).map fun y => (x, y)
  let Pz : List (V × V) → Hp → Prop := fun zs H => Same H1 H ∧ ∃ kvs : List (Key × V), H D = some (.dK kvs) ∧ Paired (fun (z : V × V) (kv : Key × V) => kv.1 = key z.2 ∧ R D z kv.2 H) zs kvs
  refine ⟨fun i m H => m = xs.length - i ∧ i ≤ xs.length ∧ Pz ((xs.take i).flatMap F) H, ⟨xs.length, by simp, Nat.zero_le _, same_new hD, [], upd_same, by rw [List.take_zero]; exact .nil⟩, ?_⟩
  rintro i m H ⟨rfl, hi, s, kvs, hd, pr⟩
  have q := hG H s
  by_cases hlt : i < xs.length
  · refine .inr ⟨wk.goes i H hlt q, Pz ((xs.take (i + 1)).flatMap F), fun H' p' => ⟨xs.length - (i + 1), by omega, rfl, hlt, p'⟩, fun x H' y => ?_⟩
    obtain ⟨rfl, hx⟩ := wk.yields i H x H' hlt q y
    have mem := List.mem_of_getElem? hx
    refine ⟨hw x, iteT (B := Pz ((xs.take (i + 1)).flatMap F) H') (hin x mem H' s _ fun J1 G1 wk1 hG1 => ?_)⟩
    have hlen := flatMap_take_len (f := F) hx
    have lF : (F x).length = (ys x).length := List.length_map _
    refine ⟨fun j k H => k = (ys x).length - j ∧ j ≤ (ys x).length ∧ Pz ((xs.take i).flatMap F ++ (F x).take j) H, ⟨(ys x).length, by simp, Nat.zero_le _, s, kvs, hd, by simpa using pr⟩, ?_⟩
    rintro j k H ⟨rfl, hj, s1, kvs1, hd1, pr1⟩
    have q1 := hG1 H s1
    by_cases hlt1 : j < (ys x).length
    · refine .inr ⟨wk1.goes j H hlt1 q1, Pz ((xs.take i).flatMap F ++ (F x).take (j + 1)), fun H' p' => ⟨(ys x).length - (j + 1), by omega, rfl, hlt1, p'⟩, fun x1 H' y1 => ?_⟩
      obtain ⟨rfl, hx1⟩ := wk1.yields j H x1 H' hlt1 q1 y1
      have mem1 := List.mem_of_getElem? hx1
      have hF : (F x)[j]? = some (x, x1) := by
        show ((ys x).map fun y => (x, y))[j]? = _
        rw [List.getElem?_map, hx1]
        rfl
      have etake : (F x).take (j + 1) = (F x).take j ++ [(x, x1)] := by rw [List.take_succ, hF]; rfl
      have hnew : valV kvs1 (key x1) = none := by
        cases e : valV kvs1 (key x1) with
        | none => rfl
        | some v =>
          exfalso
          have h1 := valV_in e
          rw [paired_fst (g := fun z : V × V => key z.2) (fun a p z => z.1) pr1] at h1
          have e2 : prs xs ys = ((xs.take i).flatMap F ++ (F x).take j) ++ ((x, x1) :: ((F x).drop (j + 1) ++ (xs.drop (i + 1)).flatMap F)) := by
            have e3 : prs xs ys = (xs.take (i + 1)).flatMap F ++ (xs.drop (i + 1)).flatMap F := by rw [← List.flatMap_append, List.take_append_drop]; rfl
            have e4 : F x = (F x).take j ++ (x, x1) :: (F x).drop (j + 1) := by
              conv => lhs; rw [← List.take_append_drop (j + 1) (F x), etake]
              simp
            rw [e3, flatMap_take hx]
            conv => lhs; rw [e4]
            simp
          rw [e2, List.map_append, List.map_cons] at hnd
          exact (List.nodup_append.mp hnd).2.2 _ h1 _ List.mem_cons_self rfl
      refine ⟨hw1 x x1, iteT (B := Pz ((xs.take i).flatMap F ++ (F x).take (j + 1)) H') (hk x mem x1 mem1 H' _ (he x mem x1 mem1 H' s1 ⟨_, hd1⟩ _ fun z H3 s3 r => ⟨kvs1, key x1, rfl, s3 D _ hd1, small1000 ?_, same_mut (s1.trans s3) hD, _, upd_same, ?_⟩))⟩
      · have e1 := paired_len pr1
        rw [List.length_append, List.length_take] at e1
        have : (prs xs ys).length = (xs.flatMap F).length := rfl
        omega
      · rw [putK_new _ hnew, etake, ← List.append_assoc]
        exact paired_snoc (F := fun (a : V × V) (kv : Key × V) => kv.1 = key a.2 ∧ R D a kv.2 (upd H3 D (.dK (kvs1 ++ [(key x1, z)])))) ⟨rfl, hR _ _ _ _ SameB.upd r⟩ (Paired.mapP pr1 fun a b q => ⟨q.1, hR _ _ _ _ ((SameB.of s3).trans SameB.upd) q.2⟩)
    · have e : j = (ys x).length := by omega
      subst e
      refine .inl ⟨wk1.stops H q1, s1, kvs1, hd1, ?_⟩
      rw [← lF, List.take_length] at pr1
      rw [flatMap_take hx]
      exact pr1
  · have e : i = xs.length := by omega
    subst e
    rw [List.take_length] at pr
    exact .inl ⟨wk.stops H q, k kvs H s hd pr⟩
end
end Sj
set_option Elab.async false
set_option linter.all false
set_option maxRecDepth 100000
set_option maxHeartbeats 4000000
/-! SjData: what the things are, and how they stand in the heap. -/
namespace Sj
open PySem PySem.Spec PyProof.Rows L2 He
/-! ### sorted texts -/
def leS (a b : Str) : Bool := decide (a.cps.toList ≤ b.cps.toList)
theorem leS_total (a b : Str) : (leS a b || leS b a) = true := by
  simp only [leS, Bool.or_eq_true, decide_eq_true_eq]
  exact List.le_total _ _
theorem leS_trans (a b c : Str) (h1 : leS a b = true) (h2 : leS b c = true) : leS a c = true := by
  simp only [leS, decide_eq_true_eq] at *
  exact List.le_trans h1 h2
theorem leS_anti {a b : Str} (h1 : leS a b = true) (h2 : leS b a = true) : a = b := by
  simp only [leS, decide_eq_true_eq] at *
  exact PySem.W.str_of_cps (List.le_antisymm h1 h2)
def srt (xs : List Str) : List Str := xs.mergeSort leS
theorem srt_perm (xs : List Str) : (srt xs).Perm xs := List.mergeSort_perm xs leS
theorem srt_pw (xs : List Str) : (srt xs).Pairwise fun a b => leS a b = true := List.pairwise_mergeSort leS_trans leS_total xs
theorem mem_srt {x : Str} {xs : List Str} : x ∈ srt xs ↔ x ∈ xs := (srt_perm xs).mem_iff
theorem len_srt (xs : List Str) : (srt xs).length = xs.length := (srt_perm xs).length_eq
theorem pw_eq {α : Type} {le : α → α → Bool} (anti : ∀ a b, le a b = true → le b a = true → a = b) : ∀ {xs ys : List α}, xs.Perm ys → xs.Pairwise (fun a b => le a b = true) → ys.Pairwise (fun a b => le a b = true) → xs = ys
  | [], ys, p, _, _ => (List.nil_perm.mp p).symm
  | x :: xs, [], p, _, _ => absurd (List.perm_nil.mp p) (by simp)
  | x :: xs, y :: ys, p, h1, h2 => by
    have e : x = y := by
      obtain ⟨a1, a2⟩ := List.pairwise_cons.mp h1
      obtain ⟨b1, b2⟩ := List.pairwise_cons.mp h2
      rcases List.mem_cons.mp (p.mem_iff.mp (List.mem_cons_self : x ∈ x :: xs)) with e | hx
      · exact e
      · rcases List.mem_cons.mp (p.mem_iff.mpr (List.mem_cons_self : y ∈ y :: ys)) with e | hy
        · exact e.symm
        · exact anti x y (a1 y hy) (b1 x hx)
    subst e
    rw [pw_eq anti ((List.perm_cons x).mp p) (List.pairwise_cons.mp h1).2 (List.pairwise_cons.mp h2).2]
theorem rising_pw : ∀ {r : List Str} {p : Str}, risingS p r = true → (p :: r).Pairwise fun a b => leS a b = true
  | [], p, _ => List.pairwise_singleton _ _
  | x :: r, p, h => by
    obtain ⟨h1, h2⟩ := ba (show (_ && risingS x r) = true from h)
    have t := rising_pw h2
    refine List.pairwise_cons.mpr ⟨fun y hy => ?_, t⟩
    have hpx : leS p x = true := by
      rw [ltCps_eq] at h1
      unfold leS
      rw [decide_eq_true_iff]
      exact List.not_lt.mp (by simpa using h1)
    rcases List.mem_cons.mp hy with e | hy
    · rw [e]; exact hpx
    · exact leS_trans p x y hpx ((List.pairwise_cons.mp t).1 y hy)
theorem sortedS_pw {ys : List Str} (h : sortedS ys = true) : ys.Pairwise fun a b => leS a b = true := by
  cases ys with
  | nil => exact .nil
  | cons x r => exact rising_pw h
theorem srt_of {xs ys : List Str} (p : ys.Perm xs) (h : sortedS ys = true) : ys = srt xs := pw_eq (fun _ _ => leS_anti) (p.trans (srt_perm xs).symm) (sortedS_pw h) (srt_pw xs)
theorem srt_congr {xs ys : List Str} (p : xs.Perm ys) : srt xs = srt ys := pw_eq (fun _ _ => leS_anti) ((srt_perm xs).trans (p.trans (srt_perm ys).symm)) (srt_pw xs) (srt_pw ys)
theorem srt_id {xs : List Str} (h : xs.Pairwise fun a b => leS a b = true) : srt xs = xs := pw_eq (fun _ _ => leS_anti) (srt_perm xs) (srt_pw xs) h
theorem nodup_srt {xs : List Str} (h : xs.Nodup) : (srt xs).Nodup := (srt_perm xs).nodup_iff.mpr h
/-! ### what stays -/
/-- a pen's list, a table of code objects: these change in their place -/
def Loose (o : HO) : Prop := (∃ ps, o = .tbl ps) ∨ ∃ a i j, o = .lst [.ref a, .int i, .int j]
def lamQ : Str := "Frame.__init__.<locals>.<lambda>"
structure SameX (K : Frg) (H H' : Hp) : Prop where
  keep : ∀ b o, H b = some o → (∀ ps, o ≠ .tbl ps) → H' b = some o
  tab : LamX.TabS H (tF K) lamQ → LamX.TabS H' (tF K) lamQ
theorem SameX.refl (K : Frg) (H : Hp) : SameX K H H := ⟨fun _ _ h _ => h, fun h => h⟩
theorem SameX.trans {K : Frg} {H H1 H2 : Hp} (a : SameX K H H1) (b : SameX K H1 H2) : SameX K H H2 := ⟨fun c o h n => b.keep c o (a.keep c o h n) n, fun h => b.tab (a.tab h)⟩
theorem Same.all {H H' : Hp} (s : Same H H') : ∀ b o, H b = some o → H' b = some o := fun b o h => s b o h
theorem Same.X {K : Frg} {H H' : Hp} (s : Same H H') : SameX K H H' := ⟨fun b o h _ => s b o h, fun t => t.ext fun b o h => s b o h⟩
/-- at least all but the loose things stay -/
def SameL (H H' : Hp) : Prop := ∀ b o, H b = some o → ¬ Loose o → H' b = some o
theorem SameX.L {K : Frg} {H H' : Hp} (s : SameX K H H') : SameL H H' := fun b o h n => s.keep b o h fun ps z => n (.inl ⟨ps, z⟩)
theorem Same.L {H H' : Hp} (s : Same H H') : SameL H H' := fun b o h _ => s b o h
theorem SameL.trans {H H1 H2 : Hp} (a : SameL H H1) (b : SameL H1 H2) : SameL H H2 := fun c o h n => b c o (a c o h n) n
theorem nl_tup {xs : List V} : ¬ Loose (.tup xs) := fun h => by rcases h with ⟨_, e⟩ | ⟨_, _, _, e⟩ <;> cases e
theorem nl_dK {kvs : List (Key × V)} : ¬ Loose (.dK kvs) := fun h => by rcases h with ⟨_, e⟩ | ⟨_, _, _, e⟩ <;> cases e
theorem nl_dT {kvs : List (List Key × V)} : ¬ Loose (.dT kvs) := fun h => by rcases h with ⟨_, e⟩ | ⟨_, _, _, e⟩ <;> cases e
theorem nl_ins {C dx : Addr} {fs : List (Str × V)} : ¬ Loose (.ins C dx fs) := fun h => by rcases h with ⟨_, e⟩ | ⟨_, _, _, e⟩ <;> cases e
theorem nl_frz {o : Obj} {u : HO} : ¬ Loose (.frz o u) := fun h => by rcases h with ⟨_, e⟩ | ⟨_, _, _, e⟩ <;> cases e
theorem nl_strs {xs : List Str} : ¬ Loose (.lst (vS xs)) := fun h => by
  rcases h with ⟨_, e⟩ | ⟨_, _, _, e⟩
  · cases e
  · injection e with e
    cases xs with
    | nil => cases e
    | cons x r => cases e
theorem nl_lst {xs : List V} (h : ∀ a i j, xs ≠ [.ref a, .int i, .int j]) : ¬ Loose (.lst xs) := fun q => by
  rcases q with ⟨_, e⟩ | ⟨a, i, j, e⟩
  · cases e
  · injection e with e
    exact h _ _ _ e
theorem nl_refs {as : List Addr} : ¬ Loose (.lst (as.map V.ref)) := nl_lst fun a i j e => by
  cases as with
  | nil => cases e
  | cons x r =>
    cases r with
    | nil => cases e
    | cons y t => injection e with e1 e2; cases e2
/-- a dict that was locked is open again -/
theorem same_unlock {H H' : Hp} {d : Addr} {o : Obj} {u : HO} (hd : H d = some u) (s : Same (upd H d (.frz o u)) H') : Same H (upd H' d u) := fun b v e => by
  by_cases hb : b = d
  · rw [hb, upd_same]
    rw [hb, hd] at e
    exact e
  · rw [upd_ne hb]
    exact s b v (by rw [upd_ne hb]; exact e)
/-! ### frames, words, boards, tables -/
structure Fr where
  top : Int
  gnd : Bool
  pwr : Bool
  legs : List (Str × Bool)
namespace Fr
def names (f : Fr) : List Str := f.legs.map (·.1)
def drivers (f : Fr) : List Str := (f.legs.filter (·.2)).map (·.1)
def rails (f : Fr) : List Str := (if f.gnd then [("ground" : Str)] else []) ++ (if f.pwr then [("power" : Str)] else [])
def members (f : Fr) : List Str := srt (f.names ++ f.rails)
/-- legs ascending, each once, few, no rail's name among them -/
structure Ok (f : Fr) : Prop where
  top1 : 1 ≤ f.top
  top3 : f.top ≤ 3
  asc : f.names.Pairwise fun a b => leS a b = true
  nd : f.names.Nodup
  few : f.legs.length ≤ 40
  name : ∀ n ∈ f.names, okName n = true
end Fr
abbrev clsLeg (K : Frg) (d : Bool) : Addr := ga K (if d then "Driver" else "Listener")
def LegAt (K : Frg) (H : Hp) (a : Addr) (l : Str × Bool) : Prop := ∃ dx, H a = some (.ins (clsLeg K l.2) dx [("name", .str l.1)])
/-- the legs by name -/
def LegsAt (K : Frg) (H : Hp) (L : Addr) (legs : List (Str × Bool)) (as : List Addr) : Prop :=
  H L = some (.dK ((legs.zip as).map fun p => (.inr p.1.1, .ref p.2))) ∧ Paired (fun l a => LegAt K H a l) legs as
def FrAt (K : Frg) (H : Hp) (a : Addr) (f : Fr) : Prop := ∃ dx L as, H a = some (.ins (ga K "Frame") dx [("top", .int f.top), ("ground", .bl f.gnd), ("power", .bl f.pwr), ("own_legs", .ref L)]) ∧ LegsAt K H L f.legs as ∧ f.Ok
/-- rows of levels, by name -/
def rowK (r : List (Str × Int)) : List (Key × V) := r.map fun p => (.inr p.1, .int p.2)
def WordAt (K : Frg) (H : Hp) (a fa : Addr) (r : List (Str × Int)) : Prop := ∃ dx L, H a = some (.ins (ga K "Word") dx [("frame", .ref fa), ("told", .ref L)]) ∧ H L = some (.dK (rowK r))
/-- the level at which a word drives an element: the word's row, top, the ends -/
def lvl (top : Int) (r : List (Str × Int)) (n : Str) : Int := if n = "ground" then 0 else if n = "power" then top else (r.lookup n).getD top
def TblAt (K : Frg) (H : Hp) (a fa : Addr) (rs : List (List (Str × Int))) : Prop := ∃ dx W ws, H a = some (.ins (ga K "Table") dx [("frame", .ref fa), ("own_words", .ref W)]) ∧ H W = some (.tup (ws.map V.ref)) ∧ Paired (fun w r => WordAt K H w fa r) ws rs
/-- a board: of each element its block -/
def BrdAt (K : Frg) (H : Hp) (a fa : Addr) (ms : List Str) (blk : Str → List Str) : Prop := ∃ dx L bs, H a = some (.ins (ga K "Board") dx [("frame", .ref fa), ("own_blocks", .ref L)]) ∧ H L = some (.dK ((ms.zip bs).map fun p => (.inr p.1, .ref p.2))) ∧
  Paired (fun m b => H b = some (.tup (vS (blk m)))) ms bs
/-- numbers as values, as keys -/
def vI (xs : List Int) : List V := xs.map V.int
def kI (xs : List Int) : List Key := xs.map Sum.inl
theorem vI_keys (xs : List Int) : vI xs = (kI xs).map kV := by
  rw [vI, kI, List.map_map]
  rfl
/-- a dict from elements to tuples of levels -/
def LvsAt (H : Hp) (d : Addr) (ms : List Str) (f : Str → List Int) : Prop := ∃ as : List Addr, H d = some (.dK ((ms.zip as).map fun p => (.inr p.1, .ref p.2))) ∧ Paired (fun m a => H a = some (.tup (vI (f m)))) ms as
/-- the groups: from levels to elements, in the order in which they were met -/
def GrpAt (H : Hp) (d : Addr) (gs : List (List Int × List Str)) : Prop := ∃ as : List Addr, H d = some (.dT ((gs.zip as).map fun p => (kI p.1.1, .ref p.2))) ∧ Paired (fun g a => H a = some (.tup (vS g.2))) gs as
section
variable {K : Frg} {H H' : Hp} {a fa d L : Addr}
theorem paired_imp {α β : Type} {F G : α → β → Prop} (h : ∀ a b, F a b → G a b) {l : List α} {m : List β} (p : Paired F l m) : Paired G l m := Paired.mapP p h
theorem LegAt.mono {l : Str × Bool} (s : SameL H H') (h : LegAt K H a l) : LegAt K H' a l := let ⟨dx, e⟩ := h; ⟨dx, s _ _ e nl_ins⟩
theorem LegsAt.mono {legs : List (Str × Bool)} {as : List Addr} (s : SameL H H') (h : LegsAt K H L legs as) : LegsAt K H' L legs as := ⟨s _ _ h.1 nl_dK, paired_imp (fun _ _ q => q.mono s) h.2⟩
theorem FrAt.mono {f : Fr} (s : SameL H H') (h : FrAt K H a f) : FrAt K H' a f := let ⟨dx, L, as, e, l, ok⟩ := h; ⟨dx, L, as, s _ _ e nl_ins, l.mono s, ok⟩
theorem WordAt.mono {r : List (Str × Int)} (s : SameL H H') (h : WordAt K H a fa r) : WordAt K H' a fa r := let ⟨dx, L, e, l⟩ := h; ⟨dx, L, s _ _ e nl_ins, s _ _ l nl_dK⟩
theorem TblAt.mono {rs : List (List (Str × Int))} (s : SameL H H') (h : TblAt K H a fa rs) : TblAt K H' a fa rs := let ⟨dx, W, ws, e, w, p⟩ := h; ⟨dx, W, ws, s _ _ e nl_ins, s _ _ w nl_tup, paired_imp (fun _ _ q => q.mono s) p⟩
theorem BrdAt.mono {ms : List Str} {blk : Str → List Str} (s : SameL H H') (h : BrdAt K H a fa ms blk) : BrdAt K H' a fa ms blk := let ⟨dx, L, bs, e, l, p⟩ := h; ⟨dx, L, bs, s _ _ e nl_ins, s _ _ l nl_dK, paired_imp (fun _ _ q => s _ _ q nl_tup) p⟩
theorem LvsAt.mono {ms : List Str} {f : Str → List Int} (s : SameL H H') (h : LvsAt H d ms f) : LvsAt H' d ms f := let ⟨as, e, p⟩ := h; ⟨as, s _ _ e nl_dK, paired_imp (fun _ _ q => s _ _ q nl_tup) p⟩
theorem GrpAt.mono {gs : List (List Int × List Str)} (s : SameL H H') (h : GrpAt H d gs) : GrpAt H' d gs := let ⟨as, e, p⟩ := h; ⟨as, s _ _ e nl_dT, paired_imp (fun _ _ q => s _ _ q nl_tup) p⟩
end
/-! ### looking up -/
theorem valV_zip {α : Type} {key : α → Key} {ms : List α} {as : List Addr} {F : α → Addr → Prop} (p : Paired F ms as) {m : α} (hm : m ∈ ms) (inj : ∀ x ∈ ms, key x = key m → x = m) : ∃ a, valV ((ms.zip as).map fun p => (key p.1, V.ref p.2)) (key m) = some (.ref a) ∧ F m a := by
  induction p with
  | nil => cases hm
  | @cons x a ms as h t ih =>
    by_cases e : key x = key m
    · obtain rfl : x = m := inj x List.mem_cons_self e
      exact ⟨a, valV_pos rfl, h⟩
    · rcases List.mem_cons.mp hm with e2 | hm2
      · exact absurd (congrArg key e2.symm) e
      · obtain ⟨b, h1, h2⟩ := ih hm2 fun y hy => inj y (List.mem_cons_of_mem _ hy)
        exact ⟨b, by rw [List.zip_cons_cons, List.map_cons, valV_neg e]; exact h1, h2⟩
theorem valV_zip_none {α : Type} {key : α → Key} {ms : List α} {as : List Addr} {k : Key} (h : ∀ x ∈ ms, key x ≠ k) : valV ((ms.zip as).map fun p => (key p.1, V.ref p.2)) k = none := by
  cases e : valV ((ms.zip as).map fun p => (key p.1, V.ref p.2)) k with
  | none => rfl
  | some v =>
    exfalso
    obtain ⟨p, h1, h2⟩ := List.mem_map.mp (valV_in e)
    obtain ⟨q, h3, h4⟩ := List.mem_map.mp h1
    rw [← h4] at h2
    exact h q.1 (List.of_mem_zip h3).1 h2
end Sj
set_option Elab.async false
set_option linter.all false
set_option maxRecDepth 100000
set_option maxHeartbeats 4000000
/-! SjDef1: legs; has_both_rails, has_names. -/
namespace Sj
open PySem PySem.Spec PyProof.Rows L2 He
theorem u1 {k : Nat} {A : Around} (hr : Room k A) : A.units + 1 < cLine := by
  have := hr.units
  omega
theorem all_true {α : Type} (xs : List α) : (xs.map fun _ => true).all id = true := List.all_eq_true.mpr fun b hb => by
  obtain ⟨_, _, rfl⟩ := List.mem_map.mp hb
  rfl
theorem vS_flat (xs : List Str) : (vS xs).all flatV = true := List.all_eq_true.mpr fun x hx => by
  obtain ⟨s, _, rfl⟩ := List.mem_map.mp hx
  rfl
theorem vI_flat (xs : List Int) : (vI xs).all flatV = true := List.all_eq_true.mpr fun x hx => by
  obtain ⟨s, _, rfl⟩ := List.mem_map.mp hx
  rfl
section
variable {X : Cx}
/-- x = e, x at place i -/
theorem pset (i : Nat) {x : Str} {e : Expr} {te : TE} {pos pos' : Pos} (hN : X.N.Nodup) (he : PE X e te) (hi : X.N[i]? = some x := by rfl) (hx : Loc X.env.scope x := by first | exact Or.inl rfl | exact Or.inr rfl) (hs : swapsWith e (some (.Name x pos')) pos.line X.env = pure false := by rfl)
    (hf : X.fn x = true ∨ X.env.scope.names.lookup x = some .local := by first | exact .inl rfl | exact .inr rfl) : PS X (.Assign [.Name x pos'] e pos) (tAsg te (gName i)) := ps_set hN hi hx he hs hf
/-- o.f -/
theorem pf {f : Str} {e : Expr} {ta : TE} {pos : Pos} (he : PE X e ta) (hb : attributeBase e f X.env (eval e X.env) = eval e X.env := by rfl) : PE X (.Attribute e f pos) (tFld X.K ta f) := pe_fld he hb
end
section
variable {P : Program} {w : World} {K : Frg} {mg : Str → Option Value} {base h : Heap}
def sp_Leg_init (K : Frg) : Sp := fun vs H Q _ => ∃ a C dx nm, vs = [.ref a, .str nm] ∧ H a = some (.ins C dx []) ∧ Cls K C ∧ NoAttr K C "name" ∧ okName nm = true ∧ ∀ H', Same H H' → Q .non (upd H' a (.ins C dx [("name", .str nm)]))
theorem fn_Leg_init (T : Txt K mg h) : Fn0 P w K mg base 2 (d_Leg_init.loc K) (sp_Leg_init K) := by
  refine mkFn T.d_Leg_init sc_Leg_init rfl (fun _ _ _ _ _ _ us hl => match us, hl with | [_, _], _ => rfl) (fun vs H Q E h => ?_) (fun cdv A outer s H vs Q E hr h => ?_)
  · obtain ⟨a, C, dx, nm, rfl, _⟩ := h
    rfl
  · obtain ⟨a, C, dx, nm, rfl, ha, hc, hn, hk, q⟩ := h
    refine ⟨_, pss_cons (ps_if (pt_not (pt_val (pc (ok_is_name T) hr (pa_cons (pv 1) pa_nil)))) pss_never pss_nil) (pss_one (ps_fld (pv 0) (pv 1) (by rfl))), ?_⟩
    refine ⟨_, rfl, nm, rfl, hk, fun H' s => ⟨true, rfl, iteF ⟨_, rfl, _, rfl, a, C, dx, [], rfl, s _ _ ha, hc, hn, by decide, q H' s⟩⟩⟩
theorem k_Leg (T : Txt K mg h) (d : Bool) : KF P w K mg base (clsLeg K d) 2 (sp_Leg_init K) := by
  cases d with
  | true => exact ⟨_, T.mkDriver, fn_Leg_init T⟩
  | false => exact ⟨_, T.mkListener, by rw [T.same_init]; exact fn_Leg_init T⟩
theorem leg_cls (T : Txt K mg h) (d : Bool) : Cls K (clsLeg K d) ∧ NoAttr K (clsLeg K d) "name" := by
  cases d with
  | true => exact ⟨T.kDriver, T.nDriver_name⟩
  | false => exact ⟨T.kListener, T.nListener_name⟩
def sp_Leg_drives (K : Frg) : Sp := fun vs H Q _ => ∃ a l, vs = [.ref a] ∧ LegAt K H a l ∧ Q (.bl l.2) H
theorem fn_Leg_drives (T : Txt K mg h) : Fn0 P w K mg base 1 (d_Leg_drives.loc K) (sp_Leg_drives K) := by
  obtain ⟨u1, o1⟩ := T.oDriver_KIND
  obtain ⟨u2, o2⟩ := T.oListener_KIND
  refine mkFn T.d_Leg_drives sc_Leg_drives rfl (fun _ _ _ _ _ _ us hl => match us, hl with | [_], _ => rfl) (fun vs H Q E h => ?_) (fun cdv A outer s H vs Q E hr h => ?_)
  · obtain ⟨a, l, rfl, _⟩ := h
    rfl
  · obtain ⟨a, ⟨nm, d⟩, rfl, ⟨dx, ha⟩, q⟩ := h
    refine ⟨_, pss_one (ps_ret (pe_cmpR op_eq (pe_con (pv 0) (by rfl)) pe_str (by rfl))), ?_⟩
    cases d with
    | true => exact ⟨_, rfl, a, _, dx, _, .str "driver", u1, rfl, ha, T.kDriver, o1, rfl, rfl, by
        have e : decide (V.str "driver" = V.str "driver") = true := decide_eq_true rfl
        rw [e]
        exact q⟩
    | false => exact ⟨_, rfl, a, _, dx, _, .str "listener", u2, rfl, ha, T.kListener, o2, rfl, rfl, by
        have e : decide (V.str "listener" = V.str "driver") = false := decide_eq_false (fun z => by injection z with z; exact absurd z (by decide +kernel))
        rw [e]
        exact q⟩
theorem pr_Leg_drives (T : Txt K mg h) (d : Bool) : PF P w K mg base (clsLeg K d) "drives" 1 (sp_Leg_drives K) := by
  cases d with
  | true => exact ⟨T.kDriver, _, _, T.pDriver_drives, fn_Leg_drives T⟩
  | false =>
    refine ⟨T.kListener, _, _, T.pListener_drives, ?_⟩
    rw [T.same_drives]
    exact fn_Leg_drives T
def sp_has_both_rails (K : Frg) : Sp := fun vs H Q _ => ∃ a xs, vs = [.ref a] ∧ SqL K H a (vS xs) ∧ Q (.bl (decide (("ground" : Str) ∈ xs) && decide (("power" : Str) ∈ xs))) H
theorem ok_has_both_rails (T : Txt K mg h) : GF P w K mg base "has_both_rails" 1 (sp_has_both_rails K) := by
  obtain ⟨tG, gG⟩ := T.vGROUND
  obtain ⟨tP, gP⟩ := T.vPOWER
  refine ⟨_, T.g_has_both_rails, keepX T.d_has_both_rails, mkFn T.d_has_both_rails sc_has_both_rails rfl (fun _ _ _ _ _ _ us hl => match us, hl with | [_], _ => rfl) (fun vs H Q E h => ?_) (fun cdv A outer s H vs Q E hr h => ?_)⟩
  · obtain ⟨a, xs, rfl, _⟩ := h
    rfl
  · obtain ⟨a, xs, rfl, ha, q⟩ := h
    refine ⟨_, pss_one (ps_ret (pe_and (pe_cmpR op_in_seq (pe_glob (v := .str "ground") (by rfl) gG ⟨_, rfl⟩) (pv 0) (by rfl)) (pe_one (pe_cmpR op_in_seq (pe_glob (v := .str "power") (by rfl) gP ⟨_, rfl⟩) (pv 0) (by rfl))))), ?_⟩
    refine ⟨_, rfl, a, _, rfl, .inl ha, rfl, vS_flat xs, ?_⟩
    rw [inV_strs]
    refine ⟨_, rfl, ?_⟩
    by_cases hg : ("ground" : Str) ∈ xs
    · rw [decide_eq_true hg] at q ⊢
      refine iteT ⟨_, rfl, a, _, rfl, .inl ha, rfl, vS_flat xs, ?_⟩
      rw [inV_strs]
      exact q
    · rw [decide_eq_false hg] at q ⊢
      exact iteF q
/-- a dict whose keys are these names, with values by name -/
def nmK (ns : List Str) (g : Str → V) : List (Key × V) := ns.map fun n => (.inr n, g n)
theorem valV_nm {ns : List Str} {g : Str → V} {n : Str} (h : n ∈ ns) : valV (nmK ns g) (.inr n) = some (g n) := by
  induction ns with
  | nil => cases h
  | cons m r ih =>
    show valV ((Sum.inr m, g m) :: nmK r g) (.inr n) = _
    by_cases e : m = n
    · subst e
      rw [valV_pos rfl]
    · rw [valV_neg (fun z => e (Sum.inr.inj z))]
      exact ih ((List.mem_cons.mp h).resolve_left fun z => e z.symm)
theorem valV_nm_none {ns : List Str} {g : Str → V} {n : Str} (h : n ∉ ns) : valV (nmK ns g) (.inr n) = none := by
  cases e : valV (nmK ns g) (.inr n) with
  | none => rfl
  | some v =>
    exfalso
    obtain ⟨p, h1, h2⟩ := List.mem_map.mp (valV_in e)
    obtain ⟨m, h3, h4⟩ := List.mem_map.mp h1
    rw [← h4] at h2
    exact h (by rw [← Sum.inr.inj h2]; exact h3)
def sp_has_names (K : Frg) : Sp := fun vs H Q _ => ∃ t d ns g, vs = [.ref t, .ref d] ∧ SqT K H t (vS ns) ∧ H d = some (.dK (nmK ns g)) ∧ ns.length ≤ 1000 ∧ ∀ H', Same H H' → Q (.bl true) H'
theorem ok_has_names (T : Txt K mg h) : GF P w K mg base "has_names" 1 (sp_has_names K) := by
  refine ⟨_, T.g_has_names, keepX T.d_has_names, mkFn T.d_has_names sc_has_names rfl (fun _ _ _ _ _ _ us hl => match us, hl with | [_, _], _ => rfl) (fun vs H Q E h => ?_) (fun cdv A outer s H vs Q E hr h => ?_)⟩
  · obtain ⟨t, d, ns, g, rfl, _⟩ := h
    rfl
  · obtain ⟨t, d, ns, g, rfl, ht, hd, hz, q⟩ := h
    refine ⟨_, pss_one (ps_ret (pe_and (pe_callB call_isi (by rfl) T.b_isinstance bt_isinstance (pa_cons (pv 1) (pa_cons (pe_bltn (v := .ty "dict") (by rfl) T.b_dict bt_dict rfl) pa_nil)))
      (pe_and (pe_cmpR op_eq (pe_callB call_lenD (by rfl) T.b_len bt_len (pa_cons (pv 1) pa_nil)) (pe_callB call_len (by rfl) T.b_len bt_len (pa_cons (pv 0) pa_nil)) (by rfl))
        (pe_one (pe_callB (cr_all rfl) (by rfl) T.b_all bt_all (pa_cons (plc 2 sc_has_names.nd (pi_tup (pv 0)) (fun _ _ _ _ _ => pe_cmp (pc_din (u1 hr) (pv 2) (pv 1)))) pa_nil)))))), ?_⟩
    refine ⟨_, rfl, _, _, _, _, true, rfl, .ty "dict", .base (.dK hd), kit_ty (by decide +kernel), true, rfl, iteT ?_⟩
    refine ⟨_, rfl, d, _, rfl, hd, _, rfl, _, _, rfl, .inr ⟨_, ht, rfl⟩, rfl, ?_⟩
    have e : decide (V.int ((nmK ns g).length : Nat) = V.int ((vS ns).length : Nat)) = true := by
      rw [decide_eq_true_iff, nmK, vS, List.length_map, List.length_map]
    rw [e]
    refine ⟨true, rfl, iteT ?_⟩
    refine ⟨_, rfl, t, rfl, ⟨_, ht⟩, fun D hD => lcv walk_tup (fun _ => .bl true) hD (fun H' s => SqT.ext ht s) (by rw [vS, List.length_map]; exact hz) (fun _ => rfl) (fun x hx H2 s2 Q2 q2 => ?_) fun H2 s2 hd2 => ?_⟩
    · obtain ⟨n, hn, rfl⟩ := List.mem_map.mp hx
      refine ⟨_, rfl, _, rfl, d, _, rfl, DGet.k (k := .inr n) (s2 _ _ hd), ?_⟩
      rw [valV_nm hn]
      exact q2 H2 (Same.refl _)
    · refine ⟨D, ns.map fun _ => true, rfl, SqL.of (by rw [hd2, vS, List.map_map, List.map_map]; rfl), ?_⟩
      rw [all_true]
      exact q H2 s2
end
end Sj
set_option Elab.async false
set_option linter.all false
set_option maxRecDepth 100000
set_option maxHeartbeats 4000000
/-! SjUtil: short rules. -/
namespace Sj
open PySem PySem.Spec PyProof.Rows L2 He
section
variable {X : Cx} {elt iter : Expr} {x y : Str} {px py pt pos : Pos} {k2 : Nat} {scope : Scope} {wi : TI} {te : TE} {c : Expr} {tc : TT}
/-- [elt for x, y in iter] -/
theorem plp (i j : Nat) (hN : X.N.Nodup) (hi : PI X (.Tuple [.Name x px, .Name y py] k2 pt) iter wi) (he : ∀ (s : Shared) (H : Hp) (C : Addr) (cl : List (Str × Addr)) (fp : List Addr), PE (X.blk s H scope (compEnvC scope cl C X.env) fp) elt te)
    (ok : blkC X.N X.env.scope scope [(x, i), (y, j)] = true := by kernel_rfl) (hc : X.calm = true := by rfl) (h1 : X.N[i]? = some x := by rfl) (h1y : X.N[j]? = some y := by rfl)
    (h2 : ∀ (s : Shared) (H : Hp) (C : Addr) (cl : List (Str × Addr)) (fp : List Addr), L2.Loc (X.blk s H scope (compEnvC scope cl C X.env) fp).env.scope x := by intro _ _ _ _ _; first | exact Or.inl rfl | exact Or.inr rfl)
    (h2y : ∀ (s : Shared) (H : Hp) (C : Addr) (cl : List (Str × Addr)) (fp : List Addr), L2.Loc (X.blk s H scope (compEnvC scope cl C X.env) fp).env.scope y := by intro _ _ _ _ _; first | exact Or.inl rfl | exact Or.inr rfl)
    (h3 : ∀ (s : Shared) (H : Hp) (C : Addr) (cl : List (Str × Addr)) (fp : List Addr), (X.blk s H scope (compEnvC scope cl C X.env) fp).fn x = true ∨ (X.blk s H scope (compEnvC scope cl C X.env) fp).env.scope.names.lookup x = some .local := by intro _ _ _ _ _; first | exact Or.inl rfl | exact Or.inr rfl)
    (h3y : ∀ (s : Shared) (H : Hp) (C : Addr) (cl : List (Str × Addr)) (fp : List Addr), (X.blk s H scope (compEnvC scope cl C X.env) fp).fn y = true ∨ (X.blk s H scope (compEnvC scope cl C X.env) fp).env.scope.names.lookup y = some .local := by intro _ _ _ _ _; first | exact Or.inl rfl | exact Or.inr rfl)
    (hs : ∀ x, foldedSetIterable iter X.env x = pure x := by intro _; rfl) :
    PE X (.ListComp elt [⟨.Tuple [.Name x px, .Name y py] k2 pt, iter, [], 0⟩] scope pos) (tLc wi (g2 X.K i j) tYes te [i, j]) :=
  pe_lc (own := [(x, i), (y, j)]) hc hN hi (blkOk_by ok) (fun s H C cl fp => pg_tup hc (pgs_cons (pg_name (X := X.blk s H scope (compEnvC scope cl C X.env) fp) (i := i) hN h1 (h2 s H C cl fp) (h3 s H C cl fp)) (pgs_cons (pg_name (X := X.blk s H scope (compEnvC scope cl C X.env) fp) (i := j) hN h1y (h2y s H C cl fp) (h3y s H C cl fp)) pgs_nil))) (fun _ _ _ _ _ => pts_nil) he hs
/-- [elt for x, y in iter if c] -/
theorem plpIf (i j : Nat) (hN : X.N.Nodup) (hi : PI X (.Tuple [.Name x px, .Name y py] k2 pt) iter wi) (ht : ∀ (s : Shared) (H : Hp) (C : Addr) (cl : List (Str × Addr)) (fp : List Addr), PT (X.blk s H scope (compEnvC scope cl C X.env) fp) c tc)
    (he : ∀ (s : Shared) (H : Hp) (C : Addr) (cl : List (Str × Addr)) (fp : List Addr), PE (X.blk s H scope (compEnvC scope cl C X.env) fp) elt te)
    (ok : blkC X.N X.env.scope scope [(x, i), (y, j)] = true := by kernel_rfl) (hc : X.calm = true := by rfl) (h1 : X.N[i]? = some x := by rfl) (h1y : X.N[j]? = some y := by rfl)
    (h2 : ∀ (s : Shared) (H : Hp) (C : Addr) (cl : List (Str × Addr)) (fp : List Addr), L2.Loc (X.blk s H scope (compEnvC scope cl C X.env) fp).env.scope x := by intro _ _ _ _ _; first | exact Or.inl rfl | exact Or.inr rfl)
    (h2y : ∀ (s : Shared) (H : Hp) (C : Addr) (cl : List (Str × Addr)) (fp : List Addr), L2.Loc (X.blk s H scope (compEnvC scope cl C X.env) fp).env.scope y := by intro _ _ _ _ _; first | exact Or.inl rfl | exact Or.inr rfl)
    (h3 : ∀ (s : Shared) (H : Hp) (C : Addr) (cl : List (Str × Addr)) (fp : List Addr), (X.blk s H scope (compEnvC scope cl C X.env) fp).fn x = true ∨ (X.blk s H scope (compEnvC scope cl C X.env) fp).env.scope.names.lookup x = some .local := by intro _ _ _ _ _; first | exact Or.inl rfl | exact Or.inr rfl)
    (h3y : ∀ (s : Shared) (H : Hp) (C : Addr) (cl : List (Str × Addr)) (fp : List Addr), (X.blk s H scope (compEnvC scope cl C X.env) fp).fn y = true ∨ (X.blk s H scope (compEnvC scope cl C X.env) fp).env.scope.names.lookup y = some .local := by intro _ _ _ _ _; first | exact Or.inl rfl | exact Or.inr rfl)
    (hs : ∀ x, foldedSetIterable iter X.env x = pure x := by intro _; rfl) :
    PE X (.ListComp elt [⟨.Tuple [.Name x px, .Name y py] k2 pt, iter, [c], 0⟩] scope pos) (tLc wi (g2 X.K i j) tc te [i, j]) :=
  pe_lc (own := [(x, i), (y, j)]) hc hN hi (blkOk_by ok) (fun s H C cl fp => pg_tup hc (pgs_cons (pg_name (X := X.blk s H scope (compEnvC scope cl C X.env) fp) (i := i) hN h1 (h2 s H C cl fp) (h3 s H C cl fp)) (pgs_cons (pg_name (X := X.blk s H scope (compEnvC scope cl C X.env) fp) (i := j) hN h1y (h2y s H C cl fp) (h3y s H C cl fp)) pgs_nil))) (fun s H C cl fp => pts_one (ht s H C cl fp)) he hs
end
section
variable {X : Cx} {K : Frg} {h : Heap} {e : Expr} {te t1 t2 : TE} {p pos : Pos}
theorem pe_orE (h1 : PE X e t1) (h2 : PE X e t2) : PE X e (fun σ H Q => t1 σ H Q ∨ t2 σ H Q) := ⟨fun pins s σ H Q I h => h.elim (h1.run pins s σ H Q I) (h2.run pins s σ H Q I)⟩
/-- sorted(texts) -/
def rSrt (K : Frg) : List V → Hp → VK → Prop := fun vs H Q => ∃ (a : Addr) (xs : List Str), vs = [V.ref a] ∧ SqL K H a (vS xs) ∧ xs.length < 64 ∧ ∀ p, H p = none → Q (.ref p) (upd H p (.lst (vS (srt xs))))
theorem cr_srt : CallR X (.builtin "sorted") (rSrt X.K) := by
  intro pins s σ H vs us Q I r h
  obtain ⟨a, xs, rfl, hs, hz, q⟩ := h
  refine cr_sortedS pins s σ H _ us Q I r ⟨a, xs, rfl, hs, hz, fun ys p pr so hp => ?_⟩
  rw [srt_of pr so]
  exact q p hp
theorem psrt (T : Txt K X.mg h) (he : PE X e te) (hg : Gl X "sorted" := by rfl) (hs : starEach [e] X.env = (false, eval e X.env) :: starEach [] X.env := by rfl) (hK : X.K = K := by rfl) : PE X (.Call (.Name "sorted" p) [e] [] pos) (tCB (rSrt K) (tCons te tNil)) := by
  subst hK
  exact pe_callB cr_srt hg T.b_sorted bt_sorted (pa_cons he pa_nil hs) (by decide) (by decide) hs
/-- tuple(list) -/
def rTupL (K : Frg) : List V → Hp → VK → Prop := fun vs H Q => ∃ (a : Addr) (xs : List V), vs = [V.ref a] ∧ SqL K H a xs ∧ ∀ p, H p = none → Q (.ref p) (upd H p (.tup xs))
theorem cr_tupL : CallR X (.type "tuple") (rTupL X.K) := by
  intro pins s σ H vs us Q I r h
  obtain ⟨a, xs, rfl, hs, q⟩ := h
  exact call_tuple_of pins s σ H _ us Q I r ⟨a, xs, rfl, .inl ⟨hs, q⟩⟩
theorem ptup (T : Txt K X.mg h) (he : PE X e te) (hg : Gl X "tuple" := by rfl) (hs : starEach [e] X.env = (false, eval e X.env) :: starEach [] X.env := by rfl) (hK : X.K = K := by rfl) : PE X (.Call (.Name "tuple" p) [e] [] pos) (tCB (rTupL K) (tCons te tNil)) := by
  subst hK
  exact pe_callTy cr_tupL hg T.b_tuple bt_tuple (pa_cons he pa_nil hs) (by decide) (by decide) hs
theorem pall (T : Txt K X.mg h) (he : PE X e te) (hc : X.calm = true := by rfl) (hg : Gl X "all" := by rfl) (hs : starEach [e] X.env = (false, eval e X.env) :: starEach [] X.env := by rfl) (hK : X.K = K := by rfl) : PE X (.Call (.Name "all" p) [e] [] pos) (tCB (rAll K) (tCons te tNil)) := by
  subst hK
  exact pe_callB (cr_all hc) hg T.b_all bt_all (pa_cons he pa_nil hs) (by decide) (by decide) hs
theorem pany (T : Txt K X.mg h) (he : PE X e te) (hc : X.calm = true := by rfl) (hg : Gl X "any" := by rfl) (hs : starEach [e] X.env = (false, eval e X.env) :: starEach [] X.env := by rfl) (hK : X.K = K := by rfl) : PE X (.Call (.Name "any" p) [e] [] pos) (tCB (rAny K) (tCons te tNil)) := by
  subst hK
  exact pe_callB (cr_any hc) hg T.b_any bt_any (pa_cons he pa_nil hs) (by decide) (by decide) hs
/-- len(list or tuple) -/
theorem plen (T : Txt K X.mg h) (he : PE X e te) (hg : Gl X "len" := by rfl) (hs : starEach [e] X.env = (false, eval e X.env) :: starEach [] X.env := by rfl) (hK : X.K = K := by rfl) : PE X (.Call (.Name "len" p) [e] [] pos) (tCB (fun xs H Q => ∃ p ys, xs = [.ref p] ∧ (SqL K H p ys ∨ SqT K H p ys) ∧ Q (.int ys.length) H) (tCons te tNil)) := by
  subst hK
  exact pe_callB call_len_seq hg T.b_len bt_len (pa_cons he pa_nil hs) (by decide) (by decide) hs
/-- len(set) -/
theorem plenS (T : Txt K X.mg h) (he : PE X e te) (hg : Gl X "len" := by rfl) (hs : starEach [e] X.env = (false, eval e X.env) :: starEach [] X.env := by rfl) (hK : X.K = K := by rfl) : PE X (.Call (.Name "len" p) [e] [] pos) (tCB (rLenSK X.prog X.w) (tCons te tNil)) := by
  subst hK
  exact pe_callB cr_lenSK hg T.b_len bt_len (pa_cons he pa_nil hs) (by decide) (by decide) hs
theorem pint (T : Txt K X.mg h) (he : PE X e te) (hg : Gl X "int" := by rfl) (hs : starEach [e] X.env = (false, eval e X.env) :: starEach [] X.env := by rfl) (hK : X.K = K := by rfl) : PE X (.Call (.Name "int" p) [e] [] pos) (tCB (fun xs H Q => (∃ i, xs = [.int i] ∧ Q (.int i) H) ∨ ∃ k, xs = [.bl k] ∧ Q (.int (if k then 1 else 0)) H) (tCons te tNil)) := by
  subst hK
  exact pe_callTy call_int1 hg T.b_int bt_int (pa_cons he pa_nil hs) (by decide) (by decide) hs
/-- list(list or tuple) -/
theorem plist (T : Txt K X.mg h) (he : PE X e te) (hg : Gl X "list" := by rfl) (hs : starEach [e] X.env = (false, eval e X.env) :: starEach [] X.env := by rfl) (hK : X.K = K := by rfl) : PE X (.Call (.Name "list" p) [e] [] pos) (tCB (fun xs H Q => ∃ p ys, xs = [.ref p] ∧ (SqL K H p ys ∨ SqT K H p ys) ∧ ∀ l, H l = none → Q (.ref l) (upd H l (.lst ys))) (tCons te tNil)) := by
  subst hK
  exact pe_callTy call_list_of hg T.b_list bt_list (pa_cons he pa_nil hs) (by decide) (by decide) hs
/-- isinstance(e, str), isinstance(e, (list, tuple)) -/
theorem pisi {e2 : Expr} {t2 : TE} (T : Txt K X.mg h) (he : PE X e te) (h2 : PE X e2 t2) (hg : Gl X "isinstance" := by rfl) (hs2 : starEach [e2] X.env = (false, eval e2 X.env) :: starEach [] X.env := by rfl) (hs : starEach [e, e2] X.env = (false, eval e X.env) :: starEach [e2] X.env := by rfl)
    (hpl : (backTo pos (starEach [e2] X.env)).any (·.1) = false := by rfl) (hK : X.K = K := by rfl) : PE X (.Call (.Name "isinstance" p) [e, e2] [] pos) (tCB (rIsi K) (tCons te (tCons t2 tNil))) := by
  subst hK
  exact pe_callB call_isi hg T.b_isinstance bt_isinstance (pa_cons he (pa_cons h2 pa_nil hs2) hs) (by decide) (by decide) hs hpl
theorem pfK (K : Frg) {f : Str} (he : PE X e te) (hK : X.K = K := by rfl) (hb : attributeBase e f X.env (eval e X.env) = eval e X.env := by rfl) : PE X (.Attribute e f pos) (tFld K te f) := by
  subst hK
  exact pe_fld he hb
end
/-! ### == of flat tuples and lists -/
theorem eqv_strs : ∀ xs ys : List Str, PyData.eqvAll (xs.map .str) (ys.map .str) = decide (xs = ys)
  | [], [] => by simp [PyData.eqvAll]
  | [], y :: ys => by simp [PyData.eqvAll]
  | x :: xs, [] => by simp [PyData.eqvAll]
  | x :: xs, y :: ys => by
    rw [List.map_cons, List.map_cons, PyData.eqvAll, eqv_strs xs ys, PyData.eqv, Bool.eq_iff_iff]
    simp
theorem eqv_ints : ∀ xs ys : List Int, PyData.eqvAll (xs.map .int) (ys.map .int) = decide (xs = ys)
  | [], [] => by simp [PyData.eqvAll]
  | [], y :: ys => by simp [PyData.eqvAll]
  | x :: xs, [] => by simp [PyData.eqvAll]
  | x :: xs, y :: ys => by
    rw [List.map_cons, List.map_cons, PyData.eqvAll, eqv_ints xs ys, PyData.eqv, Bool.eq_iff_iff]
    simp
theorem eqv_dTs : ∀ xs ys : List (List Str), PyData.eqvAll (xs.map dT) (ys.map dT) = decide (xs = ys)
  | [], [] => by simp [PyData.eqvAll]
  | [], y :: ys => by simp [PyData.eqvAll]
  | x :: xs, [] => by simp [PyData.eqvAll]
  | x :: xs, y :: ys => by
    rw [List.map_cons, List.map_cons, PyData.eqvAll, eqv_dTs xs ys, dT, dT, PyData.eqv, eqv_strs, Bool.eq_iff_iff]
    simp
theorem dpS {K : Frg} {H : Hp} : ∀ xs : List Str, DpAll K H (vS xs) (xs.map .str)
  | [] => .nil
  | x :: xs => .cons (.str x) (dpS xs)
theorem dpI {K : Frg} {H : Hp} : ∀ xs : List Int, DpAll K H (vI xs) (xs.map .int)
  | [] => .nil
  | x :: xs => .cons (.int x) (dpI xs)
end Sj
set_option Elab.async false
set_option linter.all false
set_option maxRecDepth 100000
set_option maxHeartbeats 4000000
/-! SjUtil2: == and != of tuples and lists of texts, of numbers. -/
namespace Sj
open PySem PySem.Spec PyProof.Rows L2 He
/-- a name or a rail -/
def okS (s : Str) : Bool := okName s || (decide (s = "ground") || decide (s = "power"))
theorem lettersS_lt : (lettersS.cps.toList.all fun c => decide (c < 0x110000)) = true := by decide +kernel
theorem strOk_name {s : Str} (h : okName s = true) : PyData.strOk s = true := by
  unfold okName at h
  obtain ⟨_, h2⟩ := ba h
  obtain ⟨h3, _⟩ := ba h2
  unfold PyData.strOk
  rw [← Array.all_toList]
  refine List.all_eq_true.mpr fun c hc => ?_
  have h4 := of_decide_eq_true (List.all_eq_true.mp h3 c hc)
  exact List.all_eq_true.mp lettersS_lt c h4
theorem strOk_s {s : Str} (h : okS s = true) : PyData.strOk s = true := by
  unfold okS at h
  rcases Bool.or_eq_true_iff.mp h with h | h
  · exact strOk_name h
  · rcases Bool.or_eq_true_iff.mp h with h | h
    · rw [of_decide_eq_true h]; decide +kernel
    · rw [of_decide_eq_true h]; decide +kernel
def AllS (xs : List Str) : Prop := ∀ s ∈ xs, okS s = true
theorem lay_strs : ∀ {xs : List Str}, AllS xs → PyData.canLayAll0 (xs.map .str) = true
  | [], _ => by simp [PyData.canLayAll0]
  | x :: xs, h => by
    rw [List.map_cons, PyData.canLayAll0, lay_strs fun s hs => h s (List.mem_cons_of_mem _ hs), Bool.and_true, PyData.canLay0]
    exact strOk_s (h x List.mem_cons_self)
theorem lay_ints : ∀ xs : List Int, PyData.canLayAll0 (xs.map .int) = true
  | [] => by simp [PyData.canLayAll0]
  | x :: xs => by
    rw [List.map_cons, PyData.canLayAll0, lay_ints xs, Bool.and_true, PyData.canLay0]
theorem lay_dTs : ∀ {gs : List (List Str)}, (∀ g ∈ gs, AllS g) → PyData.canLayAll0 (gs.map dT) = true
  | [], _ => by simp [PyData.canLayAll0]
  | x :: xs, h => by
    rw [List.map_cons, PyData.canLayAll0, lay_dTs fun s hs => h s (List.mem_cons_of_mem _ hs), Bool.and_true, dT, PyData.canLay0]
    exact lay_strs (h x List.mem_cons_self)
theorem depth_ints : ∀ xs : List Int, PyData.depthAll (xs.map .int) = 0
  | [] => by simp [PyData.depthAll]
  | x :: xs => by
    rw [List.map_cons, PyData.depthAll, depth_ints xs]
    simp [PyData.depth]
def seqD (t : Bool) (ds : List PyData) : PyData := if t = true then .tuple ds else .list ds
theorem shaped_of {t : Bool} {ds : List PyData} (h : PyData.canLayAll0 ds = true) (hd : PyData.depthAll ds ≤ 2) : SeqAt.shaped (seqD t ds) = true := by
  unfold SeqAt.shaped seqD
  cases t
  · rw [if_neg Bool.false_ne_true, PyData.canLay0, h, Bool.true_and, decide_eq_true_iff, PyData.depth]; omega
  · rw [if_pos rfl, PyData.canLay0, h, Bool.true_and, decide_eq_true_iff, PyData.depth]; omega
def SqB (t : Bool) (K : Frg) (H : Hp) (a : Addr) (xs : List V) : Prop := if t = true then SqT K H a xs else SqL K H a xs
theorem dp_of {t : Bool} {K : Frg} {H : Hp} {a : Addr} {xs : List V} {ds : List PyData} (h : SqB t K H a xs) (d : DpAll K H xs ds) : Dp K H (.ref a) (seqD t ds) := by
  cases t
  · exact .lst h d
  · exact .tup h d
theorem eqv_seqD {t : Bool} {ds es : List PyData} : PyData.eqv (seqD t ds) (seqD t es) = PyData.eqvAll ds es := by
  cases t
  · show PyData.eqv (.list ds) (.list es) = _
    rw [PyData.eqv]
  · show PyData.eqv (.tuple ds) (.tuple es) = _
    rw [PyData.eqv]
/-- texts -/
def rEqS (t : Bool) (K : Frg) : R2 := fun x y H Q => ∃ (a b : Addr) (xs ys : List Str), x = .ref a ∧ y = .ref b ∧ SqB t K H a (vS xs) ∧ SqB t K H b (vS ys) ∧ AllS xs ∧ AllS ys ∧ Q (.bl (decide (xs = ys))) H
def rNeS (t : Bool) (K : Frg) : R2 := fun x y H Q => ∃ (a b : Addr) (xs ys : List Str), x = .ref a ∧ y = .ref b ∧ SqB t K H a (vS xs) ∧ SqB t K H b (vS ys) ∧ AllS xs ∧ AllS ys ∧ Q (.bl (!decide (xs = ys))) H
def rEqI (t : Bool) (K : Frg) : R2 := fun x y H Q => ∃ (a b : Addr) (xs ys : List Int), x = .ref a ∧ y = .ref b ∧ SqB t K H a (vI xs) ∧ SqB t K H b (vI ys) ∧ Q (.bl (decide (xs = ys))) H
def rNeI (t : Bool) (K : Frg) : R2 := fun x y H Q => ∃ (a b : Addr) (xs ys : List Int), x = .ref a ∧ y = .ref b ∧ SqB t K H a (vI xs) ∧ SqB t K H b (vI ys) ∧ Q (.bl (!decide (xs = ys))) H
/-- lists of tuples of texts -/
def TupsAt (K : Frg) (H : Hp) (as : List Addr) (gs : List (List Str)) : Prop := Paired (fun g a => SqT K H a (vS g)) gs as
def rNeTT (K : Frg) : R2 := fun x y H Q => ∃ (a b : Addr) (as bs : List Addr) (xs ys : List (List Str)), x = .ref a ∧ y = .ref b ∧ SqL K H a (as.map V.ref) ∧ SqL K H b (bs.map V.ref) ∧ TupsAt K H as xs ∧ TupsAt K H bs ys ∧ (∀ g ∈ xs, AllS g) ∧ (∀ g ∈ ys, AllS g) ∧ Q (.bl (!decide (xs = ys))) H
theorem dpTT {K : Frg} {H : Hp} : ∀ {as : List Addr} {gs : List (List Str)}, TupsAt K H as gs → DpAll K H (as.map V.ref) (gs.map dT)
  | _, _, .nil => .nil
  | _, _, .cons h t => .cons (.tup h (dpS _)) (dpTT t)
section
variable {X : Cx} {K : Frg} {k : Nat}
theorem u64 (hr : Room k X.A) : X.A.units + 64 < cLine := by
  have := hr.un
  omega
theorem op_eqS (t : Bool) (hr : Room k X.A) (hK : X.K = K := by rfl) : OpR X (compareOp .Eq) (rEqS t K) := by
  subst hK
  intro pins s σ H x y v u Q I rx ry ⟨a, b, xs, ys, e1, e2, h1, h2, h3, h4, q⟩
  subst e1 e2
  refine op_eqD (u64 hr) pins s σ H _ _ v u Q I rx ry ⟨_, _, dp_of h1 (dpS xs), dp_of h2 (dpS ys), shaped_of (lay_strs h3) (by rw [depth_strs]; omega), shaped_of (lay_strs h4) (by rw [depth_strs]; omega), ?_⟩
  rw [eqv_seqD, eqv_strs]
  exact q
theorem op_neS (t : Bool) (hr : Room k X.A) (hK : X.K = K := by rfl) : OpR X (compareOp .NotEq) (rNeS t K) := by
  subst hK
  intro pins s σ H x y v u Q I rx ry ⟨a, b, xs, ys, e1, e2, h1, h2, h3, h4, q⟩
  subst e1 e2
  refine op_neD (u64 hr) pins s σ H _ _ v u Q I rx ry ⟨_, _, dp_of h1 (dpS xs), dp_of h2 (dpS ys), shaped_of (lay_strs h3) (by rw [depth_strs]; omega), shaped_of (lay_strs h4) (by rw [depth_strs]; omega), ?_⟩
  rw [eqv_seqD, eqv_strs]
  exact q
theorem op_eqI (t : Bool) (hr : Room k X.A) (hK : X.K = K := by rfl) : OpR X (compareOp .Eq) (rEqI t K) := by
  subst hK
  intro pins s σ H x y v u Q I rx ry ⟨a, b, xs, ys, e1, e2, h1, h2, q⟩
  subst e1 e2
  refine op_eqD (u64 hr) pins s σ H _ _ v u Q I rx ry ⟨_, _, dp_of h1 (dpI xs), dp_of h2 (dpI ys), shaped_of (lay_ints xs) (by rw [depth_ints]; omega), shaped_of (lay_ints ys) (by rw [depth_ints]; omega), ?_⟩
  rw [eqv_seqD, eqv_ints]
  exact q
theorem op_neI (t : Bool) (hr : Room k X.A) (hK : X.K = K := by rfl) : OpR X (compareOp .NotEq) (rNeI t K) := by
  subst hK
  intro pins s σ H x y v u Q I rx ry ⟨a, b, xs, ys, e1, e2, h1, h2, q⟩
  subst e1 e2
  refine op_neD (u64 hr) pins s σ H _ _ v u Q I rx ry ⟨_, _, dp_of h1 (dpI xs), dp_of h2 (dpI ys), shaped_of (lay_ints xs) (by rw [depth_ints]; omega), shaped_of (lay_ints ys) (by rw [depth_ints]; omega), ?_⟩
  rw [eqv_seqD, eqv_ints]
  exact q
theorem op_neTT (hr : Room k X.A) (hK : X.K = K := by rfl) : OpR X (compareOp .NotEq) (rNeTT K) := by
  subst hK
  intro pins s σ H x y v u Q I rx ry ⟨a, b, as, bs, xs, ys, e1, e2, h1, h2, h3, h4, h5, h6, q⟩
  subst e1 e2
  refine op_neD (u64 hr) pins s σ H _ _ v u Q I rx ry ⟨_, _, dp_of (t := false) h1 (dpTT h3), dp_of (t := false) h2 (dpTT h4), shaped_of (lay_dTs h5) (by have := depth_dTs xs; omega), shaped_of (lay_dTs h6) (by have := depth_dTs ys; omega), ?_⟩
  rw [eqv_seqD, eqv_dTs]
  exact q
end
end Sj
set_option Elab.async false
set_option linter.all false
set_option maxRecDepth 100000
set_option maxHeartbeats 4000000
/-! SjDef2: isinstance; a frame's legs, names, drivers, rails, members, contains. -/
namespace Sj
open PySem PySem.Spec PyProof.Rows L2 He
section
variable {X : Cx} {K : Frg} {h : Heap} {e e2 : Expr} {te t2 : TE} {p p2 p3 p4 pos : Pos} {k2 : Nat}
theorem cr_isStr : CallR X (.builtin "isinstance") (fun xs H Q => ∃ n : Str, xs = [.str n, .ty "str"] ∧ Q (.bl true) H) := by
  intro pins s σ H vs us Q I r ⟨n, e, q⟩
  subst e
  exact call_isi pins s σ H _ us Q I r ⟨_, _, _, _, true, rfl, .ty "str", .base (.str n), kit_ty (by decide +kernel), q⟩
theorem pisStr (T : Txt K X.mg h) (he : PE X e te) (hg : Gl X "isinstance" := by rfl) (hg2 : Gl X "str" := by rfl) (hs2 : starEach [.Name "str" p2] X.env = (false, eval (.Name "str" p2) X.env) :: starEach [] X.env := by rfl) (hs : starEach [e, .Name "str" p2] X.env = (false, eval e X.env) :: starEach [.Name "str" p2] X.env := by rfl)
    (hpl : (backTo pos (starEach [.Name "str" p2] X.env)).any (·.1) = false := by rfl) (hK : X.K = K := by rfl) : PE X (.Call (.Name "isinstance" p) [e, .Name "str" p2] [] pos) (tCB (fun xs H Q => ∃ n : Str, xs = [.str n, .ty "str"] ∧ Q (.bl true) H) (tCons te (tCons (tC (.ty "str")) tNil))) := by
  subst hK
  exact pe_callB cr_isStr hg T.b_isinstance bt_isinstance (pa_cons he (pa_cons (pe_bltn (v := .ty "str") hg2 T.b_str bt_str rfl) pa_nil hs2) hs) (by decide) (by decide) hs hpl
theorem cr_isDict : CallR X (.builtin "isinstance") (fun xs H Q => ∃ d, ∃ kvs : List (Key × V), xs = [.ref d, .ty "dict"] ∧ H d = some (.dK kvs) ∧ Q (.bl true) H) := by
  intro pins s σ H vs us Q I r ⟨d, kvs, e, hd, q⟩
  subst e
  exact call_isi pins s σ H _ us Q I r ⟨_, _, _, _, true, rfl, .ty "dict", .base (.dK hd), kit_ty (by decide +kernel), q⟩
theorem pisDict (T : Txt K X.mg h) (he : PE X e te) (hg : Gl X "isinstance" := by rfl) (hg2 : Gl X "dict" := by rfl) (hs2 : starEach [.Name "dict" p2] X.env = (false, eval (.Name "dict" p2) X.env) :: starEach [] X.env := by rfl) (hs : starEach [e, .Name "dict" p2] X.env = (false, eval e X.env) :: starEach [.Name "dict" p2] X.env := by rfl)
    (hpl : (backTo pos (starEach [.Name "dict" p2] X.env)).any (·.1) = false := by rfl) (hK : X.K = K := by rfl) : PE X (.Call (.Name "isinstance" p) [e, .Name "dict" p2] [] pos) (tCB (fun xs H Q => ∃ d, ∃ kvs : List (Key × V), xs = [.ref d, .ty "dict"] ∧ H d = some (.dK kvs) ∧ Q (.bl true) H) (tCons te (tCons (tC (.ty "dict")) tNil))) := by
  subst hK
  exact pe_callB cr_isDict hg T.b_isinstance bt_isinstance (pa_cons he (pa_cons (pe_bltn (v := .ty "dict") hg2 T.b_dict bt_dict rfl) pa_nil hs2) hs) (by decide) (by decide) hs hpl
/-- isinstance(a list or tuple, (list, tuple)) -/
def rIsLT (K : Frg) : List V → Hp → VK → Prop := fun vs H Q => ∃ a tp xs, vs = [.ref a, .ref tp] ∧ H tp = some (.tup [.ty "list", .ty "tuple"]) ∧ (H a = some (.lst xs) ∨ H a = some (.tup xs)) ∧ Q (.bl true) H
theorem cr_isLT : CallR X (.builtin "isinstance") (rIsLT X.K) := by
  intro pins s σ H vs us Q I r ⟨a, tp, xs, e, h1, h2, q⟩
  subst e
  have k1 : PySem.W.kitOne X.K (.type "list") (.type "list") = some true := kit_ty (by decide +kernel)
  have k2 : PySem.W.kitOne X.K (.type "tuple") (.type "tuple") = some true := kit_ty (by decide +kernel)
  have k3 : PySem.W.kitOne X.K (.type "tuple") (.type "list") = some false := kit_ty (by decide +kernel)
  rcases h2 with h2 | h2
  · exact call_isiT pins s σ H _ us Q I r ⟨_, tp, _, .type "list", [.type "list", .type "tuple"], true, rfl, h1, .cons (.ty _) (.cons (.ty _) .nil), .base (.lst h2), kitAny_cons k1 (fun z => nomatch z) (fun _ => rfl), q⟩
  · exact call_isiT pins s σ H _ us Q I r ⟨_, tp, _, .type "tuple", [.type "list", .type "tuple"], true, rfl, h1, .cons (.ty _) (.cons (.ty _) .nil), .base (.tup h2), kitAny_cons k3 (fun _ => kitAny_cons k2 (fun z => nomatch z) (fun _ => rfl)) (fun z => nomatch z), q⟩
/-- .. as one reads it -/
theorem le2 : 2 ≤ sizeLine := by rw [sizeLine_eq]; decide
theorem pisLT (T : Txt K X.mg h) (he : PE X e te) (hg : Gl X "isinstance" := by rfl) (hg2 : Gl X "list" := by rfl) (hg3 : Gl X "tuple" := by rfl)
    (hs4 : starEach [.Name "list" p2, .Name "tuple" p3] X.env = (false, eval (.Name "list" p2) X.env) :: starEach [.Name "tuple" p3] X.env := by rfl) (hs3 : starEach [.Name "tuple" p3] X.env = (false, eval (.Name "tuple" p3) X.env) :: starEach [] X.env := by rfl)
    (hs2 : starEach [.Tuple [.Name "list" p2, .Name "tuple" p3] k2 p4] X.env = (false, eval (.Tuple [.Name "list" p2, .Name "tuple" p3] k2 p4) X.env) :: starEach [] X.env := by rfl) (hs : starEach [e, .Tuple [.Name "list" p2, .Name "tuple" p3] k2 p4] X.env = (false, eval e X.env) :: starEach [.Tuple [.Name "list" p2, .Name "tuple" p3] k2 p4] X.env := by rfl)
    (hpl : (backTo pos (starEach [.Tuple [.Name "list" p2, .Name "tuple" p3] k2 p4] X.env)).any (·.1) = false := by rfl) (hK : X.K = K := by rfl) : PE X (.Call (.Name "isinstance" p) [e, .Tuple [.Name "list" p2, .Name "tuple" p3] k2 p4] [] pos) (tCB (rIsLT K) (tCons te (tCons (tTup (tCons (tC (.ty "list")) (tCons (tC (.ty "tuple")) tNil))) tNil))) := by
  subst hK
  exact pe_callB cr_isLT hg T.b_isinstance bt_isinstance (pa_cons he (pa_cons (pe_tup (pa_cons (pe_bltn (v := .ty "list") hg2 T.b_list bt_list rfl) (pa_cons (pe_bltn (v := .ty "tuple") hg3 T.b_tuple bt_tuple rfl) pa_nil hs3) hs4)) pa_nil hs2) hs) (by decide) (by decide) hs hpl
end
/-! ### a frame's properties -/
theorem len_of_paired {α β : Type} {F : α → β → Prop} {l : List α} {m : List β} (h : Paired F l m) : l.length = m.length := Paired.length h
theorem nodup_inj {α β : Type} {f : α → β} : ∀ {l : List α}, (l.map f).Nodup → ∀ {x y : α}, x ∈ l → y ∈ l → f x = f y → x = y
  | [], _, _, _, h, _, _ => by cases h
  | a :: r, h, x, y, hx, hy, e => by
    obtain ⟨h1, h2⟩ := List.nodup_cons.mp h
    rcases List.mem_cons.mp hx with e1 | h3
    · rcases List.mem_cons.mp hy with e2 | h4
      · rw [e1, e2]
      · exact absurd (by rw [← e1, e]; exact List.mem_map_of_mem h4) h1
    · rcases List.mem_cons.mp hy with e2 | h4
      · exact absurd (by rw [← e2, ← e]; exact List.mem_map_of_mem h3) h1
      · exact nodup_inj h2 h3 h4 e
theorem legs_keys {legs : List (Str × Bool)} {as : List Addr} (h : legs.length = as.length) : ((legs.zip as).map fun p => ((Sum.inr p.1.1 : Key), V.ref p.2)).map (fun kv => kV kv.1) = vS (legs.map (·.1)) := by
  induction legs generalizing as with
  | nil => rfl
  | cons l r ih =>
    cases as with
    | nil => cases h
    | cons a t =>
      have := ih (as := t) (by simpa using h)
      rw [List.zip_cons_cons, List.map_cons, List.map_cons, this]
      rfl
theorem legs_vals {legs : List (Str × Bool)} {as : List Addr} (h : legs.length = as.length) : ((legs.zip as).map fun p => ((Sum.inr p.1.1 : Key), V.ref p.2)).map (·.2) = as.map V.ref := by
  induction legs generalizing as with
  | nil =>
    cases as with
    | nil => rfl
    | cons a t => cases h
  | cons l r ih =>
    cases as with
    | nil => cases h
    | cons a t =>
      have := ih (as := t) (by simpa using h)
      rw [List.zip_cons_cons, List.map_cons, List.map_cons, this]
      rfl
section
variable {P : Program} {w : World} {K : Frg} {mg : Str → Option Value} {base h : Heap}
def sp_Frame_names (K : Frg) : Sp := fun vs H Q _ => ∃ a f, vs = [.ref a] ∧ FrAt K H a f ∧ ∀ p H', Same H H' → H' p = some (.tup (vS f.names)) → Q (.ref p) H'
theorem pr_Frame_names (T : Txt K mg h) : PF P w K mg base (ga K "Frame") "names" 1 (sp_Frame_names K) := by
  refine ⟨T.kFrame, _, _, T.pFrame_names, mkFn T.d_Frame_names sc_Frame_names rfl (fun _ _ _ _ _ _ us hl => match us, hl with | [_], _ => rfl) (fun vs H Q E h => ?_) (fun cdv A outer s H vs Q E hr h => ?_)⟩
  · obtain ⟨a, f, rfl, _⟩ := h
    rfl
  · obtain ⟨a, f, rfl, ⟨dx, L, as, ha, hl, ok⟩, q⟩ := h
    refine ⟨_, pss_one (ps_ret (pe_callTy cr_tupSrc (by rfl) T.b_tuple bt_tuple (pa_cons (pf (pv 0)) pa_nil))), ?_⟩
    exact ⟨_, rfl, a, _, dx, _, .ref L, rfl, ha, T.kFrame, T.nFrame_own_legs, rfl, L, _, rfl, .inl ⟨_, hl.1, (legs_keys (len_of_paired hl.2)).symm⟩, fun p hp => q p _ (same_new hp) upd_same⟩
def sp_Frame_legs (K : Frg) : Sp := fun vs H Q _ => ∃ a dx L legs as fs, vs = [.ref a] ∧ H a = some (.ins (ga K "Frame") dx fs) ∧ fs.lookup ("own_legs" : Str) = some (V.ref L) ∧ LegsAt K H L legs as ∧ ∀ p H', Same H H' → H' p = some (.tup (as.map V.ref)) → Q (.ref p) H'
theorem pr_Frame_legs (T : Txt K mg h) : PF P w K mg base (ga K "Frame") "legs" 1 (sp_Frame_legs K) := by
  refine ⟨T.kFrame, _, _, T.pFrame_legs, mkFn T.d_Frame_legs sc_Frame_legs rfl (fun _ _ _ _ _ _ us hl => match us, hl with | [_], _ => rfl) (fun vs H Q E h => ?_) (fun cdv A outer s H vs Q E hr h => ?_)⟩
  · obtain ⟨a, dx, L, legs, as, fs, rfl, _⟩ := h
    rfl
  · obtain ⟨a, dx, L, legs, as, fs, rfl, ha, hf, hl, q⟩ := h
    refine ⟨_, pss_one (ps_ret (pe_callTy cr_tupSrc (by rfl) T.b_tuple bt_tuple (pa_cons (pe_bm0 PySem.F.plainAttrs_dict PySem.F.slot_dict_values PySem.F.type_dict_values mt_vals (pf (pv 0))) pa_nil))), ?_⟩
    refine ⟨_, rfl, a, _, dx, _, .ref L, rfl, ha, T.kFrame, T.nFrame_own_legs, hf, .inr (.inr (.inl ⟨rfl, .inl ⟨_, hl.1⟩⟩)), L, rfl, rfl, .inl ⟨_, hl.1⟩, fun v hv => ?_⟩
    refine ⟨v, _, rfl, .inr (.inl ⟨L, _, upd_same, same_new hv _ _ hl.1, (legs_vals (len_of_paired hl.2)).symm⟩), fun p hp => q p _ ((same_new hv).trans (same_new hp)) upd_same⟩
def sp_Frame_contains (K : Frg) : Sp := fun vs H Q _ => ∃ a f n, vs = [.ref a, .str n] ∧ FrAt K H a f ∧ Q (.bl (decide (n ∈ f.names))) H
theorem sf_Frame_contains (T : Txt K mg h) : SF P w K mg base (ga K "Frame") "__contains__" 1 (sp_Frame_contains K) := by
  refine ⟨_, T.sFrame_contains, mkFn T.d_Frame_contains sc_Frame_contains rfl (fun _ _ _ _ _ _ us hl => match us, hl with | [_, _], _ => rfl) (fun vs H Q E h => ?_) (fun cdv A outer s H vs Q E hr h => ?_)⟩
  · obtain ⟨a, f, n, rfl, _⟩ := h
    rfl
  · obtain ⟨a, f, n, rfl, ⟨dx, L, as, ha, hl, ok⟩, q⟩ := h
    refine ⟨_, pss_one (ps_ret (pe_and (pisStr T (pv 1)) (pe_one (pe_cmp (pc_din (u1 hr) (pv 1) (pf (pv 0))))))), ?_⟩
    refine ⟨_, rfl, n, rfl, true, rfl, iteT ⟨_, rfl, _, rfl, a, _, dx, _, .ref L, rfl, ha, T.kFrame, T.nFrame_own_legs, rfl, L, _, rfl, DGet.k (k := .inr n) hl.1, ?_⟩⟩
    by_cases hn : n ∈ f.names
    · obtain ⟨l, hl1, rfl⟩ := List.mem_map.mp hn
      obtain ⟨b, hb, _⟩ := valV_zip (key := fun l : Str × Bool => Sum.inr l.1) hl.2 hl1 (fun x hx e => by
        exact nodup_inj ok.nd hx hl1 (Sum.inr.inj e))
      rw [hb]
      rw [decide_eq_true hn] at q
      exact q
    · rw [valV_zip_none (key := fun l : Str × Bool => Sum.inr l.1) (fun x hx e => hn (by rw [← Sum.inr.inj e]; exact List.mem_map_of_mem hx))]
      rw [decide_eq_false hn] at q
      exact q
end
end Sj
set_option Elab.async false
set_option linter.all false
set_option maxRecDepth 100000
set_option maxHeartbeats 4000000
/-! SjDef3: a frame's drivers, rails, members, ==. -/
namespace Sj
open PySem PySem.Spec PyProof.Rows L2 He
theorem ne_obj {H : Hp} {a b : Addr} {o o' : HO} (h1 : H a = some o) (h2 : H b = some o') (h : o ≠ o') : a ≠ b := fun e => h (by rw [e, h2] at h1; exact (Option.some.inj h1).symm)
theorem paired_zip {α β : Type} {F : α → β → Prop} {l : List α} {m : List β} (p : Paired F l m) : ∀ {x : α} {y : β}, (x, y) ∈ l.zip m → F x y := by
  induction p with
  | nil => intro x y h; cases h
  | cons h t ih =>
    intro x y hm
    rw [List.zip_cons_cons] at hm
    rcases List.mem_cons.mp hm with e | hm
    · cases e
      exact h
    · exact ih hm
theorem lookup_nd {β : Type} {n : Str} {v : β} : ∀ {l : List (Str × β)}, (l.map (·.1)).Nodup → (n, v) ∈ l → l.lookup n = some v
  | [], _, h => by cases h
  | (m, u) :: r, h, hm => by
    obtain ⟨h1, h2⟩ := List.nodup_cons.mp h
    rw [List.lookup_cons]
    rcases List.mem_cons.mp hm with e | hm
    · cases e
      rw [beq_self_eq_true]
    · have : n ≠ m := fun e => h1 (by rw [← e]; exact List.mem_map_of_mem (f := (·.1)) hm)
      rw [beq_eq_false_iff_ne.mpr this]
      exact lookup_nd h2 hm
section
variable {X : Cx} {K : Frg} {h : Heap} {e : Expr} {te : TE} {p p2 pos : Pos} {x : Str} {C : Addr}
theorem kitOne_of {t c : Value} (h : PySem.W.kitAny K t [c] = some true) : PySem.W.kitOne K t c = some true := by
  unfold PySem.W.kitAny at h
  split at h
  · assumption
  · rename_i e
    unfold PySem.W.kitAny at h
    cases h
  · cases h
theorem cr_isC (c : Cls X.K C) (i : InsF X.K C) (k : PySem.W.kitAny X.K (.ref C) [.ref C] = some true) : CallR X (.builtin "isinstance") (fun xs H Q => ∃ a dx fs, xs = [.ref a, .ref C] ∧ H a = some (.ins C dx fs) ∧ Q (.bl true) H) := by
  intro pins s σ H vs us Q I r ⟨a, dx, fs, e, ha, q⟩
  subst e
  exact call_isi pins s σ H _ us Q I r ⟨_, _, _, _, true, rfl, .own C, .base (.ins ha c i.ca i.cn i.ct i.cm), kitOne_of k, q⟩
theorem pisC (T : Txt K X.mg h) (c : Cls K C) (i : InsF K C) (k : PySem.W.kitAny K (.ref C) [.ref C] = some true) (hm : X.mg x = some (.ref C)) (he : PE X e te) (hg2 : Gl X x := by rfl) (hdb : (x == ("__debug__" : Str)) = false := by decide) (hg : Gl X "isinstance" := by rfl)
    (hs2 : starEach [.Name x p2] X.env = (false, eval (.Name x p2) X.env) :: starEach [] X.env := by rfl) (hs : starEach [e, .Name x p2] X.env = (false, eval e X.env) :: starEach [.Name x p2] X.env := by rfl)
    (hpl : (backTo pos (starEach [.Name x p2] X.env)).any (·.1) = false := by rfl) (hK : X.K = K := by rfl) : PE X (.Call (.Name "isinstance" p) [e, .Name x p2] [] pos) (tCB (fun xs H Q => ∃ a dx fs, xs = [.ref a, .ref C] ∧ H a = some (.ins C dx fs) ∧ Q (.bl true) H) (tCons te (tCons (tC (.ref C)) tNil))) := by
  subst hK
  exact pe_callB (cr_isC c i k) hg T.b_isinstance bt_isinstance (pa_cons he (pa_cons (pe_glob (v := .ref C) hg2 hm rfl hdb) pa_nil hs2) hs) (by decide) (by decide) hs hpl
end
theorem drv_list {φ : Str → Bool} : ∀ {legs : List (Str × Bool)} {as : List Addr}, legs.length = as.length → (∀ l ∈ legs, φ l.1 = l.2) →
    (((legs.zip as).map fun p => (V.str p.1.1, V.ref p.2)).filter (fun q => match q.1 with | .str n => φ n | _ => false)).map (·.1) = vS ((legs.filter (·.2)).map (·.1))
  | [], [], _, _ => rfl
  | [], _ :: _, h, _ => by cases h
  | _ :: _, [], h, _ => by cases h
  | l :: r, a :: t, h, hp => by
    have ih := drv_list (φ := φ) (legs := r) (as := t) (by simpa using h) fun x hx => hp x (List.mem_cons_of_mem _ hx)
    have e := hp l List.mem_cons_self
    rw [List.zip_cons_cons, List.map_cons]
    cases hl : l.2 with
    | true =>
      rw [List.filter_cons_of_pos (by show φ l.1 = true; rw [e, hl]), List.filter_cons_of_pos hl, List.map_cons, ih]
      rfl
    | false =>
      rw [List.filter_cons_of_neg (by show ¬ φ l.1 = true; rw [e, hl]; simp), List.filter_cons_of_neg (by rw [hl]; simp), ih]
section
variable {P : Program} {w : World} {K : Frg} {mg : Str → Option Value} {base h : Heap}
def sp_Frame_drivers (K : Frg) : Sp := fun vs H Q _ => ∃ a f, vs = [.ref a] ∧ FrAt K H a f ∧ ∀ p H', Same H H' → H' p = some (.tup (vS f.drivers)) → Q (.ref p) H'
theorem pr_Frame_drivers (T : Txt K mg h) : PF P w K mg base (ga K "Frame") "drivers" 3 (sp_Frame_drivers K) := by
  refine ⟨T.kFrame, _, _, T.pFrame_drivers, mkFn T.d_Frame_drivers sc_Frame_drivers rfl (fun _ _ _ _ _ _ us hl => match us, hl with | [_], _ => rfl) (fun vs H Q E h => ?_) (fun cdv A outer s H vs Q E hr h => ?_)⟩
  · obtain ⟨a, f, rfl, _⟩ := h
    rfl
  · obtain ⟨a, f, rfl, ⟨dx, L, as, ha, hl, ok⟩, q⟩ := h
    refine ⟨_, pss_one (ps_ret (ptup T (pe_lock (plpIf 1 2 sc_Frame_drivers.nd (pi_items (pf (pv 0))) (fun _ _ _ _ _ => pt_val (pe_orE (pp (pr_Leg_drives T true) hr (pv 2)) (pp (pr_Leg_drives T false) hr (pv 2)))) (fun _ _ _ _ _ => pv 1))))), ?_⟩
    have hne : a ≠ L := ne_obj ha hl.1 (fun z => by cases z)
    have hlen := len_of_paired hl.2
    let φ : Str → Bool := fun n => (f.legs.lookup n).getD false
    have hφ : ∀ l ∈ f.legs, φ l.1 = l.2 := fun l hl => by
      show (f.legs.lookup l.1).getD false = l.2
      rw [lookup_nd (v := l.2) ok.nd hl]
      rfl
    refine ⟨L, _, hl.1, trivial, fun od => ⟨_, rfl, a, _, dx, _, .ref L, rfl, (upd_ne hne).trans ha, T.kFrame, T.nFrame_own_legs, rfl, L, od, _, rfl, upd_same, fun D hD => ?_⟩⟩
    refine lcp walk_items ((f.legs.zip as).map fun p => (V.str p.1.1, V.ref p.2)) (by rw [List.length_map, List.length_map]) (fun i x y hx hy => ?_) (fun q => match q.1 with | .str n => φ n | _ => false) (fun _ x y _ => y = x.1) hD (fun H' s => s _ _ upd_same) (fun _ _ _ _ _ h => h)
      (by rw [List.length_map, List.length_zip]; have := ok.few; omega) (fun _ _ => rfl) (fun p hp H2 s2 Q2 q2 => ?_) (fun p hp hf H2 s2 Q2 q2 => ?_) (fun ys H2 s2 hd pr => ?_)
    · rw [List.getElem?_map] at hx hy ⊢
      cases e : (f.legs.zip as)[i]? with
      | none => rw [e] at hx; cases hx
      | some z =>
        rw [e] at hx hy
        cases hx
        cases hy
        rfl
    · obtain ⟨⟨⟨n, d⟩, b⟩, hm, rfl⟩ := List.mem_map.mp hp
      obtain ⟨dx2, hb⟩ := paired_zip hl.2 hm
      have hb2 : H2 b = some (.ins (clsLeg K d) dx2 [("name", .str n)]) := s2 _ _ ((upd_ne (ne_obj hb hl.1 (fun z => by cases z))).trans hb)
      have e : φ n = d := hφ (n, d) (List.of_mem_zip hm).1
      have q3 := q2 H2 (Same.refl _)
      change Q2 (φ n) H2 at q3
      rw [e] at q3
      cases d with
      | true => exact .inl ⟨_, rfl, b, dx2, _, rfl, hb2, b, (n, true), rfl, ⟨dx2, hb2⟩, true, rfl, q3⟩
      | false => exact .inr ⟨_, rfl, b, dx2, _, rfl, hb2, b, (n, false), rfl, ⟨dx2, hb2⟩, false, rfl, q3⟩
    · exact ⟨_, rfl, q2 _ H2 (Same.refl _) rfl⟩
    · have e := paired_map (g := Prod.fst) pr
      rw [drv_list hlen hφ] at e
      have hf := s2 _ _ upd_same
      subst e
      refine ⟨hf, D, _, rfl, SqL.of ((upd_ne (ne_obj hd hf (fun z => by cases z))).trans hd), fun p hp => q p _ ((same_unlock hl.1 s2).trans (same_new hp)) upd_same⟩
def sp_Frame_rails (K : Frg) : Sp := fun vs H Q _ => ∃ a f, vs = [.ref a] ∧ FrAt K H a f ∧ ∀ p H', Same H H' → SqT K H' p (vS f.rails) → Q (.ref p) H'
theorem pr_Frame_rails (T : Txt K mg h) : PF P w K mg base (ga K "Frame") "rails" 1 (sp_Frame_rails K) := by
  obtain ⟨tG, gG⟩ := T.vGROUND
  obtain ⟨tP, gP⟩ := T.vPOWER
  refine ⟨T.kFrame, _, _, T.pFrame_rails, mkFn T.d_Frame_rails sc_Frame_rails rfl (fun _ _ _ _ _ _ us hl => match us, hl with | [_], _ => rfl) (fun vs H Q E h => ?_) (fun cdv A outer s H vs Q E hr h => ?_)⟩
  · obtain ⟨a, f, rfl, _⟩ := h
    rfl
  · obtain ⟨a, f, rfl, ⟨dx, L, as, ha, hl, ok⟩, q⟩ := h
    refine ⟨_, pss_one (ps_ret (pe_op op_catA (pe_op op_repU (pe_tup (pa_cons (pe_glob (v := .str "ground") (by rfl) gG ⟨_, rfl⟩) pa_nil)) (pint T (pf (pv 0)))) (pe_op op_repU (pe_tup (pa_cons (pe_glob (v := .str "power") (by rfl) gP ⟨_, rfl⟩) pa_nil)) (pint T (pf (pv 0)))))), ?_⟩
    refine ⟨by rw [sizeLine_eq]; decide, fun p1 h1 => ⟨_, rfl, a, _, dx, _, .bl f.gnd, rfl, same_new h1 _ _ ha, T.kFrame, T.nFrame_ground, rfl, .inr ⟨f.gnd, rfl, ?_⟩⟩⟩
    refine ⟨p1, _, _, rfl, rfl, SqT.of upd_same, by simp, by cases f.gnd <;> decide, by cases f.gnd <;> decide, by decide, fun q1 H2 s2 hq1 _ => ?_⟩
    refine ⟨by rw [sizeLine_eq]; decide, fun p2 h2 => ⟨_, rfl, a, _, dx, _, .bl f.pwr, rfl, same_new h2 _ _ (s2 _ _ (same_new h1 _ _ ha)), T.kFrame, T.nFrame_power, rfl, .inr ⟨f.pwr, rfl, ?_⟩⟩⟩
    refine ⟨p2, _, _, rfl, rfl, SqT.of upd_same, by simp, by cases f.pwr <;> decide, by cases f.pwr <;> decide, by decide, fun q2 H3 s3 hq2 _ => ?_⟩
    have t : Same H H3 := (((same_new h1).trans s2).trans (same_new h2)).trans s3
    have hq3 := hq1.ext ((same_new h2).trans s3)
    have e : vS f.rails = (List.replicate (if f.gnd = true then (1 : Int) else 0).toNat [V.str "ground"]).flatten ++ (List.replicate (if f.pwr = true then (1 : Int) else 0).toNat [V.str "power"]).flatten := by
      unfold Fr.rails
      cases f.gnd <;> cases f.pwr <;> rfl
    refine ⟨q1, q2, _, _, rfl, rfl, hq3, hq2, ?_, fun e1 => ?_, fun e1 e2 => ?_, fun _ _ p hp => q p _ (t.trans (same_new hp)) (SqT.of (by rw [upd_same, e]))⟩
    · rw [sizeLine_eq]
      cases f.gnd <;> cases f.pwr <;> decide
    · rw [e1, List.nil_append] at e
      exact q q2 H3 t (e ▸ hq2)
    · rw [e2, List.append_nil] at e
      exact q q1 H3 t (e ▸ hq3)
def sp_Frame_members (K : Frg) : Sp := fun vs H Q _ => ∃ a f, vs = [.ref a] ∧ FrAt K H a f ∧ ∀ p H', Same H H' → H' p = some (.tup (vS f.members)) → Q (.ref p) H'
theorem few_rails (f : Fr) : f.rails.length ≤ 2 := by
  unfold Fr.rails
  cases f.gnd <;> cases f.pwr <;> decide
theorem pr_Frame_members (T : Txt K mg h) : PF P w K mg base (ga K "Frame") "members" 3 (sp_Frame_members K) := by
  refine ⟨T.kFrame, _, _, T.pFrame_members, mkFn T.d_Frame_members sc_Frame_members rfl (fun _ _ _ _ _ _ us hl => match us, hl with | [_], _ => rfl) (fun vs H Q E h => ?_) (fun cdv A outer s H vs Q E hr h => ?_)⟩
  · obtain ⟨a, f, rfl, _⟩ := h
    rfl
  · obtain ⟨a, f, rfl, hf, q⟩ := h
    have hf0 := hf
    obtain ⟨dx, L, as, ha, hl, ok⟩ := hf
    refine ⟨_, pss_one (ps_ret (ptup T (psrt T (pe_lst (pa_starD (pf (pv 0)) (StX.pa_star (pp (pr_Frame_rails T) hr (pv 0)) pa_nil)))))), ?_⟩
    refine ⟨_, rfl, a, _, dx, _, .ref L, rfl, ha, T.kFrame, T.nFrame_own_legs, rfl, L, _, rfl, hl.1, _, rfl, a, dx, _, rfl, ha, a, f, rfl, hf0, fun r H2 s2 hr2 => ⟨r, _, rfl, .inl hr2, ?_⟩⟩
    have e : ((f.legs.zip as).map fun p => ((Sum.inr p.1.1 : Key), V.ref p.2)).map (fun kv => kV kv.1) ++ (vS f.rails ++ []) = vS (f.names ++ f.rails) := by
      rw [legs_keys (len_of_paired hl.2), List.append_nil, vS, vS, vS, List.map_append]
      rfl
    have hz : (f.names ++ f.rails).length < 64 := by
      have := ok.few
      have := few_rails f
      rw [List.length_append, Fr.names, List.length_map]
      omega
    dsimp only [tNil]
    rw [e]
    refine ⟨by rw [sizeLine_eq, vS, List.length_map]; omega, fun p hp => ⟨p, _, rfl, SqL.of upd_same, hz, fun p2 hp2 => ⟨p2, _, rfl, SqL.of upd_same, fun p3 hp3 => q p3 _ (((s2.trans (same_new hp)).trans (same_new hp2)).trans (same_new hp3)) upd_same⟩⟩⟩
end
end Sj
set_option Elab.async false
set_option linter.all false
set_option maxRecDepth 100000
set_option maxHeartbeats 4000000
/-! SjDef4: a frame's ==; fault_of of frames. -/
namespace Sj
open PySem PySem.Spec PyProof.Rows L2 He
theorem okS_ground : okS "ground" = true := by decide +kernel
theorem okS_power : okS "power" = true := by decide +kernel
theorem okS_name {s : Str} (h : okName s = true) : okS s = true := by
  unfold okS
  rw [h]
  rfl
theorem rails_s (f : Fr) : AllS f.rails := by
  intro s hs
  have h : s = "ground" ∨ s = "power" := by
    rcases List.mem_append.mp hs with h | h
    · split at h
      · exact .inl (List.mem_singleton.mp h)
      · cases h
    · split at h
      · exact .inr (List.mem_singleton.mp h)
      · cases h
  rcases h with h | h
  · rw [h]; exact okS_ground
  · rw [h]; exact okS_power
/-- a leg's name, as the heap has it -/
def nmOf (H : Hp) : V → Key
  | .ref a => match H a with
    | some (.ins _ _ [(_, .str n)]) => .inr n
    | _ => .inl 0
  | _ => .inl 0
theorem nmOf_leg {K : Frg} {H : Hp} {a : Addr} {l : Str × Bool} (h : LegAt K H a l) : nmOf H (.ref a) = .inr l.1 := by
  obtain ⟨dx, e⟩ := h
  show (match H a with | some (.ins _ _ [(_, .str n)]) => (.inr n : Key) | _ => .inl 0) = _
  rw [e]
theorem nmOf_legs {K : Frg} {H : Hp} {legs : List (Str × Bool)} {as : List Addr} (h : Paired (fun l a => LegAt K H a l) legs as) : (as.map V.ref).map (nmOf H) = legs.map fun l => Sum.inr l.1 := by
  induction h with
  | nil => rfl
  | cons h t ih => rw [List.map_cons, List.map_cons, ih, nmOf_leg h, List.map_cons]
section
variable {P : Program} {w : World} {K : Frg} {mg : Str → Option Value} {base h : Heap}
def sp_Frame_eq (K : Frg) : Sp := fun vs H Q _ => ∃ a f, vs = [.ref a, .ref a] ∧ FrAt K H a f ∧ ∀ H', Same H H' → Q (.bl true) H'
theorem sf_Frame_eq (T : Txt K mg h) : SF P w K mg base (ga K "Frame") "__eq__" 3 (sp_Frame_eq K) := by
  refine ⟨_, T.sFrame_eq, mkFn T.d_Frame_eq sc_Frame_eq rfl (fun _ _ _ _ _ _ us hl => match us, hl with | [_, _], _ => rfl) (fun vs H Q E h => ?_) (fun cdv A outer s H vs Q E hr h => ?_)⟩
  · obtain ⟨a, f, rfl, _⟩ := h
    rfl
  · obtain ⟨a, f, rfl, hf, q⟩ := h
    refine ⟨_, pss_cons (ps_if (PW.pt (pw_or (pt_not (pt_val (pisC T T.kFrame T.iFrame T.tFrame T.gFrame (pv 1)))) (pw_or (pt_cmpR op_ne (pf (pv 0)) (pf (pv 1)) (by rfl)) (pw_or1 (pt_cmpR (op_neS true hr (K := K)) (pp (pr_Frame_rails T) hr (pv 0)) (pp (pr_Frame_rails T) hr (pv 1)) (by rfl)))))) (pss_one (ps_ret pe_bl)) pss_nil)
      (pss_one (ps_ret (pe_cmpR (op_eqRefs hr) (pp (pr_Frame_legs T) hr (pv 0)) (pp (pr_Frame_legs T) hr (pv 1)) (by rfl)))), ?_⟩
    have hf0 := hf
    obtain ⟨dx, L, as, ha, hl, ok⟩ := hf
    refine ⟨_, rfl, a, dx, _, rfl, ha, true, rfl, iteF ?_⟩
    refine ⟨_, rfl, a, _, dx, _, .int f.top, rfl, ha, T.kFrame, T.nFrame_top, rfl, _, rfl, a, _, dx, _, .int f.top, rfl, ha, T.kFrame, T.nFrame_top, rfl, rfl, _, rfl, ?_⟩
    rw [show (!decide (V.int f.top = V.int f.top)) = false from by rw [decide_eq_true rfl]; rfl]
    refine iteF ?_
    refine ⟨_, rfl, a, dx, _, rfl, ha, a, f, rfl, hf0, fun r1 H1 (s1 : Same H H1) h1 => ?_⟩
    refine ⟨_, rfl, a, dx, _, rfl, s1 _ _ ha, a, f, rfl, hf0.mono (Same.L s1), fun r2 H2 (s2 : Same H1 H2) h2 => ?_⟩
    refine ⟨r1, r2, f.rails, f.rails, rfl, rfl, h1.ext s2, h2, rails_s f, rails_s f, _, rfl, ?_⟩
    rw [show (!decide (f.rails = f.rails)) = false from by rw [decide_eq_true rfl]; rfl]
    refine iteF ?_
    have t := s1.trans s2
    refine ⟨_, rfl, a, dx, _, rfl, t _ _ ha, a, dx, L, f.legs, as, _, rfl, t _ _ ha, rfl, hl.mono (Same.L t), fun p1 H3 (s3 : Same H2 H3) h3 => ?_⟩
    have t2 := t.trans s3
    refine ⟨_, rfl, a, dx, _, rfl, t2 _ _ ha, a, dx, L, f.legs, as, _, rfl, t2 _ _ ha, rfl, hl.mono (Same.L t2), fun p2 H4 (s4 : Same H3 H4) h4 => ?_⟩
    exact ⟨p1, p2, as, rfl, rfl, SqT.of (s4 _ _ h3), SqT.of h4, q H4 (t2.trans s4)⟩
def sp_fault_of_frames (K : Frg) : Sp := fun vs H Q _ => ∃ (l r : Addr) (top : Int) (legs : List (Str × Bool)) (as : List Addr) (g p : Bool), vs = [.ref l, .int 40, .int top, .ref r] ∧ SqT K H l (as.map V.ref) ∧ SqT K H r [.bl g, .bl p] ∧
  Paired (fun l a => LegAt K H a l) legs as ∧ (legs.map (·.1)).Nodup ∧ legs.length ≤ 40 ∧ 1 ≤ top ∧ top ≤ 3 ∧ ∀ H', Same H H' → Q .non H'
theorem leg_isi (T : Txt K mg h) {H : Hp} {b : Addr} {l : Str × Bool} (hb : LegAt K H b l) : ∃ t, TyX K H (.ref b) t ∧ PySem.W.kitAny K t [.ref (ga K "Driver"), .ref (ga K "Listener")] = some true := by
  obtain ⟨n, d⟩ := l
  obtain ⟨dx, e⟩ := hb
  cases d with
  | true => exact ⟨_, .base (.ins e T.kDriver T.iDriver.ca T.iDriver.cn T.iDriver.ct T.iDriver.cm), T.tDriver⟩
  | false => exact ⟨_, .base (.ins e T.kListener T.iListener.ca T.iListener.cn T.iListener.ct T.iListener.cm), T.tListener⟩
theorem ok_fault_of_frames (T : Txt K mg h) : GF P w K mg base "fault_of_frames" 3 (sp_fault_of_frames K) := by
  obtain ⟨tM, gM⟩ := T.vMOST_TOP
  refine ⟨_, T.g_fault_of_frames, keepX T.d_fault_of_frames, mkFn T.d_fault_of_frames sc_fault_of_frames rfl (fun _ _ _ _ _ _ us hl => match us, hl with | [_, _, _, _], _ => rfl) (fun vs H Q E h => ?_) (fun cdv A outer s H vs Q E hr h => ?_)⟩
  · obtain ⟨l, r, top, legs, as, g, p, rfl, _⟩ := h
    rfl
  · obtain ⟨l, r, top, legs, as, g, p, rfl, hl, hrr, hp, nd, few, t1, t3, q⟩ := h
    have hlen := len_of_paired hp
    have hz : (as.map V.ref).length ≤ 1000 := by rw [List.length_map]; omega
    refine ⟨_, pss_cons (ps_if (pt_not (pt_val (pall T (plc 4 sc_fault_of_frames.nd (pi_tup (pv 0)) (fun _ _ _ _ _ => pe_callB (r := rIsiT K) call_isiT (by rfl) T.b_isinstance bt_isinstance (pa_cons (pv 4) (pa_cons (pe_tup (pa_cons (pe_glob (v := .ref (ga K "Driver")) (by rfl) T.gDriver rfl) (pa_cons (pe_glob (v := .ref (ga K "Listener")) (by rfl) T.gListener rfl) pa_nil))) pa_nil))))))) (pss_one (ps_ret pe_str)) pss_nil)
      (pss_cons (ps_if (pt_cmpR op_gt (plen T (pv 0)) (pv 1) (by rfl)) (pss_one (ps_ret pe_str)) pss_nil)
      (pss_cons (ps_if (pt_cmpR op_lt (plenS T (psc 4 sc_fault_of_frames.nd (pi_tup (pv 0)) (fun _ _ _ _ _ => pfK K (pv 4)))) (plen T (pv 0)) (by rfl)) (pss_one (ps_ret pe_str)) pss_nil)
      (pss_cons (ps_if (pt_not (pt_val (pc (ok_is_between T) hr (pa_cons (pv 2) (pa_cons pe_int (pa_cons (pe_glob (v := .int 3) (by rfl) gM ⟨_, rfl⟩) pa_nil)))))) (pss_one (ps_ret pe_str)) pss_nil)
      (pss_one (ps_ret (pe_ifExp (pt_val (pall T (plc 5 sc_fault_of_frames.nd (pi_tup (pv 3)) (fun _ _ _ _ _ => pe_callB (r := rIsi K) call_isi (by rfl) T.b_isinstance bt_isinstance (pa_cons (pv 5) (pa_cons (pe_bltn (v := .ty "bool") (by rfl) T.b_bool bt_bool rfl) pa_nil)))))) pe_non pe_str)))))), ?_⟩
    refine ⟨_, rfl, l, rfl, ⟨_, hl⟩, fun D hD => lcv walk_tup (fun _ => .bl true) hD (fun H' s => hl.ext s) hz (fun _ => rfl) (fun x hx H2 s2 Q2 q2 => ?_) fun H2 s2 hd2 => ?_⟩
    · obtain ⟨b, hb, rfl⟩ := List.mem_map.mp hx
      obtain ⟨lg, hlg⟩ := Paired.right hp b hb
      refine ⟨_, rfl, by rw [sizeLine_eq]; exact (by decide : 2 ≤ 16777216), fun tp htp => ?_⟩
      obtain ⟨t, ty, kk⟩ := leg_isi T (hlg.mono (Same.L (s2.trans (same_new htp))))
      exact ⟨_, tp, _, t, _, true, rfl, upd_same, .cons (.own _) (.cons (.own _) .nil), ty, kk, q2 _ (same_new htp)⟩
    · refine ⟨D, (as.map V.ref).map fun _ => true, rfl, SqL.of (by rw [hd2, List.map_map (l := as.map V.ref)]; rfl), ?_⟩
      rw [all_true]
      refine ⟨true, rfl, iteF ?_⟩
      refine ⟨_, rfl, l, _, rfl, .inr (hl.ext s2), _, rfl, _, _, rfl, rfl, _, rfl, ?_⟩
      rw [decide_eq_false (by rw [List.length_map]; omega)]
      refine iteF ?_
      refine ⟨_, rfl, l, rfl, ⟨_, hl.ext s2⟩, fun D2 hD2 => scm walk_tup (nmOf H) ?_ hD2 (fun H' s => hl.ext (s2.trans s)) hz (fun _ => rfl) (fun x hx H3 s3 Q3 q3 => ?_) fun S H3 s3 hd3 => ?_⟩
      · rw [nmOf_legs hp]
        have := nodup_keys nd
        rw [List.map_map] at this
        exact this
      · obtain ⟨b, hb, rfl⟩ := List.mem_map.mp hx
        obtain ⟨⟨n, d⟩, hlg⟩ := Paired.right hp b hb
        rw [nmOf_leg hlg] at q3
        obtain ⟨dx, e⟩ := hlg
        exact ⟨_, rfl, b, _, dx, _, .str n, rfl, s3 _ _ (s2 _ _ e), (leg_cls T d).1, (leg_cls T d).2, rfl, q3 H3 (Same.refl _)⟩
      · refine ⟨D2, S, _, rfl, hd3, _, rfl, l, _, rfl, .inr (hl.ext (s2.trans s3)), _, _, rfl, rfl, _, rfl, ?_⟩
        rw [decide_eq_false (by omega)]
        refine iteF ?_
        refine ⟨_, rfl, top, 1, 3, rfl, ?_⟩
        rw [decide_eq_true (show (1 : Int) ≤ top ∧ top ≤ 3 from ⟨t1, t3⟩)]
        refine ⟨true, rfl, iteF ?_⟩
        have t := s2.trans s3
        refine ⟨_, rfl, r, rfl, ⟨_, hrr.ext t⟩, fun D4 hD4 => lcv walk_tup (fun _ => .bl true) hD4 (fun H' s => hrr.ext (t.trans s)) (show 2 ≤ 1000 by decide) (fun _ => rfl) (fun x hx H4 s4 Q4 q4 => ?_) fun H4 s4 hd4 => ?_⟩
        · have hb : ∃ b, x = V.bl b := by
            rcases List.mem_cons.mp hx with e | hx
            · exact ⟨_, e⟩
            · exact ⟨_, List.mem_singleton.mp hx⟩
          obtain ⟨b, rfl⟩ := hb
          exact ⟨_, rfl, _, _, _, _, true, rfl, .ty "bool", .base (.bl b), kit_ty (by decide +kernel), q4 H4 (Same.refl _)⟩
        · exact ⟨D4, [true, true], rfl, SqL.of hd4, true, rfl, iteT (q H4 (t.trans s4))⟩
end
end Sj
set_option Elab.async false
set_option linter.all false
set_option maxRecDepth 100000
set_option maxHeartbeats 4000000
/-! SjDef5: a frame is made. -/
namespace Sj
open PySem PySem.Spec PyProof.Rows L2 He
theorem leN_eq (a b : NN) : leN a b = leS a.2 b.2 := by
  show (!(PySem.W.dataLt (.str b.2) (.str a.2))) = _
  rw [PySem.W.dataLt_str, ← decide_not]
  unfold leS
  exact decide_eq_decide.mpr List.not_lt
/-- legs by name, ascending -/
def leL (a b : Str × Bool) : Bool := leS a.1 b.1
def srtL (legs : List (Str × Bool)) : List (Str × Bool) := legs.mergeSort leL
theorem srtL_perm (legs : List (Str × Bool)) : (srtL legs).Perm legs := List.mergeSort_perm legs leL
theorem srtL_asc (legs : List (Str × Bool)) : ((srtL legs).map (·.1)).Pairwise fun a b => leS a b = true := by
  rw [List.pairwise_map]
  exact List.pairwise_mergeSort (le := leL) (fun a b c h1 h2 => leS_trans a.1 b.1 c.1 h1 h2) (fun a b => leS_total a.1 b.1) legs
abbrev LT3 := Addr × (Str × Bool)
def le3 (x y : LT3) : Bool := leS x.2.1 y.2.1
theorem sort3 (ts : List LT3) : ((ts.map fun t => ((t.1, t.2.1) : NN)).mergeSort leN) = (ts.mergeSort le3).map fun t => (t.1, t.2.1) :=
  (List.map_mergeSort (f := fun t : LT3 => ((t.1, t.2.1) : NN)) (r := le3) (s := leN) fun a _ b _ => (leN_eq (a.1, a.2.1) (b.1, b.2.1)).symm).symm
theorem sort3L (ts : List LT3) : (ts.mergeSort le3).map (·.2) = srtL (ts.map (·.2)) := List.map_mergeSort (f := fun t : LT3 => t.2) (r := le3) (s := leL) fun a _ b _ => rfl
theorem paired_of {α β : Type} {F : α → β → Prop} : ∀ {ts : List (β × α)}, (∀ t ∈ ts, F t.2 t.1) → Paired F (ts.map (·.2)) (ts.map (·.1))
  | [], _ => .nil
  | t :: r, h => .cons (h t List.mem_cons_self) (paired_of fun u hu => h u (List.mem_cons_of_mem _ hu))
theorem paired_ts {α β : Type} {F : α → β → Prop} {l : List α} {m : List β} (p : Paired F l m) : ∃ ts : List (β × α), ts.map (·.2) = l ∧ ts.map (·.1) = m ∧ ∀ t ∈ ts, F t.2 t.1 := by
  induction p with
  | nil => exact ⟨[], rfl, rfl, fun _ h => by cases h⟩
  | @cons a b l m h t ih =>
    obtain ⟨ts, e1, e2, h3⟩ := ih
    exact ⟨(b, a) :: ts, by rw [List.map_cons, e1], by rw [List.map_cons, e2], fun t ht => (List.mem_cons.mp ht).elim (fun e => e ▸ h) (h3 t)⟩
def frOf (top : Int) (g p : Bool) (legs : List (Str × Bool)) : Fr := ⟨top, g, p, srtL legs⟩
theorem frOf_ok {top : Int} {g p : Bool} {legs : List (Str × Bool)} (t1 : 1 ≤ top) (t3 : top ≤ 3) (nd : (legs.map (·.1)).Nodup) (few : legs.length ≤ 40) (hn : ∀ l ∈ legs, okName l.1 = true) : (frOf top g p legs).Ok where
  top1 := t1
  top3 := t3
  asc := srtL_asc legs
  nd := ((srtL_perm legs).map (fun l : Str × Bool => l.1)).nodup_iff.mpr nd
  few := by show (srtL legs).length ≤ 40; rw [(srtL_perm legs).length_eq]; exact few
  name := fun n h => by
    obtain ⟨l, hl, rfl⟩ := List.mem_map.mp h
    exact hn l ((srtL_perm legs).mem_iff.mp hl)
section
variable {X : Cx} {K : Frg} {h : Heap} {e : Expr} {te : TE}
/-- sorted(e, key=lambda a: a.at_) -/
theorem psortLam {k : Nat} {c P : Addr} {params : Arguments} {scope : Scope} {a at_ : Str} {p p1 p2 lpos kpos pos : Pos} (T : Txt K X.mg h) (hr : Room (k + 8) X.A) (he : PE X e te) (TB : LamX.TabB X.base X.mg c P) (hcode : X.env.code = .ref c) (hdef : defaultsOf params X.env = ([], [])) (hfree : ∀ y ∈ scope.names, y.2 ≠ .free)
    (L : LamP scope a) (hbind : ∀ (pm cv ctv v : Value), bindArgs (PySem.W.kla_fn "<lambda>" (X.env.qual ++ "<lambda>") params (.Attribute (.Name a p1) at_ p2) scope [] pm cv ctv) ⟨[v], []⟩ = pure [(a, v)]) (hd : (a == ("__debug__" : Str)) = false)
    (hab : ∀ env : Env, attributeBase (.Name a p1) at_ env (eval (.Name a p1) env) = eval (.Name a p1) env := by intro _; rfl) (hg : Gl X "sorted" := by rfl) (hs : starEach [e] X.env = (false, eval e X.env) :: starEach [] X.env := by rfl)
    (hx : backTo pos (starEach [e] X.env) = (false, eval e X.env) :: backTo pos (starEach [] X.env) := by rfl) (hpl : (backTo pos (starEach [e] X.env)).any (·.1) = false := by rfl) (hK : X.K = K := by rfl) :
    PE X (.Call (.Name "sorted" p) [e] [⟨some "key", .Lambda params (.Attribute (.Name a p1) at_ p2) scope lpos, kpos⟩] pos) (tCKw (rSortLam K (X.env.qual ++ "<lambda>") params scope a at_ p1 p2) (tCons te tNil) (tCons (tLam1 P (X.env.qual ++ "<lambda>") params (.Attribute (.Name a p1) at_ p2) scope) tNil)) := by
  subst hK
  exact pe_callBK (cr_sortLam hr L hbind hd hab) hg T.b_sorted bt_sorted (pa_cons he pa_nil hs) (pk_cons (pe_lam1 TB hcode hdef hfree) pk_nil) (by decide) (by decide) hx hpl
end
section
variable {P : Program} {w : World} {K : Frg} {mg : Str → Option Value} {base h : Heap}
/-- all but the one at a stays -/
def SameXB (K : Frg) (a : Addr) (H H' : Hp) : Prop := (∀ b o, b ≠ a → H b = some o → (∀ ps, o ≠ .tbl ps) → H' b = some o) ∧ (LamX.TabS H (tF K) lamQ → LamX.TabS H' (tF K) lamQ)
theorem tabS_upd {H : Hp} {P : Addr} {q : Str} {a C dx : Addr} {fs : List (Str × V)} {o : HO} (t : LamX.TabS H P q) (ha : H a = some (.ins C dx fs)) : LamX.TabS (upd H a o) P q := by
  obtain ⟨ps, h1, h2, h3⟩ := t
  refine ⟨ps, (upd_ne (ne_obj h1 ha (fun z => by cases z))).trans h1, h2, fun pos cv hc => ?_⟩
  obtain ⟨c, e1, e2⟩ := h3 pos cv hc
  exact ⟨c, e1, (upd_ne (ne_obj e2 ha (fun z => by cases z))).trans e2⟩
theorem sqT_mono {H H' : Hp} {l : Addr} {xs : List V} (h : SqT K H l xs) (k : ∀ o, H l = some o → (o = .tup xs ∨ ∃ u, o = .frz u (.tup xs)) → H' l = some o) : SqT K H' l xs := by
  rcases h with (h | ⟨u, h⟩) | h
  · exact .inl (.inl (k _ h (.inl rfl)))
  · exact .inl (.inr ⟨u, k _ h (.inr ⟨u, rfl⟩)⟩)
  · exact .inr h
def sp_Frame_init (K : Frg) : Sp := fun vs H Q _ => ∃ (a dx l : Addr) (top : Int) (g p : Bool) (legs : List (Str × Bool)) (as : List Addr), vs = [.ref a, .int top, .bl g, .bl p, .ref l] ∧ H a = some (.ins (ga K "Frame") dx []) ∧ SqT K H l (as.map V.ref) ∧
  Paired (fun l a => LegAt K H a l) legs as ∧ (legs.map (·.1)).Nodup ∧ legs.length ≤ 40 ∧ 1 ≤ top ∧ top ≤ 3 ∧ (∀ l ∈ legs, okName l.1 = true) ∧ LamX.TabS H (tF K) lamQ ∧ ∀ H', SameXB K a H H' → FrAt K H' a (frOf top g p legs) → Q .non H'
theorem fn_Frame_init (T : Txt K mg h) (TB : LamX.TabB base mg (cF K) (tF K)) : FnK P w K mg base 12 (d_Frame_init.loc K) ["top", "ground", "power"] (fun vs zs H Q E => ∃ xs rest, vs = xs ++ rest ∧ xs.length = 1 ∧ rest.length ≤ sizeLine ∧ ∀ p, H p = Option.none → sp_Frame_init K (xs ++ zs ++ [V.ref p]) (upd H p (.tup rest)) Q E) := by
  obtain ⟨uM, oM⟩ := T.oFrame_MOST
  refine mkFnKS (ps := ["self", "top", "ground", "power"]) (pv := "legs") T.d_Frame_init sc_Frame_init rfl (fun kV doc pm an cdv ct us rest ws h1 h2 => match us, h1, rest, ws, h2 with | [_], _, [], [_, _, _], _ => rfl | [_], _, _ :: _, [_, _, _], _ => rfl) (fun cdv A outer s H vs Q E hc hcv hr h => ?_)
  obtain ⟨a, dx, l, top, g, p, legs, as, rfl, ha, hl, hp, nd, few, t1, t3, hn, htb, q⟩ := h
  obtain ⟨c0, hc0⟩ := hc
  have hcode : cdv = .ref (cF K) := by
    unfold cF
    rw [← hcv, hc0]
  refine ⟨_, pss_cons (pset 5 sc_Frame_init.nd (pc (ok_fault_of_frames T) hr (pa_cons (pv 4) (pa_cons (pe_con (pv 0) (by rfl)) (pa_cons (pv 1) (pa_cons (pe_tup (pa_cons (pv 2) (pa_cons (pv 3) pa_nil))) pa_nil))))))
    (pss_cons (ps_if (pt_cmpR op_notN (pv 5) pe_non (by rfl)) pss_never pss_nil)
    (pss_cons (ps_fld (pv 0) (pv 1) (by rfl)) (pss_cons (ps_fld (pv 0) (pv 2) (by rfl)) (pss_cons (ps_fld (pv 0) (pv 3) (by rfl))
    (pss_one (ps_fld (pv 0) (pdc 6 sc_Frame_init.nd (pi_list (psortLam (k := 3) T hr (pv 4) TB hcode (by rfl) (by decide) (by exact ⟨rfl, rfl, rfl, by decide, rfl⟩) (by intro _ _ _ _; rfl) (by decide))) (fun _ _ _ _ _ => pfK K (pv 6)) (fun _ _ _ _ _ => pv 6)) (by rfl))))))), ?_⟩
  refine ⟨_, rfl, _, rfl, a, _, dx, _, .int 40, uM, rfl, ha, T.kFrame, oM, rfl, _, rfl, _, rfl, _, rfl, by rw [sizeLine_eq]; exact (by decide : 2 ≤ 16777216), fun r hrr => ?_⟩
  refine ⟨l, r, top, legs, as, g, p, rfl, hl.ext (same_new hrr), SqT.of upd_same, paired_imp (fun _ _ x => x.mono (Same.L (same_new hrr))) hp, nd, few, t1, t3, fun H1 (s1 : Same _ H1) => ?_⟩
  have s1 := (same_new hrr).trans s1
  refine ⟨_, rfl, rfl, false, rfl, iteF ?_⟩
  have ha1 := s1 _ _ ha
  refine ⟨_, rfl, _, rfl, a, _, dx, _, rfl, ha1, T.kFrame, T.nFrame_top, by decide, ?_⟩
  refine ⟨_, rfl, _, rfl, a, _, dx, _, rfl, upd_same, T.kFrame, T.nFrame_ground, show 1 < 1000 by decide, ?_⟩
  refine ⟨_, rfl, _, rfl, a, _, dx, _, rfl, upd_same, T.kFrame, T.nFrame_power, show 2 < 1000 by decide, ?_⟩
  have hu : ∀ {H' : Hp} {o1 o2 o3 : HO}, upd (upd (upd H' a o1) a o2) a o3 = upd H' a o3 := fun {H' o1 o2 o3} => by
    funext b
    by_cases e : b = a
    · rw [e, upd_same, upd_same]
    · rw [upd_ne e, upd_ne e, upd_ne e, upd_ne e]
  rw [hu]
  have tb4 : LamX.TabS (upd H1 a (.ins (ga K "Frame") dx [("top", .int top), ("ground", .bl g), ("power", .bl p)])) (tF K) lamQ := tabS_upd (htb.ext s1) ha1
  refine ⟨_, rfl, tb4, fun f c' H5 e5 t5 hf hc' => ?_⟩
  have k5 : ∀ b o, b ≠ a → H b = some o → (∀ ps, o ≠ .tbl ps) → H5 b = some o := fun b o hb e n => e5 b o ((upd_ne hb).trans (s1 b o e)) n
  have leg5 : ∀ {b : Addr} {l : Str × Bool}, LegAt K H b l → LegAt K H5 b l := fun {b l} ⟨dx2, e⟩ => ⟨dx2, k5 b _ (ne_obj e ha (fun z => by injection z with _ _ z; cases z)) e (fun _ z => by cases z)⟩
  obtain ⟨ts, e1, e2, h3⟩ := paired_ts hp
  have hxs : (ts.map fun t => ((t.1, t.2.1) : NN)).map refN = as.map V.ref := by
    rw [List.map_map, ← e2, List.map_map]
    rfl
  have hlen : ts.length = legs.length := by rw [← e1, List.length_map]
  refine ⟨l, f, c', ts.map fun t => (t.1, t.2.1), rfl, rfl, hf, hc', ?_, by rw [List.length_map]; omega, fun b hb => ?_, fun p5 hp5 => ?_⟩
  · rw [hxs]
    exact sqT_mono hl fun o ho hk => k5 _ _ (fun e => by
      rw [e, ha] at ho
      rcases hk with hk | ⟨u, hk⟩
      · rw [hk] at ho; cases ho
      · rw [hk] at ho; cases ho) ho (fun ps e => by
      rcases hk with hk | ⟨u, hk⟩
      · rw [hk] at e; cases e
      · rw [hk] at e; cases e)
  · obtain ⟨⟨b, n, d⟩, ht, rfl⟩ := List.mem_map.mp hb
    obtain ⟨dx2, eb⟩ := leg5 (h3 _ ht)
    exact ⟨_, dx2, _, eb, (leg_cls T d).1, (leg_cls T d).2, rfl⟩
  rw [sort3, List.map_map]
  have hts : ∀ t ∈ ts.mergeSort le3, LegAt K H t.1 t.2 := fun t ht => h3 t ((List.mergeSort_perm ts le3).mem_iff.mp ht)
  have hz3 : (ts.mergeSort le3).length = legs.length := by rw [(List.mergeSort_perm ts le3).length_eq, hlen]
  have hkey : ((ts.mergeSort le3).map (refN ∘ fun t : LT3 => ((t.1, t.2.1) : NN))).map (nmOf H) = (ts.mergeSort le3).map fun t => Sum.inr t.2.1 := by
    rw [List.map_map]
    exact List.map_congr_left fun t ht => nmOf_leg (hts t ht)
  have hnd : ((ts.mergeSort le3).map fun t => (Sum.inr t.2.1 : Key)).Nodup := by
    have := nodup_keys (((List.mergeSort_perm ts le3).map fun t : LT3 => t.2.1).nodup_iff.mpr (by
      rw [← e1, List.map_map] at nd
      exact nd))
    rw [List.map_map] at this
    exact this
  refine ⟨p5, rfl, ⟨_, SqL.of upd_same⟩, fun D hD => dcm walk_list (fun _ => true) (nmOf H) (fun _ x y _ => y = x) hD (fun H' s => SqL.of (s _ _ upd_same)) (fun _ _ _ _ _ h => h) (by rw [List.length_map, hz3]; omega) ?_ (fun _ => rfl)
    (fun x hx H2 s2 Q2 q2 => q2 H2 (Same.refl _)) (fun x hx _ H2 s2 Q2 q2 => ?_) (fun x hx _ H2 kvs2 s2 hd2 Q2 q2 => ⟨x, rfl, q2 x H2 (Same.refl _) rfl⟩) (fun kvs H6 s6 hd6 pr => ?_)⟩
  · rw [List.filter_eq_self.mpr fun _ _ => rfl, hkey]
    exact hnd
  · obtain ⟨⟨b, n, d⟩, ht, rfl⟩ := List.mem_map.mp hx
    obtain ⟨dx2, eb⟩ := leg5 (hts _ ht)
    have e : nmOf H (V.ref b) = .inr n := nmOf_leg (hts _ ht)
    have q3 := q2 H2 (Same.refl _)
    change Q2 (kV (nmOf H (V.ref b))) H2 at q3
    rw [e] at q3
    exact ⟨_, rfl, b, _, dx2, _, .str n, rfl, s2 _ _ (same_new hp5 _ _ eb), (leg_cls T d).1, (leg_cls T d).2, rfl, q3⟩
  · rw [List.filter_eq_self.mpr fun _ _ => rfl] at pr
    have s56 : Same H5 H6 := (same_new hp5).trans s6
    have ha5 : H5 a = some (.ins (ga K "Frame") dx [("top", .int top), ("ground", .bl g), ("power", .bl p)]) := e5 _ _ upd_same (fun _ z => by cases z)
    have hkv : kvs = ((srtL legs).zip ((ts.mergeSort le3).map (·.1))).map fun p => ((Sum.inr p.1.1 : Key), V.ref p.2) := by
      have e3 := paired_map (g := fun x => (nmOf H x, x)) (Paired.mapP pr fun x kv ⟨h1, h2⟩ => Prod.ext h1 h2)
      rw [e3, ← e1, ← sort3L, List.zip_map', List.map_map, List.map_map]
      refine List.map_congr_left fun t ht => ?_
      show (nmOf H (V.ref t.1), V.ref t.1) = (Sum.inr t.2.1, V.ref t.1)
      rw [nmOf_leg (hts t ht)]
    refine ⟨_, rfl, a, _, dx, _, rfl, s56 _ _ ha5, T.kFrame, T.nFrame_own_legs, show 3 < 1000 by decide, ?_⟩
    refine q _ ⟨fun b o hb e n => (upd_ne hb).trans (s56 _ _ (k5 b o hb e n)), fun _ => tabS_upd (t5.ext s56) (s56 _ _ ha5)⟩ ?_
    have hDa : D ≠ a := ne_obj hd6 (s56 _ _ ha5) (fun z => by cases z)
    refine ⟨dx, D, (ts.mergeSort le3).map (·.1), upd_same, ⟨(upd_ne hDa).trans (hkv ▸ hd6), ?_⟩, frOf_ok t1 t3 nd few hn⟩
    show Paired _ (srtL legs) _
    rw [← e1, ← sort3L]
    refine paired_of fun t ht => ?_
    obtain ⟨dx2, e⟩ := hts t ht
    have hb : t.1 ≠ a := ne_obj e ha (fun z => by injection z with _ _ z; cases z)
    exact ⟨dx2, (upd_ne hb).trans (s56 _ _ (k5 _ _ hb e fun _ z => by cases z))⟩
end
end Sj
set_option Elab.async false
set_option linter.all false
set_option maxRecDepth 100000
set_option maxHeartbeats 4000000
/-! SjDef6: Frame.of; is_word; Word. -/
namespace Sj
open PySem PySem.Spec PyProof.Rows L2 He
section
variable {P : Program} {w : World} {K : Frg} {mg : Str → Option Value} {base h : Heap}
theorem k_Frame (T : Txt K mg h) (TB : LamX.TabB base mg (cF K) (tF K)) : KFK P w K mg base (ga K "Frame") 12 ["top", "ground", "power"] (fun vs zs H Q E => ∃ xs rest, vs = xs ++ rest ∧ xs.length = 1 ∧ rest.length ≤ sizeLine ∧ ∀ p, H p = Option.none → sp_Frame_init K (xs ++ zs ++ [V.ref p]) (upd H p (.tup rest)) Q E) :=
  ⟨_, T.mkFrame, fn_Frame_init T TB⟩
def sp_Frame_of (K : Frg) : Sp := fun vs H Q _ => ∃ (l : Addr) (top : Int) (g p : Bool) (legs : List (Str × Bool)) (as : List Addr), vs = [.ref (ga K "Frame"), .ref l, .int top, .bl g, .bl p] ∧ H l = some (.lst (as.map V.ref)) ∧
  Paired (fun l a => LegAt K H a l) legs as ∧ (legs.map (·.1)).Nodup ∧ legs.length ≤ 40 ∧ 1 ≤ top ∧ top ≤ 3 ∧ (∀ l ∈ legs, okName l.1 = true) ∧ LamX.TabS H (tF K) lamQ ∧ ∀ a H', SameX K H H' → FrAt K H' a (frOf top g p legs) → Q (.ref a) H'
theorem c_Frame_of (T : Txt K mg h) (TB : LamX.TabB base mg (cF K) (tF K)) : CFK P w K mg base (ga K "Frame") "of" 14 ["top", "ground", "power"] (fun vs zs H Q E => vs.length = 2 ∧ sp_Frame_of K (vs ++ zs) H Q E) := by
  refine ⟨_, _, _, T.rFrame, T.cFrame_of, mkFnK (ps := ["cls", "legs", "top", "ground", "power"]) T.d_Frame_of sc_Frame_of (fun kV doc pm an cdv ct us ws h1 h2 => match us, h1, ws, h2 with | [_, _], _, [_, _, _], _ => rfl) (fun vs H Q E h => ?_) (fun cdv A outer s H vs Q E hr h => ?_)⟩
  · obtain ⟨l, top, g, p, legs, as, rfl, _⟩ := h
    rfl
  · obtain ⟨l, top, g, p, legs, as, rfl, hl, hp, nd, few, t1, t3, hn, htb, q⟩ := h
    refine ⟨_, pss_cons (ps_if (pt_not (pt_val (pisLT T (pv 1)))) pss_never pss_nil) (pss_one (ps_ret (pksK (k_Frame T TB) hr (pv 0) (pv 1) (pk_cons (pv 2) (pk_cons (pv 3) (pk_cons (pv 4) pk_nil)))))), ?_⟩
    refine ⟨_, rfl, le2, fun tp htp => ⟨l, tp, _, rfl, upd_same, .inl (same_new htp _ _ hl), true, rfl, iteF ?_⟩⟩
    have s1 := same_new (o := .tup [V.ty "list", V.ty "tuple"]) htp
    refine ⟨_, rfl, rfl, _, rfl, l, rfl, _, rfl, _, rfl, _, rfl, rfl, _, .inr (SqL.of (s1 _ _ hl)), fun x dx hx hdx hne => ?_⟩
    refine ⟨[.ref x], as.map V.ref, rfl, rfl, by rw [List.length_map, sizeLine_eq, ← len_of_paired hp]; omega, fun r hr0 => ?_⟩
    have hn0 : ∀ {b : Addr} {o : HO}, H b = some o → b ≠ x ∧ b ≠ dx := fun {b o} e => ⟨ne_of_none (s1 _ _ e) hx, ne_of_none (s1 _ _ e) hdx⟩
    have s2 : Same H (upd (upd (upd (upd H tp (.tup [V.ty "list", V.ty "tuple"])) dx (.own x)) x (.ins (ga K "Frame") dx [])) r (.tup (as.map V.ref))) := fun b o e => by
      rw [upd_ne (ne_of_none (o := o) (by rw [upd_ne (hn0 e).1, upd_ne (hn0 e).2]; exact s1 _ _ e) hr0), upd_ne (hn0 e).1, upd_ne (hn0 e).2]
      exact s1 _ _ e
    have hxr : x ≠ r := ne_of_none upd_same hr0
    refine ⟨x, dx, r, top, g, p, legs, as, rfl, (upd_ne hxr).trans upd_same, SqT.of upd_same, paired_imp (fun _ _ z => z.mono (Same.L s2)) hp, nd, few, t1, t3, hn, htb.ext s2, fun H3 s3 hf => ⟨rfl, q x H3 ⟨fun b o e n => s3.1 b o (hn0 e).1 (s2 _ _ e) n, fun t => s3.2 (t.ext s2)⟩ hf⟩⟩
def sp_is_word (K : Frg) : Sp := fun vs H Q _ => ∃ f r a, vs = [.ref f, .ref a] ∧ (∃ fr, FrAt K H f fr) ∧ WordAt K H a f r ∧ ∀ H', Same H H' → Q (.bl true) H'
theorem ok_is_word (T : Txt K mg h) : GF P w K mg base "is_word" 4 (sp_is_word K) := by
  refine ⟨_, T.g_is_word, keepX T.d_is_word, mkFn T.d_is_word sc_is_word rfl (fun _ _ _ _ _ _ us hl => match us, hl with | [_, _], _ => rfl) (fun vs H Q E h => ?_) (fun cdv A outer s H vs Q E hr h => ?_)⟩
  · obtain ⟨f, r, a, rfl, _⟩ := h
    rfl
  · obtain ⟨f, r, a, rfl, ⟨fr, hf⟩, ⟨dx, L, ha, hL⟩, q⟩ := h
    refine ⟨_, pss_one (ps_ret (pe_and (pisC T T.kWord T.iWord T.tWord T.gWord (pv 1)) (pe_one (pe_cmpR (op_eqO (sf_Frame_eq T) hr) (pf (pv 1)) (pv 0) (by rfl))))), ?_⟩
    have hf0 := hf
    obtain ⟨dx2, L2, as, hfa, _⟩ := hf
    exact ⟨_, rfl, a, dx, _, rfl, ha, true, rfl, iteT ⟨_, rfl, a, _, dx, _, .ref f, rfl, ha, T.kWord, T.nWord_frame, rfl, _, rfl, f, f, dx2, dx2, _, _, rfl, rfl, hfa, hfa, f, fr, rfl, hf0, fun H1 s1 => ⟨true, rfl, q H1 s1⟩⟩⟩
end
end Sj
set_option Elab.async false
set_option linter.all false
set_option maxRecDepth 100000
set_option maxHeartbeats 4000000
/-! SjComp2: comprehensions and loops over texts. -/
namespace Sj
open PySem PySem.Spec PyProof.Rows L2 He
/-- what a list comprehension asks of its loop -/
abbrev LcG (J : It) (g : TG) (tt : TT) (te : TE) (vs : List Nat) (σ : L2.St) (H1 : Hp) (D : Addr) (Qd : Hp → Prop) : Prop :=
    ∃ W : Nat → Nat → Hp → Prop, (∃ m, W 0 m (upd H1 D (.lst []))) ∧ ∀ i m H, W i m H →
      (J.stop i H ∧ Qd H) ∨ (J.go i H ∧ ∃ Nx : Hp → Prop, (∀ H', Nx H' → ∃ m', m' < m ∧ W (i + 1) m' H') ∧ ∀ x H', J.yld i H x H' → g x (wipe σ vs) H' fun σ2 H2 => wipe σ2 vs = wipe σ vs ∧ tt σ2 H2 fun b H3 =>
        if b = true then te σ2 H3 fun y H4 => ∃ acc, H4 D = some (.lst acc) ∧ acc.length < sizeLine ∧ Nx (upd H4 D (.lst (acc ++ [y]))) else Nx H3)
abbrev DcG (J : It) (g : TG) (tt : TT) (tk te : TE) (vs : List Nat) (σ : L2.St) (H1 : Hp) (D : Addr) (Qd : Hp → Prop) : Prop :=
    ∃ W : Nat → Nat → Hp → Prop, (∃ m, W 0 m (upd H1 D (.dK []))) ∧ ∀ i m H, W i m H →
      (J.stop i H ∧ Qd H) ∨ (J.go i H ∧ ∃ Nx : Hp → Prop, (∀ H', Nx H' → ∃ m', m' < m ∧ W (i + 1) m' H') ∧ ∀ x H', J.yld i H x H' → g x (wipe σ vs) H' fun σ2 H2 => wipe σ2 vs = wipe σ vs ∧ tt σ2 H2 fun b H3 =>
        if b = true then tk σ2 H3 fun y H4 => te σ2 H4 fun z H5 => ∃ kvs k, y = kV k ∧ H5 D = some (.dK kvs) ∧ kvs.length < sizeLine ∧ Nx (upd H5 D (.dK (putK kvs k z))) else Nx H3)
def strOf : V → Str
  | .str n => n
  | _ => ""
theorem vS_len (xs : List Str) : (vS xs).length = xs.length := List.length_map _
theorem vS_str (xs : List Str) : (vS xs).map strOf = xs := by
  rw [vS, List.map_map]
  exact List.map_id _
theorem vS_filter (f : Str → Bool) (xs : List Str) : (vS xs).filter (fun v => f (strOf v)) = vS (xs.filter f) := by
  rw [vS, List.filter_map]
  rfl
section
variable {J : It} {xs : List Str} {G : Hp → Prop} {j : Nat} {tt : TT} {te tk : TE} {vs : List Nat} {σ : L2.St} {H1 : Hp} {D : Addr} {Qd : Hp → Prop}
/-- [g x for x in xs] -/
theorem lcS (wk : Walk J (vS xs).length G (YAt (vS xs))) (g : Str → V) (hD : H1 D = none) (hG : ∀ H', Same H1 H' → G H') (hz : xs.length ≤ 1000) (hw : ∀ x, wipe ((wipe σ vs).set j (some x)) vs = wipe σ vs)
    (he : ∀ n ∈ xs, ∀ H2, Same H1 H2 → ∀ Q : VK, (∀ H3, Same H2 H3 → Q (g n) H3) → te ((wipe σ vs).set j (some (.str n))) H2 Q)
    (k : ∀ H2, Same H1 H2 → H2 D = some (.lst (xs.map g)) → Qd H2) : LcG J (gName j) tYes te vs σ H1 D Qd :=
  lcv wk (fun v => g (strOf v)) hD hG (by rw [vS_len]; exact hz) hw (fun x hx H2 s Q q => by
    obtain ⟨n, hn, rfl⟩ := List.mem_map.mp hx
    exact he n hn H2 s Q q) fun H2 s hd => k H2 s (by
    rw [vS, List.map_map] at hd
    exact hd)
/-- [x for x in xs if f x] -/
theorem lfS (wk : Walk J (vS xs).length G (YAt (vS xs))) (f : Str → Bool) (hD : H1 D = none) (hG : ∀ H', Same H1 H' → G H') (hz : xs.length ≤ 1000) (hw : ∀ x, wipe ((wipe σ vs).set j (some x)) vs = wipe σ vs) (hj : ∀ x, ((wipe σ vs).set j (some x))[j]? = some (some x))
    (ht : ∀ n ∈ xs, ∀ H2, Same H1 H2 → ∀ Q : Bool → Hp → Prop, (∀ H3, Same H2 H3 → Q (f n) H3) → tt ((wipe σ vs).set j (some (.str n))) H2 Q)
    (k : ∀ H2, Same H1 H2 → H2 D = some (.lst (vS (xs.filter f))) → Qd H2) : LcG J (gName j) tt (tVar j) vs σ H1 D Qd :=
  lcf wk (fun v => f (strOf v)) hD hG (by rw [vS_len]; exact hz) hw hj (fun x hx H2 s Q q => by
    obtain ⟨n, hn, rfl⟩ := List.mem_map.mp hx
    exact ht n hn H2 s Q q) fun H2 s hd => k H2 s (by rw [vS_filter] at hd; exact hd)
/-- {x: g x for x in xs if f x} -/
theorem dcS (wk : Walk J (vS xs).length G (YAt (vS xs))) (f : Str → Bool) (g : Str → V) (nd : (xs.filter f).Nodup) (hD : H1 D = none) (hG : ∀ H', Same H1 H' → G H') (hz : xs.length ≤ 1000) (hw : ∀ x, wipe ((wipe σ vs).set j (some x)) vs = wipe σ vs)
    (ht : ∀ n ∈ xs, ∀ H2, Same H1 H2 → ∀ Q : Bool → Hp → Prop, (∀ H3, Same H2 H3 → Q (f n) H3) → tt ((wipe σ vs).set j (some (.str n))) H2 Q)
    (hk : ∀ n ∈ xs, f n = true → ∀ H2, Same H1 H2 → ∀ Q : VK, (∀ H3, Same H2 H3 → Q (.str n) H3) → tk ((wipe σ vs).set j (some (.str n))) H2 Q)
    (he : ∀ n ∈ xs, f n = true → ∀ H2, Same H1 H2 → ∀ Q : VK, (∀ H3, Same H2 H3 → Q (g n) H3) → te ((wipe σ vs).set j (some (.str n))) H2 Q)
    (k : ∀ H2, Same H1 H2 → H2 D = some (.dK ((xs.filter f).map fun n => (.inr n, g n))) → Qd H2) : DcG J (gName j) tt tk te vs σ H1 D Qd :=
  dcm wk (fun v => f (strOf v)) (fun v => .inr (strOf v)) (fun _ x y _ => y = g (strOf x)) hD hG (fun _ _ _ _ _ h => h) (by rw [vS_len]; exact hz) (by
    rw [vS_filter, vS, List.map_map]
    exact nodup_keys nd) hw (fun x hx H2 s Q q => by
    obtain ⟨n, hn, rfl⟩ := List.mem_map.mp hx
    exact ht n hn H2 s Q q) (fun x hx hf H2 s Q q => by
    obtain ⟨n, hn, rfl⟩ := List.mem_map.mp hx
    exact hk n hn hf H2 s Q q) (fun x hx hf H2 kvs s _ Q q => by
    obtain ⟨n, hn, rfl⟩ := List.mem_map.mp hx
    exact he n hn hf H2 s Q fun H3 s3 => q _ H3 s3 rfl) fun kvs H2 s hd pr => k H2 s (by
    rw [vS_filter] at pr
    have e := paired_map (g := fun x : V => ((.inr (strOf x) : Key), g (strOf x))) (Paired.mapP pr fun x kv ⟨h1, h2⟩ => Prod.ext h1 h2)
    rw [vS, List.map_map] at e
    rw [hd, e]
    rfl)
/-- {x: .. for x in xs}, the values new objects -/
theorem dcA (wk : Walk J (vS xs).length G (YAt (vS xs))) (F : Str → Addr → Hp → Prop) (hF : ∀ n a H H', SameB D H H' → a ≠ D → F n a H → F n a H') (nd : xs.Nodup) (hD : H1 D = none) (hG : ∀ H', Same H1 H' → G H') (hz : xs.length ≤ 1000) (hw : ∀ x, wipe ((wipe σ vs).set j (some x)) vs = wipe σ vs)
    (hk : ∀ n ∈ xs, ∀ H2, Same H1 H2 → ∀ Q : VK, (∀ H3, Same H2 H3 → Q (.str n) H3) → tk ((wipe σ vs).set j (some (.str n))) H2 Q)
    (he : ∀ n ∈ xs, ∀ H2, Same H1 H2 → (∃ kvs, H2 D = some (.dK kvs)) → ∀ Q : VK, (∀ a H3, Same H2 H3 → a ≠ D → F n a H3 → Q (.ref a) H3) → te ((wipe σ vs).set j (some (.str n))) H2 Q)
    (k : ∀ as H2, Same H1 H2 → H2 D = some (.dK ((xs.zip as).map fun p => (.inr p.1, .ref p.2))) → Paired (fun n a => F n a H2) xs as → Qd H2) : DcG J (gName j) tYes tk te vs σ H1 D Qd :=
  dcm wk (fun _ => true) (fun v => .inr (strOf v)) (fun D x y H => ∃ a, y = .ref a ∧ a ≠ D ∧ F (strOf x) a H) hD hG (fun x y H H' s ⟨a, e, n, h⟩ => ⟨a, e, n, hF _ a H H' s n h⟩) (by rw [vS_len]; exact hz) (by
    rw [List.filter_eq_self.mpr fun _ _ => rfl, vS, List.map_map]
    exact nodup_keys nd) hw (fun x hx H2 s Q q => q H2 (Same.refl _)) (fun x hx hf H2 s Q q => by
    obtain ⟨n, hn, rfl⟩ := List.mem_map.mp hx
    exact hk n hn H2 s Q q) (fun x hx hf H2 kvs s hd Q q => by
    obtain ⟨n, hn, rfl⟩ := List.mem_map.mp hx
    exact he n hn H2 s ⟨kvs, hd⟩ Q fun a H3 s3 ne h3 => q _ H3 s3 ⟨a, rfl, ne, h3⟩) fun kvs H2 s hd pr => by
    rw [List.filter_eq_self.mpr fun _ _ => rfl] at pr
    have : ∀ {ys : List Str} {kvs : List (Key × V)}, Paired (fun x (kv : Key × V) => kv.1 = Sum.inr (strOf x) ∧ ∃ a, kv.2 = V.ref a ∧ a ≠ D ∧ F (strOf x) a H2) (vS ys) kvs → ∃ as, kvs = (ys.zip as).map (fun p => (.inr p.1, .ref p.2)) ∧ Paired (fun n a => F n a H2) ys as := by
      intro ys
      induction ys with
      | nil => intro kvs p; cases p; exact ⟨[], rfl, .nil⟩
      | cons y r ih =>
        intro kvs p
        cases p with
        | @cons _ kv _ r2 h t =>
          obtain ⟨as, e, p2⟩ := ih t
          obtain ⟨e1, a, e2, _, h2⟩ := h
          refine ⟨a :: as, ?_, .cons h2 p2⟩
          rw [List.zip_cons_cons, List.map_cons, ← e]
          obtain ⟨k1, v1⟩ := kv
          simp only at e1 e2
          rw [e1, e2]
          rfl
    obtain ⟨as, e, p⟩ := this pr
    exact k as H2 s (e ▸ hd) p
end
/-- a dict's keys -/
theorem walk_keysL {d : Addr} {o : Obj} {kvs : List (Key × V)} : Walk (Itk d o kvs) (kvs.map fun kv => kV kv.1).length (fun H => H d = some (.frz o (.dK kvs))) (YAt (kvs.map fun kv => kV kv.1)) := by
  rw [List.length_map]
  refine walk_keys.mono (fun H h => h) fun i H x H' _ _ ⟨e, k, v, h1, h2⟩ => ⟨e, ?_⟩
  rw [List.getElem?_map, h1, h2]
  rfl
section
variable {X : Cx} {iter : Expr} {x y : Str} {tp pos px py pt : Pos} {k2 : Nat} {body : List Stmt} {wi : TI} {tb : TS}
theorem pfor (i : Nat) (hN : X.N.Nodup) (hi : PI X (.Name x tp) iter wi) (hb : PSs X body tb) (hp : PassesOwn (model X.prog X.w) X.A X.env X.xe := by exact PassesOwn.never) (hc : X.calm = true := by rfl) (h1 : X.N[i]? = some x := by rfl) (h2 : Loc X.env.scope x := by first | exact Or.inl rfl | exact Or.inr rfl)
    (h3 : X.fn x = true ∨ X.env.scope.names.lookup x = some .local := by first | exact .inl rfl | exact .inr rfl) (hs : ∀ x, foldedSetIterable iter X.env x = pure x := by intro _; rfl) : PS X (.For (.Name x tp) iter body [] pos) (tFor wi (gName i) tb) :=
  ps_for hp hc hi (pg_name hN h1 h2 h3) hb hs
theorem pfor2 (i j : Nat) (hN : X.N.Nodup) (hi : PI X (.Tuple [.Name x px, .Name y py] k2 pt) iter wi) (hb : PSs X body tb) (hp : PassesOwn (model X.prog X.w) X.A X.env X.xe := by exact PassesOwn.never) (hc : X.calm = true := by rfl) (h1 : X.N[i]? = some x := by rfl) (h1y : X.N[j]? = some y := by rfl) (h2 : Loc X.env.scope x := by first | exact Or.inl rfl | exact Or.inr rfl)
    (h2y : Loc X.env.scope y := by first | exact Or.inl rfl | exact Or.inr rfl) (h3 : X.fn x = true ∨ X.env.scope.names.lookup x = some .local := by first | exact .inl rfl | exact .inr rfl) (h3y : X.fn y = true ∨ X.env.scope.names.lookup y = some .local := by first | exact .inl rfl | exact .inr rfl) (hs : ∀ x, foldedSetIterable iter X.env x = pure x := by intro _; rfl) :
    PS X (.For (.Tuple [.Name x px, .Name y py] k2 pt) iter body [] pos) (tFor wi (g2 X.K i j) tb) :=
  ps_for hp hc hi (pg_tup hc (pgs_cons (pg_name hN h1 h2 h3) (pgs_cons (pg_name hN h1y h2y h3y) pgs_nil))) hb hs
end
end Sj
set_option Elab.async false
set_option linter.all false
set_option maxRecDepth 100000
set_option maxHeartbeats 4000000
/-! SjDef7: levels_of; Word. -/
namespace Sj
open PySem PySem.Spec PyProof.Rows L2 He
section
variable {X : Cx} {o i : Expr} {td ty : TE} {pos : Pos}
theorem pdg (hu : X.A.units + 1 < cLine) (ho : PE X o td) (hi : PE X i ty) (hs : NoSl i := by intro _ _; rfl) : PE X (.Subscript o i pos) (tDGet td ty) := pe_dget hu ho hi hs
theorem pdg2 {i2 : Expr} {t2 : TE} {apos : Pos} (hu : X.A.units + 1 < cLine) (ho : PE X o td) (hi : PE X i ty) (h2 : PE X i2 t2) : PE X o td := ho
end
theorem valV_row (r : List (Str × Int)) (n : Str) : valV (rowK r) (.inr n) = (r.lookup n).map V.int := by
  induction r with
  | nil => rfl
  | cons p t ih =>
    obtain ⟨m, l⟩ := p
    show valV ((Sum.inr m, V.int l) :: rowK t) (.inr n) = _
    rw [List.lookup_cons]
    by_cases e : m = n
    · rw [valV_pos (by rw [e]), e, beq_self_eq_true]
      rfl
    · rw [valV_neg (fun z => e (Sum.inr.inj z)), beq_eq_false_iff_ne.mpr (fun z => e z.symm)]
      exact ih
theorem row_keys (r : List (Str × Int)) : (rowK r).map (fun kv => kV kv.1) = vS (r.map (·.1)) := by
  rw [rowK, vS, List.map_map, List.map_map]
  rfl
/-- a word's row, as the word keeps it -/
def told (top : Int) (r : List (Str × Int)) : List (Str × Int) := ((srt (r.map (·.1))).filter fun n => decide ((r.lookup n).getD 0 < top)).map fun n => (n, (r.lookup n).getD 0)
structure RowOk (f : Fr) (r : List (Str × Int)) : Prop where
  nd : (r.map (·.1)).Nodup
  few : r.length ≤ 40
  drv : ∀ p ∈ r, p.1 ∈ f.drivers
  lo : ∀ p ∈ r, 0 ≤ p.2
  hi : ∀ p ∈ r, p.2 ≤ f.top
theorem RowOk.get {f : Fr} {r : List (Str × Int)} (h : RowOk f r) {n : Str} (hn : n ∈ r.map (·.1)) : ∃ l, (n, l) ∈ r ∧ r.lookup n = some l := by
  obtain ⟨⟨m, l⟩, hp, rfl⟩ := List.mem_map.mp hn
  exact ⟨l, hp, lookup_nd h.nd hp⟩
section
variable {P : Program} {w : World} {K : Frg} {mg : Str → Option Value} {base h : Heap}
def sp_levels_of (K : Frg) : Sp := fun vs H Q _ => ∃ (a L : Addr) (f : Fr) (r : List (Str × Int)), vs = [.ref a, .ref L] ∧ FrAt K H a f ∧ H L = some (.dK (rowK r)) ∧ RowOk f r ∧ ∀ D H', Same H H' → H' D = some (.dK (rowK (told f.top r))) → Q (.ref D) H'
theorem ok_levels_of (T : Txt K mg h) : GF P w K mg base "levels_of" 5 (sp_levels_of K) := by
  refine ⟨_, T.g_levels_of, keepX T.d_levels_of, mkFn T.d_levels_of sc_levels_of rfl (fun _ _ _ _ _ _ us hl => match us, hl with | [_, _], _ => rfl) (fun vs H Q E h => ?_) (fun cdv A outer s H vs Q E hr h => ?_)⟩
  · obtain ⟨a, L, f, r, rfl, _⟩ := h
    rfl
  · obtain ⟨a, L, f, r, rfl, hf, hL, ok, q⟩ := h
    have hf0 := hf
    obtain ⟨dx, L2, as, ha, _, fok⟩ := hf
    have hks : (rowK r).map (·.1) = (r.map (·.1)).map Sum.inr := by
      rw [rowK, List.map_map, List.map_map]
      rfl
    have h64 : (r.map (·.1)).length < 64 := by rw [List.length_map]; have := ok.few; omega
    refine ⟨_, pss_cons (ps_if (pt_not (pt_val (pall T (pe_lock (plc 2 sc_levels_of.nd (pi_keys (pv 1)) (fun _ _ _ _ _ => pisStr T (pv 2))))))) pss_never pss_nil)
      (pss_cons (pfor 2 sc_levels_of.nd (pi_list (pe_callB (call_sortedD rfl) (by rfl) T.b_sorted bt_sorted (pa_cons (pv 1) pa_nil))) (pss_one (ps_if (PW.pt (pw_or (pt_cmpR op_notIn_seq (pv 2) (pp (pr_Frame_drivers T) hr (pv 0)) (by rfl)) (pw_or1 (pt_not (pt_val (pc (ok_is_between T) hr (pa_cons (pdg (u1 hr) (pv 1) (pv 2)) (pa_cons pe_int (pa_cons (pf (pv 0)) pa_nil))))))))) pss_never pss_nil)))
      (pss_one (ps_ret (pdcIf 2 sc_levels_of.nd (pi_list (pe_callB (call_sortedD rfl) (by rfl) T.b_sorted bt_sorted (pa_cons (pv 1) pa_nil))) (fun _ _ _ _ _ => pt_cmpR op_lt (pdg (u1 hr) (pv 1) (pv 2)) (pfK K (pv 0)) (by rfl)) (fun _ _ _ _ _ => pv 2) (fun _ _ _ _ _ => pdg (u1 hr) (pv 1) (pv 2)))))), ?_⟩
    refine ⟨L, _, hL, trivial, fun od => ⟨_, rfl, L, od, rfl, .inl ⟨_, upd_same, fun D hD => ?_⟩⟩⟩
    have hwk := walk_keysL (d := L) (o := od) (kvs := rowK r)
    rw [row_keys] at hwk
    refine lcS hwk (fun _ => .bl true) hD (fun H' s => s _ _ upd_same) (by omega) (fun _ => rfl) (fun n hn H2 s2 Q2 q2 => ⟨_, rfl, n, rfl, q2 H2 (Same.refl _)⟩) (fun H2 s2 hd2 => ?_)
    have hf2 := s2 _ _ upd_same
    have s3 := same_unlock hL s2
    refine ⟨hf2, D, (r.map (·.1)).map fun _ => true, rfl, SqL.of ((upd_ne (ne_obj hd2 hf2 (fun z => by cases z))).trans (by rw [hd2, List.map_map (l := r.map (·.1))]; rfl)), ?_⟩
    rw [all_true]
    refine ⟨true, rfl, iteF ?_⟩
    generalize upd H2 L (.dK (rowK r)) = H3 at s3
    refine ⟨_, rfl, L, _, _, rfl, .inl (s3 _ _ hL), hks, h64, fun ys p hpm hso hp => ?_⟩
    rw [srt_of hpm hso]
    refine ⟨p, rfl, ⟨_, SqL.of upd_same⟩, ?_⟩
    have s4 := s3.trans (same_new (o := .lst ((srt (r.map (·.1))).map V.str)) hp)
    have hp4 : (upd H3 p (.lst ((srt (r.map (·.1))).map V.str))) p = some (.lst (vS (srt (r.map (·.1))))) := upd_same
    generalize upd H3 p (.lst ((srt (r.map (·.1))).map V.str)) = H4 at s4 hp4
    refine for_it walk_list (fun _ σ H' => Same H4 H' ∧ ∃ v, σ = [some (.ref a), some (.ref L), v]) ⟨Same.refl _, _, rfl⟩ (fun i σ H' _ h => SqL.of (h.1 _ _ hp4)) (fun i x σ H5 H' hi h5 hy => ?_) (fun σ H5 h5 => ?_)
    · obtain ⟨e, hx⟩ := hy
      subst e
      obtain ⟨s5, v5, rfl⟩ := h5
      obtain ⟨n, hn, rfl⟩ := List.mem_map.mp (List.mem_of_getElem? hx)
      have hn2 := mem_srt.mp hn
      obtain ⟨l, hl1, hl2⟩ := ok.get hn2
      have t := s4.trans s5
      refine ⟨_, rfl, _, rfl, a, dx, _, rfl, t _ _ ha, a, f, rfl, hf0.mono (Same.L t), fun pd H6 s6 hpd => ?_⟩
      have e : inV (.str n) (vS f.drivers) = true := by rw [inV_strs]; exact decide_eq_true (ok.drv _ hl1)
      have hg : DGet H6 L (.str n) (some (.int l)) := by
        have := DGet.k (k := .inr n) ((t.trans s6) _ _ hL)
        rw [valV_row, hl2] at this
        exact this
      refine ⟨pd, _, rfl, .inr (SqT.of hpd), rfl, vS_flat _, ?_⟩
      rw [e]
      refine ⟨false, rfl, iteF ?_⟩
      refine ⟨_, rfl, _, rfl, L, _, rfl, hg, _, rfl, a, _, dx, _, .int f.top, rfl, (t.trans s6) _ _ ha, T.kFrame, T.nFrame_top, rfl, l, 0, f.top, rfl, ?_⟩
      rw [decide_eq_true (show (0 : Int) ≤ l ∧ l ≤ f.top from ⟨ok.lo _ hl1, ok.hi _ hl1⟩)]
      exact ⟨true, rfl, iteF ⟨s5.trans s6, _, rfl⟩⟩
    · obtain ⟨s5, v5, rfl⟩ := h5
      have t := s4.trans s5
      refine ⟨_, rfl, L, _, _, rfl, .inl (t _ _ hL), hks, h64, fun ys p6 hpm hso hp6 => ?_⟩
      rw [srt_of hpm hso]
      refine ⟨p6, rfl, ⟨_, SqL.of upd_same⟩, fun D6 hD6 => ?_⟩
      have t6 := t.trans (same_new (o := .lst ((srt (r.map (·.1))).map V.str)) hp6)
      have hg : ∀ {n : Str} {l : Int} {H7 : Hp}, Same H H7 → r.lookup n = some l → DGet H7 L (.str n) (some (.int l)) := fun {n l H7} t7 e => by
        have := DGet.k (k := .inr n) (t7 _ _ hL)
        rw [valV_row, e] at this
        exact this
      refine dcS walk_list (fun n => decide ((r.lookup n).getD 0 < f.top)) (fun n => .int ((r.lookup n).getD 0)) ((nodup_srt ok.nd).filter _) hD6 (fun H' s => SqL.of (s _ _ upd_same)) (by rw [len_srt]; omega) (fun _ => rfl)
        (fun n hn H7 s7 Q7 q7 => ?_) (fun n hn _ H7 s7 Q7 q7 => ⟨_, rfl, q7 H7 (Same.refl _)⟩) (fun n hn _ H7 s7 Q7 q7 => ?_) (fun H7 s7 hd7 => q D6 H7 (t6.trans s7) ?_)
      · obtain ⟨l, hl1, hl2⟩ := ok.get (mem_srt.mp hn)
        have q8 := q7 H7 (Same.refl _)
        rw [hl2] at q8
        exact ⟨_, rfl, _, rfl, L, _, rfl, hg (t6.trans s7) hl2, _, rfl, a, _, dx, _, .int f.top, rfl, (t6.trans s7) _ _ ha, T.kFrame, T.nFrame_top, rfl, _, _, rfl, rfl, _, rfl, q8⟩
      · obtain ⟨l, hl1, hl2⟩ := ok.get (mem_srt.mp hn)
        have q8 := q7 H7 (Same.refl _)
        rw [hl2] at q8
        exact ⟨_, rfl, _, rfl, L, _, rfl, hg (t6.trans s7) hl2, q8⟩
      · rw [hd7, told, rowK, List.map_map]
        rfl
end
end Sj
set_option Elab.async false
set_option linter.all false
set_option maxRecDepth 100000
set_option maxHeartbeats 4000000
/-! SjDef8: Word. -/
namespace Sj
open PySem PySem.Spec PyProof.Rows L2 He
theorem mergeK_app : ∀ {more acc : List (Key × V)}, ((acc ++ more).map (·.1)).Nodup → mergeK acc more = acc ++ more
  | [], acc, _ => by rw [List.append_nil]; rfl
  | (k, v) :: r, acc, h => by
    have hn : valV acc k = none := by
      cases e : valV acc k with
      | none => rfl
      | some u =>
        exfalso
        rw [List.map_append, List.nodup_append] at h
        exact h.2.2 k (valV_in e) k (by simp) rfl
    show mergeK (putK acc k v) r = _
    rw [putK_new _ hn, mergeK_app (by rw [List.append_assoc]; exact h), List.append_assoc]
    rfl
theorem row_nodup {r : List (Str × Int)} (h : (r.map (·.1)).Nodup) : ((rowK r).map (·.1)).Nodup := by
  have := nodup_keys h
  rw [rowK, List.map_map]
  rw [List.map_map] at this
  exact this
section
variable {P : Program} {w : World} {K : Frg} {mg : Str → Option Value} {base h : Heap}
def sp_Word_init (K : Frg) : Sp := fun vs H Q _ => ∃ (x fa dx p d : Addr) (f : Fr) (r : List (Str × Int)) (ps : List Addr), vs = [.ref x, .ref fa, .ref p, .ref d] ∧ H x = some (.ins (ga K "Word") dx []) ∧ FrAt K H fa f ∧ H p = some (PlT p (ps.map V.ref)) ∧
  Paired (fun p (kv : Key × V) => SqT K H p [kV kv.1, kv.2]) ps (rowK r) ∧ H d = some (.dK []) ∧ RowOk f r ∧ ∀ H', SameB x H H' → WordAt K H' x fa (told f.top r) → Q .non H'
theorem fn_Word_init (T : Txt K mg h) : Fn0 P w K mg base 7 (d_Word_init.loc K) (fun vs H Q E => ∃ ws rest, vs = ws ++ rest ∧ ws.length = 2 ∧ rest.length ≤ sizeLine ∧ ∀ p d, H p = Option.none → H d = Option.none → d ≠ p → sp_Word_init K (ws ++ [V.ref p, V.ref d]) (upd (upd H p (PlT p rest)) d (.dK [])) Q E) := by
  refine mkFnSKP (ps := ["self", "frame"]) (pv := "pairs") (pd := "levels") T.d_Word_init sc_Word_init (fun kV doc pm an cdv ct us rest h1 => match us, h1, rest with | [_, _], _, [] => rfl | [_, _], _, _ :: _ => rfl) (fun cdv A outer s H vs Q E hr h => ?_)
  obtain ⟨x, fa, dx, p, d, f, r, ps, rfl, hx, hf, hp, hps, hd, ok, q⟩ := h
  refine ⟨_, pss_cons (ps_fld (pv 0) (pv 1) (by rfl)) (pss_one (ps_fld (pv 0) (pc (ok_levels_of T) hr (pa_cons (pv 1) (pa_cons (pe_star2 (pe_callTy (cr_dictT rfl) (by rfl) T.b_dict bt_dict (pa_cons (pv 2) pa_nil)) (pv 3)) pa_nil))) (by rfl))), ?_⟩
  refine ⟨_, rfl, _, rfl, x, _, dx, _, rfl, hx, T.kWord, T.nWord_frame, by decide, ?_⟩
  have hsb : SameB x H (upd H x (.ins (ga K "Word") dx (putF "frame" (.ref fa) []))) := SameB.upd
  have hx1 : (upd H x (.ins (ga K "Word") dx (putF "frame" (.ref fa) []))) x = some (.ins (ga K "Word") dx [("frame", .ref fa)]) := upd_same
  generalize upd H x (.ins (ga K "Word") dx (putF "frame" (.ref fa) [])) = H1 at hsb hx1
  have hk : ∀ {b : Addr} {o : HO}, H b = some o → o ≠ .ins (ga K "Word") dx [] → H1 b = some o := fun {b o} e n => hsb b o (ne_obj e hx n) e
  refine ⟨_, rfl, fun D hD => ?_⟩
  have s2 := same_new (o := .dK []) hD
  refine ⟨_, rfl, p, ps, rowK r, rfl, s2 _ _ (hk hp (fun z => by cases z)), ?_, ?_, fun D2 hD2 => ?_⟩
  · have := paired_len hps
    have := ok.few
    rw [rowK, List.length_map] at *
    omega
  · exact paired_imp (fun a b z => sqT_mono z fun o ho hk2 => s2 _ _ (hk ho (fun e => by rcases hk2 with e2 | ⟨u, e2⟩ <;> rw [e] at e2 <;> cases e2))) hps
  rw [mergeK_app (acc := []) (by exact row_nodup ok.nd), List.nil_append]
  have s3 := s2.trans (same_new (o := .dK (rowK r)) hD2)
  have hne : D2 ≠ D := fun e => by rw [e, upd_same] at hD2; cases hD2
  refine ⟨D2, rowK r, rfl, upd_same, hne, (upd_ne hne.symm).trans upd_same, by rw [rowK, List.length_map]; have := ok.few; omega, ?_⟩
  rw [mergeK_app (acc := []) (by exact row_nodup ok.nd), List.nil_append]
  have hdD : d ≠ D := ne_of_none (hk hd (fun z => by cases z)) hD
  refine ⟨_, rfl, d, [], rfl, (upd_ne hdD).trans (s3 _ _ (hk hd (fun z => by cases z))), hdD, upd_same, by decide, ?_⟩
  have s4 : Same H1 (upd (upd (upd (upd H1 D (.dK [])) D2 (.dK (rowK r))) D (.dK (rowK r))) D (.dK (mergeK (rowK r) []))) := fun b o e => by
    rw [upd_ne (ne_of_none e hD), upd_ne (ne_of_none e hD)]
    exact s3 _ _ e
  have hD4 : (upd (upd (upd (upd H1 D (.dK [])) D2 (.dK (rowK r))) D (.dK (rowK r))) D (.dK (mergeK (rowK r) []))) D = some (.dK (rowK r)) := upd_same
  generalize upd (upd (upd (upd H1 D (.dK [])) D2 (.dK (rowK r))) D (.dK (rowK r))) D (.dK (mergeK (rowK r) [])) = H4 at s4 hD4
  have hf1 : FrAt K H1 fa f := by
    obtain ⟨dx2, L2, as, h1, h2, h3⟩ := hf
    refine ⟨dx2, L2, as, hk h1 (fun z => by injection z with _ _ z; cases z), ⟨hk h2.1 (fun z => by cases z), paired_imp (fun l a ⟨dx3, e⟩ => ⟨dx3, hk e (fun z => by injection z with _ _ z; cases z)⟩) h2.2⟩, h3⟩
  refine ⟨fa, D, f, r, rfl, hf1.mono (Same.L s4), hD4, ok, fun D5 H5 (s5 : Same H4 H5) h5 => ?_⟩
  have t := s4.trans s5
  refine ⟨_, rfl, x, _, dx, _, rfl, t _ _ hx1, T.kWord, T.nWord_told, show 1 < 1000 by decide, q _ ?_ ?_⟩
  · exact fun b o hb e => (upd_ne hb).trans (t _ _ (hsb b o hb e))
  · exact ⟨dx, D5, upd_same, (upd_ne (ne_obj h5 (t _ _ hx1) (fun z => by cases z))).trans h5⟩
theorem k_Word (T : Txt K mg h) : KF P w K mg base (ga K "Word") 7 (fun vs H Q E => ∃ ws rest, vs = ws ++ rest ∧ ws.length = 2 ∧ rest.length ≤ sizeLine ∧ ∀ p d, H p = Option.none → H d = Option.none → d ≠ p → sp_Word_init K (ws ++ [V.ref p, V.ref d]) (upd (upd H p (PlT p rest)) d (.dK [])) Q E) := ⟨_, T.mkWord, fn_Word_init T⟩
/-- a word is made of pairs -/
theorem mk_word {H : Hp} {fa : Addr} {f : Fr} {r : List (Str × Int)} {ps : List Addr} {Q : Hp → Prop} {x dx : Addr} (hf : FrAt K H fa f) (hps : Paired (fun p (kv : Key × V) => SqT K H p [kV kv.1, kv.2]) ps (rowK r)) (ok : RowOk f r) (q : ∀ H', Same H H' → WordAt K H' x fa (told f.top r) → Q H')
    (hx : H x = none) (hdx : H dx = none) (hne : dx ≠ x) : (fun vs H Q (E : XK) => ∃ ws rest, vs = ws ++ rest ∧ ws.length = 2 ∧ rest.length ≤ sizeLine ∧ ∀ p d, H p = Option.none → H d = Option.none → d ≠ p → sp_Word_init K (ws ++ [V.ref p, V.ref d]) (upd (upd H p (PlT p rest)) d (.dK [])) Q E)
      (V.ref x :: V.ref fa :: ps.map V.ref) (upd (upd H dx (.own x)) x (.ins (ga K "Word") dx [])) (fun v H' => v = .non ∧ Q H') E0 := by
  have hl : ps.length ≤ 40 := by
    have := paired_len hps
    have := ok.few
    rw [rowK, List.length_map] at *
    omega
  refine ⟨[.ref x, .ref fa], ps.map V.ref, rfl, rfl, by rw [List.length_map, sizeLine_eq]; omega, fun p d hp hd hpd => ?_⟩
  have s2 : Same H (upd (upd (upd (upd H dx (.own x)) x (.ins (ga K "Word") dx [])) p (PlT p (ps.map V.ref))) d (.dK [])) := fun b o e => by
    have e2 : (upd (upd H dx (.own x)) x (.ins (ga K "Word") dx [])) b = some o := by rw [upd_ne (ne_of_none e hx), upd_ne (ne_of_none e hdx)]; exact e
    rw [upd_ne (ne_of_none e2 hd), upd_ne (ne_of_none e2 hp)]
    exact e2
  have hxp : x ≠ p := ne_of_none upd_same hp
  have hxd : x ≠ d := ne_of_none upd_same hd
  exact ⟨x, fa, dx, p, d, f, r, ps, rfl, (upd_ne hxd).trans ((upd_ne hxp).trans upd_same), hf.mono (Same.L s2), (upd_ne hpd.symm).trans upd_same, paired_imp (fun _ _ z => z.ext s2) hps, upd_same, ok, fun H' s3 hw => ⟨rfl, q H' (fun b o e => s3 b o (ne_of_none e hx) (s2 _ _ e)) hw⟩⟩
def sp_Word_of (K : Frg) : Sp := fun vs H Q _ => ∃ (fa L : Addr) (f : Fr) (r : List (Str × Int)), vs = [.ref (ga K "Word"), .ref fa, .ref L] ∧ FrAt K H fa f ∧ H L = some (.dK (rowK r)) ∧ RowOk f r ∧ ∀ x H', Same H H' → WordAt K H' x fa (told f.top r) → Q (.ref x) H'
theorem c_Word_of (T : Txt K mg h) : CF P w K mg base (ga K "Word") "of" 9 (sp_Word_of K) := by
  refine ⟨_, _, _, T.rWord, T.cWord_of, mkFn T.d_Word_of sc_Word_of rfl (fun _ _ _ _ _ _ us hl => match us, hl with | [_, _, _], _ => rfl) (fun vs H Q E h => ?_) (fun cdv A outer s H vs Q E hr h => ?_)⟩
  · obtain ⟨fa, L, f, r, rfl, _⟩ := h
    rfl
  · obtain ⟨fa, L, f, r, rfl, hf, hL, ok, q⟩ := h
    refine ⟨_, pss_cons (ps_if (pt_not (pt_val (pisDict T (pv 2)))) pss_never pss_nil) (pss_cons (pset 3 sc_Word_of.nd (LiI.pe_listItems rfl (pv 2) (by rfl) T.b_list bt_list)) (pss_one (ps_ret (pks (k_Word T) hr (pv 0) (pa_cons (pv 1) (StX.pa_star (pv 3) pa_nil)))))), ?_⟩
    refine ⟨_, rfl, L, _, rfl, hL, true, rfl, iteF ?_⟩
    refine ⟨_, rfl, L, _, rfl, hL, fun H1 p ts s1 hp hts hpt hl1 hpr => ?_⟩
    refine ⟨_, rfl, rfl, _, rfl, _, rfl, p, _, rfl, .inr (SqL.of hl1), ?_⟩
    dsimp only [tNil]
    rw [List.append_nil]
    exact fun x dx h1 h2 h3 => mk_word (hf.mono (Same.L s1)) (paired_imp (fun _ _ z => SqT.of z) hpr) ok (fun H' s2 hw => q x H' (Same.trans s1 s2) hw) h1 h2 h3
end
end Sj
set_option Elab.async false
set_option linter.all false
set_option maxRecDepth 100000
set_option maxHeartbeats 4000000
/-! SjDef9: a word's level; Table. -/
namespace Sj
open PySem PySem.Spec PyProof.Rows L2 He
section
variable {P : Program} {w : World} {K : Frg} {mg : Str → Option Value} {base h : Heap}
def sp_Word_getitem (K : Frg) : Sp := fun vs H Q _ => ∃ (a fa : Addr) (f : Fr) (r : List (Str × Int)) (n : Str), vs = [.ref a, .str n] ∧ FrAt K H fa f ∧ WordAt K H a fa r ∧ n ∈ f.members ∧ ∀ H', Same H H' → Q (.int (lvl f.top r n)) H'
theorem sf_Word_getitem (T : Txt K mg h) : SF P w K mg base (ga K "Word") "__getitem__" 5 (sp_Word_getitem K) := by
  refine ⟨_, T.sWord_getitem, mkFn T.d_Word_getitem sc_Word_getitem rfl (fun _ _ _ _ _ _ us hl => match us, hl with | [_, _], _ => rfl) (fun vs H Q E h => ?_) (fun cdv A outer s H vs Q E hr h => ?_)⟩
  · obtain ⟨a, fa, f, r, n, rfl, _⟩ := h
    rfl
  · obtain ⟨a, fa, f, r, n, rfl, hf, ⟨dx, L, ha, hL⟩, hn, q⟩ := h
    have hf0 := hf
    obtain ⟨dx2, L2, as, hfa, _⟩ := hf
    refine ⟨_, pss_cons (ps_if (pt_cmpR op_notIn_seq (pv 1) (pp (pr_Frame_members T) hr (pf (pv 0))) (by rfl)) pss_never pss_nil) (pss_cons (ps_match2 (pv 1) (pss_one (ps_ret pe_int)) (pss_one (ps_ret (pf (pf (pv 0))))))
      (pss_one (ps_ret (pe_dget2 (u1 hr) (pf (pv 0)) (pv 1) (pf (pf (pv 0))) (by constructor <;> rfl))))), ?_⟩
    refine ⟨_, rfl, _, rfl, a, _, dx, _, .ref fa, rfl, ha, T.kWord, T.nWord_frame, rfl, fa, dx2, _, rfl, hfa, fa, f, rfl, hf0, fun p H1 (s1 : Same H H1) hp => ?_⟩
    have e : inV (.str n) (vS f.members) = true := by rw [inV_strs]; exact decide_eq_true hn
    refine ⟨p, _, rfl, .inr (SqT.of hp), rfl, vS_flat _, ?_⟩
    rw [e]
    refine ⟨false, rfl, iteF ?_⟩
    have ql := q H1 s1
    have ha1 := s1 _ _ ha
    have hf1 := s1 _ _ hfa
    refine ⟨_, rfl, n, rfl, fun e1 => ?_, fun e1 e2 => ?_, fun e1 e2 => ?_⟩
    · rw [lvl, if_pos e1] at ql
      exact ql
    · rw [lvl, if_neg e1, if_pos e2] at ql
      exact ⟨_, rfl, a, _, dx, _, .ref fa, rfl, ha1, T.kWord, T.nWord_frame, rfl, fa, _, dx2, _, .int f.top, rfl, hf1, T.kFrame, T.nFrame_top, rfl, ql⟩
    · rw [lvl, if_neg e1, if_neg e2] at ql
      refine ⟨_, rfl, a, _, dx, _, .ref L, rfl, ha1, T.kWord, T.nWord_told, rfl, L, rfl, .inl ⟨_, .inl (s1 _ _ hL)⟩, _, rfl, _, rfl, a, _, dx, _, .ref fa, rfl, ha1, T.kWord, T.nWord_frame, rfl, fa, _, dx2, _, .int f.top, rfl, hf1, T.kFrame, T.nFrame_top, rfl, _, DGet.k (k := .inr n) (s1 _ _ hL), ?_⟩
      rw [valV_row]
      cases e3 : r.lookup n with
      | none => rw [e3] at ql; exact ql
      | some l => rw [e3] at ql; exact ql
theorem paired_left {α β : Type} {F : α → β → Prop} {l : List α} {m : List β} (p : Paired F l m) : ∀ {a : α}, a ∈ l → ∃ b, F a b := by
  induction p with
  | nil => intro a h; cases h
  | cons h t ih =>
    intro a ha
    rcases List.mem_cons.mp ha with e | ha
    · exact ⟨_, e ▸ h⟩
    · exact ih ha
/-- the row of a word that stands in the heap -/
theorem row_inj : ∀ {r r' : List (Str × Int)}, rowK r = rowK r' → r = r'
  | [], [], _ => rfl
  | [], _ :: _, h => by cases h
  | _ :: _, [], h => by cases h
  | (a, b) :: r, (c, d) :: t, h => by
    have h : ((Sum.inr a : Key), V.int b) :: rowK r = (Sum.inr c, V.int d) :: rowK t := h
    injection h with h1 h2
    injection h1 with h1 h3
    rw [Sum.inr.inj h1, V.int.inj h3, row_inj h2]
theorem WordAt.inj {H : Hp} {a fa : Addr} {r r' : List (Str × Int)} (h1 : WordAt K H a fa r) (h2 : WordAt K H a fa r') : r = r' := by
  obtain ⟨dx, L, e1, e2⟩ := h1
  obtain ⟨dx', L', e3, e4⟩ := h2
  rw [e1] at e3
  injection e3 with e3
  injection e3 with _ _ e3
  injection e3 with _ e3
  injection e3 with e3
  injection e3 with _ e3
  injection e3 with e3
  rw [e3, e4] at e2
  injection e2 with e2
  injection e2 with e2
  exact (row_inj e2).symm
open Classical in
noncomputable def rowOf (K : Frg) (H : Hp) (fa : Addr) (v : V) : List (Str × Int) := if h : ∃ r, ∃ a, v = .ref a ∧ WordAt K H a fa r then h.choose else []
theorem rowOf_eq {H : Hp} {a fa : Addr} {r : List (Str × Int)} (h : WordAt K H a fa r) : rowOf K H fa (.ref a) = r := by
  have hx : ∃ r, ∃ b, V.ref a = .ref b ∧ WordAt K H b fa r := ⟨r, a, rfl, h⟩
  unfold rowOf
  rw [dif_pos hx]
  obtain ⟨b, e, hb⟩ := hx.choose_spec
  cases e
  exact WordAt.inj hb h
theorem rowOf_map {H : Hp} {fa : Addr} {ws : List Addr} {rs : List (List (Str × Int))} (h : Paired (fun w r => WordAt K H w fa r) ws rs) : (ws.map V.ref).map (rowOf K H fa) = rs := by
  induction h with
  | nil => rfl
  | cons h t ih => rw [List.map_cons, List.map_cons, ih, rowOf_eq h]
theorem told_nil (top : Int) : told top [] = [] := by
  unfold told srt
  simp
theorem rowOk_nil (f : Fr) : RowOk f [] := ⟨.nil, by simp, (fun _ h => by cases h), (fun _ h => by cases h), (fun _ h => by cases h)⟩
def sp_Table_init (K : Frg) : Sp := fun vs H Q _ => ∃ (x fa dx l : Addr) (f : Fr) (ws : List Addr) (rs : List (List (Str × Int))), vs = [.ref x, .ref fa, .ref l] ∧ H x = some (.ins (ga K "Table") dx []) ∧ FrAt K H fa f ∧ SqT K H l (ws.map V.ref) ∧
  Paired (fun w r => WordAt K H w fa r) ws rs ∧ ws.length ≤ 50 ∧ ∀ H', SameB x H H' → TblAt K H' x fa ([] :: rs) → Q .non H'
theorem fn_Table_init (T : Txt K mg h) : Fn0 P w K mg base 9 (d_Table_init.loc K) (fun vs H Q E => ∃ ws rest, vs = ws ++ rest ∧ ws.length = 2 ∧ rest.length ≤ sizeLine ∧ ∀ p, H p = Option.none → sp_Table_init K (ws ++ [V.ref p]) (upd H p (.tup rest)) Q E) := by
  obtain ⟨uM, oM⟩ := T.oTable_MOST
  refine mkFnS (ps := ["self", "frame"]) (pv := "words") T.d_Table_init sc_Table_init (fun kV doc pm an cdv ct us rest h1 => match us, h1, rest with | [_, _], _, [] => rfl | [_, _], _, _ :: _ => rfl) (fun cdv A outer s H vs Q E hr h => ?_)
  obtain ⟨x, fa, dx, l, f, ws, rs, rfl, hx, hf, hl, hp, few, q⟩ := h
  refine ⟨_, pss_cons (ps_if (pt_not (pt_val (pall T (plc 3 sc_Table_init.nd (pi_tup (pv 2)) (fun _ _ _ _ _ => pc (ok_is_word T) hr (pa_cons (pv 1) (pa_cons (pv 3) pa_nil))))))) pss_never pss_nil)
    (pss_cons (ps_if (pt_cmpR op_gt (pe_op op_add (plen T (pv 2)) pe_int) (pe_con (pv 0) (by rfl)) (by rfl)) pss_never pss_nil)
    (pss_cons (ps_fld (pv 0) (pv 1) (by rfl)) (pss_one (ps_fld (pv 0) (pe_tup (pa_cons (pk (k_Word T) hr T.gWord (pa_cons (pv 1) pa_nil)) (StX.pa_star (pv 2) pa_nil))) (by rfl))))), ?_⟩
  have hz : (ws.map V.ref).length ≤ 1000 := by rw [List.length_map]; omega
  refine ⟨_, rfl, l, rfl, ⟨_, hl⟩, fun D hD => lcv walk_tup (fun _ => .bl true) hD (fun H' s => hl.ext s) hz (fun _ => rfl) (fun y hy H2 s2 Q2 q2 => ?_) fun H2 s2 hd2 => ?_⟩
  · obtain ⟨b, hb, rfl⟩ := List.mem_map.mp hy
    obtain ⟨r, hw⟩ := paired_left hp hb
    exact ⟨_, rfl, _, rfl, fa, r, b, rfl, ⟨f, hf.mono (Same.L s2)⟩, hw.mono (Same.L s2), q2⟩
  · refine ⟨D, (ws.map V.ref).map fun _ => true, rfl, SqL.of (by rw [hd2, List.map_map (l := ws.map V.ref)]; rfl), ?_⟩
    rw [all_true]
    have hx2 := s2 _ _ hx
    refine ⟨true, rfl, iteF ⟨_, rfl, l, _, rfl, .inr (hl.ext s2), _, _, rfl, rfl, _, rfl, x, _, dx, _, .int 60, uM, rfl, hx2, T.kTable, oM, rfl, _, _, rfl, rfl, _, rfl, ?_⟩⟩
    rw [decide_eq_false (by rw [List.length_map]; omega)]
    refine iteF ⟨_, rfl, _, rfl, x, _, dx, _, rfl, hx2, T.kTable, T.nTable_frame, by decide, ?_⟩
    have hsb : SameB x H (upd H2 x (.ins (ga K "Table") dx (putF "frame" (.ref fa) []))) := fun b o hb e => (upd_ne hb).trans (s2 _ _ e)
    have hx3 : (upd H2 x (.ins (ga K "Table") dx (putF "frame" (.ref fa) []))) x = some (.ins (ga K "Table") dx [("frame", .ref fa)]) := upd_same
    generalize upd H2 x (.ins (ga K "Table") dx (putF "frame" (.ref fa) [])) = H3 at hsb hx3
    have hk : ∀ {b : Addr} {o : HO}, H b = some o → o ≠ .ins (ga K "Table") dx [] → H3 b = some o := fun {b o} e n => hsb b o (ne_obj e hx n) e
    have hf3 : FrAt K H3 fa f := by
      obtain ⟨dx2, L2, as, h1, h2, h3⟩ := hf
      exact ⟨dx2, L2, as, hk h1 (fun z => by injection z with _ _ z; cases z), ⟨hk h2.1 (fun z => by cases z), paired_imp (fun l a ⟨dx3, e⟩ => ⟨dx3, hk e (fun z => by injection z with _ _ z; cases z)⟩) h2.2⟩, h3⟩
    have hl3 : SqT K H3 l (ws.map V.ref) := sqT_mono hl fun o ho hk2 => hk ho (fun e => by rcases hk2 with e2 | ⟨u, e2⟩ <;> rw [e] at e2 <;> cases e2)
    have hp3 : Paired (fun w r => WordAt K H3 w fa r) ws rs := paired_imp (fun w r ⟨dx3, L3, e1, e2⟩ => ⟨dx3, L3, hk e1 (fun z => by injection z with _ _ z; cases z), hk e2 (fun z => by cases z)⟩) hp
    refine ⟨_, rfl, fun x2 dx2 h1 h2 h3 => mk_word (ps := []) (r := []) hf3 .nil (rowOk_nil f) (fun H4 s4 hw => ?_) h1 h2 h3⟩
    refine ⟨_, rfl, l, _, rfl, .inl (hl3.ext s4), ?_⟩
    dsimp only [tNil]
    rw [List.append_nil]
    refine ⟨by rw [List.length_cons, List.length_map, sizeLine_eq]; omega, fun W hW => ?_⟩
    have s5 := s4.trans (same_new (o := .tup (V.ref x2 :: ws.map V.ref)) hW)
    refine ⟨_, rfl, x, _, dx, _, rfl, s5 _ _ hx3, T.kTable, T.nTable_own_words, show 1 < 1000 by decide, q _ (fun b o hb e => (upd_ne hb).trans (s5 _ _ (hsb b o hb e))) ?_⟩
    have hwx : W ≠ x := (ne_of_none (s4 _ _ hx3) hW).symm
    rw [told_nil] at hw
    have up : ∀ {b : Addr} {r : List (Str × Int)}, WordAt K (upd H4 W (.tup (V.ref x2 :: ws.map V.ref))) b fa r → WordAt K (upd (upd H4 W (.tup (V.ref x2 :: ws.map V.ref))) x (.ins (ga K "Table") dx [("frame", .ref fa), ("own_words", .ref W)])) b fa r := fun {b r} ⟨dx3, L3, e1, e2⟩ =>
      ⟨dx3, L3, (upd_ne (ne_obj e1 (s5 _ _ hx3) (fun z => by injection z with _ _ z; injection z with _ z; cases z))).trans e1, (upd_ne (ne_obj e2 (s5 _ _ hx3) (fun z => by cases z))).trans e2⟩
    exact ⟨dx, W, x2 :: ws, upd_same, (upd_ne hwx).trans upd_same, .cons (up (hw.mono (Same.L (same_new hW)))) (paired_imp (fun _ _ z => up (z.mono (Same.L s5))) hp3)⟩
theorem k_Table (T : Txt K mg h) : KF P w K mg base (ga K "Table") 9 (fun vs H Q E => ∃ ws rest, vs = ws ++ rest ∧ ws.length = 2 ∧ rest.length ≤ sizeLine ∧ ∀ p, H p = Option.none → sp_Table_init K (ws ++ [V.ref p]) (upd H p (.tup rest)) Q E) := ⟨_, T.mkTable, fn_Table_init T⟩
def sp_Table_of (K : Frg) : Sp := fun vs H Q _ => ∃ (fa l : Addr) (f : Fr) (ws : List Addr) (rs : List (List (Str × Int))), vs = [.ref (ga K "Table"), .ref fa, .ref l] ∧ FrAt K H fa f ∧ H l = some (.lst (ws.map V.ref)) ∧
  Paired (fun w r => WordAt K H w fa r) ws rs ∧ ws.length ≤ 50 ∧ ∀ x H', Same H H' → TblAt K H' x fa ([] :: rs) → Q (.ref x) H'
theorem c_Table_of (T : Txt K mg h) : CF P w K mg base (ga K "Table") "of" 11 (sp_Table_of K) := by
  refine ⟨_, _, _, T.rTable, T.cTable_of, mkFn T.d_Table_of sc_Table_of rfl (fun _ _ _ _ _ _ us hl => match us, hl with | [_, _, _], _ => rfl) (fun vs H Q E h => ?_) (fun cdv A outer s H vs Q E hr h => ?_)⟩
  · obtain ⟨fa, l, f, ws, rs, rfl, _⟩ := h
    rfl
  · obtain ⟨fa, l, f, ws, rs, rfl, hf, hl, hp, few, q⟩ := h
    refine ⟨_, pss_cons (ps_if (pt_not (pt_val (pisLT T (pv 2)))) pss_never pss_nil) (pss_one (ps_ret (pks (k_Table T) hr (pv 0) (pa_cons (pv 1) (StX.pa_star (pv 2) pa_nil))))), ?_⟩
    refine ⟨_, rfl, le2, fun tp htp => ⟨l, tp, _, rfl, upd_same, .inl (same_new htp _ _ hl), true, rfl, iteF ?_⟩⟩
    have s1 := same_new (o := .tup [V.ty "list", V.ty "tuple"]) htp
    refine ⟨_, rfl, rfl, _, rfl, _, rfl, l, _, rfl, .inr (SqL.of (s1 _ _ hl)), ?_⟩
    dsimp only [tNil]
    rw [List.append_nil]
    refine fun x dx hx hdx hne => ⟨[.ref x, .ref fa], ws.map V.ref, rfl, rfl, by rw [List.length_map, sizeLine_eq]; omega, fun p hp0 => ?_⟩
    have s2 : Same H (upd (upd (upd (upd H tp (.tup [V.ty "list", V.ty "tuple"])) dx (.own x)) x (.ins (ga K "Table") dx [])) p (.tup (ws.map V.ref))) := fun b o e => by
      have e1 := s1 _ _ e
      have e2 : (upd (upd (upd H tp (.tup [V.ty "list", V.ty "tuple"])) dx (.own x)) x (.ins (ga K "Table") dx [])) b = some o := by rw [upd_ne (ne_of_none e1 hx), upd_ne (ne_of_none e1 hdx)]; exact e1
      rw [upd_ne (ne_of_none e2 hp0)]
      exact e2
    have hxp : x ≠ p := ne_of_none upd_same hp0
    exact ⟨x, fa, dx, p, f, ws, rs, rfl, (upd_ne hxp).trans upd_same, hf.mono (Same.L s2), SqT.of upd_same, paired_imp (fun _ _ z => z.mono (Same.L s2)) hp, few, fun H' s3 ht => ⟨rfl, q x H' (fun b o e => s3 b o (ne_of_none (s1 _ _ e) hx) (s2 _ _ e)) ht⟩⟩
end
end Sj
set_option Elab.async false
set_option linter.all false
set_option maxRecDepth 100000
set_option maxHeartbeats 4000000
/-! SjDef10: Table.driven, len; fault_of of boards. -/
namespace Sj
open PySem PySem.Spec PyProof.Rows L2 He
section
variable {X : Cx} {elt kx vx iter c : Expr} {x y : Str} {tp pos py spos : Pos} {scope : Scope} {wi : TI} {te : TE} {tc : TT}
/-- y = [elt for x in iter] -/
theorem psl (j i : Nat) (hN : X.N.Nodup) (hi : PI X (.Name x tp) iter wi) (he : ∀ (s : Shared) (H : Hp) (C : Addr) (cl : List (Str × Addr)) (fp : List Addr), PE (X.blk s H scope (compEnvC scope cl C X.env) fp) elt te)
    (hy : X.N[j]? = some y := by rfl) (hyl : X.env.scope.names.lookup y = some .local := by rfl) (hsw : swapsWith (.ListComp elt [⟨.Name x tp, iter, [], 0⟩] scope pos) (some (.Name y py)) spos.line X.env = pure true := by rfl)
    (ok : blkC X.N X.env.scope scope [(x, i)] = true := by kernel_rfl) (hc : X.calm = true := by rfl) (h1 : X.N[i]? = some x := by rfl) (h2 : ∀ (s : Shared) (H : Hp) (C : Addr) (cl : List (Str × Addr)) (fp : List Addr), L2.Loc (X.blk s H scope (compEnvC scope cl C X.env) fp).env.scope x := by intro _ _ _ _ _; first | exact Or.inl rfl | exact Or.inr rfl)
    (h3 : ∀ (s : Shared) (H : Hp) (C : Addr) (cl : List (Str × Addr)) (fp : List Addr), (X.blk s H scope (compEnvC scope cl C X.env) fp).fn x = true ∨ (X.blk s H scope (compEnvC scope cl C X.env) fp).env.scope.names.lookup x = some .local := by intro _ _ _ _ _; first | exact Or.inl rfl | exact Or.inr rfl) (hs : ∀ x, foldedSetIterable iter X.env x = pure x := by intro _; rfl) :
    PS X (.Assign [.Name y py] (.ListComp elt [⟨.Name x tp, iter, [], 0⟩] scope pos) spos) (tAsg (tLc wi (gName i) tYes te [i]) (gName j)) :=
  ps_setLc (own := [(x, i)]) hc hN hy hyl hsw hi (blkOk_by ok) (fun s H C cl fp => pg_name (X := X.blk s H scope (compEnvC scope cl C X.env) fp) (i := i) hN h1 (h2 s H C cl fp) (h3 s H C cl fp)) (fun _ _ _ _ _ => pts_nil) he hs
theorem pslIf (j i : Nat) (hN : X.N.Nodup) (hi : PI X (.Name x tp) iter wi) (ht : ∀ (s : Shared) (H : Hp) (C : Addr) (cl : List (Str × Addr)) (fp : List Addr), PT (X.blk s H scope (compEnvC scope cl C X.env) fp) c tc)
    (he : ∀ (s : Shared) (H : Hp) (C : Addr) (cl : List (Str × Addr)) (fp : List Addr), PE (X.blk s H scope (compEnvC scope cl C X.env) fp) elt te)
    (hy : X.N[j]? = some y := by rfl) (hyl : X.env.scope.names.lookup y = some .local := by rfl) (hsw : swapsWith (.ListComp elt [⟨.Name x tp, iter, [c], 0⟩] scope pos) (some (.Name y py)) spos.line X.env = pure true := by rfl)
    (ok : blkC X.N X.env.scope scope [(x, i)] = true := by kernel_rfl) (hc : X.calm = true := by rfl) (h1 : X.N[i]? = some x := by rfl) (h2 : ∀ (s : Shared) (H : Hp) (C : Addr) (cl : List (Str × Addr)) (fp : List Addr), L2.Loc (X.blk s H scope (compEnvC scope cl C X.env) fp).env.scope x := by intro _ _ _ _ _; first | exact Or.inl rfl | exact Or.inr rfl)
    (h3 : ∀ (s : Shared) (H : Hp) (C : Addr) (cl : List (Str × Addr)) (fp : List Addr), (X.blk s H scope (compEnvC scope cl C X.env) fp).fn x = true ∨ (X.blk s H scope (compEnvC scope cl C X.env) fp).env.scope.names.lookup x = some .local := by intro _ _ _ _ _; first | exact Or.inl rfl | exact Or.inr rfl) (hs : ∀ x, foldedSetIterable iter X.env x = pure x := by intro _; rfl) :
    PS X (.Assign [.Name y py] (.ListComp elt [⟨.Name x tp, iter, [c], 0⟩] scope pos) spos) (tAsg (tLc wi (gName i) tc te [i]) (gName j)) :=
  ps_setLc (own := [(x, i)]) hc hN hy hyl hsw hi (blkOk_by ok) (fun s H C cl fp => pg_name (X := X.blk s H scope (compEnvC scope cl C X.env) fp) (i := i) hN h1 (h2 s H C cl fp) (h3 s H C cl fp)) (fun s H C cl fp => pts_one (ht s H C cl fp)) he hs
end
/-- what stands in a list -/
def lstOf (H : Hp) : V → List V
  | .ref a => match H a with
    | some (.lst l) => l
    | _ => []
  | _ => []
def BlksAt (H : Hp) (bas : List Addr) (bss : List (List Str)) : Prop := Paired (fun b a => H a = some (.lst (vS b))) bss bas
theorem lstOf_at {H : Hp} {a : Addr} {l : List V} (h : H a = some (.lst l)) : lstOf H (.ref a) = l := by
  show (match H a with | some (.lst l) => l | _ => []) = _
  rw [h]
theorem blks_flat {H : Hp} {bas : List Addr} {bss : List (List Str)} (h : BlksAt H bas bss) : (bas.map V.ref).flatMap (lstOf H) = vS bss.flatten := by
  unfold BlksAt at h
  induction h with
  | nil => rfl
  | cons h t ih =>
    rw [List.map_cons, List.flatMap_cons, ih, lstOf_at h, List.flatten_cons, vS, vS, vS, List.map_append]
theorem paired_rm {α β : Type} {F : α → β → Prop} {l : List α} {m : List β} (p : Paired F l m) : ∀ {b : β}, b ∈ m → ∃ a ∈ l, F a b := by
  induction p with
  | nil => intro b h; cases h
  | cons h t ih =>
    intro b hb
    rcases List.mem_cons.mp hb with e | hb
    · exact ⟨_, List.mem_cons_self, e ▸ h⟩
    · obtain ⟨a, h1, h2⟩ := ih hb
      exact ⟨a, List.mem_cons_of_mem _ h1, h2⟩
theorem any_false {α : Type} (xs : List α) : (xs.map fun _ => false).any id = false := by
  rw [List.any_eq_false]
  intro x hx
  obtain ⟨_, _, rfl⟩ := List.mem_map.mp hx
  simp
/-- a parting of the members -/
structure PartOk (f : Fr) (bss : List (List Str)) : Prop where
  ne : ∀ b ∈ bss, b ≠ []
  mem : ∀ b ∈ bss, ∀ n ∈ b, n ∈ f.members
  nd : bss.flatten.Nodup
  rails : ∀ b ∈ bss, ("ground" : Str) ∈ b → ("power" : Str) ∉ b
  few : bss.flatten.length ≤ 50
  cov : ∀ m ∈ f.members, ∃ b ∈ bss, m ∈ b
theorem flat_len {α : Type} : ∀ {bss : List (List α)}, (∀ b ∈ bss, b ≠ []) → bss.length ≤ bss.flatten.length
  | [], _ => Nat.le_refl _
  | b :: r, h => by
    have h1 := flat_len (bss := r) fun c hc => h c (List.mem_cons_of_mem _ hc)
    have h2 : 0 < b.length := List.length_pos_iff.mpr (h b List.mem_cons_self)
    rw [List.flatten_cons, List.length_append, List.length_cons]
    omega
section
variable {P : Program} {w : World} {K : Frg} {mg : Str → Option Value} {base h : Heap}
def sp_Table_len (K : Frg) : Sp := fun vs H Q _ => ∃ a fa rs, vs = [.ref a] ∧ TblAt K H a fa rs ∧ rs.length ≤ 60 ∧ Q (.int (rs.length : Nat)) H
theorem sf_Table_len (T : Txt K mg h) : SF P w K mg base (ga K "Table") "__len__" 1 (sp_Table_len K) := by
  refine ⟨_, T.sTable_len, mkFn T.d_Table_len sc_Table_len rfl (fun _ _ _ _ _ _ us hl => match us, hl with | [_], _ => rfl) (fun vs H Q E h => ?_) (fun cdv A outer s H vs Q E hr h => ?_)⟩
  · obtain ⟨a, fa, rs, rfl, _⟩ := h
    rfl
  · obtain ⟨a, fa, rs, rfl, ⟨dx, W, ws, ha, hW, hp⟩, _, q⟩ := h
    refine ⟨_, pss_one (ps_ret (plen T (pf (pv 0)))), ?_⟩
    refine ⟨_, rfl, a, _, dx, _, .ref W, rfl, ha, T.kTable, T.nTable_own_words, rfl, W, _, rfl, .inr (SqT.of hW), ?_⟩
    rw [List.length_map, paired_len hp]
    exact q
def sp_Table_driven (K : Frg) : Sp := fun vs H Q _ => ∃ a fa f rs n, vs = [.ref a, .str n] ∧ FrAt K H fa f ∧ TblAt K H a fa rs ∧ n ∈ f.members ∧ rs.length ≤ 60 ∧ ∀ p H', Same H H' → H' p = some (.tup (vI (rs.map fun r => lvl f.top r n))) → Q (.ref p) H'
theorem mf_Table_driven (T : Txt K mg h) : MF P w K mg base (ga K "Table") "driven" 7 (sp_Table_driven K) := by
  refine ⟨T.kTable, _, T.mTable_driven, mkFn T.d_Table_driven sc_Table_driven rfl (fun _ _ _ _ _ _ us hl => match us, hl with | [_, _], _ => rfl) (fun vs H Q E h => ?_) (fun cdv A outer s H vs Q E hr h => ?_)⟩
  · obtain ⟨a, fa, f, rs, n, rfl, _⟩ := h
    rfl
  · obtain ⟨a, fa, f, rs, n, rfl, hf, ⟨dx, W, ws, ha, hW, hp⟩, hn, few, q⟩ := h
    have hf0 := hf
    obtain ⟨dx2, L2, as, hfa, _⟩ := hf
    refine ⟨_, pss_cons (ps_if (pt_cmpR op_notIn_seq (pv 1) (pp (pr_Frame_members T) hr (pf (pv 0))) (by rfl)) pss_never pss_nil) (pss_one (ps_ret (ptup T (plc 2 sc_Table_driven.nd (pi_tup (pf (pv 0))) (fun _ _ _ _ _ => pe_getO (sf_Word_getitem T) hr (pv 2) (pv 1)))))), ?_⟩
    refine ⟨_, rfl, _, rfl, a, _, dx, _, .ref fa, rfl, ha, T.kTable, T.nTable_frame, rfl, fa, dx2, _, rfl, hfa, fa, f, rfl, hf0, fun p H1 (s1 : Same H H1) hp1 => ?_⟩
    have e : inV (.str n) (vS f.members) = true := by rw [inV_strs]; exact decide_eq_true hn
    refine ⟨p, _, rfl, .inr (SqT.of hp1), rfl, vS_flat _, ?_⟩
    rw [e]
    refine ⟨false, rfl, iteF ⟨_, rfl, a, _, dx, _, .ref W, rfl, s1 _ _ ha, T.kTable, T.nTable_own_words, rfl, W, rfl, ⟨_, SqT.of (s1 _ _ hW)⟩, fun D hD => ?_⟩⟩
    refine lcv walk_tup (fun v => .int (lvl f.top (rowOf K H fa v) n)) hD (fun H' s => SqT.of (s _ _ (s1 _ _ hW))) (by rw [List.length_map, paired_len hp]; omega) (fun _ => rfl) (fun x hx H2 s2 Q2 q2 => ?_) (fun H2 s2 hd2 => ?_)
    · obtain ⟨b, hb, rfl⟩ := List.mem_map.mp hx
      obtain ⟨r, hw⟩ := paired_left hp hb
      rw [rowOf_eq hw] at q2
      have t := s1.trans s2
      have hw2 := hw.mono (Same.L t)
      obtain ⟨dxw, Lw, hb2, _⟩ := hw2
      exact ⟨_, rfl, _, rfl, b, dxw, _, rfl, hb2, b, fa, f, r, n, rfl, hf0.mono (Same.L t), hw.mono (Same.L t), hn, q2⟩
    · refine ⟨D, _, rfl, SqL.of hd2, fun p3 hp3 => q p3 _ ((s1.trans s2).trans (same_new hp3)) ?_⟩
      rw [upd_same, ← rowOf_map hp, vI, List.map_map, List.map_map, List.map_map, List.map_map]
      rfl
def sp_fault_of_boards (K : Frg) : Sp := fun vs H Q _ => ∃ (fa l : Addr) (f : Fr) (bas : List Addr) (bss : List (List Str)), vs = [.ref fa, .ref l] ∧ FrAt K H fa f ∧ SqT K H l (bas.map V.ref) ∧ BlksAt H bas bss ∧ PartOk f bss ∧ ∀ H', Same H H' → Q .non H'
theorem ok_fault_of_boards (T : Txt K mg h) : GF P w K mg base "fault_of_boards" 5 (sp_fault_of_boards K) := by
  refine ⟨_, T.g_fault_of_boards, keepX T.d_fault_of_boards, mkFn T.d_fault_of_boards sc_fault_of_boards rfl (fun _ _ _ _ _ _ us hl => match us, hl with | [_, _], _ => rfl) (fun vs H Q E h => ?_) (fun cdv A outer s H vs Q E hr h => ?_)⟩
  · obtain ⟨fa, l, f, bas, bss, rfl, _⟩ := h
    rfl
  · obtain ⟨fa, l, f, bas, bss, rfl, hf, hl, hb, ok, q⟩ := h
    have hf0 := hf
    obtain ⟨dx2, L2, as, hfa, _⟩ := hf
    have hbl : bas.length ≤ 50 := by rw [← paired_len hb]; exact Nat.le_trans (flat_len ok.ne) ok.few
    have hz : (bas.map V.ref).length ≤ 1000 := by rw [List.length_map]; omega
    refine ⟨_, pss_cons (ps_if (pt_not (pt_val (pall T (plc 3 sc_fault_of_boards.nd (pi_tup (pv 1)) (fun _ _ _ _ _ => pe_and (pisLT T (pv 3)) (pe_one (pe_cmpR op_gt (plen T (pv 3)) pe_int (by rfl)))))))) (pss_one (ps_ret pe_str)) pss_nil)
      (pss_cons (ps_setLc2 (i := 2) (own := [("block", 3), ("name", 4)]) (vs1 := [4]) (wi1 := iList K (tVar 3)) rfl sc_fault_of_boards.nd rfl rfl (by rfl) (pi_tup (pv 1)) (blkOk_by (by kernel_rfl)) (by decide) (fun _ _ _ _ _ => pg_name (i := 3) sc_fault_of_boards.nd rfl (Or.inl rfl)) (fun _ _ _ _ _ => pts_nil) (fun _ _ _ _ _ => pi_list (pv 3)) (fun _ _ _ _ _ => pg_name (i := 4) sc_fault_of_boards.nd rfl (Or.inl rfl)) (fun _ _ _ _ _ => pts_nil) (fun _ _ _ _ _ => pv 4))
      (pss_cons (ps_if (pt_not (pt_val (pall T (plc 4 sc_fault_of_boards.nd (pi_list (pv 2)) (fun _ _ _ _ _ => pe_cmpR (r := rIn K false) op_in_seq (pv 4) (pp (pr_Frame_members T) hr (pv 0)) (by rfl)))))) (pss_one (ps_ret pe_str)) pss_nil)
      (pss_cons (ps_if (pt_cmpR op_lt (plenS T (pe_callTy (cr_setOfK rfl) (by rfl) T.b_set bt_set (pa_cons (pv 2) pa_nil))) (plen T (pv 2)) (by rfl)) (pss_one (ps_ret pe_str)) pss_nil)
      (pss_one (ps_ret (pe_ifExp (pt_val (pany T (plc 3 sc_fault_of_boards.nd (pi_tup (pv 1)) (fun _ _ _ _ _ => pc (ok_has_both_rails T) hr (pa_cons (pv 3) pa_nil))))) pe_str pe_non)))))), ?_⟩
    have hin : ∀ {v : V}, v ∈ bas.map V.ref → ∃ a b, v = .ref a ∧ b ∈ bss ∧ H a = some (.lst (vS b)) := fun {v} hv => by
      obtain ⟨a, ha, rfl⟩ := List.mem_map.mp hv
      obtain ⟨b, h1, h2⟩ := paired_rm hb ha
      exact ⟨a, b, rfl, h1, h2⟩
    refine ⟨_, rfl, l, rfl, ⟨_, hl⟩, fun D hD => lcv walk_tup (fun _ => .bl true) hD (fun H' s => hl.ext s) hz (fun _ => rfl) (fun x hx H2 s2 Q2 q2 => ?_) fun H2 s2 hd2 => ?_⟩
    · obtain ⟨a, b, rfl, hb1, hb2⟩ := hin hx
      refine ⟨_, rfl, le2, fun tp htp => ⟨a, tp, _, rfl, upd_same, .inl (same_new htp _ _ (s2 _ _ hb2)), true, rfl, iteT ⟨_, rfl, a, _, rfl, .inl (SqL.of (same_new htp _ _ (s2 _ _ hb2))), _, _, rfl, rfl, ?_⟩⟩⟩
      have := List.length_pos_iff.mpr (ok.ne b hb1)
      show Q2 (.bl (decide ((0 : Int) < ((vS b).length : Nat)))) _
      rw [decide_eq_true (by rw [vS_len]; omega)]
      exact q2 _ (same_new htp)
    refine ⟨D, (bas.map V.ref).map fun _ => true, rfl, SqL.of (by rw [hd2, List.map_map (l := bas.map V.ref)]; rfl), ?_⟩
    rw [all_true]
    refine ⟨true, rfl, iteF ?_⟩
    refine ⟨_, rfl, l, rfl, ⟨_, hl.ext s2⟩, fun D2 hD2 => lc2v walk_tup (lstOf H) hD2 (fun H' s => hl.ext (s2.trans s)) ?_ (fun _ => rfl) (fun _ _ => rfl) (fun x hx H3 s3 R r => ?_) (fun x hx y hy H3 Q3 q3 => ⟨y, rfl, q3⟩) fun H3 s3 hd3 => ?_⟩
    · rw [blks_flat hb, vS_len]
      have := ok.few
      omega
    · obtain ⟨a, b, rfl, hb1, hb2⟩ := hin hx
      rw [lstOf_at hb2] at r
      exact ⟨_, rfl, a, rfl, ⟨_, SqL.of (s3 _ _ (s2 _ _ hb2))⟩, r _ _ walk_list fun H' s => SqL.of (s _ _ (s2 _ _ hb2))⟩
    rw [blks_flat hb] at hd3
    have t3 := s2.trans s3
    have hfew := ok.few
    refine ⟨_, rfl, D2, rfl, ⟨_, SqL.of hd3⟩, fun D3 hD3 => lcS walk_list (fun _ => .bl true) hD3 (fun H' s => SqL.of (s _ _ hd3)) (by omega) (fun _ => rfl) (fun n hn H4 s4 Q4 q4 => ?_) fun H4 s4 hd4 => ?_⟩
    · refine ⟨_, rfl, _, rfl, fa, dx2, _, rfl, (t3.trans s4) _ _ hfa, fa, f, rfl, hf0.mono (Same.L (t3.trans s4)), fun p H5 s5 hp5 => ?_⟩
      obtain ⟨b, hb1, hb2⟩ := List.mem_flatten.mp hn
      have e : inV (.str n) (vS f.members) = true := by rw [inV_strs]; exact decide_eq_true (ok.mem b hb1 n hb2)
      refine ⟨p, _, rfl, .inr (SqT.of hp5), rfl, vS_flat _, ?_⟩
      rw [e]
      exact q4 _ s5
    refine ⟨D3, bss.flatten.map fun _ => true, rfl, SqL.of (by rw [hd4, List.map_map]; rfl), ?_⟩
    rw [all_true]
    refine ⟨true, rfl, iteF ?_⟩
    have t4 := t3.trans s4
    refine ⟨_, rfl, D2, bss.flatten.map (Sum.inr : Str → Key), rfl, .inl (SqL.of (by rw [s4 _ _ hd3, vS_keys])), nodup_keys ok.nd, by rw [List.length_map]; omega, fun p5 hp5 => ⟨p5, _, _, rfl, upd_same, _, rfl, D2, _, rfl, .inl (SqL.of (same_new hp5 _ _ (s4 _ _ hd3))), _, _, rfl, rfl, _, rfl, ?_⟩⟩
    rw [decide_eq_false (by rw [List.length_map, vS_len]; omega)]
    have t5 := t4.trans (same_new (o := SetK P w p5 (fun j => (bss.flatten.map (Sum.inr : Str → Key)).any fun k => decide (k = j)) (bss.flatten.map (Sum.inr : Str → Key)).length) hp5)
    refine iteF ⟨_, rfl, l, rfl, ⟨_, hl.ext t5⟩, fun D6 hD6 => lcv walk_tup (fun _ => .bl false) hD6 (fun H' s => hl.ext (t5.trans s)) hz (fun _ => rfl) (fun x hx H6 s6 Q6 q6 => ?_) fun H6 s6 hd6 => ?_⟩
    · obtain ⟨a, b, rfl, hb1, hb2⟩ := hin hx
      refine ⟨_, rfl, a, b, rfl, SqL.of ((t5.trans s6) _ _ hb2), ?_⟩
      have e : (decide (("ground" : Str) ∈ b) && decide (("power" : Str) ∈ b)) = false := by
        by_cases h1 : ("ground" : Str) ∈ b
        · rw [decide_eq_false (ok.rails b hb1 h1), Bool.and_false]
        · rw [decide_eq_false h1, Bool.false_and]
      rw [e]
      exact q6 _ (Same.refl _)
    · refine ⟨D6, (bas.map V.ref).map fun _ => false, rfl, SqL.of (by rw [hd6, List.map_map (l := bas.map V.ref)]; rfl), ?_⟩
      rw [any_false]
      exact ⟨false, rfl, iteF (q _ (t5.trans s6))⟩
end
end Sj
set_option Elab.async false
set_option linter.all false
set_option maxRecDepth 100000
set_option maxHeartbeats 4000000
/-! SjDef11: Board is made. -/
namespace Sj
open PySem PySem.Spec PyProof.Rows L2 He
theorem okName_ne {s : Str} (h : okName s = true) : s ≠ "ground" ∧ s ≠ "power" := by
  simp only [okName, Bool.and_eq_true, decide_eq_true_eq] at h
  exact ⟨h.2.2.1, h.2.2.2.1⟩
theorem mem_rails {f : Fr} {n : Str} : n ∈ f.rails ↔ (f.gnd = true ∧ n = "ground") ∨ (f.pwr = true ∧ n = "power") := by
  unfold Fr.rails
  rw [List.mem_append]
  constructor
  · rintro (h | h)
    · split at h
      · exact .inl ⟨by assumption, List.mem_singleton.mp h⟩
      · cases h
    · split at h
      · exact .inr ⟨by assumption, List.mem_singleton.mp h⟩
      · cases h
  · rintro (⟨h, e⟩ | ⟨h, e⟩)
    · exact .inl (by rw [if_pos h, e]; exact List.mem_singleton.mpr rfl)
    · exact .inr (by rw [if_pos h, e]; exact List.mem_singleton.mpr rfl)
theorem rails_nd (f : Fr) : f.rails.Nodup := by
  unfold Fr.rails
  split <;> split <;> decide
theorem members_nd {f : Fr} (ok : f.Ok) : f.members.Nodup := by
  refine nodup_srt (List.nodup_append.mpr ⟨ok.nd, rails_nd f, fun a ha b hb e => ?_⟩)
  obtain ⟨h1, h2⟩ := okName_ne (ok.name a ha)
  rcases mem_rails.mp hb with ⟨_, e2⟩ | ⟨_, e2⟩
  · exact h1 (e.trans e2)
  · exact h2 (e.trans e2)
/-- the block of an element, its names ascending -/
def blkFor (bss : List (List Str)) (m : Str) : List Str := match bss.find? (fun b => decide (m ∈ b)) with
  | some b => srt b
  | none => [m]
theorem part_one : ∀ {bss : List (List Str)}, bss.flatten.Nodup → ∀ {b c : List Str} {m : Str}, b ∈ bss → c ∈ bss → m ∈ b → m ∈ c → b = c
  | [], _, _, _, _, h, _, _, _ => by cases h
  | d :: r, hnd, b, c, m, hb, hc, hmb, hmc => by
    rw [List.flatten_cons, List.nodup_append] at hnd
    obtain ⟨_, h2, h3⟩ := hnd
    rcases List.mem_cons.mp hb with e1 | h4
    · rcases List.mem_cons.mp hc with e2 | h5
      · rw [e1, e2]
      · exact absurd rfl (h3 m (e1 ▸ hmb) m (List.mem_flatten.mpr ⟨c, h5, hmc⟩))
    · rcases List.mem_cons.mp hc with e2 | h5
      · exact absurd rfl (h3 m (e2 ▸ hmc) m (List.mem_flatten.mpr ⟨b, h4, hmb⟩))
      · exact part_one h2 h4 h5 hmb hmc
theorem blkFor_of {bss : List (List Str)} (nd : bss.flatten.Nodup) {b : List Str} {m : Str} (hb : b ∈ bss) (hm : m ∈ b) : blkFor bss m = srt b := by
  unfold blkFor
  cases e : bss.find? (fun b => decide (m ∈ b)) with
  | none => exact absurd (decide_eq_true hm) (by simpa using List.find?_eq_none.mp e b hb)
  | some c =>
    have h1 := List.mem_of_find?_eq_some e
    have h2 : m ∈ c := of_decide_eq_true (List.find?_some (p := fun b => decide (m ∈ b)) e)
    rw [part_one nd hb h1 hm h2]
theorem valV_get {kvs : List (Key × V)} {k : Key} (h : k ∈ kvs.map (·.1)) : ∃ v, valV kvs k = some v ∧ (k, v) ∈ kvs := by
  induction kvs with
  | nil => cases h
  | cons p r ih =>
    obtain ⟨k2, v2⟩ := p
    by_cases e : k2 = k
    · exact ⟨v2, valV_pos e, by rw [e]; exact List.mem_cons_self⟩
    · rcases List.mem_cons.mp h with h | h
      · exact absurd h.symm e
      · obtain ⟨v, h1, h2⟩ := ih h
        exact ⟨v, by rw [valV_neg e]; exact h1, List.mem_cons_of_mem _ h2⟩
section
variable {P : Program} {w : World} {K : Frg} {mg : Str → Option Value} {base h : Heap}
def sp_Board_init (K : Frg) : Sp := fun vs H Q _ => ∃ (x fa dx l : Addr) (f : Fr) (bas : List Addr) (bss : List (List Str)), vs = [.ref x, .ref fa, .ref l] ∧ H x = some (.ins (ga K "Board") dx []) ∧ FrAt K H fa f ∧ SqT K H l (bas.map V.ref) ∧
  BlksAt H bas bss ∧ PartOk f bss ∧ ∀ H', SameB x H H' → BrdAt K H' x fa f.members (blkFor bss) → Q .non H'
theorem fn_Board_init (T : Txt K mg h) : Fn0 P w K mg base 7 (d_Board_init.loc K) (fun vs H Q E => ∃ ws rest, vs = ws ++ rest ∧ ws.length = 2 ∧ rest.length ≤ sizeLine ∧ ∀ p, H p = Option.none → sp_Board_init K (ws ++ [V.ref p]) (upd H p (.tup rest)) Q E) := by
  refine mkFnS (ps := ["self", "frame"]) (pv := "blocks") T.d_Board_init sc_Board_init (fun kV doc pm an cdv ct us rest h1 => match us, h1, rest with | [_, _], _, [] => rfl | [_, _], _, _ :: _ => rfl) (fun cdv A outer s H vs Q E hr h => ?_)
  obtain ⟨x, fa, dx, l, f, bas, bss, rfl, hx, hf, hl, hb, ok, q⟩ := h
  refine ⟨_, pss_cons (pset 3 sc_Board_init.nd (pc (ok_fault_of_boards T) hr (pa_cons (pv 1) (pa_cons (pv 2) pa_nil))))
    (pss_cons (ps_if (pt_cmpR op_notN (pv 3) pe_non (by rfl)) pss_never pss_nil)
    (pss_cons (ps_fld (pv 0) (pv 1) (by rfl))
    (pss_cons (pset 4 sc_Board_init.nd (pe_dc2 (own := [("block", 5), ("name", 6)]) (vs1 := [6]) (wi1 := iList K (tVar 5)) rfl sc_Board_init.nd (pi_tup (pv 2)) (blkOk_by (by kernel_rfl)) (by decide) (fun _ _ _ _ _ => pg_name (i := 5) sc_Board_init.nd rfl (Or.inl rfl)) (fun _ _ _ _ _ => pts_nil) (fun _ _ _ _ _ => pi_list (pv 5)) (fun _ _ _ _ _ => pg_name (i := 6) sc_Board_init.nd rfl (Or.inl rfl)) (fun _ _ _ _ _ => pts_nil) (fun _ _ _ _ _ => pv 6) (fun _ _ _ _ _ => ptup T (psrt T (pv 5)))))
    (pss_one (ps_fld (pv 0) (pdc 6 sc_Board_init.nd (pi_tup (pp (pr_Frame_members T) hr (pv 1))) (fun _ _ _ _ _ => pv 6) (fun _ _ _ _ _ => pe_dget2 (u1 hr) (pv 4) (pv 6) (pe_tup (pa_cons (pv 6) pa_nil)) (by constructor <;> rfl))) (by rfl)))))), ?_⟩
  have hx0 := hx
  have hbl : bas.length ≤ 50 := by rw [← paired_len hb]; exact Nat.le_trans (flat_len ok.ne) ok.few
  have hz : (bas.map V.ref).length ≤ 1000 := by rw [List.length_map]; omega
  have hfew := ok.few
  have hin : ∀ {v : V}, v ∈ bas.map V.ref → ∃ a b, v = .ref a ∧ b ∈ bss ∧ H a = some (.lst (vS b)) := fun {v} hv => by
    obtain ⟨a, ha, rfl⟩ := List.mem_map.mp hv
    obtain ⟨b, h1, h2⟩ := paired_rm hb ha
    exact ⟨a, b, rfl, h1, h2⟩
  have hbz : ∀ b ∈ bss, b.length < 64 := fun b hb1 => by
    have := (List.sublist_flatten_of_mem hb1).length_le
    omega
  refine ⟨_, rfl, _, rfl, fa, l, f, bas, bss, rfl, hf, hl, hb, ok, fun H1 (s1 : Same H H1) => ?_⟩
  refine ⟨_, rfl, rfl, false, rfl, iteF ?_⟩
  refine ⟨_, rfl, _, rfl, x, _, dx, _, rfl, s1 _ _ hx, T.kBoard, T.nBoard_frame, by decide, ?_⟩
  have hsb : SameB x H (upd H1 x (.ins (ga K "Board") dx (putF "frame" (.ref fa) []))) := fun b o hb e => (upd_ne hb).trans (s1 _ _ e)
  have hx3 : (upd H1 x (.ins (ga K "Board") dx (putF "frame" (.ref fa) []))) x = some (.ins (ga K "Board") dx [("frame", .ref fa)]) := upd_same
  generalize upd H1 x (.ins (ga K "Board") dx (putF "frame" (.ref fa) [])) = H3 at hsb hx3
  have hk : ∀ {b : Addr} {o : HO}, H b = some o → o ≠ .ins (ga K "Board") dx [] → H3 b = some o := fun {b o} e n => hsb b o (ne_obj e hx n) e
  have hf3 : FrAt K H3 fa f := by
    obtain ⟨dx2, L2, as, h1, h2, h3⟩ := hf
    exact ⟨dx2, L2, as, hk h1 (fun z => by injection z with _ _ z; cases z), ⟨hk h2.1 (fun z => by cases z), paired_imp (fun l a ⟨dx3, e⟩ => ⟨dx3, hk e (fun z => by injection z with _ _ z; cases z)⟩) h2.2⟩, h3⟩
  have hl3 : SqT K H3 l (bas.map V.ref) := sqT_mono hl fun o ho hk2 => hk ho (fun e => by rcases hk2 with e2 | ⟨u, e2⟩ <;> rw [e] at e2 <;> cases e2)
  have hin3 : ∀ {v : V}, v ∈ bas.map V.ref → ∃ a b, v = .ref a ∧ b ∈ bss ∧ H3 a = some (.lst (vS b)) ∧ lstOf H v = vS b := fun {v} hv => by
    obtain ⟨a, b, e, h1, h2⟩ := hin hv
    exact ⟨a, b, e, h1, hk h2 (fun z => by cases z), by rw [e]; exact lstOf_at h2⟩
  have hprs : (prs (bas.map V.ref) (lstOf H)).map (·.2) = vS bss.flatten := by
    rw [← blks_flat hb, prs, List.map_flatMap]
    congr 1
    funext v
    rw [List.map_map]
    exact List.map_id _
  have hpk : ((prs (bas.map V.ref) (lstOf H)).map fun z => (Sum.inr (strOf z.2) : Key)) = bss.flatten.map Sum.inr := by
    have := congrArg (List.map fun v => (Sum.inr (strOf v) : Key)) hprs
    rw [List.map_map, vS, List.map_map] at this
    exact this
  refine ⟨_, rfl, l, rfl, ⟨_, hl3⟩, fun D hD => dc2m walk_tup (lstOf H) (fun v => .inr (strOf v)) (fun D z v H => ∃ a, v = .ref a ∧ a ≠ D ∧ ∃ b ∈ bss, strOf z.2 ∈ b ∧ H a = some (.tup (vS (srt b)))) hD (fun H' s => hl3.ext s)
    (fun z v H H' s ⟨a, e, n, b, h1, h2, h3⟩ => ⟨a, e, n, b, h1, h2, s a _ n h3⟩) ?_ ?_ (fun _ => rfl) (fun _ _ => rfl) (fun y hy H4 s4 R r => ?_) (fun y hy z hz H4 Q4 q4 => ?_) (fun y hy z hz H4 s4 hd4 Q4 q4 => ?_) (fun kvs H4 s4 hd4 pr => ?_)⟩
  · rw [← List.length_map (·.2), hprs, vS_len]; omega
  · show ((prs (bas.map V.ref) (lstOf H)).map fun z => (Sum.inr (strOf z.2) : Key)).Nodup
    rw [hpk]
    exact nodup_keys ok.nd
  · obtain ⟨a, b, rfl, h1, h2, h3⟩ := hin3 hy
    rw [h3] at r
    exact ⟨_, rfl, a, rfl, ⟨_, SqL.of (s4 _ _ h2)⟩, r _ _ walk_list fun H' s => SqL.of (s _ _ h2)⟩
  · obtain ⟨a, b, rfl, h1, h2, h3⟩ := hin3 hy
    rw [h3] at hz
    obtain ⟨n, hn, rfl⟩ := List.mem_map.mp hz
    exact ⟨_, rfl, q4⟩
  · obtain ⟨a, b, rfl, h1, h2, h3⟩ := hin3 hy
    rw [h3] at hz
    obtain ⟨n, hn, rfl⟩ := List.mem_map.mp hz
    obtain ⟨kv4, hd4⟩ := hd4
    refine ⟨_, rfl, a, b, rfl, SqL.of (s4 _ _ h2), hbz b h1, fun p hp => ⟨p, _, rfl, SqL.of upd_same, fun p2 hp2 => q4 _ _ ((same_new hp).trans (same_new hp2)) ⟨p2, rfl, (ne_of_none (same_new hp _ _ hd4) hp2).symm, b, h1, hn, upd_same⟩⟩⟩
  · have hf4 := hf3.mono (Same.L s4)
    have hf5 := hf4
    obtain ⟨dx2, L2, as2, hfa, _⟩ := hf5
    have hget : ∀ n ∈ f.members, ∃ a, valV kvs (.inr n) = some (.ref a) ∧ H4 a = some (.tup (vS (blkFor bss n))) := fun n hn => by
      obtain ⟨b, hb1, hb2⟩ := ok.cov n hn
      have hkeys : kvs.map (·.1) = (prs (bas.map V.ref) (lstOf H)).map fun z => (Sum.inr (strOf z.2) : Key) := paired_fst (fun z kv h => h.1) pr
      have hmem : (Sum.inr n : Key) ∈ kvs.map (·.1) := by
        rw [hkeys, hpk]
        exact List.mem_map.mpr ⟨n, List.mem_flatten.mpr ⟨b, hb1, hb2⟩, rfl⟩
      obtain ⟨v, h1, h2⟩ := valV_get hmem
      obtain ⟨z, hz, e1, a, e2, _, c, hc, hnc, ha⟩ := paired_rm pr h2
      have e3 : n = strOf z.2 := Sum.inr.inj e1
      rw [← e3] at hnc
      have e4 : c = b := part_one ok.nd hc hb1 hnc hb2
      have e5 : v = V.ref a := e2
      refine ⟨a, by rw [h1, e5], ?_⟩
      rw [blkFor_of ok.nd hb1 hb2, ← e4]
      exact ha
    refine ⟨_, rfl, fa, dx2, _, rfl, hfa, fa, f, rfl, hf4, fun p H5 (s5 : Same H4 H5) hp5 => ⟨p, rfl, ⟨_, SqT.of hp5⟩, fun D6 hD6 => ?_⟩⟩
    have hmz : f.members.length ≤ 42 := by
      obtain ⟨_, _, _, _, _, fok⟩ := hf
      have := few_rails f
      have := fok.few
      show (srt (f.names ++ f.rails)).length ≤ 42
      rw [len_srt, List.length_append, Fr.names, List.length_map]
      omega
    have hmn : f.members.Nodup := by
      obtain ⟨_, _, _, _, _, fok⟩ := hf
      exact members_nd fok
    refine dcA walk_tup (fun n a H => H a = some (.tup (vS (blkFor bss n)))) (fun n a H H' s ne h => s a _ ne h) hmn hD6 (fun H' s => SqT.of (s _ _ hp5)) (by omega) (fun _ => rfl) (fun n hn H6 s6 Q6 q6 => ⟨_, rfl, q6 H6 (Same.refl _)⟩) (fun n hn H6 s6 ⟨kv6, hd6⟩ Q6 q6 => ?_) (fun as6 H6 s6 hd6 pr6 => ?_)
    · obtain ⟨a, h1, h2⟩ := hget n hn
      have t := s5.trans s6
      refine ⟨_, rfl, D, rfl, .inl ⟨_, .inl (t _ _ hd4)⟩, _, rfl, _, rfl, by rw [sizeLine_eq]; exact (by decide : 1 ≤ 16777216), fun p7 hp7 => ⟨_, DGet.k (k := .inr n) (same_new hp7 _ _ (t _ _ hd4)), ?_⟩⟩
      rw [h1]
      have s7 := same_new (o := .tup [V.str n]) hp7
      exact q6 a _ s7 (ne_obj (t _ _ h2) hd6 (fun z => by cases z)) (s7 _ _ (t _ _ h2))
    · have t := (s4.trans s5).trans s6
      refine ⟨_, rfl, x, _, dx, _, rfl, t _ _ hx3, T.kBoard, T.nBoard_own_blocks, show 1 < 1000 by decide, q _ (fun b o hb e => (upd_ne hb).trans (t _ _ (hsb b o hb e))) ?_⟩
      refine ⟨dx, D6, as6, upd_same, (upd_ne (ne_obj hd6 (t _ _ hx3) (fun z => by cases z))).trans hd6, paired_imp (fun m a e => (upd_ne (ne_obj e (t _ _ hx3) (fun z => by cases z))).trans e) pr6⟩
end
end Sj
set_option Elab.async false
set_option linter.all false
set_option maxRecDepth 100000
set_option maxHeartbeats 4000000
/-! SjDef12: a board answers. -/
namespace Sj
open PySem PySem.Spec PyProof.Rows L2 He
def mn : List Int → Int
  | [] => 0
  | [a] => a
  | a :: b :: r => if a ≤ mn (b :: r) then a else mn (b :: r)
theorem mn_mem : ∀ {ns : List Int}, ns ≠ [] → mn ns ∈ ns
  | [], h => absurd rfl h
  | [a], _ => List.mem_singleton.mpr rfl
  | a :: b :: r, _ => by
    rw [mn]
    split
    · exact List.mem_cons_self
    · exact List.mem_cons_of_mem _ (mn_mem (by simp))
theorem mn_le : ∀ {ns : List Int} {y : Int}, y ∈ ns → mn ns ≤ y
  | [], _, h => by cases h
  | [a], y, h => by rw [List.mem_singleton.mp h]; exact Int.le_refl _
  | a :: b :: r, y, h => by
    rw [mn]
    split
    · rename_i h1
      rcases List.mem_cons.mp h with e | h2
      · rw [e]; exact Int.le_refl _
      · exact Int.le_trans h1 (mn_le h2)
    · rename_i h1
      rcases List.mem_cons.mp h with e | h2
      · rw [e]; omega
      · exact mn_le h2
theorem mn_of {ns : List Int} {m : Int} (h : m ∈ ns) (hl : ∀ y ∈ ns, m ≤ y) : m = mn ns := Int.le_antisymm (hl _ (mn_mem (fun e => by rw [e] at h; cases h))) (mn_le h)
/-- what a block reads at a word -/
def rd (f : Fr) (r : List (Str × Int)) (b : List Str) : Int := if ("ground" : Str) ∈ b then 0 else if ("power" : Str) ∈ b then f.top else mn (b.map (lvl f.top r))
structure BlkP (f : Fr) (blk : Str → List Str) : Prop where
  mem : ∀ m ∈ f.members, ∀ x ∈ blk m, x ∈ f.members
  self : ∀ m ∈ f.members, m ∈ blk m
  few : ∀ m ∈ f.members, (blk m).length ≤ 50
  eqv : ∀ n ∈ f.members, ∀ m ∈ blk n, blk m = blk n
def ansOf (f : Fr) (blk : Str → List Str) (r : List (Str × Int)) : List (Str × Int) := f.names.map fun n => (n, rd f r (blk n))
theorem names_members {f : Fr} {n : Str} (h : n ∈ f.names) : n ∈ f.members := mem_srt.mpr (List.mem_append_left _ h)
section
variable {X : Cx} {j k : Nat} {C : Addr} {sp : Sp} {fe e : Expr} {es : List Expr} {tf : TE} {t : TA} {pos : Pos}
def tCO (C : Addr) (sp : Sp) (tf : TE) (t : TA) : TE := fun σ H Q => tf σ H fun y H1 => ∃ a, y = V.ref a ∧ t σ H1 fun vs H2 => (∃ dx fs, H2 a = some (.ins C dx fs)) ∧ sp (V.ref a :: vs) H2 Q E0
theorem pcallO (G : SF X.prog X.w X.K X.mg X.base C "__call__" j sp) (hf : PE X fe tf) (hr : Room k X.A) (ha : PA X (e :: es) t) (hj : j ≤ k := by decide)
    (ht : eval (.Call fe (e :: es) [] pos) X.env = (do callWith pos (← eval fe X.env) [] (backTo pos (starEach (e :: es) X.env)) (backToKw pos (keywordEach [] X.env))) := by rfl)
    (he : starEach (e :: es) X.env = (false, eval e X.env) :: starEach es X.env := by rfl) (hpl : (backTo pos (starEach es X.env)).any (·.1) = false := by rfl) : PE X (.Call fe (e :: es) [] pos) (tCO C sp tf t) := by
  obtain ⟨f, hs, F⟩ := G.ex
  refine ⟨fun pins s σ H Q I hq => ?_⟩
  refine Call_ (thn (hf.run pins s σ H _ I hq) fun u s1 ⟨y, H1, I1, ry, a, ey, q⟩ => ?_) ht
  subst ey
  obtain rfl : u = Value.ref a := ry
  refine StX.callO_with (thn (ha.run pos pins s1 σ H1 _ I1 q) fun us s2 ⟨vs, H2, I2, r, hi, q2⟩ => ?_) he hpl
  obtain ⟨ox, od, J, hd⟩ := StX.insC_at (C := C) I2 (.inr hi)
  exact ⟨⟨C, ox, od, J, hd⟩, StX.run_callO ⟨hs.at_, hs.fn, hs.fi⟩ F (hr.mono hj) pass0 I2 (.inr hi) r q2⟩
end
section
variable {P : Program} {w : World} {K : Frg} {mg : Str → Option Value} {base h : Heap}
theorem k_Board (T : Txt K mg h) : KF P w K mg base (ga K "Board") 7 (fun vs H Q E => ∃ ws rest, vs = ws ++ rest ∧ ws.length = 2 ∧ rest.length ≤ sizeLine ∧ ∀ p, H p = Option.none → sp_Board_init K (ws ++ [V.ref p]) (upd H p (.tup rest)) Q E) := ⟨_, T.mkBoard, fn_Board_init T⟩
def sp_Board_of (K : Frg) : Sp := fun vs H Q _ => ∃ (fa l : Addr) (f : Fr) (bas : List Addr) (bss : List (List Str)), vs = [.ref (ga K "Board"), .ref fa, .ref l] ∧ FrAt K H fa f ∧ H l = some (.lst (bas.map V.ref)) ∧
  BlksAt H bas bss ∧ PartOk f bss ∧ ∀ x H', Same H H' → BrdAt K H' x fa f.members (blkFor bss) → Q (.ref x) H'
theorem c_Board_of (T : Txt K mg h) : CF P w K mg base (ga K "Board") "of" 9 (sp_Board_of K) := by
  refine ⟨_, _, _, T.rBoard, T.cBoard_of, mkFn T.d_Board_of sc_Board_of rfl (fun _ _ _ _ _ _ us hl => match us, hl with | [_, _, _], _ => rfl) (fun vs H Q E h => ?_) (fun cdv A outer s H vs Q E hr h => ?_)⟩
  · obtain ⟨fa, l, f, bas, bss, rfl, _⟩ := h
    rfl
  · obtain ⟨fa, l, f, bas, bss, rfl, hf, hl, hb, ok, q⟩ := h
    have hbl : bas.length ≤ 50 := by rw [← paired_len hb]; exact Nat.le_trans (flat_len ok.ne) ok.few
    refine ⟨_, pss_cons (ps_if (pt_not (pt_val (pisLT T (pv 2)))) pss_never pss_nil) (pss_one (ps_ret (pks (k_Board T) hr (pv 0) (pa_cons (pv 1) (StX.pa_star (pv 2) pa_nil))))), ?_⟩
    refine ⟨_, rfl, le2, fun tp htp => ⟨l, tp, _, rfl, upd_same, .inl (same_new htp _ _ hl), true, rfl, iteF ?_⟩⟩
    have s1 := same_new (o := .tup [V.ty "list", V.ty "tuple"]) htp
    refine ⟨_, rfl, rfl, _, rfl, _, rfl, l, _, rfl, .inr (SqL.of (s1 _ _ hl)), ?_⟩
    dsimp only [tNil]
    rw [List.append_nil]
    refine fun x dx hx hdx hne => ⟨[.ref x, .ref fa], bas.map V.ref, rfl, rfl, by rw [List.length_map, sizeLine_eq]; omega, fun p hp0 => ?_⟩
    have s2 : Same H (upd (upd (upd (upd H tp (.tup [V.ty "list", V.ty "tuple"])) dx (.own x)) x (.ins (ga K "Board") dx [])) p (.tup (bas.map V.ref))) := fun b o e => by
      have e1 := s1 _ _ e
      have e2 : (upd (upd (upd H tp (.tup [V.ty "list", V.ty "tuple"])) dx (.own x)) x (.ins (ga K "Board") dx [])) b = some o := by rw [upd_ne (ne_of_none e1 hx), upd_ne (ne_of_none e1 hdx)]; exact e1
      rw [upd_ne (ne_of_none e2 hp0)]
      exact e2
    have hxp : x ≠ p := ne_of_none upd_same hp0
    exact ⟨x, fa, dx, p, f, bas, bss, rfl, (upd_ne hxp).trans upd_same, hf.mono (Same.L s2), SqT.of upd_same, paired_imp (fun _ _ z => s2 _ _ z) hb, ok, fun H' s3 ht => ⟨rfl, q x H' (fun b o e => s3 b o (ne_of_none (s1 _ _ e) hx) (s2 _ _ e)) ht⟩⟩
def sp_Board_getitem (K : Frg) : Sp := fun vs H Q _ => ∃ (a fa : Addr) (f : Fr) (blk : Str → List Str) (n : Str), vs = [.ref a, .str n] ∧ FrAt K H fa f ∧ BrdAt K H a fa f.members blk ∧ n ∈ f.members ∧ ∀ p H', Same H H' → H' p = some (.tup (vS (blk n))) → Q (.ref p) H'
theorem sf_Board_getitem (T : Txt K mg h) : SF P w K mg base (ga K "Board") "__getitem__" 5 (sp_Board_getitem K) := by
  refine ⟨_, T.sBoard_getitem, mkFn T.d_Board_getitem sc_Board_getitem rfl (fun _ _ _ _ _ _ us hl => match us, hl with | [_, _], _ => rfl) (fun vs H Q E h => ?_) (fun cdv A outer s H vs Q E hr h => ?_)⟩
  · obtain ⟨a, fa, f, blk, n, rfl, _⟩ := h
    rfl
  · obtain ⟨a, fa, f, blk, n, rfl, hf, ⟨dx, L, bs, ha, hL, hp⟩, hn, q⟩ := h
    have hf0 := hf
    obtain ⟨dx2, L2, as, hfa, _⟩ := hf
    refine ⟨_, pss_cons (ps_if (pt_cmpR op_notIn_seq (pv 1) (pp (pr_Frame_members T) hr (pf (pv 0))) (by rfl)) pss_never pss_nil) (pss_one (ps_ret (pdg (u1 hr) (pf (pv 0)) (pv 1)))), ?_⟩
    refine ⟨_, rfl, _, rfl, a, _, dx, _, .ref fa, rfl, ha, T.kBoard, T.nBoard_frame, rfl, fa, dx2, _, rfl, hfa, fa, f, rfl, hf0, fun p H1 (s1 : Same H H1) hp1 => ?_⟩
    have e : inV (.str n) (vS f.members) = true := by rw [inV_strs]; exact decide_eq_true hn
    refine ⟨p, _, rfl, .inr (SqT.of hp1), rfl, vS_flat _, ?_⟩
    rw [e]
    obtain ⟨b, h1, h2⟩ := valV_zip (key := fun m : Str => (Sum.inr m : Key)) hp hn (fun x _ e => Sum.inr.inj e)
    have hg := DGet.k (k := .inr n) (s1 _ _ hL)
    rw [h1] at hg
    exact ⟨false, rfl, iteF ⟨_, rfl, a, _, dx, _, .ref L, rfl, s1 _ _ ha, T.kBoard, T.nBoard_own_blocks, rfl, _, rfl, L, _, rfl, hg, q b H1 s1 (s1 _ _ h2)⟩⟩
def sp_Board_reads (K : Frg) : Sp := fun vs H Q _ => ∃ (a fa wa : Addr) (f : Fr) (blk : Str → List Str) (r : List (Str × Int)) (n : Str), vs = [.ref a, .ref wa, .str n] ∧ FrAt K H fa f ∧ BrdAt K H a fa f.members blk ∧ WordAt K H wa fa r ∧ n ∈ f.names ∧ BlkP f blk ∧ ∀ H', Same H H' → Q (.int (rd f r (blk n))) H'
theorem mf_Board_reads (T : Txt K mg h) : MF P w K mg base (ga K "Board") "reads" 7 (sp_Board_reads K) := by
  obtain ⟨tG, gG⟩ := T.vGROUND
  obtain ⟨tP, gP⟩ := T.vPOWER
  refine ⟨T.kBoard, _, T.mBoard_reads, mkFn T.d_Board_reads sc_Board_reads rfl (fun _ _ _ _ _ _ us hl => match us, hl with | [_, _, _], _ => rfl) (fun vs H Q E h => ?_) (fun cdv A outer s H vs Q E hr h => ?_)⟩
  · obtain ⟨a, fa, wa, f, blk, r, n, rfl, _⟩ := h
    rfl
  · obtain ⟨a, fa, wa, f, blk, r, n, rfl, hf, hb, hw, hn, bp, q⟩ := h
    refine ⟨_, pss_cons (pset 3 sc_Board_reads.nd (pe_getO (sf_Board_getitem T) hr (pv 0) (pv 2)))
      (pss_cons (ps_if (PW.pt (pw_or (pt_cmpR op_eq (pv 2) (pe_glob (v := .str "ground") (by rfl) gG ⟨_, rfl⟩) (by rfl)) (pw_or1 (pt_cmpR op_in_seq (pe_glob (v := .str "ground") (by rfl) gG ⟨_, rfl⟩) (pv 3) (by rfl))))) (pss_one (ps_ret pe_int)) pss_nil)
      (pss_one (ps_ret (pe_ifExp (pt_cmpR op_in_seq (pe_glob (v := .str "power") (by rfl) gP ⟨_, rfl⟩) (pv 3) (by rfl)) (pf (pf (pv 0))) (pe_callB (cr_min rfl) (by rfl) T.b_min bt_min (pa_cons (plc 4 sc_Board_reads.nd (pi_tup (pv 3)) (fun _ _ _ _ _ => pe_getO (sf_Word_getitem T) hr (pv 1) (pv 4))) pa_nil)))))), ?_⟩
    have hm := names_members hn
    obtain ⟨dx, L, bs, ha, hL, hbp⟩ := hb
    have hb : BrdAt K H a fa f.members blk := ⟨dx, L, bs, ha, hL, hbp⟩
    obtain ⟨dx2, L2, as, hfa, hlegs, fok⟩ := hf
    have hf : FrAt K H fa f := ⟨dx2, L2, as, hfa, hlegs, fok⟩
    obtain ⟨hng, hnp⟩ := okName_ne (fok.name n hn)
    refine ⟨_, rfl, _, rfl, a, dx, _, rfl, ha, a, fa, f, blk, n, rfl, hf, hb, hm, fun p H1 (s1 : Same H H1) hp1 => ?_⟩
    refine ⟨_, rfl, rfl, _, rfl, ?_⟩
    rw [decide_eq_false (fun z => hng (by injection z))]
    refine iteF ⟨_, rfl, p, _, rfl, .inr (SqT.of hp1), rfl, vS_flat _, ?_⟩
    rw [inV_strs]
    have ql := fun H' (s : Same H H') => q H' s
    unfold rd at ql
    by_cases h1 : ("ground" : Str) ∈ blk n
    · rw [if_pos h1] at ql
      rw [decide_eq_true h1]
      exact ⟨true, rfl, iteT (ql H1 s1)⟩
    rw [decide_eq_false h1]
    rw [if_neg h1] at ql
    refine ⟨false, rfl, iteF ⟨_, rfl, p, _, rfl, .inr (SqT.of hp1), rfl, vS_flat _, ?_⟩⟩
    rw [inV_strs]
    by_cases h2 : ("power" : Str) ∈ blk n
    · rw [if_pos h2] at ql
      rw [decide_eq_true h2]
      exact ⟨true, rfl, iteT ⟨_, rfl, a, _, dx, _, .ref fa, rfl, s1 _ _ ha, T.kBoard, T.nBoard_frame, rfl, fa, _, dx2, _, .int f.top, rfl, s1 _ _ hfa, T.kFrame, T.nFrame_top, rfl, ql H1 s1⟩⟩
    rw [decide_eq_false h2]
    rw [if_neg h2] at ql
    refine ⟨false, rfl, iteF ⟨_, rfl, p, rfl, ⟨_, SqT.of hp1⟩, fun D hD => ?_⟩⟩
    have hbz := bp.few n hm
    refine lcS walk_tup (fun m => .int (lvl f.top r m)) hD (fun H' s => SqT.of (s _ _ hp1)) (by omega) (fun _ => rfl) (fun m hmb H2 s2 Q2 q2 => ?_) (fun H2 s2 hd2 => ?_)
    · have t := s1.trans s2
      have hw2 := hw
      obtain ⟨dxw, Lw, hwa, _⟩ := hw2
      exact ⟨_, rfl, _, rfl, wa, dxw, _, rfl, t _ _ hwa, wa, fa, f, r, m, rfl, hf.mono (Same.L t), hw.mono (Same.L t), bp.mem n hm m hmb, q2⟩
    · refine ⟨D, (blk n).map (lvl f.top r), rfl, SqL.of (by rw [hd2, List.map_map]; rfl), ?_, fun m h3 h4 => ?_⟩
      · rw [List.length_map]
        exact List.length_pos_iff.mpr fun e => by have := bp.self n hm; rw [e] at this; cases this
      · rw [mn_of h3 h4]
        exact ql H2 (s1.trans s2)
def sp_Board_call (K : Frg) : Sp := fun vs H Q _ => ∃ (a fa wa : Addr) (f : Fr) (blk : Str → List Str) (r : List (Str × Int)), vs = [.ref a, .ref wa] ∧ FrAt K H fa f ∧ BrdAt K H a fa f.members blk ∧ WordAt K H wa fa r ∧ BlkP f blk ∧ ∀ D H', Same H H' → H' D = some (.dK (rowK (ansOf f blk r))) → Q (.ref D) H'
theorem sf_Board_call (T : Txt K mg h) : SF P w K mg base (ga K "Board") "__call__" 8 (sp_Board_call K) := by
  refine ⟨_, T.sBoard_call, mkFn T.d_Board_call sc_Board_call rfl (fun _ _ _ _ _ _ us hl => match us, hl with | [_, _], _ => rfl) (fun vs H Q E h => ?_) (fun cdv A outer s H vs Q E hr h => ?_)⟩
  · obtain ⟨a, fa, wa, f, blk, r, rfl, _⟩ := h
    rfl
  · obtain ⟨a, fa, wa, f, blk, r, rfl, hf, hb, hw, bp, q⟩ := h
    obtain ⟨dx, L, bs, ha, hL, hbp⟩ := hb
    have hb : BrdAt K H a fa f.members blk := ⟨dx, L, bs, ha, hL, hbp⟩
    obtain ⟨dx2, L2, as, hfa, hlegs, fok⟩ := hf
    have hf : FrAt K H fa f := ⟨dx2, L2, as, hfa, hlegs, fok⟩
    refine ⟨_, pss_one (ps_ret (pdc 2 sc_Board_call.nd (pi_tup (pp (pr_Frame_names T) hr (pf (pv 0)))) (fun _ _ _ _ _ => pv 2) (fun _ _ _ _ _ => pm (mf_Board_reads T) hr (pv 0) (pa_cons (pv 1) (pa_cons (pv 2) pa_nil))))), ?_⟩
    refine ⟨_, rfl, a, _, dx, _, .ref fa, rfl, ha, T.kBoard, T.nBoard_frame, rfl, fa, dx2, _, rfl, hfa, fa, f, rfl, hf, fun p H1 (s1 : Same H H1) hp1 => ⟨p, rfl, ⟨_, SqT.of hp1⟩, fun D hD => ?_⟩⟩
    have e : f.names.filter (fun _ => true) = f.names := List.filter_eq_self.mpr fun _ _ => rfl
    refine dcS walk_tup (fun _ => true) (fun n => .int (rd f r (blk n))) (by rw [e]; exact fok.nd) hD (fun H' s => SqT.of (s _ _ hp1)) (by rw [Fr.names, List.length_map]; have := fok.few; omega) (fun _ => rfl) (fun n hn H2 s2 Q2 q2 => q2 H2 (Same.refl _)) (fun n hn _ H2 s2 Q2 q2 => ⟨_, rfl, q2 H2 (Same.refl _)⟩) (fun n hn _ H2 s2 Q2 q2 => ?_) (fun H2 s2 hd2 => q D H2 (s1.trans s2) ?_)
    · have t := s1.trans s2
      exact ⟨_, rfl, a, dx, _, rfl, t _ _ ha, rfl, _, rfl, _, rfl, a, fa, wa, f, blk, r, n, rfl, hf.mono (Same.L t), hb.mono (Same.L t), hw.mono (Same.L t), hn, bp, q2⟩
    · rw [hd2, e, rowK, ansOf, List.map_map]
      rfl
def sp_Table_answers_of (K : Frg) : Sp := fun vs H Q _ => ∃ (a fa ba : Addr) (f : Fr) (blk : Str → List Str) (rs : List (List (Str × Int))), vs = [.ref a, .ref ba] ∧ FrAt K H fa f ∧ BrdAt K H ba fa f.members blk ∧ TblAt K H a fa rs ∧ rs.length ≤ 60 ∧ BlkP f blk ∧
  ∀ l as H', Same H H' → H' l = some (.lst (as.map V.ref)) → Paired (fun r a => H' a = some (.dK (rowK (ansOf f blk r)))) rs as → Q (.ref l) H'
theorem mf_Table_answers_of (T : Txt K mg h) : MF P w K mg base (ga K "Table") "answers_of" 9 (sp_Table_answers_of K) := by
  refine ⟨T.kTable, _, T.mTable_answers_of, mkFn T.d_Table_answers_of sc_Table_answers_of rfl (fun _ _ _ _ _ _ us hl => match us, hl with | [_, _], _ => rfl) (fun vs H Q E h => ?_) (fun cdv A outer s H vs Q E hr h => ?_)⟩
  · obtain ⟨a, fa, ba, f, blk, rs, rfl, _⟩ := h
    rfl
  · obtain ⟨a, fa, ba, f, blk, rs, rfl, hf, hb, ⟨dx, W, ws, ha, hW, hp⟩, few, bp, q⟩ := h
    obtain ⟨dxb, Lb, bs, hba, hLb, hbp⟩ := hb
    have hb : BrdAt K H ba fa f.members blk := ⟨dxb, Lb, bs, hba, hLb, hbp⟩
    refine ⟨_, pss_one (ps_ret (plc 2 sc_Table_answers_of.nd (pi_tup (pf (pv 0))) (fun _ _ _ _ _ => pcallO (sf_Board_call T) (pv 1) hr (pa_cons (pv 2) pa_nil)))), ?_⟩
    refine ⟨_, rfl, a, _, dx, _, .ref W, rfl, ha, T.kTable, T.nTable_own_words, rfl, W, rfl, ⟨_, SqT.of hW⟩, fun D hD => ?_⟩
    refine lcm1 walk_tup (fun D x y H' => ∃ b, y = .ref b ∧ b ≠ D ∧ H' b = some (.dK (rowK (ansOf f blk (rowOf K H fa x))))) hD (fun H' s => SqT.of (s _ _ hW)) (fun x y H1 H2 s ⟨b, e1, e2, e3⟩ => ⟨b, e1, e2, s b _ e2 e3⟩) (by rw [List.length_map, paired_len hp]; omega) (fun _ => rfl) (fun x hx H2 acc s2 hd2 Q2 q2 => ?_) (fun ys H2 s2 hd2 pr => ?_)
    · obtain ⟨b, hb2, rfl⟩ := List.mem_map.mp hx
      obtain ⟨r, hw⟩ := paired_left hp hb2
      refine ⟨_, rfl, ba, rfl, _, rfl, ⟨dxb, _, s2 _ _ hba⟩, ba, fa, b, f, blk, r, rfl, hf.mono (Same.L s2), hb.mono (Same.L s2), hw.mono (Same.L s2), bp, fun D3 H3 (s3 : Same H2 H3) h3 => q2 _ H3 s3 ⟨D3, rfl, ne_obj h3 (s3 _ _ hd2) (fun z => by cases z), ?_⟩⟩
      rw [rowOf_eq hw]
      exact h3
    · have : ∀ {ws : List Addr} {rs : List (List (Str × Int))}, Paired (fun w r => WordAt K H w fa r) ws rs → ∀ {ys : List V}, Paired (fun x y => ∃ b, y = V.ref b ∧ b ≠ D ∧ H2 b = some (.dK (rowK (ansOf f blk (rowOf K H fa x))))) (ws.map V.ref) ys → ∃ as, ys = as.map V.ref ∧ Paired (fun r a => H2 a = some (.dK (rowK (ansOf f blk r)))) rs as := by
        intro ws rs hp
        induction hp with
        | nil => intro ys h; cases h; exact ⟨[], rfl, .nil⟩
        | cons hw t ih =>
          intro ys h
          cases h with
          | cons h1 h2 =>
            obtain ⟨as, e, p⟩ := ih h2
            obtain ⟨b, e1, _, e3⟩ := h1
            rw [rowOf_eq hw] at e3
            exact ⟨b :: as, by rw [e1, e]; rfl, .cons e3 p⟩
      obtain ⟨as, e, p⟩ := this hp pr
      exact q D as H2 s2 (e ▸ hd2) p
end
end Sj
set_option Elab.async false
set_option linter.all false
set_option maxRecDepth 100000
set_option maxHeartbeats 4000000
/-! SjDef13: readings: check_answers, levels_read, lifted_at. -/
namespace Sj
open PySem PySem.Spec PyProof.Rows L2 He
/-- the levels that an element reads, at which it is driven -/
def lv (f : Fr) (blk : Str → List Str) (rs : List (List (Str × Int))) (n : Str) : List Int := rs.map fun r => rd f r (blk n)
def dv (f : Fr) (rs : List (List (Str × Int))) (n : Str) : List Int := rs.map fun r => lvl f.top r n
/-- the answers, as dicts -/
def AnsAt (H : Hp) (f : Fr) (blk : Str → List Str) (rs : List (List (Str × Int))) (as : List Addr) : Prop := Paired (fun r a => H a = some (.dK (rowK (ansOf f blk r)))) rs as
/-- a row of levels as the law may give it -/
structure RowW (f : Fr) (r : List (Str × Int)) : Prop where
  lo : ∀ n, 0 ≤ lvl f.top r n
  hi : ∀ n, lvl f.top r n ≤ f.top
structure TabOk (f : Fr) (blk : Str → List Str) (rs : List (List (Str × Int))) : Prop where
  few : rs.length ≤ 20
  pos : 0 < rs.length
  bp : BlkP f blk
  row : ∀ r ∈ rs, RowW f r
  gnd : ("ground" : Str) ∈ f.members → ("ground" : Str) ∈ blk "ground"
  pwr : ("power" : Str) ∈ f.members → ("power" : Str) ∈ blk "power" ∧ ("ground" : Str) ∉ blk "power"
theorem rd_lo {f : Fr} (ok : f.Ok) {r : List (Str × Int)} (h : RowW f r) {b : List Str} (hb : b ≠ []) : 0 ≤ rd f r b := by
  have := ok.top1
  unfold rd
  split
  · exact Int.le_refl _
  · split
    · omega
    · obtain ⟨n, _, e⟩ := List.mem_map.mp (mn_mem (ns := b.map (lvl f.top r)) (by simpa using hb))
      rw [← e]
      exact h.lo n
theorem rd_hi {f : Fr} (ok : f.Ok) {r : List (Str × Int)} (h : RowW f r) {b : List Str} (hb : b ≠ []) : rd f r b ≤ f.top := by
  have := ok.top1
  unfold rd
  split
  · omega
  · split
    · exact Int.le_refl _
    · obtain ⟨n, _, e⟩ := List.mem_map.mp (mn_mem (ns := b.map (lvl f.top r)) (by simpa using hb))
      rw [← e]
      exact h.hi n
theorem ans_nm (f : Fr) (blk : Str → List Str) (r : List (Str × Int)) : rowK (ansOf f blk r) = nmK f.names fun n => .int (rd f r (blk n)) := by
  rw [rowK, ansOf, nmK, List.map_map]
  rfl
section
variable {P : Program} {w : World} {K : Frg} {mg : Str → Option Value} {base h : Heap}
def sp_check_answers (K : Frg) : Sp := fun vs H Q _ => ∃ (ta fa l : Addr) (f : Fr) (blk : Str → List Str) (rs : List (List (Str × Int))) (as : List Addr), vs = [.ref ta, .ref l] ∧ FrAt K H fa f ∧ TblAt K H ta fa rs ∧ H l = some (.lst (as.map V.ref)) ∧ AnsAt H f blk rs as ∧ TabOk f blk rs ∧ ∀ H', Same H H' → Q .non H'
theorem ok_check_answers (T : Txt K mg h) : GF P w K mg base "check_answers" 4 (sp_check_answers K) := by
  refine ⟨_, T.g_check_answers, keepX T.d_check_answers, mkFn T.d_check_answers sc_check_answers rfl (fun _ _ _ _ _ _ us hl => match us, hl with | [_, _], _ => rfl) (fun vs H Q E h => ?_) (fun cdv A outer s H vs Q E hr h => ?_)⟩
  · obtain ⟨ta, fa, l, f, blk, rs, as, rfl, _⟩ := h
    rfl
  · obtain ⟨ta, fa, l, f, blk, rs, as, rfl, hf, ht, hl, han, ok, q⟩ := h
    obtain ⟨dx, W, ws, ha, hW, hp⟩ := ht
    have ht : TblAt K H ta fa rs := ⟨dx, W, ws, ha, hW, hp⟩
    obtain ⟨dx2, L2, ls, hfa, hlegs, fok⟩ := hf
    have hf : FrAt K H fa f := ⟨dx2, L2, ls, hfa, hlegs, fok⟩
    refine ⟨_, pss_cons (ps_if (PW.pt (pw_or (pt_not (pt_val (pisLT T (pv 1)))) (pw_or1 (pt_cmpR op_ne (plen T (pv 1)) (pe_callB (call_lenO (sf_Table_len T) hr) (by rfl) T.b_len bt_len (pa_cons (pv 0) pa_nil)) (by rfl))))) pss_never pss_nil)
      (pss_cons (pset 2 sc_check_answers.nd (pf (pv 0)))
      (pss_cons (pfor2 3 4 sc_check_answers.nd (pi_enum (by rfl) T.b_enumerate (pa_cons (pv 1) pa_nil)) (pss_one (ps_if (pt_not (pt_val (pc (ok_has_names T) hr (pa_cons (pp (pr_Frame_names T) hr (pv 2)) (pa_cons (pv 4) pa_nil))))) pss_never pss_nil)))
      (pss_one (pfor2 3 4 sc_check_answers.nd (pi_enum (by rfl) T.b_enumerate (pa_cons (pv 1) pa_nil)) (pss_one (pfor 5 sc_check_answers.nd (pi_tup (pp (pr_Frame_names T) hr (pv 2))) (pss_one (ps_if (pt_not (pt_val (pc (ok_is_between T) hr (pa_cons (pdg (u1 hr) (pv 4) (pv 5)) (pa_cons pe_int (pa_cons (pf (pv 2)) pa_nil)))))) pss_never pss_nil)))))))), ?_⟩
    have hlen : as.length = rs.length := (paired_len han).symm
    refine ⟨_, rfl, le2, fun tp htp => ⟨l, tp, _, rfl, upd_same, .inl (same_new htp _ _ hl), true, rfl, iteF ?_⟩⟩
    have s1 := same_new (o := .tup [V.ty "list", V.ty "tuple"]) htp
    generalize upd H tp (.tup [V.ty "list", V.ty "tuple"]) = H1 at s1
    refine ⟨_, rfl, l, _, rfl, .inl (SqL.of (s1 _ _ hl)), _, rfl, ta, dx, _, rfl, s1 _ _ ha, ta, fa, rs, rfl, ht.mono (Same.L s1), by have := ok.few; omega, rs.length, rfl, by have := ok.few; omega, rfl, _, rfl, ?_⟩
    rw [show (!decide (V.int ((as.map V.ref).length : Nat) = V.int (rs.length : Nat))) = false from by rw [List.length_map, hlen, decide_eq_true rfl]; rfl]
    refine iteF ⟨_, rfl, ta, _, dx, _, .ref fa, rfl, s1 _ _ ha, T.kTable, T.nTable_frame, rfl, ?_⟩
    have hget : ∀ {i : Nat} {y : V}, (as.map V.ref)[i]? = some y → ∃ a r, y = .ref a ∧ r ∈ rs ∧ H a = some (.dK (rowK (ansOf f blk r))) := fun {i y} e => by
      obtain ⟨a, ha, rfl⟩ := List.mem_map.mp (List.mem_of_getElem? e)
      obtain ⟨r, h1, h2⟩ := paired_rm han ha
      exact ⟨a, r, rfl, h1, h2⟩
    refine ⟨_, rfl, l, _, rfl, SqL.of (s1 _ _ hl), ?_⟩
    refine for_it walk_enum (fun _ σ H' => Same H1 H' ∧ ∃ a b c, σ = [some (.ref ta), some (.ref l), some (.ref fa), a, b, c]) ⟨Same.refl _, _, _, _, rfl⟩ (fun i σ H' _ h => SqL.of (h.1 _ _ (s1 _ _ hl))) (fun i x σ H2 H' hi h2 hy => ?_) (fun σ H2 h2 => ?_)
    · obtain ⟨s2, a2, b2, c2, rfl⟩ := h2
      obtain ⟨Tp, x1, y1, rfl, hT, rfl, hx1, hy1⟩ := hy
      obtain ⟨a, r, rfl, hr1, hr2⟩ := hget hy1
      refine g2_of (SqT.of upd_same) ?_
      have t := (s1.trans s2).trans (same_new (o := .tup [x1, V.ref a]) hT)
      have t2 := s2.trans (same_new (o := .tup [x1, V.ref a]) hT)
      refine ⟨_, rfl, fa, dx2, _, rfl, t _ _ hfa, fa, f, rfl, hf.mono (Same.L t), fun p H3 (s3 : Same _ H3) hp3 => ⟨_, rfl, p, a, f.names, (fun n => .int (rd f r (blk n))), rfl, SqT.of hp3, ?_, ?_, fun H4 s4 => ⟨true, rfl, iteF ⟨(t2.trans s3).trans s4, _, _, _, rfl⟩⟩⟩⟩
      · rw [← ans_nm]
        exact s3 _ _ (t _ _ hr2)
      · rw [Fr.names, List.length_map]
        have := fok.few
        omega
    obtain ⟨s2, a2, b2, c2, rfl⟩ := h2
    have t2 := s1.trans s2
    refine ⟨_, rfl, l, _, rfl, SqL.of (t2 _ _ hl), ?_⟩
    refine for_it walk_enum (fun _ σ H' => Same H2 H' ∧ ∃ a b c, σ = [some (.ref ta), some (.ref l), some (.ref fa), a, b, c]) ⟨Same.refl _, _, _, _, rfl⟩ (fun i σ H' _ h => SqL.of (h.1 _ _ (t2 _ _ hl))) (fun i x σ H3 H' hi h3 hy => ?_) (fun σ H3 h3 => q H3 (t2.trans h3.1))
    obtain ⟨s3, a3, b3, c3, rfl⟩ := h3
    obtain ⟨Tp, x1, y1, rfl, hT, rfl, hx1, hy1⟩ := hy
    obtain ⟨a, r, rfl, hr1, hr2⟩ := hget hy1
    refine g2_of (SqT.of upd_same) ?_
    have s4 := same_new (o := .tup [x1, V.ref a]) hT
    have t := (t2.trans s3).trans s4
    refine ⟨_, rfl, fa, dx2, _, rfl, t _ _ hfa, fa, f, rfl, hf.mono (Same.L t), fun p H5 (s5 : Same _ H5) hp5 => ⟨p, rfl, ⟨_, SqT.of hp5⟩, ?_⟩⟩
    refine for_it walk_tup (fun _ σ H' => Same H5 H' ∧ ∃ c, σ = [some (.ref ta), some (.ref l), some (.ref fa), some x1, some (.ref a), c]) ⟨Same.refl _, _, rfl⟩ (fun i σ H' _ h => SqT.of (h.1 _ _ hp5)) (fun i x σ H6 H' hi h6 hy => ?_) (fun σ H6 h6 => ?_)
    · obtain ⟨e, hx⟩ := hy
      subst e
      obtain ⟨s6, c6, rfl⟩ := h6
      obtain ⟨n, hn, rfl⟩ := List.mem_map.mp (List.mem_of_getElem? hx)
      have t6 := (t.trans s5).trans s6
      have hg : DGet H' a (.str n) (some (.int (rd f r (blk n)))) := by
        have := DGet.k (k := .inr n) (t6 _ _ hr2)
        rw [ans_nm, valV_nm hn] at this
        exact this
      have hne : blk n ≠ [] := fun e => by
        have := ok.bp.self n (names_members hn)
        rw [e] at this
        cases this
      refine ⟨_, rfl, _, rfl, a, _, rfl, hg, _, rfl, fa, _, dx2, _, .int f.top, rfl, t6 _ _ hfa, T.kFrame, T.nFrame_top, rfl, _, 0, f.top, rfl, ?_⟩
      rw [decide_eq_true (show (0 : Int) ≤ rd f r (blk n) ∧ rd f r (blk n) ≤ f.top from ⟨rd_lo fok (ok.row r hr1) hne, rd_hi fok (ok.row r hr1) hne⟩)]
      exact ⟨true, rfl, iteF ⟨s6, _, rfl⟩⟩
    · obtain ⟨s6, c6, rfl⟩ := h6
      exact ⟨((s3.trans s4).trans s5).trans s6, _, _, _, rfl⟩
end
end Sj
set_option Elab.async false
set_option linter.all false
set_option maxRecDepth 100000
set_option maxHeartbeats 4000000
/-! SjDef14: levels_read, lifted_at. -/
namespace Sj
open PySem PySem.Spec PyProof.Rows L2 He
def ansVal (H : Hp) (n : Str) : V → V
  | .ref a => match H a with
    | some (.dK kvs) => (valV kvs (.inr n)).getD .non
    | _ => .non
  | _ => .non
theorem ansVal_at {H : Hp} {a : Addr} {f : Fr} {blk : Str → List Str} {r : List (Str × Int)} {n : Str} (hn : n ∈ f.names) (h : H a = some (.dK (rowK (ansOf f blk r)))) : ansVal H n (.ref a) = .int (rd f r (blk n)) := by
  show (match H a with | some (.dK kvs) => (valV kvs (.inr n)).getD .non | _ => .non) = _
  rw [h]
  show (valV (rowK (ansOf f blk r)) (.inr n)).getD .non = _
  rw [ans_nm, valV_nm hn]
  rfl
theorem ansVal_all {H : Hp} {f : Fr} {blk : Str → List Str} {rs : List (List (Str × Int))} {as : List Addr} {n : Str} (hn : n ∈ f.names) (h : AnsAt H f blk rs as) : (as.map V.ref).map (ansVal H n) = vI (lv f blk rs n) := by
  unfold AnsAt at h
  induction h with
  | nil => rfl
  | cons h t ih =>
    rw [List.map_cons, List.map_cons, ih, ansVal_at hn h]
    rfl
theorem members_iff {f : Fr} {n : Str} : n ∈ f.members ↔ n ∈ f.names ∨ n ∈ f.rails := by
  unfold Fr.members
  rw [mem_srt, List.mem_append]
theorem rep_map {α β : Type} (v : β) (rs : List α) : (List.replicate rs.length [v]).flatten = rs.map fun _ => v := by
  induction rs with
  | nil => rfl
  | cons a r ih => rw [List.length_cons, List.replicate_succ, List.flatten_cons, ih]; rfl
theorem lv_ground {f : Fr} {blk : Str → List Str} {rs : List (List (Str × Int))} (ok : TabOk f blk rs) (h : ("ground" : Str) ∈ f.members) : lv f blk rs "ground" = rs.map fun _ => 0 :=
  List.map_congr_left fun r _ => by rw [rd, if_pos (ok.gnd h)]
theorem lv_power {f : Fr} {blk : Str → List Str} {rs : List (List (Str × Int))} (ok : TabOk f blk rs) (h : ("power" : Str) ∈ f.members) : lv f blk rs "power" = rs.map fun _ => f.top :=
  List.map_congr_left fun r _ => by rw [rd, if_neg (ok.pwr h).2, if_pos (ok.pwr h).1]
def leAll (xs ys : List Int) : Prop := ∀ (i : Nat) (x y : Int), xs[i]? = some x → ys[i]? = some y → x ≤ y
section
variable {P : Program} {w : World} {K : Frg} {mg : Str → Option Value} {base h : Heap}
def sp_levels_read (K : Frg) : Sp := fun vs H Q _ => ∃ (ta fa l : Addr) (f : Fr) (blk : Str → List Str) (rs : List (List (Str × Int))) (as : List Addr) (n : Str), vs = [.ref ta, .ref l, .str n] ∧ FrAt K H fa f ∧ TblAt K H ta fa rs ∧ H l = some (.lst (as.map V.ref)) ∧ AnsAt H f blk rs as ∧ TabOk f blk rs ∧ n ∈ f.members ∧
  ∀ p H', Same H H' → H' p = some (.tup (vI (lv f blk rs n))) → Q (.ref p) H'
theorem ok_levels_read (T : Txt K mg h) : GF P w K mg base "levels_read" 3 (sp_levels_read K) := by
  obtain ⟨tG, gG⟩ := T.vGROUND
  refine ⟨_, T.g_levels_read, keepX T.d_levels_read, mkFn T.d_levels_read sc_levels_read rfl (fun _ _ _ _ _ _ us hl => match us, hl with | [_, _, _], _ => rfl) (fun vs H Q E h => ?_) (fun cdv A outer s H vs Q E hr h => ?_)⟩
  · obtain ⟨ta, fa, l, f, blk, rs, as, n, rfl, _⟩ := h
    rfl
  · obtain ⟨ta, fa, l, f, blk, rs, as, n, rfl, hf, ⟨dx, W, ws, ha, hW, hp⟩, hl, han, ok, hn, q⟩ := h
    obtain ⟨dx2, L2, ls, hfa, hlegs, fok⟩ := hf
    have hf : FrAt K H fa f := ⟨dx2, L2, ls, hfa, hlegs, fok⟩
    refine ⟨_, pss_cons (pset 3 sc_levels_read.nd (pf (pv 0))) (pss_cons (ps_if (pt_cmpR (op_inO (sf_Frame_contains T) hr) (pv 2) (pv 3) (by rfl)) (pss_one (ps_ret (ptup T (plc 4 sc_levels_read.nd (pi_list (pv 1)) (fun _ _ _ _ _ => pdg (u1 hr) (pv 4) (pv 2)))))) pss_nil)
      (pss_one (ps_ret (pe_op op_repU (pe_tup (pa_cons (pe_ifExp (pt_cmpR op_eq (pv 2) (pe_glob (v := .str "ground") (by rfl) gG ⟨_, rfl⟩) (by rfl)) pe_int (pf (pv 3))) pa_nil)) (plen T (pv 1)))))), ?_⟩
    have hlen : as.length = rs.length := (paired_len han).symm
    refine ⟨_, rfl, ta, _, dx, _, .ref fa, rfl, ha, T.kTable, T.nTable_frame, rfl, ?_⟩
    refine ⟨_, rfl, _, rfl, fa, dx2, _, rfl, hfa, fa, f, n, rfl, hf, _, rfl, ?_⟩
    by_cases hnn : n ∈ f.names
    · rw [decide_eq_true hnn]
      refine ⟨true, rfl, iteT ⟨_, rfl, l, rfl, ⟨_, SqL.of hl⟩, fun D hD => ?_⟩⟩
      refine lcv walk_list (ansVal H n) hD (fun H' s => SqL.of (s _ _ hl)) (by rw [List.length_map, hlen]; have := ok.few; omega) (fun _ => rfl) (fun x hx H2 s2 Q2 q2 => ?_) (fun H2 s2 hd2 => ?_)
      · obtain ⟨a, ha2, rfl⟩ := List.mem_map.mp hx
        obtain ⟨r, _, hr2⟩ := paired_rm han ha2
        rw [ansVal_at hnn hr2] at q2
        have hg := DGet.k (k := .inr n) (s2 _ _ hr2)
        rw [ans_nm, valV_nm hnn] at hg
        exact ⟨_, rfl, _, rfl, a, _, rfl, hg, q2 H2 (Same.refl _)⟩
      · rw [ansVal_all hnn han] at hd2
        exact ⟨D, _, rfl, SqL.of hd2, fun p hp => q p _ (s2.trans (same_new hp)) upd_same⟩
    · rw [decide_eq_false hnn]
      have hrl := (members_iff.mp hn).resolve_left hnn
      have hpos := ok.pos
      have hfew := ok.few
      rcases mem_rails.mp hrl with ⟨_, e⟩ | ⟨_, e⟩
      · subst e
        refine ⟨false, rfl, iteF ⟨_, rfl, rfl, _, rfl, ?_⟩⟩
        rw [decide_eq_true rfl]
        refine iteT ⟨by rw [sizeLine_eq]; exact (by decide : 1 ≤ 16777216), fun p hp => ⟨_, rfl, l, _, rfl, .inl (SqL.of (same_new hp _ _ hl)), p, _, _, rfl, rfl, SqT.of upd_same, by simp, by omega, by rw [List.length_map, hlen]; omega, (show 1 ≤ 1000 by decide), fun p2 H2 s2 _ h2 => q p2 H2 ((same_new hp).trans s2) ?_⟩⟩
        rw [h2 upd_same, lv_ground ok hn, List.length_map, hlen, Int.toNat_natCast, rep_map, vI, List.map_map]
        rfl
      · subst e
        refine ⟨false, rfl, iteF ⟨_, rfl, rfl, _, rfl, ?_⟩⟩
        rw [decide_eq_false (fun z => by injection z with z; exact absurd z (by decide +kernel))]
        refine iteF ⟨_, rfl, fa, _, dx2, _, .int f.top, rfl, hfa, T.kFrame, T.nFrame_top, rfl, by rw [sizeLine_eq]; exact (by decide : 1 ≤ 16777216), fun p hp => ⟨_, rfl, l, _, rfl, .inl (SqL.of (same_new hp _ _ hl)), p, _, _, rfl, rfl, SqT.of upd_same, by simp, by omega, by rw [List.length_map, hlen]; omega, (show 1 ≤ 1000 by decide), fun p2 H2 s2 _ h2 => q p2 H2 ((same_new hp).trans s2) ?_⟩⟩
        rw [h2 upd_same, lv_power ok hn, List.length_map, hlen, Int.toNat_natCast, rep_map, vI, List.map_map]
        rfl
def sp_lifted_at (K : Frg) : Sp := fun vs H Q _ => ∃ (a b : Addr) (xs ys : List Int), vs = [.ref a, .ref b] ∧ SqT K H a (vI xs) ∧ SqT K H b (vI ys) ∧ xs.length = ys.length ∧ ∀ v H', Same H H' → (v = .non ∨ (∃ i : Int, v = .int i) ∧ ¬ leAll xs ys) → Q v H'
theorem ok_lifted_at (T : Txt K mg h) : GF P w K mg base "lifted_at" 2 (sp_lifted_at K) := by
  refine ⟨_, T.g_lifted_at, keepX T.d_lifted_at, mkFn T.d_lifted_at sc_lifted_at rfl (fun _ _ _ _ _ _ us hl => match us, hl with | [_, _], _ => rfl) (fun vs H Q E h => ?_) (fun cdv A outer s H vs Q E hr h => ?_)⟩
  · obtain ⟨a, b, xs, ys, rfl, _⟩ := h
    rfl
  · obtain ⟨a, b, xs, ys, rfl, ha, hb, hz, q⟩ := h
    refine ⟨_, pss_cons (pfor2 2 3 sc_lifted_at.nd (pi_enumT (by rfl) T.b_enumerate (pa_cons (pv 0) pa_nil)) (pss_one (ps_if (pt_cmpR op_gt (pv 3) (pe_ix ix_tup (pv 1) (pv 2) (by intro _ _; rfl)) (by rfl)) (pss_one (ps_ret (pv 2))) pss_nil))) (pss_one (ps_ret pe_non)), ?_⟩
    refine ⟨_, rfl, a, _, rfl, ha, ?_⟩
    refine for_it walk_enumT (fun _ σ H' => Same H H' ∧ ∃ c d, σ = [some (.ref a), some (.ref b), c, d]) ⟨Same.refl _, _, _, rfl⟩ (fun i σ H' _ h => ha.ext h.1) (fun i x σ H2 H' hi h2 hy => ?_) (fun σ H2 h2 => q .non H2 h2.1 (.inl rfl))
    obtain ⟨s2, c2, d2, rfl⟩ := h2
    obtain ⟨Tp, x1, y1, rfl, hT, rfl, hx1, hy1⟩ := hy
    cases hx1
    obtain ⟨x, hx, rfl⟩ := List.mem_map.mp (List.mem_of_getElem? hy1)
    have hx2 : xs[i]? = some x := by
      have hy1 : (vI xs)[i]? = some (V.int x) := hy1
      rw [vI, List.getElem?_map] at hy1
      cases e : xs[i]? with
      | none => rw [e] at hy1; cases hy1
      | some z => rw [e] at hy1; cases hy1; rfl
    have hi2 : i < ys.length := by
      have := (List.getElem?_eq_some_iff.mp hx2).1
      omega
    have hy2 : ys[i]? = some ys[i] := List.getElem?_eq_getElem hi2
    refine g2_of (SqT.of upd_same) ?_
    have t := s2.trans (same_new (o := .tup [V.int (i : Nat), V.int x]) hT)
    refine ⟨_, rfl, _, rfl, _, rfl, b, _, _, .int ys[i], rfl, rfl, hb.ext t, atI_nat (by rw [vI, List.getElem?_map, hy2]; rfl), _, _, rfl, rfl, _, rfl, ?_⟩
    by_cases hlt : ys[i] < x
    · rw [decide_eq_true hlt]
      exact iteT ⟨_, rfl, q _ _ t (.inr ⟨⟨_, rfl⟩, fun hle => absurd (hle i x ys[i] hx2 hy2) (by omega)⟩)⟩
    · rw [decide_eq_false hlt]
      exact iteF ⟨t, _, _, rfl⟩
end
end Sj
set_option Elab.async false
set_option linter.all false
set_option maxRecDepth 100000
set_option maxHeartbeats 4000000
/-! SjDef15: readings as they stand; at_level, need, levels, class_of, idle, locked, mute. -/
namespace Sj
open PySem PySem.Spec PyProof.Rows L2 He
abbrev Rows := List (List (Str × Int))
def hiOf (f : Fr) (rs : Rows) : List Int := rs.map fun _ => f.top
def classOf (f : Fr) (blk : Str → List Str) (rs : Rows) (n : Str) : List Str := f.members.filter fun m => decide (lv f blk rs m = lv f blk rs n)
def idleOf (f : Fr) (blk : Str → List Str) (rs : Rows) : List Str := f.members.filter fun m => decide (lv f blk rs m = hiOf f rs)
def loweredOf (f : Fr) (rs : Rows) : List Str := f.drivers.filter fun n => !decide (dv f rs n = hiOf f rs)
structure GrpOk (ms : List Str) (key : Str → List Int) (gs : List (List Int × List Str)) : Prop where
  nd : (gs.map (·.1)).Nodup
  mem : ∀ p ∈ gs, p.2 = ms.filter (fun m => decide (key m = p.1)) ∧ p.2 ≠ []
  cov : ∀ m ∈ ms, key m ∈ gs.map (·.1)
  few : gs.length ≤ ms.length
def rdFs (ta l2 rda dva gra hi ia lo : Addr) : List (Str × V) := [("own_table", .ref ta), ("own_answers", .ref l2), ("read", .ref rda), ("driven_at", .ref dva), ("groups", .ref gra), ("high", .ref hi), ("own_idle", .ref ia), ("lowered", .ref lo)]
structure RdIn (K : Frg) (H : Hp) (f : Fr) (blk : Str → List Str) (rs : Rows) (fa ta rda dva gra hi ia lo : Addr) (gs : List (List Int × List Str)) : Prop where
  fr : FrAt K H fa f
  tb : TblAt K H ta fa rs
  rd : LvsAt H rda f.members (lv f blk rs)
  dr : LvsAt H dva f.members (dv f rs)
  gr : GrpAt H gra gs
  go : GrpOk f.members (lv f blk rs) gs
  hi : H hi = some (.tup (vI (hiOf f rs)))
  ia : SqT K H ia (vS (idleOf f blk rs))
  lo : H lo = some (.lst (vS (loweredOf f rs)))
  ok : TabOk f blk rs
def RdAt (K : Frg) (H : Hp) (a : Addr) (f : Fr) (blk : Str → List Str) (rs : Rows) : Prop := ∃ dx fa ta l2 rda dva gra hi ia lo gs, H a = some (.ins (ga K "Readings") dx (rdFs ta l2 rda dva gra hi ia lo)) ∧ RdIn K H f blk rs fa ta rda dva gra hi ia lo gs
theorem RdIn.mono {K : Frg} {H H' : Hp} {f : Fr} {blk : Str → List Str} {rs : Rows} {fa ta rda dva gra hi ia lo : Addr} {gs : List (List Int × List Str)} (s : SameL H H') (h : RdIn K H f blk rs fa ta rda dva gra hi ia lo gs) : RdIn K H' f blk rs fa ta rda dva gra hi ia lo gs where
  fr := h.fr.mono s
  tb := h.tb.mono s
  rd := h.rd.mono s
  dr := h.dr.mono s
  gr := h.gr.mono s
  go := h.go
  hi := s _ _ h.hi nl_tup
  ia := sqT_mono h.ia fun o ho hk => s _ _ ho (by rcases hk with e | ⟨u, e⟩ <;> rw [e]; exact nl_tup; exact nl_frz)
  lo := s _ _ h.lo nl_strs
  ok := h.ok
theorem RdAt.mono {K : Frg} {H H' : Hp} {a : Addr} {f : Fr} {blk : Str → List Str} {rs : Rows} (s : SameL H H') (h : RdAt K H a f blk rs) : RdAt K H' a f blk rs := by
  obtain ⟨dx, fa, ta, l2, rda, dva, gra, hi, ia, lo, gs, e, r⟩ := h
  exact ⟨dx, fa, ta, l2, rda, dva, gra, hi, ia, lo, gs, s _ _ e nl_ins, r.mono s⟩
theorem lvs_get {H : Hp} {d : Addr} {ms : List Str} {F : Str → List Int} (h : LvsAt H d ms F) {m : Str} (hm : m ∈ ms) : ∃ kvs a, H d = some (.dK kvs) ∧ valV kvs (.inr m) = some (.ref a) ∧ H a = some (.tup (vI (F m))) := by
  obtain ⟨as, e, p⟩ := h
  obtain ⟨a, h1, h2⟩ := valV_zip (key := fun m : Str => (Sum.inr m : Key)) p hm (fun x _ e => Sum.inr.inj e)
  exact ⟨_, a, e, h1, h2⟩
theorem kI_inj : ∀ {a b : List Int}, kI a = kI b → a = b
  | [], [], _ => rfl
  | [], _ :: _, h => by cases h
  | _ :: _, [], h => by cases h
  | x :: a, y :: b, h => by
    have h : (Sum.inl x : Key) :: kI a = Sum.inl y :: kI b := h
    injection h with h1 h2
    rw [Sum.inl.inj h1, kI_inj h2]
theorem grp_get {H : Hp} {d : Addr} {gs : List (List Int × List Str)} {ms : List Str} {key : Str → List Int} (h : GrpAt H d gs) (ok : GrpOk ms key gs) {k : List Int} (hk : k ∈ gs.map (·.1)) :
    ∃ kvs a, H d = some (.dT kvs) ∧ valV kvs (kI k) = some (.ref a) ∧ H a = some (.tup (vS (ms.filter fun m => decide (key m = k)))) := by
  obtain ⟨as, e, p⟩ := h
  obtain ⟨g, hg, rfl⟩ := List.mem_map.mp hk
  have : ∀ {gs : List (List Int × List Str)} {as : List Addr}, Paired (fun g a => H a = some (.tup (vS g.2))) gs as → g ∈ gs → (∀ x ∈ gs, x.1 = g.1 → x = g) → ∃ a, valV ((gs.zip as).map fun p => (kI p.1.1, V.ref p.2)) (kI g.1) = some (.ref a) ∧ H a = some (.tup (vS g.2)) := by
    intro gs as p
    induction p with
    | nil => intro h; cases h
    | @cons x a gs as h t ih =>
      intro hm inj
      by_cases e : x.1 = g.1
      · have e2 := inj x List.mem_cons_self e
        subst e2
        exact ⟨a, valV_pos rfl, h⟩
      · have hm2 : g ∈ gs := (List.mem_cons.mp hm).resolve_left fun z => e (by rw [z])
        obtain ⟨b, h1, h2⟩ := ih hm2 fun y hy => inj y (List.mem_cons_of_mem _ hy)
        exact ⟨b, by rw [List.zip_cons_cons, List.map_cons, valV_neg (fun z => e (kI_inj z))]; exact h1, h2⟩
  obtain ⟨a, h1, h2⟩ := this p hg fun x hx e => nodup_inj ok.nd hx hg e
  exact ⟨_, a, e, h1, by rw [h2, (ok.mem g hg).1]⟩
section
variable {P : Program} {w : World} {K : Frg} {mg : Str → Option Value} {base h : Heap}
/-- what at_level needs -/
def DrAt (K : Frg) (H : Hp) (a : Addr) (f : Fr) (rs : Rows) : Prop := ∃ dx fs dva, H a = some (.ins (ga K "Readings") dx fs) ∧ fs.lookup ("driven_at" : Str) = some (V.ref dva) ∧ LvsAt H dva f.members (dv f rs)
theorem RdAt.dr {H : Hp} {a : Addr} {f : Fr} {blk : Str → List Str} {rs : Rows} (h : RdAt K H a f blk rs) : DrAt K H a f rs := by
  obtain ⟨dx, fa, ta, l2, rda, dva, gra, hi, ia, lo, gs, e, r⟩ := h
  exact ⟨dx, _, dva, e, rfl, r.dr⟩
def sp_Readings_at_level (K : Frg) : Sp := fun vs H Q _ => ∃ (a nm : Addr) (f : Fr) (rs : Rows) (xs : List Str) (i : Nat) (l : Int), vs = [.ref a, .ref nm, .int (i : Nat), .int l] ∧ DrAt K H a f rs ∧ (SqL K H nm (vS xs) ∨ SqT K H nm (vS xs)) ∧ (∀ x ∈ xs, x ∈ f.members) ∧ xs.length ≤ 1000 ∧ i < rs.length ∧
  ∀ p H', Same H H' → H' p = some (.tup (vS (xs.filter fun n => decide ((dv f rs n)[i]? = some l)))) → Q (.ref p) H'
theorem mf_Readings_at_level (T : Txt K mg h) : MF P w K mg base (ga K "Readings") "at_level" 1 (sp_Readings_at_level K) := by
  refine ⟨T.kReadings, _, T.mReadings_at_level, mkFn T.d_Readings_at_level sc_Readings_at_level rfl (fun _ _ _ _ _ _ us hl => match us, hl with | [_, _, _, _], _ => rfl) (fun vs H Q E h => ?_) (fun cdv A outer s H vs Q E hr h => ?_)⟩
  · obtain ⟨a, nm, f, rs, xs, i, l, rfl, _⟩ := h
    rfl
  · obtain ⟨a, nm, f, rs, xs, i, l, rfl, ⟨dx, fs, dva, ha, hfs, hdr⟩, hnm, hx, hz, hi2, q⟩ := h
    refine ⟨_, pss_one (ps_ret (ptup T (pe_orE (plcIf 4 sc_Readings_at_level.nd (pi_list (pv 1)) (fun _ _ _ _ _ => pt_cmpR op_eq (pe_ix (r := rIxT K) ix_tup (pdg (u1 hr) (pfK K (pv 0)) (pv 4)) (pv 2) (fun _ _ => rfl)) (pv 3) (by rfl)) (fun _ _ _ _ _ => pv 4))
      (plcIf 4 sc_Readings_at_level.nd (pi_tup (pv 1)) (fun _ _ _ _ _ => pt_cmpR op_eq (pe_ix (r := rIxT K) ix_tup (pdg (u1 hr) (pfK K (pv 0)) (pv 4)) (pv 2) (fun _ _ => rfl)) (pv 3) (by rfl)) (fun _ _ _ _ _ => pv 4))))), ?_⟩
    have key : ∀ n ∈ xs, ∀ H2, Same H H2 → ∃ kvs b l3, H2 dva = some (.dK kvs) ∧ valV kvs (.inr n) = some (.ref b) ∧ H2 b = some (.tup (vI (dv f rs n))) ∧ (dv f rs n)[i]? = some l3 := fun n hn H2 s2 => by
      obtain ⟨kvs, b, h1, h2, h3⟩ := lvs_get (hdr.mono (Same.L s2)) (hx n hn)
      exact ⟨kvs, b, (dv f rs n)[i]'(by rw [dv, List.length_map]; exact hi2), h1, h2, h3, List.getElem?_eq_getElem _⟩
    have fin : ∀ {D : Addr} {H2 : Hp}, Same H H2 → H2 D = some (.lst (vS (xs.filter fun n => decide ((dv f rs n)[i]? = some l)))) → rTupL K [.ref D] H2 Q := fun {D H2} s2 hd2 => ⟨D, _, rfl, SqL.of hd2, fun p hp => q p _ (s2.trans (same_new hp)) upd_same⟩
    have tst : ∀ n ∈ xs, ∀ H2, Same H H2 → ∀ Q2 : Bool → Hp → Prop, (∀ H3, Same H2 H3 → Q2 (decide ((dv f rs n)[i]? = some l)) H3) → (tTest (tOp rEq (tOp (rIxT K) (tDGet (tFld K (tVar 0) "driven_at") (tVar 4)) (tVar 2)) (tVar 3))) [some (.ref a), some (.ref nm), some (.int (i : Nat)), some (.int l), some (.str n)] H2 Q2 := fun n hn H2 s2 Q2 q2 => by
      obtain ⟨kvs, b, l3, h1, h2, h3, h4⟩ := key n hn H2 s2
      have hg := DGet.k (k := .inr n) h1
      rw [h2] at hg
      refine ⟨_, rfl, a, _, dx, _, .ref dva, rfl, s2 _ _ ha, T.kReadings, T.nReadings_driven_at, hfs, _, rfl, dva, _, rfl, hg, _, rfl, b, _, _, .int l3, rfl, rfl, SqT.of h3, atI_nat (by rw [vI, List.getElem?_map, h4]; rfl), _, rfl, rfl, _, rfl, ?_⟩
      have q3 := q2 H2 (Same.refl _)
      rw [h4] at q3
      have e : decide (V.int l3 = V.int l) = decide (some l3 = some l) := by
        by_cases e : l3 = l
        · rw [e, decide_eq_true rfl, decide_eq_true rfl]
        · rw [decide_eq_false (fun z => e (by injection z)), decide_eq_false (fun z => e (by injection z))]
      rw [e]
      exact q3
    rcases hnm with hnm | hnm
    · exact .inl ⟨_, rfl, nm, rfl, ⟨_, hnm⟩, fun D hD => lfS walk_list (fun n => decide ((dv f rs n)[i]? = some l)) hD (fun H' s => hnm.ext s) hz (fun _ => rfl) (fun _ => rfl) tst fun H2 s2 hd2 => fin s2 hd2⟩
    · exact .inr ⟨_, rfl, nm, rfl, ⟨_, hnm⟩, fun D hD => lfS walk_tup (fun n => decide ((dv f rs n)[i]? = some l)) hD (fun H' s => hnm.ext s) hz (fun _ => rfl) (fun _ => rfl) tst fun H2 s2 hd2 => fin s2 hd2⟩
def sp_Readings_need (K : Frg) : Sp := fun vs H Q _ => ∃ (a : Addr) (f : Fr) (blk : Str → List Str) (rs : Rows) (n : Str), vs = [.ref a, .str n] ∧ RdAt K H a f blk rs ∧ n ∈ f.members ∧ Q .non H
theorem mf_Readings_need (T : Txt K mg h) : MF P w K mg base (ga K "Readings") "need" 1 (sp_Readings_need K) := by
  refine ⟨T.kReadings, _, T.mReadings_need, mkFn T.d_Readings_need sc_Readings_need rfl (fun _ _ _ _ _ _ us hl => match us, hl with | [_, _], _ => rfl) (fun vs H Q E h => ?_) (fun cdv A outer s H vs Q E hr h => ?_)⟩
  · obtain ⟨a, f, blk, rs, n, rfl, _⟩ := h
    rfl
  · obtain ⟨a, f, blk, rs, n, rfl, ⟨dx, fa, ta, l2, rda, dva, gra, hi, ia, lo, gs, ha, hR⟩, hn, q⟩ := h
    refine ⟨_, pss_one (ps_if (PW.pt (pw_or (pt_not (pt_val (pisStr T (pv 1)))) (pw_or1 (pt_cmp (pc_dnotin (u1 hr) (pv 1) (pf (pv 0))))))) pss_never pss_nil), ?_⟩
    obtain ⟨kvs, b, h1, h2, h3⟩ := lvs_get hR.rd hn
    have hg := DGet.k (k := .inr n) h1
    rw [h2] at hg
    exact ⟨_, rfl, n, rfl, true, rfl, iteF ⟨_, rfl, _, rfl, a, _, dx, _, .ref rda, rfl, ha, T.kReadings, T.nReadings_read, rfl, rda, _, rfl, hg, _, rfl, iteF q⟩⟩
def sp_Readings_levels (K : Frg) : Sp := fun vs H Q _ => ∃ (a : Addr) (f : Fr) (blk : Str → List Str) (rs : Rows) (n : Str), vs = [.ref a, .str n] ∧ RdAt K H a f blk rs ∧ n ∈ f.members ∧ ∀ p, H p = some (.tup (vI (lv f blk rs n))) → Q (.ref p) H
theorem mf_Readings_levels (T : Txt K mg h) : MF P w K mg base (ga K "Readings") "levels" 2 (sp_Readings_levels K) := by
  refine ⟨T.kReadings, _, T.mReadings_levels, mkFn T.d_Readings_levels sc_Readings_levels rfl (fun _ _ _ _ _ _ us hl => match us, hl with | [_, _], _ => rfl) (fun vs H Q E h => ?_) (fun cdv A outer s H vs Q E hr h => ?_)⟩
  · obtain ⟨a, f, blk, rs, n, rfl, _⟩ := h
    rfl
  · obtain ⟨a, f, blk, rs, n, rfl, hra, hn, q⟩ := h
    have hra0 := hra
    obtain ⟨dx, fa, ta, l2, rda, dva, gra, hi, ia, lo, gs, ha, hR⟩ := hra
    refine ⟨_, pss_cons (ps_expr (pm (mf_Readings_need T) hr (pv 0) (pa_cons (pv 1) pa_nil))) (pss_one (ps_ret (pdg (u1 hr) (pf (pv 0)) (pv 1)))), ?_⟩
    obtain ⟨kvs, b, h1, h2, h3⟩ := lvs_get hR.rd hn
    have hg := DGet.k (k := .inr n) h1
    rw [h2] at hg
    exact ⟨_, rfl, a, dx, _, rfl, ha, rfl, _, rfl, a, f, blk, rs, n, rfl, hra0, hn, _, rfl, a, _, dx, _, .ref rda, rfl, ha, T.kReadings, T.nReadings_read, rfl, _, rfl, rda, _, rfl, hg, q b h3⟩
def sp_Readings_class_of (K : Frg) : Sp := fun vs H Q _ => ∃ (a : Addr) (f : Fr) (blk : Str → List Str) (rs : Rows) (n : Str), vs = [.ref a, .str n] ∧ RdAt K H a f blk rs ∧ n ∈ f.members ∧ ∀ p, H p = some (.tup (vS (classOf f blk rs n))) → Q (.ref p) H
theorem mf_Readings_class_of (T : Txt K mg h) : MF P w K mg base (ga K "Readings") "class_of" 3 (sp_Readings_class_of K) := by
  refine ⟨T.kReadings, _, T.mReadings_class_of, mkFn T.d_Readings_class_of sc_Readings_class_of rfl (fun _ _ _ _ _ _ us hl => match us, hl with | [_, _], _ => rfl) (fun vs H Q E h => ?_) (fun cdv A outer s H vs Q E hr h => ?_)⟩
  · obtain ⟨a, f, blk, rs, n, rfl, _⟩ := h
    rfl
  · obtain ⟨a, f, blk, rs, n, rfl, hra, hn, q⟩ := h
    have hra0 := hra
    obtain ⟨dx, fa, ta, l2, rda, dva, gra, hi, ia, lo, gs, ha, hR⟩ := hra
    refine ⟨_, pss_one (ps_ret (pdg (u1 hr) (pf (pv 0)) (pm (mf_Readings_levels T) hr (pv 0) (pa_cons (pv 1) pa_nil)))), ?_⟩
    obtain ⟨kvs, b, h1, h2, h3⟩ := grp_get hR.gr hR.go (hR.go.cov n hn)
    exact ⟨_, rfl, a, _, dx, _, .ref gra, rfl, ha, T.kReadings, T.nReadings_groups, rfl, _, rfl, a, dx, _, rfl, ha, rfl, _, rfl, a, f, blk, rs, n, rfl, hra0, hn, fun p hp => ⟨gra, _, rfl, .inr ⟨_, kI (lv f blk rs n), p, .inl h1, rfl, by rw [← vI_keys]; exact hp, h2.symm⟩, q b h3⟩⟩
end
end Sj
set_option Elab.async false
set_option linter.all false
set_option maxRecDepth 100000
set_option maxHeartbeats 4000000
/-! SjDef16: idle, locked, mute, classes. -/
namespace Sj
open PySem PySem.Spec PyProof.Rows L2 He
def lockedOf (f : Fr) (blk : Str → List Str) (rs : Rows) : List Str := (idleOf f blk rs).filter fun n => decide (n ∈ loweredOf f rs)
def muteOf (f : Fr) (blk : Str → List Str) (rs : Rows) : List Str := (idleOf f blk rs).filter fun n => decide (n ∈ f.drivers) && !decide (n ∈ loweredOf f rs)
theorem members_few {f : Fr} (ok : f.Ok) : f.members.length ≤ 42 := by
  have := few_rails f
  have := ok.few
  show (srt (f.names ++ f.rails)).length ≤ 42
  rw [len_srt, List.length_append, Fr.names, List.length_map]
  omega
theorem FrAt.ok {K : Frg} {H : Hp} {a : Addr} {f : Fr} (h : FrAt K H a f) : f.Ok := by
  obtain ⟨_, _, _, _, _, ok⟩ := h
  exact ok
theorem idle_few {f : Fr} (ok : f.Ok) (blk : Str → List Str) (rs : Rows) : (idleOf f blk rs).length ≤ 1000 := by
  have := List.length_filter_le (fun m => decide (lv f blk rs m = hiOf f rs)) f.members
  have := members_few ok
  unfold idleOf
  omega
theorem leT_total : PySem.W.TotalLe leT := by
  unfold leT PySem.W.dataLe
  exact PySem.W.sortLe_total _ _ _
def leG (a b : List Str) : Bool := leT (0, a) (0, b)
structure ClsOf (f : Fr) (blk : Str → List Str) (rs : Rows) (cs : List (List Str)) : Prop where
  asc : cs.Pairwise fun a b => leG a b = true
  nd : cs.Nodup
  mem : ∀ g, g ∈ cs ↔ ∃ m ∈ f.members, g = classOf f blk rs m
theorem grp_cls {f : Fr} {blk : Str → List Str} {rs : Rows} {gs : List (List Int × List Str)} (go : GrpOk f.members (lv f blk rs) gs) {cs : List (List Str)} (p : cs.Perm (gs.map (·.2))) (asc : cs.Pairwise fun a b => leG a b = true) : ClsOf f blk rs cs where
  asc := asc
  nd := by
    rw [p.nodup_iff]
    have : ∀ {gs : List (List Int × List Str)}, (gs.map (·.1)).Nodup → (∀ p ∈ gs, p.2 = f.members.filter (fun m => decide (lv f blk rs m = p.1)) ∧ p.2 ≠ []) → (gs.map (·.2)).Nodup := by
      intro gs
      induction gs with
      | nil => intro _ _; exact .nil
      | cons g r ih =>
        intro nd hm
        obtain ⟨n1, n2⟩ := List.nodup_cons.mp nd
        refine List.nodup_cons.mpr ⟨fun h => ?_, ih n2 fun p hp => hm p (List.mem_cons_of_mem _ hp)⟩
        obtain ⟨p, hp, e⟩ := List.mem_map.mp h
        have e : p.2 = g.2 := e
        obtain ⟨e1, ne⟩ := hm g List.mem_cons_self
        obtain ⟨e2, _⟩ := hm p (List.mem_cons_of_mem _ hp)
        obtain ⟨m, hmem⟩ := List.exists_mem_of_ne_nil _ ne
        have h1 := hmem
        rw [e1] at h1
        rw [← e, e2] at hmem
        have k1 := of_decide_eq_true (List.mem_filter.mp h1).2
        have k2 := of_decide_eq_true (List.mem_filter.mp hmem).2
        exact n1 (by show g.1 ∈ _; rw [← k1, k2]; exact List.mem_map_of_mem (f := (·.1)) hp)
    exact this go.nd go.mem
  mem := fun g => by
    rw [p.mem_iff]
    constructor
    · intro h
      obtain ⟨q, hq, rfl⟩ := List.mem_map.mp h
      obtain ⟨e1, ne⟩ := go.mem q hq
      obtain ⟨m, hm⟩ := List.exists_mem_of_ne_nil _ ne
      rw [e1] at hm
      obtain ⟨h1, h2⟩ := List.mem_filter.mp hm
      refine ⟨m, h1, ?_⟩
      rw [e1, classOf, of_decide_eq_true h2]
    · rintro ⟨m, hm, rfl⟩
      obtain ⟨q, hq, e⟩ := List.mem_map.mp (go.cov m hm)
      refine List.mem_map.mpr ⟨q, hq, ?_⟩
      rw [(go.mem q hq).1, classOf, e]
section
variable {P : Program} {w : World} {K : Frg} {mg : Str → Option Value} {base h : Heap}
def sp_Readings_idle (K : Frg) : Sp := fun vs H Q _ => ∃ (a : Addr) (f : Fr) (blk : Str → List Str) (rs : Rows), vs = [.ref a] ∧ RdAt K H a f blk rs ∧ ∀ p, SqT K H p (vS (idleOf f blk rs)) → Q (.ref p) H
theorem pr_Readings_idle (T : Txt K mg h) : PF P w K mg base (ga K "Readings") "idle" 1 (sp_Readings_idle K) := by
  refine ⟨T.kReadings, _, _, T.pReadings_idle, mkFn T.d_Readings_idle sc_Readings_idle rfl (fun _ _ _ _ _ _ us hl => match us, hl with | [_], _ => rfl) (fun vs H Q E h => ?_) (fun cdv A outer s H vs Q E hr h => ?_)⟩
  · obtain ⟨a, f, blk, rs, rfl, _⟩ := h
    rfl
  · obtain ⟨a, f, blk, rs, rfl, ⟨dx, fa, ta, l2, rda, dva, gra, hi, ia, lo, gs, ha, hR⟩, q⟩ := h
    exact ⟨_, pss_one (ps_ret (pf (pv 0))), _, rfl, a, _, dx, _, .ref ia, rfl, ha, T.kReadings, T.nReadings_own_idle, rfl, q ia hR.ia⟩
def sp_Readings_locked (K : Frg) : Sp := fun vs H Q _ => ∃ (a : Addr) (f : Fr) (blk : Str → List Str) (rs : Rows), vs = [.ref a] ∧ RdAt K H a f blk rs ∧ ∀ p H', Same H H' → H' p = some (.tup (vS (lockedOf f blk rs))) → Q (.ref p) H'
theorem pr_Readings_locked (T : Txt K mg h) : PF P w K mg base (ga K "Readings") "locked" 1 (sp_Readings_locked K) := by
  refine ⟨T.kReadings, _, _, T.pReadings_locked, mkFn T.d_Readings_locked sc_Readings_locked rfl (fun _ _ _ _ _ _ us hl => match us, hl with | [_], _ => rfl) (fun vs H Q E h => ?_) (fun cdv A outer s H vs Q E hr h => ?_)⟩
  · obtain ⟨a, f, blk, rs, rfl, _⟩ := h
    rfl
  · obtain ⟨a, f, blk, rs, rfl, ⟨dx, fa, ta, l2, rda, dva, gra, hi, ia, lo, gs, ha, hR⟩, q⟩ := h
    refine ⟨_, pss_one (ps_ret (ptup T (plcIf 1 sc_Readings_locked.nd (pi_tup (pf (pv 0))) (fun _ _ _ _ _ => pt_cmpR (r := rIn K false) op_in_seq (pv 1) (pfK K (pv 0)) (by rfl)) (fun _ _ _ _ _ => pv 1)))), ?_⟩
    refine ⟨_, rfl, a, _, dx, _, .ref ia, rfl, ha, T.kReadings, T.nReadings_own_idle, rfl, ia, rfl, ⟨_, hR.ia⟩, fun D hD => lfS walk_tup (fun n => decide (n ∈ loweredOf f rs)) hD (fun H' s => hR.ia.ext s) (idle_few hR.fr.ok blk rs) (fun _ => rfl) (fun _ => rfl) (fun n hn H2 s2 Q2 q2 => ?_) fun H2 s2 hd2 => ?_⟩
    · refine ⟨_, rfl, _, rfl, a, _, dx, _, .ref lo, rfl, s2 _ _ ha, T.kReadings, T.nReadings_lowered, rfl, lo, _, rfl, .inl (SqL.of (s2 _ _ hR.lo)), rfl, vS_flat _, ?_⟩
      rw [inV_strs]
      exact ⟨_, rfl, q2 H2 (Same.refl _)⟩
    · exact ⟨D, _, rfl, SqL.of hd2, fun p hp => q p _ (s2.trans (same_new hp)) upd_same⟩
def sp_Readings_mute (K : Frg) : Sp := fun vs H Q _ => ∃ (a : Addr) (f : Fr) (blk : Str → List Str) (rs : Rows), vs = [.ref a] ∧ RdAt K H a f blk rs ∧ ∀ p H', Same H H' → H' p = some (.tup (vS (muteOf f blk rs))) → Q (.ref p) H'
theorem pr_Readings_mute (T : Txt K mg h) : PF P w K mg base (ga K "Readings") "mute" 5 (sp_Readings_mute K) := by
  refine ⟨T.kReadings, _, _, T.pReadings_mute, mkFn T.d_Readings_mute sc_Readings_mute rfl (fun _ _ _ _ _ _ us hl => match us, hl with | [_], _ => rfl) (fun vs H Q E h => ?_) (fun cdv A outer s H vs Q E hr h => ?_)⟩
  · obtain ⟨a, f, blk, rs, rfl, _⟩ := h
    rfl
  · obtain ⟨a, f, blk, rs, rfl, ⟨dx, fa, ta, l2, rda, dva, gra, hi, ia, lo, gs, ha, hR⟩, q⟩ := h
    obtain ⟨dxt, W, ws, hta, hW, hp⟩ := hR.tb
    obtain ⟨dx2, L2, ls, hfa, hlegs, fok⟩ := hR.fr
    refine ⟨_, pss_cons (pset 1 sc_Readings_mute.nd (pp (pr_Frame_drivers T) hr (pf (pf (pv 0))))) (pss_one (ps_ret (ptup T (plcIf 2 sc_Readings_mute.nd (pi_tup (pf (pv 0))) (fun _ _ _ _ _ => PW.pt (pw_and (pt_cmpR (r := rIn K false) op_in_seq (pv 2) (pv 1) (by rfl)) (pw_and1 (pt_cmpR (r := rIn K true) op_notIn_seq (pv 2) (pfK K (pv 0)) (by rfl))))) (fun _ _ _ _ _ => pv 2))))), ?_⟩
    refine ⟨_, rfl, a, _, dx, _, .ref ta, rfl, ha, T.kReadings, T.nReadings_own_table, rfl, ta, _, dxt, _, .ref fa, rfl, hta, T.kTable, T.nTable_frame, rfl, fa, dx2, _, rfl, hfa, fa, f, rfl, hR.fr, fun d1 H1 (s1 : Same H H1) h1 => ?_⟩
    refine ⟨_, rfl, a, _, dx, _, .ref ia, rfl, s1 _ _ ha, T.kReadings, T.nReadings_own_idle, rfl, ia, rfl, ⟨_, hR.ia.ext s1⟩, fun D hD => lfS walk_tup (fun n => decide (n ∈ f.drivers) && !decide (n ∈ loweredOf f rs)) hD (fun H' s => hR.ia.ext (s1.trans s)) (idle_few hR.fr.ok blk rs) (fun _ => rfl) (fun _ => rfl) (fun n hn H2 s2 Q2 q2 => ?_) fun H2 s2 hd2 => ?_⟩
    · have q3 := q2 H2 (Same.refl _)
      have t := s1.trans s2
      refine ⟨_, rfl, _, rfl, d1, _, rfl, .inr (SqT.of (s2 _ _ h1)), rfl, vS_flat _, ?_⟩
      rw [inV_strs]
      by_cases hd : n ∈ f.drivers
      · rw [decide_eq_true hd] at q3 ⊢
        refine ⟨true, rfl, iteT ⟨_, rfl, _, rfl, a, _, dx, _, .ref lo, rfl, t _ _ ha, T.kReadings, T.nReadings_lowered, rfl, lo, _, rfl, .inl (SqL.of (t _ _ hR.lo)), rfl, vS_flat _, ?_⟩⟩
        rw [inV_strs]
        exact ⟨_, rfl, q3⟩
      · rw [decide_eq_false hd] at q3 ⊢
        exact ⟨false, rfl, iteF q3⟩
    · exact ⟨D, _, rfl, SqL.of hd2, fun p hp => q p _ ((s1.trans s2).trans (same_new hp)) upd_same⟩
def sp_Readings_classes (K : Frg) : Sp := fun vs H Q _ => ∃ (a : Addr) (f : Fr) (blk : Str → List Str) (rs : Rows), vs = [.ref a] ∧ RdAt K H a f blk rs ∧ ∀ p (bs : List TT2) H', Same H H' → H' p = some (.tup (bs.map refT)) → (∀ b ∈ bs, H' b.1 = some (.tup (vS b.2))) → ClsOf f blk rs (bs.map (·.2)) → Q (.ref p) H'
theorem pr_Readings_classes (T : Txt K mg h) : PF P w K mg base (ga K "Readings") "classes" 2 (sp_Readings_classes K) := by
  refine ⟨T.kReadings, _, _, T.pReadings_classes, mkFn T.d_Readings_classes sc_Readings_classes rfl (fun _ _ _ _ _ _ us hl => match us, hl with | [_], _ => rfl) (fun vs H Q E h => ?_) (fun cdv A outer s H vs Q E hr h => ?_)⟩
  · obtain ⟨a, f, blk, rs, rfl, _⟩ := h
    rfl
  · obtain ⟨a, f, blk, rs, rfl, ⟨dx, fa, ta, l2, rda, dva, gra, hi, ia, lo, gs, ha, hR⟩, q⟩ := h
    refine ⟨_, pss_one (ps_ret (ptup T (pe_callB (cr_sortT hr rfl) (by rfl) T.b_sorted bt_sorted (pa_cons (pe_bm0 PySem.F.plainAttrs_dict PySem.F.slot_dict_values PySem.F.type_dict_values mt_vals (pf (pv 0))) pa_nil)))), ?_⟩
    obtain ⟨as, hgr, hp⟩ := hR.gr
    obtain ⟨ts, e1, e2, h3⟩ := paired_ts hp
    have hv0 : ((gs.zip as).map fun p => (kI p.1.1, V.ref p.2)).map (·.2) = (ts.map fun t => ((t.1, t.2.2) : TT2)).map refT := by
      rw [← e1, ← e2, List.zip_map', List.map_map, List.map_map, List.map_map]
      rfl
    have hperm : ((ts.map fun t => ((t.1, t.2.2) : TT2)).mergeSort leT).Perm (ts.map fun t => ((t.1, t.2.2) : TT2)) := List.mergeSort_perm _ _
    have tl : PySem.W.TotalLe leT := leT_total
    have hmem : ∀ b ∈ (ts.map fun t => ((t.1, t.2.2) : TT2)), H b.1 = some (.tup (vS b.2)) ∧ b.2 ≠ [] := fun b hb => by
      obtain ⟨t, ht, rfl⟩ := List.mem_map.mp hb
      exact ⟨h3 t ht, (hR.go.mem t.2 (by rw [← e1]; exact List.mem_map_of_mem (f := (·.2)) ht)).2⟩
    have hfew : ts.length ≤ 42 := by
      have := hR.go.few
      have := members_few hR.fr.ok
      rw [← e1, List.length_map] at *
      omega
    refine ⟨_, rfl, a, _, dx, _, .ref gra, rfl, ha, T.kReadings, T.nReadings_groups, rfl, .inr (.inr (.inl ⟨rfl, .inr ⟨_, hgr⟩⟩)), gra, rfl, rfl, .inr ⟨_, hgr⟩, fun v hv => ⟨v, ts.map fun t => (t.1, t.2.2), rfl, .inl (.inr (.inr ⟨gra, _, upd_same, same_new hv _ _ hgr, hv0.symm⟩)), fun b hb => ⟨SqT.of (same_new hv _ _ (hmem b hb).1), (hmem b hb).2⟩, by rw [List.length_map]; omega, fun p hp2 => ⟨p, _, rfl, SqL.of upd_same, fun p3 hp3 => ?_⟩⟩⟩
    have t := ((same_new (o := valsO v gra) hv).trans (same_new (o := .lst (((ts.map fun t => ((t.1, t.2.2) : TT2)).mergeSort leT).map refT)) hp2)).trans (same_new (o := .tup (((ts.map fun t => ((t.1, t.2.2) : TT2)).mergeSort leT).map refT)) hp3)
    refine q p3 ((ts.map fun t => ((t.1, t.2.2) : TT2)).mergeSort leT) _ t upd_same (fun b hb => t _ _ (hmem b (hperm.mem_iff.mp hb)).1) (grp_cls hR.go ?_ ?_)
    · refine (hperm.map (fun b : TT2 => b.2)).trans ?_
      rw [List.map_map, ← e1, List.map_map]
      exact List.Perm.refl _
    · rw [List.pairwise_map]
      exact List.pairwise_mergeSort (le := leT) (fun a b c => tl.trans a b c) (fun a b => by
        rcases tl.total a b with h | h
        · rw [h]; rfl
        · rw [h, Bool.or_true]) _
end
end Sj
set_option Elab.async false
set_option linter.all false
set_option maxRecDepth 100000
set_option maxHeartbeats 4000000
/-! SjDef17: marked, makers, is_cover. -/
namespace Sj
open PySem PySem.Spec PyProof.Rows L2 He
def mkd (xs : List Int) (top : Int) : List Nat := (List.range xs.length).filter fun i => decide (xs.getD i 0 < top)
def vN (xs : List Nat) : List V := xs.map fun i => V.int (i : Nat)
def makersOf (f : Fr) (blk : Str → List Str) (rs : Rows) (n : Str) (i : Nat) : List Str := if (lv f blk rs n)[i]? = some f.top then [] else (classOf f blk rs n).filter fun m => decide ((dv f rs m)[i]? = (lv f blk rs n)[i]?)
def mkF (top : Int) (p : V × V) : Bool := match p.2 with
  | .int l => decide (l < top)
  | _ => false
section
variable {P : Program} {w : World} {K : Frg} {mg : Str → Option Value} {base h : Heap}
def sp_Readings_marked (K : Frg) : Sp := fun vs H Q _ => ∃ (a : Addr) (f : Fr) (blk : Str → List Str) (rs : Rows) (n : Str), vs = [.ref a, .str n] ∧ RdAt K H a f blk rs ∧ n ∈ f.members ∧ ∀ p H', Same H H' → H' p = some (.tup (vN (mkd (lv f blk rs n) f.top))) → Q (.ref p) H'
theorem mf_Readings_marked (T : Txt K mg h) : MF P w K mg base (ga K "Readings") "marked" 3 (sp_Readings_marked K) := by
  refine ⟨T.kReadings, _, T.mReadings_marked, mkFn T.d_Readings_marked sc_Readings_marked rfl (fun _ _ _ _ _ _ us hl => match us, hl with | [_, _], _ => rfl) (fun vs H Q E h => ?_) (fun cdv A outer s H vs Q E hr h => ?_)⟩
  · obtain ⟨a, f, blk, rs, n, rfl, _⟩ := h
    rfl
  · obtain ⟨a, f, blk, rs, n, rfl, hra, hn, q⟩ := h
    have hra0 := hra
    obtain ⟨dx, fa, ta, l2, rda, dva, gra, hi, ia, lo, gs, ha, hR⟩ := hra
    obtain ⟨dxt, W, ws, hta, hW, hp⟩ := hR.tb
    obtain ⟨dx2, L2, ls, hfa, hlegs, fok⟩ := hR.fr
    refine ⟨_, pss_cons (pset 2 sc_Readings_marked.nd (pf (pf (pf (pv 0))))) (pss_one (ps_ret (ptup T (plpIf 3 4 sc_Readings_marked.nd (pi_enumT (by rfl) T.b_enumerate (pa_cons (pm (mf_Readings_levels T) hr (pv 0) (pa_cons (pv 1) pa_nil)) pa_nil)) (fun _ _ _ _ _ => pt_cmpR op_lt (pv 4) (pv 2) (by rfl)) (fun _ _ _ _ _ => pv 3))))), ?_⟩
    refine ⟨_, rfl, a, _, dx, _, .ref ta, rfl, ha, T.kReadings, T.nReadings_own_table, rfl, ta, _, dxt, _, .ref fa, rfl, hta, T.kTable, T.nTable_frame, rfl, fa, _, dx2, _, .int f.top, rfl, hfa, T.kFrame, T.nFrame_top, rfl, ?_⟩
    refine ⟨_, rfl, a, dx, _, rfl, ha, rfl, _, rfl, a, f, blk, rs, n, rfl, hra0, hn, fun p hp => ⟨p, _, rfl, SqT.of hp, fun D hD => ?_⟩⟩
    have hlen : (lv f blk rs n).length = rs.length := List.length_map _
    refine lcp walk_enumT ((List.range (lv f blk rs n).length).map fun i => (V.int (i : Nat), V.int ((lv f blk rs n).getD i 0))) (by rw [List.length_map, List.length_range, vI, List.length_map]) (fun i x y hx hy => ?_) (mkF f.top) (fun _ x y _ => y = x.1) hD (fun H' s => SqT.of (s _ _ hp)) (fun _ _ _ _ _ h => h)
      (by rw [List.length_map, List.length_range, hlen]; have := hR.ok.few; omega) (fun _ _ => rfl) (fun z hz H2 s2 Q2 q2 => ?_) (fun z hz hf H2 s2 Q2 q2 => ⟨_, rfl, q2 _ H2 (Same.refl _) rfl⟩) (fun ys H2 s2 hd pr => ?_)
    · cases hx
      have hy : (vI (lv f blk rs n))[i]? = some y := hy
      rw [vI, List.getElem?_map] at hy
      cases e : (lv f blk rs n)[i]? with
      | none => rw [e] at hy; cases hy
      | some z =>
        rw [e] at hy
        cases hy
        have hi3 := (List.getElem?_eq_some_iff.mp e).1
        rw [List.getElem?_map, List.getElem?_range hi3]
        show some (V.int (i : Nat), V.int ((lv f blk rs n).getD i 0)) = _
        rw [List.getD_eq_getElem?_getD, e]
        rfl
    · obtain ⟨i, hi3, rfl⟩ := List.mem_map.mp hz
      exact ⟨_, rfl, _, rfl, _, _, rfl, rfl, _, rfl, q2 H2 (Same.refl _)⟩
    · have e := paired_map (g := Prod.fst) pr
      rw [List.filter_map, List.map_map] at e
      subst e
      exact ⟨D, _, rfl, SqL.of hd, fun p3 hp3 => q p3 _ (s2.trans (same_new hp3)) upd_same⟩
def sp_Readings_makers (K : Frg) : Sp := fun vs H Q _ => ∃ (a : Addr) (f : Fr) (blk : Str → List Str) (rs : Rows) (n : Str) (i : Nat), vs = [.ref a, .str n, .int (i : Nat)] ∧ RdAt K H a f blk rs ∧ n ∈ f.members ∧ i < rs.length ∧ ∀ p H', Same H H' → H' p = some (.tup (vS (makersOf f blk rs n i))) → Q (.ref p) H'
theorem class_mem {f : Fr} {blk : Str → List Str} {rs : Rows} {n m : Str} (h : m ∈ classOf f blk rs n) : m ∈ f.members ∧ lv f blk rs m = lv f blk rs n := ⟨(List.mem_filter.mp h).1, of_decide_eq_true (List.mem_filter.mp h).2⟩
theorem class_few {f : Fr} (ok : f.Ok) (blk : Str → List Str) (rs : Rows) (n : Str) : (classOf f blk rs n).length ≤ 42 := by
  have := List.length_filter_le (fun m => decide (lv f blk rs m = lv f blk rs n)) f.members
  have := members_few ok
  unfold classOf
  omega
theorem mf_Readings_makers (T : Txt K mg h) : MF P w K mg base (ga K "Readings") "makers" 3 (sp_Readings_makers K) := by
  refine ⟨T.kReadings, _, T.mReadings_makers, mkFn T.d_Readings_makers sc_Readings_makers rfl (fun _ _ _ _ _ _ us hl => match us, hl with | [_, _, _], _ => rfl) (fun vs H Q E h => ?_) (fun cdv A outer s H vs Q E hr h => ?_)⟩
  · obtain ⟨a, f, blk, rs, n, i, rfl, _⟩ := h
    rfl
  · obtain ⟨a, f, blk, rs, n, i, rfl, hra, hn, hi2, q⟩ := h
    have hra0 := hra
    obtain ⟨dx, fa, ta, l2, rda, dva, gra, hi, ia, lo, gs, ha, hR⟩ := hra
    obtain ⟨dxt, W, ws, hta, hW, hp⟩ := hR.tb
    obtain ⟨dx2, L2, ls, hfa, hlegs, fok⟩ := hR.fr
    refine ⟨_, pss_cons (pset 3 sc_Readings_makers.nd (pm (mf_Readings_levels T) hr (pv 0) (pa_cons (pv 1) pa_nil)))
      (pss_cons (ps_if (pt_not (pt_val (pc (ok_is_between T) hr (pa_cons (pv 2) (pa_cons pe_int (pa_cons (pe_op op_sub (plen T (pv 3)) pe_int) pa_nil)))))) pss_never pss_nil)
      (pss_cons (ps_if (pt_cmpR op_eq (pe_ix ix_tup (pv 3) (pv 2) (fun _ _ => rfl)) (pf (pf (pf (pv 0)))) (by rfl)) (pss_one (ps_ret (pe_tup pa_nil))) pss_nil)
      (pss_one (ps_ret (pm (mf_Readings_at_level T) hr (pv 0) (pa_cons (pdg (u1 hr) (pf (pv 0)) (pv 3)) (pa_cons (pv 2) (pa_cons (pe_ix ix_tup (pv 3) (pv 2) (fun _ _ => rfl)) pa_nil)))))))), ?_⟩
    have hlen : (lv f blk rs n).length = rs.length := List.length_map _
    obtain ⟨l, hl⟩ : ∃ l, (lv f blk rs n)[i]? = some l := ⟨_, List.getElem?_eq_getElem (by rw [hlen]; exact hi2)⟩
    refine ⟨_, rfl, a, dx, _, rfl, ha, rfl, _, rfl, a, f, blk, rs, n, rfl, hra0, hn, fun p hp => ?_⟩
    have hat : atI (vI (lv f blk rs n)) (i : Nat) = some (.int l) := atI_nat (by rw [vI, List.getElem?_map, hl]; rfl)
    refine ⟨_, rfl, _, rfl, p, _, rfl, .inr (SqT.of hp), _, _, rfl, rfl, _, 0, _, rfl, ?_⟩
    rw [decide_eq_true (by rw [vI, List.length_map, hlen]; omega)]
    refine ⟨true, rfl, iteF ⟨_, rfl, _, rfl, p, _, _, _, rfl, rfl, SqT.of hp, hat, _, rfl, a, _, dx, _, .ref ta, rfl, ha, T.kReadings, T.nReadings_own_table, rfl, ta, _, dxt, _, .ref fa, rfl, hta, T.kTable, T.nTable_frame, rfl, fa, _, dx2, _, .int f.top, rfl, hfa, T.kFrame, T.nFrame_top, rfl, rfl, _, rfl, ?_⟩⟩
    unfold makersOf at q
    rw [hl] at q
    by_cases e : l = f.top
    · rw [if_pos (by rw [e])] at q
      rw [decide_eq_true (by rw [e])]
      exact iteT ⟨Nat.zero_le _, fun p2 hp2 => q p2 _ (same_new hp2) upd_same⟩
    · rw [if_neg (fun z => e (Option.some.inj z))] at q
      rw [decide_eq_false (fun z => e (by injection z))]
      obtain ⟨kvs, b, h1, h2, h3⟩ := grp_get hR.gr hR.go (hR.go.cov n hn)
      refine iteF ⟨_, rfl, a, dx, _, rfl, ha, rfl, _, rfl, a, _, dx, _, .ref gra, rfl, ha, T.kReadings, T.nReadings_groups, rfl, _, rfl, gra, _, rfl, .inr ⟨_, kI (lv f blk rs n), p, .inl h1, rfl, by rw [← vI_keys]; exact hp, h2.symm⟩, _, rfl, _, rfl, _, rfl, p, _, _, _, rfl, rfl, SqT.of hp, hat, a, b, f, rs, classOf f blk rs n, i, l, rfl, hra0.dr, .inr (SqT.of h3), fun m hm => (class_mem hm).1, by have := class_few hR.fr.ok blk rs n; omega, hi2, q⟩
end
end Sj
set_option Elab.async false
set_option linter.all false
set_option maxRecDepth 100000
set_option maxHeartbeats 4000000
/-! SjDef18: is_cover. -/
namespace Sj
open PySem PySem.Spec PyProof.Rows L2 He
theorem pi_or {X : Cx} {tg e : Expr} {w1 w2 : TI} (h1 : PI X tg e w1) (h2 : PI X tg e w2) : PI X tg e (fun σ H R => w1 σ H R ∨ w2 σ H R) := ⟨fun pins s σ H R I h => h.elim (h1.run pins s σ H R I) (h2.run pins s σ H R I)⟩
def NmAt (H : Hp) (nm : Addr) (xs : List Str) : Prop := H nm = some (.lst (vS xs)) ∨ H nm = some (.tup (vS xs))
theorem NmAt.sq {K : Frg} {H : Hp} {nm : Addr} {xs : List Str} (h : NmAt H nm xs) : SqL K H nm (vS xs) ∨ SqT K H nm (vS xs) := h.imp SqL.of SqT.of
theorem NmAt.ext {H H' : Hp} {nm : Addr} {xs : List Str} (h : NmAt H nm xs) (s : Same H H') : NmAt H' nm xs := h.imp (s _ _) (s _ _)
theorem nm_it {K : Frg} {σ : L2.St} {H : Hp} {nm : Addr} {xs : List Str} {R : It → Hp → Prop} (hσ : σ[1]? = some (some (.ref nm))) (h : NmAt H nm xs) (q : ∀ J G, Walk J (vS xs).length G (YAt (vS xs)) → (∀ H', Same H H' → G H') → R J H) : iList K (tVar 1) σ H R ∨ iTup K (tVar 1) σ H R := by
  rcases h with h | h
  · exact .inl ⟨_, hσ, nm, rfl, ⟨_, SqL.of h⟩, q _ _ walk_list fun H' s => SqL.of (s _ _ h)⟩
  · exact .inr ⟨_, hσ, nm, rfl, ⟨_, SqT.of h⟩, q _ _ walk_tup fun H' s => SqT.of (s _ _ h)⟩
/-- is a set of like elements a cover -/
def coverOf (f : Fr) (blk : Str → List Str) (rs : Rows) : List Str → Bool
  | [] => false
  | x :: r => !decide (lv f blk rs x = hiOf f rs) && (mkd (lv f blk rs x) f.top).all fun i => !decide ((x :: r).filter (fun m => decide ((dv f rs m)[i]? = (lv f blk rs x)[i]?)) = [])
structure LikeOk (f : Fr) (blk : Str → List Str) (rs : Rows) (xs : List Str) : Prop where
  mem : ∀ x ∈ xs, x ∈ f.members
  nd : xs.Nodup
  like : ∀ x ∈ xs, ∀ y ∈ xs, lv f blk rs x = lv f blk rs y
  few : xs.length ≤ 1000
def cvF (f : Fr) (rs : Rows) (ls : List Int) (xs : List Str) : V → Bool
  | .int i => !decide (xs.filter (fun m => decide ((dv f rs m)[i.toNat]? = ls[i.toNat]?)) = [])
  | _ => true
theorem nm_ix0 {K : Frg} {H : Hp} {nm : Addr} {x : Str} {r : List Str} {Q : VK} (h : NmAt H nm (x :: r)) (q : Q (.str x) H) : rIx K (.ref nm) (.int 0) H Q := by
  rcases h with h | h
  · exact .inl ⟨nm, _, 0, .str x, rfl, rfl, SqL.of h, atI_nat (j := 0) rfl, q⟩
  · exact .inr (.inl ⟨nm, _, 0, .str x, rfl, rfl, SqT.of h, atI_nat (j := 0) rfl, q⟩)
theorem members_s {f : Fr} (ok : f.Ok) : AllS f.members := fun s hs => by
  rcases members_iff.mp hs with h | h
  · exact okS_name (ok.name s h)
  · exact rails_s f s h
section
variable {P : Program} {w : World} {K : Frg} {mg : Str → Option Value} {base h : Heap}
def sp_Readings_is_cover (K : Frg) : Sp := fun vs H Q _ => ∃ (a nm : Addr) (f : Fr) (blk : Str → List Str) (rs : Rows) (xs : List Str), vs = [.ref a, .ref nm] ∧ RdAt K H a f blk rs ∧ NmAt H nm xs ∧ LikeOk f blk rs xs ∧ ∀ H', Same H H' → Q (.bl (coverOf f blk rs xs)) H'
theorem mf_Readings_is_cover (T : Txt K mg h) : MF P w K mg base (ga K "Readings") "is_cover" 4 (sp_Readings_is_cover K) := by
  refine ⟨T.kReadings, _, T.mReadings_is_cover, mkFn T.d_Readings_is_cover sc_Readings_is_cover rfl (fun _ _ _ _ _ _ us hl => match us, hl with | [_, _], _ => rfl) (fun vs H Q E h => ?_) (fun cdv A outer s H vs Q E hr h => ?_)⟩
  · obtain ⟨a, nm, f, blk, rs, xs, rfl, _⟩ := h
    rfl
  · obtain ⟨a, nm, f, blk, rs, xs, rfl, hra, hnm, ok, q⟩ := h
    have hra0 := hra
    obtain ⟨dx, fa, ta, l2, rda, dva, gra, hi, ia, lo, gs, ha, hR⟩ := hra
    refine ⟨_, pss_cons (ps_if (PW.pt (pw_or (pt_not (pt_val (pisLT T (pv 1)))) (pw_or1 (pt_cmpR op_eq (plen T (pv 1)) pe_int (by rfl))))) (pss_one (ps_ret pe_bl)) pss_nil)
      (pss_cons (ps_if (pt_not (pt_val (pall T (plc 3 sc_Readings_is_cover.nd (pi_or (pi_list (pv 1)) (pi_tup (pv 1))) (fun _ _ _ _ _ => pe_and (pisStr T (pv 3)) (pe_one (pe_cmp (pc_din (u1 hr) (pv 3) (pfK K (pv 0)))))))))) (pss_one (ps_ret pe_bl)) pss_nil)
      (pss_cons (pset 2 sc_Readings_is_cover.nd (pdg (u1 hr) (pf (pv 0)) (pe_ix ix_seq (pv 1) pe_int (fun _ _ => rfl))))
      (pss_cons (ps_if (PW.pt (pw_or (pt_cmpR op_lt (plenS T (pe_callTy (cr_setOfK rfl) (by rfl) T.b_set bt_set (pa_cons (pv 1) pa_nil))) (plen T (pv 1)) (by rfl)) (pw_or1 (pt_cmpR (op_eqI true hr (K := K)) (pv 2) (pf (pv 0)) (by rfl))))) (pss_one (ps_ret pe_bl)) pss_nil)
      (pss_cons (ps_if (pt_not (pt_val (pall T (plc 3 sc_Readings_is_cover.nd (pi_or (pi_list (pv 1)) (pi_tup (pv 1))) (fun _ _ _ _ _ => pe_cmpR (op_eqI true hr (K := K)) (pdg (u1 hr) (pfK K (pv 0)) (pv 3)) (pv 2) (by rfl)))))) (pss_one (ps_ret pe_bl)) pss_nil)
      (pss_one (ps_ret (pall T (plc 4 sc_Readings_is_cover.nd (pi_tup (pm (mf_Readings_marked T) hr (pv 0) (pa_cons (pe_ix ix_seq (pv 1) pe_int (fun _ _ => rfl)) pa_nil))) (fun _ _ _ _ _ => pe_cmpR (op_neS true hr (K := K)) (pm (mf_Readings_at_level T) hr (pv 0) (pa_cons (pv 1) (pa_cons (pv 4) (pa_cons (pe_ix (r := rIxT K) ix_tup (pv 2) (pv 4) (fun _ _ => rfl)) pa_nil)))) (pe_tup pa_nil) (by rfl)))))))))), ?_⟩
    refine ⟨_, rfl, le2, fun tp htp => ⟨nm, tp, vS xs, rfl, upd_same, hnm.ext (same_new htp), true, rfl, iteF ?_⟩⟩
    have s1 := same_new (o := .tup [V.ty "list", V.ty "tuple"]) htp
    generalize upd H tp (.tup [V.ty "list", V.ty "tuple"]) = H1 at s1
    refine ⟨_, rfl, nm, _, rfl, (hnm.ext s1).sq, rfl, _, rfl, ?_⟩
    cases xs with
    | nil => exact iteT (q H1 s1)
    | cons x r =>
    rw [decide_eq_false (fun z => by injection z with z; rw [vS_len, List.length_cons] at z; omega)]
    refine iteF ?_
    have hz := ok.few
    have hx : x ∈ f.members := ok.mem x List.mem_cons_self
    have hrd : ∀ n ∈ f.members, ∀ H2, Same H H2 → ∃ b, DGet H2 rda (.str n) (some (.ref b)) ∧ H2 b = some (.tup (vI (lv f blk rs n))) := fun n hn H2 s2 => by
      obtain ⟨kvs, b, h1, h2, h3⟩ := lvs_get (hR.rd.mono (Same.L s2)) hn
      have hg := DGet.k (k := .inr n) h1
      rw [h2] at hg
      exact ⟨b, hg, h3⟩
    refine nm_it rfl (hnm.ext s1) fun J G wk hG D hD => lcS wk (fun _ => .bl true) hD hG hz (fun _ => rfl) (fun n hn H2 s2 Q2 q2 => ?_) fun H2 s2 hd2 => ?_
    · obtain ⟨b, hg, _⟩ := hrd n (ok.mem n hn) H2 (s1.trans s2)
      exact ⟨_, rfl, n, rfl, true, rfl, iteT ⟨_, rfl, _, rfl, a, _, dx, _, .ref rda, rfl, (s1.trans s2) _ _ ha, T.kReadings, T.nReadings_read, rfl, rda, _, rfl, hg, q2 H2 (Same.refl _)⟩⟩
    refine ⟨D, (x :: r).map fun _ => true, rfl, SqL.of (by rw [hd2, List.map_map]; rfl), ?_⟩
    rw [all_true]
    refine ⟨true, rfl, iteF ?_⟩
    have t2 := s1.trans s2
    obtain ⟨b, hg, hb⟩ := hrd x hx H2 t2
    refine ⟨_, rfl, a, _, dx, _, .ref rda, rfl, t2 _ _ ha, T.kReadings, T.nReadings_read, rfl, _, rfl, ?_⟩
    refine nm_ix0 (hnm.ext t2) ⟨rda, _, rfl, hg, ?_⟩
    refine ⟨_, rfl, nm, (x :: r).map (Sum.inr : Str → Key), rfl, vS_keys (x :: r) ▸ (hnm.ext t2).sq, nodup_keys ok.nd, by rw [List.length_map]; exact hz, fun p3 hp3 => ⟨p3, _, _, rfl, upd_same, _, rfl, nm, _, rfl, ((hnm.ext t2).ext (same_new hp3)).sq, _, _, rfl, rfl, _, rfl, ?_⟩⟩
    rw [decide_eq_false (by rw [List.length_map, vS_len]; omega)]
    have t3 := t2.trans (same_new (o := SetK P w p3 (fun j => ((x :: r).map (Sum.inr : Str → Key)).any fun k => decide (k = j)) ((x :: r).map (Sum.inr : Str → Key)).length) hp3)
    have hb3 := same_new (o := SetK P w p3 (fun j => ((x :: r).map (Sum.inr : Str → Key)).any fun k => decide (k = j)) ((x :: r).map (Sum.inr : Str → Key)).length) hp3 _ _ hb
    refine iteF ⟨_, rfl, _, rfl, a, _, dx, _, .ref hi, rfl, t3 _ _ ha, T.kReadings, T.nReadings_high, rfl, b, hi, _, _, rfl, rfl, SqT.of hb3, SqT.of (t3 _ _ hR.hi), _, rfl, ?_⟩
    have q0 := q
    rw [coverOf] at q
    by_cases hhi : lv f blk rs x = hiOf f rs
    · rw [decide_eq_true hhi] at q ⊢
      exact iteT (q _ t3)
    rw [decide_eq_false hhi] at q ⊢
    refine iteF ?_
    refine nm_it rfl (hnm.ext t3) fun J G wk hG D4 hD4 => lcS wk (fun _ => .bl true) hD4 hG hz (fun _ => rfl) (fun n hn H4 s4 Q4 q4 => ?_) fun H4 s4 hd4 => ?_
    · obtain ⟨b4, hg4, hb4⟩ := hrd n (ok.mem n hn) H4 (t3.trans s4)
      refine ⟨_, rfl, a, _, dx, _, .ref rda, rfl, (t3.trans s4) _ _ ha, T.kReadings, T.nReadings_read, rfl, _, rfl, rda, _, rfl, hg4, _, rfl, b4, b, _, _, rfl, rfl, SqT.of hb4, SqT.of (s4 _ _ hb3), ?_⟩
      rw [decide_eq_true (ok.like n hn x List.mem_cons_self)]
      exact q4 H4 (Same.refl _)
    refine ⟨D4, (x :: r).map fun _ => true, rfl, SqL.of (by rw [hd4, List.map_map]; rfl), ?_⟩
    rw [all_true]
    refine ⟨true, rfl, iteF ?_⟩
    have t4 := t3.trans s4
    refine ⟨_, rfl, a, dx, _, rfl, t4 _ _ ha, rfl, _, rfl, ?_⟩
    refine nm_ix0 (hnm.ext t4) ⟨a, f, blk, rs, x, rfl, hra0.mono (Same.L t4), hx, fun p5 H5 (s5 : Same H4 H5) hp5 => ⟨p5, rfl, ⟨_, SqT.of hp5⟩, fun D6 hD6 => ?_⟩⟩
    have t5 := t4.trans s5
    have hlen : (lv f blk rs x).length = rs.length := List.length_map _
    have hmz : (mkd (lv f blk rs x) f.top).length ≤ 20 := by
      have h1 := List.length_filter_le (fun i => decide ((lv f blk rs x).getD i 0 < f.top)) (List.range (lv f blk rs x).length)
      have h2 := hR.ok.few
      have h3 : (List.range (lv f blk rs x).length).length = rs.length := by rw [List.length_range, hlen]
      unfold mkd
      omega
    refine lcv walk_tup (fun v => .bl (cvF f rs (lv f blk rs x) (x :: r) v)) hD6 (fun H' s => SqT.of (s _ _ hp5)) (by rw [vN, List.length_map]; omega) (fun _ => rfl) (fun v hv H6 s6 Q6 q6 => ?_) fun H6 s6 hd6 => ?_
    · obtain ⟨i, hi2, rfl⟩ := List.mem_map.mp hv
      have hi3 : i < (lv f blk rs x).length := List.mem_range.mp (List.mem_filter.mp hi2).1
      obtain ⟨l, hl⟩ : ∃ l, (lv f blk rs x)[i]? = some l := ⟨_, List.getElem?_eq_getElem hi3⟩
      have hat : atI (vI (lv f blk rs x)) (i : Nat) = some (.int l) := atI_nat (by rw [vI, List.getElem?_map, hl]; rfl)
      have t6 := t5.trans s6
      have q7 := q6
      unfold cvF at q7
      simp only [Int.toNat_natCast, hl] at q7
      refine ⟨_, rfl, a, dx, _, rfl, t6 _ _ ha, rfl, _, rfl, _, rfl, _, rfl, _, rfl, b, _, _, _, rfl, rfl, SqT.of ((s4.trans (s5.trans s6)) _ _ hb3), hat, a, nm, f, rs, x :: r, i, l, rfl, (hra0.mono (Same.L t6)).dr, (hnm.ext t6).sq, ok.mem, hz, by rw [← hlen]; exact hi3, fun p7 H7 (s7 : Same H6 H7) hp7 => ⟨Nat.zero_le _, fun p8 hp8 => ?_⟩⟩
      refine ⟨p7, p8, _, [], rfl, rfl, SqT.of (same_new hp8 _ _ hp7), SqT.of upd_same, fun s hs => members_s hR.fr.ok s (ok.mem s (List.mem_filter.mp hs).1), (fun s hs => by cases hs), q7 _ (s7.trans (same_new hp8))⟩
    · refine ⟨D6, (vN (mkd (lv f blk rs x) f.top)).map (cvF f rs (lv f blk rs x) (x :: r)), rfl, SqL.of (by rw [hd6, List.map_map (f := cvF f rs (lv f blk rs x) (x :: r))]; rfl), ?_⟩
      have e : ((vN (mkd (lv f blk rs x) f.top)).map (cvF f rs (lv f blk rs x) (x :: r))).all id = (!false && (mkd (lv f blk rs x) f.top).all fun i => !decide ((x :: r).filter (fun m => decide ((dv f rs m)[i]? = (lv f blk rs x)[i]?)) = [])) := by
        rw [vN, List.map_map, List.all_map]
        rfl
      rw [e]
      exact q H6 (t5.trans s6)
end
end Sj
set_option Elab.async false
set_option linter.all false
set_option maxRecDepth 100000
set_option maxHeartbeats 4000000
/-! SjDef19: no faults: lifted_legs, lost_words. -/
namespace Sj
open PySem PySem.Spec PyProof.Rows L2 He
theorem power_in {f : Fr} (ok : f.Ok) (h : ("power" : Str) ∈ f.members) : f.pwr = true := by
  rcases members_iff.mp h with h | h
  · exact absurd rfl (okName_ne (ok.name _ h)).2
  · rcases mem_rails.mp h with ⟨_, e⟩ | ⟨h, _⟩
    · exact absurd e (by decide +kernel)
    · exact h
theorem lifted_ok {f : Fr} {blk : Str → List Str} {rs : Rows} (fok : f.Ok) (ok : TabOk f blk rs) {n : Str} (hn : n ∈ f.names) : leAll (lv f blk rs n) (dv f rs n) ∨ (f.pwr = true ∧ lv f blk rs n = hiOf f rs) := by
  have hm := names_members hn
  by_cases hg : ("ground" : Str) ∈ blk n
  · refine .inl fun i x y hx hy => ?_
    rw [lv, List.getElem?_map] at hx
    rw [dv, List.getElem?_map] at hy
    cases e : rs[i]? with
    | none => rw [e] at hx; cases hx
    | some r =>
      rw [e] at hx hy
      cases hx
      cases hy
      show rd f r (blk n) ≤ lvl f.top r n
      unfold rd
      rw [if_pos hg]
      exact (ok.row r (List.mem_of_getElem? e)).lo n
  by_cases hp : ("power" : Str) ∈ blk n
  · refine .inr ⟨power_in fok (ok.bp.mem n hm _ hp), List.map_congr_left fun r _ => ?_⟩
    rw [rd, if_neg hg, if_pos hp]
  · refine .inl fun i x y hx hy => ?_
    rw [lv, List.getElem?_map] at hx
    rw [dv, List.getElem?_map] at hy
    cases e : rs[i]? with
    | none => rw [e] at hx; cases hx
    | some r =>
      rw [e] at hx hy
      cases hx
      cases hy
      show rd f r (blk n) ≤ lvl f.top r n
      unfold rd
      rw [if_neg hg, if_neg hp]
      exact mn_le (List.mem_map_of_mem (ok.bp.self n hm))
theorem lost_ok {f : Fr} {blk : Str → List Str} {rs : Rows} (ok : TabOk f blk rs) {n : Str} (hn : n ∈ f.members) {i : Nat} {l : Int} (hl : (lv f blk rs n)[i]? = some l) (hlt : l < f.top) : ∃ m ∈ classOf f blk rs n, (dv f rs m)[i]? = some l := by
  rw [lv, List.getElem?_map] at hl
  cases e : rs[i]? with
  | none => rw [e] at hl; cases hl
  | some r =>
    rw [e] at hl
    have hl : rd f r (blk n) = l := Option.some.inj hl
    have fin : ∀ m ∈ blk n, lvl f.top r m = l → ∃ m ∈ classOf f blk rs n, (dv f rs m)[i]? = some l := fun m hm hml => by
      refine ⟨m, List.mem_filter.mpr ⟨ok.bp.mem n hn m hm, decide_eq_true ?_⟩, ?_⟩
      · rw [lv, lv, ok.bp.eqv n hn m hm]
      · rw [dv, List.getElem?_map, e]
        show some (lvl f.top r m) = _
        rw [hml]
    rw [rd] at hl
    split at hl
    · rename_i hg
      exact fin _ hg (by rw [lvl, if_pos rfl]; exact hl)
    · split at hl
      · omega
      · have hne : (blk n).map (lvl f.top r) ≠ [] := fun z => by
          have := ok.bp.self n hn
          rw [List.map_eq_nil_iff.mp z] at this
          cases this
        obtain ⟨m, hm, e2⟩ := List.mem_map.mp (mn_mem hne)
        exact fin m hm (e2.trans hl)
section
variable {P : Program} {w : World} {K : Frg} {mg : Str → Option Value} {base h : Heap}
def sp_Readings_no (K : Frg) : Sp := fun vs H Q _ => ∃ (a : Addr) (f : Fr) (blk : Str → List Str) (rs : Rows), vs = [.ref a] ∧ RdAt K H a f blk rs ∧ ∀ p H', Same H H' → H' p = some (.lst []) → Q (.ref p) H'
theorem mf_Readings_lifted_legs (T : Txt K mg h) : MF P w K mg base (ga K "Readings") "lifted_legs" 3 (sp_Readings_no K) := by
  refine ⟨T.kReadings, _, T.mReadings_lifted_legs, mkFn T.d_Readings_lifted_legs sc_Readings_lifted_legs rfl (fun _ _ _ _ _ _ us hl => match us, hl with | [_], _ => rfl) (fun vs H Q E h => ?_) (fun cdv A outer s H vs Q E hr h => ?_)⟩
  · obtain ⟨a, f, blk, rs, rfl, _⟩ := h
    rfl
  · obtain ⟨a, f, blk, rs, rfl, hra, q⟩ := h
    obtain ⟨dx, fa, ta, l2, rda, dva, gra, hi, ia, lo, gs, ha, hR⟩ := hra
    obtain ⟨dxt, W, ws, hta, hW, hp⟩ := hR.tb
    obtain ⟨dx2, L2, ls, hfa, hlegs, fok⟩ := hR.fr
    refine ⟨_, pss_cons (pset 1 sc_Readings_lifted_legs.nd (pe_lst pa_nil)) (pss_cons (pfor 2 sc_Readings_lifted_legs.nd (pi_tup (pp (pr_Frame_names T) hr (pf (pf (pv 0)))))
      (pss_cons (pset 3 sc_Readings_lifted_legs.nd (pc (ok_lifted_at T) hr (pa_cons (pdg (u1 hr) (pf (pv 0)) (pv 2)) (pa_cons (pdg (u1 hr) (pf (pv 0)) (pv 2)) pa_nil))))
      (pss_cons (pset 4 sc_Readings_lifted_legs.nd (pe_and (pf (pf (pf (pv 0)))) (pe_one (pe_cmpR (op_eqI true hr (K := K)) (pdg (u1 hr) (pf (pv 0)) (pv 2)) (pf (pv 0)) (by rfl)))))
      (pss_one (ps_if (PW.pt (pw_and (pt_cmpR op_notN (pv 3) pe_non (by rfl)) (pw_and1 (pt_not (pt_val (pv 4)))))) pss_never pss_nil))))) (pss_one (ps_ret (pv 1)))), ?_⟩
    refine ⟨Nat.zero_le _, fun p hp0 => ?_⟩
    have s1 := same_new (o := .lst []) hp0
    have hp1 : (upd H p (.lst [])) p = some (.lst []) := upd_same
    refine ⟨_, rfl, a, _, dx, _, .ref ta, rfl, s1 _ _ ha, T.kReadings, T.nReadings_own_table, rfl, ta, _, dxt, _, .ref fa, rfl, s1 _ _ hta, T.kTable, T.nTable_frame, rfl, fa, dx2, _, rfl, s1 _ _ hfa, fa, f, rfl, hR.fr.mono (Same.L s1), fun p2 H2 (s2 : Same _ H2) hp2 => ⟨p2, rfl, ⟨_, SqT.of hp2⟩, ?_⟩⟩
    refine for_it walk_tup (fun _ σ H' => Same H2 H' ∧ ∃ b c d, σ = [some (.ref a), some (.ref p), b, c, d]) ⟨Same.refl _, _, _, _, rfl⟩ (fun i σ H' _ h => SqT.of (h.1 _ _ hp2)) (fun i x σ H3 H' hi3 h3 hy => ?_) (fun σ H3 h3 => ?_)
    · obtain ⟨e, hx⟩ := hy
      subst e
      obtain ⟨s3, b3, c3, d3, rfl⟩ := h3
      obtain ⟨n, hn, rfl⟩ := List.mem_map.mp (List.mem_of_getElem? hx)
      have t := (s1.trans s2).trans s3
      have hm := names_members hn
      obtain ⟨kv1, b1, g1, g2, g3⟩ := lvs_get (hR.rd.mono (Same.L t)) hm
      obtain ⟨kv2, b2, k1, k2, k3⟩ := lvs_get (hR.dr.mono (Same.L t)) hm
      have hg1 := DGet.k (k := .inr n) g1
      rw [g2] at hg1
      have hg2 := DGet.k (k := .inr n) k1
      rw [k2] at hg2
      refine ⟨_, rfl, a, _, dx, _, .ref rda, rfl, t _ _ ha, T.kReadings, T.nReadings_read, rfl, _, rfl, rda, _, rfl, hg1, _, rfl, a, _, dx, _, .ref dva, rfl, t _ _ ha, T.kReadings, T.nReadings_driven_at, rfl, _, rfl, dva, _, rfl, hg2, b1, b2, _, _, rfl, SqT.of g3, SqT.of k3, by rw [lv, dv, List.length_map, List.length_map], fun v H4 (s4 : Same _ H4) hv => ?_⟩
      have t4 := t.trans s4
      refine ⟨_, rfl, a, _, dx, _, .ref ta, rfl, t4 _ _ ha, T.kReadings, T.nReadings_own_table, rfl, ta, _, dxt, _, .ref fa, rfl, t4 _ _ hta, T.kTable, T.nTable_frame, rfl, fa, _, dx2, _, .bl f.pwr, rfl, t4 _ _ hfa, T.kFrame, T.nFrame_power, rfl, f.pwr, rfl, ?_⟩
      have hv2 : v = .non ∨ ((∃ i : Int, v = .int i) ∧ f.pwr = true ∧ lv f blk rs n = hiOf f rs) := by
        rcases hv with hv | ⟨hv, hle⟩
        · exact .inl hv
        · exact .inr ⟨hv, (lifted_ok fok hR.ok hn).resolve_left hle⟩
      cases hpw : f.pwr with
      | false =>
        have hv3 : v = .non := hv2.resolve_right fun z => by rw [hpw] at z; exact absurd z.2.1 (by simp)
        subst hv3
        refine iteF ⟨_, rfl, rfl, _, rfl, ?_⟩
        rw [decide_eq_true rfl]
        exact iteF (iteF ⟨s3.trans s4, _, _, _, rfl⟩)
      | true =>
        refine iteT ⟨_, rfl, a, _, dx, _, .ref rda, rfl, t4 _ _ ha, T.kReadings, T.nReadings_read, rfl, _, rfl, rda, _, rfl, (by
          have := DGet.k (k := .inr n) (s4 _ _ g1)
          rw [g2] at this
          exact this), _, rfl, a, _, dx, _, .ref hi, rfl, t4 _ _ ha, T.kReadings, T.nReadings_high, rfl, b1, hi, _, _, rfl, rfl, SqT.of (s4 _ _ g3), SqT.of (t4 _ _ hR.hi), ?_⟩
        rcases hv2 with hv3 | ⟨⟨i5, hv3⟩, _, hh⟩
        · subst hv3
          refine ⟨_, rfl, rfl, _, rfl, ?_⟩
          rw [decide_eq_true rfl]
          exact iteF (iteF ⟨s3.trans s4, _, _, _, rfl⟩)
        · subst hv3
          refine ⟨_, rfl, rfl, true, rfl, iteT ⟨_, rfl, decide (lv f blk rs n = hiOf f rs), rfl, ?_⟩⟩
          rw [decide_eq_true hh]
          exact iteF ⟨s3.trans s4, _, _, _, rfl⟩
    · obtain ⟨s3, b3, c3, d3, rfl⟩ := h3
      exact ⟨_, rfl, q p _ ((s1.trans s2).trans s3) (s3 _ _ (s2 _ _ hp1))⟩
end
end Sj
set_option Elab.async false
set_option linter.all false
set_option maxRecDepth 100000
set_option maxHeartbeats 4000000
/-! SjDef20: no faults: lost_words. -/
namespace Sj
open PySem PySem.Spec PyProof.Rows L2 He
section
variable {P : Program} {w : World} {K : Frg} {mg : Str → Option Value} {base h : Heap}
theorem mf_Readings_lost_words (T : Txt K mg h) : MF P w K mg base (ga K "Readings") "lost_words" 2 (sp_Readings_no K) := by
  refine ⟨T.kReadings, _, T.mReadings_lost_words, mkFn T.d_Readings_lost_words sc_Readings_lost_words rfl (fun _ _ _ _ _ _ us hl => match us, hl with | [_], _ => rfl) (fun vs H Q E h => ?_) (fun cdv A outer s H vs Q E hr h => ?_)⟩
  · obtain ⟨a, f, blk, rs, rfl, _⟩ := h
    rfl
  · obtain ⟨a, f, blk, rs, rfl, hra, q⟩ := h
    obtain ⟨dx, fa, ta, l2, rda, dva, gra, hi, ia, lo, gs, ha, hR⟩ := hra
    obtain ⟨dxt, W, ws, hta, hW, hp⟩ := hR.tb
    obtain ⟨dx2, L2, ls, hfa, hlegs, fok⟩ := hR.fr
    obtain ⟨as, hgr, hpg⟩ := hR.gr
    obtain ⟨das, hda, hpd⟩ := hR.dr
    refine ⟨_, pss_cons (pset 1 sc_Readings_lost_words.nd (pe_lst pa_nil)) (pss_cons (ps_lock (pfor2 2 3 sc_Readings_lost_words.nd (pi_itemsT (pf (pv 0)))
      (pss_one (pfor2 4 5 sc_Readings_lost_words.nd (pi_enumT (by rfl) T.b_enumerate (pa_cons (pv 2) pa_nil)) (pss_one (ps_if (PW.pt (pw_and (pt_cmpR op_lt (pv 5) (pf (pf (pf (pv 0)))) (by rfl)) (pw_and1 (pt_cmpR (op_eqS true hr (K := K)) (pm (mf_Readings_at_level T) hr (pv 0) (pa_cons (pv 3) (pa_cons (pv 4) (pa_cons (pv 5) pa_nil)))) (pe_tup pa_nil) (by rfl))))) pss_never pss_nil)))))) (pss_one (ps_ret (pv 1)))), ?_⟩
    refine ⟨Nat.zero_le _, fun p hp0 => ?_⟩
    have s1 := same_new (o := .lst []) hp0
    have hp1 : (upd H p (.lst [])) p = some (.lst []) := upd_same
    generalize upd H p (.lst []) = H1 at s1 hp1
    have hgr1 := s1 _ _ hgr
    refine ⟨gra, _, hgr1, trivial, fun od => ?_⟩
    have up : ∀ {b : Addr} {o : HO}, H1 b = some o → (∀ kvs : List (List Key × V), o ≠ .dT kvs) → (upd H1 gra (.frz od (.dT ((gs.zip as).map fun p => (kI p.1.1, .ref p.2))))) b = some o := fun {b o} e n => (upd_ne (ne_obj e hgr1 (n _))).trans e
    have hgf : (upd H1 gra (.frz od (.dT ((gs.zip as).map fun p => (kI p.1.1, .ref p.2))))) gra = some (.frz od (.dT ((gs.zip as).map fun p => (kI p.1.1, .ref p.2)))) := upd_same
    have hun : ∀ {H' : Hp}, Same (upd H1 gra (.frz od (.dT ((gs.zip as).map fun p => (kI p.1.1, .ref p.2))))) H' → Same H1 (upd H' gra (.dT ((gs.zip as).map fun p => (kI p.1.1, .ref p.2)))) := fun s => same_unlock hgr1 s
    generalize upd H1 gra (.frz od (.dT ((gs.zip as).map fun p => (kI p.1.1, .ref p.2)))) = Hf at up hgf hun
    have haf := up (s1 _ _ ha) (fun _ z => by cases z)
    have htf := up (s1 _ _ hta) (fun _ z => by cases z)
    have hff := up (s1 _ _ hfa) (fun _ z => by cases z)
    have hdr : ∀ {H' : Hp}, Same Hf H' → DrAt K H' a f rs := fun {H'} s => ⟨dx, _, dva, s _ _ haf, rfl, das, s _ _ (up (s1 _ _ hda) (fun _ z => by cases z)), paired_imp (fun _ _ z => s _ _ (up (s1 _ _ z) (fun _ z => by cases z))) hpd⟩
    refine ⟨_, rfl, a, _, dx, _, .ref gra, rfl, haf, T.kReadings, T.nReadings_groups, rfl, gra, od, _, rfl, hgf, ?_⟩
    refine for_it walk_itemsT (fun _ σ H' => Same Hf H' ∧ ∃ b c d e, σ = [some (.ref a), some (.ref p), b, c, d, e]) ⟨Same.refl _, _, _, _, _, rfl⟩ (fun i σ H' _ h => h.1 _ _ hgf) (fun i x σ H3 H' hi3 h3 hy => ?_) (fun σ H3 h3 => ?_)
    · obtain ⟨s3, b3, c3, d3, e3, rfl⟩ := h3
      obtain ⟨Tp, k, v, qk, hkv, rfl, hT, hq, rfl⟩ := hy
      rw [List.getElem?_map] at hkv
      cases ez : (gs.zip as)[i]? with
      | none => rw [ez] at hkv; cases hkv
      | some z =>
      obtain ⟨g, b⟩ := z
      rw [ez] at hkv
      cases hkv
      have hzm := List.mem_of_getElem? ez
      have hgm : g ∈ gs := (List.of_mem_zip hzm).1
      have hb : H b = some (.tup (vS g.2)) := paired_zip hpg hzm
      have hbf := up (s1 _ _ hb) (fun _ z => by cases z)
      have sT := same_new (o := .tup [V.ref qk, V.ref b]) hT
      have hq1 := sT _ _ hq
      refine g2_of (SqT.of upd_same) ?_
      obtain ⟨hg2, hgne⟩ := hR.go.mem g hgm
      have hqv : SqT K (upd H3 Tp (.tup [V.ref qk, V.ref b])) qk (vI g.1) := SqT.of (by rw [hq1, vI_keys])
      have t0 := s3.trans sT
      generalize upd H3 Tp (.tup [V.ref qk, V.ref b]) = H4 at hqv t0
      refine ⟨_, rfl, qk, _, rfl, hqv, ?_⟩
      refine for_it walk_enumT (fun _ σ H' => Same H4 H' ∧ ∃ d e, σ = [some (.ref a), some (.ref p), some (.ref qk), some (.ref b), d, e]) ⟨Same.refl _, _, _, rfl⟩ (fun i σ H' _ h => hqv.ext h.1) (fun j y σ H5 H' hj5 h5 hy => ?_) (fun σ H5 h5 => ?_)
      · obtain ⟨s5, d5, e5, rfl⟩ := h5
        obtain ⟨Tp2, x1, y1, rfl, hT2, rfl, hx1, hy1⟩ := hy
        cases hx1
        have hy2 : (vI g.1)[j]? = some y1 := hy1
        rw [vI, List.getElem?_map] at hy2
        cases el : g.1[j]? with
        | none => rw [el] at hy2; cases hy2
        | some l =>
        rw [el] at hy2
        cases hy2
        refine g2_of (SqT.of upd_same) ?_
        have s6 := same_new (o := .tup [V.int (j : Nat), V.int l]) hT2
        have t := (t0.trans s5).trans s6
        refine ⟨_, rfl, _, rfl, a, _, dx, _, .ref ta, rfl, t _ _ haf, T.kReadings, T.nReadings_own_table, rfl, ta, _, dxt, _, .ref fa, rfl, t _ _ htf, T.kTable, T.nTable_frame, rfl, fa, _, dx2, _, .int f.top, rfl, t _ _ hff, T.kFrame, T.nFrame_top, rfl, _, _, rfl, rfl, _, rfl, ?_⟩
        by_cases hlt : l < f.top
        · rw [decide_eq_true hlt]
          obtain ⟨n0, hn0⟩ := List.exists_mem_of_ne_nil _ hgne
          rw [hg2] at hn0
          obtain ⟨hn1, hn2⟩ := List.mem_filter.mp hn0
          have hn3 := of_decide_eq_true hn2
          have hjr : j < rs.length := by
            have := (List.getElem?_eq_some_iff.mp el).1
            rw [← hn3, lv, List.length_map] at this
            exact this
          obtain ⟨m, hm1, hm2⟩ := lost_ok hR.ok hn1 (i := j) (l := l) (by rw [hn3]; exact el) hlt
          have hcl : classOf f blk rs n0 = g.2 := by rw [hg2, classOf, hn3]
          rw [hcl] at hm1
          refine iteT ⟨_, rfl, a, dx, _, rfl, t _ _ haf, rfl, _, rfl, _, rfl, _, rfl, a, b, f, rs, g.2, j, l, rfl, hdr t, .inr (SqT.of (t _ _ hbf)), fun x hx => by rw [hg2] at hx; exact (List.mem_filter.mp hx).1, ?_, hjr, fun p7 H7 (s7 : Same _ H7) hp7 => ⟨Nat.zero_le _, fun p8 hp8 => ?_⟩⟩
          · have h1 := List.length_filter_le (fun m => decide (lv f blk rs m = g.1)) f.members
            have h2 := members_few fok
            rw [hg2]
            omega
          · refine ⟨p7, p8, _, [], rfl, rfl, SqT.of (same_new hp8 _ _ hp7), SqT.of upd_same, fun s hs => members_s fok s (by
              have := (List.mem_filter.mp hs).1
              rw [hg2] at this
              exact (List.mem_filter.mp this).1), (fun s hs => by cases hs), _, rfl, ?_⟩
            rw [decide_eq_false (fun z => by
              have : m ∈ g.2.filter fun n => decide ((dv f rs n)[j]? = some l) := List.mem_filter.mpr ⟨hm1, decide_eq_true hm2⟩
              rw [z] at this
              cases this)]
            exact iteF ⟨((s5.trans s6).trans s7).trans (same_new hp8), _, _, rfl⟩
        · rw [decide_eq_false hlt]
          exact iteF (iteF ⟨s5.trans s6, _, _, rfl⟩)
      · obtain ⟨s5, d5, e5, rfl⟩ := h5
        exact ⟨t0.trans s5, _, _, _, _, rfl⟩
    · obtain ⟨s3, b3, c3, d3, e3, rfl⟩ := h3
      exact ⟨s3 _ _ hgf, _, rfl, q p _ (s1.trans (hun s3)) (hun s3 _ _ hp1)⟩
end
end Sj
set_option Elab.async false
set_option linter.all false
set_option maxRecDepth 100000
set_option maxHeartbeats 4000000
/-! SjGrp: one more element among the groups. -/
namespace Sj
open PySem PySem.Spec PyProof.Rows L2 He
abbrev GT := Addr × (List Int × List Str)
def kvT (ts : List GT) : List (List Key × V) := ts.map fun t => (kI t.2.1, V.ref t.1)
def GrpT (H : Hp) (d : Addr) (ts : List GT) : Prop := H d = some (.dT (kvT ts)) ∧ ∀ t ∈ ts, H t.1 = some (.tup (vS t.2.2))
theorem GrpT.at {H : Hp} {d : Addr} {ts : List GT} (h : GrpT H d ts) : GrpAt H d (ts.map (·.2)) := by
  refine ⟨ts.map (·.1), ?_, ?_⟩
  · rw [h.1, kvT, List.zip_map', List.map_map]
    rfl
  · exact paired_of (F := fun g a => H a = some (.tup (vS g.2))) fun t ht => h.2 t ht
theorem valT_none {ts : List GT} {k : List Int} (h : k ∉ (ts.map (·.2)).map (·.1)) : valV (kvT ts) (kI k) = none := by
  cases e : valV (kvT ts) (kI k) with
  | none => rfl
  | some v =>
    exfalso
    obtain ⟨p, h1, h2⟩ := List.mem_map.mp (valV_in e)
    obtain ⟨t, h3, h4⟩ := List.mem_map.mp h1
    rw [← h4] at h2
    refine h ?_
    rw [List.map_map]
    exact List.mem_map.mpr ⟨t, h3, kI_inj h2⟩
theorem any_kv (ts : List GT) (k : List Int) : (kvT ts).any (fun kv => decide (kv.1 = kI k)) = decide (k ∈ (ts.map (·.2)).map (·.1)) := by
  rw [Bool.eq_iff_iff, decide_eq_true_iff, List.any_eq_true, kvT, List.map_map]
  constructor
  · rintro ⟨kv, h1, h2⟩
    obtain ⟨t, h3, h4⟩ := List.mem_map.mp h1
    have h5 := of_decide_eq_true h2
    rw [← h4] at h5
    exact List.mem_map.mpr ⟨t, h3, kI_inj h5⟩
  · intro h
    obtain ⟨t, h3, h4⟩ := List.mem_map.mp h
    exact ⟨_, List.mem_map_of_mem h3, decide_eq_true (by show kI t.2.1 = kI k; rw [← h4]; rfl)⟩
theorem grp_step {H2 : Hp} {d p : Addr} {ts : List GT} {ms : List Str} {key : Str → List Int} {n : Str} (ok : GrpOk ms key (ts.map (·.2))) (hts : ∀ t ∈ ts, H2 t.1 = some (.tup (vS t.2.2)))
    (hp : H2 p = some (.tup (vS (ms.filter (fun m => decide (key m = key n)) ++ [n])))) (hd : H2 d = some (.dT (putK (kvT ts) (kI (key n)) (.ref p)))) : ∃ ts', GrpT H2 d ts' ∧ GrpOk (ms ++ [n]) key (ts'.map (·.2)) := by
  unfold putK at hd
  rw [any_kv] at hd
  by_cases hk : key n ∈ (ts.map (·.2)).map (·.1)
  · rw [decide_eq_true hk, if_pos rfl] at hd
    refine ⟨ts.map fun t => if t.2.1 = key n then (p, (t.2.1, t.2.2 ++ [n])) else t, ⟨?_, fun t ht => ?_⟩, ?_⟩
    · rw [hd, kvT, kvT, List.map_map, List.map_map]
      congr 2
      refine List.map_congr_left fun t ht => ?_
      show (if kI t.2.1 = kI (key n) then (kI t.2.1, V.ref p) else (kI t.2.1, V.ref t.1)) = _
      by_cases e : t.2.1 = key n
      · rw [if_pos (by rw [e])]
        show _ = (kI (if t.2.1 = key n then (p, (t.2.1, t.2.2 ++ [n])) else t).2.1, V.ref (if t.2.1 = key n then (p, (t.2.1, t.2.2 ++ [n])) else t).1)
        rw [if_pos e]
      · rw [if_neg (fun z => e (kI_inj z))]
        show _ = (kI (if t.2.1 = key n then (p, (t.2.1, t.2.2 ++ [n])) else t).2.1, V.ref (if t.2.1 = key n then (p, (t.2.1, t.2.2 ++ [n])) else t).1)
        rw [if_neg e]
    · obtain ⟨t0, h0, rfl⟩ := List.mem_map.mp ht
      by_cases e : t0.2.1 = key n
      · rw [if_pos e]
        have := (ok.mem t0.2 (List.mem_map_of_mem (f := (·.2)) h0)).1
        show H2 p = some (.tup (vS (t0.2.2 ++ [n])))
        rw [hp, this, e]
      · rw [if_neg e]
        exact hts t0 h0
    · have hkeys : ((ts.map fun t => if t.2.1 = key n then (p, (t.2.1, t.2.2 ++ [n])) else t).map (·.2)).map (·.1) = (ts.map (·.2)).map (·.1) := by
        rw [List.map_map, List.map_map, List.map_map]
        refine List.map_congr_left fun t _ => ?_
        show (if t.2.1 = key n then (p, (t.2.1, t.2.2 ++ [n])) else t).2.1 = t.2.1
        split <;> rfl
      refine ⟨by rw [hkeys]; exact ok.nd, fun q hq => ?_, fun m hm => ?_, ?_⟩
      · rw [List.map_map] at hq
        obtain ⟨t0, h0, rfl⟩ := List.mem_map.mp hq
        obtain ⟨h1, h2⟩ := ok.mem t0.2 (List.mem_map_of_mem (f := (·.2)) h0)
        show (if t0.2.1 = key n then (p, (t0.2.1, t0.2.2 ++ [n])) else t0).2.2 = _ ∧ (if t0.2.1 = key n then (p, (t0.2.1, t0.2.2 ++ [n])) else t0).2.2 ≠ []
        show _ = (ms ++ [n]).filter (fun m => decide (key m = (if t0.2.1 = key n then (p, (t0.2.1, t0.2.2 ++ [n])) else t0).2.1)) ∧ _
        by_cases e : t0.2.1 = key n
        · rw [if_pos e]
          refine ⟨?_, by simp⟩
          show t0.2.2 ++ [n] = (ms ++ [n]).filter (fun m => decide (key m = t0.2.1))
          rw [List.filter_append, ← h1, List.filter_cons_of_pos (p := fun m => decide (key m = t0.2.1)) (decide_eq_true e.symm), List.filter_nil]
        · rw [if_neg e]
          refine ⟨?_, h2⟩
          rw [List.filter_append, ← h1, List.filter_cons_of_neg (by rw [decide_eq_true_iff]; exact fun z => e z.symm), List.filter_nil, List.append_nil]
      · rw [hkeys]
        rcases List.mem_append.mp hm with hm | hm
        · exact ok.cov m hm
        · rw [List.mem_singleton.mp hm]
          exact hk
      · have := ok.few
        rw [List.length_map] at *
        rw [List.length_map, List.length_append]
        omega
  · rw [decide_eq_false hk, if_neg Bool.false_ne_true] at hd
    have hno : ms.filter (fun m => decide (key m = key n)) = [] := List.filter_eq_nil_iff.mpr fun m hm e => hk (by
      rw [← of_decide_eq_true e]
      exact ok.cov m hm)
    rw [hno, List.nil_append] at hp
    refine ⟨ts ++ [(p, (key n, [n]))], ⟨?_, fun t ht => ?_⟩, ?_⟩
    · rw [hd, kvT, kvT, List.map_append]
      rfl
    · rcases List.mem_append.mp ht with ht | ht
      · exact hts t ht
      · rw [List.mem_singleton.mp ht]
        exact hp
    · refine ⟨?_, fun q hq => ?_, fun m hm => ?_, ?_⟩
      · rw [List.map_append, List.map_append]
        refine List.nodup_append.mpr ⟨ok.nd, by simp, fun x hx y hy e => ?_⟩
        have : y = key n := by simpa using hy
        rw [e, this] at hx
        exact hk hx
      · rw [List.map_append] at hq
        rcases List.mem_append.mp hq with hq | hq
        · obtain ⟨h1, h2⟩ := ok.mem q hq
          refine ⟨?_, h2⟩
          rw [List.filter_append, ← h1, List.filter_cons_of_neg (by
            rw [decide_eq_true_iff]
            exact fun z => hk (by rw [z]; exact List.mem_map_of_mem (f := (·.1)) hq)), List.filter_nil, List.append_nil]
        · have e : q = (key n, [n]) := by simpa using hq
          subst e
          refine ⟨?_, by simp⟩
          show [n] = (ms ++ [n]).filter (fun m => decide (key m = key n))
          rw [List.filter_append, hno, List.nil_append, List.filter_cons_of_pos (p := fun m => decide (key m = key n)) (decide_eq_true rfl), List.filter_nil]
      · rw [List.map_append, List.map_append]
        rcases List.mem_append.mp hm with hm | hm
        · exact List.mem_append_left _ (ok.cov m hm)
        · rw [List.mem_singleton.mp hm]
          exact List.mem_append_right _ (by simp)
      · have := ok.few
        rw [List.length_map] at *
        rw [List.length_append, List.length_append, List.length_singleton, List.length_singleton]
        omega
end Sj
set_option Elab.async false
set_option linter.all false
set_option maxRecDepth 100000
set_option maxHeartbeats 4000000
/-! SjDef21: readings are made. -/
namespace Sj
open PySem PySem.Spec PyProof.Rows L2 He
theorem piT {X : Cx} (K : Frg) {tg e : Expr} {te : TE} (he : PE X e te) (hK : X.K = K := by rfl) : PI X tg e (iTup K te) := by
  subst hK
  exact pi_tup he
section
variable {K : Frg} {H H' : Hp} {x C dx : Addr} {fs : List (Str × V)}
theorem LvsAt.sb {d : Addr} {ms : List Str} {F : Str → List Int} (h : LvsAt H d ms F) (s : SameB x H H') (hx : H x = some (.ins C dx fs)) : LvsAt H' d ms F := by
  obtain ⟨as, e, p⟩ := h
  exact ⟨as, s _ _ (ne_obj e hx (fun z => by cases z)) e, paired_imp (fun _ _ z => s _ _ (ne_obj z hx (fun z => by cases z)) z) p⟩
theorem LvsAt.sbd {d : Addr} {ms : List Str} {F : Str → List Int} {kvs : List (List Key × V)} (h : LvsAt H d ms F) (s : SameB x H H') (hx : H x = some (.dT kvs)) : LvsAt H' d ms F := by
  obtain ⟨as, e, p⟩ := h
  exact ⟨as, s _ _ (ne_obj e hx (fun z => by cases z)) e, paired_imp (fun _ _ z => s _ _ (ne_obj z hx (fun z => by cases z)) z) p⟩
theorem GrpT.sb {d : Addr} {ts : List GT} (h : GrpT H d ts) (s : SameB x H H') (hx : H x = some (.ins C dx fs)) : GrpT H' d ts :=
  ⟨s _ _ (ne_obj h.1 hx (fun z => by cases z)) h.1, fun t ht => s _ _ (ne_obj (h.2 t ht) hx (fun z => by cases z)) (h.2 t ht)⟩
theorem GrpT.up {d : Addr} {ts : List GT} (h : GrpT H d ts) (s : Same H H') : GrpT H' d ts := ⟨s _ _ h.1, fun t ht => s _ _ (h.2 t ht)⟩
theorem FrAt.sb {a : Addr} {f : Fr} (h : FrAt K H a f) (s : SameB x H H') (hx : H x = some (.ins (ga K "Readings") dx [])) : FrAt K H' a f := by
  obtain ⟨dx2, L2, as, h1, h2, h3⟩ := h
  have hk : ∀ {b : Addr} {o : HO}, H b = some o → o ≠ .ins (ga K "Readings") dx [] → H' b = some o := fun {b o} e n => s b o (ne_obj e hx n) e
  exact ⟨dx2, L2, as, hk h1 (fun z => by injection z with _ _ z; cases z), ⟨hk h2.1 (fun z => by cases z), paired_imp (fun l a ⟨dx3, e⟩ => ⟨dx3, hk e (fun z => by injection z with _ _ z; cases z)⟩) h2.2⟩, h3⟩
theorem TblAt.sb {a fa : Addr} {rs : Rows} (h : TblAt K H a fa rs) (s : SameB x H H') (hx : H x = some (.ins (ga K "Readings") dx [])) : TblAt K H' a fa rs := by
  obtain ⟨dx2, W, ws, h1, h2, h3⟩ := h
  have hk : ∀ {b : Addr} {o : HO}, H b = some o → o ≠ .ins (ga K "Readings") dx [] → H' b = some o := fun {b o} e n => s b o (ne_obj e hx n) e
  exact ⟨dx2, W, ws, hk h1 (fun z => by injection z with _ _ z; cases z), hk h2 (fun z => by cases z), paired_imp (fun w r ⟨dx3, L3, e1, e2⟩ => ⟨dx3, L3, hk e1 (fun z => by injection z with _ _ z; cases z), hk e2 (fun z => by cases z)⟩) h3⟩
theorem AnsAt.sb {f : Fr} {blk : Str → List Str} {rs : Rows} {as : List Addr} (h : AnsAt H f blk rs as) (s : SameB x H H') (hx : H x = some (.ins C dx fs)) : AnsAt H' f blk rs as :=
  paired_imp (fun _ _ z => s _ _ (ne_obj z hx (fun z => by cases z)) z) h
end
section
variable {P : Program} {w : World} {K : Frg} {mg : Str → Option Value} {base h : Heap}
def sp_Readings_init (K : Frg) : Sp := fun vs H Q _ => ∃ (x ta fa dx l : Addr) (f : Fr) (blk : Str → List Str) (rs : Rows) (as : List Addr), vs = [.ref x, .ref ta, .ref l] ∧ H x = some (.ins (ga K "Readings") dx []) ∧ FrAt K H fa f ∧ TblAt K H ta fa rs ∧ H l = some (.lst (as.map V.ref)) ∧ AnsAt H f blk rs as ∧ TabOk f blk rs ∧
  ∀ H', SameB x H H' → RdAt K H' x f blk rs → Q .non H'
theorem fn_Readings_init (T : Txt K mg h) : Fn0 P w K mg base 8 (d_Readings_init.loc K) (sp_Readings_init K) := by
  refine mkFn T.d_Readings_init sc_Readings_init rfl (fun _ _ _ _ _ _ us hl => match us, hl with | [_, _, _], _ => rfl) (fun vs H Q E h => ?_) (fun cdv A outer s H vs Q E hr h => ?_)
  · obtain ⟨x, ta, fa, dx, l, f, blk, rs, as, rfl, _⟩ := h
    rfl
  · obtain ⟨x, ta, fa, dx, l, f, blk, rs, as, rfl, hx, hf, ht, hl, han, ok, q⟩ := h
    refine ⟨_, pss_cons (ps_expr (pc (ok_check_answers T) hr (pa_cons (pv 1) (pa_cons (pv 2) pa_nil))))
      (pss_cons (pset 3 sc_Readings_init.nd (pf (pv 1)))
      (pss_cons (ps_fld (pv 0) (pv 1) (by rfl))
      (pss_cons (ps_fld (pv 0) (plc 7 sc_Readings_init.nd (pi_list (pv 2)) (fun _ _ _ _ _ => pdc 4 sc_Readings_init.nd (piT K (pp (pr_Frame_names T) hr (pv 3))) (fun _ _ _ _ _ => pv 4) (fun _ _ _ _ _ => pdg (u1 hr) (pv 7) (pv 4)))) (by rfl))
      (pss_cons (ps_fld (pv 0) (pdc 4 sc_Readings_init.nd (pi_tup (pp (pr_Frame_members T) hr (pv 3))) (fun _ _ _ _ _ => pv 4) (fun _ _ _ _ _ => pc (ok_levels_read T) hr (pa_cons (pv 1) (pa_cons (pv 2) (pa_cons (pv 4) pa_nil))))) (by rfl))
      (pss_cons (ps_fld (pv 0) (pdc 4 sc_Readings_init.nd (pi_tup (pp (pr_Frame_members T) hr (pv 3))) (fun _ _ _ _ _ => pv 4) (fun _ _ _ _ _ => pm (mf_Table_driven T) hr (pv 1) (pa_cons (pv 4) pa_nil))) (by rfl))
      (pss_cons (ps_fld (pv 0) pe_dnewT (by rfl))
      (pss_cons (pfor 4 sc_Readings_init.nd (pi_tup (pp (pr_Frame_members T) hr (pv 3))) (pss_one (ps_dput (u1 hr) (pf (pv 0)) (pdg (u1 hr) (pf (pv 0)) (pv 4)) (pe_tup (StX.pa_star (pe_dget2 (u1 hr) (pf (pv 0)) (pdg (u1 hr) (pf (pv 0)) (pv 4)) (pe_tup pa_nil) (by constructor <;> rfl)) (pa_cons (pv 4) pa_nil))) (by rfl))))
      (pss_cons (ps_fld (pv 0) (pe_op op_repU (pe_tup (pa_cons (pf (pv 3)) pa_nil)) (plen T (pv 2))) (by rfl))
      (pss_cons (ps_fld (pv 0) (pe_dget2 (u1 hr) (pf (pv 0)) (pf (pv 0)) (pe_tup pa_nil) (by constructor <;> rfl)) (by rfl))
      (pss_cons (ps_fld (pv 0) (plcIf 4 sc_Readings_init.nd (pi_tup (pp (pr_Frame_drivers T) hr (pv 3))) (fun _ _ _ _ _ => pt_cmpR (op_neI true hr (K := K)) (pdg (u1 hr) (pfK K (pv 0)) (pv 4)) (pfK K (pv 0)) (by rfl)) (fun _ _ _ _ _ => pv 4)) (by rfl))
      (pss_cons (pset 5 sc_Readings_init.nd (pe_op op_cat (pm0 (mf_Readings_lifted_legs T) hr (pv 0)) (pm0 (mf_Readings_lost_words T) hr (pv 0))))
      (pss_one (ps_if (pt_cmpR (op_neI false hr (K := K)) (pv 5) (pe_lst pa_nil) (by rfl)) pss_never pss_nil))))))))))))), ?_⟩
    have fok := hf.ok
    have hmn := members_nd fok
    have hmz := members_few fok
    have hlen : as.length = rs.length := (paired_len han).symm
    have hfew := ok.few
    have hne_l : l ≠ x := ne_obj hl hx (fun z => by cases z)
    have ht0 := ht
    obtain ⟨dxt, W, ws, hta, _, _⟩ := ht0
    have hne_t : ta ≠ x := ne_obj hta hx (fun z => by injection z with _ _ z; cases z)
    have hf0 := hf
    obtain ⟨dx2, L2, ls, hfa, _, _⟩ := hf0
    have hne_f : fa ≠ x := ne_obj hfa hx (fun z => by injection z with _ _ z; cases z)
    refine ⟨_, rfl, _, rfl, ta, fa, l, f, blk, rs, as, rfl, hf, ht, hl, han, ok, fun H1 (s1 : Same H H1) => ?_⟩
    refine ⟨_, rfl, ta, _, dxt, _, .ref fa, rfl, s1 _ _ hta, T.kTable, T.nTable_frame, rfl, ?_⟩
    refine ⟨_, rfl, _, rfl, x, _, dx, _, rfl, s1 _ _ hx, T.kReadings, T.nReadings_own_table, by decide, ?_⟩
    have b2 : SameB x H (upd H1 x (.ins (ga K "Readings") dx (putF "own_table" (.ref ta) []))) := fun b o hb e => (upd_ne hb).trans (s1 _ _ e)
    have x2 : (upd H1 x (.ins (ga K "Readings") dx (putF "own_table" (.ref ta) []))) x = some (.ins (ga K "Readings") dx [("own_table", .ref ta)]) := upd_same
    generalize upd H1 x (.ins (ga K "Readings") dx (putF "own_table" (.ref ta) [])) = H2 at b2 x2
    -- own_answers
    refine ⟨_, rfl, l, rfl, ⟨_, SqL.of (b2 _ _ hne_l hl)⟩, fun D3 hD3 => ?_⟩
    refine lcm1 walk_list (fun _ _ _ _ => True) hD3 (fun H' s => SqL.of (s _ _ (b2 _ _ hne_l hl))) (fun _ _ _ _ _ _ => trivial) (by rw [List.length_map, hlen]; omega) (fun _ => rfl) (fun v hv H3 acc s3 hd3 Q3 q3 => ?_) (fun ys3 H3 s3 hd3 _ => ?_)
    · obtain ⟨a, ha, rfl⟩ := List.mem_map.mp hv
      obtain ⟨r, hr1, hr2⟩ := paired_rm han ha
      have hr3 := s3 _ _ (b2 _ _ (ne_obj hr2 hx (fun z => by cases z)) hr2)
      have hf3 := (hf.sb b2 hx).mono (Same.L s3)
      refine ⟨_, rfl, fa, dx2, _, rfl, s3 _ _ (b2 _ _ hne_f hfa), fa, f, rfl, hf3, fun p H4 (s4 : Same H3 H4) hp4 => ⟨p, rfl, ⟨_, SqT.of hp4⟩, fun D4 hD4 => ?_⟩⟩
      have e : f.names.filter (fun _ => true) = f.names := List.filter_eq_self.mpr fun _ _ => rfl
      refine dcS walk_tup (fun _ => true) (fun n => .int (rd f r (blk n))) (by rw [e]; exact fok.nd) hD4 (fun H' s => SqT.of (s _ _ hp4)) (by rw [Fr.names, List.length_map]; have := fok.few; omega) (fun _ => rfl) (fun n hn H5 s5 Q5 q5 => q5 H5 (Same.refl _)) (fun n hn _ H5 s5 Q5 q5 => ⟨_, rfl, q5 H5 (Same.refl _)⟩) (fun n hn _ H5 s5 Q5 q5 => ?_) (fun H5 s5 hd5 => q3 _ H5 (s4.trans s5) trivial)
      have hg := DGet.k (k := .inr n) ((s4.trans s5) _ _ hr3)
      rw [ans_nm, valV_nm hn] at hg
      exact ⟨_, rfl, _, rfl, a, _, rfl, hg, q5 H5 (Same.refl _)⟩
    refine ⟨_, rfl, x, _, dx, _, rfl, s3 _ _ x2, T.kReadings, T.nReadings_own_answers, show 1 < 1000 by decide, ?_⟩
    have b4 : SameB x H (upd H3 x (.ins (ga K "Readings") dx (putF "own_answers" (.ref D3) [("own_table", .ref ta)]))) := fun b o hb e => (upd_ne hb).trans (s3 _ _ (b2 _ _ hb e))
    have x4 : (upd H3 x (.ins (ga K "Readings") dx (putF "own_answers" (.ref D3) [("own_table", .ref ta)]))) x = some (.ins (ga K "Readings") dx [("own_table", .ref ta), ("own_answers", .ref D3)]) := upd_same
    generalize upd H3 x (.ins (ga K "Readings") dx (putF "own_answers" (.ref D3) [("own_table", .ref ta)])) = H4 at b4 x4
    -- read
    have hf4 := hf.sb b4 hx
    refine ⟨_, rfl, fa, dx2, _, rfl, b4 _ _ hne_f hfa, fa, f, rfl, hf4, fun p5 H5 (s5 : Same H4 H5) hp5 => ⟨p5, rfl, ⟨_, SqT.of hp5⟩, fun rda hD5 => ?_⟩⟩
    refine dcA walk_tup (fun n a H => H a = some (.tup (vI (lv f blk rs n)))) (fun n a H H' s ne h => s a _ ne h) hmn hD5 (fun H' s => SqT.of (s _ _ hp5)) (by omega) (fun _ => rfl) (fun n hn H6 s6 Q6 q6 => ⟨_, rfl, q6 H6 (Same.refl _)⟩) (fun n hn H6 s6 ⟨kv6, hd6⟩ Q6 q6 => ?_) (fun as6 H6 s6 hd6 pr6 => ?_)
    · have t := s5.trans s6
      exact ⟨_, rfl, _, rfl, _, rfl, ta, fa, l, f, blk, rs, as, n, rfl, hf4.mono (Same.L t), (ht.sb b4 hx).mono (Same.L t), t _ _ (b4 _ _ hne_l hl), paired_imp (fun _ _ z => t _ _ z) (han.sb b4 hx), ok, hn, fun p H7 (s7 : Same H6 H7) hp7 => q6 p H7 s7 (ne_obj hp7 (s7 _ _ hd6) (fun z => by cases z)) hp7⟩
    have x6 := s6 _ _ (s5 _ _ x4)
    refine ⟨_, rfl, x, _, dx, _, rfl, x6, T.kReadings, T.nReadings_read, show 2 < 1000 by decide, ?_⟩
    have hrd6 : LvsAt H6 rda f.members (lv f blk rs) := ⟨as6, hd6, pr6⟩
    have b7 : SameB x H (upd H6 x (.ins (ga K "Readings") dx (putF "read" (.ref rda) [("own_table", .ref ta), ("own_answers", .ref D3)]))) := fun b o hb e => (upd_ne hb).trans (s6 _ _ (s5 _ _ (b4 _ _ hb e)))
    have x7 : (upd H6 x (.ins (ga K "Readings") dx (putF "read" (.ref rda) [("own_table", .ref ta), ("own_answers", .ref D3)]))) x = some (.ins (ga K "Readings") dx [("own_table", .ref ta), ("own_answers", .ref D3), ("read", .ref rda)]) := upd_same
    have hrd7 := hrd6.sb (SameB.upd (o := .ins (ga K "Readings") dx (putF "read" (.ref rda) [("own_table", .ref ta), ("own_answers", .ref D3)]))) x6
    generalize upd H6 x (.ins (ga K "Readings") dx (putF "read" (.ref rda) [("own_table", .ref ta), ("own_answers", .ref D3)])) = H7 at b7 x7 hrd7
    -- driven_at
    have hf7 := hf.sb b7 hx
    refine ⟨_, rfl, fa, dx2, _, rfl, b7 _ _ hne_f hfa, fa, f, rfl, hf7, fun p8 H8 (s8 : Same H7 H8) hp8 => ⟨p8, rfl, ⟨_, SqT.of hp8⟩, fun dva hD8 => ?_⟩⟩
    refine dcA walk_tup (fun n a H => H a = some (.tup (vI (dv f rs n)))) (fun n a H H' s ne h => s a _ ne h) hmn hD8 (fun H' s => SqT.of (s _ _ hp8)) (by omega) (fun _ => rfl) (fun n hn H9 s9 Q9 q9 => ⟨_, rfl, q9 H9 (Same.refl _)⟩) (fun n hn H9 s9 ⟨kv9, hd9⟩ Q9 q9 => ?_) (fun as9 H9 s9 hd9 pr9 => ?_)
    · have t := s8.trans s9
      exact ⟨_, rfl, ta, dxt, _, rfl, t _ _ (b7 _ _ hne_t hta), rfl, _, rfl, ta, fa, f, rs, n, rfl, hf7.mono (Same.L t), (ht.sb b7 hx).mono (Same.L t), hn, by omega, fun p H10 (s10 : Same H9 H10) hp10 => q9 p H10 s10 (ne_obj hp10 (s10 _ _ hd9) (fun z => by cases z)) hp10⟩
    have x9 := s9 _ _ (s8 _ _ x7)
    refine ⟨_, rfl, x, _, dx, _, rfl, x9, T.kReadings, T.nReadings_driven_at, show 3 < 1000 by decide, ?_⟩
    have hdr9 : LvsAt H9 dva f.members (dv f rs) := ⟨as9, hd9, pr9⟩
    have hrd9 := hrd7.mono (Same.L (s8.trans s9))
    have b10 : SameB x H (upd H9 x (.ins (ga K "Readings") dx (putF "driven_at" (.ref dva) [("own_table", .ref ta), ("own_answers", .ref D3), ("read", .ref rda)]))) := fun b o hb e => (upd_ne hb).trans (s9 _ _ (s8 _ _ (b7 _ _ hb e)))
    have x10 : (upd H9 x (.ins (ga K "Readings") dx (putF "driven_at" (.ref dva) [("own_table", .ref ta), ("own_answers", .ref D3), ("read", .ref rda)]))) x = some (.ins (ga K "Readings") dx [("own_table", .ref ta), ("own_answers", .ref D3), ("read", .ref rda), ("driven_at", .ref dva)]) := upd_same
    have hrd10 := hrd9.sb (SameB.upd (o := .ins (ga K "Readings") dx (putF "driven_at" (.ref dva) [("own_table", .ref ta), ("own_answers", .ref D3), ("read", .ref rda)]))) x9
    have hdr10 := hdr9.sb (SameB.upd (o := .ins (ga K "Readings") dx (putF "driven_at" (.ref dva) [("own_table", .ref ta), ("own_answers", .ref D3), ("read", .ref rda)]))) x9
    generalize upd H9 x (.ins (ga K "Readings") dx (putF "driven_at" (.ref dva) [("own_table", .ref ta), ("own_answers", .ref D3), ("read", .ref rda)])) = H10 at b10 x10 hrd10 hdr10
    -- groups
    refine fun gra hgra => ⟨_, rfl, x, _, dx, _, rfl, same_new hgra _ _ x10, T.kReadings, T.nReadings_groups, show 4 < 1000 by decide, ?_⟩
    have s11 := same_new (o := .dT []) hgra
    have x11 := s11 _ _ x10
    have b12 : SameB x H (upd (upd H10 gra (.dT [])) x (.ins (ga K "Readings") dx (putF "groups" (.ref gra) [("own_table", .ref ta), ("own_answers", .ref D3), ("read", .ref rda), ("driven_at", .ref dva)]))) := fun b o hb e => (upd_ne hb).trans (s11 _ _ (b10 _ _ hb e))
    have x12 : (upd (upd H10 gra (.dT [])) x (.ins (ga K "Readings") dx (putF "groups" (.ref gra) [("own_table", .ref ta), ("own_answers", .ref D3), ("read", .ref rda), ("driven_at", .ref dva)]))) x = some (.ins (ga K "Readings") dx [("own_table", .ref ta), ("own_answers", .ref D3), ("read", .ref rda), ("driven_at", .ref dva), ("groups", .ref gra)]) := upd_same
    have hgx : gra ≠ x := (ne_of_none x10 hgra).symm
    have g12 : (upd (upd H10 gra (.dT [])) x (.ins (ga K "Readings") dx (putF "groups" (.ref gra) [("own_table", .ref ta), ("own_answers", .ref D3), ("read", .ref rda), ("driven_at", .ref dva)]))) gra = some (.dT []) := (upd_ne hgx).trans upd_same
    have hrd12 := (hrd10.mono (Same.L s11)).sb (SameB.upd (o := .ins (ga K "Readings") dx (putF "groups" (.ref gra) [("own_table", .ref ta), ("own_answers", .ref D3), ("read", .ref rda), ("driven_at", .ref dva)]))) x11
    have hdr12 := (hdr10.mono (Same.L s11)).sb (SameB.upd (o := .ins (ga K "Readings") dx (putF "groups" (.ref gra) [("own_table", .ref ta), ("own_answers", .ref D3), ("read", .ref rda), ("driven_at", .ref dva)]))) x11
    generalize upd (upd H10 gra (.dT [])) x (.ins (ga K "Readings") dx (putF "groups" (.ref gra) [("own_table", .ref ta), ("own_answers", .ref D3), ("read", .ref rda), ("driven_at", .ref dva)])) = H12 at b12 x12 g12 hrd12 hdr12
    have hf12 := hf.sb b12 hx
    refine ⟨_, rfl, fa, dx2, _, rfl, b12 _ _ hne_f hfa, fa, f, rfl, hf12, fun p13 H13 (s13 : Same H12 H13) hp13 => ⟨p13, rfl, ⟨_, SqT.of hp13⟩, ?_⟩⟩
    have x13 := s13 _ _ x12
    have g13 := s13 _ _ g12
    refine for_it walk_tup (fun i σ H' => SameB gra H13 H' ∧ (∃ ts, GrpT H' gra ts ∧ GrpOk (f.members.take i) (lv f blk rs) (ts.map (·.2))) ∧ ∃ b c d e, σ = [some (.ref x), some (.ref ta), some (.ref l), some (.ref fa), b, c, d, e])
      ⟨fun _ _ _ h => h, ⟨[], ⟨g13, fun t ht => by cases ht⟩, ⟨.nil, (fun _ h => by cases h), (fun _ h => by cases h), Nat.zero_le _⟩⟩, _, _, _, _, rfl⟩ (fun i σ H' _ h => SqT.of (h.1 _ _ (ne_obj hp13 g13 (fun z => by cases z)) hp13)) (fun i v σ H14 H' hi14 h14 hy => ?_) (fun σ H14 h14 => ?_)
    · obtain ⟨e, hxv⟩ := hy
      subst e
      obtain ⟨b14, ⟨ts, hT, hok⟩, a1, a2, a3, a4, rfl⟩ := h14
      obtain ⟨n, hn, rfl⟩ := List.mem_map.mp (List.mem_of_getElem? hxv)
      have hni : f.members[i]? = some n := by
        rw [vS, List.getElem?_map] at hxv
        cases e : f.members[i]? with
        | none => rw [e] at hxv; cases hxv
        | some z => rw [e] at hxv; cases hxv; rfl
      have x14 := b14 _ _ hgx.symm x13
      obtain ⟨kv1, b1, r1, r2, r3⟩ := lvs_get ((hrd12.mono (Same.L s13)).sbd b14 g13) hn
      have hgr1 : ∀ {H1 : Hp}, Same H' H1 → DGet H1 rda (.str n) (some (.ref b1)) := fun {H1} s => by
        have := DGet.k (k := .inr n) (s _ _ r1)
        rw [r2] at this
        exact this
      refine ⟨_, rfl, x, _, dx, _, .ref gra, rfl, x14, T.kReadings, T.nReadings_groups, rfl, gra, rfl, .inr ⟨_, .inl hT.1⟩, _, rfl, x, _, dx, _, .ref rda, rfl, x14, T.kReadings, T.nReadings_read, rfl, _, rfl, rda, _, rfl, hgr1 (Same.refl _), Nat.zero_le _, fun p0 hp0 => ?_⟩
      have s0 := same_new (o := .tup []) hp0
      refine ⟨valV (kvT ts) (kI (lv f blk rs n)), .inr ⟨_, kI (lv f blk rs n), b1, .inl (s0 _ _ hT.1), rfl, by rw [s0 _ _ r3, vI_keys], rfl⟩, ?_⟩
      obtain ⟨a5, ea, ha5⟩ : ∃ a5, (valV (kvT ts) (kI (lv f blk rs n))).getD (.ref p0) = .ref a5 ∧ (upd H' p0 (.tup [])) a5 = some (.tup (vS ((f.members.take i).filter fun m => decide (lv f blk rs m = lv f blk rs n)))) := by
        by_cases hk : lv f blk rs n ∈ (ts.map (·.2)).map (·.1)
        · obtain ⟨kvs, a5, h1, h2, h3⟩ := grp_get hT.at hok hk
          rw [hT.1] at h1
          cases h1
          exact ⟨a5, by rw [h2]; rfl, s0 _ _ h3⟩
        · refine ⟨p0, by rw [valT_none hk]; rfl, ?_⟩
          rw [upd_same, List.filter_eq_nil_iff.mpr fun m hm e => hk (by rw [← of_decide_eq_true e]; exact hok.cov m hm)]
          rfl
      rw [ea]
      refine ⟨a5, _, rfl, .inl (SqT.of ha5), _, rfl, ?_⟩
      dsimp only [tNil]
      have hsz : ((f.members.take i).filter fun m => decide (lv f blk rs m = lv f blk rs n)).length ≤ 42 := by
        have h1 := List.length_filter_le (fun m => decide (lv f blk rs m = lv f blk rs n)) (f.members.take i)
        have h2 : (f.members.take i).length ≤ f.members.length := List.length_take_le' _ _
        omega
      refine ⟨by rw [List.length_append, vS_len, List.length_singleton, sizeLine_eq]; omega, fun p6 hp6 => ?_⟩
      have s6 := same_new (o := .tup (vS ((f.members.take i).filter fun m => decide (lv f blk rs m = lv f blk rs n)) ++ [V.str n])) hp6
      have t6 := s0.trans s6
      refine ⟨_, rfl, x, _, dx, _, .ref gra, rfl, t6 _ _ x14, T.kReadings, T.nReadings_groups, rfl, _, rfl, x, _, dx, _, .ref rda, rfl, t6 _ _ x14, T.kReadings, T.nReadings_read, rfl, _, rfl, rda, _, rfl, hgr1 t6, gra, _, rfl, .inr ⟨_, kI (lv f blk rs n), b1, t6 _ _ hT.1, rfl, by rw [t6 _ _ r3, vI_keys], ?_, rfl⟩, ?_⟩
      · have := hok.few
        rw [List.length_map] at this
        have h2 : (f.members.take i).length ≤ f.members.length := List.length_take_le' _ _
        rw [kvT, List.length_map, sizeLine_eq]
        omega
      · have htake : f.members.take (i + 1) = f.members.take i ++ [n] := by rw [List.take_succ, hni]; rfl
        refine ⟨fun b o hb e => (upd_ne hb).trans (t6 _ _ (b14 _ _ hb e)), ?_, _, _, _, _, rfl⟩
        rw [htake]
        have hpg : p6 ≠ gra := (ne_of_none (s0 _ _ hT.1) hp6).symm
        refine grp_step (p := p6) hok (fun t ht => ?_) ?_ upd_same
        · exact (upd_ne (ne_obj (hT.2 t ht) hT.1 (fun z => by cases z))).trans (t6 _ _ (hT.2 t ht))
        · rw [upd_ne hpg, upd_same, vS, vS, List.map_append]
          rfl
    · obtain ⟨b14, ⟨ts, hT, hok⟩, a1, a2, a3, a4, rfl⟩ := h14
      have hok : GrpOk f.members (lv f blk rs) (ts.map (·.2)) := by
        have e : f.members.take (vS f.members).length = f.members := by rw [vS_len, List.take_length]
        rw [e] at hok
        exact hok
      have x14 := b14 _ _ hgx.symm x13
      have b14x : SameB x H H14 := fun b o hb e => b14 _ _ (ne_of_none (b10 _ _ hb e) hgra) (s13 _ _ (b12 _ _ hb e))
      have hrd14 := (hrd12.mono (Same.L s13)).sbd b14 g13
      have hdr14 := (hdr12.mono (Same.L s13)).sbd b14 g13
      clear s1 s3 s5 s6 s8 s9 s11 hrd6 hrd7 hrd9 hrd10 hrd12 hdr9 hdr10 hdr12
      -- high
      refine ⟨_, rfl, fa, _, dx2, _, .int f.top, rfl, b14x _ _ hne_f hfa, T.kFrame, T.nFrame_top, rfl, by rw [sizeLine_eq]; exact (by decide : 1 ≤ 16777216), fun p15 hp15 => ?_⟩
      have s15 := same_new (o := .tup [V.int f.top]) hp15
      refine ⟨_, rfl, l, _, rfl, .inl (SqL.of (s15 _ _ (b14x _ _ hne_l hl))), p15, _, _, rfl, rfl, SqT.of upd_same, by simp, by omega, by rw [List.length_map, hlen]; omega, (show 1 ≤ 1000 by decide), fun hi H16 s16 _ h16 => ?_⟩
      have h16 := h16 upd_same
      rw [List.length_map, hlen, Int.toNat_natCast, rep_map] at h16
      have h16 : H16 hi = some (.tup (vI (hiOf f rs))) := by rw [h16, vI, hiOf, List.map_map]; rfl
      have t16 := s15.trans s16
      have x16 := t16 _ _ x14
      have hhx : hi ≠ x := ne_obj h16 x16 (fun z => by cases z)
      refine ⟨_, rfl, x, _, dx, _, rfl, x16, T.kReadings, T.nReadings_high, show 5 < 1000 by decide, ?_⟩
      have b17 : SameB x H (upd H16 x (.ins (ga K "Readings") dx (putF "high" (.ref hi) [("own_table", .ref ta), ("own_answers", .ref D3), ("read", .ref rda), ("driven_at", .ref dva), ("groups", .ref gra)]))) := fun b o hb e => (upd_ne hb).trans (t16 _ _ (b14x _ _ hb e))
      have x17 : (upd H16 x (.ins (ga K "Readings") dx (putF "high" (.ref hi) [("own_table", .ref ta), ("own_answers", .ref D3), ("read", .ref rda), ("driven_at", .ref dva), ("groups", .ref gra)]))) x = some (.ins (ga K "Readings") dx [("own_table", .ref ta), ("own_answers", .ref D3), ("read", .ref rda), ("driven_at", .ref dva), ("groups", .ref gra), ("high", .ref hi)]) := upd_same
      have u17 : SameB x H16 (upd H16 x (.ins (ga K "Readings") dx (putF "high" (.ref hi) [("own_table", .ref ta), ("own_answers", .ref D3), ("read", .ref rda), ("driven_at", .ref dva), ("groups", .ref gra)]))) := SameB.upd
      generalize upd H16 x (.ins (ga K "Readings") dx (putF "high" (.ref hi) [("own_table", .ref ta), ("own_answers", .ref D3), ("read", .ref rda), ("driven_at", .ref dva), ("groups", .ref gra)])) = H17 at b17 x17 u17
      have hrd17 := (hrd14.mono (Same.L t16)).sb u17 x16
      have hdr17 := (hdr14.mono (Same.L t16)).sb u17 x16
      have hT17 := (hT.up t16).sb u17 x16
      have h17 := u17 _ _ hhx h16
      -- own_idle
      refine ⟨_, rfl, x, _, dx, _, .ref gra, rfl, x17, T.kReadings, T.nReadings_groups, rfl, gra, rfl, .inr ⟨_, .inl hT17.1⟩, _, rfl, x, _, dx, _, .ref hi, rfl, x17, T.kReadings, T.nReadings_high, rfl, Nat.zero_le _, fun p18 hp18 => ?_⟩
      have s18 := same_new (o := .tup []) hp18
      refine ⟨valV (kvT ts) (kI (hiOf f rs)), .inr ⟨_, kI (hiOf f rs), hi, .inl (s18 _ _ hT17.1), rfl, by rw [s18 _ _ h17, vI_keys], rfl⟩, ?_⟩
      obtain ⟨ia, ea, hia⟩ : ∃ ia, (valV (kvT ts) (kI (hiOf f rs))).getD (.ref p18) = .ref ia ∧ (upd H17 p18 (.tup [])) ia = some (.tup (vS (idleOf f blk rs))) := by
        by_cases hk : hiOf f rs ∈ (ts.map (·.2)).map (·.1)
        · obtain ⟨kvs, a5, h1, h2, h3⟩ := grp_get hT17.at hok hk
          rw [hT17.1] at h1
          cases h1
          exact ⟨a5, by rw [h2]; rfl, s18 _ _ h3⟩
        · refine ⟨p18, by rw [valT_none hk]; rfl, ?_⟩
          rw [upd_same, idleOf, List.filter_eq_nil_iff.mpr fun m hm e => hk (by rw [← of_decide_eq_true e]; exact hok.cov m hm)]
          rfl
      rw [ea]
      generalize upd H17 p18 (.tup []) = H18 at s18 hia
      have x18 := s18 _ _ x17
      have hix : ia ≠ x := ne_obj hia x18 (fun z => by cases z)
      refine ⟨_, rfl, x, _, dx, _, rfl, x18, T.kReadings, T.nReadings_own_idle, show 6 < 1000 by decide, ?_⟩
      have x19 : (upd H18 x (.ins (ga K "Readings") dx (putF "own_idle" (.ref ia) [("own_table", .ref ta), ("own_answers", .ref D3), ("read", .ref rda), ("driven_at", .ref dva), ("groups", .ref gra), ("high", .ref hi)]))) x = some (.ins (ga K "Readings") dx [("own_table", .ref ta), ("own_answers", .ref D3), ("read", .ref rda), ("driven_at", .ref dva), ("groups", .ref gra), ("high", .ref hi), ("own_idle", .ref ia)]) := upd_same
      have u19 : SameB x H18 (upd H18 x (.ins (ga K "Readings") dx (putF "own_idle" (.ref ia) [("own_table", .ref ta), ("own_answers", .ref D3), ("read", .ref rda), ("driven_at", .ref dva), ("groups", .ref gra), ("high", .ref hi)]))) := SameB.upd
      generalize upd H18 x (.ins (ga K "Readings") dx (putF "own_idle" (.ref ia) [("own_table", .ref ta), ("own_answers", .ref D3), ("read", .ref rda), ("driven_at", .ref dva), ("groups", .ref gra), ("high", .ref hi)])) = H19 at x19 u19
      have b19 : SameB x H H19 := fun b o hb e => u19 _ _ hb (s18 _ _ (b17 _ _ hb e))
      have hrd19 := (hrd17.mono (Same.L s18)).sb u19 x18
      have hdr19 := (hdr17.mono (Same.L s18)).sb u19 x18
      have hT19 := (hT17.up s18).sb u19 x18
      have h19 := u19 _ _ hhx (s18 _ _ h17)
      have hia19 := u19 _ _ hix hia
      -- lowered
      have hf19 := hf.sb b19 hx
      have hdz : f.drivers.length ≤ 40 := by
        have := List.length_filter_le (fun l : Str × Bool => l.2) f.legs
        have := fok.few
        rw [Fr.drivers, List.length_map]
        omega
      refine ⟨_, rfl, fa, dx2, _, rfl, b19 _ _ hne_f hfa, fa, f, rfl, hf19, fun p20 H20 (s20 : Same H19 H20) hp20 => ⟨p20, rfl, ⟨_, SqT.of hp20⟩, fun lo hlo => ?_⟩⟩
      refine lfS walk_tup (fun n => !decide (dv f rs n = hiOf f rs)) hlo (fun H' s => SqT.of (s _ _ hp20)) (by omega) (fun _ => rfl) (fun _ => rfl) (fun n hn H21 s21 Q21 q21 => ?_) (fun H21 s21 hd21 => ?_)
      · have t := s20.trans s21
        have hnm : n ∈ f.members := by
          obtain ⟨ll, hl1, rfl⟩ := List.mem_map.mp hn
          exact names_members (List.mem_map_of_mem (List.mem_filter.mp hl1).1)
        obtain ⟨kv2, b2, k1, k2, k3⟩ := lvs_get (hdr19.mono (Same.L t)) hnm
        have hg2 := DGet.k (k := .inr n) k1
        rw [k2] at hg2
        exact ⟨_, rfl, x, _, dx, _, .ref dva, rfl, t _ _ x19, T.kReadings, T.nReadings_driven_at, rfl, _, rfl, dva, _, rfl, hg2, _, rfl, x, _, dx, _, .ref hi, rfl, t _ _ x19, T.kReadings, T.nReadings_high, rfl, b2, hi, _, _, rfl, rfl, SqT.of k3, SqT.of (t _ _ h19), _, rfl, q21 H21 (Same.refl _)⟩
      have t21 := s20.trans s21
      have x21 := t21 _ _ x19
      have hlx : lo ≠ x := ne_obj hd21 x21 (fun z => by cases z)
      refine ⟨_, rfl, x, _, dx, _, rfl, x21, T.kReadings, T.nReadings_lowered, show 7 < 1000 by decide, ?_⟩
      have x22 : (upd H21 x (.ins (ga K "Readings") dx (putF "lowered" (.ref lo) [("own_table", .ref ta), ("own_answers", .ref D3), ("read", .ref rda), ("driven_at", .ref dva), ("groups", .ref gra), ("high", .ref hi), ("own_idle", .ref ia)]))) x = some (.ins (ga K "Readings") dx (rdFs ta D3 rda dva gra hi ia lo)) := upd_same
      have u22 : SameB x H21 (upd H21 x (.ins (ga K "Readings") dx (putF "lowered" (.ref lo) [("own_table", .ref ta), ("own_answers", .ref D3), ("read", .ref rda), ("driven_at", .ref dva), ("groups", .ref gra), ("high", .ref hi), ("own_idle", .ref ia)]))) := SameB.upd
      generalize upd H21 x (.ins (ga K "Readings") dx (putF "lowered" (.ref lo) [("own_table", .ref ta), ("own_answers", .ref D3), ("read", .ref rda), ("driven_at", .ref dva), ("groups", .ref gra), ("high", .ref hi), ("own_idle", .ref ia)])) = H22 at x22 u22
      have b22 : SameB x H H22 := fun b o hb e => u22 _ _ hb (t21 _ _ (b19 _ _ hb e))
      have hR : RdAt K H22 x f blk rs := ⟨dx, fa, ta, D3, rda, dva, gra, hi, ia, lo, ts.map (·.2), x22, {
        fr := hf.sb b22 hx
        tb := ht.sb b22 hx
        rd := (hrd19.mono (Same.L t21)).sb u22 x21
        dr := (hdr19.mono (Same.L t21)).sb u22 x21
        gr := ((hT19.up t21).sb u22 x21).at
        go := hok
        hi := u22 _ _ hhx (t21 _ _ h19)
        ia := SqT.of (u22 _ _ hix (t21 _ _ hia19))
        lo := u22 _ _ hlx hd21
        ok := ok }⟩
      -- faults
      refine ⟨_, rfl, x, dx, _, rfl, x22, rfl, x, f, blk, rs, rfl, hR, fun p23 H23 (s23 : Same H22 H23) hp23 => ?_⟩
      refine ⟨_, rfl, x, dx, _, rfl, s23 _ _ x22, rfl, x, f, blk, rs, rfl, hR.mono (Same.L s23), fun p24 H24 (s24 : Same H23 H24) hp24 => ?_⟩
      refine ⟨p23, p24, [], [], rfl, rfl, s24 _ _ hp23, hp24, Nat.zero_le _, fun p25 hp25 => ?_⟩
      refine ⟨_, rfl, Nat.zero_le _, fun p26 hp26 => ⟨p25, p26, [], [], rfl, rfl, SqL.of (same_new hp26 _ _ upd_same), SqL.of upd_same, _, rfl, iteF ?_⟩⟩
      have t := ((s23.trans s24).trans (same_new (o := .lst ([] ++ [])) hp25)).trans (same_new (o := .lst []) hp26)
      exact q _ (fun b o hb e => t _ _ (b22 _ _ hb e)) (hR.mono (Same.L t))
theorem k_Readings (T : Txt K mg h) : KF P w K mg base (ga K "Readings") 8 (sp_Readings_init K) := ⟨_, T.mkReadings, fn_Readings_init T⟩
end
end Sj
set_option Elab.async false
set_option linter.all false
set_option maxRecDepth 100000
set_option maxHeartbeats 4000000
/-! SjLaw1: the pen. -/
namespace Sj
open PySem PySem.Spec PyProof.Rows L2 He
/-- what draws: at most b were drawn -/
def PenAt (H : Hp) (p c : Addr) (b : Nat) : Prop := ∃ (cells : List Int) (i j : Int), H p = some (.lst [.ref c, .int i, .int j]) ∧ H c = some (.lst (vI cells)) ∧ p ≠ c ∧ 0 ≤ i ∧ i ≤ b ∧ 0 ≤ j
/-- all but the pen stays -/
def SameP (p : Addr) (H H' : Hp) : Prop := ∀ b o, b ≠ p → H b = some o → H' b = some o
section
variable {P : Program} {w : World} {K : Frg} {mg : Str → Option Value} {base h : Heap}
/-- if pen[0] != []: cell = pen[0][int(at) % len(pen[0])] -/
theorem draw_cell {D : Ends} {p c : Addr} {cells : List Int} {i : Int} {m : V} {a2 a5 a6 : Option V} {H : Hp} {l1 l2 : V} {cell : Int} (hpp : H p = some (.lst [.ref c, l1, l2])) (hcc : H c = some (.lst (vI cells)))
    (k : ∀ cell H', Same H H' → D.nx [some (.ref p), some m, a2, some (.int i), some (.int cell), a5, a6] H') :
    tIfS (tTest (tOp (rNeI false K) (tOp (rIxL K) (tVar 0) (tC (.int 0))) (tLst tNil))) (tSeq (tAsg (tOp (rIxL K) (tOp (rIxL K) (tVar 0) (tC (.int 0))) (tOp (rI (fun _ j => 0 < j) fun i j => .int (i % j)) (tCB (fun xs H Q => (∃ i, xs = [.int i] ∧ Q (.int i) H) ∨ ∃ k, xs = [.bl k] ∧ Q (.int (if k then 1 else 0)) H) (tCons (tVar 3) tNil)) (tCB (fun xs H Q => ∃ p ys, xs = [.ref p] ∧ (SqL K H p ys ∨ SqT K H p ys) ∧ Q (.int ys.length) H) (tCons (tOp (rIxL K) (tVar 0) (tC (.int 0))) tNil)))) (gName 4)) tNext) tNext D [some (.ref p), some m, a2, some (.int i), some (.int cell), a5, a6] H := by
  refine ⟨_, rfl, p, _, 0, .ref c, rfl, rfl, SqL.of hpp, rfl, Nat.zero_le _, fun pe hpe => ?_⟩
  have s := same_new (o := .lst []) hpe
  refine ⟨c, pe, cells, [], rfl, rfl, SqL.of (s _ _ hcc), SqL.of upd_same, _, rfl, ?_⟩
  by_cases hc : cells = []
  · rw [decide_eq_true hc]
    exact iteF (k _ _ s)
  · rw [decide_eq_false hc]
    have hl : (0 : Int) < (cells.length : Nat) := by
      have := List.length_pos_iff.mpr hc
      omega
    have h1 := Int.emod_nonneg i (show ((cells.length : Nat) : Int) ≠ 0 by omega)
    have h2 := Int.emod_lt_of_pos i hl
    obtain ⟨x, hx⟩ : ∃ x, cells[(i % ((cells.length : Nat) : Int)).toNat]? = some x := ⟨_, List.getElem?_eq_getElem (by omega)⟩
    have hat : atI (vI cells) (i % ((vI cells).length : Nat)) = some (.int x) := by
      have e : (vI cells).length = cells.length := List.length_map _
      rw [e, ← Int.toNat_of_nonneg h1]
      exact atI_nat (by rw [vI, List.getElem?_map, hx]; rfl)
    refine iteT ⟨_, rfl, p, _, 0, .ref c, rfl, rfl, SqL.of (s _ _ hpp), rfl, _, rfl, .inl ⟨i, rfl, _, rfl, p, _, 0, .ref c, rfl, rfl, SqL.of (s _ _ hpp), rfl, c, _, rfl, .inl (SqL.of (s _ _ hcc)), _, _, rfl, rfl, ?_, c, _, _, .int x, rfl, rfl, SqL.of (s _ _ hcc), hat, k _ _ s⟩⟩
    rw [vI, List.length_map]
    exact hl
def sp_law_draw : Sp := fun vs H Q _ => ∃ (p c : Addr) (m b : Nat), vs = [.ref p, .int (m : Nat)] ∧ PenAt H p c b ∧ 0 < m ∧ m < 1000 ∧ b < 1000000 ∧ ∀ (v : Nat) H', SameP p H H' → PenAt H' p c (b + 1) → v < m → Q (.int (v : Nat)) H'
theorem ok_law_draw (T : Txt K mg h) : GF P w K mg base "_law_draw" 2 sp_law_draw := by
  refine ⟨_, T.g_law_draw, keepX T.d_law_draw, mkFn T.d_law_draw sc_law_draw rfl (fun _ _ _ _ _ _ us hl => match us, hl with | [_, _], _ => rfl) (fun vs H Q E h => ?_) (fun cdv A outer s H vs Q E hr h => ?_)⟩
  · obtain ⟨p, c, m, b, rfl, _⟩ := h
    rfl
  · obtain ⟨p, c, m, b, rfl, hp, m1, m2, hb, q⟩ := h
    refine ⟨_, pss_cons (ps_if (pt_cmpR op_gt (pe_ix ix_list (pv 0) pe_int (fun _ _ => rfl)) pe_int (by rfl)) (pss_cons (pset 2 sc_law_draw.nd (pe_op op_mod (pint T (pe_ix ix_list (pv 0) pe_int (fun _ _ => rfl))) (pv 1))) (pss_cons (ps_asg (pe_op op_fdiv (pint T (pe_ix ix_list (pv 0) pe_int (fun _ _ => rfl))) (pv 1)) (pg_sub (pv 0) pe_int set_list)) (pss_one (ps_ret (pv 2))))) pss_nil)
      (pss_cons (pset 3 sc_law_draw.nd (pe_ix ix_list (pv 0) pe_int (fun _ _ => rfl)))
      (pss_cons (ps_asg (pe_op op_add (pv 3) pe_int) (pg_sub (pv 0) pe_int set_list))
      (pss_cons (pset 4 sc_law_draw.nd (pe_op op_add (pe_op op_mul pe_int (pv 3)) pe_int))
      (pss_cons (ps_if (pt_cmpR (op_neI false hr (K := K)) (pe_ix ix_list (pv 0) pe_int (fun _ _ => rfl)) (pe_lst pa_nil) (by rfl)) (pss_one (pset 4 sc_law_draw.nd (pe_ix ix_list (pe_ix ix_list (pv 0) pe_int (fun _ _ => rfl)) (pe_op op_mod (pint T (pv 3)) (plen T (pe_ix ix_list (pv 0) pe_int (fun _ _ => rfl)))) (fun _ _ => rfl)))) pss_nil)
      (pss_cons (ps_if (PW.pt (pw_and (pt_cmpR op_lt (pv 3) (plen T (pe_ix ix_list (pv 0) pe_int (fun _ _ => rfl))) (by rfl)) (pw_and1 (pt_cmpR op_ge (pe_callB call_abs (by rfl) T.b_abs bt_abs (pa_cons (pv 4) pa_nil)) (pe_op op_pow pe_int pe_int) (by rfl)))))
        (pss_cons (pset 5 sc_law_draw.nd (pe_op op_add (pe_op op_mul pe_int (pe_callB call_abs (by rfl) T.b_abs bt_abs (pa_cons (pv 4) pa_nil))) (pint T (pe_cmpR op_lt (pv 4) pe_int (by rfl)))))
        (pss_cons (ps_asg (pe_op op_fdiv (pv 5) (pv 1)) (pg_sub (pv 0) pe_int set_list)) (pss_one (ps_ret (pe_op op_mod (pint T (pv 5)) (pv 1)))))) pss_nil)
      (pss_cons (pset 6 sc_law_draw.nd (pe_op op_mod (pint T (pe_op op_pow (pe_op op_add (pe_op op_add (pe_op op_mod (pint T (pv 4)) pe_int) (pe_op op_mul pe_int (pv 3))) pe_int) pe_int)) pe_int))
      (pss_cons (pset 6 sc_law_draw.nd (pe_op op_mod (pint T (pe_op op_pow (pe_op op_add (pe_op op_add (pe_op op_mul (pv 6) (pe_op op_add (pe_op op_mul pe_int (pv 3)) pe_int)) (pe_op op_mul (pe_op op_mul pe_int (pv 3)) (pv 3))) pe_int) pe_int)) pe_int))
      (pss_one (ps_ret (pe_op op_mod (pint T (pe_op op_fdiv (pv 6) pe_int)) (pv 1))))))))))), ?_⟩
    obtain ⟨cells, i, j, hpp, hcc, hpc, i0, ib, j0⟩ := hp
    have hm : (0 : Int) < (m : Int) := by omega
    have hm3 : (0 : Int) < (m : Int) ∧ (m : Int) < 1073741824 := ⟨by omega, by omega⟩
    have out : ∀ {k : Int} {H1 : Hp}, SameP p H H1 → PenAt H1 p c (b + 1) → Q (.int (k % (m : Int))) H1 := fun {k H1} s h => by
      have h1 := Int.emod_nonneg k (show (m : Int) ≠ 0 by omega)
      have h2 := Int.emod_lt_of_pos k hm
      have := q (k % (m : Int)).toNat H1 s h (by omega)
      rw [Int.toNat_of_nonneg h1] at this
      exact this
    refine ⟨_, rfl, p, _, 2, .int j, rfl, rfl, SqL.of hpp, rfl, _, _, rfl, rfl, _, rfl, ?_⟩
    by_cases hj : 0 < j
    · rw [decide_eq_true hj]
      refine iteT ⟨_, rfl, p, _, 2, .int j, rfl, rfl, SqL.of hpp, rfl, .inl ⟨j, rfl, _, rfl, _, _, rfl, rfl, hm, ?_⟩⟩
      refine ⟨_, rfl, p, _, 2, .int j, rfl, rfl, SqL.of hpp, rfl, .inl ⟨j, rfl, _, rfl, _, _, rfl, rfl, hm3, _, rfl, p, _, 2, 2, rfl, rfl, hpp, rfl, ?_⟩⟩
      exact ⟨_, rfl, out (fun b o hb e => (upd_ne hb).trans e) ⟨cells, i, j / (m : Int), upd_same, (upd_ne hpc.symm).trans hcc, hpc, i0, by omega, Int.ediv_nonneg j0 (by omega)⟩⟩
    rw [decide_eq_false hj]
    refine iteF ⟨_, rfl, p, _, 1, .int i, rfl, rfl, SqL.of hpp, rfl, ?_⟩
    refine ⟨_, rfl, _, _, rfl, rfl, _, rfl, p, _, 1, 1, rfl, rfl, hpp, rfl, ?_⟩
    have sp1 : SameP p H (upd H p (.lst [.ref c, .int (i + 1), .int j])) := fun b o hb e => (upd_ne hb).trans e
    have pp1 : (upd H p (.lst [.ref c, .int (i + 1), .int j])) p = some (.lst [.ref c, .int (i + 1), .int j]) := upd_same
    have cc1 : (upd H p (.lst [.ref c, .int (i + 1), .int j])) c = some (.lst (vI cells)) := (upd_ne hpc.symm).trans hcc
    have bd1 : ∀ cell : Int, (cell % 2147483563 + 50077 * i + 61).natAbs < 2 ^ 64 := fun cell => by
      have h1 := Int.emod_nonneg cell (show (2147483563 : Int) ≠ 0 by decide)
      have h2 := Int.emod_lt_of_pos cell (show (0 : Int) < 2147483563 by decide)
      omega
    have bd2 : ∀ x : Int, -(2 ^ 64) < x % 2147483587 ∧ x % 2147483587 < 2 ^ 64 := fun x => by
      have h1 := Int.emod_nonneg x (show (2147483587 : Int) ≠ 0 by decide)
      have h2 := Int.emod_lt_of_pos x (show (0 : Int) < 2147483587 by decide)
      omega
    have bd3 : -(2 ^ 64) < 40093 * i ∧ 40093 * i < 2 ^ 64 := by omega
    have bd4 : ∀ x : Int, (x % 2147483587 * (2 * i + 71) + 40093 * i * i + 41).natAbs < 2 ^ 64 := fun x => by
      have h1 := Int.emod_nonneg x (show (2147483587 : Int) ≠ 0 by decide)
      have h2 := Int.emod_lt_of_pos x (show (0 : Int) < 2147483587 by decide)
      have h3 : x % 2147483587 * (2 * i + 71) ≤ 2147483587 * 2000071 := Int.mul_le_mul (by omega) (by omega) (by omega) (by omega)
      have h4 : 0 ≤ x % 2147483587 * (2 * i + 71) := Int.mul_nonneg h1 (by omega)
      have h5 : 40093 * i * i ≤ 40093000000 * 1000000 := Int.mul_le_mul (by omega) (by omega) i0 (by omega)
      have h6 : 0 ≤ 40093 * i * i := Int.mul_nonneg (by omega) i0
      omega
    refine ⟨_, rfl, _, _, rfl, rfl, .inl ⟨by decide, by decide⟩, _, _, rfl, rfl, ?_⟩
    refine draw_cell pp1 cc1 fun cell H2 s2 => ?_
    have pp2 := s2 _ _ pp1
    have cc2 := s2 _ _ cc1
    have sp2 : SameP p H H2 := fun b o hb e => s2 _ _ (sp1 b o hb e)
    refine ⟨_, rfl, _, rfl, p, _, 0, .ref c, rfl, rfl, SqL.of pp2, rfl, c, _, rfl, .inl (SqL.of cc2), _, _, rfl, rfl, _, rfl, ?_⟩
    by_cases h1 : i < ((vI cells).length : Nat)
    · rw [decide_eq_true h1]
      refine iteT ⟨_, rfl, cell, rfl, _, _, rfl, rfl, ⟨by decide, by decide, by decide⟩, _, _, rfl, rfl, _, rfl, ?_⟩
      by_cases h2 : (10 : Int) ^ (18 : Int).toNat ≤ (if cell < 0 then -cell else cell)
      · rw [decide_eq_true h2]
        refine iteT ⟨_, rfl, cell, rfl, _, _, rfl, rfl, .inl ⟨by decide, by decide⟩, _, rfl, _, _, rfl, rfl, .inr ⟨_, rfl, _, _, rfl, rfl, ?_⟩⟩
        refine ⟨_, rfl, _, rfl, _, _, rfl, rfl, hm3, _, rfl, p, _, 2, 2, rfl, rfl, pp2, rfl, ?_⟩
        refine ⟨_, rfl, .inl ⟨_, rfl, _, rfl, _, _, rfl, rfl, hm, out (fun b o hb e => (upd_ne hb).trans (sp2 b o hb e)) ⟨cells, i + 1, _, upd_same, (upd_ne hpc.symm).trans cc2, hpc, by omega, by omega, Int.ediv_nonneg ?_ (by omega)⟩⟩⟩
        split <;> split <;> omega
      rw [decide_eq_false h2]
      refine iteF ⟨_, rfl, .inl ⟨cell, rfl, _, _, rfl, rfl, (show (0 : Int) < 2147483563 by decide), _, rfl, _, _, rfl, rfl, .inl ⟨by decide, by decide⟩, _, _, rfl, rfl, _, _, rfl, rfl, _, _, rfl, rfl, ⟨by decide, by decide, bd1 cell⟩, .inl ⟨_, rfl, _, _, rfl, rfl, (show (0 : Int) < 2147483587 by decide), ?_⟩⟩⟩
      exact ⟨_, rfl, _, rfl, _, _, rfl, rfl, .inl ⟨by decide, by decide⟩, _, _, rfl, rfl, _, _, rfl, rfl, .inl (bd2 _), _, rfl, _, _, rfl, rfl, .inl ⟨by decide, by decide⟩, _, rfl, _, _, rfl, rfl, .inl bd3, _, _, rfl, rfl, _, _, rfl, rfl, _, _, rfl, rfl, ⟨by decide, by decide, bd4 _⟩, .inl ⟨_, rfl, _, _, rfl, rfl, (show (0 : Int) < 2147483629 by decide), _, rfl, _, _, rfl, rfl, ⟨by decide, by decide⟩, .inl ⟨_, rfl, _, rfl, _, _, rfl, rfl, hm, out sp2 ⟨cells, i + 1, j, pp2, cc2, hpc, by omega, by omega, j0⟩⟩⟩⟩
    · rw [decide_eq_false h1]
      refine iteF (iteF ⟨_, rfl, .inl ⟨cell, rfl, _, _, rfl, rfl, (show (0 : Int) < 2147483563 by decide), _, rfl, _, _, rfl, rfl, .inl ⟨by decide, by decide⟩, _, _, rfl, rfl, _, _, rfl, rfl, _, _, rfl, rfl, ⟨by decide, by decide, bd1 cell⟩, .inl ⟨_, rfl, _, _, rfl, rfl, (show (0 : Int) < 2147483587 by decide), ?_⟩⟩⟩)
      exact ⟨_, rfl, _, rfl, _, _, rfl, rfl, .inl ⟨by decide, by decide⟩, _, _, rfl, rfl, _, _, rfl, rfl, .inl (bd2 _), _, rfl, _, _, rfl, rfl, .inl ⟨by decide, by decide⟩, _, rfl, _, _, rfl, rfl, .inl bd3, _, _, rfl, rfl, _, _, rfl, rfl, _, _, rfl, rfl, ⟨by decide, by decide, bd4 _⟩, .inl ⟨_, rfl, _, _, rfl, rfl, (show (0 : Int) < 2147483629 by decide), _, rfl, _, _, rfl, rfl, ⟨by decide, by decide⟩, .inl ⟨_, rfl, _, rfl, _, _, rfl, rfl, hm, out sp2 ⟨cells, i + 1, j, pp2, cc2, hpc, by omega, by omega, j0⟩⟩⟩⟩
end
end Sj
set_option Elab.async false
set_option linter.all false
set_option maxRecDepth 100000
set_option maxHeartbeats 4000000
/-! SjLaw2: pen, pick. -/
namespace Sj
open PySem PySem.Spec PyProof.Rows L2 He
section
variable {P : Program} {w : World} {K : Frg} {mg : Str → Option Value} {base h : Heap}
def sp_law_pick (K : Frg) : Sp := fun vs H Q _ => ∃ (p c l b : Nat) (xs : List V), vs = [.ref p, .ref l] ∧ PenAt H p c b ∧ SqL K H l xs ∧ p ≠ l ∧ 0 < xs.length ∧ xs.length < 1000 ∧ b < 1000000 ∧ ∀ v H', SameP p H H' → PenAt H' p c (b + 1) → v ∈ xs → Q v H'
theorem ok_law_pick (T : Txt K mg h) : GF P w K mg base "_law_pick" 3 (sp_law_pick K) := by
  refine ⟨_, T.g_law_pick, keepX T.d_law_pick, mkFn T.d_law_pick sc_law_pick rfl (fun _ _ _ _ _ _ us hl => match us, hl with | [_, _], _ => rfl) (fun vs H Q E h => ?_) (fun cdv A outer s H vs Q E hr h => ?_)⟩
  · obtain ⟨p, c, l, b, xs, rfl, _⟩ := h
    rfl
  · obtain ⟨p, c, l, b, xs, rfl, hp, hl, hne, h0, h1, hb, q⟩ := h
    refine ⟨_, pss_one (ps_ret (pe_ix ix_list (pv 1) (pc (ok_law_draw T) hr (pa_cons (pv 0) (pa_cons (plen T (pv 1)) pa_nil))) (fun _ _ => rfl))), ?_⟩
    refine ⟨_, rfl, _, rfl, _, rfl, l, _, rfl, .inl hl, p, c, xs.length, b, rfl, hp, h0, h1, hb, fun v H1 s1 hp1 hv => ?_⟩
    obtain ⟨x, hx⟩ : ∃ x, xs[v]? = some x := ⟨_, List.getElem?_eq_getElem hv⟩
    refine ⟨l, xs, _, x, rfl, rfl, ?_, atI_nat hx, q x H1 s1 hp1 (List.mem_of_getElem? hx)⟩
    rcases hl with (h | ⟨u, h⟩) | h
    · exact .inl (.inl (s1 _ _ (fun e => hne e.symm) h))
    · exact .inl (.inr ⟨u, s1 _ _ (fun e => hne e.symm) h⟩)
    · exact .inr h
theorem cutV_ints (cells : List Int) (lo hi : Option Int) : ∃ cs, cutV (vI cells) lo hi = vI cs := by
  unfold cutV vI
  rw [← List.map_drop, ← List.map_take]
  exact ⟨_, rfl⟩
def sp_law_pen (K : Frg) : Sp := fun vs H Q _ => ∃ (s : Addr) (cells : List Int), vs = [.ref s] ∧ SqL K H s (vI cells) ∧ ∀ p c H', Same H H' → H p = none → H c = none → PenAt H' p c 0 → Q (.ref p) H'
theorem ok_law_pen (T : Txt K mg h) : GF P w K mg base "_law_pen" 1 (sp_law_pen K) := by
  refine ⟨_, T.g_law_pen, keepX T.d_law_pen, mkFn T.d_law_pen sc_law_pen rfl (fun _ _ _ _ _ _ us hl => match us, hl with | [_], _ => rfl) (fun vs H Q E h => ?_) (fun cdv A outer s H vs Q E hr h => ?_)⟩
  · obtain ⟨s, cells, rfl, _⟩ := h
    rfl
  · obtain ⟨s, cells, rfl, hs, q⟩ := h
    refine ⟨_, pss_one (ps_ret (pe_lst (pa_cons (plist T (pe_slice sl_list (pv 0) po_none (po_some pe_int))) (pa_cons pe_int (pa_cons pe_int pa_nil))))), ?_⟩
    obtain ⟨cs, e⟩ := cutV_ints cells none (some 63)
    refine ⟨_, rfl, _, rfl, s, _, rfl, hs, fun p1 h1 => ?_⟩
    rw [e]
    have s1 := same_new (o := .lst (vI cs)) h1
    refine ⟨p1, _, rfl, .inl (SqL.of upd_same), fun c hc => ⟨by rw [sizeLine_eq]; exact (by decide : 3 ≤ 16777216), fun p hp => ?_⟩⟩
    have s2 := same_new (o := .lst (vI cs)) hc
    have t := s1.trans s2
    have hp0 : H p = none := t.free hp
    have hpc : p ≠ c := (ne_of_none upd_same hp).symm
    exact q p c _ (t.trans (same_new hp)) hp0 (s1.free hc) ⟨cs, 0, 0, upd_same, (upd_ne hpc.symm).trans upd_same, hpc, by decide, by decide, by decide⟩
end
end Sj
set_option Elab.async false
set_option linter.all false
set_option maxRecDepth 100000
set_option maxHeartbeats 4000000
/-! SjLaw3: the bare frame. -/
namespace Sj
open PySem PySem.Spec PyProof.Rows L2 He
structure Bare where
  top : Int
  drs : List Str
  lss : List Str
  rls : List Str
def BareAt (H : Hp) (d : Addr) (B : Bare) : Prop := ∃ kvs a1 a2 a3, H d = some (.dK kvs) ∧ valV kvs (.inr "top") = some (.int B.top) ∧ valV kvs (.inr "drivers") = some (.ref a1) ∧ valV kvs (.inr "listeners") = some (.ref a2) ∧ valV kvs (.inr "rails") = some (.ref a3) ∧
  H a1 = some (.lst (vS B.drs)) ∧ H a2 = some (.lst (vS B.lss)) ∧ H a3 = some (.lst (vS B.rls))
theorem BareAt.mono {H H' : Hp} {d : Addr} {B : Bare} (s : SameL H H') (h : BareAt H d B) : BareAt H' d B := by
  obtain ⟨kvs, a1, a2, a3, e, h1, h2, h3, h4, g1, g2, g3⟩ := h
  exact ⟨kvs, a1, a2, a3, s _ _ e nl_dK, h1, h2, h3, h4, s _ _ g1 nl_strs, s _ _ g2 nl_strs, s _ _ g3 nl_strs⟩
section
variable {P : Program} {w : World} {K : Frg} {mg : Str → Option Value} {base h : Heap}
theorem vS_app (a b : List Str) : vS (a ++ b) = vS a ++ vS b := List.map_append
def sp_law_members : Sp := fun vs H Q _ => ∃ (d : Addr) (B : Bare), vs = [.ref d] ∧ BareAt H d B ∧ (B.drs ++ B.lss ++ B.rls).length < 64 ∧ ∀ p H', Same H H' → H p = none → H' p = some (.lst (vS (srt (B.drs ++ B.lss ++ B.rls)))) → Q (.ref p) H'
theorem ok_law_members (T : Txt K mg h) : GF P w K mg base "_law_members" 1 sp_law_members := by
  refine ⟨_, T.g_law_members, keepX T.d_law_members, mkFn T.d_law_members sc_law_members rfl (fun _ _ _ _ _ _ us hl => match us, hl with | [_], _ => rfl) (fun vs H Q E h => ?_) (fun cdv A outer s H vs Q E hr h => ?_)⟩
  · obtain ⟨d, B, rfl, _⟩ := h
    rfl
  · obtain ⟨d, B, rfl, ⟨kvs, a1, a2, a3, e, h1, h2, h3, h4, g1, g2, g3⟩, hz, q⟩ := h
    refine ⟨_, pss_one (ps_ret (psrt T (pe_op op_cat (pe_op op_cat (pdg (u1 hr) (pv 0) pe_str) (pdg (u1 hr) (pv 0) pe_str)) (pdg (u1 hr) (pv 0) pe_str)))), ?_⟩
    have k1 := DGet.k (k := .inr "drivers") e
    rw [h2] at k1
    have k2 := DGet.k (k := .inr "listeners") e
    rw [h3] at k2
    refine ⟨_, rfl, d, _, rfl, k1, _, rfl, d, _, rfl, k2, a1, a2, _, _, rfl, rfl, g1, g2, ?_, fun p hp => ?_⟩
    · rw [vS_len, vS_len, sizeLine_eq]
      rw [List.length_append, List.length_append] at hz
      omega
    have s1 := same_new (o := .lst (vS B.drs ++ vS B.lss)) hp
    have k3 := DGet.k (k := .inr "rails") (s1 _ _ e)
    rw [h4] at k3
    refine ⟨_, rfl, d, _, rfl, k3, p, a3, _, _, rfl, rfl, upd_same, s1 _ _ g3, ?_, fun p2 hp2 => ⟨p2, B.drs ++ B.lss ++ B.rls, rfl, SqL.of (by rw [upd_same, vS_app, vS_app]), hz, fun p3 hp3 => q p3 _ ((s1.trans (same_new hp2)).trans (same_new hp3)) ((s1.trans (same_new hp2)).free hp3) upd_same⟩⟩
    rw [List.length_append, vS_len, vS_len, vS_len, sizeLine_eq]
    rw [List.length_append, List.length_append] at hz
    omega
end
end Sj
set_option Elab.async false
set_option linter.all false
set_option maxRecDepth 100000
set_option maxHeartbeats 4000000
/-! SjLaw4: _law_frame. -/
namespace Sj
open PySem PySem.Spec PyProof.Rows L2 He
section
variable {J : It} {xs : List Str} {G : Hp → Prop} {j : Nat} {te : TE} {vs : List Nat} {σ : L2.St} {H1 : Hp} {D : Addr} {Qd : Hp → Prop}
/-- [.. for x in xs], the items new objects -/
theorem lcA (wk : Walk J (vS xs).length G (YAt (vS xs))) (F : Str → Addr → Hp → Prop) (hF : ∀ n a H H', SameB D H H' → a ≠ D → F n a H → F n a H') (hD : H1 D = none) (hG : ∀ H', Same H1 H' → G H') (hz : xs.length ≤ 1000) (hw : ∀ x, wipe ((wipe σ vs).set j (some x)) vs = wipe σ vs)
    (he : ∀ n ∈ xs, ∀ H2, Same H1 H2 → (∃ acc, H2 D = some (.lst acc)) → ∀ Q : VK, (∀ a H3, Same H2 H3 → a ≠ D → F n a H3 → Q (.ref a) H3) → te ((wipe σ vs).set j (some (.str n))) H2 Q)
    (k : ∀ as H2, Same H1 H2 → H2 D = some (.lst (as.map V.ref)) → Paired (fun n a => F n a H2) xs as → Qd H2) : LcG J (gName j) tYes te vs σ H1 D Qd :=
  lcm1 wk (fun D x y H => ∃ a, y = .ref a ∧ a ≠ D ∧ F (strOf x) a H) hD hG (fun x y H H' s ⟨a, e, n, h⟩ => ⟨a, e, n, hF _ a H H' s n h⟩) (by rw [vS_len]; exact hz) hw (fun x hx H2 acc s hd Q q => by
    obtain ⟨n, hn, rfl⟩ := List.mem_map.mp hx
    exact he n hn H2 s ⟨acc, hd⟩ Q fun a H3 s3 ne h3 => q _ H3 s3 ⟨a, rfl, ne, h3⟩) fun ys H2 s hd pr => by
    have : ∀ {ns : List Str} {ys : List V}, Paired (fun x y => ∃ a, y = V.ref a ∧ a ≠ D ∧ F (strOf x) a H2) (vS ns) ys → ∃ as, ys = as.map V.ref ∧ Paired (fun n a => F n a H2) ns as := by
      intro ns
      induction ns with
      | nil => intro ys p; cases p; exact ⟨[], rfl, .nil⟩
      | cons y r ih =>
        intro ys p
        cases p with
        | cons h t =>
          obtain ⟨as, e, p2⟩ := ih t
          obtain ⟨a, e2, _, h2⟩ := h
          exact ⟨a :: as, by rw [e2, e]; rfl, .cons h2 p2⟩
    obtain ⟨as, e, p⟩ := this pr
    exact k as H2 s (e ▸ hd) p
end
section
variable {P : Program} {w : World} {K : Frg} {mg : Str → Option Value} {base h : Heap}
def legsOf (B : Bare) : List (Str × Bool) := (B.drs.map fun n => (n, true)) ++ B.lss.map fun n => (n, false)
structure BareOk (B : Bare) : Prop where
  top1 : 1 ≤ B.top
  top3 : B.top ≤ 3
  nd : (B.drs ++ B.lss).Nodup
  name : ∀ n ∈ B.drs ++ B.lss, okName n = true
  few : (B.drs ++ B.lss).length ≤ 20
  rails : B.rls = [] ∨ B.rls = [("ground" : Str)] ∨ B.rls = [("power" : Str)] ∨ B.rls = [("ground" : Str), ("power" : Str)]
def bareFr (B : Bare) : Fr := frOf B.top (decide (("ground" : Str) ∈ B.rls)) (decide (("power" : Str) ∈ B.rls)) (legsOf B)
theorem paired_app {α β : Type} {F : α → β → Prop} {a c : List α} {b d : List β} (h : Paired F a b) (g : Paired F c d) : Paired F (a ++ c) (b ++ d) := by
  induction h with
  | nil => exact g
  | cons h t ih => exact .cons h ih
theorem paired_mapL {α β γ : Type} {F : α → β → Prop} {f : γ → α} {l : List γ} {m : List β} (h : Paired (fun n a => F (f n) a) l m) : Paired F (l.map f) m := by
  induction h with
  | nil => exact .nil
  | cons h t ih => exact .cons h ih
/-- legs made of names -/
theorem mk_leg (T : Txt K mg h) (b : Bool) {H : Hp} {n : Str} {Q : Hp → Prop} {x dx : Addr} (hk : okName n = true) (q : ∀ H', Same H H' → LegAt K H' x (n, b) → Q H') (hx : H x = none) (hdx : H dx = none) (hne : dx ≠ x) :
    sp_Leg_init K [V.ref x, V.str n] (upd (upd H dx (.own x)) x (.ins (clsLeg K b) dx [])) (fun v H' => v = .non ∧ Q H') E0 := by
  refine ⟨x, _, dx, n, rfl, upd_same, (leg_cls T b).1, (leg_cls T b).2, hk, fun H' s => ⟨rfl, q _ (fun c o e => ?_) ⟨dx, upd_same⟩⟩⟩
  have hc : c ≠ x := ne_of_none e hx
  rw [upd_ne hc]
  exact s _ _ (by rw [upd_ne hc, upd_ne (ne_of_none e hdx)]; exact e)
def sp_law_frame (K : Frg) : Sp := fun vs H Q _ => ∃ (d : Addr) (B : Bare), vs = [.ref d] ∧ BareAt H d B ∧ BareOk B ∧ LamX.TabS H (tF K) lamQ ∧ ∀ a H', SameX K H H' → FrAt K H' a (bareFr B) → Q (.ref a) H'
theorem ok_law_frame (T : Txt K mg h) (TB : LamX.TabB base mg (cF K) (tF K)) : GF P w K mg base "_law_frame" 15 (sp_law_frame K) := by
  refine ⟨_, T.g_law_frame, keepX T.d_law_frame, mkFn T.d_law_frame sc_law_frame rfl (fun _ _ _ _ _ _ us hl => match us, hl with | [_], _ => rfl) (fun vs H Q E h => ?_) (fun cdv A outer s H vs Q E hr h => ?_)⟩
  · obtain ⟨d, B, rfl, _⟩ := h
    rfl
  · obtain ⟨d, B, rfl, hB, ok, htb, q⟩ := h
    refine ⟨_, pss_cons (ps_par (i := 1) (j := 2) rfl sc_law_frame.nd rfl rfl (by decide) rfl rfl (pa_cons (plc 3 sc_law_frame.nd (pi_list (pdg (u1 hr) (pv 0) pe_str)) (fun _ _ _ _ _ => pk (k_Leg T true) hr T.gDriver (pa_cons (pv 3) pa_nil))) (pa_cons (pdg (u1 hr) (pv 0) pe_str) pa_nil)) (by rfl))
      (pss_cons (pset 1 sc_law_frame.nd (pe_op op_cat (pv 1) (plc 3 sc_law_frame.nd (pi_list (pdg (u1 hr) (pv 0) pe_str)) (fun _ _ _ _ _ => pk (k_Leg T false) hr T.gListener (pa_cons (pv 3) pa_nil)))))
      (pss_one (ps_ret (pcmK (c_Frame_of T TB) hr (pe_glob (v := .ref (ga K "Frame")) (by rfl) T.gFrame rfl) (pa_cons (pv 1) pa_nil) (pk_cons (pdg (u1 hr) (pv 0) pe_str) (pk_cons (pe_cmpR op_in_seq pe_str (pv 2) (by rfl)) (pk_cons (pe_cmpR op_in_seq pe_str (pv 2) (by rfl)) pk_nil))))))), ?_⟩
    obtain ⟨kvs, a1, a2, a3, e, h1, h2, h3, h4, g1, g2, g3⟩ := hB
    have hg : ∀ {H1 : Hp} {k : Str} {v : V}, Same H H1 → valV kvs (.inr k) = some v → DGet H1 d (.str k) (some v) := fun {H1 k v} s hk => by
      have := DGet.k (k := .inr k) (s _ _ e)
      rw [hk] at this
      exact this
    have hfew := ok.few
    rw [List.length_append] at hfew
    have hst : ∀ {b : Bool} {D : Addr}, ∀ n a H H', SameB D H H' → a ≠ D → LegAt K H a (n, b) → LegAt K H' a (n, b) := fun {b D} n a H H' s ne ⟨dx, e⟩ => ⟨dx, s _ _ ne e⟩
    refine ⟨_, rfl, d, _, rfl, hg (Same.refl _) h2, a1, rfl, ⟨_, SqL.of g1⟩, fun D hD => ?_⟩
    refine lcA walk_list (fun n a H => LegAt K H a (n, true)) hst hD (fun H' s => SqL.of (s _ _ g1)) (by omega) (fun _ => rfl) (fun n hn H2 s2 ⟨acc, hd2⟩ Q2 q2 => ?_) (fun as1 H1 s1 hd1 p1 => ?_)
    · exact ⟨_, rfl, fun x dx hx hdx hne => mk_leg T true (ok.name n (List.mem_append_left _ hn)) (fun H' s hl => q2 x H' s (ne_of_none hd2 hx).symm hl) hx hdx hne⟩
    refine ⟨_, rfl, d, _, rfl, hg s1 h4, _, _, rfl, ?_⟩
    refine ⟨_, rfl, _, rfl, d, _, rfl, hg s1 h3, a2, rfl, ⟨_, SqL.of (s1 _ _ g2)⟩, fun D2 hD2 => ?_⟩
    refine lcA walk_list (fun n a H => LegAt K H a (n, false)) hst hD2 (fun H' s => SqL.of (s _ _ (s1 _ _ g2))) (by omega) (fun _ => rfl) (fun n hn H2 s2 ⟨acc, hd2⟩ Q2 q2 => ?_) (fun as2 H2 s2 hd2 p2 => ?_)
    · exact ⟨_, rfl, fun x dx hx hdx hne => mk_leg T false (ok.name n (List.mem_append_right _ hn)) (fun H' s hl => q2 x H' s (ne_of_none hd2 hx).symm hl) hx hdx hne⟩
    have t := s1.trans s2
    refine ⟨D, D2, _, _, rfl, rfl, s2 _ _ hd1, hd2, by rw [List.length_map, List.length_map, ← paired_len p1, ← paired_len p2, sizeLine_eq]; omega, fun l hl => ?_⟩
    have s3 := same_new (o := .lst (as1.map V.ref ++ as2.map V.ref)) hl
    have t3 := t.trans s3
    have hpl : Paired (fun g a => LegAt K (upd H2 l (.lst (as1.map V.ref ++ as2.map V.ref))) a g) (legsOf B) (as1 ++ as2) := by
      exact paired_app (paired_mapL (paired_imp (fun _ _ z => z.mono (Same.L (s2.trans s3))) p1)) (paired_mapL (paired_imp (fun _ _ z => z.mono (Same.L s3)) p2))
    have hin : ∀ {z : Str}, inV (.str z) (vS B.rls) = decide (z ∈ B.rls) := fun {z} => inV_strs z B.rls
    have hnm : (legsOf B).map (·.1) = B.drs ++ B.lss := by
      rw [legsOf, List.map_append, List.map_map, List.map_map]
      exact congr (congrArg _ (List.map_id _)) (List.map_id _)
    refine ⟨rfl, _, rfl, _, rfl, d, _, rfl, hg t3 h1, _, rfl, a3, _, rfl, .inl (SqL.of (t3 _ _ g3)), rfl, vS_flat _, ?_⟩
    rw [hin]
    refine ⟨_, rfl, a3, _, rfl, .inl (SqL.of (t3 _ _ g3)), rfl, vS_flat _, ?_⟩
    rw [hin]
    refine ⟨rfl, rfl, l, B.top, _, _, legsOf B, as1 ++ as2, rfl, by rw [upd_same, List.map_append], hpl, by rw [hnm]; exact ok.nd, ?_, ok.top1, ok.top3, fun g hgm => ok.name g.1 (by rw [← hnm]; exact List.mem_map_of_mem hgm), htb.ext t3, fun a H' s hf => q a H' ((Same.X t3).trans s) hf⟩
    rw [← List.length_map (·.1), hnm, List.length_append]
    omega
end
end Sj
set_option Elab.async false
set_option linter.all false
set_option maxRecDepth 100000
set_option maxHeartbeats 4000000
/-! SjMath1: the plain law: order, more and less, covers. -/
namespace Sj
open PySem PySem.Spec PyProof.Rows L2 He
/-! ### the order of tuples of texts -/
def ltT (xs ys : List Str) : Bool := PySem.W.rowLt (xs.map .str) (ys.map .str)
theorem ltT_nc (y : Str) (ys : List Str) : ltT [] (y :: ys) = true := by
  unfold ltT PySem.W.rowLt
  rw [List.map_nil, List.map_cons, PySem.W.toks_all_cons]
  simp only [PySem.W.keyToksAll]
  rw [lex_diff (O := itemOrd) (by simp)]
  rfl
theorem ltT_cc (x y : Str) (xs ys : List Str) : ltT (x :: xs) (y :: ys) = if x = y then ltT xs ys else decide (x.cps.toList < y.cps.toList) := by
  show PySem.W.rowLt (.str x :: xs.map .str) (.str y :: ys.map .str) = _
  unfold PySem.W.rowLt
  rw [PySem.W.dataLt_cons (by simp [PySem.W.alike]), PySem.W.dataLt_str]
  by_cases e : x = y
  · subst e
    simp [PyData.eqv, ltT, PySem.W.rowLt]
  · have : PyData.eqv (.str x) (.str y) = false := by simp [PyData.eqv, e]
    rw [this, if_neg e]
    simp
theorem ltT_tri : ∀ {xs ys : List Str}, ltT xs ys = false → ltT ys xs = false → xs = ys
  | [], [], _, _ => rfl
  | [], y :: ys, h, _ => by rw [ltT_nc] at h; cases h
  | x :: xs, [], _, h => by rw [ltT_nc] at h; cases h
  | x :: xs, y :: ys, h1, h2 => by
    rw [ltT_cc] at h1 h2
    by_cases e : x = y
    · subst e
      rw [if_pos rfl] at h1 h2
      rw [ltT_tri h1 h2]
    · rw [if_neg e] at h1
      rw [if_neg fun z => e z.symm] at h2
      exact absurd (leS_anti (by unfold leS; exact decide_eq_true (List.not_lt.mp (of_decide_eq_false h2))) (by unfold leS; exact decide_eq_true (List.not_lt.mp (of_decide_eq_false h1)))) e
theorem leG_eq (a b : List Str) : leG a b = !ltT b a := by
  show (!PySem.W.dataLt (.tuple (b.map .str)) (.tuple (a.map .str))) = _
  rw [PySem.W.dataLt_tuple]
  rfl
theorem leG_anti (a b : List Str) (h1 : leG a b = true) (h2 : leG b a = true) : a = b := by
  rw [leG_eq] at h1 h2
  exact ltT_tri (by simpa using h2) (by simpa using h1)
theorem perm_of_mem {α : Type} : ∀ {xs ys : List α}, xs.Nodup → ys.Nodup → (∀ x, x ∈ xs ↔ x ∈ ys) → xs.Perm ys := fun h1 h2 h => (List.perm_ext_iff_of_nodup h1 h2).mpr h
theorem cls_uniq {f f' : Fr} {blk blk' : Str → List Str} {rs rs' : Rows} {cs cs' : List (List Str)} (h : ClsOf f blk rs cs) (h' : ClsOf f' blk' rs' cs') (e : ∀ g, (∃ m ∈ f.members, g = classOf f blk rs m) ↔ ∃ m ∈ f'.members, g = classOf f' blk' rs' m) : cs = cs' :=
  pw_eq leG_anti (perm_of_mem h.nd h'.nd fun g => by rw [h.mem, h'.mem, e]) h.asc h'.asc
/-! ### by rows -/
section
variable {f : Fr} {blk : Str → List Str} {rs rs' : Rows} {m n : Str}
theorem lv_iff : lv f blk rs m = lv f blk rs n ↔ ∀ r ∈ rs, rd f r (blk m) = rd f r (blk n) := List.map_inj_left
theorem lv_hi : lv f blk rs m = hiOf f rs ↔ ∀ r ∈ rs, rd f r (blk m) = f.top := List.map_inj_left
theorem dv_hi : dv f rs m = hiOf f rs ↔ ∀ r ∈ rs, lvl f.top r m = f.top := List.map_inj_left
/-- the same words, in any order, however often -/
theorem class_same (h : ∀ r, r ∈ rs ↔ r ∈ rs') (n : Str) : classOf f blk rs n = classOf f blk rs' n := by
  refine List.filter_congr fun m _ => decide_eq_decide.mpr ?_
  rw [lv_iff, lv_iff]
  exact ⟨fun k r hr => k r ((h r).mpr hr), fun k r hr => k r ((h r).mp hr)⟩
theorem idle_same (h : ∀ r, r ∈ rs ↔ r ∈ rs') : idleOf f blk rs = idleOf f blk rs' := by
  refine List.filter_congr fun m _ => decide_eq_decide.mpr ?_
  rw [lv_hi, lv_hi]
  exact ⟨fun k r hr => k r ((h r).mpr hr), fun k r hr => k r ((h r).mp hr)⟩
theorem lowered_same (h : ∀ r, r ∈ rs ↔ r ∈ rs') : loweredOf f rs = loweredOf f rs' := by
  refine List.filter_congr fun m _ => congrArg (!·) (decide_eq_decide.mpr ?_)
  rw [dv_hi, dv_hi]
  exact ⟨fun k r hr => k r ((h r).mpr hr), fun k r hr => k r ((h r).mp hr)⟩
theorem locked_same (h : ∀ r, r ∈ rs ↔ r ∈ rs') : lockedOf f blk rs = lockedOf f blk rs' := by
  unfold lockedOf
  rw [idle_same h, lowered_same h]
theorem mute_same (h : ∀ r, r ∈ rs ↔ r ∈ rs') : muteOf f blk rs = muteOf f blk rs' := by
  unfold muteOf
  rw [idle_same h, lowered_same h]
theorem cls_same (h : ∀ r, r ∈ rs ↔ r ∈ rs') {cs cs' : List (List Str)} (c : ClsOf f blk rs cs) (c' : ClsOf f blk rs' cs') : cs = cs' :=
  cls_uniq c c' fun g => by
    constructor
    · rintro ⟨m, hm, e⟩
      exact ⟨m, hm, e.trans (class_same h m)⟩
    · rintro ⟨m, hm, e⟩
      exact ⟨m, hm, e.trans (class_same h m).symm⟩
/-- fewer words -/
theorem class_less (h : ∀ r ∈ rs', r ∈ rs) {m n : Str} (hm : m ∈ classOf f blk rs n) : m ∈ classOf f blk rs' n := by
  obtain ⟨h1, h2⟩ := List.mem_filter.mp hm
  refine List.mem_filter.mpr ⟨h1, decide_eq_true (lv_iff.mpr fun r hr => ?_)⟩
  exact lv_iff.mp (of_decide_eq_true h2) r (h r hr)
theorem idle_less (h : ∀ r ∈ rs', r ∈ rs) {m : Str} (hm : m ∈ idleOf f blk rs) : m ∈ idleOf f blk rs' := by
  obtain ⟨h1, h2⟩ := List.mem_filter.mp hm
  refine List.mem_filter.mpr ⟨h1, decide_eq_true (lv_hi.mpr fun r hr => ?_)⟩
  exact lv_hi.mp (of_decide_eq_true h2) r (h r hr)
theorem class_self (hn : n ∈ f.members) : n ∈ classOf f blk rs n := List.mem_filter.mpr ⟨hn, decide_eq_true rfl⟩
theorem class_of_mem (h : m ∈ classOf f blk rs n) : classOf f blk rs m = classOf f blk rs n := by
  have e := of_decide_eq_true (List.mem_filter.mp h).2
  unfold classOf
  rw [e]
theorem class_idle (h : lv f blk rs n = hiOf f rs) : classOf f blk rs n = idleOf f blk rs := by
  unfold classOf idleOf
  rw [h]
/-! ### covers -/
theorem mem_mkd {xs : List Int} {top : Int} {i : Nat} : i ∈ mkd xs top ↔ ∃ l, xs[i]? = some l ∧ l < top := by
  unfold mkd
  rw [List.mem_filter, List.mem_range, decide_eq_true_iff, List.getD_eq_getElem?_getD]
  constructor
  · rintro ⟨h1, h2⟩
    rw [List.getElem?_eq_getElem h1] at h2
    exact ⟨_, List.getElem?_eq_getElem h1, h2⟩
  · rintro ⟨l, h1, h2⟩
    rw [h1]
    exact ⟨(List.getElem?_eq_some_iff.mp h1).1, h2⟩
theorem filter_ne_nil {α : Type} {p : α → Bool} {xs : List α} : (!decide (xs.filter p = [])) = true ↔ ∃ x ∈ xs, p x = true := by
  rw [Bool.not_eq_true', decide_eq_false_iff_not, List.filter_eq_nil_iff]
  simp
theorem cover_iff {x : Str} {t : List Str} : coverOf f blk rs (x :: t) = true ↔ (∃ r ∈ rs, rd f r (blk x) ≠ f.top) ∧ ∀ r ∈ rs, rd f r (blk x) < f.top → ∃ m ∈ x :: t, lvl f.top r m = rd f r (blk x) := by
  show (!decide (lv f blk rs x = hiOf f rs) && (mkd (lv f blk rs x) f.top).all fun i => !decide ((x :: t).filter (fun m => decide ((dv f rs m)[i]? = (lv f blk rs x)[i]?)) = [])) = true ↔ _
  rw [Bool.and_eq_true, Bool.not_eq_true', decide_eq_false_iff_not, lv_hi, List.all_eq_true]
  refine and_congr (by simp) ?_
  constructor
  · intro h r hr hlt
    obtain ⟨i, hi, e⟩ := List.mem_iff_getElem.mp hr
    have e1 : rs[i]? = some r := by rw [List.getElem?_eq_getElem hi, e]
    have e2 : (lv f blk rs x)[i]? = some (rd f r (blk x)) := by rw [lv, List.getElem?_map, e1]; rfl
    obtain ⟨m, hm, h2⟩ := filter_ne_nil.mp (h i (mem_mkd.mpr ⟨_, e2, hlt⟩))
    have h3 := of_decide_eq_true h2
    rw [e2, dv, List.getElem?_map, e1] at h3
    exact ⟨m, hm, Option.some.inj h3⟩
  · intro h i hi
    obtain ⟨l, e2, hlt⟩ := mem_mkd.mp hi
    rw [filter_ne_nil]
    have e3 := e2
    rw [lv, List.getElem?_map] at e3
    cases e1 : rs[i]? with
    | none => rw [e1] at e3; cases e3
    | some r =>
      rw [e1] at e3
      have e3 : rd f r (blk x) = l := Option.some.inj e3
      obtain ⟨m, hm, h4⟩ := h r (List.mem_of_getElem? e1) (by omega)
      refine ⟨m, hm, decide_eq_true ?_⟩
      rw [e2, dv, List.getElem?_map, e1]
      show some (lvl f.top r m) = some l
      rw [h4, e3]
/-- elements put to a cover -/
theorem cover_more {xs ys : List Str} (hs : ∀ x ∈ xs, x ∈ ys) (like : ∀ x ∈ ys, ∀ y ∈ ys, lv f blk rs x = lv f blk rs y) (h : coverOf f blk rs xs = true) : coverOf f blk rs ys = true := by
  cases xs with
  | nil => cases h
  | cons x t =>
    cases ys with
    | nil => cases hs x List.mem_cons_self
    | cons y u =>
      have e := lv_iff.mp (like x (hs x List.mem_cons_self) y List.mem_cons_self)
      obtain ⟨⟨r, h1, h2⟩, h3⟩ := cover_iff.mp h
      refine cover_iff.mpr ⟨⟨r, h1, by rw [← e r h1]; exact h2⟩, fun r hr hlt => ?_⟩
      rw [← e r hr] at hlt ⊢
      obtain ⟨m, hm, h4⟩ := h3 r hr hlt
      exact ⟨m, hs m hm, h4⟩
theorem like_class (n : Str) : ∀ x ∈ classOf f blk rs n, ∀ y ∈ classOf f blk rs n, lv f blk rs x = lv f blk rs y := fun x hx y hy =>
  (of_decide_eq_true (List.mem_filter.mp hx).2).trans (of_decide_eq_true (List.mem_filter.mp hy).2).symm
/-- a class that is not idle is a cover -/
theorem class_cover (fok : f.Ok) (ok : TabOk f blk rs) (hn : n ∈ f.members) (h : classOf f blk rs n ≠ idleOf f blk rs) : coverOf f blk rs (classOf f blk rs n) = true := by
  have hs := class_self (blk := blk) (rs := rs) hn
  have like := like_class (f := f) (blk := blk) (rs := rs) n
  cases e : classOf f blk rs n with
  | nil => rw [e] at hs; cases hs
  | cons x t =>
    rw [e] at hs like
    have el := lv_iff.mp (like x List.mem_cons_self n hs)
    have hne : lv f blk rs n ≠ hiOf f rs := fun z => h (class_idle z)
    rw [Ne, lv_hi] at hne
    simp only [Classical.not_forall] at hne
    obtain ⟨r, hr, h2⟩ := hne
    refine cover_iff.mpr ⟨⟨r, hr, by rw [el r hr]; exact h2⟩, fun r hr hlt => ?_⟩
    rw [el r hr] at hlt ⊢
    obtain ⟨i, hi, e5⟩ := List.mem_iff_getElem.mp hr
    have e1 : rs[i]? = some r := by rw [List.getElem?_eq_getElem hi, e5]
    have e2 : (lv f blk rs n)[i]? = some (rd f r (blk n)) := by rw [lv, List.getElem?_map, e1]; rfl
    obtain ⟨m, hm, h4⟩ := lost_ok ok hn e2 hlt
    rw [e] at hm
    rw [dv, List.getElem?_map, e1] at h4
    exact ⟨m, hm, Option.some.inj h4⟩
/-- a cover stays one for fewer words, where its class is the same -/
theorem cover_less (h : ∀ r ∈ rs', r ∈ rs) {xs : List Str} (hx : ∀ x ∈ xs, x ∈ classOf f blk rs n) (hn : n ∈ f.members) (hc : ∀ x ∈ classOf f blk rs' n, x ∈ classOf f blk rs n) (hi : classOf f blk rs n ≠ idleOf f blk rs') (h1 : coverOf f blk rs xs = true) : coverOf f blk rs' xs = true := by
  have ec : classOf f blk rs' n = classOf f blk rs n := by
    refine List.filter_congr fun m hm => ?_
    rw [Bool.eq_iff_iff]
    constructor
    · intro z
      exact (List.mem_filter.mp (hc m (List.mem_filter.mpr ⟨hm, z⟩))).2
    · intro z
      exact (List.mem_filter.mp (class_less h (List.mem_filter.mpr ⟨hm, z⟩))).2
  have hne : lv f blk rs' n ≠ hiOf f rs' := fun z => hi (by rw [← ec, class_idle z])
  cases xs with
  | nil => cases h1
  | cons x t =>
    have el := lv_iff.mp (of_decide_eq_true (List.mem_filter.mp (class_less h (hx x List.mem_cons_self))).2)
    rw [Ne, lv_hi] at hne
    simp only [Classical.not_forall] at hne
    obtain ⟨r, hr, h2⟩ := hne
    obtain ⟨_, h3⟩ := cover_iff.mp h1
    exact cover_iff.mpr ⟨⟨r, hr, by rw [el r hr]; exact h2⟩, fun r hr hlt => h3 r (h r hr) hlt⟩
end
end Sj
set_option Elab.async false
set_option linter.all false
set_option maxRecDepth 100000
set_option maxHeartbeats 4000000
/-! SjMath2: the plain law: places of words; other names. -/
namespace Sj
open PySem PySem.Spec PyProof.Rows L2 He
section
variable {f : Fr} {blk : Str → List Str} {rs rs' : Rows} {n : Str} {i j : Nat}
theorem lv_at (h : rs'[i]? = rs[j]?) : (lv f blk rs' n)[i]? = (lv f blk rs n)[j]? := by rw [lv, lv, List.getElem?_map, List.getElem?_map, h]
theorem dv_at (h : rs'[i]? = rs[j]?) : (dv f rs' n)[i]? = (dv f rs n)[j]? := by rw [dv, dv, List.getElem?_map, List.getElem?_map, h]
theorem makers_at (hs : ∀ r, r ∈ rs' ↔ r ∈ rs) (h : rs'[i]? = rs[j]?) : makersOf f blk rs' n i = makersOf f blk rs n j := by
  unfold makersOf
  rw [lv_at h, class_same hs]
  split
  · rfl
  · exact List.filter_congr fun m _ => by rw [dv_at h]
/-- marked words go with their words -/
theorem marked_at {ks : List Nat} (hl : rs'.length = ks.length + 1) (h0 : rs'[0]? = rs[0]?) (h : ∀ i k, ks[i]? = some k → rs'[i + 1]? = rs[k + 1]?) :
    mkd (lv f blk rs' n) f.top = (if 0 ∈ mkd (lv f blk rs n) f.top then [0] else []) ++ ((List.range ks.length).filter fun i => decide (ks.getD i 0 + 1 ∈ mkd (lv f blk rs n) f.top)).map (· + 1) := by
  have hm : ∀ {i j : Nat}, rs'[i]? = rs[j]? → (decide ((lv f blk rs' n).getD i 0 < f.top) = true ∧ i < (lv f blk rs' n).length ↔ j ∈ mkd (lv f blk rs n) f.top) := fun {i j} h => by
    rw [mem_mkd, ← lv_at h, decide_eq_true_iff, List.getD_eq_getElem?_getD]
    constructor
    · rintro ⟨h1, h2⟩
      rw [List.getElem?_eq_getElem h2] at h1 ⊢
      exact ⟨_, rfl, h1⟩
    · rintro ⟨l, h1, h2⟩
      rw [h1]
      exact ⟨h2, (List.getElem?_eq_some_iff.mp h1).1⟩
  have hlen : (lv f blk rs' n).length = ks.length + 1 := by rw [lv, List.length_map, hl]
  unfold mkd at hm ⊢
  rw [hlen] at hm ⊢
  rw [List.range_succ_eq_map, List.filter_cons, List.filter_map]
  have e : ∀ i ∈ List.range ks.length, ((fun i => decide ((lv f blk rs' n).getD i 0 < f.top)) ∘ Nat.succ) i = decide (ks.getD i 0 + 1 ∈ (List.range (lv f blk rs n).length).filter fun i => decide ((lv f blk rs n).getD i 0 < f.top)) := fun i hi => by
    have hi := List.mem_range.mp hi
    have hk : ks[i]? = some (ks.getD i 0) := by rw [List.getD_eq_getElem?_getD, List.getElem?_eq_getElem hi]; rfl
    have := hm (h i _ hk)
    rw [Bool.eq_iff_iff, decide_eq_true_iff, ← this]
    exact ⟨fun z => ⟨z, by omega⟩, fun z => z.1⟩
  rw [List.filter_congr e]
  have e0 := hm h0
  by_cases c : 0 ∈ (List.range (lv f blk rs n).length).filter fun i => decide ((lv f blk rs n).getD i 0 < f.top)
  · rw [if_pos c, if_pos (e0.mpr c).1]
    rfl
  · rw [if_neg c, if_neg fun z => c (e0.mp ⟨z, by omega⟩)]
    rfl
end
/-! ### other names -/
theorem mn_perm {xs ys : List Int} (p : xs.Perm ys) : mn xs = mn ys := by
  by_cases e : xs = []
  · subst e
    rw [List.nil_perm.mp p]
  · exact mn_of (p.mem_iff.mp (mn_mem e)) fun y hy => mn_le (p.mem_iff.mpr hy)
theorem lookup_map {β γ : Type} (ns : List Str) (g : Str → β) (n : Str) : (ns.map fun m => (m, g m)).lookup n = if n ∈ ns then some (g n) else none := by
  induction ns with
  | nil => simp
  | cons m r ih =>
    rw [List.map_cons, List.lookup_cons]
    by_cases e : n = m
    · subst e
      simp
    · rw [beq_eq_false_iff_ne.mpr e, ih]
      simp [e]
theorem lookup_none {β : Type} {n : Str} : ∀ {l : List (Str × β)}, n ∉ l.map (·.1) → l.lookup n = none
  | [], _ => rfl
  | (m, u) :: r, h => by
    rw [List.map_cons, List.mem_cons, not_or] at h
    rw [List.lookup_cons, beq_eq_false_iff_ne.mpr h.1]
    exact lookup_none h.2
theorem lookup_told {top : Int} {r : List (Str × Int)} (nd : (r.map (·.1)).Nodup) (n : Str) (hi : ∀ p ∈ r, p.2 ≤ top) : ((told top r).lookup n).getD top = (r.lookup n).getD top := by
  unfold told
  rw [lookup_map (γ := Int)]
  by_cases h : n ∈ r.map (·.1)
  · obtain ⟨⟨m, l⟩, hp, e⟩ := List.mem_map.mp h
    have e : m = n := e
    subst e
    have e2 := lookup_nd nd hp
    have hl : l ≤ top := hi _ hp
    rw [e2]
    by_cases hlt : l < top
    · rw [if_pos (List.mem_filter.mpr ⟨mem_srt.mpr h, by rw [e2]; exact decide_eq_true hlt⟩)]
      rfl
    · rw [if_neg fun z => hlt (by have := of_decide_eq_true (List.mem_filter.mp z).2; rw [e2] at this; exact this)]
      show top = l
      omega
  · rw [if_neg fun z => h (mem_srt.mp (List.mem_filter.mp z).1), lookup_none h]
structure Ren (f f' : Fr) (ρ : Str → Str) : Prop where
  top : f'.top = f.top
  mem : f'.members.Perm (f.members.map ρ)
  drv : ∀ n ∈ f.members, (ρ n ∈ f'.drivers ↔ n ∈ f.drivers)
  sub : ∀ n ∈ f.drivers, n ∈ f.members
  inj : ∀ a ∈ f.members, ∀ b ∈ f.members, ρ a = ρ b → a = b
  gnd : ∀ n ∈ f.members, (ρ n = "ground" ↔ n = "ground")
  pwr : ∀ n ∈ f.members, (ρ n = "power" ↔ n = "power")
def rnRow (ρ : Str → Str) (r : List (Str × Int)) : List (Str × Int) := r.map fun p => (ρ p.1, p.2)
theorem nodup_mapOn {α β : Type} {ρ : α → β} : ∀ {xs : List α}, (∀ a ∈ xs, ∀ b ∈ xs, ρ a = ρ b → a = b) → xs.Nodup → (xs.map ρ).Nodup
  | [], _, _ => .nil
  | x :: r, h, nd => by
    obtain ⟨n1, n2⟩ := List.nodup_cons.mp nd
    refine List.nodup_cons.mpr ⟨fun z => ?_, nodup_mapOn (fun a ha b hb => h a (List.mem_cons_of_mem _ ha) b (List.mem_cons_of_mem _ hb)) n2⟩
    obtain ⟨y, hy, e⟩ := List.mem_map.mp z
    exact n1 (h y (List.mem_cons_of_mem _ hy) x List.mem_cons_self e ▸ hy)
section
variable {f f' : Fr} {ρ : Str → Str}
theorem Ren.mem' (R : Ren f f' ρ) {n : Str} (h : n ∈ f.members) : ρ n ∈ f'.members := R.mem.mem_iff.mpr (List.mem_map_of_mem h)
theorem rn_lookup (R : Ren f f' ρ) {n : Str} (hn : n ∈ f.members) : ∀ {r : List (Str × Int)}, (∀ p ∈ r, p.1 ∈ f.members) → (rnRow ρ r).lookup (ρ n) = r.lookup n
  | [], _ => rfl
  | (m, l) :: r, h => by
    show List.lookup (ρ n) ((ρ m, l) :: rnRow ρ r) = _
    rw [List.lookup_cons, List.lookup_cons, rn_lookup R hn fun p hp => h p (List.mem_cons_of_mem _ hp)]
    by_cases e : n = m
    · subst e
      simp
    · rw [beq_eq_false_iff_ne.mpr e, beq_eq_false_iff_ne.mpr fun z => e (R.inj _ hn _ (h _ List.mem_cons_self) z)]
theorem rn_row (R : Ren f f' ρ) {r : List (Str × Int)} (ok : RowOk f r) : RowOk f' (rnRow ρ r) where
  nd := by
    have e : (rnRow ρ r).map (·.1) = (r.map (·.1)).map ρ := by
      rw [rnRow, List.map_map, List.map_map]
      rfl
    rw [e]
    refine nodup_mapOn (fun a ha b hb => ?_) ok.nd
    obtain ⟨p, hp, rfl⟩ := List.mem_map.mp ha
    obtain ⟨q, hq, rfl⟩ := List.mem_map.mp hb
    exact R.inj _ (R.sub _ (ok.drv p hp)) _ (R.sub _ (ok.drv q hq))
  few := by rw [rnRow, List.length_map]; exact ok.few
  drv := fun p hp => by
    obtain ⟨q, hq, rfl⟩ := List.mem_map.mp hp
    exact (R.drv _ (R.sub _ (ok.drv q hq))).mpr (ok.drv q hq)
  lo := fun p hp => by
    obtain ⟨q, hq, rfl⟩ := List.mem_map.mp hp
    exact ok.lo q hq
  hi := fun p hp => by
    obtain ⟨q, hq, rfl⟩ := List.mem_map.mp hp
    rw [R.top]
    exact ok.hi q hq
theorem rn_lvl (R : Ren f f' ρ) {r : List (Str × Int)} (ok : RowOk f r) {n : Str} (hn : n ∈ f.members) : lvl f'.top (told f'.top (rnRow ρ r)) (ρ n) = lvl f.top (told f.top r) n := by
  have ok' := rn_row R ok
  unfold lvl
  rw [lookup_told ok'.nd _ ok'.hi, lookup_told ok.nd _ ok.hi, rn_lookup R hn fun p hp => R.sub _ (ok.drv p hp), R.top]
  by_cases h1 : n = "ground"
  · rw [if_pos h1, if_pos ((R.gnd n hn).mpr h1)]
  · rw [if_neg h1, if_neg fun z => h1 ((R.gnd n hn).mp z)]
    by_cases h2 : n = "power"
    · rw [if_pos h2, if_pos ((R.pwr n hn).mpr h2)]
    · rw [if_neg h2, if_neg fun z => h2 ((R.pwr n hn).mp z)]
theorem rn_part (R : Ren f f' ρ) {bss : List (List Str)} (ok : PartOk f bss) : PartOk f' (bss.map (List.map ρ)) where
  ne := fun b hb => by
    obtain ⟨c, hc, rfl⟩ := List.mem_map.mp hb
    exact fun z => ok.ne c hc (List.map_eq_nil_iff.mp z)
  mem := fun b hb n hn => by
    obtain ⟨c, hc, rfl⟩ := List.mem_map.mp hb
    obtain ⟨m, hm, rfl⟩ := List.mem_map.mp hn
    exact R.mem' (ok.mem c hc m hm)
  nd := by
    rw [← List.map_flatten]
    refine nodup_mapOn (fun a ha b hb => ?_) ok.nd
    obtain ⟨c, hc, h1⟩ := List.mem_flatten.mp ha
    obtain ⟨d, hd, h2⟩ := List.mem_flatten.mp hb
    exact R.inj _ (ok.mem c hc a h1) _ (ok.mem d hd b h2)
  rails := fun b hb hg hp => by
    obtain ⟨c, hc, rfl⟩ := List.mem_map.mp hb
    obtain ⟨x, hx, e1⟩ := List.mem_map.mp hg
    obtain ⟨y, hy, e2⟩ := List.mem_map.mp hp
    have e1 := (R.gnd x (ok.mem c hc x hx)).mp e1
    have e2 := (R.pwr y (ok.mem c hc y hy)).mp e2
    subst e1 e2
    exact ok.rails c hc hx hy
  few := by
    rw [← List.map_flatten, List.length_map]
    exact ok.few
  cov := fun m hm => by
    obtain ⟨n, hn, rfl⟩ := List.mem_map.mp (R.mem.mem_iff.mp hm)
    obtain ⟨b, hb, h⟩ := ok.cov n hn
    exact ⟨b.map ρ, List.mem_map_of_mem hb, List.mem_map_of_mem h⟩
theorem rn_blk (R : Ren f f' ρ) {bss : List (List Str)} (ok : PartOk f bss) {n : Str} (hn : n ∈ f.members) : ∃ b ∈ bss, n ∈ b ∧ blkFor bss n = srt b ∧ blkFor (bss.map (List.map ρ)) (ρ n) = srt (b.map ρ) := by
  obtain ⟨b, hb, h⟩ := ok.cov n hn
  exact ⟨b, hb, h, blkFor_of ok.nd hb h, blkFor_of (rn_part R ok).nd (List.mem_map_of_mem hb) (List.mem_map_of_mem h)⟩
theorem rn_rd (R : Ren f f' ρ) {bss : List (List Str)} (ok : PartOk f bss) {r : List (Str × Int)} (rok : RowOk f r) {n : Str} (hn : n ∈ f.members) : rd f' (told f'.top (rnRow ρ r)) (blkFor (bss.map (List.map ρ)) (ρ n)) = rd f (told f.top r) (blkFor bss n) := by
  obtain ⟨b, hb, h, e1, e2⟩ := rn_blk R ok hn
  rw [e1, e2]
  have hg : (("ground" : Str) ∈ srt (b.map ρ)) ↔ ("ground" : Str) ∈ srt b := by
    rw [mem_srt, mem_srt, List.mem_map]
    constructor
    · rintro ⟨x, hx, e⟩
      exact (R.gnd x (ok.mem b hb x hx)).mp e ▸ hx
    · intro z
      exact ⟨_, z, (R.gnd _ (ok.mem b hb _ z)).mpr rfl⟩
  have hp : (("power" : Str) ∈ srt (b.map ρ)) ↔ ("power" : Str) ∈ srt b := by
    rw [mem_srt, mem_srt, List.mem_map]
    constructor
    · rintro ⟨x, hx, e⟩
      exact (R.pwr x (ok.mem b hb x hx)).mp e ▸ hx
    · intro z
      exact ⟨_, z, (R.pwr _ (ok.mem b hb _ z)).mpr rfl⟩
  unfold rd
  rw [R.top]
  by_cases h1 : ("ground" : Str) ∈ srt b
  · rw [if_pos h1, if_pos (hg.mpr h1)]
  · rw [if_neg h1, if_neg fun z => h1 (hg.mp z)]
    by_cases h2 : ("power" : Str) ∈ srt b
    · rw [if_pos h2, if_pos (hp.mpr h2)]
    · rw [if_neg h2, if_neg fun z => h2 (hp.mp z)]
      refine mn_perm (((srt_perm (b.map ρ)).map _).trans ?_)
      rw [List.map_map]
      refine List.Perm.trans ?_ ((srt_perm b).symm.map _)
      refine List.Perm.of_eq (List.map_congr_left fun x hx => ?_)
      show lvl f.top (told f.top (rnRow ρ r)) (ρ x) = _
      have := rn_lvl R rok (ok.mem b hb x hx)
      rw [R.top] at this
      exact this
def rnRows (ρ : Str → Str) (rows : Rows) : Rows := rows.map (rnRow ρ)
def rsOf (f : Fr) (rows : Rows) : Rows := [] :: rows.map (told f.top)
theorem rsOf_map (f : Fr) (rows : Rows) : rsOf f rows = ([] :: rows).map (told f.top) := by
  rw [List.map_cons, told_nil]
  rfl
theorem rn_lv (R : Ren f f' ρ) {bss : List (List Str)} (ok : PartOk f bss) {rows : Rows} (rok : ∀ r ∈ rows, RowOk f r) {n : Str} (hn : n ∈ f.members) : lv f' (blkFor (bss.map (List.map ρ))) (rsOf f' (rnRows ρ rows)) (ρ n) = lv f (blkFor bss) (rsOf f rows) n := by
  have e : ([] :: rnRows ρ rows) = ([] :: rows).map (rnRow ρ) := rfl
  rw [lv, lv, rsOf_map, rsOf_map, e, List.map_map, List.map_map, List.map_map]
  refine List.map_congr_left fun r hr => ?_
  refine rn_rd R ok ?_ hn
  rcases List.mem_cons.mp hr with e | hr
  · rw [e]; exact rowOk_nil f
  · exact rok r hr
theorem rn_dv (R : Ren f f' ρ) {rows : Rows} (rok : ∀ r ∈ rows, RowOk f r) {n : Str} (hn : n ∈ f.members) : dv f' (rsOf f' (rnRows ρ rows)) (ρ n) = dv f (rsOf f rows) n := by
  have e : ([] :: rnRows ρ rows) = ([] :: rows).map (rnRow ρ) := rfl
  rw [dv, dv, rsOf_map, rsOf_map, e, List.map_map, List.map_map, List.map_map]
  refine List.map_congr_left fun r hr => ?_
  refine rn_lvl R ?_ hn
  rcases List.mem_cons.mp hr with e | hr
  · rw [e]; exact rowOk_nil f
  · exact rok r hr
theorem rn_hi (R : Ren f f' ρ) (rows : Rows) : hiOf f' (rsOf f' (rnRows ρ rows)) = hiOf f (rsOf f rows) := by
  have e : ([] :: rnRows ρ rows) = ([] :: rows).map (rnRow ρ) := rfl
  rw [hiOf, hiOf, rsOf_map, rsOf_map, e, List.map_map, List.map_map, List.map_map, R.top]
  rfl
theorem members_pw (f : Fr) : f.members.Pairwise fun a b => leS a b = true := srt_pw _
theorem rn_filter (R : Ren f f' ρ) {p p' : Str → Bool} (h : ∀ n ∈ f.members, p' (ρ n) = p n) : f'.members.filter p' = srt ((f.members.filter p).map ρ) := by
  refine pw_eq (fun _ _ => leS_anti) ?_ ((members_pw f').sublist List.filter_sublist) (srt_pw _)
  refine List.Perm.trans ((R.mem.filter p').trans ?_) (srt_perm _).symm
  rw [List.filter_map]
  exact List.Perm.of_eq (congrArg (List.map ρ) (List.filter_congr fun n hn => h n hn))
section
variable {bss : List (List Str)} {rows : Rows}
theorem rn_class (R : Ren f f' ρ) (ok : PartOk f bss) (rok : ∀ r ∈ rows, RowOk f r) {n : Str} (hn : n ∈ f.members) : classOf f' (blkFor (bss.map (List.map ρ))) (rsOf f' (rnRows ρ rows)) (ρ n) = srt ((classOf f (blkFor bss) (rsOf f rows) n).map ρ) :=
  rn_filter R fun m hm => by rw [rn_lv R ok rok hm, rn_lv R ok rok hn]
theorem rn_idle (R : Ren f f' ρ) (ok : PartOk f bss) (rok : ∀ r ∈ rows, RowOk f r) : idleOf f' (blkFor (bss.map (List.map ρ))) (rsOf f' (rnRows ρ rows)) = srt ((idleOf f (blkFor bss) (rsOf f rows)).map ρ) :=
  rn_filter R fun m hm => by rw [rn_lv R ok rok hm, rn_hi R rows]
theorem rn_lowered (R : Ren f f' ρ) (rok : ∀ r ∈ rows, RowOk f r) {n : Str} (hn : n ∈ f.members) : ρ n ∈ loweredOf f' (rsOf f' (rnRows ρ rows)) ↔ n ∈ loweredOf f (rsOf f rows) := by
  unfold loweredOf
  rw [List.mem_filter, List.mem_filter, R.drv n hn, rn_dv R rok hn, rn_hi R rows]
theorem rn_locked (R : Ren f f' ρ) (ok : PartOk f bss) (rok : ∀ r ∈ rows, RowOk f r) : lockedOf f' (blkFor (bss.map (List.map ρ))) (rsOf f' (rnRows ρ rows)) = srt ((lockedOf f (blkFor bss) (rsOf f rows)).map ρ) := by
  unfold lockedOf idleOf
  rw [List.filter_filter, List.filter_filter]
  exact rn_filter R fun m hm => by rw [rn_lv R ok rok hm, rn_hi R rows, decide_eq_decide.mpr (rn_lowered R rok hm)]
theorem rn_mute (R : Ren f f' ρ) (ok : PartOk f bss) (rok : ∀ r ∈ rows, RowOk f r) : muteOf f' (blkFor (bss.map (List.map ρ))) (rsOf f' (rnRows ρ rows)) = srt ((muteOf f (blkFor bss) (rsOf f rows)).map ρ) := by
  unfold muteOf idleOf
  rw [List.filter_filter, List.filter_filter]
  exact rn_filter R fun m hm => by rw [rn_lv R ok rok hm, rn_hi R rows, decide_eq_decide.mpr (rn_lowered R rok hm), decide_eq_decide.mpr (R.drv m hm)]
theorem leG_total (a b : List Str) : (leG a b || leG b a) = true := by
  have tl : PySem.W.TotalLe leT := leT_total
  rcases tl.total (0, a) (0, b) with h | h
  · have h : leG a b = true := h
    rw [h]; rfl
  · have h : leG b a = true := h
    rw [h, Bool.or_true]
theorem leG_trans (a b c : List Str) (h1 : leG a b = true) (h2 : leG b c = true) : leG a c = true := by
  have tl : PySem.W.TotalLe leT := leT_total
  exact tl.trans (0, a) (0, b) (0, c) h1 h2
theorem rn_cls (R : Ren f f' ρ) (ok : PartOk f bss) (rok : ∀ r ∈ rows, RowOk f r) {cs cs' : List (List Str)} (h : ClsOf f (blkFor bss) (rsOf f rows) cs) (h' : ClsOf f' (blkFor (bss.map (List.map ρ))) (rsOf f' (rnRows ρ rows)) cs') : cs' = (cs.map fun g => srt (g.map ρ)).mergeSort leG := by
  refine pw_eq leG_anti ?_ h'.asc (List.pairwise_mergeSort leG_trans leG_total _)
  refine List.Perm.trans (perm_of_mem h'.nd ?_ fun g => ?_) (List.mergeSort_perm _ _).symm
  · refine nodup_mapOn (fun a ha b hb e => ?_) h.nd
    obtain ⟨m, hm, e1⟩ := (h.mem a).mp ha
    obtain ⟨n, hn, e2⟩ := (h.mem b).mp hb
    subst e1 e2
    rw [← rn_class R ok rok hm, ← rn_class R ok rok hn] at e
    have h1 := class_self (f := f') (blk := blkFor (bss.map (List.map ρ))) (rs := rsOf f' (rnRows ρ rows)) (R.mem' hm)
    rw [e] at h1
    have h2 := of_decide_eq_true (List.mem_filter.mp h1).2
    rw [rn_lv R ok rok hm, rn_lv R ok rok hn] at h2
    unfold classOf
    rw [h2]
  · rw [h'.mem, List.mem_map]
    constructor
    · rintro ⟨m, hm, e⟩
      obtain ⟨n, hn, rfl⟩ := List.mem_map.mp (R.mem.mem_iff.mp hm)
      exact ⟨_, (h.mem _).mpr ⟨n, hn, rfl⟩, by rw [e, rn_class R ok rok hn]⟩
    · rintro ⟨g0, hg, e⟩
      obtain ⟨n, hn, rfl⟩ := (h.mem g0).mp hg
      exact ⟨ρ n, R.mem' hn, by rw [← e, rn_class R ok rok hn]⟩
end
end
end Sj
set_option Elab.async false
set_option linter.all false
set_option maxRecDepth 100000
set_option maxHeartbeats 4000000
/-! SjMath3: the plain law: bare frames, other names of them. -/
namespace Sj
open PySem PySem.Spec PyProof.Rows L2 He
section
variable {B B' : Bare} {ρ : Str → Str}
theorem legs_nm (B : Bare) : (legsOf B).map (·.1) = B.drs ++ B.lss := by
  rw [legsOf, List.map_append, List.map_map, List.map_map]
  exact congr (congrArg _ (List.map_id _)) (List.map_id _)
theorem bare_names (B : Bare) : (bareFr B).names.Perm (B.drs ++ B.lss) := by
  rw [← legs_nm]
  exact (srtL_perm (legsOf B)).map _
theorem bare_drivers (B : Bare) : (bareFr B).drivers.Perm B.drs := by
  refine (((srtL_perm (legsOf B)).filter _).map _).trans (List.Perm.of_eq ?_)
  rw [legsOf, List.filter_append, List.filter_map, List.filter_map, List.map_append]
  have e1 : B.drs.filter ((fun l : Str × Bool => l.2) ∘ fun n => (n, true)) = B.drs := List.filter_eq_self.mpr fun _ _ => rfl
  have e2 : B.lss.filter ((fun l : Str × Bool => l.2) ∘ fun n => (n, false)) = [] := List.filter_eq_nil_iff.mpr fun _ _ => by simp
  rw [e1, e2, List.map_map]
  exact (List.append_nil _).trans (List.map_id _)
theorem bare_rails (ok : BareOk B) : (bareFr B).rails = B.rls := by
  have hg : ("ground" : Str) ≠ "power" := by decide +kernel
  show (if decide (("ground" : Str) ∈ B.rls) = true then [("ground" : Str)] else []) ++ (if decide (("power" : Str) ∈ B.rls) = true then [("power" : Str)] else []) = B.rls
  rcases ok.rails with e | e | e | e <;> rw [e] <;> simp [hg, hg.symm]
theorem bare_members (ok : BareOk B) : srt (B.drs ++ B.lss ++ B.rls) = (bareFr B).members := by
  unfold Fr.members
  rw [bare_rails ok]
  exact srt_congr ((bare_names B).symm.append_right _)
theorem mem_bare (ok : BareOk B) {n : Str} : n ∈ (bareFr B).members ↔ n ∈ B.drs ++ B.lss ∨ n ∈ B.rls := by
  rw [← bare_members ok, mem_srt, List.mem_append]
theorem rls_two (ok : BareOk B) {n : Str} (h : n ∈ B.rls) : n = "ground" ∨ n = "power" := by
  rcases ok.rails with e | e | e | e <;> rw [e] at h <;> simp at h
  · exact .inl h
  · exact .inr h
  · exact h
theorem bare_ok (ok : BareOk B) : (bareFr B).Ok := frOf_ok ok.top1 ok.top3 (by rw [legs_nm]; exact ok.nd) (by
    have := ok.few
    rw [← legs_nm, List.length_map] at this
    omega) fun l hl => ok.name _ (by rw [← legs_nm]; exact List.mem_map_of_mem hl)
theorem drs_members (ok : BareOk B) {n : Str} (h : n ∈ (bareFr B).drivers) : n ∈ (bareFr B).members :=
  (mem_bare ok).mpr (.inl (List.mem_append_left _ ((bare_drivers B).mem_iff.mp h)))
theorem ren_ok (ok : BareOk B) (ht : B'.top = B.top) (hr : B'.rls = B.rls) (hd : B'.drs.Perm (B.drs.map ρ)) (hl : B'.lss.Perm (B.lss.map ρ)) (inj : ∀ a ∈ B.drs ++ B.lss, ∀ b ∈ B.drs ++ B.lss, ρ a = ρ b → a = b) (nm : ∀ a ∈ B.drs ++ B.lss, okName (ρ a) = true) : BareOk B' := by
  have hp : (B'.drs ++ B'.lss).Perm ((B.drs ++ B.lss).map ρ) := by
    rw [List.map_append]
    exact hd.append hl
  refine ⟨by rw [ht]; exact ok.top1, by rw [ht]; exact ok.top3, hp.nodup_iff.mpr (nodup_mapOn inj ok.nd), fun n hn => ?_, by rw [hp.length_eq, List.length_map]; exact ok.few, by rw [hr]; exact ok.rails⟩
  obtain ⟨m, hm, rfl⟩ := List.mem_map.mp (hp.mem_iff.mp hn)
  exact nm m hm
theorem ren_bare (ok : BareOk B) (ht : B'.top = B.top) (hr : B'.rls = B.rls) (hd : B'.drs.Perm (B.drs.map ρ)) (hl : B'.lss.Perm (B.lss.map ρ)) (hg : ρ "ground" = "ground") (hp : ρ "power" = "power")
    (inj : ∀ a ∈ B.drs ++ B.lss, ∀ b ∈ B.drs ++ B.lss, ρ a = ρ b → a = b) (nm : ∀ a ∈ B.drs ++ B.lss, okName (ρ a) = true) : Ren (bareFr B) (bareFr B') ρ := by
  have ok' := ren_ok ok ht hr hd hl inj nm
  have hpp : (B'.drs ++ B'.lss).Perm ((B.drs ++ B.lss).map ρ) := by
    rw [List.map_append]
    exact hd.append hl
  have hrl : B.rls.map ρ = B.rls := by
    refine (List.map_congr_left fun n hn => ?_).trans (List.map_id _)
    rcases rls_two ok hn with e | e <;> rw [e]
    · exact hg
    · exact hp
  have hinj : ∀ a ∈ (bareFr B).members, ∀ b ∈ (bareFr B).members, ρ a = ρ b → a = b := fun a ha b hb e => by
    have leg : ∀ {x y : Str}, x ∈ B.drs ++ B.lss → y ∈ B.rls → ρ x ≠ ρ y := fun {x y} hx hy e => by
      obtain ⟨h1, h2⟩ := okName_ne (nm x hx)
      rcases rls_two ok hy with z | z
      · exact h1 (by rw [e, z, hg])
      · exact h2 (by rw [e, z, hp])
    rcases (mem_bare ok).mp ha with h1 | h1 <;> rcases (mem_bare ok).mp hb with h2 | h2
    · exact inj a h1 b h2 e
    · exact absurd e (leg h1 h2)
    · exact absurd e.symm (leg h2 h1)
    · rcases rls_two ok h1 with z1 | z1 <;> rcases rls_two ok h2 with z2 | z2 <;> subst z1 z2
      · rfl
      · rw [hg, hp] at e; exact e
      · rw [hg, hp] at e; exact e
      · rfl
  have hsp : ∀ n ∈ (bareFr B).members, ∀ z : Str, (z = "ground" ∨ z = "power") → (ρ n = z ↔ n = z) := fun n hn z hz => by
    have hz2 : ρ z = z := by rcases hz with e | e <;> rw [e]; exact hg; exact hp
    constructor
    · intro e
      rcases (mem_bare ok).mp hn with h1 | h1
      · obtain ⟨k1, k2⟩ := okName_ne (nm n h1)
        rcases hz with z1 | z1
        · exact absurd (e.trans z1) k1
        · exact absurd (e.trans z1) k2
      · rcases rls_two ok h1 with z1 | z1
        · rw [z1, hg] at e; rw [z1]; exact e
        · rw [z1, hp] at e; rw [z1]; exact e
    · intro e
      rw [e, hz2]
  refine ⟨ht, ?_, fun n hn => ?_, fun n hn => drs_members ok hn, hinj, fun n hn => hsp n hn _ (.inl rfl), fun n hn => hsp n hn _ (.inr rfl)⟩
  · rw [← bare_members ok, ← bare_members ok']
    refine (srt_perm _).trans (List.Perm.trans ?_ ((srt_perm _).map ρ).symm)
    rw [List.map_append, hrl, hr]
    exact hpp.append_right _
  · rw [(bare_drivers B').mem_iff, (bare_drivers B).mem_iff, hd.mem_iff, List.mem_map]
    constructor
    · rintro ⟨m, hm, e⟩
      exact hinj m ((mem_bare ok).mpr (.inl (List.mem_append_left _ hm))) n hn e ▸ hm
    · intro h
      exact ⟨n, h, rfl⟩
end
end Sj
set_option Elab.async false
set_option linter.all false
set_option maxRecDepth 100000
set_option maxHeartbeats 4000000
/-! SjMath4: a parting's board, rows as told: the readings are given. -/
namespace Sj
open PySem PySem.Spec PyProof.Rows L2 He
section
variable {f : Fr} {bss : List (List Str)} {rows : Rows}
theorem blk_part (ok : PartOk f bss) {n : Str} (hn : n ∈ f.members) : ∃ b ∈ bss, n ∈ b ∧ blkFor bss n = srt b := by
  obtain ⟨b, hb, h⟩ := ok.cov n hn
  exact ⟨b, hb, h, blkFor_of ok.nd hb h⟩
theorem mem_len {α : Type} : ∀ {bss : List (List α)} {b : List α}, b ∈ bss → b.length ≤ bss.flatten.length
  | [], _, h => by cases h
  | c :: r, b, h => by
    rw [List.flatten_cons, List.length_append]
    rcases List.mem_cons.mp h with e | h
    · rw [e]; omega
    · have := mem_len h
      omega
theorem blkP_of (ok : PartOk f bss) : BlkP f (blkFor bss) where
  mem := fun m hm x hx => by
    obtain ⟨b, hb, h, e⟩ := blk_part ok hm
    rw [e, mem_srt] at hx
    exact ok.mem b hb x hx
  self := fun m hm => by
    obtain ⟨b, hb, h, e⟩ := blk_part ok hm
    rw [e, mem_srt]
    exact h
  few := fun m hm => by
    obtain ⟨b, hb, h, e⟩ := blk_part ok hm
    rw [e, len_srt]
    exact Nat.le_trans (mem_len hb) ok.few
  eqv := fun n hn m hm => by
    obtain ⟨b, hb, h, e⟩ := blk_part ok hn
    rw [e, mem_srt] at hm
    rw [e, blkFor_of ok.nd hb hm]
theorem rowW_of (fok : f.Ok) {r : List (Str × Int)} (ok : RowOk f r) : RowW f (told f.top r) := by
  have h1 := fok.top1
  have key : ∀ n, 0 ≤ lvl f.top (told f.top r) n ∧ lvl f.top (told f.top r) n ≤ f.top := fun n => by
    unfold lvl
    split
    · omega
    · split
      · omega
      · rw [lookup_told ok.nd n ok.hi]
        by_cases h : n ∈ r.map (·.1)
        · obtain ⟨l, hp, e⟩ := ok.get h
          rw [e]
          exact ⟨ok.lo _ hp, ok.hi _ hp⟩
        · rw [lookup_none h]
          show 0 ≤ f.top ∧ f.top ≤ f.top
          omega
  exact ⟨fun n => (key n).1, fun n => (key n).2⟩
theorem tabOk_of (fok : f.Ok) (pok : PartOk f bss) (rok : ∀ r ∈ rows, RowOk f r) (few : rows.length ≤ 19) : TabOk f (blkFor bss) (rsOf f rows) where
  few := by
    show (([] : List (Str × Int)) :: rows.map (told f.top)).length ≤ 20
    rw [List.length_cons, List.length_map]
    omega
  pos := by
    show 0 < (([] : List (Str × Int)) :: rows.map (told f.top)).length
    rw [List.length_cons]
    omega
  bp := blkP_of pok
  row := fun r hr => by
    rw [rsOf_map] at hr
    obtain ⟨r0, h0, rfl⟩ := List.mem_map.mp hr
    refine rowW_of fok ?_
    rcases List.mem_cons.mp h0 with e | h0
    · rw [e]; exact rowOk_nil f
    · exact rok _ h0
  gnd := fun h => (blkP_of pok).self _ h
  pwr := fun h => by
    obtain ⟨b, hb, h2, e⟩ := blk_part pok h
    rw [e, mem_srt, mem_srt]
    exact ⟨h2, fun z => pok.rails b hb z h2⟩
end
end Sj
set_option Elab.async false
set_option linter.all false
set_option maxRecDepth 100000
set_option maxHeartbeats 4000000
/-! SjLaw5: _law_readings. -/
namespace Sj
open PySem PySem.Spec PyProof.Rows L2 He
open Classical in
noncomputable def rwOf (H : Hp) (v : V) : List (Str × Int) := if h : ∃ r, ∃ a, v = .ref a ∧ H a = some (.dK (rowK r)) then h.choose else []
theorem rwOf_eq {H : Hp} {a : Addr} {r : List (Str × Int)} (h : H a = some (.dK (rowK r))) : rwOf H (.ref a) = r := by
  have hx : ∃ r, ∃ b, V.ref a = .ref b ∧ H b = some (.dK (rowK r)) := ⟨r, a, rfl, h⟩
  unfold rwOf
  rw [dif_pos hx]
  obtain ⟨b, e, hb⟩ := hx.choose_spec
  cases e
  rw [h] at hb
  injection hb with hb
  injection hb with hb
  exact (row_inj hb).symm
/-- a word, away from the list at D -/
def WordD (K : Frg) (H : Hp) (D a fa : Addr) (r : List (Str × Int)) : Prop := ∃ dx L, a ≠ D ∧ L ≠ D ∧ H a = some (.ins (ga K "Word") dx [("frame", .ref fa), ("told", .ref L)]) ∧ H L = some (.dK (rowK r))
section
variable {P : Program} {w : World} {K : Frg} {mg : Str → Option Value} {base h : Heap}
def RowsAt (H : Hp) (ras : List Addr) (rows : Rows) : Prop := Paired (fun r a => H a = some (.dK (rowK r))) rows ras
theorem words_of {K : Frg} {H1 H2 : Hp} {D fa : Addr} {top : Int} {rows : Rows} {ras : List Addr} (h : RowsAt H1 ras rows) : ∀ {ys : List V}, Paired (fun x y => ∃ a, y = V.ref a ∧ WordD K H2 D a fa (told top (rwOf H1 x))) (ras.map V.ref) ys → ∃ ws : List Addr, ys = ws.map V.ref ∧ Paired (fun w r => WordAt K H2 w fa r) ws (rows.map (told top)) := by
  unfold RowsAt at h
  induction h with
  | nil => intro ys p; cases p; exact ⟨[], rfl, .nil⟩
  | cons h t ih =>
    intro ys p
    cases p with
    | cons h1 h2 =>
      obtain ⟨ws, e, p⟩ := ih h2
      obtain ⟨a, e1, dx, L, _, _, e3, e4⟩ := h1
      rw [rwOf_eq h] at e4
      exact ⟨a :: ws, by rw [e1, e]; rfl, .cons ⟨dx, L, e3, e4⟩ p⟩
def sp_law_readings (K : Frg) : Sp := fun vs H Q _ => ∃ (d bl rw : Addr) (B : Bare) (bas ras : List Addr) (bss : List (List Str)) (rows : Rows), vs = [.ref d, .ref bl, .ref rw] ∧ BareAt H d B ∧ BareOk B ∧ H bl = some (.lst (bas.map V.ref)) ∧ BlksAt H bas bss ∧ PartOk (bareFr B) bss ∧
  H rw = some (.lst (ras.map V.ref)) ∧ RowsAt H ras rows ∧ (∀ r ∈ rows, RowOk (bareFr B) r) ∧ rows.length ≤ 12 ∧ LamX.TabS H (tF K) lamQ ∧ ∀ a H', SameX K H H' → RdAt K H' a (bareFr B) (blkFor bss) (rsOf (bareFr B) rows) → Q (.ref a) H'
theorem ok_law_readings (T : Txt K mg h) (TB : LamX.TabB base mg (cF K) (tF K)) : GF P w K mg base "_law_readings" 17 (sp_law_readings K) := by
  refine ⟨_, T.g_law_readings, keepX T.d_law_readings, mkFn T.d_law_readings sc_law_readings rfl (fun _ _ _ _ _ _ us hl => match us, hl with | [_, _, _], _ => rfl) (fun vs H Q E h => ?_) (fun cdv A outer s H vs Q E hr h => ?_)⟩
  · obtain ⟨d, bl, rw, B, bas, ras, bss, rows, rfl, _⟩ := h
    rfl
  · obtain ⟨d, bl, rw, B, bas, ras, bss, rows, rfl, hB, ok, hbl, hbs, pok, hrw, hrs, rok, few, htb, q⟩ := h
    refine ⟨_, pss_cons (pset 3 sc_law_readings.nd (pc (ok_law_frame T TB) hr (pa_cons (pv 0) pa_nil)))
      (pss_cons (pset 4 sc_law_readings.nd (pcm (c_Table_of T) hr (pe_glob (v := .ref (ga K "Table")) (by rfl) T.gTable rfl) (pa_cons (pv 3) (pa_cons (plc 5 sc_law_readings.nd (pi_list (pv 2)) (fun _ _ _ _ _ => pcm (c_Word_of T) hr (pe_glob (v := .ref (ga K "Word")) (by rfl) T.gWord rfl) (pa_cons (pv 3) (pa_cons (pv 5) pa_nil)))) pa_nil))))
      (pss_one (ps_ret (pk (k_Readings T) hr T.gReadings (pa_cons (pv 4) (pa_cons (pm (mf_Table_answers_of T) hr (pv 4) (pa_cons (pcm (c_Board_of T) hr (pe_glob (v := .ref (ga K "Board")) (by rfl) T.gBoard rfl) (pa_cons (pv 3) (pa_cons (pv 1) pa_nil))) pa_nil)) pa_nil)))))), ?_⟩
    have hlen : rows.length = ras.length := paired_len hrs
    refine ⟨_, rfl, d, B, rfl, hB, ok, htb, fun fa H1 (s1 : SameX K H H1) hf => ?_⟩
    have hrw1 := s1.L _ _ hrw nl_refs
    have hrs1 : RowsAt H1 ras rows := paired_imp (fun _ _ z => s1.L _ _ z nl_dK) hrs
    refine ⟨rfl, _, rfl, _, rfl, rw, rfl, ⟨_, SqL.of hrw1⟩, fun D hD => ?_⟩
    refine lcm1 walk_list (fun D x y H' => ∃ a, y = .ref a ∧ WordD K H' D a fa (told (bareFr B).top (rwOf H1 x))) hD (fun H' s => SqL.of (s _ _ hrw1)) (fun x y H H' s ⟨a, e, dx, L, n1, n2, w1, w2⟩ => ⟨a, e, dx, L, n1, n2, s _ _ n1 w1, s _ _ n2 w2⟩) (by rw [List.length_map]; omega) (fun _ => rfl) (fun x hx H2 acc s2 hd2 Q2 q2 => ?_) (fun ys H2 s2 hd2 pr => ?_)
    · obtain ⟨ra, hra, rfl⟩ := List.mem_map.mp hx
      obtain ⟨r, hr2, her⟩ := paired_rm hrs1 hra
      refine ⟨rfl, _, rfl, _, rfl, fa, ra, bareFr B, r, rfl, hf.mono (Same.L s2), s2 _ _ her, rok r hr2, fun x H3 (s3 : Same H2 H3) ⟨dx, L, w1, w2⟩ => q2 _ H3 s3 ⟨x, rfl, dx, L, ne_obj w1 (s3 _ _ hd2) (fun z => by cases z), ne_obj w2 (s3 _ _ hd2) (fun z => by cases z), w1, ?_⟩⟩
      rw [rwOf_eq her]
      exact w2
    · obtain ⟨ws, e, hw⟩ := words_of hrs1 pr
      subst e
      have hwl : ws.length = rows.length := by rw [paired_len hw, List.length_map]
      refine ⟨fa, D, bareFr B, ws, rows.map (told (bareFr B).top), rfl, hf.mono (Same.L s2), hd2, hw, by omega, fun ta H3 (s3 : Same H2 H3) ht => ?_⟩
      have t13 := s2.trans s3
      have tk := tabOk_of (bare_ok ok) pok rok (by omega)
      refine ⟨_, rfl, ?_⟩
      have ht0 := ht
      obtain ⟨dxt, W, ws2, hta, _⟩ := ht
      refine ⟨_, rfl, ta, dxt, _, rfl, hta, rfl, rfl, _, rfl, _, rfl, fa, bl, bareFr B, bas, bss, rfl, hf.mono (Same.L t13), t13 _ _ (s1.L _ _ hbl nl_refs), paired_imp (fun _ _ z => t13 _ _ (s1.L _ _ z nl_strs)) hbs, pok, fun ba H4 (s4 : Same H3 H4) hb => ?_⟩
      have t14 := t13.trans s4
      refine ⟨ta, fa, ba, bareFr B, blkFor bss, rsOf (bareFr B) rows, rfl, hf.mono (Same.L t14), hb, ht0.mono (Same.L s4), by have := tk.few; omega, tk.bp, fun l as H5 (s5 : Same H4 H5) hl has => ?_⟩
      have t15 := t14.trans s5
      refine fun x dx hx hdx hne => ?_
      have s6 : Same H5 (upd (upd H5 dx (.own x)) x (.ins (ga K "Readings") dx [])) := fun b o e => by rw [upd_ne (ne_of_none e hx), upd_ne (ne_of_none e hdx)]; exact e
      exact ⟨x, ta, fa, dx, l, bareFr B, blkFor bss, rsOf (bareFr B) rows, as, rfl, upd_same, hf.mono (Same.L (t15.trans s6)), ht0.mono (Same.L (s4.trans (s5.trans s6))), s6 _ _ hl, paired_imp (fun _ _ z => s6 _ _ z) has, tk, fun H7 s7 hR => ⟨rfl, q x H7 (s1.trans ⟨fun b o e n => s7 b o (ne_of_none (t15 _ _ e) hx) (s6 _ _ (t15 _ _ e)), fun tb => tb.ext fun b o e => s7 b o (ne_of_none (t15 _ _ e) hx) (s6 _ _ (t15 _ _ e))⟩) hR⟩⟩
end
end Sj
set_option Elab.async false
set_option linter.all false
set_option maxRecDepth 100000
set_option maxHeartbeats 4000000
/-! SjLaw6: what stays but for the pen; tags, mixed. -/
namespace Sj
open PySem PySem.Spec PyProof.Rows L2 He
theorem SameP.refl (p : Addr) (H : Hp) : SameP p H H := fun _ _ _ h => h
theorem SameP.of {p : Addr} {H H' : Hp} (s : Same H H') : SameP p H H' := fun b o _ h => s b o h
theorem SameP.trans {p : Addr} {H H1 H2 : Hp} (a : SameP p H H1) (b : SameP p H1 H2) : SameP p H H2 := fun c o n h => b c o n (a c o n h)
theorem SameP.mut {p l : Addr} {o : HO} {H H' : Hp} (a : SameP p H H') (h : H l = none) : SameP p H (upd H' l o) := fun c u n e => by rw [upd_ne (ne_of_none e h)]; exact a c u n e
theorem PenAt.ext {p c : Addr} {b : Nat} {H H' : Hp} (h : PenAt H p c b) (s : Same H H') : PenAt H' p c b := by
  obtain ⟨cells, i, j, h1, h2, h3⟩ := h
  exact ⟨cells, i, j, s _ _ h1, s _ _ h2, h3⟩
theorem PenAt.le {p c : Addr} {b b' : Nat} {H : Hp} (h : PenAt H p c b) (le : b ≤ b') : PenAt H p c b' := by
  obtain ⟨cells, i, j, h1, h2, h3, h4, h5, h6⟩ := h
  exact ⟨cells, i, j, h1, h2, h3, h4, by omega, h6⟩
theorem PenAt.put {p c l : Addr} {b : Nat} {o : HO} {H : Hp} (h : PenAt H p c b) (hn : l ≠ p ∧ l ≠ c) : PenAt (upd H l o) p c b := by
  obtain ⟨cells, i, j, h1, h2, h3⟩ := h
  exact ⟨cells, i, j, (upd_ne hn.1.symm).trans h1, (upd_ne hn.2.symm).trans h2, h3⟩
theorem PenAt.new {p c l : Addr} {b : Nat} {H : Hp} (h : PenAt H p c b) (hl : H l = none) : l ≠ p ∧ l ≠ c := by
  obtain ⟨cells, i, j, h1, h2, h3⟩ := h
  exact ⟨(ne_of_none h1 hl).symm, (ne_of_none h2 hl).symm⟩
/-- all but the pen and the tables -/
structure SameQ (K : Frg) (p : Addr) (H H' : Hp) : Prop where
  keep : ∀ b o, b ≠ p → H b = some o → (∀ ps, o ≠ .tbl ps) → H' b = some o
  tab : LamX.TabS H (tF K) lamQ → LamX.TabS H' (tF K) lamQ
theorem SameQ.refl (K : Frg) (p : Addr) (H : Hp) : SameQ K p H H := ⟨fun _ _ _ h _ => h, fun h => h⟩
theorem SameQ.trans {K : Frg} {p : Addr} {H H1 H2 : Hp} (a : SameQ K p H H1) (b : SameQ K p H1 H2) : SameQ K p H H2 := ⟨fun c o n h t => b.keep c o n (a.keep c o n h t) t, fun h => b.tab (a.tab h)⟩
theorem SameX.Q {K : Frg} {p : Addr} {H H' : Hp} (s : SameX K H H') : SameQ K p H H' := ⟨fun b o _ h t => s.keep b o h t, s.tab⟩
theorem Same.Q {K : Frg} {p : Addr} {H H' : Hp} (s : Same H H') : SameQ K p H H' := (Same.X s).Q
theorem SameP.tab {p c : Addr} {b : Nat} {H H' : Hp} (hp : PenAt H p c b) (s : SameP p H H') {P : Addr} {q : Str} (t : LamX.TabS H P q) : LamX.TabS H' P q := by
  obtain ⟨cells, i, j, h1, _⟩ := hp
  obtain ⟨ps, e1, e2, e3⟩ := t
  refine ⟨ps, s _ _ (ne_obj e1 h1 fun z => by cases z) e1, e2, fun pos cv hc => ?_⟩
  obtain ⟨c2, e4, e5⟩ := e3 pos cv hc
  exact ⟨c2, e4, s _ _ (ne_obj e5 h1 fun z => by cases z) e5⟩
theorem SameP.Q {K : Frg} {p c : Addr} {b : Nat} {H H' : Hp} (hp : PenAt H p c b) (s : SameP p H H') : SameQ K p H H' := ⟨fun b o n h _ => s b o n h, fun t => s.tab hp t⟩
theorem SameQ.L {K : Frg} {p c : Addr} {b : Nat} {H H' : Hp} (hp : PenAt H p c b) (s : SameQ K p H H') : SameL H H' := fun b o h n => by
  obtain ⟨cells, i, j, h1, _⟩ := hp
  exact s.keep b o (fun e => n (.inr ⟨c, i, j, by rw [e, h1] at h; exact (Option.some.inj h).symm⟩)) h fun ps z => n (.inl ⟨ps, z⟩)
theorem SameP.L {p c : Addr} {b : Nat} {H H' : Hp} (hp : PenAt H p c b) (s : SameP p H H') : SameL H H' := fun b o h n => by
  obtain ⟨cells, i, j, h1, _⟩ := hp
  exact s b o (fun e => n (.inr ⟨c, i, j, by rw [e, h1] at h; exact (Option.some.inj h).symm⟩)) h
theorem PenAt.X {K : Frg} {p c : Addr} {b : Nat} {H H' : Hp} (h : PenAt H p c b) (s : SameX K H H') : PenAt H' p c b := by
  obtain ⟨cells, i, j, h1, h2, h3⟩ := h
  exact ⟨cells, i, j, s.keep _ _ h1 (fun _ z => by cases z), s.keep _ _ h2 (fun _ z => by cases z), h3⟩
theorem upd_twice {H : Hp} {l : Addr} {o o' : HO} : upd (upd H l o) l o' = upd H l o' := by
  funext a
  by_cases z : a = l
  · rw [z, upd_same, upd_same]
  · rw [upd_ne z, upd_ne z, upd_ne z]
theorem vN_len (xs : List Nat) : (vN xs).length = xs.length := List.length_map _
theorem seq_nat {v n : Nat} (h : v < n) : seqIndex? (v : Nat) n = some v := by
  have := PySem.seqIndex_of (k := (v : Int)) (n := n) (by omega) (by omega)
  rw [Int.toNat_natCast] at this
  exact this
theorem pop_perm {α : Type} : ∀ {xs : List α} {v : Nat} {y : α}, xs[v]? = some y → xs.Perm (y :: xs.eraseIdx v)
  | [], v, y, h => by simp at h
  | x :: r, 0, y, h => by
    have : x = y := by simpa using h
    rw [this]
    exact List.Perm.refl _
  | x :: r, v + 1, y, h => by
    have h : r[v]? = some y := by simpa using h
    exact ((pop_perm h).cons x).trans (List.Perm.swap y x _)
section
variable {K : Frg}
/-- xs.pop(draw(pen, len(xs))) -/
abbrev tPopDraw (K : Frg) (i j : Nat) : TE := tBM K "list" rPopAt (tVar j) (tCons (tR sp_law_draw (tCons (tVar i) (tCons (tCB (fun xs H Q => ∃ p ys, xs = [.ref p] ∧ (SqL K H p ys ∨ SqT K H p ys) ∧ Q (.int ys.length) H) (tCons (tVar j) tNil)) tNil))) tNil)
theorem te_popdraw {σ : L2.St} {H : Hp} {p c l b : Nat} {xs : List V} {i j : Nat} {Q : VK} (hl : H l = some (.lst xs)) (hne : l ≠ p) (hσ : σ[j]? = some (some (.ref l))) (hσ0 : σ[i]? = some (some (.ref p))) (hp : PenAt H p c b) (h0 : 0 < xs.length) (h1 : xs.length < 1000) (hb : b < 1000000)
    (q : ∀ v y H', SameP p H H' → PenAt H' p c (b + 1) → H' l = some (.lst xs) → xs[v]? = some y → Q y (upd H' l (.lst (xs.eraseIdx v)))) : tPopDraw K i j σ H Q := by
  refine ⟨.ref l, hσ, .inl ⟨rfl, _, SqL.of hl⟩, .ref p, hσ0, .ref l, hσ, l, xs, rfl, .inl (SqL.of hl), p, c, xs.length, b, rfl, hp, h0, h1, hb, fun v H1 s1 hp1 hv => ?_⟩
  have hl1 := s1 _ _ hne hl
  obtain ⟨y, hy⟩ : ∃ y, xs[v]? = some y := ⟨_, List.getElem?_eq_getElem hv⟩
  exact ⟨l, xs, _, v, y, rfl, rfl, hl1, by omega, by omega, seq_nat hv, hy, q v y H1 s1 hp1 hl1 hy⟩
/-- [xs.pop(draw(pen, len(xs))) for t in range(m)] -/
theorem lc_popdraw {σ : L2.St} {H1 : Hp} {D p c l b m t i j : Nat} {xs : List V} {Qd : Hp → Prop} (hl : H1 l = some (.lst xs)) (hne : l ≠ p ∧ l ≠ c) (hp : PenAt H1 p c b) (hD : H1 D = none) (hm : m ≤ xs.length) (h1 : xs.length < 1000) (hb : b + m < 1000000)
    (hw : ∀ x, wipe ((wipe σ [t]).set t (some x)) [t] = wipe σ [t]) (hσ : ∀ x, ((wipe σ [t]).set t (some x))[j]? = some (some (.ref l))) (hσ0 : ∀ x, ((wipe σ [t]).set t (some x))[i]? = some (some (.ref p)))
    (k : ∀ ys zs H2, (∀ a o, a ≠ p → a ≠ l → H1 a = some o → H2 a = some o) → PenAt H2 p c (b + m) → H2 D = some (.lst ys) → ys.length = m → (ys ++ zs).Perm xs → Qd H2) : LcG (Itr 0 m) (gName t) tYes (tPopDraw K i j) [t] σ H1 D Qd := by
  have hDl : D ≠ l := (ne_of_none hl hD).symm
  have hDp := hp.new hD
  refine lc_it walk_range (fun n H => (∀ a o, a ≠ p → a ≠ l → H1 a = some o → H a = some o) ∧ PenAt H p c (b + n) ∧ ∃ ys zs, H D = some (.lst ys) ∧ H l = some (.lst zs) ∧ ys.length = n ∧ (ys ++ zs).Perm xs) ?_ (fun _ _ _ _ => trivial) ?_ ?_
  · exact ⟨fun a o _ _ e => (upd_ne (ne_of_none e hD)).trans e, hp.put hDp, [], xs, upd_same, (upd_ne hDl.symm).trans hl, rfl, List.Perm.refl _⟩
  · rintro n x H H' hn ⟨s, hp, ys, zs, hd, hz, hlen, pr⟩ ⟨rfl, rfl⟩
    have hzl : ys.length + zs.length = xs.length := by rw [← pr.length_eq, List.length_append]
    refine ⟨hw _, ?_⟩
    dsimp only [tYes]
    rw [if_pos rfl]
    refine (te_popdraw hz hne.1 (hσ _) (hσ0 _) hp (by omega) (by omega) (by omega) fun v y H3 s3 hp3 hz3 hy => ⟨ys, (upd_ne hDl).trans (s3 _ _ hDp.1 hd), small1000 (by omega), ?_⟩)
    have e1 : (upd (upd H3 l (.lst (zs.eraseIdx v))) D (.lst (ys ++ [y]))) l = some (.lst (zs.eraseIdx v)) := (upd_ne hDl.symm).trans upd_same
    refine ⟨fun a o n1 n2 e => ?_, ((hp3.put hne).put hDp).le (by omega), _, _, upd_same, e1, by rw [List.length_append, hlen]; rfl, ?_⟩
    · rw [upd_ne (ne_of_none e hD), upd_ne n2]
      exact s3 _ _ n1 (s a o n1 n2 e)
    · rw [List.append_assoc]
      exact ((pop_perm hy).symm.append_left ys).trans pr
  · rintro H ⟨s, hp, ys, zs, hd, hz, hlen, pr⟩
    exact k ys zs H s hp hd hlen pr
end
section
variable {X : Cx} {K : Frg} {o e : Expr} {es : List Expr} {to : TE} {t : TA} {name : Str} {apos cpos : Pos} {T id : String} {r : V → List V → Hp → VK → Prop}
/-- a method of a built-in, K told -/
theorem pbm (K : Frg) (pa : PlainAttrs T) (slot : Slot T name id) (hty : typeOf (.builtin id) = pure (.type "method_descriptor")) (hm : MtR X id r) (ho : PE X o to) (ha : PA X (e :: es) t)
    (hbase : attributeBase o name X.env (eval o X.env) = eval o X.env := by rfl)
    (hfew : ((backTo cpos (starEach (e :: es) X.env)).all (fun x => !x.1) && (backToKw cpos (keywordEach [] X.env)).all (fun x => x.1.isSome)
      && decide ((e :: es).length + ([] : List Keyword).length + (if ([] : List Keyword).isEmpty then 0 else 1) < 30)) = true := by rfl)
    (hline : (apos.endLine == cpos.line) = true := by rfl) (hs : starEach (e :: es) X.env = (false, eval e X.env) :: starEach es X.env := by rfl) (hplain : (backTo cpos (starEach es X.env)).any (·.1) = false := by rfl) (hK : X.K = K := by rfl) :
    PE X (.Call (.Attribute o name apos) (e :: es) [] cpos) (tBM K T r to t) := by
  subst hK
  exact pe_bm pa slot hty hm ho ha hbase hfew hline hs hplain
end
section
variable {P : Program} {w : World} {K : Frg} {mg : Str → Option Value} {base h : Heap}
def pool15 : List Str := ["a", "frame", "b", "rest", "self", "c", "zzzzzzzz", "word", "d", "e", "reads", "leg", "x", "grounds", "q"]
def pool16 : List Str := pool15 ++ [("powers" : Str)]
theorem pool_nd : pool16.Nodup := by decide +kernel
theorem pool_ok : ∀ t ∈ pool16, okName t = true := by decide +kernel
def sp_law_tags : Sp := fun vs H Q _ => ∃ (p c m b : Nat), vs = [.ref p, .int (m : Nat)] ∧ PenAt H p c b ∧ m ≤ 16 ∧ b < 900000 ∧ ∀ D ts H', SameP p H H' → PenAt H' p c (b + m) → H D = none → H' D = some (.lst (vS ts)) → ts.length = m → ts.Nodup → (∀ t ∈ ts, okName t = true) → Q (.ref D) H'
theorem ok_law_tags (T : Txt K mg h) : GF P w K mg base "_law_tags" 3 sp_law_tags := by
  refine ⟨_, T.g_law_tags, keepX T.d_law_tags, mkFn T.d_law_tags sc_law_tags rfl (fun _ _ _ _ _ _ us hl => match us, hl with | [_, _], _ => rfl) (fun vs H Q E h => ?_) (fun cdv A outer s H vs Q E hr h => ?_)⟩
  · obtain ⟨p, c, m, b, rfl, _⟩ := h
    rfl
  · obtain ⟨p, c, m, b, rfl, hp, hm, hb, q⟩ := h
    refine ⟨_, pss_cons (pset 2 sc_law_tags.nd (pe_lst (pa_cons pe_str (pa_cons pe_str (pa_cons pe_str (pa_cons pe_str (pa_cons pe_str (pa_cons pe_str (pa_cons pe_str (pa_cons pe_str (pa_cons pe_str (pa_cons pe_str (pa_cons pe_str (pa_cons pe_str (pa_cons pe_str (pa_cons pe_str (pa_cons pe_str pa_nil)))))))))))))))))
      (pss_cons (ps_expr (pe_bm PySem.F.plainAttrs_list PySem.F.slot_list_append PySem.F.type_list_append mt_append (pv 2) (pa_cons pe_str pa_nil)))
      (pss_one (ps_ret (plc 3 sc_law_tags.nd (pi_range1 (by rfl) T.b_range (pa_cons (pv 1) pa_nil)) (fun _ _ _ _ _ => pbm K PySem.F.plainAttrs_list PySem.F.slot_list_pop PySem.F.type_list_pop mt_popAt (pv 2) (pa_cons (pc (ok_law_draw T) hr (pa_cons (pv 0) (pa_cons (plen T (pv 2)) pa_nil))) pa_nil)))))), ?_⟩
    refine ⟨by rw [sizeLine_eq]; exact (by decide : 15 ≤ 16777216), fun l hl => ?_⟩
    refine ⟨_, rfl, .inl ⟨rfl, _, SqL.of upd_same⟩, l, _, _, rfl, rfl, upd_same, by rw [sizeLine_eq]; exact (by decide : 15 < 16777216), ?_⟩
    have hn := hp.new hl
    rw [upd_twice]
    refine ⟨_, rfl, _, rfl, by omega, by omega, fun D hD => ?_⟩
    refine lc_popdraw (m := m) (xs := vS pool16) upd_same hn (hp.put hn) hD hm (by decide) (by omega) (fun _ => rfl) (fun _ => rfl) (fun _ => rfl) fun ys zs H2 s2 hp2 hd2 hlen pr => ?_
    obtain ⟨ts, rfl⟩ : ∃ ts, ys = vS ts := by
      have : ∀ y ∈ ys, ∃ t, y = V.str t := fun y hy => by
        obtain ⟨t, _, e⟩ := List.mem_map.mp (pr.mem_iff.mp (List.mem_append_left zs hy))
        exact ⟨t, e.symm⟩
      clear hlen pr hd2
      induction ys with
      | nil => exact ⟨[], rfl⟩
      | cons y r ih =>
        obtain ⟨t, e⟩ := this y List.mem_cons_self
        obtain ⟨ts, e2⟩ := ih fun z hz => this z (List.mem_cons_of_mem _ hz)
        exact ⟨t :: ts, by rw [e, e2]; rfl⟩
    have pr2 := pr.map strOf
    rw [List.map_append, vS_str, vS_str] at pr2
    refine q D ts H2 (fun a o n e => s2 a o n (ne_of_none e hl) ((upd_ne (ne_of_none e hl)).trans e)) hp2 ?_ hd2 (by rw [← hlen, vS_len]) (List.nodup_append.mp (pr2.nodup_iff.mpr pool_nd)).1 fun t ht => pool_ok t (pr2.mem_iff.mp (List.mem_append_left _ ht))
    exact (same_new (o := .lst (vS pool16)) hl).free hD
def sp_law_mixed : Sp := fun vs H Q _ => ∃ (p c m b : Nat), vs = [.ref p, .int (m : Nat)] ∧ PenAt H p c b ∧ m ≤ 50 ∧ b < 900000 ∧ ∀ D ks H', SameP p H H' → PenAt H' p c (b + m) → H D = none → H' D = some (.lst (vN ks)) → ks.Perm (List.range m) → Q (.ref D) H'
theorem ok_law_mixed (T : Txt K mg h) : GF P w K mg base "_law_mixed" 3 sp_law_mixed := by
  refine ⟨_, T.g_law_mixed, keepX T.d_law_mixed, mkFn T.d_law_mixed sc_law_mixed rfl (fun _ _ _ _ _ _ us hl => match us, hl with | [_, _], _ => rfl) (fun vs H Q E h => ?_) (fun cdv A outer s H vs Q E hr h => ?_)⟩
  · obtain ⟨p, c, m, b, rfl, _⟩ := h
    rfl
  · obtain ⟨p, c, m, b, rfl, hp, hm, hb, q⟩ := h
    refine ⟨_, pss_cons (pset 2 sc_law_mixed.nd (pe_listRg rfl (by rfl) T.b_list (prg_1 (by rfl) T.b_range (pv 1))))
      (pss_one (ps_ret (plc 3 sc_law_mixed.nd (pi_range1 (by rfl) T.b_range (pa_cons (pv 1) pa_nil)) (fun _ _ _ _ _ => pbm K PySem.F.plainAttrs_list PySem.F.slot_list_pop PySem.F.type_list_pop mt_popAt (pv 2) (pa_cons (pc (ok_law_draw T) hr (pa_cons (pv 0) (pa_cons (plen T (pv 2)) pa_nil))) pa_nil))))), ?_⟩
    have erg : rgV 0 (m : Nat) = vN (List.range m) := by
      unfold rgV vN
      rw [show ((m : Nat) : Int) - 0 = (m : Nat) by omega, Int.toNat_natCast]
      exact List.map_congr_left fun i _ => by rw [Int.zero_add]
    refine ⟨_, rfl, _, rfl, RgOk.of_le (by omega) (by omega) (by omega) (by omega), fun l hl => ?_⟩
    rw [erg]
    have hn := hp.new hl
    refine ⟨_, rfl, _, rfl, by omega, by omega, fun D hD => ?_⟩
    refine lc_popdraw (m := m) upd_same hn (hp.put hn) hD (by rw [vN_len, List.length_range]; omega) (by rw [vN_len, List.length_range]; omega) (by omega) (fun _ => rfl) (fun _ => rfl) (fun _ => rfl) fun ys zs H2 s2 hp2 hd2 hlen pr => ?_
    have nz : zs = [] := by
      have := pr.length_eq
      rw [List.length_append, hlen, vN_len, List.length_range] at this
      exact List.length_eq_zero_iff.mp (by omega)
    subst nz
    rw [List.append_nil] at pr
    let g : V → Nat := fun v => match v with | .int i => i.toNat | _ => 0
    have pr2 : (ys.map g).Perm (List.range m) := by
      have := pr.map g
      have e : (vN (List.range m)).map g = List.range m := by
        rw [vN, List.map_map]
        exact (List.map_congr_left fun i _ => Int.toNat_natCast i).trans (List.map_id _)
      rw [e] at this
      exact this
    have ey : ys = vN (ys.map g) := by
      rw [vN, List.map_map]
      refine ((List.map_congr_left fun y hy => ?_).trans (List.map_id _)).symm
      obtain ⟨i, _, e⟩ := List.mem_map.mp (pr.mem_iff.mp hy)
      rw [← e]
      show V.int (((i : Nat) : Int).toNat : Nat) = V.int (i : Nat)
      rw [Int.toNat_natCast]
    rw [ey] at hd2
    refine q D _ H2 (fun a o n e => s2 a o n (ne_of_none e hl) ((upd_ne (ne_of_none e hl)).trans e)) hp2 ?_ hd2 pr2
    exact (same_new (o := .lst (vN (List.range m))) hl).free hD
end
end Sj
set_option Elab.async false
set_option linter.all false
set_option maxRecDepth 100000
set_option maxHeartbeats 4000000
/-! SjLaw7: _law_bare. -/
namespace Sj
open PySem PySem.Spec PyProof.Rows L2 He
theorem SameP.free {p l : Addr} {H H' : Hp} (s : SameP p H H') (hl : H' l = none) (hp : l ≠ p) : H l = none := by
  cases e : H l with
  | none => rfl
  | some o => rw [s _ _ hp e] at hl; cases hl
abbrev kS (z : Str) : Key := Sum.inr z
theorem kTop_dr : kS "top" ≠ kS "drivers" := by decide +kernel
theorem kTop_ls : kS "top" ≠ kS "listeners" := by decide +kernel
theorem kTop_rl : kS "top" ≠ kS "rails" := by decide +kernel
theorem kDr_ls : kS "drivers" ≠ kS "listeners" := by decide +kernel
theorem kDr_rl : kS "drivers" ≠ kS "rails" := by decide +kernel
theorem kLs_rl : kS "listeners" ≠ kS "rails" := by decide +kernel
/-- the bare frame while it grows -/
structure Grow (H0 H : Hp) (p c d a1 a2 dt : Addr) (b : Nat) (top : Int) (ts ds ls : List Str) : Prop where
  s : SameP p H0 H
  pen : PenAt H p c b
  dd : ∃ kvs, H d = some (.dK kvs) ∧ kvs.length ≤ 5 ∧ valV kvs (.inr "top") = some (.int top) ∧ valV kvs (.inr "drivers") = some (.ref a1) ∧ valV kvs (.inr "listeners") = some (.ref a2)
  h1 : H a1 = some (.lst (vS ds))
  h2 : H a2 = some (.lst (vS ls))
  ht : H dt = some (.lst (vS ts))
  n12 : a1 ≠ a2
  n1 : a1 ≠ dt ∧ a1 ≠ p ∧ a1 ≠ c ∧ H0 a1 = none
  n2 : a2 ≠ dt ∧ a2 ≠ p ∧ a2 ≠ c ∧ H0 a2 = none
  nd : H0 d = none
  np : dt ≠ p ∧ d ≠ p ∧ d ≠ c
theorem Grow.p {H0 H H' : Hp} {p c d a1 a2 dt : Addr} {b b' : Nat} {top : Int} {ts ds ls : List Str} (g : Grow H0 H p c d a1 a2 dt b top ts ds ls) (s : SameP p H H') (hp : PenAt H' p c b') : Grow H0 H' p c d a1 a2 dt b' top ts ds ls :=
  ⟨g.s.trans s, hp, let ⟨kvs, e, r⟩ := g.dd; ⟨kvs, s _ _ g.np.2.1 e, r⟩, s _ _ g.n1.2.1 g.h1, s _ _ g.n2.2.1 g.h2, s _ _ g.np.1 g.ht, g.n12, g.n1, g.n2, g.nd, g.np⟩
theorem Grow.same {H0 H H' : Hp} {p c d a1 a2 dt : Addr} {b : Nat} {top : Int} {ts ds ls : List Str} (g : Grow H0 H p c d a1 a2 dt b top ts ds ls) (s : Same H H') : Grow H0 H' p c d a1 a2 dt b top ts ds ls := g.p (SameP.of s) (g.pen.ext s)
theorem Grow.get {H0 H : Hp} {p c d a1 a2 dt : Addr} {b : Nat} {top : Int} {ts ds ls : List Str} (g : Grow H0 H p c d a1 a2 dt b top ts ds ls) :
    DGet H d (.str "top") (some (.int top)) ∧ DGet H d (.str "drivers") (some (.ref a1)) ∧ DGet H d (.str "listeners") (some (.ref a2)) := by
  obtain ⟨kvs, e, _, e1, e2, e3⟩ := g.dd
  have k1 := DGet.k (k := .inr "top") e
  have k2 := DGet.k (k := .inr "drivers") e
  have k3 := DGet.k (k := .inr "listeners") e
  rw [e1] at k1
  rw [e2] at k2
  rw [e3] at k3
  exact ⟨k1, k2, k3⟩
theorem Grow.add1 {H0 H : Hp} {p c d a1 a2 dt : Addr} {b : Nat} {top : Int} {ts ds ls : List Str} (g : Grow H0 H p c d a1 a2 dt b top ts ds ls) (xs : List Str) : Grow H0 (upd H a1 (.lst (vS xs))) p c d a1 a2 dt b top ts xs ls := by
  obtain ⟨kvs, e, r⟩ := g.dd
  exact ⟨g.s.mut g.n1.2.2.2, g.pen.put ⟨g.n1.2.1, g.n1.2.2.1⟩, ⟨kvs, (upd_ne (ne_obj e g.h1 fun z => by cases z)).trans e, r⟩, upd_same, (upd_ne g.n12.symm).trans g.h2, (upd_ne g.n1.1.symm).trans g.ht, g.n12, g.n1, g.n2, g.nd, g.np⟩
theorem Grow.add2 {H0 H : Hp} {p c d a1 a2 dt : Addr} {b : Nat} {top : Int} {ts ds ls : List Str} (g : Grow H0 H p c d a1 a2 dt b top ts ds ls) (xs : List Str) : Grow H0 (upd H a2 (.lst (vS xs))) p c d a1 a2 dt b top ts ds xs := by
  obtain ⟨kvs, e, r⟩ := g.dd
  exact ⟨g.s.mut g.n2.2.2.2, g.pen.put ⟨g.n2.2.1, g.n2.2.2.1⟩, ⟨kvs, (upd_ne (ne_obj e g.h2 fun z => by cases z)).trans e, r⟩, (upd_ne g.n12).trans g.h1, upd_same, (upd_ne g.n2.1.symm).trans g.ht, g.n12, g.n1, g.n2, g.nd, g.np⟩
section
variable {P : Program} {w : World} {K : Frg} {mg : Str → Option Value} {base h : Heap}
def sp_law_bare : Sp := fun vs H Q _ => ∃ (p c b : Nat), vs = [.ref p, .int 9] ∧ PenAt H p c b ∧ b < 800000 ∧ ∀ d B H', SameP p H H' → PenAt H' p c (b + 100) → BareAt H' d B → BareOk B → Q (.ref d) H'
def keys4 : List Str := ["drivers", "drivers", "drivers", "listeners"]
theorem keys4_at {v : Nat} (hv : v < 4) : ∃ k, keys4[v]? = some k ∧ (k = "drivers" ∨ k = "listeners") := by
  match v, hv with
  | 0, _ => exact ⟨_, rfl, .inl rfl⟩
  | 1, _ => exact ⟨_, rfl, .inl rfl⟩
  | 2, _ => exact ⟨_, rfl, .inl rfl⟩
  | 3, _ => exact ⟨_, rfl, .inr rfl⟩
theorem ok_law_bare (T : Txt K mg h) : GF P w K mg base "_law_bare" 4 sp_law_bare := by
  refine ⟨_, T.g_law_bare, keepX T.d_law_bare, mkFn T.d_law_bare sc_law_bare rfl (fun _ _ _ _ _ _ us hl => match us, hl with | [_, _], _ => rfl) (fun vs H Q E h => ?_) (fun cdv A outer s H vs Q E hr h => ?_)⟩
  · obtain ⟨p, c, b, rfl, _⟩ := h
    rfl
  · obtain ⟨p, c, b, rfl, hp, hb, q⟩ := h
    refine ⟨_, pss_cons (pset 2 sc_law_bare.nd (pc (ok_law_tags T) hr (pa_cons (pv 0) (pa_cons (pc (ok_law_draw T) hr (pa_cons (pv 0) (pa_cons (pe_op op_add (pv 1) pe_int) pa_nil))) pa_nil))))
      (pss_cons (pset 3 sc_law_bare.nd (pe_disp (pps_cons pe_str (pe_op op_add pe_int (pc (ok_law_draw T) hr (pa_cons (pv 0) (pa_cons pe_int pa_nil)))) (pps_cons pe_str (pe_lst pa_nil) (pps_cons pe_str (pe_lst pa_nil) pps_nil))) (by rfl) (by rfl) (fun z => by cases z) (by decide)))
      (pss_cons (pfor 4 sc_law_bare.nd (pi_list (pv 2)) (pss_one (ps_expr (pbm K PySem.F.plainAttrs_list PySem.F.slot_list_append PySem.F.type_list_append mt_append (pdg (u1 hr) (pv 3) (pe_ix ix_list (pe_lst (pa_cons pe_str (pa_cons pe_str (pa_cons pe_str (pa_cons pe_str pa_nil))))) (pc (ok_law_draw T) hr (pa_cons (pv 0) (pa_cons pe_int pa_nil))) (fun _ _ => rfl))) (pa_cons (pv 4) pa_nil)))))
      (pss_cons (ps_dput (u1 hr) (pv 3) pe_str (psrt T (pdg (u1 hr) (pv 3) pe_str)) (by rfl))
      (pss_cons (ps_dput (u1 hr) (pv 3) pe_str (psrt T (pdg (u1 hr) (pv 3) pe_str)) (by rfl))
      (pss_cons (ps_dput (u1 hr) (pv 3) pe_str (pe_ix ix_list (pe_lst (pa_cons (pe_lst pa_nil) (pa_cons (pe_lst pa_nil) (pa_cons (pe_lst (pa_cons pe_str pa_nil)) (pa_cons (pe_lst (pa_cons pe_str pa_nil)) (pa_cons (pe_lst (pa_cons pe_str (pa_cons pe_str pa_nil))) pa_nil)))))) (pc (ok_law_draw T) hr (pa_cons (pv 0) (pa_cons pe_int pa_nil))) (fun _ _ => rfl)) (by rfl))
      (pss_one (ps_ret (pv 3)))))))), ?_⟩
    refine ⟨_, rfl, _, rfl, _, rfl, _, _, rfl, rfl, p, c, 10, b, rfl, hp, by decide, by decide, by omega, fun v H1 s1 hp1 hv => ?_⟩
    refine ⟨p, c, v, b + 1, rfl, hp1, by omega, by omega, fun dt ts H2 s2 hp2 hdt0 hdt htl htn hto => ?_⟩
    have s2 := s1.trans s2
    have hdtp := hp1.new hdt0
    refine fun d hd => ?_
    have hdn := hp2.new hd
    have hp3 : PenAt (upd H2 d (.dK [])) p c (b + 20) := (hp2.put hdn).le (by omega)
    have s3 : Same H2 (upd H2 d (.dK [])) := same_new hd
    refine ⟨_, rfl, p, c, 3, b + 20, rfl, hp3, by decide, by decide, by omega, fun v1 H4 s4 hp4 hv1 => ⟨_, _, rfl, rfl, ?_⟩⟩
    have hd4 : H4 d = some (.dK []) := s4 _ _ hdn.1 upd_same
    have hdt4 : H4 dt = some (.lst (vS ts)) := s4 _ _ hdtp.1 (s3 _ _ hdt)
    have s24 : SameP p H H4 := (s2.trans (SameP.of s3)).trans s4
    refine ⟨Nat.zero_le _, fun a1 ha1 => ⟨Nat.zero_le _, fun a2 ha2 => ?_⟩⟩
    have n1 := hp4.new ha1
    have s5 := same_new (o := .lst []) ha1
    have n2 := (hp4.ext s5).new ha2
    have s6 := s5.trans (same_new (o := .lst []) ha2)
    have n12 : a1 ≠ a2 := ne_of_none upd_same ha2
    have hd0 : H d = none := s2.free hd hdn.1
    refine ⟨s6 _ _ hd4, [(.inr "top", .int (1 + (v1 : Nat))), (.inr "drivers", .ref a1), (.inr "listeners", .ref a2)], rfl, by show 3 ≤ 15; decide, ?_⟩
    have g0 : Grow H (upd (upd (upd H4 a1 (.lst [])) a2 (.lst [])) d (.dK (mergeK [] [(.inr "top", .int (1 + (v1 : Nat))), (.inr "drivers", .ref a1), (.inr "listeners", .ref a2)]))) p c d a1 a2 dt (b + 21) (1 + (v1 : Nat)) ts [] [] := by
      have hda1 : a1 ≠ d := (ne_of_none hd4 ha1).symm
      have hda2 : a2 ≠ d := (ne_of_none (s5 _ _ hd4) ha2).symm
      refine ⟨?_, (hp4.ext s6).put hdn, ⟨_, upd_same, ?_⟩, (upd_ne hda1).trans ((upd_ne n12).trans upd_same), (upd_ne hda2).trans upd_same, (upd_ne (ne_of_none hdt hd)).trans (s6 _ _ hdt4), n12, ⟨(ne_of_none hdt4 ha1).symm, n1.1, n1.2, s24.free ha1 n1.1⟩, ⟨(ne_of_none (s5 _ _ hdt4) ha2).symm, n2.1, n2.2, s24.free (s5.free ha2) n2.1⟩, hd0, hdtp.1, hdn.1, hdn.2⟩
      · exact (s24.trans (SameP.of s6)).mut hd0
      · rw [mergeK_app (by
          show [kS "top", kS "drivers", kS "listeners"].Nodup
          decide +kernel)]
        exact ⟨by show 3 ≤ 5; decide, valV_pos rfl, (valV_neg kTop_dr).trans (valV_pos rfl), (valV_neg kTop_ls).trans ((valV_neg kDr_ls).trans (valV_pos rfl))⟩
    generalize upd (upd (upd H4 a1 (.lst [])) a2 (.lst [])) d (.dK (mergeK [] [(.inr "top", .int (1 + (v1 : Nat))), (.inr "drivers", .ref a1), (.inr "listeners", .ref a2)])) = H7 at g0
    refine ⟨_, rfl, dt, rfl, ⟨_, SqL.of g0.ht⟩, ?_⟩
    have htl9 : ts.length ≤ 9 := by omega
    refine for_it walk_list (fun i σ H' => (∃ x, σ = [some (.ref p), some (.int 9), some (.ref dt), some (.ref d), x]) ∧ ∃ ds ls, Grow H H' p c d a1 a2 dt (b + 21 + i) (1 + (v1 : Nat)) ts ds ls ∧ (ds ++ ls).Perm (ts.take i)) ⟨⟨_, rfl⟩, [], [], g0, by rw [List.take_zero]; exact .nil⟩ (fun i σ H' _ h => let ⟨_, _, _, g, _⟩ := h; SqL.of g.ht) (fun i x σ H8 H' hi h8 hy => ?_) (fun σ H8 h8 => ?_)
    · obtain ⟨e, hx⟩ := hy
      subst e
      obtain ⟨⟨x4, rfl⟩, ds, ls, g, pr⟩ := h8
      rw [vS_len] at hi
      obtain ⟨t, rfl, htn2⟩ : ∃ t, x = .str t ∧ ts[i]? = some t := by
        rw [vS, List.getElem?_map] at hx
        cases e : ts[i]? with
        | none => rw [e] at hx; cases hx
        | some t => rw [e] at hx; exact ⟨t, (Option.some.inj hx).symm, rfl⟩
      have htk : ts.take (i + 1) = ts.take i ++ [t] := by
        rw [List.take_succ, htn2]
        rfl
      have hlen : ds.length + ls.length ≤ 9 := by
        have := pr.length_eq
        rw [List.length_append, List.length_take] at this
        omega
      refine ⟨_, rfl, by rw [sizeLine_eq]; exact (by decide : 4 ≤ 16777216), fun l hl => ?_⟩
      have g1 := g.same (same_new (o := .lst (vS keys4)) hl)
      have hl1 := g.pen.new hl
      refine ⟨_, rfl, p, c, 4, _, rfl, g1.pen, by decide, by decide, by omega, fun v4 H9 s9 hp9 hv4 => ?_⟩
      have g2 := g1.p s9 hp9
      obtain ⟨key, hk, hkk⟩ := keys4_at hv4
      refine ⟨l, vS keys4, _, .str key, rfl, rfl, SqL.of (s9 _ _ hl1.1 upd_same), atI_nat (by rw [vS, List.getElem?_map, hk]; rfl), ?_⟩
      rcases hkk with e | e <;> subst e
      · refine ⟨d, _, rfl, g2.get.2.1, .inl ⟨rfl, _, SqL.of g2.h1⟩, _, rfl, a1, _, _, rfl, rfl, g2.h1, small1000 (by rw [vS_len]; omega), ⟨_, rfl⟩, ds ++ [t], ls, ?_, ?_⟩
        · have := g2.add1 (ds ++ [t])
          rw [vS_app] at this
          exact this
        · rw [htk, List.append_assoc]
          refine List.Perm.trans ?_ (pr.append_right [t])
          rw [List.append_assoc]
          exact (List.perm_append_comm).append_left ds
      · refine ⟨d, _, rfl, g2.get.2.2, .inl ⟨rfl, _, SqL.of g2.h2⟩, _, rfl, a2, _, _, rfl, rfl, g2.h2, small1000 (by rw [vS_len]; omega), ⟨_, rfl⟩, ds, ls ++ [t], ?_, ?_⟩
        · have := g2.add2 (ls ++ [t])
          rw [vS_app] at this
          exact this
        · rw [htk, ← List.append_assoc]
          exact pr.append_right [t]
    · obtain ⟨⟨x4, rfl⟩, ds, ls, g, pr⟩ := h8
      rw [vS_len, List.take_length] at pr
      rw [vS_len] at g
      have hlen : ds.length + ls.length ≤ 9 := by
        have := pr.length_eq
        rw [List.length_append] at this
        omega
      obtain ⟨kvs, hdk, hkl, k1, k2, k3⟩ := g.dd
      refine ⟨_, rfl, d, _, rfl, g.get.2.1, a1, ds, rfl, SqL.of g.h1, by omega, fun p5 hp5 => ⟨_, rfl, d, _, rfl, DPut.k (k := kS "drivers") (same_new hp5 _ _ hdk) (small1000 (by omega)), ?_⟩⟩
      have n5 := g.pen.new hp5
      have d5 : p5 ≠ d := (ne_of_none hdk hp5).symm
      have s10 := (g.s.trans (SameP.of (same_new (o := .lst (vS (srt ds))) hp5))).mut (o := .dK (putK kvs (kS "drivers") (.ref p5))) g.nd
      have pn10 := (g.pen.ext (same_new (o := .lst (vS (srt ds))) hp5)).put (o := .dK (putK kvs (kS "drivers") (.ref p5))) g.np.2
      have h10 : (upd (upd H8 p5 (.lst (vS (srt ds)))) d (.dK (putK kvs (kS "drivers") (.ref p5)))) p5 = some (.lst (vS (srt ds))) := (upd_ne d5).trans upd_same
      have h10a : (upd (upd H8 p5 (.lst (vS (srt ds)))) d (.dK (putK kvs (kS "drivers") (.ref p5)))) a2 = some (.lst (vS ls)) := (upd_ne (ne_obj g.h2 hdk fun z => by cases z)).trans (same_new hp5 _ _ g.h2)
      have h10d : (upd (upd H8 p5 (.lst (vS (srt ds)))) d (.dK (putK kvs (kS "drivers") (.ref p5)))) d = some (.dK (putK kvs (kS "drivers") (.ref p5))) := upd_same
      generalize upd (upd H8 p5 (.lst (vS (srt ds)))) d (.dK (putK kvs (kS "drivers") (.ref p5))) = H10 at s10 pn10 h10 h10a h10d
      have z1 := length_putK kvs (kS "drivers") (.ref p5)
      have q1 : valV (putK kvs (kS "drivers") (.ref p5)) (kS "top") = some (.int (1 + (v1 : Nat))) := by rw [valV_put, if_neg kTop_dr]; exact k1
      have q2 : valV (putK kvs (kS "drivers") (.ref p5)) (kS "drivers") = some (.ref p5) := by rw [valV_put, if_pos rfl]
      have q3 : valV (putK kvs (kS "drivers") (.ref p5)) (kS "listeners") = some (.ref a2) := by rw [valV_put, if_neg kDr_ls.symm]; exact k3
      generalize putK kvs (kS "drivers") (.ref p5) = kv2 at h10d z1 q1 q2 q3
      have hg2 := DGet.k (k := kS "listeners") h10d
      rw [q3] at hg2
      refine ⟨_, rfl, d, _, rfl, hg2, a2, ls, rfl, SqL.of h10a, by omega, fun p6 hp6 => ⟨_, rfl, d, _, rfl, DPut.k (k := kS "listeners") (same_new hp6 _ _ h10d) (small1000 (by omega)), ?_⟩⟩
      have n6 := pn10.new hp6
      have d6 : p6 ≠ d := (ne_of_none h10d hp6).symm
      have s12 := (s10.trans (SameP.of (same_new (o := .lst (vS (srt ls))) hp6))).mut (o := .dK (putK kv2 (kS "listeners") (.ref p6))) g.nd
      have pn12 := (pn10.ext (same_new (o := .lst (vS (srt ls))) hp6)).put (o := .dK (putK kv2 (kS "listeners") (.ref p6))) g.np.2
      have h12 : (upd (upd H10 p6 (.lst (vS (srt ls)))) d (.dK (putK kv2 (kS "listeners") (.ref p6)))) p5 = some (.lst (vS (srt ds))) := (upd_ne d5).trans (same_new hp6 _ _ h10)
      have h12a : (upd (upd H10 p6 (.lst (vS (srt ls)))) d (.dK (putK kv2 (kS "listeners") (.ref p6)))) p6 = some (.lst (vS (srt ls))) := (upd_ne d6).trans upd_same
      have h12d : (upd (upd H10 p6 (.lst (vS (srt ls)))) d (.dK (putK kv2 (kS "listeners") (.ref p6)))) d = some (.dK (putK kv2 (kS "listeners") (.ref p6))) := upd_same
      generalize upd (upd H10 p6 (.lst (vS (srt ls)))) d (.dK (putK kv2 (kS "listeners") (.ref p6))) = H12 at s12 pn12 h12 h12a h12d
      have z2 := length_putK kv2 (kS "listeners") (.ref p6)
      have w1 : valV (putK kv2 (kS "listeners") (.ref p6)) (kS "top") = some (.int (1 + (v1 : Nat))) := by rw [valV_put, if_neg kTop_ls]; exact q1
      have w2 : valV (putK kv2 (kS "listeners") (.ref p6)) (kS "drivers") = some (.ref p5) := by rw [valV_put, if_neg kDr_ls]; exact q2
      have w3 : valV (putK kv2 (kS "listeners") (.ref p6)) (kS "listeners") = some (.ref p6) := by rw [valV_put, if_pos rfl]
      generalize putK kv2 (kS "listeners") (.ref p6) = kv3 at h12d z2 w1 w2 w3
      have sz : ∀ n : Nat, n ≤ 10 → n ≤ sizeLine := fun n hn => by rw [sizeLine_eq]; omega
      refine ⟨sz _ (by decide), fun l1 hl1 => ⟨sz _ (by decide), fun l2 hl2 => ⟨sz _ (by decide), fun l3 hl3 => ⟨sz _ (by decide), fun l4 hl4 => ⟨sz _ (by decide), fun l5 hl5 => ⟨sz _ (by show 5 ≤ 10; decide), fun l hl => ?_⟩⟩⟩⟩⟩⟩
      have t1 := same_new (o := .lst []) hl1
      have t2 := same_new (o := .lst []) hl2
      have t3 := same_new (o := .lst [V.str "ground"]) hl3
      have t4 := same_new (o := .lst [V.str "power"]) hl4
      have t5 := same_new (o := .lst [V.str "ground", V.str "power"]) hl5
      have t6 := same_new (o := .lst [V.ref l1, V.ref l2, V.ref l3, V.ref l4, V.ref l5]) hl
      have t56 := t5.trans t6
      have t46 := t4.trans t56
      have t36 := t3.trans t46
      have t26 := t2.trans t36
      have t16 := t1.trans t26
      have e1 := t26 _ _ (upd_same (H := H12) (a := l1) (o := .lst []))
      have e2 := t36 _ _ (upd_same (a := l2) (o := .lst []))
      have e3 := t46 _ _ (upd_same (a := l3) (o := .lst [V.str "ground"]))
      have e4 := t56 _ _ (upd_same (a := l4) (o := .lst [V.str "power"]))
      have e5 := t6 _ _ (upd_same (a := l5) (o := .lst [V.str "ground", V.str "power"]))
      have pn18 := pn12.ext t16
      have nl := ((((((pn12.ext t1).ext t2).ext t3).ext t4).ext t5).new hl)
      have nl1 := pn12.new hl1
      have nl2 := (pn12.ext t1).new hl2
      have nl3 := ((pn12.ext t1).ext t2).new hl3
      have nl4 := (((pn12.ext t1).ext t2).ext t3).new hl4
      have nl5 := ((((pn12.ext t1).ext t2).ext t3).ext t4).new hl5
      refine ⟨_, rfl, p, c, 5, _, rfl, pn18, by decide, by decide, by omega, fun v5 H19 s19 pn19 hv5 => ?_⟩
      have hch : ∃ lk rl, ([V.ref l1, V.ref l2, V.ref l3, V.ref l4, V.ref l5] : List V)[v5]? = some (.ref lk) ∧ H19 lk = some (.lst (vS rl)) ∧ (rl = [] ∨ rl = [("ground" : Str)] ∨ rl = [("power" : Str)] ∨ rl = [("ground" : Str), ("power" : Str)]) := by
        match v5, hv5 with
        | 0, _ => exact ⟨l1, [], rfl, s19 _ _ nl1.1 e1, .inl rfl⟩
        | 1, _ => exact ⟨l2, [], rfl, s19 _ _ nl2.1 e2, .inl rfl⟩
        | 2, _ => exact ⟨l3, [("ground" : Str)], rfl, s19 _ _ nl3.1 e3, .inr (.inl rfl)⟩
        | 3, _ => exact ⟨l4, [("power" : Str)], rfl, s19 _ _ nl4.1 e4, .inr (.inr (.inl rfl))⟩
        | 4, _ => exact ⟨l5, [("ground" : Str), ("power" : Str)], rfl, s19 _ _ nl5.1 e5, .inr (.inr (.inr rfl))⟩
      obtain ⟨lk, rl, hk1, hk2, hk3⟩ := hch
      have h19d := s19 _ _ g.np.2.1 (t16 _ _ h12d)
      refine ⟨l, _, _, .ref lk, rfl, rfl, SqL.of (s19 _ _ nl.1 upd_same), atI_nat hk1, _, rfl, d, _, rfl, DPut.k (k := kS "rails") h19d (small1000 (by omega)), ?_⟩
      have dk : lk ≠ d := ne_obj hk2 h19d fun z => by cases z
      have pr2 : (srt ds ++ srt ls).Perm ts := ((srt_perm ds).append (srt_perm ls)).trans pr
      refine ⟨_, rfl, q d ⟨1 + (v1 : Nat), srt ds, srt ls, rl⟩ _ ((s12.trans (SameP.of t16)).trans s19 |>.mut g.nd) ((pn19.put g.np.2).le (by omega)) ⟨_, p5, p6, lk, upd_same, ?_, ?_, ?_, ?_, (upd_ne d5).trans (s19 _ _ n5.1 (t16 _ _ h12)), (upd_ne d6).trans (s19 _ _ n6.1 (t16 _ _ h12a)), (upd_ne dk).trans hk2⟩ ⟨?_, ?_, pr2.nodup_iff.mpr htn, fun n hn => hto n (pr2.mem_iff.mp hn), ?_, hk3⟩⟩
      · rw [valV_put, if_neg kTop_rl]; exact w1
      · rw [valV_put, if_neg kDr_rl]; exact w2
      · rw [valV_put, if_neg kLs_rl]; exact w3
      · rw [valV_put, if_pos rfl]
      · show (1 : Int) ≤ 1 + (v1 : Nat)
        omega
      · show (1 : Int) + (v1 : Nat) ≤ 3
        omega
      · rw [pr2.length_eq]
        omega
end
end Sj
set_option Elab.async false
set_option linter.all false
set_option maxRecDepth 100000
set_option maxHeartbeats 4000000
/-! SjLaw8: _law_levels. -/
namespace Sj
open PySem PySem.Spec PyProof.Rows L2 He
section
variable {P : Program} {w : World} {K : Frg} {mg : Str → Option Value} {base h : Heap}
theorem BareAt.gets {H : Hp} {d : Addr} {B : Bare} (h : BareAt H d B) : ∃ a1 a2 a3, DGet H d (.str "top") (some (.int B.top)) ∧ DGet H d (.str "drivers") (some (.ref a1)) ∧ DGet H d (.str "listeners") (some (.ref a2)) ∧ DGet H d (.str "rails") (some (.ref a3)) ∧ H a1 = some (.lst (vS B.drs)) ∧ H a2 = some (.lst (vS B.lss)) ∧ H a3 = some (.lst (vS B.rls)) := by
  obtain ⟨kvs, a1, a2, a3, e, h1, h2, h3, h4, g1, g2, g3⟩ := h
  have k1 := DGet.k (k := .inr "top") e
  have k2 := DGet.k (k := .inr "drivers") e
  have k3 := DGet.k (k := .inr "listeners") e
  have k4 := DGet.k (k := .inr "rails") e
  rw [h1] at k1
  rw [h2] at k2
  rw [h3] at k3
  rw [h4] at k4
  exact ⟨a1, a2, a3, k1, k2, k3, k4, g1, g2, g3⟩
theorem str_at {ts : List Str} {i : Nat} {x : V} (hx : (vS ts)[i]? = some x) : ∃ t, x = .str t ∧ ts[i]? = some t := by
  rw [vS, List.getElem?_map] at hx
  cases e : ts[i]? with
  | none => rw [e] at hx; cases hx
  | some t => rw [e] at hx; exact ⟨t, (Option.some.inj hx).symm, rfl⟩
theorem take_snoc {α : Type} {ts : List α} {i : Nat} {t : α} (h : ts[i]? = some t) : ts.take (i + 1) = ts.take i ++ [t] := by
  rw [List.take_succ, h]
  rfl
def sp_law_levels : Sp := fun vs H Q _ => ∃ (p c d b : Nat) (B : Bare), vs = [.ref p, .ref d] ∧ PenAt H p c b ∧ BareAt H d B ∧ BareOk B ∧ b < 900000 ∧ ∀ D r H', SameP p H H' → PenAt H' p c (b + 100) → H D = none → H' D = some (.dK (rowK r)) → RowOk (bareFr B) r → Q (.ref D) H'
theorem ok_law_levels (T : Txt K mg h) : GF P w K mg base "_law_levels" 4 sp_law_levels := by
  refine ⟨_, T.g_law_levels, keepX T.d_law_levels, mkFn T.d_law_levels sc_law_levels rfl (fun _ _ _ _ _ _ us hl => match us, hl with | [_, _], _ => rfl) (fun vs H Q E h => ?_) (fun cdv A outer s H vs Q E hr h => ?_)⟩
  · obtain ⟨p, c, d, b, B, rfl, _⟩ := h
    rfl
  · obtain ⟨p, c, d, b, B, rfl, hp, hB, ok, hb, q⟩ := h
    refine ⟨_, pss_cons (ps_par (i := 2) (j := 3) rfl sc_law_levels.nd rfl rfl (by decide) rfl rfl (pa_cons (pc (ok_law_draw T) hr (pa_cons (pv 0) (pa_cons pe_int pa_nil))) (pa_cons pe_dnewK pa_nil)) (by rfl))
      (pss_cons (pfor 4 sc_law_levels.nd (pi_list (pdg (u1 hr) (pv 1) pe_str))
        (pss_cons (pset 5 sc_law_levels.nd (pe_ix ix_list (pe_lst (pa_cons pe_int (pa_cons (pc (ok_law_draw T) hr (pa_cons (pv 0) (pa_cons (pe_op op_add (pdg (u1 hr) (pv 1) pe_str) pe_int) pa_nil))) (pa_cons (pe_op op_mul (pc (ok_law_draw T) hr (pa_cons (pv 0) (pa_cons pe_int pa_nil))) (pdg (u1 hr) (pv 1) pe_str)) (pa_cons (pdg (u1 hr) (pv 1) pe_str) pa_nil))))) (pv 2) (fun _ _ => rfl)))
        (pss_one (ps_if (PW.pt (pw_or (PW.pt (pw_and (pt_cmpR op_ne (pv 2) pe_int (by rfl)) (pw_and1 (pt_cmpR op_eq (pc (ok_law_draw T) hr (pa_cons (pv 0) (pa_cons pe_int pa_nil))) pe_int (by rfl))))) (pw_or1 (pt_cmpR op_eq (pv 2) pe_int (by rfl)))))
          (pss_one (ps_dput (u1 hr) (pv 3) (pv 4) (pv 5) (by rfl))) pss_nil))))
      (pss_one (ps_ret (pv 3)))), ?_⟩
    obtain ⟨tn, htn⟩ : ∃ tn : Nat, B.top = (tn : Nat) := ⟨B.top.toNat, by have := ok.top1; omega⟩
    have ht1 := ok.top1
    have ht3 := ok.top3
    have hfew := ok.few
    rw [List.length_append] at hfew
    refine ⟨_, rfl, p, c, 4, b, rfl, hp, by decide, by decide, by omega, fun way H1 s1 hp1 hway => ?_⟩
    refine fun D hD => ⟨_, _, rfl, ?_⟩
    have hDn := hp1.new hD
    have hD0 := s1.free hD hDn.1
    have s2 : SameP p H (upd H1 D (.dK [])) := s1.mut hD0
    have hp2 : PenAt (upd H1 D (.dK [])) p c (b + 1) := hp1.put hDn
    have hd : ∀ {H' : Hp}, SameP p H H' → DGet H' d (.str "top") (some (.int B.top)) := fun s => by
      obtain ⟨_, _, _, k1, _⟩ := (hB.mono (s.L hp)).gets
      exact k1
    obtain ⟨kvs, a1, _, _, ed, _, ev, _, _, g5, _, _⟩ := hB
    have hl1 : ∀ {H' : Hp}, SameP p H H' → SqL K H' a1 (vS B.drs) := fun s => SqL.of (s.L hp _ _ g5 nl_strs)
    have g2 := DGet.k (k := kS "drivers") (s2.L hp _ _ ed nl_dK)
    rw [ev] at g2
    refine ⟨_, rfl, d, _, rfl, g2, a1, rfl, ⟨_, hl1 s2⟩, ?_⟩
    refine for_it (walk_list (xs := vS B.drs)) (fun i σ H' => (∃ x y, σ = [some (.ref p), some (.ref d), some (.int (way : Nat)), some (.ref D), x, y]) ∧ SameP p H H' ∧ PenAt H' p c (b + 1 + 3 * i) ∧ ∃ r, H' D = some (.dK (rowK r)) ∧ (r.map (·.1)).Sublist (B.drs.take i) ∧ ∀ q ∈ r, 0 ≤ q.2 ∧ q.2 ≤ B.top) ⟨⟨_, _, rfl⟩, s2, hp2, [], upd_same, by rw [List.take_zero]; exact .slnil, fun _ h => by cases h⟩ (fun i σ H' _ h => hl1 h.2.1) (fun i x σ H8 H' hi h8 hy => ?_) (fun σ H8 h8 => ?_)
    · obtain ⟨e, hx⟩ := hy
      subst e
      obtain ⟨⟨x4, x5, rfl⟩, s8, hp8, r, hr8, sub, bd⟩ := h8
      rw [vS_len] at hi
      obtain ⟨t, rfl, ht⟩ := str_at hx
      refine ⟨_, rfl, _, rfl, d, _, rfl, hd s8, _, _, rfl, rfl, p, c, tn + 1, _, by rw [htn]; rfl, hp8, by omega, by omega, by omega, fun v1 H9 s9 hp9 hv1 => ?_⟩
      have t9 := s9
      have s9 := s8.trans s9
      refine ⟨_, rfl, p, c, 2, _, rfl, hp9, by decide, by decide, by omega, fun v2 H10 s10 hp10 hv2 => ?_⟩
      have t10 := t9.trans s10
      have s10 := s9.trans s10
      refine ⟨_, rfl, d, _, rfl, hd s10, _, _, rfl, rfl, .inl ⟨by omega, by omega⟩, _, rfl, d, _, rfl, hd s10, by rw [sizeLine_eq]; exact (by show 4 ≤ 16777216; decide), fun l hl => ?_⟩
      have t11 := t10.trans (SameP.of (same_new (o := .lst [V.int 0, V.int (v1 : Nat), V.int ((v2 : Nat) * B.top), V.int B.top]) hl))
      have s11 := s10.trans (SameP.of (same_new (o := .lst [V.int 0, V.int (v1 : Nat), V.int ((v2 : Nat) * B.top), V.int B.top]) hl))
      have hp11 := hp10.ext (same_new (o := .lst [V.int 0, V.int (v1 : Nat), V.int ((v2 : Nat) * B.top), V.int B.top]) hl)
      obtain ⟨L, hL, hL0, hL1⟩ : ∃ L : Int, ([V.int 0, V.int (v1 : Nat), V.int ((v2 : Nat) * B.top), V.int B.top] : List V)[way]? = some (.int L) ∧ 0 ≤ L ∧ L ≤ B.top := by
        match way, hway with
        | 0, _ => exact ⟨0, rfl, by omega, by omega⟩
        | 1, _ => exact ⟨_, rfl, by omega, by omega⟩
        | 2, _ =>
          refine ⟨_, rfl, ?_⟩
          match v2, hv2 with
          | 0, _ => rw [show ((0 : Nat) : Int) * B.top = 0 by omega]; omega
          | 1, _ => rw [show ((1 : Nat) : Int) * B.top = B.top by omega]; omega
        | 3, _ => exact ⟨_, rfl, by omega, by omega⟩
      refine ⟨_, rfl, l, _, _, .int L, rfl, rfl, SqL.of upd_same, atI_nat hL, ?_⟩
      generalize upd H10 l (.lst [V.int 0, V.int (v1 : Nat), V.int ((v2 : Nat) * B.top), V.int B.top]) = H11 at t11 s11 hp11
      have skip : ∀ {H12 : Hp} {b12 : Nat}, SameP p H' H12 → PenAt H12 p c b12 → b12 ≤ b + 1 + 3 * (i + 1) →
          (∃ x y, ([some (.ref p), some (.ref d), some (.int (way : Nat)), some (.ref D), some (.str t), some (.int L)] : L2.St) = [some (.ref p), some (.ref d), some (.int (way : Nat)), some (.ref D), x, y]) ∧ SameP p H H12 ∧ PenAt H12 p c (b + 1 + 3 * (i + 1)) ∧ ∃ r, H12 D = some (.dK (rowK r)) ∧ (r.map (·.1)).Sublist (B.drs.take (i + 1)) ∧ ∀ q ∈ r, 0 ≤ q.2 ∧ q.2 ≤ B.top := fun t12 hp12 hb12 =>
        ⟨⟨_, _, rfl⟩, s8.trans t12, hp12.le hb12, r, t12 _ _ hDn.1 hr8, by rw [take_snoc ht]; exact sub.trans (List.sublist_append_left _ _), bd⟩
      have hnt : t ∉ r.map (·.1) := fun z => by
        have h1 := sub.subset z
        have h2 := (List.nodup_append.mp ok.nd).1
        rw [← List.take_append_drop (i + 1) B.drs, take_snoc ht, List.nodup_append] at h2
        exact (List.nodup_append.mp h2.1).2.2 _ h1 _ List.mem_cons_self rfl
      have hrl : r.length ≤ 20 := by
        have := sub.length_le
        rw [List.length_map, List.length_take] at this
        omega
      have store : ∀ {H12 : Hp} {b12 : Nat}, SameP p H' H12 → PenAt H12 p c b12 → b12 ≤ b + 1 + 3 * (i + 1) → DPut H12 D (.str t) (.int L) (upd H12 D (.dK (putK (rowK r) (.inr t) (.int L)))) ∧ 
          (∃ x y, ([some (.ref p), some (.ref d), some (.int (way : Nat)), some (.ref D), some (.str t), some (.int L)] : L2.St) = [some (.ref p), some (.ref d), some (.int (way : Nat)), some (.ref D), x, y]) ∧ SameP p H (upd H12 D (.dK (putK (rowK r) (.inr t) (.int L)))) ∧ PenAt (upd H12 D (.dK (putK (rowK r) (.inr t) (.int L)))) p c (b + 1 + 3 * (i + 1)) ∧ ∃ r', (upd H12 D (.dK (putK (rowK r) (.inr t) (.int L)))) D = some (.dK (rowK r')) ∧ (r'.map (·.1)).Sublist (B.drs.take (i + 1)) ∧ ∀ q ∈ r', 0 ≤ q.2 ∧ q.2 ≤ B.top := fun t12 hp12 hb12 => by
        refine ⟨DPut.k (k := .inr t) (t12 _ _ hDn.1 hr8) (small1000 (by rw [rowK, List.length_map]; omega)), ⟨_, _, rfl⟩, (s8.trans t12).mut hD0, (hp12.put hDn).le hb12, r ++ [(t, L)], ?_, ?_, fun z hz => ?_⟩
        · rw [upd_same, putK_new _ (by rw [valV_row, lookup_none hnt]; rfl), rowK, rowK, List.map_append]
          rfl
        · rw [List.map_append, take_snoc ht]
          exact sub.append_right [t]
        · rcases List.mem_append.mp hz with hz | hz
          · exact bd z hz
          · rw [List.mem_singleton.mp hz]
            exact ⟨hL0, hL1⟩
      have last : ∀ {H12 : Hp} {b12 : Nat}, SameP p H' H12 → PenAt H12 p c b12 → b12 ≤ b + 1 + 3 * (i + 1) → True := fun _ _ _ => trivial
      refine ⟨_, rfl, rfl, _, rfl, ?_⟩
      generalize (!decide (V.int (way : Nat) = V.int 3)) = c1
      cases c1 with
      | true =>
        refine iteT ⟨_, rfl, p, c, 2, _, rfl, hp11, by decide, by decide, by omega, fun v3 H12 s12 hp12 hv3 => ?_⟩
        have t12 := t11.trans s12
        refine ⟨rfl, _, rfl, ?_⟩
        generalize (decide (V.int (v3 : Nat) = V.int 0)) = c2
        cases c2 with
        | true =>
          obtain ⟨k1, k2⟩ := store t12 hp12 (by omega)
          exact iteT ⟨_, rfl, _, rfl, _, rfl, D, _, rfl, k1, k2⟩
        | false =>
          refine iteF ⟨_, rfl, rfl, _, rfl, ?_⟩
          generalize (decide (V.int (way : Nat) = V.int 1)) = c3
          cases c3 with
          | true =>
            obtain ⟨k1, k2⟩ := store t12 hp12 (by omega)
            exact iteT ⟨_, rfl, _, rfl, _, rfl, D, _, rfl, k1, k2⟩
          | false => exact iteF (skip t12 hp12 (by omega))
      | false =>
        refine iteF ⟨_, rfl, rfl, _, rfl, ?_⟩
        generalize (decide (V.int (way : Nat) = V.int 1)) = c3
        cases c3 with
        | true =>
          obtain ⟨k1, k2⟩ := store t11 hp11 (by omega)
          exact iteT ⟨_, rfl, _, rfl, _, rfl, D, _, rfl, k1, k2⟩
        | false => exact iteF (skip t11 hp11 (by omega))
    · obtain ⟨⟨x4, x5, rfl⟩, s8, hp8, r, hr8, sub, bd⟩ := h8
      rw [vS_len, List.take_length] at sub
      rw [vS_len] at hp8
      have hnd := (List.nodup_append.mp ok.nd).1
      refine ⟨_, rfl, q D r _ s8 (hp8.le (by omega)) hD0 hr8 ⟨hnd.sublist sub, ?_, fun z hz => ?_, fun z hz => (bd z hz).1, fun z hz => (bd z hz).2⟩⟩
      · have := sub.length_le
        rw [List.length_map] at this
        omega
      · exact (bare_drivers B).mem_iff.mpr (sub.subset (List.mem_map_of_mem hz))
end
end Sj
set_option Elab.async false
set_option linter.all false
set_option maxRecDepth 100000
set_option maxHeartbeats 4000000
/-! SjLaw9: _law_parted. -/
namespace Sj
open PySem PySem.Spec PyProof.Rows L2 He
theorem paired_at {α β : Type} {F : α → β → Prop} {l : List α} {m : List β} (p : Paired F l m) : ∀ {i : Nat} {b : β}, m[i]? = some b → ∃ a, l[i]? = some a ∧ F a b := by
  induction p with
  | nil => intro i b h; simp at h
  | @cons x y l m h t ih =>
    intro i b hb
    cases i with
    | zero =>
      have e : y = b := by simpa using hb
      exact ⟨x, rfl, e ▸ h⟩
    | succ i => exact ih (by simpa using hb)
theorem blks_set {H : Hp} {bas : List Addr} {bss : List (List Str)} (h : BlksAt H bas bss) : ∀ {i : Nat} {ba : Addr} {bs : List Str}, bas.Nodup → bas[i]? = some ba → BlksAt (upd H ba (.lst (vS bs))) bas (bss.set i bs) := by
  unfold BlksAt at h ⊢
  induction h with
  | nil => intro i ba bs _ hb; simp at hb
  | @cons b a l m h t ih =>
    intro i ba bs nd hb
    obtain ⟨n1, n2⟩ := List.nodup_cons.mp nd
    cases i with
    | zero =>
      have e : a = ba := by simpa using hb
      subst e
      refine .cons upd_same ?_
      have : ∀ {l : List (List Str)} {m : List Addr}, a ∉ m → Paired (fun b a => H a = some (.lst (vS b))) l m → Paired (fun b a2 => (upd H a (.lst (vS bs))) a2 = some (.lst (vS b))) l m := by
        intro l m hn p
        induction p with
        | nil => exact .nil
        | cons h t ih => exact .cons ((upd_ne fun e => hn (by rw [← e]; exact List.mem_cons_self)).trans h) (ih fun z => hn (List.mem_cons_of_mem _ z))
      exact this n1 t
    | succ i =>
      have hb : m[i]? = some ba := by simpa using hb
      exact .cons ((upd_ne fun e => n1 (by rw [e]; exact List.mem_of_getElem? hb)).trans h) (ih n2 hb)
theorem flat_set {α : Type} {t : α} : ∀ {bss : List (List α)} {i : Nat} {bs : List α}, bss[i]? = some bs → (bss.set i (bs ++ [t])).flatten.Perm (bss.flatten ++ [t])
  | [], i, bs, h => by simp at h
  | b :: r, 0, bs, h => by
    have e : b = bs := by simpa using h
    subst e
    show ((b ++ [t]) ++ r.flatten).Perm ((b ++ r.flatten) ++ [t])
    rw [List.append_assoc, List.append_assoc]
    exact List.perm_append_comm.append_left b
  | b :: r, i + 1, bs, h => by
    show (b ++ (r.set i (bs ++ [t])).flatten).Perm ((b ++ r.flatten) ++ [t])
    rw [List.append_assoc]
    exact (flat_set (by simpa using h)).append_left b
/-- the blocks while they grow -/
structure PtAt (H0 H : Hp) (p c bl ml : Addr) (b : Nat) (ms : List Str) (i : Nat) (bas : List Addr) (bss : List (List Str)) : Prop where
  s : SameP p H0 H
  pen : PenAt H p c b
  hbl : H bl = some (.lst (bas.map V.ref))
  hb : BlksAt H bas bss
  hml : H ml = some (.lst (vS ms))
  nbl : H0 bl = none ∧ bl ≠ p ∧ bl ≠ c ∧ bl ≠ ml
  nb : ∀ a ∈ bas, H0 a = none ∧ a ≠ p ∧ a ≠ c ∧ a ≠ ml ∧ a ≠ bl
  nml : ml ≠ p
  nd : bas.Nodup
  fl : bss.flatten.Perm (ms.take i)
  ne : ∀ b ∈ bss, b ≠ []
  rl : ∀ b ∈ bss, ("ground" : Str) ∈ b → ("power" : Str) ∉ b
theorem blks_keep {H H' : Hp} {bas : List Addr} {bss : List (List Str)} (h : BlksAt H bas bss) (k : ∀ a ∈ bas, ∀ o, H a = some o → H' a = some o) : BlksAt H' bas bss := by
  unfold BlksAt at h ⊢
  induction h with
  | nil => exact .nil
  | cons h t ih => exact .cons (k _ List.mem_cons_self _ h) (ih fun a ha => k a (List.mem_cons_of_mem _ ha))
section
variable {H0 H H' : Hp} {p c bl ml : Addr} {b b' : Nat} {ms : List Str} {i : Nat} {bas : List Addr} {bss : List (List Str)} {t : Str}
theorem PtAt.dr (g : PtAt H0 H p c bl ml b ms i bas bss) (s : SameP p H H') (hp : PenAt H' p c b') : PtAt H0 H' p c bl ml b' ms i bas bss :=
  ⟨g.s.trans s, hp, s _ _ g.nbl.2.1 g.hbl, blks_keep g.hb fun a ha o e => s _ _ (g.nb a ha).2.1 e, s _ _ g.nml g.hml, g.nbl, g.nb, g.nml, g.nd, g.fl, g.ne, g.rl⟩
theorem PtAt.same (g : PtAt H0 H p c bl ml b ms i bas bss) (s : Same H H') : PtAt H0 H' p c bl ml b ms i bas bss := g.dr (SameP.of s) (g.pen.ext s)
theorem PtAt.put (g : PtAt H0 H p c bl ml b ms i bas bss) (ht : ms[i]? = some t) {at_ : Nat} {ba : Addr} {bs : List Str} (h1 : bas[at_]? = some ba) (h2 : bss[at_]? = some bs) (hr : ("ground" : Str) ∈ bs ++ [t] → ("power" : Str) ∉ bs ++ [t]) :
    PtAt H0 (upd H ba (.lst (vS (bs ++ [t])))) p c bl ml b ms (i + 1) bas (bss.set at_ (bs ++ [t])) := by
  obtain ⟨n1, n2, n3, n4, n5⟩ := g.nb ba (List.mem_of_getElem? h1)
  refine ⟨g.s.mut n1, g.pen.put ⟨n2, n3⟩, (upd_ne n5.symm).trans g.hbl, blks_set g.hb g.nd h1, (upd_ne n4.symm).trans g.hml, g.nbl, g.nb, g.nml, g.nd, ?_, fun z hz => ?_, fun z hz => ?_⟩
  · rw [take_snoc ht]
    exact (flat_set h2).trans (g.fl.append_right [t])
  · rcases List.mem_or_eq_of_mem_set hz with hz | hz
    · exact g.ne z hz
    · rw [hz]; simp
  · rcases List.mem_or_eq_of_mem_set hz with hz | hz
    · exact g.rl z hz
    · rw [hz]; exact hr
theorem PtAt.new (g : PtAt H0 H p c bl ml b ms i bas bss) (ht : ms[i]? = some t) {nb : Addr} (hn : H nb = none) : PtAt H0 (upd (upd H nb (.lst (vS [t]))) bl (.lst (bas.map V.ref ++ [V.ref nb]))) p c bl ml b ms (i + 1) (bas ++ [nb]) (bss ++ [[t]]) := by
  have n1 := g.pen.new hn
  have n2 : nb ≠ bl := (ne_of_none g.hbl hn).symm
  have n3 : nb ≠ ml := (ne_of_none g.hml hn).symm
  have nin : nb ∉ bas := fun z => by
    obtain ⟨bs, _, e⟩ := paired_rm g.hb z
    have e : H nb = some (.lst (vS bs)) := e
    rw [hn] at e
    cases e
  refine ⟨(g.s.trans (SameP.of (same_new hn))).mut g.nbl.1, (g.pen.ext (same_new hn)).put ⟨g.nbl.2.1, g.nbl.2.2.1⟩, by rw [upd_same, List.map_append]; rfl, ?_, (upd_ne g.nbl.2.2.2.symm).trans (same_new hn _ _ g.hml), g.nbl, fun a ha => ?_, g.nml, ?_, ?_, fun z hz => ?_, fun z hz => ?_⟩
  · exact paired_snoc (F := fun b a => (upd (upd H nb (.lst (vS [t]))) bl (.lst (bas.map V.ref ++ [V.ref nb]))) a = some (.lst (vS b))) ((upd_ne n2).trans upd_same) (blks_keep g.hb fun a ha o e => (upd_ne (g.nb a ha).2.2.2.2).trans (same_new hn _ _ e))
  · rcases List.mem_append.mp ha with ha | ha
    · exact g.nb a ha
    · rw [List.mem_singleton.mp ha]
      exact ⟨g.s.free hn n1.1, n1.1, n1.2, n3, n2⟩
  · exact List.nodup_append.mpr ⟨g.nd, by simp, fun a ha b hb e => nin (by rw [← List.mem_singleton.mp hb, ← e]; exact ha)⟩
  · rw [List.flatten_append, take_snoc ht]
    exact g.fl.append_right _
  · rcases List.mem_append.mp hz with hz | hz
    · exact g.ne z hz
    · rw [List.mem_singleton.mp hz]; simp
  · rcases List.mem_append.mp hz with hz | hz
    · exact g.rl z hz
    · rw [List.mem_singleton.mp hz]
      intro h1 h2
      exact absurd ((List.mem_singleton.mp h1).trans (List.mem_singleton.mp h2).symm) (by decide +kernel)
end
section
variable {P : Program} {w : World} {K : Frg} {mg : Str → Option Value} {base h : Heap}
theorem gp_order : leS "power" "ground" = false := by decide +kernel
def sp_law_parted : Sp := fun vs H Q _ => ∃ (p c d b : Nat) (B : Bare), vs = [.ref p, .ref d] ∧ PenAt H p c b ∧ BareAt H d B ∧ BareOk B ∧ b < 900000 ∧ ∀ bl bas bss H', SameP p H H' → PenAt H' p c (b + 100) → H' bl = some (.lst (bas.map V.ref)) → BlksAt H' bas bss → PartOk (bareFr B) bss → Q (.ref bl) H'
theorem ok_law_parted (T : Txt K mg h) : GF P w K mg base "_law_parted" 4 sp_law_parted := by
  refine ⟨_, T.g_law_parted, keepX T.d_law_parted, mkFn T.d_law_parted sc_law_parted rfl (fun _ _ _ _ _ _ us hl => match us, hl with | [_, _], _ => rfl) (fun vs H Q E h => ?_) (fun cdv A outer s H vs Q E hr h => ?_)⟩
  · obtain ⟨p, c, d, b, B, rfl, _⟩ := h
    rfl
  · obtain ⟨p, c, d, b, B, rfl, hp, hB, ok, hb, q⟩ := h
    refine ⟨_, pss_cons (pset 2 sc_law_parted.nd (pe_lst pa_nil))
      (pss_cons (pfor 3 sc_law_parted.nd (pi_list (pc (ok_law_members T) hr (pa_cons (pv 1) pa_nil)))
        (pss_cons (pset 4 sc_law_parted.nd (pc (ok_law_draw T) hr (pa_cons (pv 0) (pa_cons (pe_op op_add (pe_op op_add (plen T (pv 2)) pe_int) (pc (ok_law_draw T) hr (pa_cons (pv 0) (pa_cons pe_int pa_nil)))) pa_nil))))
        (pss_cons (pset 5 sc_law_parted.nd (pe_and (pe_cmpR op_lt (pv 4) (plen T (pv 2)) (by rfl)) (pe_one (pe_not (pe_and (pe_cmpR op_eq (pv 3) pe_str (by rfl)) (pe_one (pe_cmpR op_in_seq pe_str (pe_ix ix_list (pv 2) (pv 4) (fun _ _ => rfl)) (by rfl))))))))
        (pss_one (ps_if (pt_val (pv 5)) (pss_one (ps_expr (pbm K PySem.F.plainAttrs_list PySem.F.slot_list_append PySem.F.type_list_append mt_append (pe_ix ix_list (pv 2) (pv 4) (fun _ _ => rfl)) (pa_cons (pv 3) pa_nil))))
          (pss_one (ps_expr (pbm K PySem.F.plainAttrs_list PySem.F.slot_list_append PySem.F.type_list_append mt_append (pv 2) (pa_cons (pe_lst (pa_cons (pv 3) pa_nil)) pa_nil)))))))))
      (pss_one (ps_ret (pv 2)))), ?_⟩
    have hfew := ok.few
    have hrl : B.rls.length ≤ 2 := by rcases ok.rails with e | e | e | e <;> rw [e] <;> simp
    have hml2 : (bareFr B).members.length ≤ 22 := by
      rw [← bare_members ok, len_srt, List.length_append]
      omega
    refine ⟨Nat.zero_le _, fun bl hbl => ?_⟩
    have s1 := same_new (o := .lst []) hbl
    have nbl := hp.new hbl
    refine ⟨_, rfl, d, B, rfl, hB.mono (Same.L s1), by rw [List.length_append]; omega, fun ml H2 s2 hml0 hml => ?_⟩
    rw [bare_members ok] at hml
    refine ⟨ml, rfl, ⟨_, SqL.of hml⟩, ?_⟩
    have s12 := s1.trans s2
    have hbl1 : H2 bl = some (.lst []) := s2 _ _ upd_same
    have hnm : bl ≠ ml := ne_of_none upd_same hml0
    have g0 : PtAt H H2 p c bl ml b (bareFr B).members 0 [] [] := ⟨SameP.of s12, hp.ext s12, hbl1, .nil, hml, ⟨hbl, nbl.1, nbl.2, hnm⟩, (fun _ h => by cases h), (hp.new (s1.free hml0)).1, List.Pairwise.nil, (by rw [List.take_zero]; exact List.Perm.nil), (fun _ h => by cases h), (fun _ h => by cases h)⟩
    refine for_it (walk_list (xs := vS (bareFr B).members)) (fun i σ H' => (∃ x y z, σ = [some (.ref p), some (.ref d), some (.ref bl), x, y, z]) ∧ ∃ bas bss, PtAt H H' p c bl ml (b + 2 * i) (bareFr B).members i bas bss) ⟨⟨_, _, _, rfl⟩, [], [], g0⟩ (fun i σ H' _ h => let ⟨_, _, _, g⟩ := h; SqL.of g.hml) (fun i x σ H8 H' hi h8 hy => ?_) (fun σ H8 h8 => ?_)
    · obtain ⟨e, hx⟩ := hy
      subst e
      obtain ⟨⟨x3, x4, x5, rfl⟩, bas, bss, g⟩ := h8
      rw [vS_len] at hi
      obtain ⟨t, rfl, ht⟩ := str_at hx
      have hlen : bas.length = bss.length := (paired_len g.hb).symm
      have hbz : bss.length ≤ 22 := by
        have h1 := flat_len g.ne
        have h2 := g.fl.length_eq
        rw [List.length_take] at h2
        omega
      refine ⟨_, rfl, _, rfl, bl, _, rfl, .inl (SqL.of g.hbl), _, _, rfl, rfl, _, rfl, p, c, 2, _, rfl, g.pen, by decide, by decide, by omega, fun v2 H9 s9 hp9 hv2 => ?_⟩
      have g9 := g.dr s9 hp9
      refine ⟨_, _, rfl, rfl, p, c, bas.length + 1 + v2, _, by rw [List.length_map]; rfl, hp9, by omega, by omega, by omega, fun at_ H10 s10 hp10 hat => ?_⟩
      have g10 := g9.dr s10 hp10
      refine ⟨_, rfl, _, rfl, bl, _, rfl, .inl (SqL.of g10.hbl), _, _, rfl, rfl, _, rfl, ?_⟩
      have hnew : ∀ {H' : Hp}, PtAt H H' p c bl ml (b + 2 * i + 1 + 1) (bareFr B).members i bas bss → ∀ nb, H' nb = none → PtAt H (upd (upd H' nb (.lst (vS [t]))) bl (.lst (bas.map V.ref ++ [V.ref nb]))) p c bl ml (b + 2 * (i + 1)) (bareFr B).members (i + 1) (bas ++ [nb]) (bss ++ [[t]]) := fun g nb hn => g.new ht hn
      have hzb : (bas.map V.ref).length < sizeLine := small1000 (by rw [List.length_map]; omega)
      have hz1 : ([V.str t] : List V).length ≤ sizeLine := by rw [sizeLine_eq]; exact (by show 1 ≤ 16777216; decide)
      by_cases hlt : (at_ : Int) < ((bas.map V.ref).length : Nat)
      · rw [decide_eq_true hlt]
        rw [List.length_map] at hlt
        have hlt : at_ < bas.length := by omega
        obtain ⟨ba, hba⟩ : ∃ ba, bas[at_]? = some ba := ⟨_, List.getElem?_eq_getElem hlt⟩
        obtain ⟨bs, hbs, hbb⟩ := paired_at g10.hb hba
        have hbas : (bas.map V.ref)[at_]? = some (.ref ba) := by rw [List.getElem?_map, hba]; rfl
        have hzs : (vS bs).length < sizeLine := small1000 (by
          have h1 := mem_len (List.mem_of_getElem? hbs)
          have h2 := g.fl.length_eq
          rw [List.length_take] at h2
          rw [vS_len]
          omega)
        have hpg : ("power" : Str) ∈ bs → t ≠ "ground" := fun hp e => by
          have h1 := g.fl.mem_iff.mp (List.mem_flatten.mpr ⟨bs, List.mem_of_getElem? hbs, hp⟩)
          have h2 := members_pw (bareFr B)
          rw [← List.take_append_drop (i + 1) (bareFr B).members, take_snoc ht] at h2
          have h3 := (List.pairwise_append.mp (List.pairwise_append.mp h2).1).2.2 _ h1 t List.mem_cons_self
          rw [e, gp_order] at h3
          cases h3
        refine iteT ⟨_, rfl, rfl, _, rfl, ?_⟩
        by_cases hpw : t = "power"
        · rw [decide_eq_true (by rw [hpw])]
          refine iteT ⟨_, rfl, _, rfl, bl, _, _, .ref ba, rfl, rfl, SqL.of g10.hbl, atI_nat hbas, ba, _, rfl, .inl (SqL.of hbb), rfl, vS_flat _, ?_⟩
          rw [inV_strs]
          by_cases hg : ("ground" : Str) ∈ bs
          · rw [decide_eq_true hg]
            refine ⟨true, rfl, _, rfl, false, rfl, iteF ⟨_, rfl, .inl ⟨rfl, _, SqL.of g10.hbl⟩, _, rfl, hz1, fun nb hnb => ⟨bl, _, _, rfl, rfl, same_new hnb _ _ g10.hbl, hzb, ⟨_, _, _, rfl⟩, _, _, hnew g10 nb hnb⟩⟩⟩
          · rw [decide_eq_false hg]
            refine ⟨false, rfl, _, rfl, true, rfl, iteT ⟨_, rfl, _, rfl, bl, _, _, .ref ba, rfl, rfl, SqL.of g10.hbl, atI_nat hbas, .inl ⟨rfl, _, SqL.of hbb⟩, _, rfl, ba, _, _, rfl, rfl, hbb, hzs, ⟨_, _, _, rfl⟩, bas, bss.set at_ (bs ++ [t]), ?_⟩⟩
            have := g10.put ht hba hbs fun z => absurd z (by
              rw [List.mem_append, not_or]
              exact ⟨hg, fun z => absurd ((List.mem_singleton.mp z).trans hpw) (by decide +kernel)⟩)
            rw [vS_app] at this
            exact this
        · rw [decide_eq_false (fun z => hpw (by injection z))]
          refine iteF ⟨false, rfl, _, rfl, true, rfl, iteT ⟨_, rfl, _, rfl, bl, _, _, .ref ba, rfl, rfl, SqL.of g10.hbl, atI_nat hbas, .inl ⟨rfl, _, SqL.of hbb⟩, _, rfl, ba, _, _, rfl, rfl, hbb, hzs, ⟨_, _, _, rfl⟩, bas, bss.set at_ (bs ++ [t]), ?_⟩⟩
          have := g10.put ht hba hbs fun z => by
            rw [List.mem_append, not_or]
            refine ⟨fun y => ?_, fun y => hpw (List.mem_singleton.mp y).symm⟩
            rcases List.mem_append.mp z with z | z
            · exact g10.rl bs (List.mem_of_getElem? hbs) z y
            · exact hpg y (List.mem_singleton.mp z).symm
          rw [vS_app] at this
          exact this
      · rw [decide_eq_false hlt]
        exact iteF ⟨_, rfl, false, rfl, iteF ⟨_, rfl, .inl ⟨rfl, _, SqL.of g10.hbl⟩, _, rfl, hz1, fun nb hnb => ⟨bl, _, _, rfl, rfl, same_new hnb _ _ g10.hbl, hzb, ⟨_, _, _, rfl⟩, _, _, hnew g10 nb hnb⟩⟩⟩
    · obtain ⟨⟨x3, x4, x5, rfl⟩, bas, bss, g⟩ := h8
      have fl := g.fl
      have pen := g.pen
      rw [vS_len, List.take_length] at fl
      rw [vS_len] at pen
      refine ⟨_, rfl, q bl bas bss _ g.s (pen.le (by omega)) g.hbl g.hb ⟨g.ne, fun z hz n hn => fl.mem_iff.mp (List.mem_flatten.mpr ⟨z, hz, hn⟩), fl.nodup_iff.mpr (members_nd (bare_ok ok)), g.rl, by rw [fl.length_eq]; omega, fun m hm => ?_⟩⟩
      obtain ⟨z, hz, hm⟩ := List.mem_flatten.mp (fl.mem_iff.mpr hm)
      exact ⟨z, hz, hm⟩
end
end Sj
set_option Elab.async false
set_option linter.all false
set_option maxRecDepth 100000
set_option maxHeartbeats 4000000
/-! SjRule13: how long a text of sorts can be; repr of a tuple of texts. -/
namespace Sj
open PySem PySem.Spec PyProof.Rows L2 He
theorem len_s {s : Str} (h : okS s = true) : s.cps.size ≤ 8 := by
  unfold okS at h
  rcases Bool.or_eq_true_iff.mp h with h | h
  · unfold okName at h
    exact (of_decide_eq_true (ba h).1).2
  · rcases Bool.or_eq_true_iff.mp h with h | h
    · rw [of_decide_eq_true h]; decide +kernel
    · rw [of_decide_eq_true h]; decide +kernel
theorem weight_strs : ∀ {xs : List Str}, AllS xs → PyData.weightAll (xs.map .str) ≤ 9 * xs.length
  | [], _ => by simp [PyData.weightAll]
  | x :: xs, h => by
    have h1 := len_s (h x List.mem_cons_self)
    have h2 := weight_strs (xs := xs) fun s hs => h s (List.mem_cons_of_mem _ hs)
    rw [List.map_cons, PyData.weightAll, PyData.weight, List.length_cons]
    omega
theorem weight_dTs : ∀ {gs : List (List Str)}, (∀ g ∈ gs, AllS g ∧ g.length ≤ 42) → PyData.weightAll (gs.map dT) ≤ 379 * gs.length
  | [], _ => by simp [PyData.weightAll]
  | x :: xs, h => by
    have h1 := weight_strs (h x List.mem_cons_self).1
    have h2 := (h x List.mem_cons_self).2
    have h3 := weight_dTs (gs := xs) fun s hs => h s (List.mem_cons_of_mem _ hs)
    rw [List.map_cons, PyData.weightAll, dT, PyData.weight, List.length_cons]
    omega
theorem ints_strs : ∀ xs : List Str, PyData.intsShortAll 13 (xs.map .str) = true
  | [] => by simp [PyData.intsShortAll]
  | x :: xs => by
    rw [List.map_cons, PyData.intsShortAll, ints_strs xs, PyData.intsShort]
    rfl
theorem ints_dTs : ∀ gs : List (List Str), PyData.intsShortAll 13 (gs.map dT) = true
  | [] => by simp [PyData.intsShortAll]
  | x :: xs => by
    rw [List.map_cons, PyData.intsShortAll, ints_dTs xs, dT, PyData.intsShort, ints_strs]
    rfl
def SmS (xs : List Str) : Prop := AllS xs ∧ xs.length ≤ 42
theorem shown_dT {xs : List Str} (h : SmS xs) : (dT xs).shown.length ≤ sizeLine := by
  have h1 : PyData.layable0 (dT xs) = true := by
    unfold PyData.layable0 dT
    rw [PyData.canLay0, lay_strs h.1, PyData.depth, depth_strs, PyData.weight]
    have := weight_strs h.1
    have := h.2
    simp
    omega
  have := shown_le13 h1 (by unfold dT; rw [PyData.intsShort, ints_strs])
  rw [sizeLine_eq]
  omega
theorem shown_sorts {gs : List (List Str)} {i l m : List Str} (hg : ∀ g ∈ gs, SmS g) (hz : gs.length ≤ 42) (h1 : SmS i) (h2 : SmS l) (h3 : SmS m) : (dSorts gs i l m).shown.length ≤ sizeLine := by
  have hd := (sorts_facts gs i l m).2.2
  have w : PyData.weight (dSorts gs i l m) ≤ 20000 := by
    unfold dSorts
    have a1 := weight_dTs hg
    have a2 := weight_strs h1.1
    have a3 := weight_strs h2.1
    have a4 := weight_strs h3.1
    have b2 := h1.2
    have b3 := h2.2
    have b4 := h3.2
    rw [PyData.weight, PyData.weightAll, PyData.weightAll, PyData.weightAll, PyData.weightAll, PyData.weightAll, PyData.weight, dT, dT, dT, PyData.weight, PyData.weight, PyData.weight]
    omega
  have lay : PyData.canLay0 (dSorts gs i l m) = true := by
    unfold dSorts
    rw [PyData.canLay0, PyData.canLayAll0, PyData.canLayAll0, PyData.canLayAll0, PyData.canLayAll0, PyData.canLayAll0, PyData.canLay0, lay_dTs fun g h => (hg g h).1, dT, dT, dT, PyData.canLay0, PyData.canLay0, PyData.canLay0, lay_strs h1.1, lay_strs h2.1, lay_strs h3.1]
    rfl
  have hl : PyData.layable0 (dSorts gs i l m) = true := by
    unfold PyData.layable0
    rw [lay]
    simp
    omega
  have := shown_le13 hl (by
    unfold dSorts
    rw [PyData.intsShort, PyData.intsShortAll, PyData.intsShortAll, PyData.intsShortAll, PyData.intsShortAll, PyData.intsShortAll, PyData.intsShort, ints_dTs, dT, dT, dT, PyData.intsShort, PyData.intsShort, PyData.intsShort, ints_strs, ints_strs, ints_strs]
    rfl)
  rw [sizeLine_eq]
  omega
section
variable {X : Cx} {k : Nat}
/-- repr(t), t a tuple of texts -/
def rReprT (K : Frg) : List V → Hp → VK → Prop := fun vs H Q => ∃ (a : Addr) (xs : List Str), vs = [.ref a] ∧ SqT K H a (vS xs) ∧ SmS xs ∧ Q (.str (dT xs).shown) H
theorem cr_reprT (hr : Room k X.A) (hgd : X.A.guards = some []) : CallR X (.builtin "repr") (rReprT X.K) := by
  intro pins s σ H vs us Q I r h
  obtain ⟨a, xs, rfl, ha, sm, q⟩ := h
  obtain rfl := Vals.ref1 r
  have f1 : (dT xs).showable = true := by simp [dT, PyData.showable, show_strs]
  have f2 : (dT xs).hasDict = false := by simp [dT, PyData.hasDict, nodict_strs]
  have f3 : (dT xs).depth ≤ 1 := by
    rw [dT, PyData.depth, depth_strs]
    omega
  have hu := hr.units
  exact repr_of_reads' (sT_reads I ha) f1 (fun e => by rw [f2] at e; cases e) hgd (by omega) (fun _ _ e => e) (fun h' u tk k => ⟨.str _, H, I.kept (t' := tk) k, ⟨u, rfl⟩, q⟩) (shown_dT sm)
end
end Sj
set_option Elab.async false
set_option linter.all false
set_option maxRecDepth 100000
set_option maxHeartbeats 4000000
/-! SjLaw10: _law_sorts, _law_is_finer. -/
namespace Sj
open PySem PySem.Spec PyProof.Rows L2 He
theorem nodup_len {α : Type} [DecidableEq α] : ∀ {xs ys : List α}, xs.Nodup → (∀ x ∈ xs, x ∈ ys) → xs.length ≤ ys.length
  | [], _, _, _ => Nat.zero_le _
  | x :: r, ys, nd, h => by
    obtain ⟨n1, n2⟩ := List.nodup_cons.mp nd
    have h1 := h x List.mem_cons_self
    have h2 := nodup_len (xs := r) (ys := ys.erase x) n2 fun y hy => (List.mem_erase_of_ne (fun e => n1 (by rw [← e]; exact hy))).mpr (h y (List.mem_cons_of_mem _ hy))
    rw [List.length_erase_of_mem h1] at h2
    have := List.length_pos_of_mem h1
    rw [List.length_cons]
    omega
section
variable {f : Fr} {blk : Str → List Str} {rs : Rows}
theorem sm_sub (ok : f.Ok) {xs : List Str} (h : xs.Sublist f.members) : SmS xs := ⟨fun s hs => members_s ok s (h.subset hs), Nat.le_trans h.length_le (members_few ok)⟩
theorem sm_class (ok : f.Ok) (n : Str) : SmS (classOf f blk rs n) := sm_sub ok List.filter_sublist
theorem sm_idle (ok : f.Ok) : SmS (idleOf f blk rs) := sm_sub ok List.filter_sublist
theorem sm_locked (ok : f.Ok) : SmS (lockedOf f blk rs) := sm_sub ok (List.filter_sublist.trans List.filter_sublist)
theorem sm_mute (ok : f.Ok) : SmS (muteOf f blk rs) := sm_sub ok (List.filter_sublist.trans List.filter_sublist)
theorem cls_few (ok : f.Ok) {cs : List (List Str)} (h : ClsOf f blk rs cs) : cs.length ≤ 42 := by
  have h1 := nodup_len (ys := f.members.map (classOf f blk rs)) h.nd fun g hg => by
    obtain ⟨m, hm, e⟩ := (h.mem g).mp hg
    rw [e]
    exact List.mem_map_of_mem hm
  rw [List.length_map] at h1
  exact Nat.le_trans h1 (members_few ok)
theorem sm_cls (ok : f.Ok) {cs : List (List Str)} (h : ClsOf f blk rs cs) : ∀ g ∈ cs, SmS g := fun g hg => by
  obtain ⟨m, _, e⟩ := (h.mem g).mp hg
  rw [e]
  exact sm_class ok m
end
theorem RdAt.frok {K : Frg} {H : Hp} {a : Addr} {f : Fr} {blk : Str → List Str} {rs : Rows} (h : RdAt K H a f blk rs) : f.Ok := by
  obtain ⟨dx, fa, ta, l2, rda, dva, gra, hi, ia, lo, gs, e, r⟩ := h
  exact r.fr.ok
theorem RdAt.tok {K : Frg} {H : Hp} {a : Addr} {f : Fr} {blk : Str → List Str} {rs : Rows} (h : RdAt K H a f blk rs) : TabOk f blk rs := by
  obtain ⟨dx, fa, ta, l2, rda, dva, gra, hi, ia, lo, gs, e, r⟩ := h
  exact r.ok
theorem RdAt.ins {K : Frg} {H : Hp} {a : Addr} {f : Fr} {blk : Str → List Str} {rs : Rows} (h : RdAt K H a f blk rs) : ∃ dx ta l2 rda dva gra hi ia lo, H a = some (.ins (ga K "Readings") dx (rdFs ta l2 rda dva gra hi ia lo)) := by
  obtain ⟨dx, fa, ta, l2, rda, dva, gra, hi, ia, lo, gs, e, r⟩ := h
  exact ⟨dx, ta, l2, rda, dva, gra, hi, ia, lo, e⟩
def SortsAt (K : Frg) (H : Hp) (l : Addr) (f : Fr) (blk : Str → List Str) (rs : Rows) : Prop := ∃ (c : Addr) (bs : List TT2) (vi vl vm : V), H l = some (.lst [.ref c, vi, vl, vm]) ∧ H c = some (.tup (bs.map refT)) ∧ (∀ b ∈ bs, H b.1 = some (.tup (vS b.2))) ∧ ClsOf f blk rs (bs.map (·.2)) ∧
  ShT K H vi (idleOf f blk rs) ∧ ShT K H vl (lockedOf f blk rs) ∧ ShT K H vm (muteOf f blk rs)
section
variable {P : Program} {w : World} {K : Frg} {mg : Str → Option Value} {base h : Heap}
def sp_law_sorts (K : Frg) : Sp := fun vs H Q _ => ∃ (a : Addr) (f : Fr) (blk : Str → List Str) (rs : Rows), vs = [.ref a] ∧ RdAt K H a f blk rs ∧ ∀ l H', Same H H' → SortsAt K H' l f blk rs → Q (.ref l) H'
theorem ok_law_sorts (T : Txt K mg h) : GF P w K mg base "_law_sorts" 7 (sp_law_sorts K) := by
  refine ⟨_, T.g_law_sorts, keepX T.d_law_sorts, mkFn T.d_law_sorts sc_law_sorts rfl (fun _ _ _ _ _ _ us hl => match us, hl with | [_], _ => rfl) (fun vs H Q E h => ?_) (fun cdv A outer s H vs Q E hr h => ?_)⟩
  · obtain ⟨a, f, blk, rs, rfl, _⟩ := h
    rfl
  · obtain ⟨a, f, blk, rs, rfl, hra, q⟩ := h
    refine ⟨_, pss_one (ps_ret (pe_lst (pa_cons (pp (pr_Readings_classes T) hr (pv 0)) (pa_cons (pp (pr_Readings_idle T) hr (pv 0)) (pa_cons (pp (pr_Readings_locked T) hr (pv 0)) (pa_cons (pp (pr_Readings_mute T) hr (pv 0)) pa_nil)))))), ?_⟩
    have hin : ∀ {H' : Hp}, Same H H' → ∃ dx fs, H' a = some (.ins (ga K "Readings") dx fs) := fun s => by
      obtain ⟨dx, ta, l2, rda, dva, gra, hi, ia, lo, e⟩ := hra.ins
      exact ⟨_, _, s _ _ e⟩
    obtain ⟨dx1, fs1, e1⟩ := hin (Same.refl _)
    refine ⟨_, rfl, a, dx1, fs1, rfl, e1, a, f, blk, rs, rfl, hra, fun c bs H1 s1 hc hb hcls => ?_⟩
    refine ⟨_, rfl, a, dx1, fs1, rfl, s1 _ _ e1, a, f, blk, rs, rfl, hra.mono (Same.L s1), fun pi hi => ?_⟩
    refine ⟨_, rfl, a, dx1, fs1, rfl, s1 _ _ e1, a, f, blk, rs, rfl, hra.mono (Same.L s1), fun pl H2 s2 hl => ?_⟩
    have t2 := s1.trans s2
    refine ⟨_, rfl, a, dx1, fs1, rfl, t2 _ _ e1, a, f, blk, rs, rfl, hra.mono (Same.L t2), fun pm H3 s3 hm => ?_⟩
    have t3 := t2.trans s3
    refine ⟨by rw [sizeLine_eq]; exact (by show 4 ≤ 16777216; decide), fun l hln => ?_⟩
    have s4 := same_new (o := .lst [V.ref c, V.ref pi, V.ref pl, V.ref pm]) hln
    have t24 := (s2.trans s3).trans s4
    exact q l _ (t3.trans s4) ⟨c, bs, _, _, _, upd_same, t24 _ _ hc, fun b hb2 => t24 _ _ (hb b hb2), hcls, ⟨pi, rfl, hi.ext t24⟩, ⟨pl, rfl, SqT.of ((s3.trans s4) _ _ hl)⟩, ⟨pm, rfl, SqT.of (s4 _ _ hm)⟩⟩
def sp_law_is_finer (K : Frg) : Sp := fun vs H Q _ => ∃ (a b : Addr) (f : Fr) (blk : Str → List Str) (rs rs' : Rows), vs = [.ref a, .ref b] ∧ RdAt K H a f blk rs ∧ RdAt K H b f blk rs' ∧ (∀ r ∈ rs', r ∈ rs) ∧ ∀ H', Same H H' → Q (.bl true) H'
theorem ok_law_is_finer (T : Txt K mg h) : GF P w K mg base "_law_is_finer" 5 (sp_law_is_finer K) := by
  refine ⟨_, T.g_law_is_finer, keepX T.d_law_is_finer, mkFn T.d_law_is_finer sc_law_is_finer rfl (fun _ _ _ _ _ _ us hl => match us, hl with | [_, _], _ => rfl) (fun vs H Q E h => ?_) (fun cdv A outer s H vs Q E hr h => ?_)⟩
  · obtain ⟨a, b, f, blk, rs, rs', rfl, _⟩ := h
    rfl
  · obtain ⟨a, b, f, blk, rs, rs', rfl, ha, hb, hsub, q⟩ := h
    refine ⟨_, pss_cons (pfor 2 sc_law_is_finer.nd (pi_tup (pp (pr_Readings_classes T) hr (pv 0)))
      (pss_one (ps_if (pt_cmpR (op_neS false hr (K := K)) (plcIf 3 sc_law_is_finer.nd (pi_tup (pv 2)) (fun _ _ _ _ _ => pt_cmpR (r := rIn K true) op_notIn_seq (pv 3) (pm (mf_Readings_class_of T) hr (pv 1) (pa_cons (pe_ix (r := rIxT K) ix_tup (pv 2) pe_int (fun _ _ => rfl)) pa_nil)) (by rfl)) (fun _ _ _ _ _ => pv 3)) (pe_lst pa_nil) (by rfl)) (pss_one (ps_ret pe_bl)) pss_nil)))
      (pss_one (ps_ret pe_bl)), ?_⟩
    have fok := ha.frok
    obtain ⟨dxa, _, _, _, _, _, _, _, _, ea⟩ := ha.ins
    obtain ⟨dxb, _, _, _, _, _, _, _, _, eb⟩ := hb.ins
    refine ⟨_, rfl, a, dxa, _, rfl, ea, a, f, blk, rs, rfl, ha, fun c bs H1 s1 hc hbs hcls => ⟨c, rfl, ⟨_, SqT.of hc⟩, ?_⟩⟩
    refine for_it (walk_tup (xs := bs.map refT)) (fun _ σ H' => (∃ x y, σ = [some (.ref a), some (.ref b), x, y]) ∧ Same H1 H') ⟨⟨_, _, rfl⟩, Same.refl _⟩ (fun i σ H' _ h => SqT.of (h.2 _ _ hc)) (fun i x σ H2 H' hi h2 hy => ?_) (fun σ H2 h2 => ?_)
    · obtain ⟨e, hx⟩ := hy
      subst e
      obtain ⟨⟨x2, x3, rfl⟩, s2⟩ := h2
      obtain ⟨g, hg, rfl⟩ := List.mem_map.mp (List.mem_of_getElem? hx)
      have t2 := s1.trans s2
      have hgv := s2 _ _ (hbs g hg)
      obtain ⟨m, hm, eg⟩ := (hcls.mem g.2).mp (List.mem_map_of_mem hg)
      obtain ⟨n, r, hnr⟩ : ∃ n r, g.2 = n :: r := by
        cases e : g.2 with
        | nil => have := class_self (blk := blk) (rs := rs) hm; rw [← eg, e] at this; cases this
        | cons n r => exact ⟨n, r, rfl⟩
      have hn1 : n ∈ classOf f blk rs m := by rw [← eg, hnr]; exact List.mem_cons_self
      have hnm := (class_mem hn1).1
      refine ⟨_, rfl, g.1, rfl, ⟨_, SqT.of hgv⟩, fun D hD => ?_⟩
      refine lfS walk_tup (fun n => false) hD (fun H' s => SqT.of (s _ _ hgv)) (by rw [eg]; have := class_few fok blk rs m; omega) (fun _ => rfl) (fun _ => rfl) (fun z hz H3 s3 Q3 q3 => ?_) fun H3 s3 hd3 => ?_
      · have t3 := t2.trans s3
        refine ⟨_, rfl, _, rfl, b, dxb, _, rfl, t3 _ _ eb, rfl, _, rfl, g.1, _, 0, .str n, rfl, rfl, SqT.of (s3 _ _ hgv), atI_nat (j := 0) (by rw [hnr]; rfl), b, f, blk, rs', n, rfl, hb.mono (Same.L t3), hnm, fun p hp => ⟨p, _, rfl, .inr (SqT.of hp), rfl, vS_flat _, ?_⟩⟩
        have hz2 : z ∈ classOf f blk rs' n := by
          refine class_less hsub ?_
          rw [class_of_mem hn1, ← eg]
          exact hz
        rw [inV_strs, decide_eq_true hz2]
        exact ⟨_, rfl, q3 H3 (Same.refl _)⟩
      · rw [List.filter_eq_nil_iff.mpr (fun _ _ => by simp)] at hd3
        refine ⟨Nat.zero_le _, fun pe hpe => ?_⟩
        have s4 := same_new (o := .lst []) hpe
        refine ⟨D, pe, [], [], rfl, rfl, SqL.of (s4 _ _ hd3), SqL.of upd_same, (fun _ h => by cases h), (fun _ h => by cases h), _, rfl, ?_⟩
        rw [decide_eq_true rfl]
        exact iteF ⟨⟨_, _, rfl⟩, (s2.trans s3).trans s4⟩
    · obtain ⟨⟨x2, x3, rfl⟩, s2⟩ := h2
      exact q _ (s1.trans s2)
end
end Sj
set_option Elab.async false
set_option linter.all false
set_option maxRecDepth 100000
set_option maxHeartbeats 4000000
/-! SjLaw11: what stands while the law asks; _law_less_right. -/
namespace Sj
open PySem PySem.Spec PyProof.Rows L2 He
/-- pen, bare frame, blocks, rows and readings of a turn -/
structure StAt (K : Frg) (H : Hp) (p c d bl rw ta : Addr) (B : Bare) (bas ras : List Addr) (bss : List (List Str)) (rows : Rows) (b : Nat) : Prop where
  pen : PenAt H p c b
  bare : BareAt H d B
  ok : BareOk B
  hbl : H bl = some (.lst (bas.map V.ref))
  hbs : BlksAt H bas bss
  pok : PartOk (bareFr B) bss
  hrw : H rw = some (.lst (ras.map V.ref))
  hrs : RowsAt H ras rows
  rok : ∀ r ∈ rows, RowOk (bareFr B) r
  few : rows.length ≤ 6
  pos : 0 < rows.length
  tab : LamX.TabS H (tF K) lamQ
  told : RdAt K H ta (bareFr B) (blkFor bss) (rsOf (bareFr B) rows)
theorem StAt.q {K : Frg} {H H' : Hp} {p c d bl rw ta : Addr} {B : Bare} {bas ras : List Addr} {bss : List (List Str)} {rows : Rows} {b b' : Nat} (g : StAt K H p c d bl rw ta B bas ras bss rows b) (s : SameQ K p H H') (hp : PenAt H' p c b') : StAt K H' p c d bl rw ta B bas ras bss rows b' where
  pen := hp
  bare := g.bare.mono (s.L g.pen)
  ok := g.ok
  hbl := s.L g.pen _ _ g.hbl nl_refs
  hbs := paired_imp (fun _ _ z => s.L g.pen _ _ z nl_strs) g.hbs
  pok := g.pok
  hrw := s.L g.pen _ _ g.hrw nl_refs
  hrs := paired_imp (fun _ _ z => s.L g.pen _ _ z nl_dK) g.hrs
  rok := g.rok
  few := g.few
  pos := g.pos
  tab := s.tab g.tab
  told := g.told.mono (s.L g.pen)
theorem PenAt.q0 {p c : Addr} {b : Nat} {H H' : Hp} {K : Frg} (h : PenAt H p c b) (s : Same H H') : SameQ K p H H' ∧ PenAt H' p c b := ⟨Same.Q s, h.ext s⟩
theorem rows_take {H : Hp} {ras : List Addr} {rows : Rows} (h : RowsAt H ras rows) (n : Nat) : RowsAt H (ras.take n) (rows.take n) := by
  unfold RowsAt at h ⊢
  induction h generalizing n with
  | nil => rw [List.take_nil, List.take_nil]; exact .nil
  | cons h t ih =>
    cases n with
    | zero => exact .nil
    | succ n => exact .cons h (ih n)
theorem rows_drop {H : Hp} {ras : List Addr} {rows : Rows} (h : RowsAt H ras rows) (n : Nat) : RowsAt H (ras.drop n) (rows.drop n) := by
  unfold RowsAt at h ⊢
  induction h generalizing n with
  | nil => rw [List.drop_nil, List.drop_nil]; exact .nil
  | cons h t ih =>
    cases n with
    | zero => exact .cons h t
    | succ n => exact ih n
theorem cut_take {xs : List V} {n : Nat} (h : n ≤ xs.length) : cutV xs none (some (n : Nat)) = xs.take n := by
  unfold cutV
  rw [HT.sIx_none, HT.sIx_nat, List.drop_zero, Nat.sub_zero, Nat.min_eq_left h]
theorem cut_drop {xs : List V} {n : Nat} (h : n ≤ xs.length) : cutV xs (some (n : Nat)) none = xs.drop n := by
  unfold cutV
  rw [HT.sIx_none, HT.sIx_nat, Nat.min_eq_left h]
  exact List.take_of_length_le (by rw [List.length_drop]; omega)
theorem rs_sub {f : Fr} {rows rows' : Rows} (h : ∀ r ∈ rows', r ∈ rows) : ∀ r ∈ rsOf f rows', r ∈ rsOf f rows := fun r hr => by
  rw [rsOf_map] at hr ⊢
  obtain ⟨q, hq, e⟩ := List.mem_map.mp hr
  refine List.mem_map.mpr ⟨q, ?_, e⟩
  rcases List.mem_cons.mp hq with z | z
  · rw [z]; exact List.mem_cons_self
  · exact List.mem_cons_of_mem _ (h q z)
/-- what follows is shown once -/
theorem cutG {G : Prop} {S : Hp → Prop} {R : Hp → Prop} (h1 : (∀ H, S H → R H) → G) (h2 : ∀ H, S H → R H) : G := h1 h2
section
variable {P : Program} {w : World} {K : Frg} {mg : Str → Option Value} {base h : Heap}
def sp_law_less_right (K : Frg) : Sp := fun vs H Q _ => ∃ (p c d bl rw ta : Addr) (B : Bare) (bas ras : List Addr) (bss : List (List Str)) (rows : Rows) (b : Nat), vs = [.ref p, .ref d, .ref bl, .ref rw, .ref ta] ∧ StAt K H p c d bl rw ta B bas ras bss rows b ∧ b < 800000 ∧
  ∀ H', SameQ K p H H' → PenAt H' p c (b + 10000) → Q (.bl true) H'
theorem ok_law_less_right (T : Txt K mg h) (TB : LamX.TabB base mg (cF K) (tF K)) : GF P w K mg base "_law_less_right" 18 (sp_law_less_right K) := by
  refine ⟨_, T.g_law_less_right, keepX T.d_law_less_right, mkFn T.d_law_less_right sc_law_less_right rfl (fun _ _ _ _ _ _ us hl => match us, hl with | [_, _, _, _, _], _ => rfl) (fun vs H Q E h => ?_) (fun cdv A outer s H vs Q E hr h => ?_)⟩
  · obtain ⟨p, c, d, bl, rw, ta, B, bas, ras, bss, rows, b, rfl, _⟩ := h
    rfl
  · obtain ⟨p, c, d, bl, rw, ta, B, bas, ras, bss, rows, b, rfl, st, hb, q⟩ := h
    refine ⟨_, pss_cons (pset 5 sc_law_less_right.nd (pc (ok_law_draw T) hr (pa_cons (pv 0) (pa_cons (plen T (pv 3)) pa_nil))))
      (pss_cons (pset 6 sc_law_less_right.nd (pc (ok_law_readings T TB) hr (pa_cons (pv 1) (pa_cons (pv 2) (pa_cons (pe_op op_cat (pe_slice sl_list (pv 3) po_none (po_some (pv 5))) (pe_slice sl_list (pv 3) (po_some (pe_op op_add (pv 5) pe_int)) po_none)) pa_nil)))))
      (pss_cons (ps_if (PW.pt (pw_or (pt_not (pt_val (pc (ok_law_is_finer T) hr (pa_cons (pv 4) (pa_cons (pv 6) pa_nil))))) (pw_or1 (pt_cmpR (op_neS false hr (K := K)) (plcIf 10 sc_law_less_right.nd (pi_tup (pp (pr_Readings_idle T) hr (pv 4))) (fun _ _ _ _ _ => pt_cmpR (r := rIn K true) op_notIn_seq (pv 10) (pp (pr_Readings_idle T) hr (pv 6)) (by rfl)) (fun _ _ _ _ _ => pv 10)) (pe_lst pa_nil) (by rfl))))) (pss_one (ps_ret pe_bl)) pss_nil)
      (pss_cons (pfor 7 sc_law_less_right.nd (pi_tup (pp (pr_Readings_classes T) hr (pv 4)))
        (pss_cons (pslIf 8 10 sc_law_less_right.nd (pi_tup (pv 7)) (fun _ _ _ _ _ => pt_cmpR op_eq (pc (ok_law_draw T) hr (pa_cons (pv 0) (pa_cons pe_int pa_nil))) pe_int (by rfl)) (fun _ _ _ _ _ => pv 10))
        (pss_cons (ps_if (PW.pt (pw_and (pt_val (pm (mf_Readings_is_cover T) hr (pv 4) (pa_cons (pv 8) pa_nil))) (pw_and1 (pt_not (pt_val (pm (mf_Readings_is_cover T) hr (pv 4) (pa_cons (plist T (pv 7)) pa_nil))))))) (pss_one (ps_ret pe_bl)) pss_nil)
        (pss_cons (ps_if (PW.pt (pw_and (pt_cmpR (op_neS true hr (K := K)) (pv 7) (pp (pr_Readings_idle T) hr (pv 4)) (by rfl)) (pw_and1 (pt_not (pt_val (pm (mf_Readings_is_cover T) hr (pv 4) (pa_cons (pv 7) pa_nil))))))) (pss_one (ps_ret pe_bl)) pss_nil)
        (pss_cons (pslIf 9 10 sc_law_less_right.nd (pi_tup (pm (mf_Readings_class_of T) hr (pv 6) (pa_cons (pe_ix ix_tup (pv 7) pe_int (fun _ _ => rfl)) pa_nil))) (fun _ _ _ _ _ => pt_cmpR (r := rIn K true) op_notIn_seq (pv 10) (pv 7) (by rfl)) (fun _ _ _ _ _ => pv 10))
        (pss_one (ps_if (PW.pt (pw_and (pt_cmpR (op_eqS false hr (K := K)) (pv 9) (pe_lst pa_nil) (by rfl)) (pw_and (pt_val (pm (mf_Readings_is_cover T) hr (pv 4) (pa_cons (pv 8) pa_nil))) (pw_and (pt_cmpR (op_neS true hr (K := K)) (pv 7) (pp (pr_Readings_idle T) hr (pv 6)) (by rfl)) (pw_and1 (pt_not (pt_val (pm (mf_Readings_is_cover T) hr (pv 6) (pa_cons (pv 8) pa_nil))))))))) (pss_one (ps_ret pe_bl)) pss_nil)))))))
      (pss_one (ps_ret pe_bl))))), ?_⟩
    have hlr : rows.length = ras.length := paired_len st.hrs
    have hlen : (ras.map V.ref).length = rows.length := by rw [List.length_map, hlr]
    have few := st.few
    have pos := st.pos
    refine ⟨_, rfl, _, rfl, rw, _, rfl, .inl (SqL.of st.hrw), p, c, rows.length, b, by rw [hlen], st.pen, st.pos, by omega, by omega, fun at_ H1 s1 hp1 hat => ?_⟩
    have st1 := st.q (s1.Q st.pen) hp1
    refine ⟨_, rfl, _, rfl, _, rfl, _, rfl, _, rfl, rw, _, rfl, SqL.of st1.hrw, fun l1 hl1 => ?_⟩
    rw [cut_take (by rw [hlen]; omega)]
    have t1 := same_new (o := .lst ((ras.map V.ref).take at_)) hl1
    refine ⟨_, rfl, _, rfl, _, _, rfl, rfl, _, rfl, rw, _, rfl, SqL.of (t1 _ _ st1.hrw), fun l2 hl2 => ?_⟩
    rw [show ((at_ : Nat) : Int) + 1 = ((at_ + 1 : Nat) : Int) from rfl, cut_drop (by rw [hlen]; omega)]
    have t2 := t1.trans (same_new (o := .lst ((ras.map V.ref).drop (at_ + 1))) hl2)
    have e12 := same_new (o := .lst ((ras.map V.ref).drop (at_ + 1))) hl2 _ _ (upd_same (H := H1) (a := l1) (o := .lst ((ras.map V.ref).take at_)))
    refine ⟨l1, l2, _, _, rfl, rfl, e12, upd_same, by rw [List.length_take, List.length_drop, hlen, sizeLine_eq]; omega, fun l3 hl3 => ?_⟩
    have t3 := t2.trans (same_new (o := .lst ((ras.map V.ref).take at_ ++ (ras.map V.ref).drop (at_ + 1))) hl3)
    have e3 : (upd (upd (upd H1 l1 (.lst ((ras.map V.ref).take at_))) l2 (.lst ((ras.map V.ref).drop (at_ + 1)))) l3 (.lst ((ras.map V.ref).take at_ ++ (ras.map V.ref).drop (at_ + 1)))) l3 = some (.lst ((ras.take at_ ++ ras.drop (at_ + 1)).map V.ref)) := by rw [upd_same, List.map_append, List.map_take, List.map_drop]
    generalize upd (upd (upd H1 l1 (.lst ((ras.map V.ref).take at_))) l2 (.lst ((ras.map V.ref).drop (at_ + 1)))) l3 (.lst ((ras.map V.ref).take at_ ++ (ras.map V.ref).drop (at_ + 1))) = H4 at t3 e3
    have st4 := st1.q (Same.Q t3) (st1.pen.ext t3)
    have hsub : ∀ r ∈ rows.take at_ ++ rows.drop (at_ + 1), r ∈ rows := fun r hr => (List.mem_append.mp hr).elim List.mem_of_mem_take List.mem_of_mem_drop
    have hsr := rs_sub (f := bareFr B) hsub
    refine ⟨d, bl, l3, B, bas, ras.take at_ ++ ras.drop (at_ + 1), bss, rows.take at_ ++ rows.drop (at_ + 1), rfl, st4.bare, st4.ok, st4.hbl, st4.hbs, st4.pok, e3, paired_app (rows_take st4.hrs at_) (rows_drop st4.hrs (at_ + 1)), fun r hr => st4.rok r (hsub r hr), by rw [List.length_append, List.length_take, List.length_drop]; omega, st4.tab, fun oa H5 (s5 : SameX K H4 H5) ho => ?_⟩
    have st5 := st4.q s5.Q (st4.pen.X s5)
    generalize rsOf (bareFr B) (rows.take at_ ++ rows.drop (at_ + 1)) = rs' at hsr ho
    have fok := bare_ok st.ok
    obtain ⟨dxa, _, _, _, _, _, _, _, _, ea⟩ := st5.told.ins
    obtain ⟨dxb, _, _, _, _, _, _, _, _, eb⟩ := ho.ins
    refine ⟨_, rfl, _, rfl, ta, oa, bareFr B, blkFor bss, _, rs', rfl, st5.told, ho, hsr, fun H6 s6 => ⟨true, rfl, iteF ?_⟩⟩
    have st6 := st5.q (Same.Q s6) (st5.pen.ext s6)
    have ho6 := ho.mono (Same.L s6)
    refine ⟨_, rfl, ta, dxa, _, rfl, s6 _ _ ea, ta, bareFr B, blkFor bss, _, rfl, st6.told, fun pi hi => ⟨pi, rfl, ⟨_, hi⟩, fun D hD => ?_⟩⟩
    refine lfS walk_tup (fun n => false) hD (fun H' s => hi.ext s) (idle_few fok _ _) (fun _ => rfl) (fun _ => rfl) (fun z hz H7 s7 Q7 q7 => ?_) fun H7 s7 hd7 => ?_
    · refine ⟨_, rfl, _, rfl, oa, dxb, _, rfl, s7 _ _ (s6 _ _ eb), oa, bareFr B, blkFor bss, rs', rfl, ho6.mono (Same.L s7), fun p2 hp2 => ⟨p2, _, rfl, .inr hp2, rfl, vS_flat _, ?_⟩⟩
      rw [inV_strs, decide_eq_true (idle_less hsr hz)]
      exact ⟨_, rfl, q7 H7 (Same.refl _)⟩
    rw [List.filter_eq_nil_iff.mpr (fun _ _ => by simp)] at hd7
    refine ⟨Nat.zero_le _, fun pe hpe => ?_⟩
    have t8 := same_new (o := .lst []) hpe
    refine ⟨D, pe, [], [], rfl, rfl, SqL.of (t8 _ _ hd7), SqL.of upd_same, (fun _ h => by cases h), (fun _ h => by cases h), _, rfl, ?_⟩
    rw [decide_eq_true rfl]
    refine iteF ?_
    have s8 := (s6.trans s7).trans t8
    generalize upd H7 pe (.lst []) = H8 at s8
    have st8 := st5.q (Same.Q s8) (st5.pen.ext s8)
    have ho8 := ho.mono (Same.L s8)
    have sq8 : SameQ K p H H8 := (((s1.Q st.pen).trans (Same.Q t3)).trans s5.Q).trans (Same.Q s8)
    refine ⟨_, rfl, ta, dxa, _, rfl, s8 _ _ ea, ta, bareFr B, blkFor bss, _, rfl, st8.told, fun cc bs H9 s9 hc hbs hcls => ⟨cc, rfl, ⟨_, SqT.of hc⟩, ?_⟩⟩
    have st9 := st8.q (Same.Q s9) (st8.pen.ext s9)
    have ho9 := ho8.mono (Same.L s9)
    have sq9 := sq8.trans (Same.Q s9)
    have ea9 := s9 _ _ (s8 _ _ ea)
    have eb9 := s9 _ _ (s8 _ _ eb)
    have hfew : bs.length ≤ 42 := by
      have := cls_few fok hcls
      rw [List.length_map] at this
      exact this
    have hcov := fun n => class_cover (rs := rsOf (bareFr B) rows) (blk := blkFor bss) (n := n) fok st.told.tok
    have tl9 := st9.told
    generalize rsOf (bareFr B) rows = rs at tl9 hcls hcov hsr
    have hp9 : PenAt H9 p c (b + 10) := st9.pen.le (by omega)
    refine for_it (walk_tup (xs := bs.map refT)) (fun i σ H' => (∃ x y z w, σ = [some (.ref p), some (.ref d), some (.ref bl), some (.ref rw), some (.ref ta), some (.int (at_ : Nat)), some (.ref oa), x, y, z, w]) ∧ SameQ K p H9 H' ∧ PenAt H' p c (b + 10 + 100 * i)) ⟨⟨_, _, _, _, rfl⟩, SameQ.refl _ _ _, hp9⟩ (fun i σ H' _ h => SqT.of (h.2.1.L hp9 _ _ hc nl_tup)) (fun i x σ H2 H' hi h2 hy => ?_) (fun σ H2 h2 => ?_)
    · obtain ⟨e, hx⟩ := hy
      subst e
      obtain ⟨⟨x7, x8, x9, x10, rfl⟩, s2, hp2⟩ := h2
      rw [List.length_map] at hi
      obtain ⟨g, hg, rfl⟩ := List.mem_map.mp (List.mem_of_getElem? hx)
      have hgv := s2.L hp9 _ _ (hbs g hg) nl_tup
      have tl := tl9.mono (s2.L hp9)
      have ho2 := ho9.mono (s2.L hp9)
      have ea2 := s2.L hp9 _ _ ea9 nl_ins
      have eb2 := s2.L hp9 _ _ eb9 nl_ins
      obtain ⟨m, hm, eg⟩ := (hcls.mem g.2).mp (List.mem_map_of_mem hg)
      obtain ⟨n, r, hnr⟩ : ∃ n r, g.2 = n :: r := by
        cases e : g.2 with
        | nil => have := class_self (blk := blkFor bss) (rs := rs) hm; rw [← eg, e] at this; cases this
        | cons n r => exact ⟨n, r, rfl⟩
      have hn1 : n ∈ classOf (bareFr B) (blkFor bss) rs m := by rw [← eg, hnr]; exact List.mem_cons_self
      have hnm := (class_mem hn1).1
      have egn : g.2 = classOf (bareFr B) (blkFor bss) rs n := by rw [eg, class_of_mem hn1]
      have hgl : g.2.length ≤ 42 := by rw [eg]; exact class_few fok _ _ _
      have hga : AllS g.2 := by rw [eg]; exact (sm_class fok _).1
      refine ⟨_, rfl, g.1, rfl, ⟨_, SqT.of hgv⟩, fun D hD => ?_⟩
      have nD := hp2.new hD
      refine lc_it (walk_tup (xs := vS g.2)) (fun j H => SameP p H' H ∧ PenAt H p c (b + 10 + 100 * i + j) ∧ ∃ ys, H D = some (.lst (vS ys)) ∧ ys.Sublist (g.2.take j)) ⟨SameP.of (same_new hD), hp2.put nD, [], upd_same, by rw [List.take_zero]; exact .slnil⟩ (fun j H _ h => SqT.of (h.1.L hp2 _ _ hgv nl_tup)) (fun j x H3 H4' hj h3 hy => ?_) (fun H10 h10 => ?_)
      · obtain ⟨e, hx⟩ := hy
        subst e
        obtain ⟨s3, hp3, ys, hys, sub⟩ := h3
        rw [vS_len] at hj
        obtain ⟨t, rfl, ht⟩ := str_at hx
        refine ⟨rfl, _, rfl, p, c, 2, _, rfl, hp3, by decide, by decide, by omega, fun v H11 s11 hp11 hv => ⟨rfl, _, rfl, ?_⟩⟩
        have hys11 := s11 _ _ nD.1 hys
        generalize decide (V.int (v : Nat) = V.int 0) = b1
        cases b1 with
        | true =>
          refine iteT ⟨_, rfl, vS ys, hys11, small1000 (by have := sub.length_le; rw [List.length_take] at this; rw [vS_len]; omega), (s3.trans s11).mut hD, (hp11.put nD).le (by omega), ys ++ [t], by rw [upd_same, vS_app]; rfl, ?_⟩
          rw [take_snoc ht]
          exact sub.append_right [t]
        | false =>
          refine iteF ⟨s3.trans s11, hp11.le (by omega), ys, hys11, ?_⟩
          rw [take_snoc ht]
          exact sub.trans (List.sublist_append_left _ _)
      obtain ⟨s10, hp10, sm, hsome, sub⟩ := h10
      rw [vS_len, List.take_length] at sub
      rw [vS_len] at hp10
      have tl10 := tl.mono (s10.L hp2)
      have ho10 := ho2.mono (s10.L hp2)
      have ea10 := s10.L hp2 _ _ ea2 nl_ins
      have eb10 := s10.L hp2 _ _ eb2 nl_ins
      have hgv10 := s10.L hp2 _ _ hgv nl_tup
      have hnd : g.2.Nodup := by rw [eg]; exact (members_nd fok).sublist List.filter_sublist
      have lk : LikeOk (bareFr B) (blkFor bss) rs g.2 := ⟨fun x hx => (class_mem (eg ▸ hx)).1, hnd, fun x hx y hy => like_class m x (eg ▸ hx) y (eg ▸ hy), by omega⟩
      have lks : LikeOk (bareFr B) (blkFor bss) rs sm := ⟨fun x hx => lk.mem x (sub.subset hx), hnd.sublist sub, fun x hx y hy => lk.like x (sub.subset hx) y (sub.subset hy), by have := sub.length_le; omega⟩
      have lkr : LikeOk (bareFr B) (blkFor bss) rs' sm := ⟨lks.mem, lks.nd, fun x hx y hy => lv_iff.mpr fun r hr => lv_iff.mp (lks.like x hx y hy) r (hsr r hr), lks.few⟩
      apply cutG (S := Same H10)
      case h1 =>
        intro key
        refine ⟨_, rfl, ta, dxa, _, rfl, ea10, rfl, _, rfl, ta, D, bareFr B, blkFor bss, rs, sm, rfl, tl10, .inl hsome, lks, fun H11 s11 => ⟨_, rfl, ?_⟩⟩
        cases hcv : coverOf (bareFr B) (blkFor bss) rs sm with
        | false => exact iteF (key H11 s11)
        | true =>
          refine iteT ⟨_, rfl, ta, dxa, _, rfl, s11 _ _ ea10, rfl, _, rfl, g.1, _, rfl, .inr (SqT.of (s11 _ _ hgv10)), fun l hl => ?_⟩
          have s12 := s11.trans (same_new (o := .lst (vS g.2)) hl)
          refine ⟨ta, l, bareFr B, blkFor bss, rs, g.2, rfl, tl10.mono (Same.L s12), .inl upd_same, lk, fun H13 s13 => ⟨_, rfl, ?_⟩⟩
          rw [cover_more (fun x hx => sub.subset hx) lk.like hcv]
          exact iteF (key H13 (s12.trans s13))
      case h2 =>
        intro H12 s12
        have tl12 := tl10.mono (Same.L s12)
        apply cutG (S := Same H12)
        case h1 =>
          intro key
          refine ⟨_, rfl, _, rfl, ta, dxa, _, rfl, s12 _ _ ea10, ta, bareFr B, blkFor bss, rs, rfl, tl12, fun pi hi => ⟨g.1, pi, g.2, idleOf (bareFr B) (blkFor bss) rs, rfl, rfl, SqT.of (s12 _ _ hgv10), hi, hga, (sm_idle fok).1, _, rfl, ?_⟩⟩
          by_cases hgi : g.2 ≠ idleOf (bareFr B) (blkFor bss) rs
          · rw [decide_eq_false hgi]
            refine iteT ⟨_, rfl, ta, dxa, _, rfl, s12 _ _ ea10, rfl, _, rfl, ta, g.1, bareFr B, blkFor bss, rs, g.2, rfl, tl12, .inr (s12 _ _ hgv10), lk, fun H13 s13 => ⟨_, rfl, ?_⟩⟩
            have := hcov m hm (by rw [← eg]; exact hgi)
            rw [← eg] at this
            rw [this]
            exact iteF (key H13 s13)
          · rw [decide_eq_true (Classical.not_not.mp hgi)]
            exact iteF (iteF (key H12 (Same.refl _)))
        case h2 =>
          intro H13 s13
          have t13 := s12.trans s13
          have ho13 := ho10.mono (Same.L t13)
          refine ⟨_, rfl, oa, dxb, _, rfl, t13 _ _ eb10, rfl, _, rfl, g.1, _, 0, .str n, rfl, rfl, SqT.of (t13 _ _ hgv10), atI_nat (j := 0) (by rw [hnr]; rfl), oa, bareFr B, blkFor bss, rs', n, rfl, ho13, hnm, fun pc hpc => ⟨pc, rfl, ⟨_, SqT.of hpc⟩, fun D2 hD2 => ?_⟩⟩
          refine lfS walk_tup (fun z => !decide (z ∈ g.2)) hD2 (fun H' s => SqT.of (s _ _ hpc)) (by have := class_few fok (blkFor bss) rs' n; omega) (fun _ => rfl) (fun _ => rfl) (fun z hz H14 s14 Q14 q14 => ?_) fun H14 s14 hd14 => ?_
          · refine ⟨_, rfl, _, rfl, g.1, _, rfl, .inr (SqT.of (s14 _ _ (t13 _ _ hgv10))), rfl, vS_flat _, ?_⟩
            rw [inV_strs]
            exact ⟨_, rfl, q14 H14 (Same.refl _)⟩
          have t14 := t13.trans s14
          have fin : ∀ {H15 : Hp}, Same H10 H15 → (∃ x y z w, ([some (.ref p), some (.ref d), some (.ref bl), some (.ref rw), some (.ref ta), some (.int (at_ : Nat)), some (.ref oa), some (.ref g.1), some (.ref D), some (.ref D2), x10] : L2.St) = [some (.ref p), some (.ref d), some (.ref bl), some (.ref rw), some (.ref ta), some (.int (at_ : Nat)), some (.ref oa), x, y, z, w]) ∧ SameQ K p H9 H15 ∧ PenAt H15 p c (b + 10 + 100 * (i + 1)) := fun s =>
            ⟨⟨_, _, _, _, rfl⟩, (s2.trans (s10.Q hp2)).trans (Same.Q s), (hp10.ext s).le (by omega)⟩
          refine ⟨_, rfl, Nat.zero_le _, fun pe hpe => ?_⟩
          have s15 := same_new (o := .lst []) hpe
          have t15 := t14.trans s15
          refine ⟨D2, pe, _, [], rfl, rfl, SqL.of (s15 _ _ hd14), SqL.of upd_same, fun z hz => (sm_class fok n).1 z (List.mem_filter.mp hz).1, (fun _ h => by cases h), _, rfl, ?_⟩
          generalize upd H14 pe (.lst []) = H15 at t15
          by_cases hre : (classOf (bareFr B) (blkFor bss) rs' n).filter (fun z => !decide (z ∈ g.2)) = []
          · rw [decide_eq_true hre]
            refine iteT ⟨_, rfl, ta, dxa, _, rfl, t15 _ _ ea10, rfl, _, rfl, ta, D, bareFr B, blkFor bss, rs, sm, rfl, tl10.mono (Same.L t15), .inl (t15 _ _ hsome), lks, fun H16 s16 => ⟨_, rfl, ?_⟩⟩
            have t16 := t15.trans s16
            cases hcv : coverOf (bareFr B) (blkFor bss) rs sm with
            | false => exact iteF (fin t16)
            | true =>
              refine iteT ⟨_, rfl, _, rfl, oa, dxb, _, rfl, t16 _ _ eb10, oa, bareFr B, blkFor bss, rs', rfl, ho10.mono (Same.L t16), fun pi hi => ⟨g.1, pi, g.2, idleOf (bareFr B) (blkFor bss) rs', rfl, rfl, SqT.of (t16 _ _ hgv10), hi, hga, (sm_idle fok).1, _, rfl, ?_⟩⟩
              by_cases hgi : g.2 = idleOf (bareFr B) (blkFor bss) rs'
              · rw [decide_eq_true hgi]
                exact iteF (fin t16)
              · rw [decide_eq_false hgi]
                refine iteT ⟨_, rfl, oa, dxb, _, rfl, t16 _ _ eb10, rfl, _, rfl, oa, D, bareFr B, blkFor bss, rs', sm, rfl, ho10.mono (Same.L t16), .inl (t16 _ _ hsome), lkr, fun H17 s17 => ⟨_, rfl, ?_⟩⟩
                have hc2 : ∀ x ∈ classOf (bareFr B) (blkFor bss) rs' n, x ∈ classOf (bareFr B) (blkFor bss) rs n := fun x hx => by
                  have := List.filter_eq_nil_iff.mp hre x hx
                  rw [← egn]
                  simpa using this
                rw [cover_less hsr (fun x hx => by rw [← egn]; exact sub.subset hx) hnm hc2 (by rw [← egn]; exact hgi) hcv]
                exact iteF (fin (t16.trans s17))
          · rw [decide_eq_false hre]
            exact iteF (fin t15)
    · obtain ⟨_, s2, hp2⟩ := h2
      rw [List.length_map] at hp2
      exact q _ (sq9.trans s2) (hp2.le (by omega))
end
end Sj
set_option Elab.async false
set_option linter.all false
set_option maxRecDepth 100000
set_option maxHeartbeats 4000000
/-! SjLaw12: _law_renamed. -/
namespace Sj
open PySem PySem.Spec PyProof.Rows L2 He
def ltr (j : Nat) : Nat := lettersS.cps.toList.getD j 0
def suf (e : Nat) : Str := if e = 0 then "" else "z"
def nnS (st k : Nat) : Str := (⟨#[ltr ((st + 7 * k) % 26)]⟩ : Str) ++ suf (st % 2)
theorem ltr_at : ∀ j < 26, lettersS.cps.toList[j]? = some (ltr j) := by decide +kernel
theorem nn_ok : ∀ j < 26, ∀ e < 2, okName ((⟨#[ltr j]⟩ : Str) ++ suf e) = true := by decide +kernel
theorem nn_inj : ∀ j < 26, ∀ i < 26, ∀ e < 2, (⟨#[ltr j]⟩ : Str) ++ suf e = (⟨#[ltr i]⟩ : Str) ++ suf e → j = i := by decide +kernel
theorem nnS_ok (st k : Nat) : okName (nnS st k) = true := nn_ok _ (Nat.mod_lt _ (by decide)) _ (Nat.mod_lt _ (by decide))
theorem nnS_inj {st j i : Nat} (hj : j < 26) (hi : i < 26) (h : nnS st j = nnS st i) : j = i := by
  have := nn_inj _ (Nat.mod_lt _ (by decide)) _ (Nat.mod_lt _ (by decide)) _ (Nat.mod_lt _ (by decide)) h
  omega
def renS (kvs : List (Key × V)) (n : Str) : Str := match valV kvs (kS n) with
  | some (.str z) => z
  | _ => n
theorem renS_of {kvs : List (Key × V)} {n z : Str} (h : valV kvs (kS n) = some (.str z)) : renS kvs n = z := by
  unfold renS
  rw [h]
section
variable {P : Program} {w : World} {K : Frg} {mg : Str → Option Value} {base h : Heap}
def sp_law_renamed : Sp := fun vs H Q _ => ∃ (p c d b : Nat) (B : Bare), vs = [.ref p, .ref d] ∧ PenAt H p c b ∧ BareAt H d B ∧ BareOk B ∧ b < 900000 ∧ ∀ (D : Addr) (kvs : List (Key × V)) (ρ : Str → Str) H', SameP p H H' → PenAt H' p c (b + 10) → H' D = some (.dK kvs) → (∀ n ∈ (bareFr B).members, valV kvs (kS n) = some (.str (ρ n))) →
  ρ "ground" = "ground" → ρ "power" = "power" → (∀ x ∈ B.drs ++ B.lss, ∀ y ∈ B.drs ++ B.lss, ρ x = ρ y → x = y) → (∀ x ∈ B.drs ++ B.lss, okName (ρ x) = true) → Q (.ref D) H'
theorem ok_law_renamed (T : Txt K mg h) : GF P w K mg base "_law_renamed" 3 sp_law_renamed := by
  refine ⟨_, T.g_law_renamed, keepX T.d_law_renamed, mkFn T.d_law_renamed sc_law_renamed rfl (fun _ _ _ _ _ _ us hl => match us, hl with | [_, _], _ => rfl) (fun vs H Q E h => ?_) (fun cdv A outer s H vs Q E hr h => ?_)⟩
  · obtain ⟨p, c, d, b, B, rfl, _⟩ := h
    rfl
  · obtain ⟨p, c, d, b, B, rfl, hp, hB, ok, hb, q⟩ := h
    refine ⟨_, pss_cons (pset 2 sc_law_renamed.nd (psrt T (pe_op op_cat (pdg (u1 hr) (pv 1) pe_str) (pdg (u1 hr) (pv 1) pe_str))))
      (pss_cons (ps_par (i := 3) (j := 4) rfl sc_law_renamed.nd rfl rfl (by decide) rfl rfl (pa_cons (pc (ok_law_draw T) hr (pa_cons (pv 0) (pa_cons pe_int pa_nil))) (pa_cons (pe_disp (pps_cons pe_str pe_str (pps_cons pe_str pe_str pps_nil)) (by rfl) (by rfl) (fun z => by cases z) (by decide)) pa_nil)) (by rfl))
      (pss_cons (pfor2 5 6 sc_law_renamed.nd (pi_enum (by rfl) T.b_enumerate (pa_cons (pv 2) pa_nil))
        (pss_one (ps_dput (u1 hr) (pv 4) (pv 6) (pe_op op_add_str (pe_ix ix_str pe_str (pe_op op_mod (pint T (pe_op op_add (pv 3) (pe_op op_mul pe_int (pv 5)))) pe_int) (fun _ _ => rfl)) (pe_ix ix_list (pe_lst (pa_cons pe_str (pa_cons pe_str pa_nil))) (pe_op op_mod (pint T (pv 3)) pe_int) (fun _ _ => rfl))) (by rfl))))
      (pss_one (ps_ret (pv 4))))), ?_⟩
    obtain ⟨a1, a2, a3, g1, g2, g3, g4, h1, h2, h3⟩ := hB.gets
    have hfew := ok.few
    have hfew2 := hfew
    rw [List.length_append] at hfew2
    have sz : ∀ n : Nat, n ≤ 100 → n ≤ sizeLine := fun n hn => by rw [sizeLine_eq]; omega
    refine ⟨_, rfl, d, _, rfl, g2, _, rfl, d, _, rfl, g3, a1, a2, _, _, rfl, rfl, h1, h2, sz _ (by rw [vS_len, vS_len]; omega), fun l1 hl1 => ?_⟩
    refine ⟨l1, B.drs ++ B.lss, rfl, SqL.of (by rw [upd_same, vS_app]), by omega, fun ll hll => ?_⟩
    have hlp := ((hp.ext (same_new (o := .lst (vS B.drs ++ vS B.lss)) hl1)).new hll).1
    have s1 := (same_new (o := .lst (vS B.drs ++ vS B.lss)) hl1).trans (same_new (o := .lst (vS (srt (B.drs ++ B.lss)))) hll)
    have hls : (upd (upd H l1 (.lst (vS B.drs ++ vS B.lss))) ll (.lst (vS (srt (B.drs ++ B.lss))))) ll = some (.lst (vS (srt (B.drs ++ B.lss)))) := upd_same
    generalize upd (upd H l1 (.lst (vS B.drs ++ vS B.lss))) ll (.lst (vS (srt (B.drs ++ B.lss)))) = H1 at s1 hls
    refine ⟨_, rfl, p, c, 26, b, rfl, hp.ext s1, by decide, by decide, by omega, fun st H2 s2 hp2 hst => ?_⟩
    refine fun D hD => ?_
    have nD := hp2.new hD
    have s02 := (SameP.of s1).trans s2
    have hD0 := s02.free hD nD.1
    refine ⟨upd_same, [(kS "ground", .str "ground"), (kS "power", .str "power")], rfl, by show 2 ≤ 15; decide, _, _, rfl, ?_⟩
    rw [upd_twice, mergeK_app (by show [kS "ground", kS "power"].Nodup; decide +kernel)]
    have k1 : valV ([] ++ [(kS "ground", V.str "ground"), (kS "power", V.str "power")]) (kS "ground") = some (.str "ground") := valV_pos rfl
    have k2 : valV ([] ++ [(kS "ground", V.str "ground"), (kS "power", V.str "power")]) (kS "power") = some (.str "power") := (valV_neg (by decide +kernel)).trans (valV_pos rfl)
    have k3 : ([] ++ [(kS "ground", V.str "ground"), (kS "power", V.str "power")]).length ≤ 2 := Nat.le_refl _
    generalize ([] ++ [(kS "ground", V.str "ground"), (kS "power", V.str "power")] : List (Key × V)) = kv0 at k1 k2 k3
    have hlsD : ll ≠ D := ne_of_none (s2 _ _ hlp hls) hD
    refine ⟨_, rfl, ll, _, rfl, SqL.of ((upd_ne hlsD).trans (s2 _ _ hlp hls)), ?_⟩
    have hmem : ∀ {x : Str}, x ∈ srt (B.drs ++ B.lss) ↔ x ∈ B.drs ++ B.lss := mem_srt
    have hlsl : (srt (B.drs ++ B.lss)).length ≤ 20 := by rw [len_srt]; exact hfew
    have hlnd : (srt (B.drs ++ B.lss)).Nodup := nodup_srt ok.nd
    generalize srt (B.drs ++ B.lss) = lg at hls hmem hlsl hlnd
    have hng : ∀ {t : Str}, t ∈ lg → kS t ≠ kS "ground" ∧ kS t ≠ kS "power" := fun ht => by
      obtain ⟨n1, n2⟩ := okName_ne (ok.name _ (hmem.mp ht))
      exact ⟨fun e => n1 (Sum.inr.inj e), fun e => n2 (Sum.inr.inj e)⟩
    refine for_it (walk_enum (xs := vS lg)) (fun i σ H' => (∃ x y, σ = [some (.ref p), some (.ref d), some (.ref ll), some (.int (st : Nat)), some (.ref D), x, y]) ∧ SameP p H H' ∧ PenAt H' p c (b + 1) ∧ H' ll = some (.lst (vS lg)) ∧ ∃ kvs, H' D = some (.dK kvs) ∧ kvs.length ≤ 2 + i ∧ valV kvs (kS "ground") = some (.str "ground") ∧ valV kvs (kS "power") = some (.str "power") ∧ ∀ j t, j < i → lg[j]? = some t → valV kvs (kS t) = some (.str (nnS st j)))
      ⟨⟨_, _, rfl⟩, s02.mut hD0, hp2.put nD, (upd_ne hlsD).trans (s2 _ _ hlp hls), kv0, upd_same, k3, k1, k2, fun j t hj _ => by omega⟩ (fun i σ H' _ h => SqL.of h.2.2.2.1) (fun i x σ H3 H' hi h3 hy => ?_) (fun σ H3 h3 => ?_)
    · obtain ⟨Tp, x, y, rfl, hT, rfl, hx, hy⟩ := hy
      obtain ⟨⟨x5, x6, rfl⟩, s3, hp3, hls3, kvs, hkv, hkl, w1, w2, w3⟩ := h3
      rw [vS_len] at hi
      cases hx
      obtain ⟨t, rfl, ht⟩ := str_at hy
      refine g2_of (SqT.of upd_same) ?_
      have t4 := same_new (o := .tup [V.int (i : Nat), V.str t]) hT
      have e1 : ((st : Nat) : Int) + 7 * ((i : Nat) : Int) = ((st + 7 * i : Nat) : Int) := by omega
      refine ⟨_, rfl, _, rfl, _, _, rfl, rfl, .inl ⟨by decide, by decide⟩, _, _, rfl, rfl, .inl ⟨_, rfl, _, _, rfl, rfl, (show (0 : Int) < 26 by decide), _, _, ltr ((st + 7 * i) % 26), rfl, rfl, sz 26 (by decide), ?_, ?_⟩⟩
      · rw [e1]
        exact atI_nat (j := (st + 7 * i) % 26) (ltr_at _ (Nat.mod_lt _ (by decide)))
      refine ⟨sz 2 (by decide), fun l5 hl5 => ?_⟩
      have t5 := t4.trans (same_new (o := .lst [V.str "", V.str "z"]) hl5)
      have e5 : (upd (upd H3 Tp (.tup [V.int (i : Nat), V.str t])) l5 (.lst [V.str "", V.str "z"])) l5 = some (.lst [V.str "", V.str "z"]) := upd_same
      generalize upd (upd H3 Tp (.tup [V.int (i : Nat), V.str t])) l5 (.lst [V.str "", V.str "z"]) = H5 at t5 e5
      have hsuf : ([V.str "", V.str "z"] : List V)[st % 2]? = some (.str (suf (st % 2))) := by
        rcases (show st % 2 = 0 ∨ st % 2 = 1 by omega) with e | e <;> rw [e] <;> rfl
      refine ⟨_, rfl, .inl ⟨_, rfl, _, _, rfl, rfl, (show (0 : Int) < 2 by decide), l5, _, _, .str (suf (st % 2)), rfl, rfl, SqL.of e5, atI_nat (j := st % 2) hsuf, ?_⟩⟩
      refine ⟨_, _, rfl, rfl, ?_, _, rfl, _, rfl, D, _, rfl, DPut.k (k := kS t) (t5 _ _ hkv) (small1000 (by omega)), ⟨_, _, rfl⟩, (s3.trans (SameP.of t5)).mut hD0, (hp3.ext t5).put nD, (upd_ne hlsD).trans (t5 _ _ hls3), _, upd_same, ?_, ?_, ?_, fun j u hj hu => ?_⟩
      · have : (suf (st % 2)).length ≤ 1 := by
          rcases (show st % 2 = 0 ∨ st % 2 = 1 by omega) with e | e <;> rw [e] <;> decide
        exact sz (1 + (suf (st % 2)).length) (by omega)
      · have := length_putK kvs (kS t) (.str ((⟨#[ltr ((st + 7 * i) % 26)]⟩ : Str) ++ suf (st % 2)))
        omega
      · rw [valV_put, if_neg (hng (List.mem_of_getElem? ht)).1.symm]
        exact w1
      · rw [valV_put, if_neg (hng (List.mem_of_getElem? ht)).2.symm]
        exact w2
      · rw [valV_put]
        by_cases e : j = i
        · subst e
          rw [ht] at hu
          cases hu
          rw [if_pos rfl]
          rfl
        · have hne : u ≠ t := fun z => by
            rw [← z] at ht
            have h1 := (List.getElem?_eq_some_iff.mp ht)
            have h2 := (List.getElem?_eq_some_iff.mp hu)
            obtain ⟨b1, e1⟩ := h1
            obtain ⟨b2, e2⟩ := h2
            exact e ((List.getElem_inj hlnd).mp (e2.trans e1.symm))
          rw [if_neg fun z => hne (Sum.inr.inj z)]
          exact w3 j u (by omega) hu
    · obtain ⟨⟨x5, x6, rfl⟩, s3, hp3, hls3, kvs, hkv, hkl, w1, w2, w3⟩ := h3
      rw [vS_len] at w3
      have hat : ∀ {x : Str}, x ∈ B.drs ++ B.lss → ∃ j, j < lg.length ∧ lg[j]? = some x ∧ valV kvs (kS x) = some (.str (nnS st j)) := fun {x} hx => by
        obtain ⟨j, hj, e⟩ := List.mem_iff_getElem.mp (hmem.mpr hx)
        have e2 : lg[j]? = some x := by rw [List.getElem?_eq_getElem hj, e]
        exact ⟨j, hj, e2, w3 j x hj e2⟩
      refine ⟨_, rfl, q D kvs (renS kvs) _ s3 (hp3.le (by omega)) hkv (fun n hn => ?_) (renS_of w1) (renS_of w2) (fun x hx y hy e => ?_) fun x hx => ?_⟩
      · rcases (mem_bare ok).mp hn with h | h
        · obtain ⟨j, _, _, e⟩ := hat h
          rw [e, renS_of e]
        · rcases rls_two ok h with z | z <;> rw [z]
          · rw [w1, renS_of w1]
          · rw [w2, renS_of w2]
      · obtain ⟨j, hj, e1, e2⟩ := hat hx
        obtain ⟨i, hi, e3, e4⟩ := hat hy
        rw [renS_of e2, renS_of e4] at e
        have := nnS_inj (by omega) (by omega) e
        subst this
        rw [e1] at e3
        exact Option.some.inj e3
      · obtain ⟨j, hj, e1, e2⟩ := hat hx
        rw [renS_of e2]
        exact nnS_ok st j
end
end Sj
set_option Elab.async false
set_option linter.all false
set_option maxRecDepth 100000
set_option maxHeartbeats 4000000
/-! SjLaw13: _law_names_right. -/
namespace Sj
open PySem PySem.Spec PyProof.Rows L2 He
section
variable {X : Cx} {K : Frg} {h : Heap} {e : Expr} {te : TE} {p pos : Pos}
/-- dict(list of pairs) -/
def rDictL (K : Frg) : List V → Hp → VK → Prop := fun xs H Q => ∃ (a : Addr) (ps : List Addr) (kvs : List (Key × V)), xs = [.ref a] ∧ SqL K H a (ps.map V.ref) ∧ Paired (fun p kv => SqT K H p [kV kv.1, kv.2]) ps kvs ∧ ∀ p, H p = none → Q (.ref p) (upd H p (.dK (mergeK [] kvs)))
theorem pdictP (K : Frg) (T : Txt K X.mg h) (he : PE X e te) (hc : X.calm = true := by rfl) (hg : Gl X "dict" := by rfl) (hs : starEach [e] X.env = (false, eval e X.env) :: starEach [] X.env := by rfl) (hK : X.K = K := by rfl) : PE X (.Call (.Name "dict" p) [e] [] pos) (tCB (rDictL K) (tCons te tNil)) := by
  subst hK
  exact pe_callTy (call_dictP hc) hg T.b_dict bt_dict (pa_cons he pa_nil hs) (by decide) (by decide) hs
theorem psortT (K : Frg) {k : Nat} (T : Txt K X.mg h) (hr : Room k X.A) (he : PE X e te) (hc : X.calm = true := by rfl) (hg : Gl X "sorted" := by rfl) (hs : starEach [e] X.env = (false, eval e X.env) :: starEach [] X.env := by rfl) (hK : X.K = K := by rfl) : PE X (.Call (.Name "sorted" p) [e] [] pos) (tCB (rSortT K) (tCons te tNil)) := by
  subst hK
  exact pe_callB (cr_sortT hr hc) hg T.b_sorted bt_sorted (pa_cons he pa_nil hs) (by decide) (by decide) hs
theorem piL {tg : Expr} (K : Frg) (he : PE X e te) (hK : X.K = K := by rfl) : PI X tg e (iList K te) := by
  subst hK
  exact pi_list he
theorem piU {tg : Expr} (K : Frg) (he : PE X e te) (hK : X.K = K := by rfl) : PI X tg e (iTup K te) := by
  subst hK
  exact pi_tup he
end
section
variable {J : It} {G : Hp → Prop} {j : Nat} {te : TE} {vs : List Nat} {σ : L2.St} {H1 : Hp} {D : Addr} {Qd : Hp → Prop} {α : Type}
/-- [.. for x in xs], xs objects, the items new objects -/
theorem lcRef {as : List Addr} {ds : List α} (S : α → Addr → Prop) (hp : Paired S ds as) (wk : Walk J (as.map V.ref).length G (YAt (as.map V.ref))) (F : α → Addr → Hp → Prop) (hF : ∀ n a H H', SameB D H H' → a ≠ D → F n a H → F n a H') (hD : H1 D = none) (hG : ∀ H', Same H1 H' → G H') (hz : as.length ≤ 1000) (hw : ∀ x, wipe ((wipe σ vs).set j (some x)) vs = wipe σ vs)
    (he : ∀ n ∈ ds, ∀ a, S n a → ∀ H2, Same H1 H2 → (∃ acc, H2 D = some (.lst acc)) → ∀ Q : VK, (∀ b H3, Same H2 H3 → b ≠ D → F n b H3 → Q (.ref b) H3) → te ((wipe σ vs).set j (some (.ref a))) H2 Q)
    (k : ∀ bs H2, Same H1 H2 → H2 D = some (.lst (bs.map V.ref)) → Paired (fun n b => F n b H2) ds bs → Qd H2) : LcG J (gName j) tYes te vs σ H1 D Qd := by
  have hl : ds.length = as.length := paired_len hp
  refine lc_it wk (fun i H => Same H1 H ∧ ∃ bs, H D = some (.lst (bs.map V.ref)) ∧ Paired (fun n b => b ≠ D ∧ F n b H) (ds.take i) bs) ⟨same_new hD, [], upd_same, by rw [List.take_zero]; exact .nil⟩ (fun i H _ h => hG H h.1) (fun i x H H' hi h hy => ?_) (fun H h => ?_)
  · obtain ⟨e, hx⟩ := hy
    subst e
    obtain ⟨s, bs, hb, pr⟩ := h
    rw [List.length_map] at hi
    rw [List.getElem?_map] at hx
    cases ea : as[i]? with
    | none => rw [ea] at hx; cases hx
    | some a =>
    rw [ea] at hx
    cases hx
    obtain ⟨d, hd, hS⟩ := paired_at hp ea
    refine ⟨hw _, ?_⟩
    dsimp only [tYes]
    rw [if_pos rfl]
    refine he d (List.mem_of_getElem? hd) a hS _ s ⟨_, hb⟩ _ fun b H3 s3 nb hf => ⟨_, s3 _ _ hb, small1000 ?_, ?_, bs ++ [b], by rw [upd_same, List.map_append]; rfl, ?_⟩
    · rw [List.length_map, ← paired_len pr, List.length_take]
      omega
    · exact fun c o e => by
        have hc : c ≠ D := fun z => by rw [z, hD] at e; cases e
        rw [upd_ne hc]
        exact s3 _ _ (s _ _ e)
    · rw [take_snoc hd]
      exact paired_snoc (F := fun n b2 => b2 ≠ D ∧ F n b2 (upd H3 D (.lst (bs.map V.ref ++ [V.ref b])))) ⟨nb, hF _ _ _ _ SameB.upd nb hf⟩ (paired_imp (fun n b2 ⟨n2, f2⟩ => ⟨n2, hF _ _ _ _ ((SameB.of s3).trans SameB.upd) n2 f2⟩) pr)
  · obtain ⟨s, bs, hb, pr⟩ := h
    rw [List.length_map, ← hl, List.take_length] at pr
    exact k bs H s hb (paired_imp (fun _ _ z => z.2) pr)
end
theorem rd_lock {H : Hp} {a d : Addr} {od : Obj} {u u' : HO} (h : H a = some u) (hd : H d = some u') : Rd (upd H d (.frz od u')) a u := by
  by_cases e : a = d
  · rw [e, hd] at h
    rw [e]
    exact .inr ⟨od, by rw [upd_same, Option.some.inj h]⟩
  · exact .inl ((upd_ne e).trans h)
theorem rd_same {H H' : Hp} {a : Addr} {u : HO} (h : Rd H a u) (s : Same H H') : Rd H' a u := h.elim (fun e => .inl (s _ _ e)) fun ⟨o, e⟩ => .inr ⟨o, s _ _ e⟩
theorem paired_flip {α β γ : Type} {F : α → β → Prop} {G : β → γ → Prop} {f : α → γ} (hh : ∀ x a, F x a → G a (f x)) {xs : List α} {as : List β} (h : Paired F xs as) : Paired G as (xs.map f) := by
  induction h with
  | nil => exact .nil
  | cons h t ih => exact .cons (hh _ _ h) ih
theorem row_rn {ρ : Str → Str} {r : List (Str × Int)} (nd : (r.map (·.1)).Nodup) : (r.map (·.1)).map (fun n => ((Sum.inr (ρ n) : Key), V.int ((r.lookup n).getD 0))) = rowK (rnRow ρ r) := by
  rw [rowK, rnRow, List.map_map, List.map_map]
  refine List.map_congr_left fun p hp => ?_
  show ((Sum.inr (ρ p.1) : Key), V.int ((r.lookup p.1).getD 0)) = (Sum.inr (ρ p.1), V.int p.2)
  rw [lookup_nd nd (v := p.2) hp]
  rfl
section
variable {P : Program} {w : World} {K : Frg} {mg : Str → Option Value} {base h : Heap}
def sp_law_names_right (K : Frg) : Sp := fun vs H Q _ => ∃ (p c d bl rw ta : Addr) (B : Bare) (bas ras : List Addr) (bss : List (List Str)) (rows : Rows) (b : Nat), vs = [.ref p, .ref d, .ref bl, .ref rw, .ref ta] ∧ StAt K H p c d bl rw ta B bas ras bss rows b ∧ b < 800000 ∧
  ∀ H', SameQ K p H H' → PenAt H' p c (b + 10000) → Q (.bl true) H'
theorem ok_law_names_right (T : Txt K mg h) (TB : LamX.TabB base mg (cF K) (tF K)) : GF P w K mg base "_law_names_right" 18 (sp_law_names_right K) := by
  refine ⟨_, T.g_law_names_right, keepX T.d_law_names_right, mkFn T.d_law_names_right sc_law_names_right rfl (fun _ _ _ _ _ _ us hl => match us, hl with | [_, _, _, _, _], _ => rfl) (fun vs H Q E h => ?_) (fun cdv A outer s H vs Q E hr h => ?_)⟩
  · obtain ⟨p, c, d, bl, rw, ta, B, bas, ras, bss, rows, b, rfl, _⟩ := h
    rfl
  · obtain ⟨p, c, d, bl, rw, ta, B, bas, ras, bss, rows, b, rfl, st, hb, q⟩ := h
    refine ⟨_, pss_cons (pset 5 sc_law_names_right.nd (pc (ok_law_renamed T) hr (pa_cons (pv 0) (pa_cons (pv 1) pa_nil))))
      (pss_cons (pset 6 sc_law_names_right.nd (pe_disp (pps_cons pe_str (pdg (u1 hr) (pv 1) pe_str) (pps_cons pe_str (pdg (u1 hr) (pv 1) pe_str) pps_nil)) (by rfl) (by rfl) (fun z => by cases z) (by decide)))
      (pss_cons (pfor 7 sc_law_names_right.nd (pi_tup (pe_tup (pa_cons pe_str (pa_cons pe_str pa_nil))))
        (pss_one (ps_dput (u1 hr) (pv 6) (pv 7) (psrt T (plc 11 sc_law_names_right.nd (pi_list (pdg (u1 hr) (pv 1) (pv 7))) (fun _ _ _ _ _ => pdg (u1 hr) (pv 5) (pv 11)))) (by rfl))))
      (pss_cons (psl 8 12 sc_law_names_right.nd (pi_list (pv 3)) (fun _ _ _ _ _ => pdictP K T (pe_lock (plc 11 sc_law_names_right.nd (pi_keys (pv 12)) (fun _ _ _ _ _ => pe_tup (pa_cons (pdg (u1 hr) (pv 5) (pv 11)) (pa_cons (pdg (u1 hr) (pv 12) (pv 11)) pa_nil)))))))
      (pss_cons (pset 9 sc_law_names_right.nd (pc (ok_law_readings T TB) hr (pa_cons (pv 6) (pa_cons (plc 13 sc_law_names_right.nd (pi_list (pv 2)) (fun _ _ _ _ _ => plc 11 sc_law_names_right.nd (piL K (pv 13)) (fun _ _ _ _ _ => pdg (u1 hr) (pv 5) (pv 11)))) (pa_cons (pv 8) pa_nil)))))
      (pss_cons (pset 10 sc_law_names_right.nd (psortT K T hr (plc 14 sc_law_names_right.nd (pi_tup (pp (pr_Readings_classes T) hr (pv 4))) (fun _ _ _ _ _ => ptup T (psrt T (plc 11 sc_law_names_right.nd (piU K (pv 14)) (fun _ _ _ _ _ => pdg (u1 hr) (pv 5) (pv 11))))))))
      (pss_cons (ps_if (PW.pt (pw_or (pt_cmpR (op_neTT hr (K := K)) (plist T (pp (pr_Readings_classes T) hr (pv 9))) (pv 10) (by rfl)) (pw_or1 (pt_cmpR (op_neS false hr (K := K)) (plist T (pp (pr_Readings_mute T) hr (pv 9))) (psrt T (plc 11 sc_law_names_right.nd (pi_tup (pp (pr_Readings_mute T) hr (pv 4))) (fun _ _ _ _ _ => pdg (u1 hr) (pv 5) (pv 11)))) (by rfl))))) (pss_one (ps_ret pe_bl)) pss_nil)
      (pss_cons (ps_if (pt_cmpR (op_neS false hr (K := K)) (plist T (pp (pr_Readings_locked T) hr (pv 9))) (psrt T (plc 11 sc_law_names_right.nd (pi_tup (pp (pr_Readings_locked T) hr (pv 4))) (fun _ _ _ _ _ => pdg (u1 hr) (pv 5) (pv 11)))) (by rfl)) (pss_one (ps_ret pe_bl)) pss_nil)
      (pss_one (ps_ret (pe_cmpR (op_eqS false hr (K := K)) (plcIf 11 sc_law_names_right.nd (pi_list (pc (ok_law_members T) hr (pa_cons (pv 1) pa_nil))) (fun _ _ _ _ _ => pt_cmpR (op_neI true hr (K := K)) (pm (mf_Readings_levels T) hr (pv 9) (pa_cons (pdg (u1 hr) (pv 5) (pv 11)) pa_nil)) (pm (mf_Readings_levels T) hr (pv 4) (pa_cons (pv 11) pa_nil)) (by rfl)) (fun _ _ _ _ _ => pv 11)) (pe_lst pa_nil) (by rfl))))))))))), ?_⟩
    refine ⟨_, rfl, _, rfl, p, c, d, b, B, rfl, st.pen, st.bare, st.ok, by omega, fun kn kvs ρ H1 s1 hp1 hkn hρ hg hpw inj nm => ?_⟩
    have st1 := st.q (s1.Q st.pen) hp1
    obtain ⟨kvd, a1, a2, a3, ed, v1, v2, v3, v4, h1, h2, h3⟩ := st1.bare
    have ok := st.ok
    have hfew := ok.few
    rw [List.length_append] at hfew
    have gd : ∀ {H' : Hp}, Same H1 H' → ∀ {key : Key} {v : V}, valV kvd key = some v → DGet H' d (kV key) (some v) := by
      intro H' s key v e
      have := DGet.k (k := key) (s _ _ ed)
      rw [e] at this
      exact this
    have gk : ∀ {H' : Hp}, Same H1 H' → ∀ {n : Str}, n ∈ (bareFr B).members → DGet H' kn (.str n) (some (.str (ρ n))) := by
      intro H' s n hn
      have := DGet.k (k := kS n) (s _ _ hkn)
      rw [hρ n hn] at this
      exact this
    have hmd : ∀ {n : Str}, n ∈ B.drs → n ∈ (bareFr B).members := fun h => (mem_bare ok).mpr (.inl (List.mem_append_left _ h))
    have hml : ∀ {n : Str}, n ∈ B.lss → n ∈ (bareFr B).members := fun h => (mem_bare ok).mpr (.inl (List.mem_append_right _ h))
    refine fun ob hob => ⟨_, rfl, d, _, rfl, gd (same_new hob) v1, _, rfl, d, _, rfl, gd (same_new hob) v4, upd_same, [(kS "top", .int B.top), (kS "rails", .ref a3)], rfl, by show 2 ≤ 15; decide, ?_⟩
    rw [upd_twice, mergeK_app (by show [kS "top", kS "rails"].Nodup; decide +kernel)]
    have w1 : valV ([] ++ [(kS "top", .int B.top), (kS "rails", .ref a3)]) (kS "top") = some (.int B.top) := valV_pos rfl
    have w2 : valV ([] ++ [(kS "top", .int B.top), (kS "rails", .ref a3)]) (kS "rails") = some (.ref a3) := (valV_neg kTop_rl).trans (valV_pos rfl)
    have w3 : ([] ++ [(kS "top", .int B.top), (kS "rails", .ref a3)] : List (Key × V)).length ≤ 2 := Nat.le_refl _
    generalize ([] ++ [(kS "top", .int B.top), (kS "rails", .ref a3)] : List (Key × V)) = kv0 at w1 w2 w3
    have t2 := same_new (o := .dK kv0) hob
    have hob2 : (upd H1 ob (.dK kv0)) ob = some (.dK kv0) := upd_same
    generalize upd H1 ob (.dK kv0) = H2 at t2 hob2
    refine ⟨by rw [sizeLine_eq]; exact (by show 2 ≤ 16777216; decide), fun tp htp => ⟨tp, rfl, ⟨_, SqT.of upd_same⟩, ?_⟩⟩
    have t3 := t2.trans (same_new (o := .tup [V.str "drivers", V.str "listeners"]) htp)
    have htp3 : (upd H2 tp (.tup [V.str "drivers", V.str "listeners"])) tp = some (.tup (vS ["drivers", "listeners"])) := upd_same
    have hob3 := same_new (o := .tup [V.str "drivers", V.str "listeners"]) htp _ _ hob2
    have ntp : tp ≠ ob := (ne_of_none hob2 htp).symm
    generalize upd H2 tp (.tup [V.str "drivers", V.str "listeners"]) = H3 at t3 htp3 hob3
    refine for_it (walk_tup (xs := vS ["drivers", "listeners"])) (fun i σ H' => (∃ x y z u v a b e, σ = [some (.ref p), some (.ref d), some (.ref bl), some (.ref rw), some (.ref ta), some (.ref kn), some (.ref ob), x, y, z, u, v, a, b, e]) ∧ Same H1 H' ∧ H' tp = some (.tup (vS ["drivers", "listeners"])) ∧ ∃ kv, H' ob = some (.dK kv) ∧ kv.length ≤ 2 + i ∧ valV kv (kS "top") = some (.int B.top) ∧ valV kv (kS "rails") = some (.ref a3) ∧
      (0 < i → ∃ x, valV kv (kS "drivers") = some (.ref x) ∧ H' x = some (.lst (vS (srt (B.drs.map ρ))))) ∧ (1 < i → ∃ x, valV kv (kS "listeners") = some (.ref x) ∧ H' x = some (.lst (vS (srt (B.lss.map ρ))))))
      ⟨⟨_, _, _, _, _, _, _, _, rfl⟩, t3, htp3, kv0, hob3, by omega, w1, w2, fun h => by omega, fun h => by omega⟩ (fun i σ H' _ h => SqT.of h.2.2.1) (fun i x σ H4 H' hi h4 hy => ?_) (fun σ H4 h4 => ?_)
    · obtain ⟨e, hx⟩ := hy
      subst e
      obtain ⟨⟨x7, x8, x9, x10, x11, x12, x13, x14, rfl⟩, s4, htp4, kv, hkv, hkl, u1, u2, u3, u4⟩ := h4
      obtain ⟨key, nms, ak, rfl, hv, hnm, hak, hlen, hkey⟩ : ∃ (key : Str) (nms : List Str) (ak : Addr), x = .str key ∧ valV kvd (kS key) = some (.ref ak) ∧ (∀ n ∈ nms, n ∈ (bareFr B).members) ∧ H1 ak = some (.lst (vS nms)) ∧ nms.length ≤ 20 ∧ ((i = 0 ∧ key = "drivers" ∧ nms = B.drs) ∨ (i = 1 ∧ key = "listeners" ∧ nms = B.lss)) := by
        match i, hi with
        | 0, _ => exact ⟨"drivers", B.drs, a1, (Option.some.inj hx).symm, v2, fun _ => hmd, h1, by omega, .inl ⟨rfl, rfl, rfl⟩⟩
        | 1, _ => exact ⟨"listeners", B.lss, a2, (Option.some.inj hx).symm, v3, fun _ => hml, h2, by omega, .inr ⟨rfl, rfl, rfl⟩⟩
      refine ⟨_, rfl, _, rfl, d, _, rfl, gd s4 hv, ak, rfl, ⟨_, SqL.of (s4 _ _ hak)⟩, fun D hD => ?_⟩
      refine lcS walk_list (fun n => .str (ρ n)) hD (fun H' s => SqL.of (s _ _ (s4 _ _ hak))) (by omega) (fun _ => rfl) (fun n hn H5 s5 Q5 q5 => ⟨_, rfl, _, rfl, kn, _, rfl, gk (s4.trans s5) (hnm n hn), q5 H5 (Same.refl _)⟩) fun H5 s5 hd5 => ?_
      have hd5' : H5 D = some (.lst (vS (nms.map ρ))) := by rw [hd5, vS, List.map_map]; rfl
      refine ⟨D, nms.map ρ, rfl, SqL.of hd5', by rw [List.length_map]; omega, fun p5 hp5 => ?_⟩
      have t5 := s5.trans (same_new (o := .lst (vS (srt (nms.map ρ)))) hp5)
      have e5 : (upd H5 p5 (.lst (vS (srt (nms.map ρ))))) p5 = some (.lst (vS (srt (nms.map ρ)))) := upd_same
      generalize upd H5 p5 (.lst (vS (srt (nms.map ρ)))) = H6 at t5 e5
      have hkv6 := t5 _ _ hkv
      have n5 : p5 ≠ ob := ne_obj e5 hkv6 fun z => by cases z
      refine ⟨_, rfl, _, rfl, ob, _, rfl, DPut.k (k := kS key) hkv6 (small1000 (by omega)), ⟨_, _, _, _, _, _, _, _, rfl⟩, ?_, (upd_ne ntp).trans (t5 _ _ htp4), _, upd_same, ?_, ?_, ?_, fun hi0 => ?_, fun hi1 => ?_⟩
      · exact fun c o e => by rw [upd_ne (ne_of_none e hob)]; exact t5 _ _ (s4 _ _ e)
      · have := length_putK kv (kS key) (.ref p5)
        omega
      · rw [valV_put, if_neg ?_]
        · exact u1
        · rcases hkey with ⟨_, e, _⟩ | ⟨_, e, _⟩ <;> rw [e]
          · exact kTop_dr
          · exact kTop_ls
      · rw [valV_put, if_neg ?_]
        · exact u2
        · rcases hkey with ⟨_, e, _⟩ | ⟨_, e, _⟩ <;> rw [e]
          · exact kDr_rl.symm
          · exact kLs_rl.symm
      · rcases hkey with ⟨ei, ek, en⟩ | ⟨ei, ek, en⟩
        · exact ⟨p5, by rw [valV_put, ek, if_pos rfl], by rw [upd_ne n5, e5, en]⟩
        · obtain ⟨x, k1, k2⟩ := u3 (by omega)
          exact ⟨x, by rw [valV_put, ek, if_neg kDr_ls]; exact k1, (upd_ne (ne_obj k2 hkv fun z => by cases z)).trans (t5 _ _ k2)⟩
      · rcases hkey with ⟨ei, ek, en⟩ | ⟨ei, ek, en⟩
        · omega
        · exact ⟨p5, by rw [valV_put, ek, if_pos rfl], by rw [upd_ne n5, e5, en]⟩
    obtain ⟨⟨x7, x8, x9, x10, x11, x12, x13, x14, rfl⟩, s4, _, kv, hkv, _, u1, u2, u3, u4⟩ := h4
    obtain ⟨y1, m1, m2⟩ := u3 (by decide)
    obtain ⟨y2, m3, m4⟩ := u4 (by decide)
    let B' : Bare := ⟨B.top, srt (B.drs.map ρ), srt (B.lss.map ρ), B.rls⟩
    have R : Ren (bareFr B) (bareFr B') ρ := ren_bare ok rfl rfl (srt_perm _) (srt_perm _) hg hpw inj nm
    have ok' : BareOk B' := ren_ok (ρ := ρ) ok rfl rfl (srt_perm _) (srt_perm _) inj nm
    have hB4 : BareAt H4 ob B' := ⟨kv, y1, y2, a3, hkv, u1, m1, m3, u2, m2, m4, s4 _ _ h3⟩
    have st4 := st1.q (Same.Q s4) (st1.pen.ext s4)
    clear_value B'
    have hrl : ras.length ≤ 6 := by rw [← paired_len st.hrs]; exact st.few
    refine ⟨_, rfl, rw, rfl, ⟨_, SqL.of st4.hrw⟩, fun D hD => ?_⟩
    refine lcRef (fun r a => H4 a = some (.dK (rowK r))) st4.hrs walk_list (fun r b H => H b = some (.dK (rowK (rnRow ρ r)))) (fun _ _ _ _ s n e => s _ _ n e) hD (fun H' s => SqL.of (s _ _ st4.hrw)) (by omega) (fun _ => rfl) (fun r hr ra hra H5 s5 ⟨acc, hd5⟩ Q5 q5 => ?_) (fun nras H5 s5 hd5 prr => ?_)
    · have rok := st.rok r hr
      have hra5 := s5 _ _ hra
      have hkn5 := s5 _ _ (s4 _ _ hkn)
      refine ⟨ra, _, hra5, trivial, fun od => ⟨_, rfl, ra, od, rfl, .inl ⟨_, upd_same, fun D2 hD2 => ?_⟩⟩⟩
      have hwk := walk_keysL (d := ra) (o := od) (kvs := rowK r)
      rw [row_keys] at hwk
      have hkl := rd_lock (od := od) hkn5 hra5
      have hrl2 := rd_lock (od := od) hra5 hra5
      refine lcA hwk (fun n t H' => H' t = some (.tup [.str (ρ n), .int ((r.lookup n).getD 0)])) (fun _ _ _ _ s n e => s _ _ n e) hD2 (fun H' s => s _ _ upd_same) (by rw [List.length_map]; have := rok.few; omega) (fun _ => rfl) (fun n hn H6 s6 ⟨acc6, hd6⟩ Q6 q6 => ?_) (fun as H7 s7 hd7 pr => ?_)
      · obtain ⟨l, hl1, hl2⟩ := rok.get hn
        have hnm : n ∈ (bareFr B).members := R.sub n (by
          obtain ⟨z, hz, e⟩ := List.mem_map.mp hn
          rw [← e]
          exact rok.drv z hz)
        refine ⟨_, rfl, _, rfl, kn, _, rfl, .inl ⟨kvs, kS n, rd_same hkl s6, rfl, (hρ n hnm).symm⟩, _, rfl, _, rfl, ra, _, rfl, .inl ⟨rowK r, kS n, rd_same hrl2 s6, rfl, by rw [valV_row, hl2]; rfl⟩, by rw [sizeLine_eq]; exact (by show 2 ≤ 16777216; decide), fun t ht => q6 t _ (same_new ht) (ne_of_none hd6 ht).symm ?_⟩
        rw [upd_same, hl2]
        rfl
      · have hf7 := s7 _ _ upd_same
        have s8 := same_unlock hra5 s7
        have nd2 : D2 ≠ ra := ne_obj hd7 hf7 fun z => by cases z
        have hnn := (rn_row R rok).nd
        refine ⟨hf7, D2, as, rowK (rnRow ρ r), rfl, SqL.of ((upd_ne nd2).trans hd7), ?_, fun nd hnd => ?_⟩
        · rw [← row_rn rok.nd]
          refine paired_flip (G := fun p kv => SqT K (upd H7 ra (HO.dK (rowK r))) p [kV kv.1, kv.2]) (f := fun n => ((Sum.inr (ρ n) : Key), V.int ((List.lookup n r).getD 0))) (fun x a e => SqT.of ?_) pr
          exact (upd_ne (ne_obj e hf7 fun z => by cases z)).trans e
        · refine q5 nd _ (s8.trans (same_new hnd)) (ne_of_none (s8 _ _ hd5) hnd).symm ?_
          rw [upd_same, mergeK_app (by rw [List.nil_append]; exact row_nodup hnn)]
          rfl
    have t5 := s4.trans s5
    have st5 := st4.q (Same.Q s5) (st4.pen.ext s5)
    have hB5 := hB4.mono (Same.L s5)
    have hrr : RowsAt H5 nras (rnRows ρ rows) := paired_mapL prr
    have hbal : bas.length ≤ 50 := by rw [← paired_len st.hbs]; exact Nat.le_trans (flat_len st.pok.ne) st.pok.few
    refine ⟨_, rfl, _, rfl, bl, rfl, ⟨_, SqL.of st5.hbl⟩, fun D3 hD3 => ?_⟩
    refine lcRef (fun bs a => H5 a = some (.lst (vS bs))) st5.hbs walk_list (fun bs b H => H b = some (.lst (vS (bs.map ρ)))) (fun _ _ _ _ s n e => s _ _ n e) hD3 (fun H' s => SqL.of (s _ _ st5.hbl)) (by omega) (fun _ => rfl) (fun bs hbs ba hba H6 s6 ⟨acc, hd6⟩ Q6 q6 => ?_) (fun nbas H6 s6 hd6 prb => ?_)
    · have hlen : bs.length ≤ 50 := Nat.le_trans (mem_len hbs) st.pok.few
      refine ⟨_, rfl, ba, rfl, ⟨_, SqL.of (s6 _ _ hba)⟩, fun D4 hD4 => ?_⟩
      refine lcS walk_list (fun n => .str (ρ n)) hD4 (fun H' s => SqL.of (s _ _ (s6 _ _ hba))) (by omega) (fun _ => rfl) (fun n hn H7 s7 Q7 q7 => ⟨_, rfl, _, rfl, kn, _, rfl, gk ((t5.trans s6).trans s7) (st.pok.mem bs hbs n hn), q7 H7 (Same.refl _)⟩) fun H7 s7 hd7 => ?_
      refine q6 D4 H7 s7 (ne_of_none hd6 hD4).symm ?_
      rw [hd7, vS, List.map_map]
      rfl
    have t6 := t5.trans s6
    have st6 := st5.q (Same.Q s6) (st5.pen.ext s6)
    have hbb : BlksAt H6 nbas (bss.map (List.map ρ)) := paired_mapL prb
    refine ⟨_, rfl, ob, D3, D, B', nbas, nras, bss.map (List.map ρ), rnRows ρ rows, rfl, hB5.mono (Same.L s6), ok', hd6, hbb, rn_part R st.pok, s6 _ _ hd5, paired_imp (fun _ _ z => s6 _ _ z) hrr, (fun r hr => by
      obtain ⟨r0, h0, rfl⟩ := List.mem_map.mp hr
      exact rn_row R (st.rok r0 h0)), by rw [rnRows, List.length_map]; have := st.few; omega, st6.tab, fun oa H7 (s7 : SameX K H6 H7) ho => ?_⟩
    have st7 := st6.q s7.Q (st6.pen.X s7)
    have hkn7 := s7.L _ _ (t6 _ _ hkn) nl_dK
    have sq7 : SameQ K p H H7 := ((s1.Q st.pen).trans (Same.Q t6)).trans s7.Q
    have gk7 : ∀ {H' : Hp}, Same H7 H' → ∀ {n : Str}, n ∈ (bareFr B).members → DGet H' kn (.str n) (some (.str (ρ n))) := by
      intro H' s n hn
      have := DGet.k (k := kS n) (s _ _ hkn7)
      rw [hρ n hn] at this
      exact this
    have fok := bare_ok ok
    have fok' := bare_ok ok'
    have hlv : ∀ n ∈ (bareFr B).members, lv (bareFr B') (blkFor (bss.map (List.map ρ))) (rsOf (bareFr B') (rnRows ρ rows)) (ρ n) = lv (bareFr B) (blkFor bss) (rsOf (bareFr B) rows) n := fun n hn => rn_lv R st.pok st.rok hn
    have hlk := rn_locked R st.pok st.rok
    have hmu := rn_mute R st.pok st.rok
    have hcl : ∀ {cs cs' : List (List Str)}, ClsOf (bareFr B) (blkFor bss) (rsOf (bareFr B) rows) cs → ClsOf (bareFr B') (blkFor (bss.map (List.map ρ))) (rsOf (bareFr B') (rnRows ρ rows)) cs' → cs' = (cs.map fun g => srt (g.map ρ)).mergeSort leG := fun h h' => rn_cls R st.pok st.rok h h'
    have hcl0 : ∀ {g : List Str}, (∃ m ∈ (bareFr B).members, g = classOf (bareFr B) (blkFor bss) (rsOf (bareFr B) rows) m) → g ≠ [] ∧ (∀ n ∈ g, n ∈ (bareFr B).members) ∧ g.length ≤ 42 := fun ⟨m, hm, e⟩ => by
      refine ⟨fun z => ?_, fun n hn => ?_, ?_⟩
      · have := class_self (f := bareFr B) (blk := blkFor bss) (rs := rsOf (bareFr B) rows) hm
        rw [← e, z] at this
        cases this
      · rw [e] at hn
        exact (class_mem hn).1
      · rw [e]
        exact class_few fok _ _ _
    have tl := st7.told
    obtain ⟨dxa, _, _, _, _, _, _, _, _, ea⟩ := tl.ins
    obtain ⟨dxb, _, _, _, _, _, _, _, _, eb⟩ := ho.ins
    have rn1 : ∀ {n : Str}, n ∈ (bareFr B).members → okS (ρ n) = true := fun {n} hn => members_s fok' _ (R.mem' hn)
    have mmu : ∀ {n : Str}, n ∈ muteOf (bareFr B) (blkFor bss) (rsOf (bareFr B) rows) → n ∈ (bareFr B).members := fun h => (List.mem_filter.mp (List.mem_filter.mp h).1).1
    have mlk : ∀ {n : Str}, n ∈ lockedOf (bareFr B) (blkFor bss) (rsOf (bareFr B) rows) → n ∈ (bareFr B).members := fun h => (List.mem_filter.mp (List.mem_filter.mp h).1).1
    generalize blkFor (bss.map (List.map ρ)) = blk' at *
    generalize rsOf (bareFr B') (rnRows ρ rows) = rs' at *
    refine ⟨_, rfl, ta, dxa, _, rfl, ea, ta, bareFr B, blkFor bss, _, rfl, tl, fun cc bs H8 s8 hc hbs hcls => ⟨cc, rfl, ⟨_, SqT.of hc⟩, fun D5 hD5 => ?_⟩⟩
    have hbm : ∀ g ∈ bs, g.2 ≠ [] ∧ (∀ n ∈ g.2, n ∈ (bareFr B).members) ∧ g.2.length ≤ 42 := fun g hg => hcl0 ((hcls.mem g.2).mp (List.mem_map_of_mem hg))
    have hbl42 : bs.length ≤ 42 := by
      have := cls_few fok hcls
      rw [List.length_map] at this
      exact this
    have hself : ∀ {bs : List TT2}, Paired (fun (g : TT2) a => a = g.1) bs (bs.map (·.1)) := by
      intro bs
      induction bs with
      | nil => exact .nil
      | cons g r ih => exact .cons rfl ih
    have emap : ∀ bs : List TT2, bs.map refT = (bs.map (·.1)).map V.ref := fun bs => by rw [List.map_map]; rfl
    have hwk := walk_tup (K := K) (a := cc) (xs := bs.map refT)
    rw [emap] at hwk hc
    refine lcRef (ds := bs) (fun (g : TT2) a => a = g.1) hself hwk (fun g b H => H b = some (.tup (vS (srt (g.2.map ρ))))) (fun _ _ _ _ s n e => s _ _ n e) hD5 (fun H' s => SqT.of (s _ _ hc)) (by rw [List.length_map]; omega) (fun _ => rfl) (fun g hg a ha H9 s9 ⟨acc, hd9⟩ Q9 q9 => ?_) (fun nas H9 s9 hd9 prg => ?_)
    · have ha : a = g.1 := ha
      subst ha
      obtain ⟨b1, b2, b3⟩ := hbm g hg
      have hgv := s9 _ _ (hbs g hg)
      have t9 := s8.trans s9
      refine ⟨_, rfl, g.1, rfl, ⟨_, SqT.of hgv⟩, fun D6 hD6 => ?_⟩
      refine lcS walk_tup (fun n => .str (ρ n)) hD6 (fun H' s => SqT.of (s _ _ hgv)) (by omega) (fun _ => rfl) (fun n hn H10 s10 Q10 q10 => ⟨_, rfl, _, rfl, kn, _, rfl, gk7 (t9.trans s10) (b2 n hn), q10 H10 (Same.refl _)⟩) fun H10 s10 hd10 => ?_
      have hd10' : H10 D6 = some (.lst (vS (g.2.map ρ))) := by rw [hd10, vS, List.map_map]; rfl
      refine ⟨D6, g.2.map ρ, rfl, SqL.of hd10', by rw [List.length_map]; omega, fun p1 hp1 => ⟨p1, _, rfl, SqL.of upd_same, fun p2 hp2 => ?_⟩⟩
      have t11 := (s10.trans (same_new (o := .lst (vS (srt (g.2.map ρ)))) hp1)).trans (same_new (o := .tup (vS (srt (g.2.map ρ)))) hp2)
      exact q9 p2 _ t11 (ne_of_none ((s10.trans (same_new (o := .lst (vS (srt (g.2.map ρ)))) hp1)) _ _ hd9) hp2).symm upd_same
    · obtain ⟨ts, et1, et2, hts⟩ := paired_ts prg
      have hb2 : nas.map V.ref = (ts.map fun t => ((t.1, srt (t.2.2.map ρ)) : TT2)).map refT := by
        rw [← et2, List.map_map, List.map_map]
        rfl
      have hb2m : (ts.map fun t => ((t.1, srt (t.2.2.map ρ)) : TT2)).map (·.2) = (bs.map (·.2)).map fun g => srt (g.map ρ) := by
        rw [← et1, List.map_map, List.map_map, List.map_map]
        rfl
      have hb2a : ∀ b ∈ (ts.map fun t => ((t.1, srt (t.2.2.map ρ)) : TT2)), H9 b.1 = some (.tup (vS b.2)) ∧ b.2 ≠ [] ∧ AllS b.2 := fun b hb => by
        obtain ⟨t, ht, rfl⟩ := List.mem_map.mp hb
        have htb : t.2 ∈ bs := by rw [← et1]; exact List.mem_map_of_mem ht
        obtain ⟨b1, b2, b3⟩ := hbm t.2 htb
        refine ⟨hts t ht, fun z => b1 ?_, fun z hz => ?_⟩
        · have := len_srt (t.2.2.map ρ)
          have z : srt (t.2.2.map ρ) = [] := z
          rw [z, List.length_map] at this
          exact List.length_eq_zero_iff.mp this.symm
        · obtain ⟨n, hn, rfl⟩ := List.mem_map.mp (mem_srt.mp hz)
          exact rn1 (b2 n hn)
      have hb2l : (ts.map fun t => ((t.1, srt (t.2.2.map ρ)) : TT2)).length ≤ 42 := by
        have := congrArg List.length et1
        rw [List.length_map] at this
        rw [List.length_map]
        omega
      generalize (ts.map fun t => ((t.1, srt (t.2.2.map ρ)) : TT2)) = b2 at hb2 hb2m hb2a hb2l
      rw [hb2] at hd9
      refine ⟨D5, b2, rfl, .inr (SqL.of hd9), fun b hb => ⟨SqT.of (hb2a b hb).1, (hb2a b hb).2.1⟩, by omega, fun dl hdl => ?_⟩
      have t9 := s8.trans s9
      have t10 := t9.trans (same_new (o := .lst ((b2.mergeSort leT).map refT)) hdl)
      have edl : (upd H9 dl (.lst ((b2.mergeSort leT).map refT))) dl = some (.lst ((b2.mergeSort leT).map refT)) := upd_same
      have hb3a : ∀ b ∈ b2.mergeSort leT, (upd H9 dl (.lst ((b2.mergeSort leT).map refT))) b.1 = some (.tup (vS b.2)) ∧ AllS b.2 := fun b hb => by
        obtain ⟨h1, _, h3⟩ := hb2a b ((List.mergeSort_perm b2 leT).mem_iff.mp hb)
        exact ⟨same_new hdl _ _ h1, h3⟩
      have em : (b2.mergeSort leT).map (·.2) = ((bs.map (·.2)).map fun g => srt (g.map ρ)).mergeSort leG := by
        rw [← hb2m]
        exact List.map_mergeSort (f := fun b : TT2 => b.2) (r := leT) (s := leG) fun a _ b _ => rfl
      generalize b2.mergeSort leT = b3 at edl hb3a em t10
      generalize upd H9 dl (.lst (b3.map refT)) = H10 at t10 edl hb3a
      refine ⟨_, rfl, oa, dxb, _, rfl, t10 _ _ eb, oa, bareFr B', blk', rs', rfl, ho.mono (Same.L t10), fun c2 bs2 H11 s11 hc2 hbs2 hcls2 => ⟨c2, _, rfl, .inr (SqT.of hc2), fun l hl => ?_⟩⟩
      have t12 := s11.trans (same_new (o := .lst (bs2.map refT)) hl)
      have tps : ∀ {H : Hp} {bs : List TT2}, (∀ b ∈ bs, H b.1 = some (.tup (vS b.2))) → TupsAt K H (bs.map (·.1)) (bs.map (·.2)) := fun h => paired_of (F := fun g a => SqT K _ a (vS g)) fun t ht => SqT.of (h t ht)
      refine ⟨_, rfl, l, dl, bs2.map (·.1), b3.map (·.1), bs2.map (·.2), b3.map (·.2), rfl, rfl, SqL.of (by rw [upd_same, emap]), SqL.of (by rw [t12 _ _ edl, emap]), tps fun b hb => same_new hl _ _ (hbs2 b hb), tps fun b hb => t12 _ _ (hb3a b hb).1, fun g hg => (sm_cls fok' hcls2 g hg).1, fun g hg => by
        obtain ⟨b, hb, rfl⟩ := List.mem_map.mp hg
        exact (hb3a b hb).2, _, rfl, ?_⟩
      rw [decide_eq_true ((hcl hcls hcls2).trans em.symm)]
      refine iteF ?_
      have tA := t10.trans t12
      generalize upd H11 l (.lst (bs2.map refT)) = HA at tA

      refine ⟨_, rfl, oa, dxb, _, rfl, tA _ _ eb, oa, bareFr B', blk', rs', rfl, ho.mono (Same.L tA), fun pm HB sB hm => ⟨pm, _, rfl, .inr (SqT.of hm), fun l2 hl2 => ?_⟩⟩
      have tC := (tA.trans sB).trans (same_new (o := .lst (vS (muteOf (bareFr B') blk' rs'))) hl2)
      have eC : (upd HB l2 (.lst (vS (muteOf (bareFr B') blk' rs')))) l2 = some (.lst (vS (muteOf (bareFr B') blk' rs'))) := upd_same
      generalize upd HB l2 (.lst (vS (muteOf (bareFr B') blk' rs'))) = HC at tC eC
      refine ⟨_, rfl, ta, dxa, _, rfl, tC _ _ ea, ta, bareFr B, blkFor bss, _, rfl, tl.mono (Same.L tC), fun pn HD sD hn => ⟨pn, rfl, ⟨_, SqT.of hn⟩, fun D7 hD7 => ?_⟩⟩
      have hlm : (muteOf (bareFr B) (blkFor bss) (rsOf (bareFr B) rows)).length ≤ 42 := (sm_mute fok).2
      refine lcS walk_tup (fun n => .str (ρ n)) hD7 (fun H' s => SqT.of (s _ _ hn)) (by omega) (fun _ => rfl) (fun n hn2 HE sE QE qE => ⟨_, rfl, _, rfl, kn, _, rfl, gk7 ((tC.trans sD).trans sE) (mmu hn2), qE HE (Same.refl _)⟩) fun HE sE hdE => ?_
      have hdE' : HE D7 = some (.lst (vS ((muteOf (bareFr B) (blkFor bss) (rsOf (bareFr B) rows)).map ρ))) := by rw [hdE, vS, List.map_map]; rfl
      refine ⟨D7, _, rfl, SqL.of hdE', by rw [List.length_map]; omega, fun p8 hp8 => ?_⟩
      have tF := (sD.trans sE).trans (same_new (o := .lst (vS (srt ((muteOf (bareFr B) (blkFor bss) (rsOf (bareFr B) rows)).map ρ)))) hp8)
      refine ⟨l2, p8, _, _, rfl, rfl, SqL.of (tF _ _ eC), SqL.of upd_same, (sm_mute fok').1, fun z hz => by
        rw [← hmu] at hz
        exact (sm_mute fok').1 z hz, _, rfl, ?_⟩
      rw [decide_eq_true hmu]
      refine iteF ?_
      have tA := tC.trans tF
      generalize upd HE p8 (.lst (vS (srt ((muteOf (bareFr B) (blkFor bss) (rsOf (bareFr B) rows)).map ρ)))) = HA at tA

      refine ⟨_, rfl, oa, dxb, _, rfl, tA _ _ eb, oa, bareFr B', blk', rs', rfl, ho.mono (Same.L tA), fun pm HB sB hm => ⟨pm, _, rfl, .inr (SqT.of hm), fun l2 hl2 => ?_⟩⟩
      have tC := (tA.trans sB).trans (same_new (o := .lst (vS (lockedOf (bareFr B') blk' rs'))) hl2)
      have eC : (upd HB l2 (.lst (vS (lockedOf (bareFr B') blk' rs')))) l2 = some (.lst (vS (lockedOf (bareFr B') blk' rs'))) := upd_same
      generalize upd HB l2 (.lst (vS (lockedOf (bareFr B') blk' rs'))) = HC at tC eC
      refine ⟨_, rfl, ta, dxa, _, rfl, tC _ _ ea, ta, bareFr B, blkFor bss, _, rfl, tl.mono (Same.L tC), fun pn HD sD hn => ⟨pn, rfl, ⟨_, SqT.of hn⟩, fun D7 hD7 => ?_⟩⟩
      have hlm : (lockedOf (bareFr B) (blkFor bss) (rsOf (bareFr B) rows)).length ≤ 42 := (sm_locked fok).2
      refine lcS walk_tup (fun n => .str (ρ n)) hD7 (fun H' s => SqT.of (s _ _ hn)) (by omega) (fun _ => rfl) (fun n hn2 HE sE QE qE => ⟨_, rfl, _, rfl, kn, _, rfl, gk7 ((tC.trans sD).trans sE) (mlk hn2), qE HE (Same.refl _)⟩) fun HE sE hdE => ?_
      have hdE' : HE D7 = some (.lst (vS ((lockedOf (bareFr B) (blkFor bss) (rsOf (bareFr B) rows)).map ρ))) := by rw [hdE, vS, List.map_map]; rfl
      refine ⟨D7, _, rfl, SqL.of hdE', by rw [List.length_map]; omega, fun p8 hp8 => ?_⟩
      have tF := (sD.trans sE).trans (same_new (o := .lst (vS (srt ((lockedOf (bareFr B) (blkFor bss) (rsOf (bareFr B) rows)).map ρ)))) hp8)
      refine ⟨l2, p8, _, _, rfl, rfl, SqL.of (tF _ _ eC), SqL.of upd_same, (sm_locked fok').1, fun z hz => by
        rw [← hlk] at hz
        exact (sm_locked fok').1 z hz, _, rfl, ?_⟩
      rw [decide_eq_true hlk]
      refine iteF ?_
      have tA := tC.trans tF
      generalize upd HE p8 (.lst (vS (srt ((lockedOf (bareFr B) (blkFor bss) (rsOf (bareFr B) rows)).map ρ)))) = HA at tA

      refine ⟨_, rfl, d, B, rfl, st7.bare.mono (Same.L tA), by rw [List.length_append, List.length_append]; have : B.rls.length ≤ 2 := (by rcases ok.rails with e | e | e | e <;> rw [e] <;> simp); omega, fun ml HB sB hml0 hml => ?_⟩
      rw [bare_members ok] at hml
      refine ⟨ml, rfl, ⟨_, SqL.of hml⟩, fun D9 hD9 => ?_⟩
      have tB := tA.trans sB
      refine lfS walk_list (fun _ => false) hD9 (fun H' s => SqL.of (s _ _ hml)) (by have := members_few fok; omega) (fun _ => rfl) (fun _ => rfl) (fun n hn HC sC QC qC => ?_) fun HC sC hdC => ?_
      · have tC := tB.trans sC
        refine ⟨_, rfl, oa, dxb, _, rfl, tC _ _ eb, rfl, _, rfl, _, rfl, kn, _, rfl, gk7 tC hn, oa, bareFr B', blk', rs', ρ n, rfl, ho.mono (Same.L tC), R.mem' hn, fun p1 hp1 => ?_⟩
        refine ⟨_, rfl, ta, dxa, _, rfl, tC _ _ ea, rfl, _, rfl, ta, bareFr B, blkFor bss, _, n, rfl, tl.mono (Same.L tC), hn, fun p2 hp2 => ⟨p1, p2, _, _, rfl, rfl, SqT.of hp1, SqT.of hp2, _, rfl, ?_⟩⟩
        rw [decide_eq_true (hlv n hn)]
        exact qC HC (Same.refl _)
      · rw [List.filter_eq_nil_iff.mpr (fun _ _ => by simp)] at hdC
        refine ⟨Nat.zero_le _, fun pe hpe => ⟨D9, pe, [], [], rfl, rfl, SqL.of (same_new hpe _ _ hdC), SqL.of upd_same, (fun _ h => by cases h), (fun _ h => by cases h), ?_⟩⟩
        rw [decide_eq_true rfl]
        have tZ := (tB.trans sC).trans (same_new (o := .lst []) hpe)
        exact q _ (sq7.trans (Same.Q tZ)) ((st7.pen.ext tZ).le (by omega))
end
end Sj
set_option Elab.async false
set_option linter.all false
set_option maxRecDepth 100000
set_option maxHeartbeats 4000000
/-! SjLaw14: _law_order_right. -/
namespace Sj
open PySem PySem.Spec PyProof.Rows L2 He
theorem ord_same {f : Fr} {rows : Rows} {order : List Nat} (h1 : ∀ k ∈ order, k < rows.length) (h2 : ∀ k < rows.length, k ∈ order) (r : List (Str × Int)) : r ∈ rsOf f (order.map fun k => rows.getD k []) ↔ r ∈ rsOf f rows := by
  have key : ∀ z, z ∈ (order.map fun k => rows.getD k []) ↔ z ∈ rows := fun z => by
    rw [List.mem_map]
    constructor
    · rintro ⟨k, hk, e⟩
      have hk := h1 k hk
      rw [List.getD_eq_getElem?_getD, List.getElem?_eq_getElem hk] at e
      rw [← e]
      exact List.getElem_mem hk
    · intro hz
      obtain ⟨k, hk, e⟩ := List.mem_iff_getElem.mp hz
      exact ⟨k, h2 k hk, by rw [List.getD_eq_getElem?_getD, List.getElem?_eq_getElem hk]; exact e⟩
  exact ⟨rs_sub (fun z hz => (key z).mp hz) r, rs_sub (fun z hz => (key z).mpr hz) r⟩
theorem ord_at {f : Fr} {rows : Rows} {order : List Nat} {i k : Nat} (h1 : ∀ k ∈ order, k < rows.length) (h : order[i]? = some k) : (rsOf f (order.map fun k => rows.getD k []))[i + 1]? = (rsOf f rows)[k + 1]? := by
  have hk := h1 k (List.mem_of_getElem? h)
  show ((order.map fun k => rows.getD k []).map (told f.top))[i]? = (rows.map (told f.top))[k]?
  rw [List.getElem?_map, List.getElem?_map, List.getElem?_map, h, List.getElem?_eq_getElem hk]
  show some (told f.top (rows.getD k [])) = some (told f.top rows[k])
  rw [List.getD_eq_getElem?_getD, List.getElem?_eq_getElem hk]
  rfl
theorem rows_map {H : Hp} {ras : List Addr} {rows : Rows} (h : RowsAt H ras rows) : ∀ {order : List Nat}, (∀ k ∈ order, k < rows.length) → RowsAt H (order.map fun k => ras.getD k 0) (order.map fun k => rows.getD k [])
  | [], _ => .nil
  | k :: r, h1 => by
    have hk := h1 k List.mem_cons_self
    have hk2 : k < ras.length := by rw [← paired_len h]; exact hk
    refine .cons ?_ (rows_map h fun z hz => h1 z (List.mem_cons_of_mem _ hz))
    have ea : ras[k]? = some ras[k] := List.getElem?_eq_getElem hk2
    obtain ⟨r0, e0, e1⟩ := paired_at h ea
    show H (ras.getD k 0) = some (.dK (rowK (rows.getD k [])))
    rw [List.getD_eq_getElem?_getD, ea, List.getD_eq_getElem?_getD, e0]
    exact e1
theorem inV_nats (k : Nat) : ∀ xs : List Nat, inV (.int (k : Nat)) (vN xs) = decide (k ∈ xs)
  | [] => by simp [inV, vN]
  | x :: xs => by
    show ((((x : Nat) : Int) == ((k : Nat) : Int)) || inV (.int (k : Nat)) (vN xs)) = _
    rw [inV_nats k xs, Bool.eq_iff_iff, Bool.or_eq_true, beq_iff_eq, decide_eq_true_iff, decide_eq_true_iff, List.mem_cons]
    exact or_congr (by omega) Iff.rfl
theorem nl_nats {xs : List Nat} : ¬ Loose (.lst (vN xs)) := nl_lst fun a i j e => by
  cases xs with
  | nil => cases e
  | cons x r => cases e
theorem vN_flat : ∀ xs : List Nat, (vN xs).all flatV = true
  | [] => rfl
  | x :: xs => by
    show (flatV (V.int (x : Nat)) && (vN xs).all flatV) = true
    rw [vN_flat xs]
    rfl
theorem vN_vI (xs : List Nat) : vN xs = vI (xs.map fun i => ((i : Nat) : Int)) := by
  rw [vI, List.map_map]
  rfl
section
variable {P : Program} {w : World} {K : Frg} {mg : Str → Option Value} {base h : Heap}
def sp_law_order_right (K : Frg) : Sp := fun vs H Q _ => ∃ (p c d bl rw ta : Addr) (B : Bare) (bas ras : List Addr) (bss : List (List Str)) (rows : Rows) (b : Nat), vs = [.ref p, .ref d, .ref bl, .ref rw, .ref ta] ∧ StAt K H p c d bl rw ta B bas ras bss rows b ∧ b < 800000 ∧
  ∀ H', SameQ K p H H' → PenAt H' p c (b + 10000) → Q (.bl true) H'
theorem ok_law_order_right (T : Txt K mg h) (TB : LamX.TabB base mg (cF K) (tF K)) : GG P w K mg base "_law_order_right" 18 (sp_law_order_right K) := by
  refine ⟨_, T.g_law_order_right, keepX T.d_law_order_right, mkFnG T.d_law_order_right sc_law_order_right (fun _ _ _ _ _ _ us hl => match us, hl with | [_, _, _, _, _], _ => rfl) (fun vs H Q E h => ?_) (fun cdv A outer s H vs Q E hgd hr h => ?_)⟩
  · obtain ⟨p, c, d, bl, rw, ta, B, bas, ras, bss, rows, b, rfl, _⟩ := h
    rfl
  · obtain ⟨p, c, d, bl, rw, ta, B, bas, ras, bss, rows, b, rfl, st, hb, q⟩ := h
    refine ⟨_, pss_cons (pset 5 sc_law_order_right.nd (pc (ok_law_mixed T) hr (pa_cons (pv 0) (pa_cons (plen T (pv 3)) pa_nil))))
      (pss_cons (pset 5 sc_law_order_right.nd (pe_op op_cat (pv 5) (pe_lst (pa_cons (pc (ok_law_pick T) hr (pa_cons (pv 0) (pa_cons (pv 5) pa_nil))) pa_nil))))
      (pss_cons (pset 7 sc_law_order_right.nd (pc (ok_law_readings T TB) hr (pa_cons (pv 1) (pa_cons (pv 2) (pa_cons (plc 6 sc_law_order_right.nd (pi_list (pv 5)) (fun _ _ _ _ _ => pe_ix (r := rIxL K) ix_list (pv 3) (pv 6) (fun _ _ => rfl))) pa_nil)))))
      (pss_cons (ps_if (pt_cmpR op_ne (pe_callB (cr_repr hr hgd) (by rfl) T.b_repr bt_repr (pa_cons (pc (ok_law_sorts T) hr (pa_cons (pv 7) pa_nil)) pa_nil)) (pe_callB (cr_repr hr hgd) (by rfl) T.b_repr bt_repr (pa_cons (pc (ok_law_sorts T) hr (pa_cons (pv 4) pa_nil)) pa_nil)) (by rfl)) (pss_one (ps_ret pe_bl)) pss_nil)
      (pss_cons (pfor 8 sc_law_order_right.nd (pi_list (pc (ok_law_members T) hr (pa_cons (pv 1) pa_nil)))
        (pss_cons (pfor2 9 6 sc_law_order_right.nd (pi_enum (by rfl) T.b_enumerate (pa_cons (pv 5) pa_nil))
          (pss_cons (ps_if (PW.pt (pw_or (pt_cmpR op_ne (pe_ix ix_tup (pm (mf_Readings_levels T) hr (pv 7) (pa_cons (pv 8) pa_nil)) (pe_op op_add (pv 9) pe_int) (fun _ _ => rfl)) (pe_ix ix_tup (pm (mf_Readings_levels T) hr (pv 4) (pa_cons (pv 8) pa_nil)) (pe_op op_add (pv 6) pe_int) (fun _ _ => rfl)) (by rfl))
            (pw_or1 (pt_cmpR op_ne (pe_ix ix_tup (pm (mf_Readings_levels T) hr (pv 7) (pa_cons (pv 8) pa_nil)) pe_int (fun _ _ => rfl)) (pe_ix ix_tup (pm (mf_Readings_levels T) hr (pv 4) (pa_cons (pv 8) pa_nil)) pe_int (fun _ _ => rfl)) (by rfl))))) (pss_one (ps_ret pe_bl)) pss_nil)
          (pss_one (ps_if (pt_cmpR op_ne (pe_callB (cr_reprT hr hgd) (by rfl) T.b_repr bt_repr (pa_cons (pm (mf_Readings_makers T) hr (pv 7) (pa_cons (pv 8) (pa_cons (pe_op op_add (pv 9) pe_int) pa_nil))) pa_nil)) (pe_callB (cr_reprT hr hgd) (by rfl) T.b_repr bt_repr (pa_cons (pm (mf_Readings_makers T) hr (pv 4) (pa_cons (pv 8) (pa_cons (pe_op op_add (pv 6) pe_int) pa_nil))) pa_nil)) (by rfl)) (pss_one (ps_ret pe_bl)) pss_nil))))
        (pss_cons (pset 10 sc_law_order_right.nd (pm (mf_Readings_marked T) hr (pv 4) (pa_cons (pv 8) pa_nil)))
        (pss_cons (pset 11 sc_law_order_right.nd (pe_op op_cat (pe_op op_rep (pe_lst (pa_cons pe_int pa_nil)) (pint T (pe_cmpR op_in_seq pe_int (pv 10) (by rfl)))) (plpIf 9 6 sc_law_order_right.nd (pi_enum (by rfl) T.b_enumerate (pa_cons (pv 5) pa_nil)) (fun _ _ _ _ _ => pt_cmpR (r := rIn K false) op_in_seq (pe_op op_add (pv 6) pe_int) (pv 10) (by rfl)) (fun _ _ _ _ _ => pe_op op_add (pv 9) pe_int))))
        (pss_one (ps_if (pt_cmpR (op_neI false hr (K := K)) (plist T (pm (mf_Readings_marked T) hr (pv 7) (pa_cons (pv 8) pa_nil))) (pv 11) (by rfl)) (pss_one (ps_ret pe_bl)) pss_nil))))))
      (pss_one (ps_ret pe_bl)))))), ?_⟩
    have hlr : rows.length = ras.length := paired_len st.hrs
    have hlen : (ras.map V.ref).length = rows.length := by rw [List.length_map, hlr]
    have few := st.few
    have pos := st.pos
    have ok := st.ok
    have fok := bare_ok ok
    refine ⟨_, rfl, _, rfl, rw, _, rfl, .inl (SqL.of st.hrw), p, c, rows.length, b, by rw [hlen], st.pen, by omega, by omega, fun D ks H1 s1 hp1 hD0 hks hperm => ?_⟩
    have nD := st.pen.new hD0
    have hksl : ks.length = rows.length := by rw [hperm.length_eq, List.length_range]
    have st1 := st.q (s1.Q st.pen) hp1
    refine ⟨_, rfl, _, rfl, _, rfl, p, c, D, b + rows.length, vN ks, rfl, hp1, SqL.of hks, nD.1.symm, by rw [vN_len]; omega, by rw [vN_len]; omega, by omega, fun v H2 s2 hp2 hv => ?_⟩
    obtain ⟨k0, hk0, rfl⟩ := List.mem_map.mp hv
    have st2 := st1.q (s2.Q hp1) hp2
    have hks2 := s2 _ _ nD.1 hks
    refine ⟨by rw [sizeLine_eq]; exact (by show 1 ≤ 16777216; decide), fun l hl => ?_⟩
    have t3 := same_new (o := .lst [V.int (k0 : Nat)]) hl
    refine ⟨D, l, _, _, rfl, rfl, t3 _ _ hks2, upd_same, by rw [vN_len, sizeLine_eq]; show ks.length + 1 ≤ 16777216; omega, fun l2 hl2 => ?_⟩
    have t4 := t3.trans (same_new (o := .lst (vN ks ++ [V.int (k0 : Nat)])) hl2)
    have hl2v : (upd (upd H2 l (.lst [V.int (k0 : Nat)])) l2 (.lst (vN ks ++ [V.int (k0 : Nat)]))) l2 = some (.lst (vN (ks ++ [k0]))) := by rw [upd_same, vN, vN, List.map_append]; rfl
    generalize upd (upd H2 l (.lst [V.int (k0 : Nat)])) l2 (.lst (vN ks ++ [V.int (k0 : Nat)])) = H4 at t4 hl2v
    have ho1 : ∀ k ∈ ks ++ [k0], k < rows.length := fun k hk => by
      rcases List.mem_append.mp hk with h | h
      · exact List.mem_range.mp (hperm.mem_iff.mp h)
      · rw [List.mem_singleton.mp h]
        exact List.mem_range.mp (hperm.mem_iff.mp hk0)
    have ho2 : ∀ k < rows.length, k ∈ ks ++ [k0] := fun k hk => List.mem_append_left _ (hperm.mem_iff.mpr (List.mem_range.mpr hk))
    have hol : (ks ++ [k0]).length = rows.length + 1 := by rw [List.length_append, hksl]; rfl
    generalize ks ++ [k0] = order at hl2v ho1 ho2 hol
    have st4 := st2.q (Same.Q t4) (hp2.ext t4)
    refine ⟨_, rfl, _, rfl, _, rfl, l2, rfl, ⟨_, SqL.of hl2v⟩, fun D2 hD2 => ?_⟩
    let gR : V → V := fun v => match v with | .int i => .ref (ras.getD i.toNat 0) | _ => v
    refine lcv (walk_list (xs := vN order)) gR hD2 (fun H' s => SqL.of (s _ _ hl2v)) (by rw [vN_len]; omega) (fun _ => rfl) (fun x hx H5 s5 Q5 q5 => ?_) fun H5 s5 hd5 => ?_
    · obtain ⟨k, hk, rfl⟩ := List.mem_map.mp hx
      have hk := ho1 k hk
      have hk2 : k < ras.length := by omega
      have e1 : (ras.map V.ref)[k]? = some (gR (V.int (k : Nat))) := by
        show _ = some (V.ref (ras.getD ((k : Nat) : Int).toNat 0))
        rw [List.getElem?_map, Int.toNat_natCast, List.getD_eq_getElem?_getD, List.getElem?_eq_getElem hk2]
        rfl
      exact ⟨_, rfl, _, rfl, rw, _, _, _, rfl, rfl, SqL.of (s5 _ _ st4.hrw), atI_nat e1, q5 H5 (Same.refl _)⟩
    have hd5' : H5 D2 = some (.lst ((order.map fun k => ras.getD k 0).map V.ref)) := by
      rw [hd5, vN, List.map_map, List.map_map]
      refine congrArg (fun z => some (HO.lst z)) (List.map_congr_left fun k _ => ?_)
      show V.ref (ras.getD ((k : Nat) : Int).toNat 0) = V.ref (ras.getD k 0)
      rw [Int.toNat_natCast]
    clear hd5
    have st5 := st4.q (Same.Q s5) (st4.pen.ext s5)
    refine ⟨d, bl, D2, B, bas, order.map fun k => ras.getD k 0, bss, order.map fun k => rows.getD k [], rfl, st5.bare, ok, st5.hbl, st5.hbs, st5.pok, hd5', rows_map st5.hrs ho1, (fun r hr => by
      obtain ⟨k, hk, rfl⟩ := List.mem_map.mp hr
      have hk := ho1 k hk
      rw [List.getD_eq_getElem?_getD, List.getElem?_eq_getElem hk]
      exact st.rok _ (List.getElem_mem hk)), by rw [List.length_map]; omega, st5.tab, fun oa H6 (s6 : SameX K H5 H6) ho => ?_⟩
    have st6 := st5.q s6.Q (st5.pen.X s6)
    have hord6 := s6.L _ _ (s5 _ _ hl2v) nl_nats
    have sq6 : SameQ K p H H6 := ((((s1.Q st.pen).trans (s2.Q hp1)).trans (Same.Q t4)).trans (Same.Q s5)).trans s6.Q
    have hsame := ord_same (f := bareFr B) ho1 ho2
    have hat : ∀ i k, order[i]? = some k → (rsOf (bareFr B) (order.map fun k => rows.getD k []))[i + 1]? = (rsOf (bareFr B) rows)[k + 1]? := fun i k => ord_at ho1
    have h0 : (rsOf (bareFr B) (order.map fun k => rows.getD k []))[0]? = (rsOf (bareFr B) rows)[0]? := rfl
    have hl1 : (rsOf (bareFr B) (order.map fun k => rows.getD k [])).length = order.length + 1 := by
      show (_ :: _).length = _
      rw [List.length_cons, List.length_map, List.length_map]
    have hl0 : (rsOf (bareFr B) rows).length = rows.length + 1 := by
      show (_ :: _).length = _
      rw [List.length_cons, List.length_map]
    have tl := st6.told
    generalize rsOf (bareFr B) (order.map fun k => rows.getD k []) = rs' at ho hsame hat h0 hl1
    generalize rsOf (bareFr B) rows = rs at tl hsame hat h0 hl0
    obtain ⟨dxa, _, _, _, _, _, _, _, _, ea⟩ := tl.ins
    obtain ⟨dxb, _, _, _, _, _, _, _, _, eb⟩ := ho.ins
    refine ⟨_, rfl, oa, bareFr B, blkFor bss, rs', rfl, ho, fun l6 H7 s7 ⟨c7, bs7, vi7, vl7, vm7, z1, z2, z3, z4, z5, z6, z7⟩ => ?_⟩
    refine ⟨l6, c7, bs7, vi7, vl7, vm7, _, _, _, rfl, SqL.of z1, SqT.of z2, fun b hb => SqT.of (z3 b hb), z5, z6, z7, shown_sorts (sm_cls fok z4) (cls_few fok z4) (sm_idle fok) (sm_locked fok) (sm_mute fok), ?_⟩
    refine ⟨_, rfl, ta, bareFr B, blkFor bss, rs, rfl, tl.mono (Same.L s7), fun l8 H8 s8 ⟨c8, bs8, vi8, vl8, vm8, y1, y2, y3, y4, y5, y6, y7⟩ => ?_⟩
    refine ⟨l8, c8, bs8, vi8, vl8, vm8, _, _, _, rfl, SqL.of y1, SqT.of y2, fun b hb => SqT.of (y3 b hb), y5, y6, y7, shown_sorts (sm_cls fok y4) (cls_few fok y4) (sm_idle fok) (sm_locked fok) (sm_mute fok), rfl, _, rfl, ?_⟩
    rw [cls_same hsame z4 y4, idle_same hsame, locked_same hsame, mute_same hsame, decide_eq_true rfl]
    refine iteF ?_
    have t8 := s7.trans s8
    refine ⟨_, rfl, d, B, rfl, st6.bare.mono (Same.L t8), by rw [List.length_append, List.length_append]; have h1 := ok.few; have : B.rls.length ≤ 2 := (by rcases ok.rails with e | e | e | e <;> rw [e] <;> simp); rw [List.length_append] at h1; omega, fun ml H9 s9 hml0 hml => ?_⟩
    rw [bare_members ok] at hml
    have t9 := t8.trans s9
    have hor9 := t9 _ _ hord6
    have ea9 := t9 _ _ ea
    have eb9 := t9 _ _ eb
    have tl9 := tl.mono (Same.L t9)
    have ho9 := ho.mono (Same.L t9)
    refine ⟨ml, rfl, ⟨_, SqL.of hml⟩, ?_⟩
    refine for_it (walk_list (xs := vS (bareFr B).members)) (fun _ σ H' => (∃ x y z u v, σ = [some (.ref p), some (.ref d), some (.ref bl), some (.ref rw), some (.ref ta), some (.ref l2), x, some (.ref oa), y, z, u, v]) ∧ Same H9 H') ⟨⟨_, _, _, _, _, rfl⟩, Same.refl _⟩ (fun i σ H' _ h => SqL.of (h.2 _ _ hml)) (fun i x σ HA H' hi hA hy => ?_) (fun σ HA hA => ?_)
    · obtain ⟨e, hx⟩ := hy
      subst e
      obtain ⟨⟨x6, x8, x9, x10, x11, rfl⟩, sA⟩ := hA
      obtain ⟨n, rfl, hn⟩ := str_at hx
      have hn := List.mem_of_getElem? hn
      refine ⟨_, rfl, l2, _, rfl, SqL.of (sA _ _ hor9), ?_⟩
      refine for_it (walk_enum (xs := vN order)) (fun _ σ H2 => (∃ x z, σ = [some (.ref p), some (.ref d), some (.ref bl), some (.ref rw), some (.ref ta), some (.ref l2), x, some (.ref oa), some (.str n), z, x10, x11]) ∧ Same H9 H2) ⟨⟨_, _, rfl⟩, sA⟩ (fun i σ H' _ h => SqL.of (h.2 _ _ hor9)) (fun j y σ HB HB' hj hB hy => ?_) (fun σ HB hB => ?_)
      · obtain ⟨Tp, x, y, rfl, hT, rfl, hx, hy⟩ := hy
        obtain ⟨⟨v6, v9, rfl⟩, sB⟩ := hB
        rw [vN_len] at hj
        cases hx
        obtain ⟨k, rfl, hk⟩ : ∃ k : Nat, y = .int (k : Nat) ∧ order[j]? = some k := by
          have hy : (vN order)[j]? = some y := hy
          rw [vN, List.getElem?_map] at hy
          cases e : order[j]? with
          | none => rw [e] at hy; cases hy
          | some k => rw [e] at hy; exact ⟨k, (Option.some.inj hy).symm, rfl⟩
        refine g2_of (SqT.of upd_same) ?_
        have sC := sB.trans (same_new (o := .tup [V.int (j : Nat), V.int (k : Nat)]) hT)
        generalize upd HB Tp (.tup [V.int (j : Nat), V.int (k : Nat)]) = HC at sC
        have hkn := ho1 k (List.mem_of_getElem? hk)
        have hjk := hat j k hk
        have hat1 : ∀ {i : Nat} {xs : List Int} {x : Int}, xs[i]? = some x → atI (vI xs) (i : Nat) = some (.int x) := fun e => atI_nat (by rw [vI, List.getElem?_map, e]; rfl)
        obtain ⟨l0, e0⟩ : ∃ x, (lv (bareFr B) (blkFor bss) rs n)[0]? = some x := ⟨_, List.getElem?_eq_getElem (by rw [lv, List.length_map]; omega)⟩
        obtain ⟨lk, ek⟩ : ∃ x, (lv (bareFr B) (blkFor bss) rs n)[k + 1]? = some x := ⟨_, List.getElem?_eq_getElem (by rw [lv, List.length_map]; omega)⟩
        have e0' : (lv (bareFr B) (blkFor bss) rs' n)[0]? = some l0 := (lv_at h0).trans e0
        have ek' : (lv (bareFr B) (blkFor bss) rs' n)[j + 1]? = some lk := (lv_at hjk).trans ek
        refine ⟨_, rfl, oa, dxb, _, rfl, sC _ _ eb9, rfl, _, rfl, oa, bareFr B, blkFor bss, rs', n, rfl, ho9.mono (Same.L sC), hn, fun p1 hp1 => ⟨_, rfl, _, _, rfl, rfl, p1, _, _, .int lk, rfl, rfl, SqT.of hp1, hat1 (i := j + 1) ek', ?_⟩⟩
        refine ⟨_, rfl, ta, dxa, _, rfl, sC _ _ ea9, rfl, _, rfl, ta, bareFr B, blkFor bss, rs, n, rfl, tl9.mono (Same.L sC), hn, fun p2 hp2 => ⟨_, rfl, _, _, rfl, rfl, p2, _, _, .int lk, rfl, rfl, SqT.of hp2, hat1 (i := k + 1) ek, rfl, _, rfl, ?_⟩⟩
        rw [decide_eq_true rfl]
        refine iteF ?_
        refine ⟨_, rfl, oa, dxb, _, rfl, sC _ _ eb9, rfl, _, rfl, oa, bareFr B, blkFor bss, rs', n, rfl, ho9.mono (Same.L sC), hn, fun p3 hp3 => ⟨p3, _, _, .int l0, rfl, rfl, SqT.of hp3, hat1 (i := 0) e0', ?_⟩⟩
        refine ⟨_, rfl, ta, dxa, _, rfl, sC _ _ ea9, rfl, _, rfl, ta, bareFr B, blkFor bss, rs, n, rfl, tl9.mono (Same.L sC), hn, fun p4 hp4 => ⟨p4, _, _, .int l0, rfl, rfl, SqT.of hp4, hat1 (i := 0) e0, rfl, _, rfl, ?_⟩⟩
        rw [decide_eq_true rfl]
        refine iteF ?_
        have smk : ∀ {rs : Rows} {i : Nat}, SmS (makersOf (bareFr B) (blkFor bss) rs n i) := fun {rs i} => by
          unfold makersOf
          split
          · exact ⟨(fun _ h => by cases h), Nat.zero_le _⟩
          · exact sm_sub fok (List.filter_sublist.trans List.filter_sublist)
        refine ⟨_, rfl, oa, dxb, _, rfl, sC _ _ eb9, rfl, _, rfl, _, rfl, _, _, rfl, rfl, oa, bareFr B, blkFor bss, rs', n, j + 1, rfl, ho9.mono (Same.L sC), hn, by omega, fun q1 HD sD hq1 => ⟨q1, _, rfl, SqT.of hq1, smk, ?_⟩⟩
        have sD := sC.trans sD
        refine ⟨_, rfl, ta, dxa, _, rfl, sD _ _ ea9, rfl, _, rfl, _, rfl, _, _, rfl, rfl, ta, bareFr B, blkFor bss, rs, n, k + 1, rfl, tl9.mono (Same.L sD), hn, by omega, fun q2 HE sE hq2 => ⟨q2, _, rfl, SqT.of hq2, smk, rfl, _, rfl, ?_⟩⟩
        rw [makers_at hsame hjk, decide_eq_true rfl]
        exact iteF ⟨⟨_, _, rfl⟩, sD.trans sE⟩
      · obtain ⟨⟨v6, v9, rfl⟩, sB⟩ := hB
        refine ⟨_, rfl, ta, dxa, _, rfl, sB _ _ ea9, rfl, _, rfl, ta, bareFr B, blkFor bss, rs, n, rfl, tl9.mono (Same.L sB), hn, fun pmk HC sC hmk => ?_⟩
        have sC := sB.trans sC
        have hma := marked_at (f := bareFr B) (blk := blkFor bss) (n := n) hl1 h0 hat
        generalize mkd (lv (bareFr B) (blkFor bss) rs n) (bareFr B).top = M at hmk hma
        refine ⟨by rw [sizeLine_eq]; exact (by show 1 ≤ 16777216; decide), fun l hl => ?_⟩
        have tD := same_new (o := .lst [V.int 0]) hl
        have i0 : inV (.int 0) (vN M) = decide (0 ∈ M) := inV_nats 0 M
        refine ⟨_, rfl, pmk, _, rfl, .inr (SqT.of (tD _ _ hmk)), rfl, vN_flat _, ?_⟩
        rw [i0, show (if false = true then !decide (0 ∈ M) else decide (0 ∈ M)) = decide (0 ∈ M) from rfl]
        refine .inr ⟨_, rfl, l, _, _, rfl, rfl, upd_same, ?_, ?_, ?_, fun l' hl' => ?_⟩
        · split <;> decide
        · split <;> decide
        · rw [sizeLine_eq]
          have : (if (decide (0 ∈ M) = true) then (1 : Int) else 0).toNat ≤ 1 := by split <;> decide
          show 1 * _ ≤ 16777216
          omega
        have hrep : (List.replicate (if (decide (0 ∈ M) = true) then (1 : Int) else 0).toNat [V.int 0]).flatten = vN (if 0 ∈ M then [0] else []) := by
          by_cases h : 0 ∈ M
          · rw [decide_eq_true h, if_pos rfl, if_pos h]; rfl
          · rw [decide_eq_false h, if_neg (by decide), if_neg h]; rfl
        rw [hrep]
        have tE := tD.trans (same_new (o := .lst (vN (if 0 ∈ M then [0] else []))) hl')
        have hl'v : (upd (upd HC l (.lst [V.int 0])) l' (.lst (vN (if 0 ∈ M then [0] else [])))) l' = some (.lst (vN (if 0 ∈ M then [0] else []))) := upd_same
        generalize upd (upd HC l (.lst [V.int 0])) l' (.lst (vN (if 0 ∈ M then [0] else []))) = HE at tE hl'v
        have sE := sC.trans tE
        have hmkE := tE _ _ hmk
        refine ⟨_, rfl, l2, _, rfl, SqL.of (sE _ _ hor9), fun D3 hD3 => ?_⟩
        refine lcp (walk_enum (xs := vN order)) ((List.range order.length).map fun i => (V.int (i : Nat), V.int ((order.getD i 0 : Nat) : Int))) (by rw [List.length_map, List.length_range, vN_len]) (fun i x y hx hy => ?_) (fun z => match z.2 with | .int k => decide (k.toNat + 1 ∈ M) | _ => false) (fun _ x y _ => y = (match x.1 with | .int i => V.int (i + 1) | v => v)) hD3 (fun H' s => SqL.of (s _ _ (sE _ _ hor9))) (fun _ _ _ _ _ h => h)
          (by rw [List.length_map, List.length_range]; omega) (fun _ _ => rfl) (fun z hz HF sF QF qF => ?_) (fun z hz hf HF sF QF qF => ?_) (fun ys HF sF hdF pr => ?_)
        · cases hx
          have hy : (vN order)[i]? = some y := hy
          rw [vN, List.getElem?_map] at hy
          cases e : order[i]? with
          | none => rw [e] at hy; cases hy
          | some k =>
            rw [e] at hy
            cases hy
            rw [List.getElem?_map, List.getElem?_range (List.getElem?_eq_some_iff.mp e).1]
            show some (V.int (i : Nat), V.int ((order.getD i 0 : Nat) : Int)) = _
            rw [List.getD_eq_getElem?_getD, e]
            rfl
        · obtain ⟨i, hi, rfl⟩ := List.mem_map.mp hz
          refine ⟨_, rfl, _, _, rfl, rfl, _, rfl, pmk, _, rfl, .inr (SqT.of (sF _ _ hmkE)), rfl, vN_flat _, ?_⟩
          have i1 : inV (.int (((order.getD i 0 : Nat) : Int) + 1)) (vN M) = decide (order.getD i 0 + 1 ∈ M) := inV_nats (order.getD i 0 + 1) M
          have qF := qF HF (Same.refl _)
          have e2 : (decide ((((order.getD i 0 : Nat) : Int)).toNat + 1 ∈ M)) = decide (order.getD i 0 + 1 ∈ M) := by rw [Int.toNat_natCast]
          change QF (decide ((((order.getD i 0 : Nat) : Int)).toNat + 1 ∈ M)) HF at qF
          rw [e2] at qF
          refine ⟨_, rfl, ?_⟩
          show QF (if false = true then _ else inV (.int (((order.getD i 0 : Nat) : Int) + 1)) (vN M)) HF
          rw [if_neg (by decide), i1]
          exact qF
        · obtain ⟨i, hi, rfl⟩ := List.mem_map.mp hz
          exact ⟨_, rfl, _, _, rfl, rfl, qF _ HF (Same.refl _) rfl⟩
        · have e := paired_map (g := fun x : V × V => (match x.1 with | .int i => V.int (i + 1) | v => v)) pr
          have e3 : ys = vN (((List.range order.length).filter fun i => decide (order.getD i 0 + 1 ∈ M)).map (· + 1)) := by
            rw [e, List.filter_map, List.map_map, vN, List.map_map]
            refine (List.map_congr_left fun i _ => ?_).trans (congrArg _ (List.filter_congr fun i _ => ?_))
            · rfl
            · show decide ((((order.getD i 0 : Nat) : Int)).toNat + 1 ∈ M) = _
              rw [Int.toNat_natCast]
          subst e3
          clear e pr
          have sF' := sE.trans sF
          refine ⟨l', D3, _, _, rfl, rfl, sF _ _ hl'v, hdF, ?_, fun l3 hl3 => ?_⟩
          · rw [vN_len, vN_len, List.length_map, sizeLine_eq]
            have h1 := List.length_filter_le (fun i => decide (order.getD i 0 + 1 ∈ M)) (List.range order.length)
            rw [List.length_range] at h1
            have h2 : (if 0 ∈ M then [0] else [] : List Nat).length ≤ 1 := by split <;> simp
            omega
          have evv : vN (if 0 ∈ M then [0] else []) ++ vN (((List.range order.length).filter fun i => decide (order.getD i 0 + 1 ∈ M)).map (· + 1)) = vN (mkd (lv (bareFr B) (blkFor bss) rs' n) (bareFr B).top) := by
            rw [hma, vN, vN, vN, List.map_append]
          rw [evv]
          have tG := same_new (o := .lst (vN (mkd (lv (bareFr B) (blkFor bss) rs' n) (bareFr B).top))) hl3
          have hl3v : (upd HF l3 (.lst (vN (mkd (lv (bareFr B) (blkFor bss) rs' n) (bareFr B).top)))) l3 = some (.lst (vN (mkd (lv (bareFr B) (blkFor bss) rs' n) (bareFr B).top))) := upd_same
          generalize upd HF l3 (.lst (vN (mkd (lv (bareFr B) (blkFor bss) rs' n) (bareFr B).top))) = HG at tG hl3v
          have sG := sF'.trans tG
          refine ⟨_, rfl, oa, dxb, _, rfl, sG _ _ eb9, rfl, _, rfl, oa, bareFr B, blkFor bss, rs', n, rfl, ho9.mono (Same.L sG), hn, fun p5 HI sI h5 => ⟨p5, _, rfl, .inr (SqT.of h5), fun l5 hl5 => ?_⟩⟩
          have tJ := same_new (o := .lst (vN (mkd (lv (bareFr B) (blkFor bss) rs' n) (bareFr B).top))) hl5
          refine ⟨_, rfl, l5, l3, (mkd (lv (bareFr B) (blkFor bss) rs' n) (bareFr B).top).map fun i => ((i : Nat) : Int), (mkd (lv (bareFr B) (blkFor bss) rs' n) (bareFr B).top).map fun i => ((i : Nat) : Int), rfl, rfl, SqL.of (by rw [upd_same, vN_vI]), SqL.of (by rw [tJ _ _ (sI _ _ hl3v), vN_vI]), _, rfl, ?_⟩
          rw [decide_eq_true rfl]
          exact iteF ⟨⟨_, _, _, _, _, rfl⟩, sG.trans (sI.trans tJ)⟩
    · obtain ⟨_, sA⟩ := hA
      have tA := t9.trans sA
      exact q _ (sq6.trans (Same.Q tA)) ((st6.pen.ext tA).le (by omega))
end
end Sj
set_option Elab.async false
set_option linter.all false
set_option maxRecDepth 100000
set_option maxHeartbeats 4000000
/-! SjLaw15: the law. -/
namespace Sj
open PySem PySem.Spec PyProof.Rows L2 He
section
variable {P : Program} {w : World} {K : Frg} {mg : Str → Option Value} {base h : Heap}
theorem SameQ.of_tab {K : Frg} {p : Addr} {H H' : Hp} (s : SameQ K p H H') (t : LamX.TabS H (tF K) lamQ) : LamX.TabS H' (tF K) lamQ := s.tab t
def sp_law (K : Frg) : Sp := fun vs H Q _ => ∃ (s : Addr) (cells : List Int), vs = [.ref s] ∧ SqL K H s (vI cells) ∧ LamX.TabS H (tF K) lamQ ∧ ∀ H', Q (.bl true) H'
theorem ok_law (T : Txt K mg h) (TB : LamX.TabB base mg (cF K) (tF K)) : FnG P w K mg base 20 (ga K "law") (sp_law K) := by
  refine mkFnG T.d_law sc_law (fun _ _ _ _ _ _ us hl => match us, hl with | [_], _ => rfl) (fun vs H Q E h => ?_) (fun cdv A outer s H vs Q E hgd hr h => ?_)
  · obtain ⟨s, cells, rfl, _⟩ := h
    rfl
  · obtain ⟨sa, cells, rfl, hs, htb, q⟩ := h
    refine ⟨_, pss_cons (pset 1 sc_law.nd (pc (ok_law_pen T) hr (pa_cons (pv 0) pa_nil)))
      (pss_cons (pfor 2 sc_law.nd (pi_range1 (by rfl) T.b_range (pa_cons pe_int pa_nil))
        (pss_cons (pset 3 sc_law.nd (pc (ok_law_bare T) hr (pa_cons (pv 1) (pa_cons pe_int pa_nil))))
        (pss_cons (psl 4 8 sc_law.nd (pi_range1 (by rfl) T.b_range (pa_cons (pe_op op_add pe_int (pc (ok_law_draw T) hr (pa_cons (pv 1) (pa_cons pe_int pa_nil)))) pa_nil)) (fun _ _ _ _ _ => pc (ok_law_levels T) hr (pa_cons (pv 1) (pa_cons (pv 3) pa_nil))))
        (pss_cons (pset 5 sc_law.nd (pc (ok_law_parted T) hr (pa_cons (pv 1) (pa_cons (pv 3) pa_nil))))
        (pss_cons (pset 6 sc_law.nd (pc (ok_law_readings T TB) hr (pa_cons (pv 3) (pa_cons (pv 5) (pa_cons (pv 4) pa_nil)))))
        (pss_cons (ps_if (pt_not (pt_val (pcg (ok_law_order_right T TB) hr hgd (pa_cons (pv 1) (pa_cons (pv 3) (pa_cons (pv 5) (pa_cons (pv 4) (pa_cons (pv 6) pa_nil)))))))) (pss_one (ps_ret pe_bl)) pss_nil)
        (pss_cons (ps_if (pt_not (pt_val (pc (ok_law_less_right T TB) hr (pa_cons (pv 1) (pa_cons (pv 3) (pa_cons (pv 5) (pa_cons (pv 4) (pa_cons (pv 6) pa_nil)))))))) (pss_one (ps_ret pe_bl)) pss_nil)
        (pss_cons (pset 7 sc_law.nd (pc (ok_law_readings T TB) hr (pa_cons (pv 3) (pa_cons (pv 5) (pa_cons (pe_op op_cat (pv 4) (pe_lst (pa_cons (pc (ok_law_levels T) hr (pa_cons (pv 1) (pa_cons (pv 3) pa_nil))) pa_nil))) pa_nil)))))
        (pss_cons (ps_if (PW.pt (pw_or (pt_not (pt_val (pc (ok_law_is_finer T) hr (pa_cons (pv 7) (pa_cons (pv 6) pa_nil))))) (pw_or1 (pt_cmpR (op_neS false hr (K := K)) (plcIf 9 sc_law.nd (pi_tup (pp (pr_Readings_idle T) hr (pv 7))) (fun _ _ _ _ _ => pt_cmpR (r := rIn K true) op_notIn_seq (pv 9) (pp (pr_Readings_idle T) hr (pv 6)) (by rfl)) (fun _ _ _ _ _ => pv 9)) (pe_lst pa_nil) (by rfl))))) (pss_one (ps_ret pe_bl)) pss_nil)
        (pss_one (ps_if (pt_not (pt_val (pc (ok_law_names_right T TB) hr (pa_cons (pv 1) (pa_cons (pv 3) (pa_cons (pv 5) (pa_cons (pv 4) (pa_cons (pv 6) pa_nil)))))))) (pss_one (ps_ret pe_bl)) pss_nil)))))))))))
      (pss_one (ps_ret pe_bl))), ?_⟩
    refine ⟨_, rfl, sa, cells, rfl, hs, fun p c H1 s1 hp0 hc0 hp1 => ?_⟩
    have htb1 := htb.ext s1
    refine ⟨4, rfl, by decide, by decide, ?_⟩
    refine for_it (walk_range (lo := 0) (n := 4)) (fun i σ H' => (∃ x2 x3 x4 x5 x6 x7 x8 x9, σ = [some (.ref sa), some (.ref p), x2, x3, x4, x5, x6, x7, x8, x9]) ∧ PenAt H' p c (60000 * i) ∧ LamX.TabS H' (tF K) lamQ) ⟨⟨_, _, _, _, _, _, _, _, rfl⟩, hp1, htb1⟩ (fun _ _ _ _ _ => trivial) (fun i x σ H2 H' hi h2 hy => ?_) (fun σ H2 h2 => q _)
    obtain ⟨e, rfl⟩ := hy
    subst e
    obtain ⟨⟨x2, x3, x4, x5, x6, x7, x8, x9, rfl⟩, hp, tb⟩ := h2
    refine ⟨_, rfl, p, c, _, rfl, hp, by omega, fun d B H3 s3 hp3 hB ok => ?_⟩
    have tb3 := s3.tab hp tb
    have fok := bare_ok ok
    refine ⟨_, rfl, p, c, 6, _, rfl, hp3, by decide, by decide, by omega, fun v H4 s4 hp4 hv => ⟨_, _, rfl, rfl, _, rfl, by omega, by omega, fun D hD => ?_⟩⟩
    have hB4 := hB.mono (s4.L hp3)
    have tb4 := s4.tab hp3 tb3
    have nD := hp4.new hD
    have e6 : (1 + ((v : Nat) : Int)).toNat = v + 1 := by omega
    rw [e6]
    refine lc_it (walk_range (lo := 0) (n := v + 1)) (fun j H => SameP p H4 H ∧ PenAt H p c (60000 * i + 200 + 100 * j) ∧ ∃ ras rows, H D = some (.lst (ras.map V.ref)) ∧ RowsAt H ras rows ∧ rows.length = j ∧ ∀ r ∈ rows, RowOk (bareFr B) r) ⟨SameP.of (same_new hD), (hp4.put nD).le (by omega), [], [], upd_same, .nil, rfl, fun _ h => by cases h⟩ (fun _ _ _ _ => trivial) (fun j x H5 H' hj h5 hy => ?_) (fun H5 h5 => ?_)
    · obtain ⟨e, rfl⟩ := hy
      subst e
      obtain ⟨s5, hp5, ras, rows, hras, hrs, hrl, rok⟩ := h5
      refine ⟨rfl, ?_⟩
      dsimp only [tYes]
      rw [if_pos rfl]
      refine ⟨_, rfl, _, rfl, p, c, d, _, B, rfl, hp5, hB4.mono (s5.L hp4), ok, by omega, fun Dr r H6 s6 hp6 hDr0 hDr rk => ?_⟩
      have hras6 := s6 _ _ nD.1 hras
      have hlen : ras.length = j := by rw [← paired_len hrs, hrl]
      refine ⟨_, hras6, small1000 (by rw [List.length_map]; omega), (s5.trans s6).mut hD, (hp6.put nD).le (by omega), ras ++ [Dr], rows ++ [r], by rw [upd_same, List.map_append]; rfl, ?_, by rw [List.length_append, hrl]; rfl, fun z hz => ?_⟩
      · have hk : ∀ {a : Addr} {r : List (Str × Int)}, H6 a = some (.dK (rowK r)) → (upd H6 D (.lst (ras.map V.ref ++ [V.ref Dr]))) a = some (.dK (rowK r)) := fun e => (upd_ne (ne_obj e hras6 fun z => by cases z)).trans e
        exact paired_snoc (F := fun r a => (upd H6 D (.lst (ras.map V.ref ++ [V.ref Dr]))) a = some (.dK (rowK r))) (hk hDr) (paired_imp (fun _ _ e => hk (s6.L hp5 _ _ e nl_dK)) hrs)
      · rcases List.mem_append.mp hz with hz | hz
        · exact rok z hz
        · rw [List.mem_singleton.mp hz]
          exact rk
    obtain ⟨s5, hp5, ras, rows, hras, hrs, hrl, rok⟩ := h5
    have hB5 := hB4.mono (s5.L hp4)
    have tb5 := s5.tab hp4 tb4
    refine ⟨_, rfl, _, rfl, p, c, d, _, B, rfl, hp5, hB5, ok, by omega, fun bl bas bss H6 s6 hp6 hbl hbs pok => ?_⟩
    have hB6 := hB5.mono (s6.L hp5)
    have tb6 := s6.tab hp5 tb5
    have hras6 := s6.L hp5 _ _ hras nl_refs
    have hrs6 : RowsAt H6 ras rows := paired_imp (fun _ _ e => s6.L hp5 _ _ e nl_dK) hrs
    refine ⟨_, rfl, _, rfl, _, rfl, d, bl, D, B, bas, ras, bss, rows, rfl, hB6, ok, hbl, hbs, pok, hras6, hrs6, rok, by omega, tb6, fun ta H7 (s7 : SameX K H6 H7) hta => ?_⟩
    have st7 : StAt K H7 p c d bl D ta B bas ras bss rows (60000 * i + 2000) := ⟨(hp6.X s7).le (by omega), hB6.mono s7.L, ok, s7.L _ _ hbl nl_refs, paired_imp (fun _ _ e => s7.L _ _ e nl_strs) hbs, pok, s7.L _ _ hras6 nl_refs, paired_imp (fun _ _ e => s7.L _ _ e nl_dK) hrs6, rok, by omega, by omega, s7.tab tb6, hta⟩
    refine ⟨_, rfl, _, rfl, _, rfl, _, rfl, _, rfl, p, c, d, bl, D, ta, B, bas, ras, bss, rows, _, rfl, st7, by omega, fun H8 s8 hp8 => ⟨true, rfl, iteF ?_⟩⟩
    have st8 := st7.q s8 hp8
    refine ⟨_, rfl, _, rfl, _, rfl, _, rfl, _, rfl, p, c, d, bl, D, ta, B, bas, ras, bss, rows, _, rfl, st8, by omega, fun H9 s9 hp9 => ⟨true, rfl, iteF ?_⟩⟩
    have st9 := st8.q s9 hp9
    have hlr : rows.length = ras.length := paired_len hrs
    refine ⟨_, rfl, _, rfl, _, rfl, _, rfl, _, rfl, p, c, d, _, B, rfl, st9.pen, st9.bare, ok, by omega, fun Dr r HA sA hpA hDr0 hDr rk => ?_⟩
    have stA := st9.q (sA.Q st9.pen) hpA
    refine ⟨by rw [sizeLine_eq]; exact (by show 1 ≤ 16777216; decide), fun l hl => ?_⟩
    have tB := same_new (o := .lst [V.ref Dr]) hl
    refine ⟨D, l, _, _, rfl, rfl, tB _ _ stA.hrw, upd_same, by rw [List.length_map, sizeLine_eq]; show ras.length + 1 ≤ 16777216; omega, fun l2 hl2 => ?_⟩
    have tC := tB.trans (same_new (o := .lst (ras.map V.ref ++ [V.ref Dr])) hl2)
    have hl2v : (upd (upd HA l (.lst [V.ref Dr])) l2 (.lst (ras.map V.ref ++ [V.ref Dr]))) l2 = some (.lst ((ras ++ [Dr]).map V.ref)) := by rw [upd_same, List.map_append]; rfl
    generalize upd (upd HA l (.lst [V.ref Dr])) l2 (.lst (ras.map V.ref ++ [V.ref Dr])) = HC at tC hl2v
    have stC := stA.q (Same.Q tC) (hpA.ext tC)
    refine ⟨d, bl, l2, B, bas, ras ++ [Dr], bss, rows ++ [r], rfl, stC.bare, ok, stC.hbl, stC.hbs, pok, hl2v, paired_app stC.hrs (.cons (tC _ _ hDr) .nil), (fun z hz => by
      rcases List.mem_append.mp hz with hz | hz
      · exact rok z hz
      · rw [List.mem_singleton.mp hz]
        exact rk), by rw [List.length_append]; show rows.length + 1 ≤ 12; omega, stC.tab, fun lo HD (sD : SameX K HC HD) hlo => ?_⟩
    have stD := stC.q sD.Q (stC.pen.X sD)
    have hsub : ∀ z ∈ rsOf (bareFr B) rows, z ∈ rsOf (bareFr B) (rows ++ [r]) := rs_sub fun z hz => List.mem_append_left _ hz
    generalize rsOf (bareFr B) (rows ++ [r]) = rsl at hlo hsub
    obtain ⟨dxa, _, _, _, _, _, _, _, _, ea⟩ := stD.told.ins
    obtain ⟨dxb, _, _, _, _, _, _, _, _, eb⟩ := hlo.ins
    refine ⟨_, rfl, _, rfl, lo, ta, bareFr B, blkFor bss, rsl, _, rfl, hlo, stD.told, hsub, fun HE sE => ⟨true, rfl, iteF ?_⟩⟩
    have stE := stD.q (Same.Q sE) (stD.pen.ext sE)
    have hloE := hlo.mono (Same.L sE)
    refine ⟨_, rfl, lo, dxb, _, rfl, sE _ _ eb, lo, bareFr B, blkFor bss, rsl, rfl, hloE, fun pi hpi => ⟨pi, rfl, ⟨_, hpi⟩, fun D9 hD9 => ?_⟩⟩
    refine lfS walk_tup (fun n => false) hD9 (fun H' s => hpi.ext s) (idle_few fok _ _) (fun _ => rfl) (fun _ => rfl) (fun z hz HF sF QF qF => ?_) fun HF sF hdF => ?_
    · refine ⟨_, rfl, _, rfl, ta, dxa, _, rfl, sF _ _ (sE _ _ ea), ta, bareFr B, blkFor bss, _, rfl, stE.told.mono (Same.L sF), fun p2 hp2 => ⟨p2, _, rfl, .inr hp2, rfl, vS_flat _, ?_⟩⟩
      rw [inV_strs, decide_eq_true (idle_less hsub hz)]
      exact ⟨_, rfl, qF HF (Same.refl _)⟩
    rw [List.filter_eq_nil_iff.mpr (fun _ _ => by simp)] at hdF
    refine ⟨Nat.zero_le _, fun pe hpe => ?_⟩
    have tG := same_new (o := .lst []) hpe
    refine ⟨D9, pe, [], [], rfl, rfl, SqL.of (tG _ _ hdF), SqL.of upd_same, (fun _ h => by cases h), (fun _ h => by cases h), _, rfl, ?_⟩
    rw [decide_eq_true rfl]
    refine iteF ?_
    have sG := sF.trans tG
    generalize upd HF pe (.lst []) = HG at sG
    have stG := stE.q (Same.Q sG) (stE.pen.ext sG)
    refine ⟨_, rfl, _, rfl, _, rfl, _, rfl, _, rfl, p, c, d, bl, D, ta, B, bas, ras, bss, rows, _, rfl, stG, by omega, fun HH sH hpH => ⟨true, rfl, iteF ?_⟩⟩
    exact ⟨⟨_, _, _, _, _, _, _, _, rfl⟩, hpH.le (by omega), sH.tab stG.tab⟩
end
end Sj
set_option Elab.async false
set_option linter.all false
set_option maxRecDepth 100000
set_option maxHeartbeats 4000000
/-! SjEnd1: a promise where nothing is being shown, with one table of code objects, at the caller. -/
namespace Sj
open PySem PySem.Spec PyProof.Rows L2 He
/-- at the start: the lambda's table, and the script, unless that one is written down -/
def HpX (t a : Addr) (ob : Option HO) : Hp := fun b => if b = t then some (.tbl #[]) else if b = a then ob else none
theorem hpX_t {t a : Addr} {ob : Option HO} : HpX t a ob t = some (.tbl #[]) := if_pos rfl
theorem hpX_a {t a : Addr} {ob : Option HO} (n : a ≠ t) : HpX t a ob a = ob := (if_neg n).trans (if_pos rfl)
theorem hpX_no {t a b : Addr} {ob : Option HO} (h1 : b ≠ t) (h2 : b ≠ a ∨ ob = none) : HpX t a ob b = none := by
  unfold HpX
  rw [if_neg h1]
  rcases h2 with h2 | h2
  · exact if_neg h2
  · rw [h2]
    split <;> rfl
section
variable {h : Heap} {t a : Addr} {ob : Option HO} {its : Array Value}
theorem dict_off (ht : h.get? t = some { cls := .none, data := .fields #[] }) (ha : h.get? a = some { cls := .type "list", data := .seq its }) {b : Addr} {o : Obj} {es : Array DictEntry} {ep : Nat} (e : h.get? b = some o) (d : o.data = .dict es ep) : b ≠ t ∧ b ≠ a := by
  constructor
  · rintro rfl
    rw [ht] at e
    cases e
    cases d
  · rintro rfl
    rw [ha] at e
    cases e
    cases d
theorem ns_base (ht : h.get? t = some { cls := .none, data := .fields #[] }) (ha : h.get? a = some { cls := .type "list", data := .seq its }) {b : Addr} {m : Str → Option Value} (n : h.Ns b m) : (hidT h (HpX t a ob)).Ns b m := by
  obtain ⟨o, es, ep, e, d, r⟩ := n
  obtain ⟨k1, k2⟩ := dict_off ht ha e d
  exact ⟨o, es, ep, hidT_get e (hpX_no k1 (.inl k2)), d, r⟩
end
section
variable {P : Program} {w : World} {K : Frg} {mg mb : Str → Option Value} {s : Shared} {a f : Addr} {vs : List Value} {ns : List Int} {k : Nat} {sp : Sp}
/-- what is asked of the state at the caller -/
structure AtCall (K : Frg) (mg mb : Str → Option Value) (s : Shared) (a : Addr) (vs : List Value) (ns : List Int) : Prop where
  kin : K.In s.heap
  hdx : HdX K s.heap
  glob : s.heap.Ns mainGlobals mg
  bns : s.heap.Ns builtinsNs mb
  blt : ∀ x : Str, x ≠ "__name__" → mb x = bootBuiltins x
  lim : s.heap.NoLimit
  bare : AllBare s.gens
  bm : ∃ (m : Addr) (o : Obj), mg "__builtins__" = some (.ref m) ∧ m ≠ builtinsNs ∧ s.heap.get? m = some o ∧ o.cls = .type "module" ∧ o.dict = some builtinsNs ∧ o.data = .plain
  lst : s.heap.get? a = some { cls := .type "list", data := .seq vs.toArray }
  nums : IntsAre vs ns
  few : ns.length ≤ sizeLine
theorem AtCall.rel (g : AtCall K mg mb s a vs ns) : Vals (ns.map V.int) vs := vals_ints g.nums
theorem AtCall.off (g : AtCall K mg mb s a vs ns) : a ≠ tF K := fun e => by
  have e1 := g.lst
  rw [e, g.hdx.empty] at e1
  cases e1
/-- the script: tracked, or written down -/
theorem AtCall.start (g : AtCall K mg mb s a vs ns) : ∃ ob : Option HO, (ob ≠ none → K.lookup a = none) ∧ SqL K (HpX (tF K) a ob) a (vI ns) ∧ (∀ u, ob = some u → ∃ o xs, u = .frz o (.lst xs)) ∧ HOk P w (HpX (tF K) a ob) s.heap := by
  have tb : ∀ {H : Hp}, ObjOk P w H s.heap (tF K) (.tbl #[]) := g.hdx.empty
  cases e : K.lookup a with
  | some o =>
    have e1 := g.kin a o e
    rw [g.lst] at e1
    cases e1
    refine ⟨none, fun n => absurd rfl n, .inr ⟨_, vs.toArray, _, e, rfl, rfl, rfl, ?_, by simpa [vI] using g.rel⟩, fun u z => (by cases z), fun b u z => ?_⟩
    · rw [List.size_toArray, g.nums.length]
      exact g.few
    · unfold HpX at z
      split at z
      · rename_i e2
        cases z
        rw [e2]
        exact tb
      · split at z <;> cases z
  | none =>
    refine ⟨some (.frz { cls := .type "list", data := .seq vs.toArray } (.lst (vI ns))), fun _ => rfl, .inl (.inr ⟨_, hpX_a g.off⟩), fun u z => ⟨_, _, (Option.some.inj z).symm⟩, fun b u z => ?_⟩
    unfold HpX at z
    split at z
    · rename_i e2
      cases z
      rw [e2]
      exact tb
    · split at z
      · rename_i e2
        cases z
        rw [e2]
        exact ⟨g.lst, by rw [vI, List.length_map]; exact g.few, vs, _, g.rel, g.lst⟩
      · cases z
theorem AtCall.run (g : AtCall K mg mb s a vs ns) (hr : Room k callerA) (F : ∀ b : Heap, K.In b → b.Ns mainGlobals mg → LamX.TabB b mg (cF K) (tF K) → FnG P w K mg b k f sp)
    (hsp : ∀ H : Hp, H (tF K) = some (.tbl #[]) → SqL K H a (vI ns) → sp [.ref a] H (fun v _ => v = .bl true) E0) :
    codeAny (model P w) callerA (.call (.ref f) ⟨[.ref a], []⟩) (fun r s' => r = .ok (.ret (.bool true)) ∧ OldK s.heap s'.heap ∧ s'.os = s.os ∧ AllBare s'.gens) s := by
  obtain ⟨ob, h1, h2, h3, h4⟩ := g.start (P := P) (w := w)
  have ht := g.hdx.empty
  have nsb := fun {b : Addr} {m : Str → Option Value} (n : s.heap.Ns b m) => ns_base (ob := ob) ht g.lst n
  have kb : K.In (hidT s.heap (HpX (tF K) a ob)) := fun b o e => by
    refine hidT_get (g.kin b o e) (hpX_no (fun z => ?_) ?_)
    · rw [z, g.hdx.out] at e
      cases e
    · cases ob with
      | none => exact .inr rfl
      | some u =>
        refine .inl fun z => ?_
        rw [z, h1 (by simp)] at e
        cases e
  have tab : LamX.TabB (hidT s.heap (HpX (tF K) a ob)) mg (cF K) (tF K) := by
    obtain ⟨m, o, m1, m2, m3, m4, m5, m6⟩ := g.bm
    have gt : mainGlobals ≠ tF K := by
      obtain ⟨og, es, ep, e, d, _⟩ := g.glob
      exact (dict_off ht g.lst e d).1
    have mg1 : m ≠ mainGlobals := fun z => by
      obtain ⟨og, es, ep, e, d, _⟩ := g.glob
      rw [z, e] at m3
      cases m3
      rw [d] at m6
      cases m6
    have mt : m ≠ tF K := fun z => by
      rw [z, ht] at m3
      cases m3
      cases m6
    have ma : m ≠ a := fun z => by
      rw [z, g.lst] at m3
      cases m3
      cases m6
    exact ⟨PySem.W.codeHd_of_K kb g.hdx.hd, ⟨m, o, m1, m2, mg1, mt, hidT_get m3 (hpX_no mt (.inl ma)), m4, m5, m6⟩, gt⟩
  have md : L2.Mod K mg (hidT s.heap (HpX (tF K) a ob)) := ⟨kb, nsb g.glob, ⟨mb, nsb g.bns, g.blt⟩, let ⟨mc, l1, l2⟩ := g.lim; ⟨mc, nsb l1, l2⟩⟩
  have en : Env0 P w K mg (hidT s.heap (HpX (tF K) a ob)) callerA [] s (HpX (tF K) a ob) := by
    refine ⟨rfl, md, fun b o e => of_hidT e, by rw [hidT_size]; exact Nat.le_refl _, trivial, fun b hb => ?_, h4, g.bare⟩
    cases hb
  have run := F _ kb (nsb g.glob) tab callerA [] s _ [.ref a] [.ref a] _ _ hr rfl en (.cons rfl .nil) (hsp _ hpX_t h2)
  refine codeAny_mono run fun r s' hq => ?_
  match r, hq with
  | .error _, z => exact False.elim z
  | .ok .next, z => exact False.elim z
  | .ok .brk, z => exact False.elim z
  | .ok .cont, z => exact False.elim z
  | .ok (.ret u), ⟨v, H', os, bare, un, hok, rv, ev⟩ =>
    have ev : v = .bl true := ev
    subst ev
    obtain rfl : u = Value.bool true := rv
    obtain ⟨more, hm⟩ := un.tbls _ _ (hpX_t (t := tF K) (a := a) (ob := ob))
    have grown := hok _ _ hm
    have grown : s'.heap.get? (tF K) = some { cls := .none, data := .fields (#[] ++ more) } := grown
    have stays : ∀ b o, b ≠ tF K → s.heap.get? b = some o → s'.heap.get? b = some o := fun b o nt e => by
      cases q : HpX (tF K) a ob b with
      | none =>
        refine un.keep b o e q ?_ ?_
        · intro z; cases z
        · intro z; cases z
      | some u =>
        have hb : b = a := by
          refine Classical.not_not.mp fun n => ?_
          rw [hpX_no nt (.inl n)] at q
          cases q
        rw [hb, hpX_a g.off] at q
        obtain ⟨o2, xs, rfl⟩ := h3 u q
        have qa : HpX (tF K) a ob a = some (.frz o2 (.lst xs)) := (hpX_a g.off).trans q
        have w1 := (h4 a _ qa).1
        have w2 := (hok a _ (un.frzs a _ _ qa)).1
        rw [hb] at e ⊢
        rw [e] at w1
        rw [w2, w1]
    refine ⟨rfl, ⟨fun b o e => ?_, fun b o e => ?_⟩, os, bare⟩ <;> by_cases nt : b = tF K
    · have e1 := e
      rw [nt, ht] at e1
      cases e1
      rw [nt]
      exact .inr (.inl ⟨((PySem.W.codeHd_of_K g.kin g.hdx.hd).tab ht).isCodeTable, rfl, #[], more, rfl, grown⟩)
    · exact .inl (stays b o nt e)
    · rw [nt]
      exact ⟨_, grown⟩
    · exact ⟨o, stays b o nt e⟩
end
end Sj
set_option Elab.async false
set_option linter.all false
set_option maxRecDepth 100000
set_option maxHeartbeats 4000000
/-! SjEnd: the statement. -/
namespace Sj
open PySem PySem.Spec PyProof.Rows L2 He
theorem law_calls {P : Program} {w : World} {K : Frg} {mg mb : Str → Option Value} {s : Shared} {a : Addr} {vs : List Value} {ns : List Int} (g : AtCall K mg mb s a vs ns) (c : SaysX K) :
    codeAny (model P w) callerA (.call (.ref (ga K "law")) ⟨[.ref a], []⟩) (fun r s' => r = .ok (.ret (.bool true)) ∧ OldK s.heap s'.heap ∧ s'.os = s.os ∧ AllBare s'.gens) s :=
  g.run (k := 20) ⟨rfl, by decide, by decide⟩ (fun _ _ _ tb => ok_law ⟨g.kin, g.glob, c⟩ tb) fun H ht hs => ⟨a, ns, rfl, hs, LamX.TabS.nil ht, fun _ => rfl⟩
end Sj
open PySem PySem.W PySem.Calls PyProof.Rows
theorem PySem.Challenge.cw_strayjoins_k24_whole_words_in_any_order_holds : PySem.Challenge.rw_strayjoins_k24_whole_words_in_any_order.Holds := by
  w_on; o_law
  refine HandSHeadRun.head_any (r := SjHd.rowR) (q := SjHd.qv) (H := Sj.hookX) (ob := SjHd.obX) (M := 10000) (loose := SjHd.names) (d := HandSHeadRun.topDef SjHd.rowR.prog 68) (kwd := []) SjHd.obX_eq
    (by kernel_rfl) (fun s => by kernel_rfl) SjHd.run (by kernel_rfl) (by kernel_rfl) (by kernel_rfl) (by rfl) (by first | assumption | decide +kernel) (by decide +kernel) ⟨rfl, rfl, rfl, rfl, rfl, by decide +kernel⟩ ?hw ?hc
  case hw => w_witness2
  case hc =>
    refine Att.attach_callB (l := PySem.Challenge.rw_strayjoins_k24_whole_words_in_any_order) (n := 63) rfl (by kernel_rfl) fun w s₀ s₁ mg mb fa o pm cd doc a vs ns G Y ho hd hcd hmg hobj hnums hlen hbits hg => ?_
    obtain ⟨K, KX, c, hx⟩ := Y
    have hmg : mg ("law" : PySem.Str) = some (.ref fa) := by
      have e : (HandSHeadRun.topDef SjHd.rowR.prog 68).name = ("law" : PySem.Str) := by kernel_rfl
      rw [← e]
      exact hmg
    have g : Sj.AtCall K mg mb s₁ a vs ns := ⟨KX, hx, G.T.g, G.T.b, G.T.builtins, G.T.nolimit, .of_eq hg, G.T.bmain, hobj, hnums, Nat.le_trans hlen (by decide)⟩
    have e := hmg.symm.trans (Sj.Txt.g_law ⟨KX, G.T.g, c⟩)
    cases e
    exact Sj.law_calls g c
