import PyProof.Rows.All
import Wide.All
import OpenK.AllK
import Wide.FinOn
import PyProof.EqAt
import PyProof.EqKinds
import PyProof.TupleCall
import HandS.ForMost
import HandS.ForExc
import HandS.More
import HandS.Style
import HandS.IsInst
import HandS.ExcInit
import HandS.CallSlots
import HandS.CallLocal
import HandS.TryOnly
import HandS.Defaults
import HandS.Flow
import HandS.TupAny
import HandS.Wide
import HandS.WordsExc
import HandS.HeadHook1
import HandS.HeadHook2
import HandS.HeadHook3
import PyProof.ReprLen
import PyProof.ReprReads
import HandS.Codes
import HandS.Head0
import HandS.Head1
import HandS.Head2
import KE.KStateDown
import Lean
import PyProof.EnumMake
import PyProof.EnumFor
import PyProof.Draws
import HandS.Walk
import PyProof.ReprBulk
import HandS.ExcOwn
import KE.GoesComp
import KE.GoesRaise
import KE.KAsSuite
import HandS.ExcField
import HandS.ExcIs
import KE.KExcIs
import KE.KIsAll
import HandS.Ends
import HandS.HeadEnd
import PyProof.ReprRoads
import PySem.Challenge.RW_groundroom_k32_whole_room_text
set_option Elab.async false
set_option linter.all false
set_option maxRecDepth 100000
/-! part KBase -/
set_option maxHeartbeats 4000000
namespace KW
open PySem PySem.Spec PyProof.Rows L2

/-! ### the text -/
def top (i : Nat) : Stmt := PySem.Challenge.pw_groundroom_k32_whole_room_text.main.body.getD i (.Pass ⟨0, 0, 0, 0⟩)
abbrev s_binit : Stmt := inClass (top 8) 0
abbrev N_binit : List Str := ["self", "at"]
theorem sc_binit : FnScope N_binit ["self", "at"] (defScope s_binit) := ⟨rfl, rfl, rfl, by decide +kernel, rfl, by decide +kernel, by decide +kernel⟩
abbrev s_joined : Stmt := top 11
abbrev N_joined : List Str := ["thing", "parts", "one"]
theorem sc_joined : FnScope N_joined ["thing", "parts"] (defScope s_joined) := ⟨rfl, rfl, rfl, by decide +kernel, rfl, by decide +kernel, by decide +kernel⟩
abbrev s_init : Stmt := inClass (top 12) 0
abbrev N_init : List Str := ["self", "words", "length", "many"]
theorem sc_init : FnScope N_init ["self", "words", "length", "many"] (defScope s_init) := ⟨rfl, rfl, rfl, by decide +kernel, rfl, by decide +kernel, by decide +kernel⟩
abbrev s_now : Stmt := inClass (top 12) 1
abbrev N_now : List Str := ["self"]
theorem sc_now : FnScope N_now ["self"] (defScope s_now) := ⟨rfl, rfl, rfl, by decide +kernel, rfl, by decide +kernel, by decide +kernel⟩
abbrev s_wrong : Stmt := inClass (top 12) 2
abbrev N_wrong : List Str := ["self"]
theorem sc_wrong : FnScope N_wrong ["self"] (defScope s_wrong) := ⟨rfl, rfl, rfl, by decide +kernel, rfl, by decide +kernel, by decide +kernel⟩
abbrev s_is_mark : Stmt := inClass (top 12) 3
abbrev N_is_mark : List Str := ["self", "sign"]
theorem sc_is_mark : FnScope N_is_mark ["self", "sign"] (defScope s_is_mark) := ⟨rfl, rfl, rfl, by decide +kernel, rfl, by decide +kernel, by decide +kernel⟩
abbrev s_is_told : Stmt := inClass (top 12) 4
abbrev N_is_told : List Str := ["self", "word"]
theorem sc_is_told : FnScope N_is_told ["self", "word"] (defScope s_is_told) := ⟨rfl, rfl, rfl, by decide +kernel, rfl, by decide +kernel, by decide +kernel⟩
abbrev s_go_on : Stmt := inClass (top 12) 5
abbrev N_go_on : List Str := ["self"]
theorem sc_go_on : FnScope N_go_on ["self"] (defScope s_go_on) := ⟨rfl, rfl, rfl, by decide +kernel, rfl, by decide +kernel, by decide +kernel⟩
abbrev s_need_word : Stmt := inClass (top 12) 6
abbrev N_need_word : List Str := ["self", "kind", "word"]
theorem sc_need_word : FnScope N_need_word ["self", "kind", "word"] (defScope s_need_word) := ⟨rfl, rfl, rfl, by decide +kernel, rfl, by decide +kernel, by decide +kernel⟩
abbrev s_need_kind : Stmt := inClass (top 12) 7
abbrev N_need_kind : List Str := ["self", "kind"]
theorem sc_need_kind : FnScope N_need_kind ["self", "kind"] (defScope s_need_kind) := ⟨rfl, rfl, rfl, by decide +kernel, rfl, by decide +kernel, by decide +kernel⟩
abbrev s_plan : Stmt := inClass (top 12) 8
abbrev N_plan : List Str := ["self", "tasks"]
theorem sc_plan : FnScope N_plan ["self", "tasks"] (defScope s_plan) := ⟨rfl, rfl, rfl, by decide +kernel, rfl, by decide +kernel, by decide +kernel⟩
abbrev s_pop_many : Stmt := inClass (top 12) 9
abbrev N_pop_many : List Str := ["self", "count", "at", "found"]
theorem sc_pop_many : FnScope N_pop_many ["self", "count"] (defScope s_pop_many) := ⟨rfl, rfl, rfl, by decide +kernel, rfl, by decide +kernel, by decide +kernel⟩
abbrev s_make : Stmt := inClass (top 12) 10
abbrev N_make : List Str := ["self", "word", "count", "parts", "one"]
theorem sc_make : FnScope N_make ["self", "word", "count"] (defScope s_make) := ⟨rfl, rfl, rfl, by decide +kernel, rfl, by decide +kernel, by decide +kernel⟩
abbrev s_make_call : Stmt := inClass (top 12) 11
abbrev N_make_call : List Str := ["self", "word", "name", "count", "parts", "one"]
theorem sc_make_call : FnScope N_make_call ["self", "word", "name", "count"] (defScope s_make_call) := ⟨rfl, rfl, rfl, by decide +kernel, rfl, by decide +kernel, by decide +kernel⟩
abbrev s_make_bound : Stmt := inClass (top 12) 12
abbrev N_make_bound : List Str := ["self", "word", "sort", "parts"]
theorem sc_make_bound : FnScope N_make_bound ["self", "word", "sort"] (defScope s_make_bound) := ⟨rfl, rfl, rfl, by decide +kernel, rfl, by decide +kernel, by decide +kernel⟩
abbrev s_make_not : Stmt := inClass (top 12) 13
abbrev N_make_not : List Str := ["self", "parts"]
theorem sc_make_not : FnScope N_make_not ["self"] (defScope s_make_not) := ⟨rfl, rfl, rfl, by decide +kernel, rfl, by decide +kernel, by decide +kernel⟩
abbrev s_do_term : Stmt := inClass (top 17) 0
abbrev N_do_term : List Str := ["self", "name"]
theorem sc_do_term : FnScope N_do_term ["self"] (defScope s_do_term) := ⟨rfl, rfl, rfl, by decide +kernel, rfl, by decide +kernel, by decide +kernel⟩
abbrev s_do_variable : Stmt := inClass (top 17) 1
abbrev N_do_variable : List Str := ["self"]
theorem sc_do_variable : FnScope N_do_variable ["self"] (defScope s_do_variable) := ⟨rfl, rfl, rfl, by decide +kernel, rfl, by decide +kernel, by decide +kernel⟩
abbrev s_do_args : Stmt := inClass (top 17) 2
abbrev N_do_args : List Str := ["self"]
theorem sc_do_args : FnScope N_do_args ["self"] (defScope s_do_args) := ⟨rfl, rfl, rfl, by decide +kernel, rfl, by decide +kernel, by decide +kernel⟩
abbrev s_do_more : Stmt := inClass (top 17) 3
abbrev N_do_more : List Str := ["self", "count"]
theorem sc_do_more : FnScope N_do_more ["self", "count"] (defScope s_do_more) := ⟨rfl, rfl, rfl, by decide +kernel, rfl, by decide +kernel, by decide +kernel⟩
abbrev s_do_call : Stmt := inClass (top 17) 4
abbrev N_do_call : List Str := ["self", "name"]
theorem sc_do_call : FnScope N_do_call ["self", "name"] (defScope s_do_call) := ⟨rfl, rfl, rfl, by decide +kernel, rfl, by decide +kernel, by decide +kernel⟩
abbrev s_do_rel : Stmt := inClass (top 17) 5
abbrev N_do_rel : List Str := ["self", "name", "count"]
theorem sc_do_rel : FnScope N_do_rel ["self", "name"] (defScope s_do_rel) := ⟨rfl, rfl, rfl, by decide +kernel, rfl, by decide +kernel, by decide +kernel⟩
abbrev s_do_same : Stmt := inClass (top 17) 6
abbrev N_do_same : List Str := ["self"]
theorem sc_do_same : FnScope N_do_same ["self"] (defScope s_do_same) := ⟨rfl, rfl, rfl, by decide +kernel, rfl, by decide +kernel, by decide +kernel⟩
abbrev s_do_statement : Stmt := inClass (top 17) 7
abbrev N_do_statement : List Str := ["self"]
theorem sc_do_statement : FnScope N_do_statement ["self"] (defScope s_do_statement) := ⟨rfl, rfl, rfl, by decide +kernel, rfl, by decide +kernel, by decide +kernel⟩
abbrev s_do_bound : Stmt := inClass (top 17) 8
abbrev N_do_bound : List Str := ["self", "word", "sort"]
theorem sc_do_bound : FnScope N_do_bound ["self", "word"] (defScope s_do_bound) := ⟨rfl, rfl, rfl, by decide +kernel, rfl, by decide +kernel, by decide +kernel⟩
abbrev s_do_level : Stmt := inClass (top 17) 9
abbrev N_do_level : List Str := ["self", "at"]
theorem sc_do_level : FnScope N_do_level ["self", "at"] (defScope s_do_level) := ⟨rfl, rfl, rfl, by decide +kernel, rfl, by decide +kernel, by decide +kernel⟩
abbrev s_do_rest : Stmt := inClass (top 17) 10
abbrev N_do_rest : List Str := ["self", "at"]
theorem sc_do_rest : FnScope N_do_rest ["self", "at"] (defScope s_do_rest) := ⟨rfl, rfl, rfl, by decide +kernel, rfl, by decide +kernel, by decide +kernel⟩
abbrev s_do_not : Stmt := inClass (top 17) 11
abbrev N_do_not : List Str := ["self", "name"]
theorem sc_do_not : FnScope N_do_not ["self"] (defScope s_do_not) := ⟨rfl, rfl, rfl, by decide +kernel, rfl, by decide +kernel, by decide +kernel⟩
abbrev s_work_plain : Stmt := inClass (top 17) 13
abbrev N_work_plain : List Str := ["self", "task", "word"]
theorem sc_work_plain : FnScope N_work_plain ["self", "task"] (defScope s_work_plain) := ⟨rfl, rfl, rfl, by decide +kernel, rfl, by decide +kernel, by decide +kernel⟩
abbrev s_work_made : Stmt := inClass (top 17) 14
abbrev N_work_made : List Str := ["self", "task"]
theorem sc_work_made : FnScope N_work_made ["self", "task"] (defScope s_work_made) := ⟨rfl, rfl, rfl, by decide +kernel, rfl, by decide +kernel, by decide +kernel⟩
abbrev s_run : Stmt := inClass (top 17) 15
abbrev N_run : List Str := ["self", "tasks"]
theorem sc_run : FnScope N_run ["self", "tasks"] (defScope s_run) := ⟨rfl, rfl, rfl, by decide +kernel, rfl, by decide +kernel, by decide +kernel⟩
abbrev s_is_called : Stmt := top 26
abbrev N_is_called : List Str := ["word", "sign"]
theorem sc_is_called : FnScope N_is_called ["word"] (defScope s_is_called) := ⟨rfl, rfl, rfl, by decide +kernel, rfl, by decide +kernel, by decide +kernel⟩
abbrev s_number_of : Stmt := top 27
abbrev N_number_of : List Str := ["word", "sign"]
theorem sc_number_of : FnScope N_number_of ["word"] (defScope s_number_of) := ⟨rfl, rfl, rfl, by decide +kernel, rfl, by decide +kernel, by decide +kernel⟩
abbrev s_run_at : Stmt := top 28
abbrev N_run_at : List Str := ["text", "at"]
theorem sc_run_at : FnScope N_run_at ["text", "at"] (defScope s_run_at) := ⟨rfl, rfl, rfl, by decide +kernel, rfl, by decide +kernel, by decide +kernel⟩
abbrev s_run_word : Stmt := top 29
abbrev N_run_word : List Str := ["run"]
theorem sc_run_word : FnScope N_run_word ["run"] (defScope s_run_word) := ⟨rfl, rfl, rfl, by decide +kernel, rfl, by decide +kernel, by decide +kernel⟩
abbrev s_words_of : Stmt := top 30
abbrev N_words_of : List Str := ["text", "found", "at", "behind", "word"]
theorem sc_words_of : FnScope N_words_of ["text"] (defScope s_words_of) := ⟨rfl, rfl, rfl, by decide +kernel, rfl, by decide +kernel, by decide +kernel⟩
abbrev s_do_ground : Stmt := inClass (top 41) 0
abbrev N_do_ground : List Str := ["self", "word", "tasks", "at", "sort"]
theorem sc_do_ground : FnScope N_do_ground ["self"] (defScope s_do_ground) := ⟨rfl, rfl, rfl, by decide +kernel, rfl, by decide +kernel, by decide +kernel⟩
abbrev s_do_piece : Stmt := inClass (top 41) 1
abbrev N_do_piece : List Str := ["self", "sort", "name"]
theorem sc_do_piece : FnScope N_do_piece ["self", "sort"] (defScope s_do_piece) := ⟨rfl, rfl, rfl, by decide +kernel, rfl, by decide +kernel, by decide +kernel⟩
abbrev s_under : Stmt := inClass (top 41) 2
abbrev N_under : List Str := ["self", "sort", "tasks"]
theorem sc_under : FnScope N_under ["self", "sort", "tasks"] (defScope s_under) := ⟨rfl, rfl, rfl, by decide +kernel, rfl, by decide +kernel, by decide +kernel⟩
abbrev s_do_small : Stmt := inClass (top 41) 3
abbrev N_do_small : List Str := ["self", "thing", "parts", "deep"]
theorem sc_do_small : FnScope N_do_small ["self"] (defScope s_do_small) := ⟨rfl, rfl, rfl, by decide +kernel, rfl, by decide +kernel, by decide +kernel⟩
abbrev s_do_members : Stmt := inClass (top 41) 4
abbrev N_do_members : List Str := ["self", "parts", "many", "things", "one"]
theorem sc_do_members : FnScope N_do_members ["self"] (defScope s_do_members) := ⟨rfl, rfl, rfl, by decide +kernel, rfl, by decide +kernel, by decide +kernel⟩
abbrev s_since : Stmt := inClass (top 41) 5
abbrev N_since : List Str := ["self", "found"]
theorem sc_since : FnScope N_since ["self"] (defScope s_since) := ⟨rfl, rfl, rfl, by decide +kernel, rfl, by decide +kernel, by decide +kernel⟩
abbrev s_deepest : Stmt := inClass (top 41) 6
abbrev N_deepest : List Str := ["self", "parts", "one"]
theorem sc_deepest : FnScope N_deepest ["self", "parts"] (defScope s_deepest) := ⟨rfl, rfl, rfl, by decide +kernel, rfl, by decide +kernel, by decide +kernel⟩
abbrev s_all_good : Stmt := inClass (top 41) 7
abbrev N_all_good : List Str := ["self", "parts", "one"]
theorem sc_all_good : FnScope N_all_good ["self", "parts"] (defScope s_all_good) := ⟨rfl, rfl, rfl, by decide +kernel, rfl, by decide +kernel, by decide +kernel⟩
abbrev s_do_ended : Stmt := inClass (top 41) 8
abbrev N_do_ended : List Str := ["self", "word", "parts", "things", "many", "one"]
theorem sc_do_ended : FnScope N_do_ended ["self", "word"] (defScope s_do_ended) := ⟨rfl, rfl, rfl, by decide +kernel, rfl, by decide +kernel, by decide +kernel⟩
abbrev s_work : Stmt := inClass (top 41) 9
abbrev N_work : List Str := ["self", "task"]
theorem sc_work : FnScope N_work ["self", "task"] (defScope s_work) := ⟨rfl, rfl, rfl, by decide +kernel, rfl, by decide +kernel, by decide +kernel⟩
abbrev s_reader_of : Stmt := top 42
abbrev N_reader_of : List Str := ["text", "many", "most"]
theorem sc_reader_of : FnScope N_reader_of ["text", "many", "most"] (defScope s_reader_of) := ⟨rfl, rfl, rfl, by decide +kernel, rfl, by decide +kernel, by decide +kernel⟩
abbrev s_small_one : Stmt := top 43
abbrev N_small_one : List Str := ["text", "many", "task", "thing", "parts", "deep"]
theorem sc_small_one : FnScope N_small_one ["text", "many", "task"] (defScope s_small_one) := ⟨rfl, rfl, rfl, by decide +kernel, rfl, by decide +kernel, by decide +kernel⟩
abbrev s_read_statement : Stmt := top 44
abbrev N_read_statement : List Str := ["text", "many"]
theorem sc_read_statement : FnScope N_read_statement ["text", "many"] (defScope s_read_statement) := ⟨rfl, rfl, rfl, by decide +kernel, rfl, by decide +kernel, by decide +kernel⟩
abbrev s_whole_ground : Stmt := top 45
abbrev N_whole_ground : List Str := ["found", "length", "ground", "many", "deep", "is_good"]
theorem sc_whole_ground : FnScope N_whole_ground ["found", "length"] (defScope s_whole_ground) := ⟨rfl, rfl, rfl, by decide +kernel, rfl, by decide +kernel, by decide +kernel⟩
abbrev s_read_ground : Stmt := top 46
abbrev N_read_ground : List Str := ["text", "many"]
theorem sc_read_ground : FnScope N_read_ground ["text", "many"] (defScope s_read_ground) := ⟨rfl, rfl, rfl, by decide +kernel, rfl, by decide +kernel, by decide +kernel⟩
abbrev s_names_behind : Stmt := top 48
abbrev N_names_behind : List Str := ["reader", "found"]
theorem sc_names_behind : FnScope N_names_behind ["reader"] (defScope s_names_behind) := ⟨rfl, rfl, rfl, by decide +kernel, rfl, by decide +kernel, by decide +kernel⟩
abbrev s_func_entry : Stmt := top 49
abbrev N_func_entry : List Str := ["reader", "name", "names"]
theorem sc_func_entry : FnScope N_func_entry ["reader", "name"] (defScope s_func_entry) := ⟨rfl, rfl, rfl, by decide +kernel, rfl, by decide +kernel, by decide +kernel⟩
abbrev s_part_of : Stmt := top 50
abbrev N_part_of : List Str := ["reader", "many", "task"]
theorem sc_part_of : FnScope N_part_of ["reader", "many", "task"] (defScope s_part_of) := ⟨rfl, rfl, rfl, by decide +kernel, rfl, by decide +kernel, by decide +kernel⟩
abbrev s_statement_in : Stmt := top 51
abbrev N_statement_in : List Str := ["reader", "many", "thing", "parts", "deep"]
theorem sc_statement_in : FnScope N_statement_in ["reader", "many"] (defScope s_statement_in) := ⟨rfl, rfl, rfl, by decide +kernel, rfl, by decide +kernel, by decide +kernel⟩
abbrev s_told_entry : Stmt := top 52
abbrev N_told_entry : List Str := ["reader", "word", "name", "sorts", "a", "is_good", "ground"]
theorem sc_told_entry : FnScope N_told_entry ["reader", "word", "name"] (defScope s_told_entry) := ⟨rfl, rfl, rfl, by decide +kernel, rfl, by decide +kernel, by decide +kernel⟩
abbrev s_entry_in : Stmt := top 53
abbrev N_entry_in : List Str := ["reader", "word", "name"]
theorem sc_entry_in : FnScope N_entry_in ["reader"] (defScope s_entry_in) := ⟨rfl, rfl, rfl, by decide +kernel, rfl, by decide +kernel, by decide +kernel⟩
abbrev s_entry_of : Stmt := top 54
abbrev N_entry_of : List Str := ["text", "most", "reader", "entry", "is_good"]
theorem sc_entry_of : FnScope N_entry_of ["text", "most"] (defScope s_entry_of) := ⟨rfl, rfl, rfl, by decide +kernel, rfl, by decide +kernel, by decide +kernel⟩
abbrev s_read_entry : Stmt := top 55
abbrev N_read_entry : List Str := ["text"]
theorem sc_read_entry : FnScope N_read_entry ["text"] (defScope s_read_entry) := ⟨rfl, rfl, rfl, by decide +kernel, rfl, by decide +kernel, by decide +kernel⟩
abbrev s_line_entry : Stmt := top 56
abbrev N_line_entry : List Str := ["line", "at", "found"]
theorem sc_line_entry : FnScope N_line_entry ["line", "at"] (defScope s_line_entry) := ⟨rfl, rfl, rfl, by decide +kernel, rfl, by decide +kernel, by decide +kernel⟩
abbrev s_read_room : Stmt := top 57
abbrev N_read_room : List Str := ["text", "lines", "at", "line"]
theorem sc_read_room : FnScope N_read_room ["text"] (defScope s_read_room) := ⟨rfl, rfl, rfl, by decide +kernel, rfl, by decide +kernel, by decide +kernel⟩
abbrev s_l_cell : Stmt := top 60
abbrev N_l_cell : List Str := ["_law_cells", "_law_spot", "_law_k", "_law_base", "_law_own", "_law_turn"]
theorem sc_l_cell : FnScope N_l_cell ["_law_cells", "_law_spot"] (defScope s_l_cell) := ⟨rfl, rfl, rfl, by decide +kernel, rfl, by decide +kernel, by decide +kernel⟩
abbrev s_l_name : Stmt := top 61
abbrev N_l_name : List Str := ["_law_n"]
theorem sc_l_name : FnScope N_l_name ["_law_n"] (defScope s_l_name) := ⟨rfl, rfl, rfl, by decide +kernel, rfl, by decide +kernel, by decide +kernel⟩
abbrev s_l_line : Stmt := top 62
abbrev N_l_line : List Str := ["_law_cells", "_law_spot", "_law_n", "_law_word", "_law_names", "_law_head", "_law_a", "_law_ground", "_law_colon", "_law_k"]
theorem sc_l_line : FnScope N_l_line ["_law_cells", "_law_spot"] (defScope s_l_line) := ⟨rfl, rfl, rfl, by decide +kernel, rfl, by decide +kernel, by decide +kernel⟩
abbrev s_l_words : Stmt := top 63
abbrev N_l_words : List Str := ["_law_text", "_law_told_here", "_law_rows", "_law_at", "_law_behind", "_law_word", "_law_kind"]
theorem sc_l_words : FnScope N_l_words ["_law_text"] (defScope s_l_words) := ⟨rfl, rfl, rfl, by decide +kernel, rfl, by decide +kernel, by decide +kernel⟩
abbrev s_l_is_number : Stmt := top 64
abbrev N_l_is_number : List Str := ["_law_word", "_law_sign"]
theorem sc_l_is_number : FnScope N_l_is_number ["_law_word"] (defScope s_l_is_number) := ⟨rfl, rfl, rfl, by decide +kernel, rfl, by decide +kernel, by decide +kernel⟩
abbrev s_l_part : Stmt := top 65
abbrev N_l_part : List Str := ["_law_text", "_law_first", "_law_behind", "_law_look", "_law_many", "_law_told_here", "_law_kept", "e"]
theorem sc_l_part : FnScope N_l_part ["_law_text", "_law_first", "_law_behind", "_law_look", "_law_many"] (defScope s_l_part) := ⟨rfl, rfl, rfl, by decide +kernel, rfl, by decide +kernel, by decide +kernel⟩
abbrev s_l_names_from : Stmt := top 66
abbrev N_l_names_from : List Str := ["_law_rows", "_law_at", "_law_names"]
theorem sc_l_names_from : FnScope N_l_names_from ["_law_rows", "_law_at"] (defScope s_l_names_from) := ⟨rfl, rfl, rfl, by decide +kernel, rfl, by decide +kernel, by decide +kernel⟩
abbrev s_l_told : Stmt := top 67
abbrev N_l_told : List Str := ["_law_text", "_law_rows", "_law_at", "_law_word", "_law_name_here", "_law_sorts", "_law_first", "_law_places", "_law_behind", "_law_a", "_law_wrong", "_law_ground", "_law_row"]
theorem sc_l_told : FnScope N_l_told ["_law_text", "_law_rows", "_law_at", "_law_word", "_law_name_here", "_law_sorts"] (defScope s_l_told) := ⟨rfl, rfl, rfl, by decide +kernel, rfl, by decide +kernel, by decide +kernel⟩
abbrev s_l_listed : Stmt := top 68
abbrev N_l_listed : List Str := ["_law_text", "_law_rows", "_law_word", "_law_name_here", "_law_at", "_law_sorts"]
theorem sc_l_listed : FnScope N_l_listed ["_law_text", "_law_rows", "_law_word", "_law_name_here"] (defScope s_l_listed) := ⟨rfl, rfl, rfl, by decide +kernel, rfl, by decide +kernel, by decide +kernel⟩
abbrev s_l_due : Stmt := top 69
abbrev N_l_due : List Str := ["_law_text", "_law_rows", "_law_word"]
theorem sc_l_due : FnScope N_l_due ["_law_text"] (defScope s_l_due) := ⟨rfl, rfl, rfl, by decide +kernel, rfl, by decide +kernel, by decide +kernel⟩
abbrev s_l_found : Stmt := top 70
abbrev N_l_found : List Str := ["_law_look", "_law_text", "_law_told_here", "_law_kept", "e"]
theorem sc_l_found : FnScope N_l_found ["_law_look", "_law_text"] (defScope s_l_found) := ⟨rfl, rfl, rfl, by decide +kernel, rfl, by decide +kernel, by decide +kernel⟩
abbrev s_l_bent : Stmt := top 71
abbrev N_l_bent : List Str := ["_law_text", "_law_n", "_law_some", "_law_at", "_law_ahead"]
theorem sc_l_bent : FnScope N_l_bent ["_law_text", "_law_n"] (defScope s_l_bent) := ⟨rfl, rfl, rfl, by decide +kernel, rfl, by decide +kernel, by decide +kernel⟩
abbrev s_law : Stmt := top 72
abbrev N_law : List Str := ["_law_script", "_law_spot", "_law_lines", "_law_k", "_law_n", "_law_line_here", "_law_turn", "_law_text", "_law_rows", "_law_wrong", "_law_whole", "_law_odd", "_law_long", "_law_at", "_law_row"]
theorem sc_law : FnScope N_law ["_law_script"] (defScope s_law) := ⟨rfl, rfl, rfl, by decide +kernel, rfl, by decide +kernel, by decide +kernel⟩

/-! ### a def of the top, and its promise -/
def Fn (K : PySem.W.Frag) (x qual : Str) (st : Stmt) (f : Addr) : Prop := ∃ fd, FunD K x qual (defArgs st) (defBody st) (defScope st) [] [] f fd
structure Good (P : Program) (w : World) (K : PySem.W.Frag) (mg : Str → Option Value) (base : Heap) (k : Nat) (f : Addr) (ps : List Str) (sp : Sp) : Prop where
  ex : ∃ fd, FnOk P w K mg base (L2.CX P w) k f fd ps sp ∧ Binds K fd ps []
  kp : PySem.W.keepIn K (.ref f) = true
section
variable {P : Program} {w : World} {K : PySem.W.Frag} {mg : Str → Option Value} {base : Heap}
abbrev XB (P : Program) (w : World) (K : PySem.W.Frag) (mg : Str → Option Value) (base : Heap) (N : List Str) (qual : Str) (st : Stmt) (f : Addr) (cdv : Value) (A : Around) (outer : List Env) (s : Shared) (H : Hp) (E : XK) : Cx :=
  cxOf (L2.CX P w) P w K mg base N qual (defScope st) f cdv A outer s H E
theorem good_of {x qual : Str} {st : Stmt} {f : Addr} {N ps : List Str} {k : Nat} {sp : Sp} (F : Fn K x qual st f) (S : FnScope N ps (defScope st))
    (hb : ∀ (kV doc pm : Value) (an : Option Addr) (cdv ct : Value) (us : List Value), us.length = ps.length → bindArgs (PySem.W.fnOf x qual (defArgs st) (defBody st) (defScope st) .none kV doc pm an cdv ct) ⟨us, []⟩ = pure (ps.zip us))
    (len : ∀ vs H Q E, sp vs H Q E → vs.length = ps.length)
    (body : ∀ (cdv : Value) (A : Around) (outer : List Env) (s : Shared) (H : Hp) (vs : List V) (Q : VK) (E : XK), Room k (A.deeper (envOfC qual (defScope st) s.heap.objs.size f cdv)) → sp vs H Q E →
      ∃ t, PSs (XB P w K mg base N qual st f cdv A outer s H E) (defBody st) t ∧ t { nx := fun _ H' => Q .non H', rt := Q } (start N vs) H) : Good P w K mg base (k + 1) f ps sp := by
  obtain ⟨fd, F⟩ := F
  exact ⟨⟨fd, F.ok S len body, F.bindsN hb⟩, F.kp⟩
theorem Good.mono {f : Addr} {ps : List Str} {sp : Sp} {j k : Nat} (G : Good P w K mg base j f ps sp) (h : j ≤ k) : Good P w K mg base k f ps sp := by
  obtain ⟨⟨fd, F, B⟩, kp⟩ := G
  exact ⟨⟨fd, F.mono h, B⟩, kp⟩
theorem Good.imp {f : Addr} {ps : List Str} {sp sp' : Sp} {k : Nat} (G : Good P w K mg base k f ps sp) (h : ∀ vs H Q E, sp' vs H Q E → sp vs H Q E) : Good P w K mg base k f ps sp' := by
  obtain ⟨⟨fd, F, B⟩, kp⟩ := G
  exact ⟨⟨fd, F.imp h, B⟩, kp⟩
/-- what a callee lets out leaves the body -/
theorem px {N : List Str} {qual : Str} {sc : Scope} {f : Addr} {cdv : Value} {A : Around} {outer : List Env} {s : Shared} {H : Hp} {E : XK} :
    Passes (L2.CX P w) (cxOf (L2.CX P w) P w K mg base N qual sc f cdv A outer s H E) E :=
  passes_call (takes_of rfl rfl rfl rfl) fun _ _ _ _ z => z
theorem po {N : List Str} {qual : Str} {sc : Scope} {f : Addr} {cdv : Value} {A : Around} {outer : List Env} {s : Shared} {H : Hp} {E : XK} :
    PassesOwn (model P w) (A.deeper (envOfC qual sc s.heap.objs.size f cdv)) (envOfC qual sc s.heap.objs.size f cdv) (cxOf (L2.CX P w) P w K mg base N qual sc f cdv A outer s H E).xe := passes_of rfl
end
section
variable {X : Cx} {x : Str} {pos : Pos}
theorem pg_i {i : Int} (h : ∃ t, X.mg x = some (.int i t)) (hg : Gl X x := by rfl) (hd : (x == ("__debug__" : Str)) = false := by decide) : PE X (.Name x pos) (tC (.int i)) := by
  obtain ⟨t, h⟩ := h
  exact pe_glob hg h ⟨t, rfl⟩ hd
theorem pg_s {z : Str} (h : ∃ t, X.mg x = some (.str z t)) (hg : Gl X x := by rfl) (hd : (x == ("__debug__" : Str)) = false := by decide) : PE X (.Name x pos) (tC (.str z)) := by
  obtain ⟨t, h⟩ := h
  exact pe_glob hg h ⟨t, rfl⟩ hd
theorem pg_r {a : Addr} (h : X.mg x = some (.ref a)) (hg : Gl X x := by rfl) (hd : (x == ("__debug__" : Str)) = false := by decide) : PE X (.Name x pos) (tC (.ref a)) := pe_glob hg h rfl hd
/-- a call of a def by its name -/
theorem pf {f : Addr} {ps : List Str} {sp : Sp} {k : Nat} {E : XK} {e : Expr} {es : List Expr} {t : TA} {p : Pos} (G : Good X.prog X.w X.K X.mg X.base k f ps sp) (hr : Room k X.A) (hm : X.mg x = some (.ref f)) (hx : Passes (L2.CX X.prog X.w) X E)
    (ha : PA X (e :: es) t) (hg : Gl X x := by rfl) (hdb : (x == ("__debug__" : Str)) = false := by decide) (he : starEach (e :: es) X.env = (false, eval e X.env) :: starEach es X.env := by rfl) (hpl : (backTo pos (starEach es X.env)).any (·.1) = false := by rfl) :
    PE X (.Call (.Name x p) (e :: es) [] pos) (tCall sp [] E t) := by
  obtain ⟨⟨fd, F, B⟩, kp⟩ := G
  exact pe_call F hr hg hm kp B .nil hx ha hdb he hpl
end
section
variable {X : Cx} {C : Addr} {m : Str} {f : Addr} {ps : List Str} {sp : Sp} {k : Nat} {E : XK} {o : Expr} {ta : TE} {pos apos : Pos}
theorem pm {e : Expr} {es : List Expr} {t : TA} {pl : Sem Bool} (G : Good X.prog X.w X.K X.mg X.base k f ps sp) (hr : Room k X.A) (c : Cls X.K C) (hm : Meth X.K C m f) (hx : Passes (L2.CX X.prog X.w) X E) (he : PE X o ta) (ha : PA X (e :: es) t)
    (hst : starEach (e :: es) X.env = (false, eval e X.env) :: starEach es X.env := by rfl) (hpl : (backTo pos (starEach es X.env)).any (·.1) = false := by rfl)
    (ht : eval (.Call (.Attribute o m apos) (e :: es) [] pos) X.env = (do
      let ov ← eval o X.env
      standAt apos.atName
      let (fv, first) ← holding [ov] (getMethod ov m pl)
      callWith pos fv first (backTo pos (starEach (e :: es) X.env)) (backToKw pos (keywordEach [] X.env))) := by rfl) :
    PE X (.Call (.Attribute o m apos) (e :: es) [] pos) (tMeth C m sp [] E ta t) := by
  obtain ⟨⟨fd, F, B⟩, kp⟩ := G
  exact pe_meth he c hm F hr B .nil hx ha hst hpl ht
theorem pm0 {pl : Sem Bool} (G : Good X.prog X.w X.K X.mg X.base k f ps sp) (hr : Room k X.A) (c : Cls X.K C) (hm : Meth X.K C m f) (hx : Passes (L2.CX X.prog X.w) X E) (he : PE X o ta)
    (ht : eval (.Call (.Attribute o m apos) [] [] pos) X.env = (do
      let ov ← eval o X.env
      standAt apos.atName
      let (fv, first) ← holding [ov] (getMethod ov m pl)
      callWith pos fv first (backTo pos (starEach [] X.env)) (backToKw pos (keywordEach [] X.env))) := by rfl) :
    PE X (.Call (.Attribute o m apos) [] [] pos) (tMeth C m sp [] E ta tNil) := by
  obtain ⟨⟨fd, F, B⟩, kp⟩ := G
  exact pe_meth0 he c hm F hr B .nil hx ht
end
end KW

/-! part KMir -/
set_option maxHeartbeats 4000000
/-! The mirror: words, the parser as a small-step machine. -/
namespace KM
open PySem

/-- a word of a text, by its kind; fin stands behind all -/
inductive Wd where
  | told (x : Str) | name (x : Str) | num (n : Int) | var (n : Int) | mark (x : Str) | bad | fin
  deriving DecidableEq
def Wd.kind : Wd → Str
  | .told _ => "told"
  | .name _ => "name"
  | .num _ => "number"
  | .var _ => "var"
  | .mark _ => "mark"
  | .bad => "none"
  | .fin => "end"
def Wd.val : Wd → PyData
  | .told x => .str x
  | .name x => .str x
  | .num n => .int n
  | .var n => .int n
  | .mark x => .str x
  | .bad => .str ""
  | .fin => .str ""
structure PW where
  w : Wd
  pos : Nat
def PW.toD (p : PW) : PyData := .tuple [.str p.w.kind, p.w.val, .int p.pos]
/-- the next word -/
def nowW (len : Nat) : List PW → PW
  | [] => ⟨.fin, len⟩
  | p :: _ => p

/-- what was read: a term or statement with its parts and depth; a count; a beginning; a piece of a ground -/
inductive Md where
  | T (d : PyData) (parts deep : Int) | C (n : Nat) | B | P (d : PyData) (many deep : Int) (good : Bool)
def Md.toD : Md → PyData
  | .T d p q => .tuple [d, .int p, .int q]
  | .C n => .int n
  | .B => .tuple [.str "begin"]
  | .P d p q g => .tuple [d, .int p, .int q, .bool g]
def Md.thing : Md → PyData
  | .T d _ _ => d
  | .P d _ _ _ => d
  | _ => .none
def Md.a1 : Md → Int
  | .T _ p _ => p
  | .P _ p _ _ => p
  | _ => 0
def Md.a2 : Md → Int
  | .T _ _ q => q
  | .P _ _ q _ => q
  | _ => 0
def Md.a3 : Md → Bool
  | .P _ _ _ g => g
  | _ => true
def Md.isT : Md → Bool
  | .T _ _ _ => true
  | _ => false
def Md.isP : Md → Bool
  | .P _ _ _ _ => true
  | _ => false
def Md.isB : Md → Bool
  | .B => true
  | _ => false

/-- the kinds of pieces of a ground -/
inductive Pc where
  | g | G | a | A | t | f | m | n | w
  deriving DecidableEq
def Pc.str : Pc → Str
  | .g => "g" | .G => "G" | .a => "a" | .A => "A" | .t => "t" | .f => "f" | .m => "m" | .n => "n" | .w => "w"
/-- the forms of grounds -/
def pieces : List (Str × List Pc) := [("held", [.n]), ("use", [.w]), ("pair", [.g, .g]), ("first", [.g]), ("second", [.g]), ("either", [.g, .a]), ("other", [.a, .g]), ("cases", [.g, .g, .g]),
  ("take", [.a, .g]), ("give", [.g, .g]), ("void", [.g, .a]), ("twice", [.g]), ("each", [.w, .G]), ("at", [.g, .t]), ("some", [.w, .A, .t, .g]), ("open", [.g, .G]), ("alike", [.t]),
  ("swap", [.A, .g, .g]), ("members", [.w, .A, .m]), ("unlike", [.w, .w]), ("fold", [.f, .g]), ("unfold", [.g])]

inductive Tk where
  | term | args | more (k : Nat) | call (x : Str) | rel (x : Str) | stmt | level (a : Nat) | rest (a : Nat) | make (x : Str) | mknot | bound (x s : Str) | take (x : Str)
  | ground | piece (c : Pc) | small | members | less | ended (x : Str)
def Tk.toD : Tk → PyData
  | .term => .tuple [.str "term"]
  | .args => .tuple [.str "args", .int 0]
  | .more k => .tuple [.str "more", .int k]
  | .call x => .tuple [.str "call", .str x]
  | .rel x => .tuple [.str "rel", .str x]
  | .stmt => .tuple [.str "statement"]
  | .level a => .tuple [.str "level", .int a]
  | .rest a => .tuple [.str "rest", .int a]
  | .make x => .tuple [.str "make", .str x, .int 2]
  | .mknot => .tuple [.str "make_not"]
  | .bound x s => .tuple [.str "bound", .str x, .str s]
  | .take x => .tuple [.str "take", .str "mark", .str x]
  | .ground => .tuple [.str "ground"]
  | .piece c => .tuple [.str "piece", .str c.str]
  | .small => .tuple [.str "small"]
  | .members => .tuple [.str "members"]
  | .less => .tuple [.str "less"]
  | .ended x => .tuple [.str "ended", .str x]

/-- a state: the words left, the variables round, the tasks (the next first), what was read (the last first) -/
structure PS where
  rest : List PW
  many : Int
  todo : List Tk
  made : List Md
inductive Rs where
  | err (p : Nat) | ok (S : PS) | stuck
def PS.add (S : PS) (ts : List Tk) : PS := { S with todo := ts ++ S.todo }
def PS.push (S : PS) (m : Md) : PS := { S with made := m :: S.made }
def PS.adv (S : PS) : PS := { S with rest := S.rest.tail }
def Rs.bind (r : Rs) (f : PS → Rs) : Rs := match r with
  | .err p => .err p
  | .ok S => f S
  | .stuck => .stuck

def sumI (l : List Int) : Int := l.sum
def maxI : List Int → Int
  | [] => 0
  | x :: r => max x (maxI r)
def joinedM (thing : PyData) (parts : List Md) : Md := .T thing (1 + sumI (parts.map Md.a1)) (1 + maxI (parts.map Md.a2))
def NOd : PyData := .tuple [.str "no"]

section
variable (len : Nat)
abbrev nw (S : PS) : Wd := (nowW len S.rest).w
abbrev wrongM (S : PS) : Rs := .err (nowW len S.rest).pos
def needMark (x : Str) (S : PS) : Rs := if nw len S = .mark x then .ok S.adv else wrongM len S
def doVariable (S : PS) : Rs := match nw len S with
  | .var n => if n < S.many then .ok (S.adv.push (.T (.tuple [.str "var", .int (S.many - 1 - n)]) 1 1)) else wrongM len S
  | _ => wrongM len S
def doTerm (S : PS) : Rs := match nw len S with
  | .var _ => doVariable len S
  | .name x => .ok (S.adv.add [.args, .call x])
  | _ => wrongM len S
def doArgs (S : PS) : Rs := if nw len S = .mark "(" then .ok (S.adv.add [.term, .more 1]) else .ok (S.push (.C 0))
def doMore (k : Nat) (S : PS) : Rs := if nw len S = .mark "," then .ok (S.adv.add [.term, .more (k + 1)]) else if nw len S = .mark ")" then .ok (S.adv.push (.C k)) else wrongM len S
def makeCall (word x : Str) (n : Nat) (S : PS) : Rs :=
  if n ≤ S.made.length ∧ (S.made.take n).all Md.isT = true then
    .ok { S with made := joinedM (.tuple [.str word, .str x, .tuple (((S.made.take n).reverse).map Md.thing)]) (S.made.take n).reverse :: S.made.drop n }
  else .stuck
def doCall (x : Str) (S : PS) : Rs := match S.made with
  | .C n :: r => makeCall "call" x n { S with made := r }
  | _ => .stuck
def doSame (S : PS) : Rs := if nw len S = .mark "=" then .ok (S.adv.add [.term, .make "same"]) else wrongM len S
def doRel (x : Str) (S : PS) : Rs := match S.made with
  | .C n :: r => if nw len S = .mark "=" then (makeCall "call" x n { S with made := r }).bind (doSame len) else makeCall "rel" x n { S with made := r }
  | _ => .stuck
def doBound3 (word x : Str) (S : PS) : Rs := (needMark len "." S).bind fun S2 => .ok ({ S2 with many := S2.many + 1 }.add [.stmt, .bound word x])
def doBound2 (word : Str) (S : PS) : Rs := match nw len S with
  | .name x => doBound3 len word x S.adv
  | _ => wrongM len S
def doBound (word : Str) (S : PS) : Rs := if nw len S = .var S.many then (needMark len ":" S.adv).bind (doBound2 len word) else wrongM len S
def doNot (S : PS) : Rs := match nw len S with
  | .mark x => if x = "~" then .ok (S.adv.add [.level 3, .mknot]) else if x = "(" then .ok (S.adv.add [.stmt, .take ")"]) else wrongM len S
  | .told x => if x = "no" then .ok (S.adv.push (.T NOd 1 1)) else wrongM len S
  | .var _ => (doVariable len S).bind (doSame len)
  | .name x => .ok (S.adv.add [.args, .rel x])
  | _ => wrongM len S
def doLevel (a : Nat) (S : PS) : Rs := if a = 3 then doNot len S else .ok (S.add [.level (a + 1), .rest a])
def doStmt (S : PS) : Rs := if nw len S = .told "all" then doBound len "all" S.adv else if nw len S = .told "some" then doBound len "some" S.adv else doLevel len 0 S
def signs : List Str := ["->", "|", "&"]
def kindsL : List Str := ["if", "or", "and"]
def doRest (a : Nat) (S : PS) : Rs := match signs[a]?, kindsL[a]? with
  | some x, some y => if nw len S = .mark x then .ok (S.adv.add (if a = 0 then [.level 0, .make y] else [.level (a + 1), .make y, .rest a])) else .ok S
  | _, _ => .stuck
def doMake (x : Str) (S : PS) : Rs := match S.made with
  | b :: a :: r => if a.isT = true ∧ b.isT = true then .ok { S with made := joinedM (.tuple [.str x, a.thing, b.thing]) [a, b] :: r } else .stuck
  | _ => .stuck
def doMknot (S : PS) : Rs := match S.made with
  | a :: r => if a.isT = true then .ok { S with made := joinedM (.tuple [.str "if", a.thing, NOd]) [a, .T NOd 1 1] :: r } else .stuck
  | _ => .stuck
def doBnd (x s : Str) (S : PS) : Rs := match S.made with
  | a :: r => if a.isT = true then .ok { S with many := S.many - 1, made := joinedM (.tuple [.str x, .str s, a.thing]) [a] :: r } else .stuck
  | _ => .stuck
def pieceTasks : List Pc → List Tk
  | [] => []
  | c :: r => .piece c :: r.flatMap fun d => if d = .m then [.piece d] else [.take ",", .piece d]
def doGround2 (x : Str) (ps : List Pc) (S : PS) : Rs := .ok ((S.push .B).add (pieceTasks ps ++ [.take ")", .ended x]))
def doGround1 (x : Str) (S : PS) : Rs := match pieces.lookup x with
  | some ps => (needMark len "(" S.adv).bind (doGround2 x ps)
  | none => wrongM len S
def doGround (S : PS) : Rs := match nw len S with
  | .told x => doGround1 len x S
  | _ => wrongM len S
def doPiece (c : Pc) (S : PS) : Rs := match c with
  | .g => .ok (S.add [.ground])
  | .G => .ok ({ S with many := S.many + 1 }.add [.ground, .less])
  | .a => .ok (S.add [.take "[", .stmt, .take "]", .small])
  | .A => .ok ({ S with many := S.many + 1 }.add [.take "[", .stmt, .take "]", .small, .less])
  | .t => .ok (S.add [.term, .small])
  | .f => (match nw len S with
    | .name x => .ok (S.adv.add [.args, .call x, .small])
    | _ => wrongM len S)
  | .m => .ok ((S.push .B).add [.members])
  | .n => (match nw len S with
    | .num n => .ok (S.adv.push (.P (.int n) 0 0 true))
    | _ => wrongM len S)
  | .w => (match nw len S with
    | .name x => .ok (S.adv.push (.P (.str x) 0 0 true))
    | _ => wrongM len S)
def doSmall (S : PS) : Rs := match S.made with
  | .T d p q :: r => .ok { S with made := .P d 0 0 (decide (p ≤ 4000) && decide (q ≤ 120)) :: r }
  | _ => .stuck
/-- what was read since the last beginning (in order), what was read ahead of it -/
def since : List Md → Option (List Md × List Md)
  | [] => none
  | .B :: r => some ([], r)
  | x :: r => (since r).map fun p => (p.1 ++ [x], p.2)
def doMembers (S : PS) : Rs := if nw len S = .mark "," then .ok (S.adv.add [.ground, .members]) else match since S.made with
  | some (ps, r) => if ps.all Md.isP = true then .ok { S with made := .P (.tuple (ps.map Md.thing)) (sumI (ps.map Md.a1)) (maxI (ps.map Md.a2)) ((ps.map Md.a3).all id) :: r } else .stuck
  | none => .stuck
/-- the things of a ground: those of a fold stand otherwise -/
def foldThings (x : Str) (ds : List PyData) : Option (List PyData) := if x = "fold" then (match ds with
  | .tuple [_, n, a] :: g :: _ => some [n, a, g]
  | _ => none) else some ds
def doEnded (x : Str) (S : PS) : Rs := match since S.made with
  | some (ps, r) => if ps.all Md.isP = true then (match foldThings x (ps.map Md.thing) with
    | some ds => .ok { S with made := .P (.tuple (.str x :: ds)) (1 + sumI (ps.map Md.a1)) (1 + maxI (ps.map Md.a2)) ((ps.map Md.a3).all id) :: r }
    | none => .stuck) else .stuck
  | none => .stuck
def stepT (t : Tk) (S : PS) : Rs := match t with
  | .term => doTerm len S
  | .args => doArgs len S
  | .more k => doMore len k S
  | .call x => doCall x S
  | .rel x => doRel len x S
  | .stmt => doStmt len S
  | .level a => doLevel len a S
  | .rest a => doRest len a S
  | .make x => doMake x S
  | .mknot => doMknot S
  | .bound x s => doBnd x s S
  | .take x => needMark len x S
  | .ground => doGround len S
  | .piece c => doPiece len c S
  | .small => doSmall S
  | .members => doMembers len S
  | .less => .ok { S with many := S.many - 1 }
  | .ended x => doEnded x S
/-- tasks done, one behind another, till none is left -/
inductive Runs : Nat → PS → Rs → Prop where
  | done {S : PS} : S.todo = [] → Runs 0 S (.ok S)
  | err {S : PS} {t : Tk} {ts : List Tk} {p : Nat} : S.todo = t :: ts → stepT len t { S with todo := ts } = .err p → Runs 1 S (.err p)
  | more {S S1 : PS} {t : Tk} {ts : List Tk} {n : Nat} {r : Rs} : S.todo = t :: ts → stepT len t { S with todo := ts } = .ok S1 → Runs n S1 r → Runs (n + 1) S r
end
end KM

/-! part KTxt -/
set_option maxHeartbeats 4000000
namespace KW
open PySem PySem.Spec PyProof.Rows L2
/-! ### what the top has written -/
abbrev CR (K : PySem.W.Frag) : Addr := He.ga K "Reader"
abbrev mR (K : PySem.W.Frag) (m : Str) : Addr := He.ma K (CR K) m
abbrev CB (K : PySem.W.Frag) : Addr := He.ga K "BadText"
def toldL : List Str := ["no", "same", "all", "some", "sort", "func", "rel", "mean", "taken", "shown", "by"]
def formsL : List Str := ["held", "use", "pair", "first", "second", "either", "other", "cases", "take", "give", "void", "twice", "each", "at", "open", "alike", "swap", "members", "unlike", "fold", "unfold"]
def toldAll : List Str := toldL ++ formsL
def pcStr (ps : List KM.Pc) : Str := ⟨(ps.flatMap fun c => c.str.cps.toList).toArray⟩
structure Txt (K : PySem.W.Frag) (mg : Str → Option Value) (w : World) : Prop where
  f_now : Fn K "now" "Stack.now" s_now (mR K "now")
  m_now : Meth K (CR K) "now" (mR K "now")
  f_wrong : Fn K "wrong" "Stack.wrong" s_wrong (mR K "wrong")
  m_wrong : Meth K (CR K) "wrong" (mR K "wrong")
  f_is_mark : Fn K "is_mark" "Stack.is_mark" s_is_mark (mR K "is_mark")
  m_is_mark : Meth K (CR K) "is_mark" (mR K "is_mark")
  f_is_told : Fn K "is_told" "Stack.is_told" s_is_told (mR K "is_told")
  m_is_told : Meth K (CR K) "is_told" (mR K "is_told")
  f_go_on : Fn K "go_on" "Stack.go_on" s_go_on (mR K "go_on")
  m_go_on : Meth K (CR K) "go_on" (mR K "go_on")
  f_need_word : Fn K "need_word" "Stack.need_word" s_need_word (mR K "need_word")
  m_need_word : Meth K (CR K) "need_word" (mR K "need_word")
  f_need_kind : Fn K "need_kind" "Stack.need_kind" s_need_kind (mR K "need_kind")
  m_need_kind : Meth K (CR K) "need_kind" (mR K "need_kind")
  f_plan : Fn K "plan" "Stack.plan" s_plan (mR K "plan")
  m_plan : Meth K (CR K) "plan" (mR K "plan")
  f_pop_many : Fn K "pop_many" "Stack.pop_many" s_pop_many (mR K "pop_many")
  m_pop_many : Meth K (CR K) "pop_many" (mR K "pop_many")
  f_make : Fn K "make" "Stack.make" s_make (mR K "make")
  m_make : Meth K (CR K) "make" (mR K "make")
  f_make_call : Fn K "make_call" "Stack.make_call" s_make_call (mR K "make_call")
  m_make_call : Meth K (CR K) "make_call" (mR K "make_call")
  f_make_bound : Fn K "make_bound" "Stack.make_bound" s_make_bound (mR K "make_bound")
  m_make_bound : Meth K (CR K) "make_bound" (mR K "make_bound")
  f_make_not : Fn K "make_not" "Stack.make_not" s_make_not (mR K "make_not")
  m_make_not : Meth K (CR K) "make_not" (mR K "make_not")
  f_do_term : Fn K "do_term" "Parser.do_term" s_do_term (mR K "do_term")
  m_do_term : Meth K (CR K) "do_term" (mR K "do_term")
  f_do_variable : Fn K "do_variable" "Parser.do_variable" s_do_variable (mR K "do_variable")
  m_do_variable : Meth K (CR K) "do_variable" (mR K "do_variable")
  f_do_args : Fn K "do_args" "Parser.do_args" s_do_args (mR K "do_args")
  m_do_args : Meth K (CR K) "do_args" (mR K "do_args")
  f_do_more : Fn K "do_more" "Parser.do_more" s_do_more (mR K "do_more")
  m_do_more : Meth K (CR K) "do_more" (mR K "do_more")
  f_do_call : Fn K "do_call" "Parser.do_call" s_do_call (mR K "do_call")
  m_do_call : Meth K (CR K) "do_call" (mR K "do_call")
  f_do_rel : Fn K "do_rel" "Parser.do_rel" s_do_rel (mR K "do_rel")
  m_do_rel : Meth K (CR K) "do_rel" (mR K "do_rel")
  f_do_same : Fn K "do_same" "Parser.do_same" s_do_same (mR K "do_same")
  m_do_same : Meth K (CR K) "do_same" (mR K "do_same")
  f_do_statement : Fn K "do_statement" "Parser.do_statement" s_do_statement (mR K "do_statement")
  m_do_statement : Meth K (CR K) "do_statement" (mR K "do_statement")
  f_do_bound : Fn K "do_bound" "Parser.do_bound" s_do_bound (mR K "do_bound")
  m_do_bound : Meth K (CR K) "do_bound" (mR K "do_bound")
  f_do_level : Fn K "do_level" "Parser.do_level" s_do_level (mR K "do_level")
  m_do_level : Meth K (CR K) "do_level" (mR K "do_level")
  f_do_rest : Fn K "do_rest" "Parser.do_rest" s_do_rest (mR K "do_rest")
  m_do_rest : Meth K (CR K) "do_rest" (mR K "do_rest")
  f_do_not : Fn K "do_not" "Parser.do_not" s_do_not (mR K "do_not")
  m_do_not : Meth K (CR K) "do_not" (mR K "do_not")
  f_work_plain : Fn K "work_plain" "Parser.work_plain" s_work_plain (mR K "work_plain")
  m_work_plain : Meth K (CR K) "work_plain" (mR K "work_plain")
  f_work_made : Fn K "work_made" "Parser.work_made" s_work_made (mR K "work_made")
  m_work_made : Meth K (CR K) "work_made" (mR K "work_made")
  f_run : Fn K "run" "Parser.run" s_run (mR K "run")
  m_run : Meth K (CR K) "run" (mR K "run")
  f_do_ground : Fn K "do_ground" "Reader.do_ground" s_do_ground (mR K "do_ground")
  m_do_ground : Meth K (CR K) "do_ground" (mR K "do_ground")
  f_do_piece : Fn K "do_piece" "Reader.do_piece" s_do_piece (mR K "do_piece")
  m_do_piece : Meth K (CR K) "do_piece" (mR K "do_piece")
  f_under : Fn K "under" "Reader.under" s_under (mR K "under")
  m_under : Meth K (CR K) "under" (mR K "under")
  f_do_small : Fn K "do_small" "Reader.do_small" s_do_small (mR K "do_small")
  m_do_small : Meth K (CR K) "do_small" (mR K "do_small")
  f_do_members : Fn K "do_members" "Reader.do_members" s_do_members (mR K "do_members")
  m_do_members : Meth K (CR K) "do_members" (mR K "do_members")
  f_since : Fn K "since" "Reader.since" s_since (mR K "since")
  m_since : Meth K (CR K) "since" (mR K "since")
  f_deepest : Fn K "deepest" "Reader.deepest" s_deepest (mR K "deepest")
  m_deepest : Meth K (CR K) "deepest" (mR K "deepest")
  f_all_good : Fn K "all_good" "Reader.all_good" s_all_good (mR K "all_good")
  m_all_good : Meth K (CR K) "all_good" (mR K "all_good")
  f_do_ended : Fn K "do_ended" "Reader.do_ended" s_do_ended (mR K "do_ended")
  m_do_ended : Meth K (CR K) "do_ended" (mR K "do_ended")
  f_work : Fn K "work" "Reader.work" s_work (mR K "work")
  m_work : Meth K (CR K) "work" (mR K "work")
  f_joined : Fn K "joined" "joined" s_joined (He.ga K "joined")
  g_joined : mg "joined" = some (.ref (He.ga K "joined"))
  f_is_called : Fn K "is_called" "is_called" s_is_called (He.ga K "is_called")
  g_is_called : mg "is_called" = some (.ref (He.ga K "is_called"))
  f_number_of : Fn K "number_of" "number_of" s_number_of (He.ga K "number_of")
  g_number_of : mg "number_of" = some (.ref (He.ga K "number_of"))
  f_run_at : Fn K "run_at" "run_at" s_run_at (He.ga K "run_at")
  g_run_at : mg "run_at" = some (.ref (He.ga K "run_at"))
  f_run_word : Fn K "run_word" "run_word" s_run_word (He.ga K "run_word")
  g_run_word : mg "run_word" = some (.ref (He.ga K "run_word"))
  f_words_of : Fn K "words_of" "words_of" s_words_of (He.ga K "words_of")
  g_words_of : mg "words_of" = some (.ref (He.ga K "words_of"))
  f_reader_of : Fn K "reader_of" "reader_of" s_reader_of (He.ga K "reader_of")
  g_reader_of : mg "reader_of" = some (.ref (He.ga K "reader_of"))
  f_small_one : Fn K "small_one" "small_one" s_small_one (He.ga K "small_one")
  g_small_one : mg "small_one" = some (.ref (He.ga K "small_one"))
  f_read_statement : Fn K "read_statement" "read_statement" s_read_statement (He.ga K "read_statement")
  g_read_statement : mg "read_statement" = some (.ref (He.ga K "read_statement"))
  f_whole_ground : Fn K "whole_ground" "whole_ground" s_whole_ground (He.ga K "whole_ground")
  g_whole_ground : mg "whole_ground" = some (.ref (He.ga K "whole_ground"))
  f_read_ground : Fn K "read_ground" "read_ground" s_read_ground (He.ga K "read_ground")
  g_read_ground : mg "read_ground" = some (.ref (He.ga K "read_ground"))
  f_names_behind : Fn K "names_behind" "names_behind" s_names_behind (He.ga K "names_behind")
  g_names_behind : mg "names_behind" = some (.ref (He.ga K "names_behind"))
  f_func_entry : Fn K "func_entry" "func_entry" s_func_entry (He.ga K "func_entry")
  g_func_entry : mg "func_entry" = some (.ref (He.ga K "func_entry"))
  f_part_of : Fn K "part_of" "part_of" s_part_of (He.ga K "part_of")
  g_part_of : mg "part_of" = some (.ref (He.ga K "part_of"))
  f_statement_in : Fn K "statement_in" "statement_in" s_statement_in (He.ga K "statement_in")
  g_statement_in : mg "statement_in" = some (.ref (He.ga K "statement_in"))
  f_told_entry : Fn K "told_entry" "told_entry" s_told_entry (He.ga K "told_entry")
  g_told_entry : mg "told_entry" = some (.ref (He.ga K "told_entry"))
  f_entry_in : Fn K "entry_in" "entry_in" s_entry_in (He.ga K "entry_in")
  g_entry_in : mg "entry_in" = some (.ref (He.ga K "entry_in"))
  f_entry_of : Fn K "entry_of" "entry_of" s_entry_of (He.ga K "entry_of")
  g_entry_of : mg "entry_of" = some (.ref (He.ga K "entry_of"))
  f_read_entry : Fn K "read_entry" "read_entry" s_read_entry (He.ga K "read_entry")
  g_read_entry : mg "read_entry" = some (.ref (He.ga K "read_entry"))
  f_line_entry : Fn K "line_entry" "line_entry" s_line_entry (He.ga K "line_entry")
  g_line_entry : mg "line_entry" = some (.ref (He.ga K "line_entry"))
  f_read_room : Fn K "read_room" "read_room" s_read_room (He.ga K "read_room")
  g_read_room : mg "read_room" = some (.ref (He.ga K "read_room"))
  f_l_cell : Fn K "_law_cell" "_law_cell" s_l_cell (He.ga K "_law_cell")
  g_l_cell : mg "_law_cell" = some (.ref (He.ga K "_law_cell"))
  f_l_name : Fn K "_law_name" "_law_name" s_l_name (He.ga K "_law_name")
  g_l_name : mg "_law_name" = some (.ref (He.ga K "_law_name"))
  f_l_line : Fn K "_law_line" "_law_line" s_l_line (He.ga K "_law_line")
  g_l_line : mg "_law_line" = some (.ref (He.ga K "_law_line"))
  f_l_words : Fn K "_law_words" "_law_words" s_l_words (He.ga K "_law_words")
  g_l_words : mg "_law_words" = some (.ref (He.ga K "_law_words"))
  f_l_is_number : Fn K "_law_is_number" "_law_is_number" s_l_is_number (He.ga K "_law_is_number")
  g_l_is_number : mg "_law_is_number" = some (.ref (He.ga K "_law_is_number"))
  f_l_part : Fn K "_law_part" "_law_part" s_l_part (He.ga K "_law_part")
  g_l_part : mg "_law_part" = some (.ref (He.ga K "_law_part"))
  f_l_names_from : Fn K "_law_names_from" "_law_names_from" s_l_names_from (He.ga K "_law_names_from")
  g_l_names_from : mg "_law_names_from" = some (.ref (He.ga K "_law_names_from"))
  f_l_told : Fn K "_law_told" "_law_told" s_l_told (He.ga K "_law_told")
  g_l_told : mg "_law_told" = some (.ref (He.ga K "_law_told"))
  f_l_listed : Fn K "_law_listed" "_law_listed" s_l_listed (He.ga K "_law_listed")
  g_l_listed : mg "_law_listed" = some (.ref (He.ga K "_law_listed"))
  f_l_due : Fn K "_law_due" "_law_due" s_l_due (He.ga K "_law_due")
  g_l_due : mg "_law_due" = some (.ref (He.ga K "_law_due"))
  f_l_found : Fn K "_law_found" "_law_found" s_l_found (He.ga K "_law_found")
  g_l_found : mg "_law_found" = some (.ref (He.ga K "_law_found"))
  f_l_bent : Fn K "_law_bent" "_law_bent" s_l_bent (He.ga K "_law_bent")
  g_l_bent : mg "_law_bent" = some (.ref (He.ga K "_law_bent"))
  f_law : Fn K "law" "law" s_law (He.ga K "law")
  g_law : mg "law" = some (.ref (He.ga K "law"))
  f_init : Fn K "__init__" "Stack.__init__" s_init (mR K "__init__")
  f_binit : Fn K "__init__" "BadText.__init__" s_binit (He.ma K (CB K) "__init__")
  c_NOT_LEVEL : ∃ t, mg "NOT_LEVEL" = some (.int 3 t)
  c_MOST_LETTERS : ∃ t, mg "MOST_LETTERS" = some (.int 10 t)
  c_MOST_FIGURES : ∃ t, mg "MOST_FIGURES" = some (.int 30 t)
  c_MOST_SIGNS : ∃ t, mg "MOST_SIGNS" = some (.int 20000 t)
  c_MOST_ROOM : ∃ t, mg "MOST_ROOM" = some (.int 100000 t)
  c_MOST_PARTS : ∃ t, mg "MOST_PARTS" = some (.int 400 t)
  c_MOST_DEEP : ∃ t, mg "MOST_DEEP" = some (.int 40 t)
  c_GREAT_PARTS : ∃ t, mg "GREAT_PARTS" = some (.int 4000 t)
  c_GREAT_DEEP : ∃ t, mg "GREAT_DEEP" = some (.int 120 t)
  c_MOST_GROUNDS : ∃ t, mg "MOST_GROUNDS" = some (.int 4000 t)
  c_MOST_WITHIN : ∃ t, mg "MOST_WITHIN" = some (.int 150 t)
  c_SMALL : ∃ t, mg "SMALL" = some (.str "abcdefghijklmnopqrstuvwxyz" t)
  c_FIGURES : ∃ t, mg "FIGURES" = some (.str "0123456789" t)
  c_MARKS : ∃ t, mg "MARKS" = some (.str "()[],.:=&|~" t)
  g_NO : mg "NO" = some (.ref (He.ga K "NO"))
  c_NO : ∀ H : Hp, SqT K H (He.ga K "NO") (List.map V.str ["no"])
  g_SIGNS : mg "SIGNS" = some (.ref (He.ga K "SIGNS"))
  c_SIGNS : ∀ H : Hp, SqT K H (He.ga K "SIGNS") (List.map V.str ["->", "|", "&"])
  g_KINDS : mg "KINDS" = some (.ref (He.ga K "KINDS"))
  c_KINDS : ∀ H : Hp, SqT K H (He.ga K "KINDS") (List.map V.str ["if", "or", "and"])
  g_TOLD : mg "TOLD" = some (.ref (He.ga K "TOLD"))
  c_TOLD : ∀ H : Hp, SqT K H (He.ga K "TOLD") (List.map V.str ["no", "same", "all", "some", "sort", "func", "rel", "mean", "taken", "shown", "by"])
  g_FORMS : mg "FORMS" = some (.ref (He.ga K "FORMS"))
  c_FORMS : ∀ H : Hp, SqT K H (He.ga K "FORMS") (List.map V.str ["held", "use", "pair", "first", "second", "either", "other", "cases", "take", "give", "void", "twice", "each", "at", "open", "alike", "swap", "members", "unlike", "fold", "unfold"])
  g_PIECES : mg "PIECES" = some (.ref (He.ga K "PIECES"))
  d_PIECES : ∃ es n, KDict K w (He.ga K "PIECES") es n
  v_PIECES : ∀ x ∈ toldAll, ∃ r, PySem.W.nsIn K (He.ga K "PIECES") x = some r ∧ (r.isSome = true ↔ (KM.pieces.lookup x).isSome = true) ∧ ∀ u, r = some u → ∃ ps, KM.pieces.lookup x = some ps ∧ RelV (.str (pcStr ps)) u
  g_Reader : mg "Reader" = some (.ref (CR K))
  cl : Cls K (CR K)
  mkR : Mk K (CR K) (mR K "__init__")
  n_words : NoAttr K (CR K) "words"
  n_at : NoAttr K (CR K) "at"
  n_length : NoAttr K (CR K) "length"
  n_todo : NoAttr K (CR K) "todo"
  n_made : NoAttr K (CR K) "made"
  n_many : NoAttr K (CR K) "many"
  z_len : mg "len" = none
  z_sum : mg "sum" = none
  z_max : mg "max" = none
  z_tuple : mg "tuple" = none
  z_all : mg "all" = none
  z_isinstance : mg "isinstance" = none
  z_enumerate : mg "enumerate" = none
  z_int : mg "int" = none
  z_str : mg "str" = none
  z_range : mg "range" = none
  z_repr : mg "repr" = none
  z_ValueError : mg "ValueError" = none
  g_BadText : mg "BadText" = some (.ref (CB K))
  oB : OexC K (CB K)
  iB : PySem.W.findIn K (.ref (CB K)) "__init__" = some (some (.ref (He.ma K (CB K) "__init__")))
  tB : PySem.W.typeIn K (.ref (He.ma K (CB K) "__init__")) = some (.type "function")
  nB : PySem.W.findIn K (.ref (CB K)) "at" = some none
  xB : PySem.W.exmOne K (.ref (CB K)) (.ref (CB K)) = some true
  xG : PySem.W.exmOne K (.ref (CB K)) (.ref (He.ga K "GroundError")) = some true
  g_GroundError : mg "GroundError" = some (.ref (He.ga K "GroundError"))
end KW

/-! part KHead1 -/
set_option maxHeartbeats 4000000
/-! What is looked at behind the top: names, defs, classes, the dict; what follows of it. -/
namespace KW
open PySem PySem.Spec PyProof.Rows L2 KM SX
def fa0 : List He.Fa := [
  .meth "Reader" "now",
  .meth "Reader" "wrong",
  .meth "Reader" "is_mark",
  .meth "Reader" "is_told",
  .meth "Reader" "go_on",
  .meth "Reader" "need_word",
  .meth "Reader" "need_kind",
  .meth "Reader" "plan",
  .meth "Reader" "pop_many",
  .meth "Reader" "make",
  .meth "Reader" "make_call",
  .meth "Reader" "make_bound",
  .meth "Reader" "make_not",
  .meth "Reader" "do_term",
  .meth "Reader" "do_variable",
  .meth "Reader" "do_args",
  .meth "Reader" "do_more",
  .meth "Reader" "do_call",
  .meth "Reader" "do_rel",
  .meth "Reader" "do_same",
  .meth "Reader" "do_statement",
  .meth "Reader" "do_bound",
  .meth "Reader" "do_level",
  .meth "Reader" "do_rest",
  .meth "Reader" "do_not",
  .meth "Reader" "work_plain",
  .meth "Reader" "work_made",
  .meth "Reader" "run",
  .meth "Reader" "do_ground",
  .meth "Reader" "do_piece",
  .meth "Reader" "under",
  .meth "Reader" "do_small",
  .meth "Reader" "do_members",
  .meth "Reader" "since",
  .meth "Reader" "deepest",
  .meth "Reader" "all_good",
  .meth "Reader" "do_ended",
  .meth "Reader" "work",
  .glo "joined",
  .glo "is_called"]
def fa1 : List He.Fa := [
  .glo "number_of",
  .glo "run_at",
  .glo "run_word",
  .glo "words_of",
  .glo "reader_of",
  .glo "small_one",
  .glo "read_statement",
  .glo "whole_ground",
  .glo "read_ground",
  .glo "names_behind",
  .glo "func_entry",
  .glo "part_of",
  .glo "statement_in",
  .glo "told_entry",
  .glo "entry_in",
  .glo "entry_of",
  .glo "read_entry",
  .glo "line_entry",
  .glo "read_room",
  .glo "_law_cell",
  .glo "_law_name",
  .glo "_law_line",
  .glo "_law_words",
  .glo "_law_is_number",
  .glo "_law_part",
  .glo "_law_names_from",
  .glo "_law_told",
  .glo "_law_listed",
  .glo "_law_due",
  .glo "_law_found",
  .glo "_law_bent",
  .glo "law",
  .int "NOT_LEVEL" 3,
  .int "MOST_LETTERS" 10,
  .int "MOST_FIGURES" 30,
  .int "MOST_SIGNS" 20000,
  .int "MOST_ROOM" 100000,
  .int "MOST_PARTS" 400,
  .int "MOST_DEEP" 40,
  .int "GREAT_PARTS" 4000]
def fa2 : List He.Fa := [
  .int "GREAT_DEEP" 120,
  .int "MOST_GROUNDS" 4000,
  .int "MOST_WITHIN" 150,
  .str "SMALL" "abcdefghijklmnopqrstuvwxyz",
  .str "FIGURES" "0123456789",
  .str "MARKS" "()[],.:=&|~",
  .glo "NO",
  .glo "SIGNS",
  .glo "KINDS",
  .glo "TOLD",
  .glo "FORMS",
  .glo "PIECES",
  .glo "Reader",
  .cls "Reader",
  .mkr "Reader",
  .noat "Reader" "words",
  .noat "Reader" "at",
  .noat "Reader" "length",
  .noat "Reader" "todo",
  .noat "Reader" "made",
  .noat "Reader" "many",
  .free "len",
  .free "sum",
  .free "max",
  .free "tuple",
  .free "all",
  .free "isinstance",
  .free "enumerate",
  .free "int",
  .free "str",
  .free "range",
  .free "repr",
  .free "ValueError",
  .glo "BadText",
  .glo "GroundError",
  .glo "BadGround",
  .glo "BadRoom",
  .glo "NoStep",
  .glo "NotDone",
  .glo "NoText"]
def fa3 : List He.Fa := [
  .glo "TooMany"]
def fa : List He.Fa := fa0 ++ fa1 ++ fa2 ++ fa3
def fn0 : List He.DefD := [
  ⟨("Reader", some "now"), "now", "Stack.now", defArgs s_now, defBody s_now, defScope s_now, [], []⟩,
  ⟨("Reader", some "wrong"), "wrong", "Stack.wrong", defArgs s_wrong, defBody s_wrong, defScope s_wrong, [], []⟩,
  ⟨("Reader", some "is_mark"), "is_mark", "Stack.is_mark", defArgs s_is_mark, defBody s_is_mark, defScope s_is_mark, [], []⟩,
  ⟨("Reader", some "is_told"), "is_told", "Stack.is_told", defArgs s_is_told, defBody s_is_told, defScope s_is_told, [], []⟩,
  ⟨("Reader", some "go_on"), "go_on", "Stack.go_on", defArgs s_go_on, defBody s_go_on, defScope s_go_on, [], []⟩,
  ⟨("Reader", some "need_word"), "need_word", "Stack.need_word", defArgs s_need_word, defBody s_need_word, defScope s_need_word, [], []⟩,
  ⟨("Reader", some "need_kind"), "need_kind", "Stack.need_kind", defArgs s_need_kind, defBody s_need_kind, defScope s_need_kind, [], []⟩,
  ⟨("Reader", some "plan"), "plan", "Stack.plan", defArgs s_plan, defBody s_plan, defScope s_plan, [], []⟩,
  ⟨("Reader", some "pop_many"), "pop_many", "Stack.pop_many", defArgs s_pop_many, defBody s_pop_many, defScope s_pop_many, [], []⟩,
  ⟨("Reader", some "make"), "make", "Stack.make", defArgs s_make, defBody s_make, defScope s_make, [], []⟩,
  ⟨("Reader", some "make_call"), "make_call", "Stack.make_call", defArgs s_make_call, defBody s_make_call, defScope s_make_call, [], []⟩,
  ⟨("Reader", some "make_bound"), "make_bound", "Stack.make_bound", defArgs s_make_bound, defBody s_make_bound, defScope s_make_bound, [], []⟩,
  ⟨("Reader", some "make_not"), "make_not", "Stack.make_not", defArgs s_make_not, defBody s_make_not, defScope s_make_not, [], []⟩,
  ⟨("Reader", some "do_term"), "do_term", "Parser.do_term", defArgs s_do_term, defBody s_do_term, defScope s_do_term, [], []⟩,
  ⟨("Reader", some "do_variable"), "do_variable", "Parser.do_variable", defArgs s_do_variable, defBody s_do_variable, defScope s_do_variable, [], []⟩,
  ⟨("Reader", some "do_args"), "do_args", "Parser.do_args", defArgs s_do_args, defBody s_do_args, defScope s_do_args, [], []⟩,
  ⟨("Reader", some "do_more"), "do_more", "Parser.do_more", defArgs s_do_more, defBody s_do_more, defScope s_do_more, [], []⟩,
  ⟨("Reader", some "do_call"), "do_call", "Parser.do_call", defArgs s_do_call, defBody s_do_call, defScope s_do_call, [], []⟩,
  ⟨("Reader", some "do_rel"), "do_rel", "Parser.do_rel", defArgs s_do_rel, defBody s_do_rel, defScope s_do_rel, [], []⟩,
  ⟨("Reader", some "do_same"), "do_same", "Parser.do_same", defArgs s_do_same, defBody s_do_same, defScope s_do_same, [], []⟩]
def fn1 : List He.DefD := [
  ⟨("Reader", some "do_statement"), "do_statement", "Parser.do_statement", defArgs s_do_statement, defBody s_do_statement, defScope s_do_statement, [], []⟩,
  ⟨("Reader", some "do_bound"), "do_bound", "Parser.do_bound", defArgs s_do_bound, defBody s_do_bound, defScope s_do_bound, [], []⟩,
  ⟨("Reader", some "do_level"), "do_level", "Parser.do_level", defArgs s_do_level, defBody s_do_level, defScope s_do_level, [], []⟩,
  ⟨("Reader", some "do_rest"), "do_rest", "Parser.do_rest", defArgs s_do_rest, defBody s_do_rest, defScope s_do_rest, [], []⟩,
  ⟨("Reader", some "do_not"), "do_not", "Parser.do_not", defArgs s_do_not, defBody s_do_not, defScope s_do_not, [], []⟩,
  ⟨("Reader", some "work_plain"), "work_plain", "Parser.work_plain", defArgs s_work_plain, defBody s_work_plain, defScope s_work_plain, [], []⟩,
  ⟨("Reader", some "work_made"), "work_made", "Parser.work_made", defArgs s_work_made, defBody s_work_made, defScope s_work_made, [], []⟩,
  ⟨("Reader", some "run"), "run", "Parser.run", defArgs s_run, defBody s_run, defScope s_run, [], []⟩,
  ⟨("Reader", some "do_ground"), "do_ground", "Reader.do_ground", defArgs s_do_ground, defBody s_do_ground, defScope s_do_ground, [], []⟩,
  ⟨("Reader", some "do_piece"), "do_piece", "Reader.do_piece", defArgs s_do_piece, defBody s_do_piece, defScope s_do_piece, [], []⟩,
  ⟨("Reader", some "under"), "under", "Reader.under", defArgs s_under, defBody s_under, defScope s_under, [], []⟩,
  ⟨("Reader", some "do_small"), "do_small", "Reader.do_small", defArgs s_do_small, defBody s_do_small, defScope s_do_small, [], []⟩,
  ⟨("Reader", some "do_members"), "do_members", "Reader.do_members", defArgs s_do_members, defBody s_do_members, defScope s_do_members, [], []⟩,
  ⟨("Reader", some "since"), "since", "Reader.since", defArgs s_since, defBody s_since, defScope s_since, [], []⟩,
  ⟨("Reader", some "deepest"), "deepest", "Reader.deepest", defArgs s_deepest, defBody s_deepest, defScope s_deepest, [], []⟩,
  ⟨("Reader", some "all_good"), "all_good", "Reader.all_good", defArgs s_all_good, defBody s_all_good, defScope s_all_good, [], []⟩,
  ⟨("Reader", some "do_ended"), "do_ended", "Reader.do_ended", defArgs s_do_ended, defBody s_do_ended, defScope s_do_ended, [], []⟩,
  ⟨("Reader", some "work"), "work", "Reader.work", defArgs s_work, defBody s_work, defScope s_work, [], []⟩,
  ⟨("joined", none), "joined", "joined", defArgs s_joined, defBody s_joined, defScope s_joined, [], []⟩,
  ⟨("is_called", none), "is_called", "is_called", defArgs s_is_called, defBody s_is_called, defScope s_is_called, [], []⟩]
def fn2 : List He.DefD := [
  ⟨("number_of", none), "number_of", "number_of", defArgs s_number_of, defBody s_number_of, defScope s_number_of, [], []⟩,
  ⟨("run_at", none), "run_at", "run_at", defArgs s_run_at, defBody s_run_at, defScope s_run_at, [], []⟩,
  ⟨("run_word", none), "run_word", "run_word", defArgs s_run_word, defBody s_run_word, defScope s_run_word, [], []⟩,
  ⟨("words_of", none), "words_of", "words_of", defArgs s_words_of, defBody s_words_of, defScope s_words_of, [], []⟩,
  ⟨("reader_of", none), "reader_of", "reader_of", defArgs s_reader_of, defBody s_reader_of, defScope s_reader_of, [], []⟩,
  ⟨("small_one", none), "small_one", "small_one", defArgs s_small_one, defBody s_small_one, defScope s_small_one, [], []⟩,
  ⟨("read_statement", none), "read_statement", "read_statement", defArgs s_read_statement, defBody s_read_statement, defScope s_read_statement, [], []⟩,
  ⟨("whole_ground", none), "whole_ground", "whole_ground", defArgs s_whole_ground, defBody s_whole_ground, defScope s_whole_ground, [], []⟩,
  ⟨("read_ground", none), "read_ground", "read_ground", defArgs s_read_ground, defBody s_read_ground, defScope s_read_ground, [], []⟩,
  ⟨("names_behind", none), "names_behind", "names_behind", defArgs s_names_behind, defBody s_names_behind, defScope s_names_behind, [], []⟩,
  ⟨("func_entry", none), "func_entry", "func_entry", defArgs s_func_entry, defBody s_func_entry, defScope s_func_entry, [], []⟩,
  ⟨("part_of", none), "part_of", "part_of", defArgs s_part_of, defBody s_part_of, defScope s_part_of, [], []⟩,
  ⟨("statement_in", none), "statement_in", "statement_in", defArgs s_statement_in, defBody s_statement_in, defScope s_statement_in, [], []⟩,
  ⟨("told_entry", none), "told_entry", "told_entry", defArgs s_told_entry, defBody s_told_entry, defScope s_told_entry, [], []⟩,
  ⟨("entry_in", none), "entry_in", "entry_in", defArgs s_entry_in, defBody s_entry_in, defScope s_entry_in, [], []⟩,
  ⟨("entry_of", none), "entry_of", "entry_of", defArgs s_entry_of, defBody s_entry_of, defScope s_entry_of, [], []⟩,
  ⟨("read_entry", none), "read_entry", "read_entry", defArgs s_read_entry, defBody s_read_entry, defScope s_read_entry, [], []⟩,
  ⟨("line_entry", none), "line_entry", "line_entry", defArgs s_line_entry, defBody s_line_entry, defScope s_line_entry, [], []⟩,
  ⟨("read_room", none), "read_room", "read_room", defArgs s_read_room, defBody s_read_room, defScope s_read_room, [], []⟩,
  ⟨("_law_cell", none), "_law_cell", "_law_cell", defArgs s_l_cell, defBody s_l_cell, defScope s_l_cell, [], []⟩]
def fn3 : List He.DefD := [
  ⟨("_law_name", none), "_law_name", "_law_name", defArgs s_l_name, defBody s_l_name, defScope s_l_name, [], []⟩,
  ⟨("_law_line", none), "_law_line", "_law_line", defArgs s_l_line, defBody s_l_line, defScope s_l_line, [], []⟩,
  ⟨("_law_words", none), "_law_words", "_law_words", defArgs s_l_words, defBody s_l_words, defScope s_l_words, [], []⟩,
  ⟨("_law_is_number", none), "_law_is_number", "_law_is_number", defArgs s_l_is_number, defBody s_l_is_number, defScope s_l_is_number, [], []⟩,
  ⟨("_law_part", none), "_law_part", "_law_part", defArgs s_l_part, defBody s_l_part, defScope s_l_part, [], []⟩,
  ⟨("_law_names_from", none), "_law_names_from", "_law_names_from", defArgs s_l_names_from, defBody s_l_names_from, defScope s_l_names_from, [], []⟩,
  ⟨("_law_told", none), "_law_told", "_law_told", defArgs s_l_told, defBody s_l_told, defScope s_l_told, [], []⟩,
  ⟨("_law_listed", none), "_law_listed", "_law_listed", defArgs s_l_listed, defBody s_l_listed, defScope s_l_listed, [], []⟩,
  ⟨("_law_due", none), "_law_due", "_law_due", defArgs s_l_due, defBody s_l_due, defScope s_l_due, [], []⟩,
  ⟨("_law_found", none), "_law_found", "_law_found", defArgs s_l_found, defBody s_l_found, defScope s_l_found, [], []⟩,
  ⟨("_law_bent", none), "_law_bent", "_law_bent", defArgs s_l_bent, defBody s_l_bent, defScope s_l_bent, [], []⟩,
  ⟨("law", none), "law", "law", defArgs s_law, defBody s_law, defScope s_law, [], []⟩,
  ⟨("Reader", some "__init__"), "__init__", "Stack.__init__", defArgs s_init, defBody s_init, defScope s_init, [], []⟩,
  ⟨("BadText", some "__init__"), "__init__", "BadText.__init__", defArgs s_binit, defBody s_binit, defScope s_binit, [], []⟩]
def fn : List He.DefD := fn0 ++ fn1 ++ fn2 ++ fn3
/-- an exception class of the program's own, below ValueError -/
def oexB (K : PySem.W.Frag) (C : Addr) : Bool := match K.lookup C with
  | some ⟨.type "type", _, .cls cd, sl⟩ => (match cd.mro, sl.toList with
    | .ref C' :: bm, [_, _, _, _, some (.builtin n), _] => decide (C' = C) && decide (n = "ValueError.__new__") && !cd.hasDel && cd.hasDict && PySem.HandSPX.refsVE bm
    | _, _ => false)
  | _ => false
theorem oex_ok {K : PySem.W.Frag} {C : Addr} (h : oexB K C = true) (h1 : He.eqO (PySem.W.findIn K (.ref C) "__setattr__") (some (some (.builtin "object.__setattr__"))) = true) (h2 : decide (PySem.W.subIn K (.ref C) (.type "BaseException") = some true) = true)
    (h3 : decide (PySem.W.typeIn K (.ref C) = some (.type "type")) = true) (h4 : PySem.W.keepIn K (.ref C) = true) : OexC K C := by
  refine ⟨?_, He.eqO_ok h1, of_decide_eq_true h2, of_decide_eq_true h3, h4⟩
  unfold oexB at h
  split at h
  · rename_i dd cd sl ho
    split at h
    · rename_i C' bm k0 k1 k2 k3 n k5 hm hs
      simp only [Bool.and_eq_true, decide_eq_true_eq, Bool.not_eq_true'] at h
      obtain ⟨⟨⟨⟨rfl, rfl⟩, hdel⟩, hdict⟩, hve⟩ := h
      obtain ⟨nm, bs, mro, ns, qn, hd, sn, sub, ab, col, del⟩ := cd
      simp only at hm hdel hdict
      subst hm hdel hdict
      obtain ⟨sl⟩ := sl
      simp only at hs
      subst hs
      exact ⟨nm, qn, ns, bs, bm, sn, sub, ab, col, dd, k0, k1, k2, k3, k5, ho, hve⟩
    · cases h
  · cases h
def piecesB (K : PySem.W.Frag) : Bool := toldAll.all fun x => match PySem.W.nsIn K (He.ga K "PIECES") x, KM.pieces.lookup x with
  | some none, none => true
  | some (some u), some ps => He.relB (.str (pcStr ps)) u
  | _, _ => false
theorem pieces_ok {K : PySem.W.Frag} (h : piecesB K = true) : ∀ x ∈ toldAll, ∃ r, PySem.W.nsIn K (He.ga K "PIECES") x = some r ∧ (r.isSome = true ↔ (KM.pieces.lookup x).isSome = true) ∧ ∀ u, r = some u → ∃ ps, KM.pieces.lookup x = some ps ∧ RelV (.str (pcStr ps)) u := by
  intro x hx
  have := List.all_eq_true.mp h x hx
  split at this
  · rename_i e1 e2
    refine ⟨_, e1, ?_, fun u hu => nomatch hu⟩
    rw [e2]; simp
  · rename_i u ps e1 e2
    refine ⟨_, e1, ?_, fun v hv => ⟨ps, e2, ?_⟩⟩
    · rw [e2]; simp
    · injection hv with hv
      subst hv
      exact He.relB_ok this
  · cases this
def tabP : He.Tab := (fun K => He.ga K "PIECES", KM.pieces.map Prod.fst)
def exL (K : PySem.W.Frag) : List Bool := [
  He.tupB K "NO" [.str "no"],
  He.tupB K "SIGNS" [.str "->", .str "|", .str "&"],
  He.tupB K "KINDS" [.str "if", .str "or", .str "and"],
  He.tupB K "TOLD" [.str "no", .str "same", .str "all", .str "some", .str "sort", .str "func", .str "rel", .str "mean", .str "taken", .str "shown", .str "by"],
  He.tupB K "FORMS" [.str "held", .str "use", .str "pair", .str "first", .str "second", .str "either", .str "other", .str "cases", .str "take", .str "give", .str "void", .str "twice", .str "each", .str "at", .str "open", .str "alike", .str "swap", .str "members", .str "unlike", .str "fold", .str "unfold"],
  piecesB K,
  oexB K (CB K),
  He.eqO (PySem.W.findIn K (.ref (CB K)) "__setattr__") (some (some (.builtin "object.__setattr__"))),
  decide (PySem.W.subIn K (.ref (CB K)) (.type "BaseException") = some true),
  decide (PySem.W.typeIn K (.ref (CB K)) = some (.type "type")),
  PySem.W.keepIn K (.ref (CB K)),
  He.eqO (PySem.W.findIn K (.ref (CB K)) "__init__") (some (some (.ref (He.ma K (CB K) "__init__")))),
  decide (PySem.W.typeIn K (.ref (He.ma K (CB K) "__init__")) = some (.type "function")),
  He.eqO (PySem.W.findIn K (.ref (CB K)) "at") (some none),
  decide (PySem.W.exmOne K (.ref (CB K)) (.ref (CB K)) = some true),
  decide (PySem.W.exmOne K (.ref (CB K)) (.ref (He.ga K "GroundError")) = some true),
  He.eqO (PySem.W.findIn K (.ref (CB K)) "__getattribute__") (some (some (.builtin "BaseException.__getattribute__"))),
  He.eqO (PySem.W.findIn K (.ref (CB K)) "__getattr__") (some none),
  decide (PySem.W.subIn K (.ref (CB K)) (.type "BaseException") = some true),
  PySem.W.hasDictIn K (CB K),
  He.eqO (PySem.W.findIn K (.ref (CB K)) "__class__") (some (some (.builtin "object.__class__"))),
  He.eqO (PySem.W.specialIn K (.builtin "object.__class__") "__get__") (some (some (.builtin "getset_descriptor.__get__"))),
  decide (PySem.W.takesIn K (.builtin "object.__class__") = some true),
  decide (PySem.W.mroIn K (CB K) (.type "object") = some true),
  (PySem.W.clsIn K (CB K)).isSome,
  decide (PySem.W.kitOne K (.ref (CB K)) (.ref (CB K)) = some true),
  decide (PySem.W.kitAny K (.ref (CB K)) [.ref (He.ga K "BadGround"), .ref (He.ga K "BadRoom"), .ref (He.ga K "NoStep"), .ref (He.ga K "NotDone"), .ref (He.ga K "NoText"), .ref (He.ga K "TooMany")] = some false)]
def exB (K : PySem.W.Frag) : Bool := (exL K).all id
theorem exAt {K : PySem.W.Frag} (h : exB K = true) (i : Nat) {b : Bool} (e : (exL K)[i]? = some b) : b = true := List.all_eq_true.mp h b (List.mem_of_getElem? e)
/-! what is looked at: the module's names, what they name, the classes' names, what these name, and all defs' code -/
def valsO (o : Option Obj) : List Addr := match o with
  | some ⟨_, _, .dict es _, _⟩ => es.toList.flatMap fun e => He.refV e.val
  | _ => []
def nsO (o : Option Obj) : List Addr := match o with
  | some ⟨_, _, .cls cd, _⟩ => [cd.ns]
  | _ => []
def codeO (o : Option Obj) : List Addr := match o with
  | some ⟨_, _, .func fd, _⟩ => He.refV fd.code
  | _ => []
def asY (g : Addr → Option Obj) : List Addr := mainGlobals :: ((valsO (g mainGlobals)) ++ (valsO (g mainGlobals)).flatMap (fun a => nsO (g a)) ++ ((valsO (g mainGlobals)).flatMap fun a => nsO (g a)).flatMap (fun a => valsO (g a)) ++
  (valsO (g mainGlobals) ++ ((valsO (g mainGlobals)).flatMap fun a => nsO (g a)).flatMap (fun a => valsO (g a))).flatMap fun a => codeO (g a))
structure Says (w : World) (K : PySem.W.Frag) : Prop where
  t : He.SaysT fa fn [tabP] w K
  more : exB K = true
abbrev AlY : Type := He.AlT × Bool
def obsY (g : Addr → Option Obj) : AlY := (He.obsT fa fn [tabP] (He.frG g (asY g)), exB (He.frG g (asY g)))
def hookY : PySem.W.Hook where
  α := AlY
  obs := fun s => obsY s.heap.get?
  val := fun w => (He.valT fn [tabP] w, true)
  says := fun w h => ∃ K : PySem.W.Frag, K.In h ∧ Says w K
  of := fun _ _ e => ⟨_, He.frG_in, ⟨congrArg (fun z : AlY => z.1) e, congrArg (fun z : AlY => z.2) e⟩⟩
  keeps := fun _ _ _ ⟨K, hK, c⟩ k => ⟨K, PySem.W.Frag.In.keeps hK k, c⟩
theorem obsY_eq {g : Addr → Option Obj} {s : Shared} (h : ∀ a, g a = s.heap.get? a) : obsY g = hookY.obs s := by
  have e : g = s.heap.get? := funext h
  rw [e] <;> rfl
end KW

/-! part KHead2 -/
set_option maxHeartbeats 0
namespace KH
open PySem PySem.W PySem.Calls PyProof.Rows
abbrev R : OpenRow := OpenLaw.row PySem.Challenge.rw_groundroom_k32_whole_room_text
abbrev qv : Program := view R.prog [72]
def names1 : List PySem.Str := ["__name__", "GroundError", "TooMany", "NoStep", "NotDone", "NoText", "BadRoom", "BadGround", "BadText", "NO", "joined", "Stack", "SIGNS", "KINDS", "NOT_LEVEL", "Parser", "SMALL", "FIGURES", "TOLD", "FORMS", "MARKS", "MOST_LETTERS", "MOST_FIGURES", "is_called", "number_of", "run_at", "run_word", "words_of"]
def names2 : List PySem.Str := ["MOST_SIGNS", "MOST_ROOM", "MOST_PARTS", "MOST_DEEP", "GREAT_PARTS", "GREAT_DEEP", "MOST_GROUNDS", "MOST_WITHIN", "PIECES", "Reader", "reader_of", "small_one", "read_statement", "whole_ground", "read_ground", "names_behind", "func_entry", "part_of", "statement_in", "told_entry", "entry_in", "entry_of", "read_entry", "line_entry", "read_room"]
def names3 : List PySem.Str := ["_law_cell_at", "_law_cell", "_law_name", "_law_line", "_law_words", "_law_is_number", "_law_part", "_law_names_from", "_law_told", "_law_listed", "_law_due", "_law_found", "_law_bent"]
def names : List PySem.Str := names1 ++ names2 ++ names3
abbrev hk : Hook := KW.hookY
def ob (s : SharedT) : KW.AlY := KW.obsY (HandSHeadRun.getT s)
theorem ob_eq (s : SharedT) : ob s = hk.obs s.abs := KW.obsY_eq (HandSHeadRun.getT_eq s)
abbrev RunP (os : OsState) (w : World) : Prop := (HandSHeadRun.endF (HandSHeadRun.stepQ (HandSHeadRun.denQ HandSHeadRun.tabQ) R.prog w) 6000 R.prog w os).map (fun s => (HandSHeadRun.looksF R.prog (boot_heap w.params) s.abs, HandSHeadRun.seenQ qv names (importedModules R.prog.main.body) (fun s => xlAt qv [] s && recOk R.toRowW.records s) s.abs, ob s)) = some (true, openGood qv names, hk.val w)
theorem run_f (os : OsState) (w : World) : RunP os (w.withFollow "special-get-raises" false) := by kernel_rfl
theorem run_t (os : OsState) (w : World) : RunP os (w.withFollow "special-get-raises" true) := by kernel_rfl
theorem run (w : World) : HandSHeadRun.RunEq R qv hk ob 6000 names w := by
  intro os
  exact byRow2 "special-get-raises" (P := RunP os) (run_f os) (run_t os) w
end KH

/-! part KRep -/
set_option maxHeartbeats 4000000
namespace KW
open PySem PySem.Spec PyProof.Rows L2 KM
/-! ### data of tuples alone, as it stands in the heap -/
mutual
inductive Tp (K : PySem.W.Frag) (H : Hp) : V → PyData → Prop
  | non : Tp K H .non .none
  | bl (b : Bool) : Tp K H (.bl b) (.bool b)
  | int (i : Int) : Tp K H (.int i) (.int i)
  | str (x : Str) : Tp K H (.str x) (.str x)
  | tup {a : Addr} {xs : List V} {ds : List PyData} (h : SqT K H a xs) (q : TpAll K H xs ds) : Tp K H (.ref a) (.tuple ds)
inductive TpAll (K : PySem.W.Frag) (H : Hp) : List V → List PyData → Prop
  | nil : TpAll K H [] []
  | cons {v : V} {vs : List V} {d : PyData} {ds : List PyData} (h : Tp K H v d) (q : TpAll K H vs ds) : TpAll K H (v :: vs) (d :: ds)
end
/-- tuples stand -/
def TM (H H' : Hp) : Prop := ∀ a xs, Rd H a (.tup xs) → Rd H' a (.tup xs)
theorem TM.refl (H : Hp) : TM H H := fun _ _ h => h
theorem TM.trans {H H1 H2 : Hp} (a : TM H H1) (b : TM H1 H2) : TM H H2 := fun x xs h => b x xs (a x xs h)
theorem TM.upd {H : Hp} {p : Addr} {o : HO} (n : ∀ xs, ¬ Rd H p (.tup xs)) : TM H (upd H p o) := fun a xs h => by
  have e : a ≠ p := fun z => n xs (z ▸ h)
  rcases h with h | ⟨ob, h⟩
  · exact .inl (by rw [upd_ne e]; exact h)
  · exact .inr ⟨ob, by rw [upd_ne e]; exact h⟩
theorem TM.new {H : Hp} {p : Addr} {o : HO} (n : H p = none) : TM H (L2.upd H p o) := TM.upd fun xs h => by
  rcases h with h | ⟨ob, h⟩ <;> (rw [n] at h; cases h)
theorem TM.lst {H : Hp} {p : Addr} {o : HO} {ys : List V} (n : H p = some (.lst ys)) : TM H (L2.upd H p o) := TM.upd fun xs h => by
  rcases h with h | ⟨ob, h⟩ <;> (rw [n] at h; cases h)
theorem TM.ins {H : Hp} {p C dx : Addr} {o : HO} {fs : List (Str × V)} (n : H p = some (.ins C dx fs)) : TM H (L2.upd H p o) := TM.upd fun xs h => by
  rcases h with h | ⟨ob, h⟩ <;> (rw [n] at h; cases h)
theorem TM.same {H H' : Hp} (s : Same H H') : TM H H' := fun a xs h => by
  rcases h with h | ⟨ob, h⟩
  · exact .inl (s _ _ h)
  · exact .inr ⟨ob, s _ _ h⟩
theorem sqT_mono {K : PySem.W.Frag} {H H' : Hp} {a : Addr} {xs : List V} (m : TM H H') (h : SqT K H a xs) : SqT K H' a xs := by
  rcases h with h | h
  · exact .inl (m _ _ h)
  · exact .inr h
mutual
theorem Tp.mono {K : PySem.W.Frag} {H H' : Hp} (m : TM H H') : ∀ {v : V} {d : PyData}, Tp K H v d → Tp K H' v d
  | _, _, .non => .non
  | _, _, .bl b => .bl b
  | _, _, .int i => .int i
  | _, _, .str x => .str x
  | _, _, .tup h q => .tup (sqT_mono m h) (TpAll.mono m q)
theorem TpAll.mono {K : PySem.W.Frag} {H H' : Hp} (m : TM H H') : ∀ {vs : List V} {ds : List PyData}, TpAll K H vs ds → TpAll K H' vs ds
  | _, _, .nil => .nil
  | _, _, .cons h q => .cons (Tp.mono m h) (TpAll.mono m q)
end
mutual
theorem Tp.dp {K : PySem.W.Frag} {H : Hp} : ∀ {v : V} {d : PyData}, Tp K H v d → Dp K H v d
  | _, _, .non => .non
  | _, _, .bl b => .bl b
  | _, _, .int i => .int i
  | _, _, .str x => .str x
  | _, _, .tup h q => .tup h (TpAll.dp q)
theorem TpAll.dp {K : PySem.W.Frag} {H : Hp} : ∀ {vs : List V} {ds : List PyData}, TpAll K H vs ds → DpAll K H vs ds
  | _, _, .nil => .nil
  | _, _, .cons h q => .cons (Tp.dp h) (TpAll.dp q)
end
section
variable {K : PySem.W.Frag} {H : Hp} {v : V} {vs ws : List V} {d : PyData} {ds es : List PyData}
theorem Tp.str_inv {x : Str} (h : Tp K H v (.str x)) : v = .str x := by cases h; rfl
theorem Tp.int_inv {i : Int} (h : Tp K H v (.int i)) : v = .int i := by cases h; rfl
theorem Tp.bl_inv {b : Bool} (h : Tp K H v (.bool b)) : v = .bl b := by cases h; rfl
theorem Tp.tup_inv (h : Tp K H v (.tuple ds)) : ∃ a xs, v = .ref a ∧ SqT K H a xs ∧ TpAll K H xs ds := by
  cases h with
  | tup h q => exact ⟨_, _, rfl, h, q⟩
theorem TpAll.nil_inv (h : TpAll K H vs []) : vs = [] := by cases h; rfl
theorem TpAll.cons_inv (h : TpAll K H vs (d :: ds)) : ∃ v ws, vs = v :: ws ∧ Tp K H v d ∧ TpAll K H ws ds := by
  cases h with
  | cons h q => exact ⟨_, _, rfl, h, q⟩
theorem TpAll.len : ∀ {vs : List V} {ds : List PyData}, TpAll K H vs ds → vs.length = ds.length
  | _, _, .nil => rfl
  | _, _, .cons _ q => by rw [List.length_cons, List.length_cons, TpAll.len q]
theorem TpAll.app : ∀ {vs ws : List V} {ds es : List PyData}, TpAll K H vs ds → TpAll K H ws es → TpAll K H (vs ++ ws) (ds ++ es)
  | _, _, _, _, .nil, q => q
  | _, _, _, _, .cons h r, q => .cons h (TpAll.app r q)
theorem TpAll.one (h : Tp K H v d) : TpAll K H [v] [d] := .cons h .nil
theorem TpAll.two {v' : V} {d' : PyData} (h : Tp K H v d) (h' : Tp K H v' d') : TpAll K H [v, v'] [d, d'] := .cons h (.cons h' .nil)
theorem TpAll.three {v' v2 : V} {d' d2 : PyData} (h : Tp K H v d) (h' : Tp K H v' d') (h2 : Tp K H v2 d2) : TpAll K H [v, v', v2] [d, d', d2] := .cons h (.cons h' (.cons h2 .nil))
theorem TpAll.four {v' v2 v3 : V} {d' d2 d3 : PyData} (h : Tp K H v d) (h' : Tp K H v' d') (h2 : Tp K H v2 d2) (h3 : Tp K H v3 d3) : TpAll K H [v, v', v2, v3] [d, d', d2, d3] := .cons h (.cons h' (.cons h2 (.cons h3 .nil)))
theorem TpAll.split : ∀ {ds es : List PyData} {vs : List V}, TpAll K H vs (ds ++ es) → ∃ xs ys, vs = xs ++ ys ∧ TpAll K H xs ds ∧ TpAll K H ys es
  | [], es, vs, h => ⟨[], vs, rfl, .nil, h⟩
  | d :: ds, es, vs, h => by
    obtain ⟨v, ws, rfl, h1, h2⟩ := TpAll.cons_inv (show TpAll K H vs (d :: (ds ++ es)) from h)
    obtain ⟨xs, ys, rfl, q1, q2⟩ := TpAll.split h2
    exact ⟨v :: xs, ys, rfl, .cons h1 q1, q2⟩
theorem TpAll.get : ∀ {vs : List V} {ds : List PyData} {i : Nat} {d : PyData}, TpAll K H vs ds → ds[i]? = some d → ∃ v, vs[i]? = some v ∧ Tp K H v d
  | _, _, i, d, .nil, e => by simp at e
  | _, _, 0, d, .cons h _, e => by simp at e; subst e; exact ⟨_, rfl, h⟩
  | _, _, i + 1, d, .cons _ q, e => by
    obtain ⟨v, h1, h2⟩ := TpAll.get (i := i) (d := d) q (by simpa using e)
    exact ⟨v, by simpa using h1, h2⟩
theorem TpAll.take : ∀ (n : Nat) {vs : List V} {ds : List PyData}, TpAll K H vs ds → TpAll K H (vs.take n) (ds.take n)
  | 0, _, _, _ => .nil
  | n + 1, _, _, .nil => .nil
  | n + 1, _, _, .cons h q => .cons h (TpAll.take n q)
theorem TpAll.drop : ∀ (n : Nat) {vs : List V} {ds : List PyData}, TpAll K H vs ds → TpAll K H (vs.drop n) (ds.drop n)
  | 0, _, _, q => q
  | n + 1, _, _, .nil => .nil
  | n + 1, _, _, .cons _ q => TpAll.drop n q
theorem TpAll.rev : ∀ {vs : List V} {ds : List PyData}, TpAll K H vs ds → TpAll K H vs.reverse ds.reverse
  | _, _, .nil => .nil
  | _, _, .cons h q => by
    rw [List.reverse_cons, List.reverse_cons]
    exact (TpAll.rev q).app (.one h)
/-- the last one -/
theorem TpAll.snoc_inv (h : TpAll K H vs (ds ++ [d])) : ∃ xs v, vs = xs ++ [v] ∧ TpAll K H xs ds ∧ Tp K H v d := by
  obtain ⟨xs, ys, rfl, h1, h2⟩ := h.split
  obtain ⟨v, ws, rfl, h3, h4⟩ := h2.cons_inv
  cases h4.nil_inv
  exact ⟨xs, v, rfl, h1, h3⟩
theorem tp_tup {a : Addr} {xs : List V} (h : H a = some (.tup xs)) (q : TpAll K H xs ds) : Tp K H (.ref a) (.tuple ds) := .tup (.of h) q
/-- a tuple just made -/
theorem tp_new {p : Addr} {xs : List V} (hp : H p = none) (q : TpAll K H xs ds) : Tp K (upd H p (.tup xs)) (.ref p) (.tuple ds) := .tup (.of upd_same) (q.mono (TM.new hp))
end
theorem same_new {H : Hp} {p : Addr} {o : HO} (n : H p = none) : Same H (upd H p o) := fun b u e => by
  rw [upd_ne (ne_of_none e n)]
  exact e

/-! ### the reader's fields -/
def rdF (w : Addr) (at' len : Int) (t m : Addr) (many : Int) : List (Str × V) := [("words", .ref w), ("at", .int at'), ("length", .int len), ("todo", .ref t), ("made", .ref m), ("many", .int many)]
def fieldN : List Str := ["words", "at", "length", "todo", "made", "many"]
theorem lk_hit {f : Str} {v : V} {l : List (Str × V)} : List.lookup f ((f, v) :: l) = some v := by simp [List.lookup]
theorem lk_miss {f g : Str} {v : V} {l : List (Str × V)} (h : ¬ f = g) : List.lookup f ((g, v) :: l) = List.lookup f l := by
  have e : (f == g) = false := by simpa using h
  simp [List.lookup, e]
theorem pu_hit {f : Str} {v x : V} {l : List (Str × V)} : putF f v ((f, x) :: l) = (f, v) :: l := if_pos rfl
theorem pu_miss {f g : Str} {v x : V} {l : List (Str × V)} (h : ¬ g = f) : putF f v ((g, x) :: l) = (g, x) :: putF f v l := if_neg h
section
variable {w t m t' m' : Addr} {a len many b : Int}
theorem rd_words : (rdF w a len t m many).lookup ("words" : Str) = some (.ref w) := lk_hit
theorem rd_at : (rdF w a len t m many).lookup ("at" : Str) = some (.int a) := by
  unfold rdF
  rw [lk_miss (by decide +kernel), lk_hit]
theorem rd_length : (rdF w a len t m many).lookup ("length" : Str) = some (.int len) := by
  unfold rdF
  rw [lk_miss (by decide +kernel), lk_miss (by decide +kernel), lk_hit]
theorem rd_todo : (rdF w a len t m many).lookup ("todo" : Str) = some (.ref t) := by
  unfold rdF
  rw [lk_miss (by decide +kernel), lk_miss (by decide +kernel), lk_miss (by decide +kernel), lk_hit]
theorem rd_made : (rdF w a len t m many).lookup ("made" : Str) = some (.ref m) := by
  unfold rdF
  rw [lk_miss (by decide +kernel), lk_miss (by decide +kernel), lk_miss (by decide +kernel), lk_miss (by decide +kernel), lk_hit]
theorem rd_many : (rdF w a len t m many).lookup ("many" : Str) = some (.int many) := by
  unfold rdF
  rw [lk_miss (by decide +kernel), lk_miss (by decide +kernel), lk_miss (by decide +kernel), lk_miss (by decide +kernel), lk_miss (by decide +kernel), lk_hit]
theorem rd_none {f : Str} (h : ¬ f ∈ fieldN := by decide +kernel) : (rdF w a len t m many).lookup f = none := by
  unfold fieldN at h
  simp only [List.mem_cons, not_or] at h
  obtain ⟨h1, h2, h3, h4, h5, h6, _⟩ := h
  unfold rdF
  rw [lk_miss h1, lk_miss h2, lk_miss h3, lk_miss h4, lk_miss h5, lk_miss h6] <;> rfl
theorem pu_at : putF "at" (.int b) (rdF w a len t m many) = rdF w b len t m many := by
  unfold rdF
  rw [pu_miss (by decide +kernel), pu_hit]
theorem pu_made : putF "made" (.ref m') (rdF w a len t m many) = rdF w a len t m' many := by
  unfold rdF
  rw [pu_miss (by decide +kernel), pu_miss (by decide +kernel), pu_miss (by decide +kernel), pu_miss (by decide +kernel), pu_hit]
theorem pu_many : putF "many" (.int b) (rdF w a len t m many) = rdF w a len t m b := by
  unfold rdF
  rw [pu_miss (by decide +kernel), pu_miss (by decide +kernel), pu_miss (by decide +kernel), pu_miss (by decide +kernel), pu_miss (by decide +kernel), pu_hit]
theorem rd_len : (rdF w a len t m many).length < 1000 := by
  show 6 < 1000
  decide
end
section
variable {K : PySem.W.Frag} {mg : Str → Option Value} {wd : World} {H : Hp} {r dx w t m : Addr} {a len many : Int} {Q : V → Prop}
/-- a field read -/
theorem fl_words (T : Txt K mg wd) (e : H r = some (.ins (CR K) dx (rdF w a len t m many))) (q : Q (.ref w)) : ∃ (p C d : Addr) (fs : List (Str × V)) (v : V), V.ref r = .ref p ∧ H p = some (.ins C d fs) ∧ Cls K C ∧ NoAttr K C "words" ∧ fs.lookup ("words" : Str) = some v ∧ Q v := ⟨r, _, _, _, _, rfl, e, T.cl, T.n_words, rd_words, q⟩
theorem fl_at (T : Txt K mg wd) (e : H r = some (.ins (CR K) dx (rdF w a len t m many))) (q : Q (.int a)) : ∃ (p C d : Addr) (fs : List (Str × V)) (v : V), V.ref r = .ref p ∧ H p = some (.ins C d fs) ∧ Cls K C ∧ NoAttr K C "at" ∧ fs.lookup ("at" : Str) = some v ∧ Q v := ⟨r, _, _, _, _, rfl, e, T.cl, T.n_at, rd_at, q⟩
theorem fl_length (T : Txt K mg wd) (e : H r = some (.ins (CR K) dx (rdF w a len t m many))) (q : Q (.int len)) : ∃ (p C d : Addr) (fs : List (Str × V)) (v : V), V.ref r = .ref p ∧ H p = some (.ins C d fs) ∧ Cls K C ∧ NoAttr K C "length" ∧ fs.lookup ("length" : Str) = some v ∧ Q v := ⟨r, _, _, _, _, rfl, e, T.cl, T.n_length, rd_length, q⟩
theorem fl_todo (T : Txt K mg wd) (e : H r = some (.ins (CR K) dx (rdF w a len t m many))) (q : Q (.ref t)) : ∃ (p C d : Addr) (fs : List (Str × V)) (v : V), V.ref r = .ref p ∧ H p = some (.ins C d fs) ∧ Cls K C ∧ NoAttr K C "todo" ∧ fs.lookup ("todo" : Str) = some v ∧ Q v := ⟨r, _, _, _, _, rfl, e, T.cl, T.n_todo, rd_todo, q⟩
theorem fl_made (T : Txt K mg wd) (e : H r = some (.ins (CR K) dx (rdF w a len t m many))) (q : Q (.ref m)) : ∃ (p C d : Addr) (fs : List (Str × V)) (v : V), V.ref r = .ref p ∧ H p = some (.ins C d fs) ∧ Cls K C ∧ NoAttr K C "made" ∧ fs.lookup ("made" : Str) = some v ∧ Q v := ⟨r, _, _, _, _, rfl, e, T.cl, T.n_made, rd_made, q⟩
theorem fl_many (T : Txt K mg wd) (e : H r = some (.ins (CR K) dx (rdF w a len t m many))) (q : Q (.int many)) : ∃ (p C d : Addr) (fs : List (Str × V)) (v : V), V.ref r = .ref p ∧ H p = some (.ins C d fs) ∧ Cls K C ∧ NoAttr K C "many" ∧ fs.lookup ("many" : Str) = some v ∧ Q v := ⟨r, _, _, _, _, rfl, e, T.cl, T.n_many, rd_many, q⟩
/-- a field stored -/
theorem st_at {z : Int} {G : Hp → Prop} (T : Txt K mg wd) (e : H r = some (.ins (CR K) dx (rdF w a len t m many))) (q : G (upd H r (.ins (CR K) dx (rdF w z len t m many)))) : ∃ (p C d : Addr) (fs : List (Str × V)), V.ref r = .ref p ∧ H p = some (.ins C d fs) ∧ Cls K C ∧ NoAttr K C "at" ∧ fs.length < 1000 ∧ G (upd H p (.ins C d (putF "at" (.int z) fs))) :=
  ⟨r, _, _, _, rfl, e, T.cl, T.n_at, rd_len, by rw [pu_at]; exact q⟩
theorem st_made {z : Addr} {G : Hp → Prop} (T : Txt K mg wd) (e : H r = some (.ins (CR K) dx (rdF w a len t m many))) (q : G (upd H r (.ins (CR K) dx (rdF w a len t z many)))) : ∃ (p C d : Addr) (fs : List (Str × V)), V.ref r = .ref p ∧ H p = some (.ins C d fs) ∧ Cls K C ∧ NoAttr K C "made" ∧ fs.length < 1000 ∧ G (upd H p (.ins C d (putF "made" (.ref z) fs))) :=
  ⟨r, _, _, _, rfl, e, T.cl, T.n_made, rd_len, by rw [pu_made]; exact q⟩
theorem st_many {z : Int} {G : Hp → Prop} (T : Txt K mg wd) (e : H r = some (.ins (CR K) dx (rdF w a len t m many))) (q : G (upd H r (.ins (CR K) dx (rdF w a len t m z)))) : ∃ (p C d : Addr) (fs : List (Str × V)), V.ref r = .ref p ∧ H p = some (.ins C d fs) ∧ Cls K C ∧ NoAttr K C "many" ∧ fs.length < 1000 ∧ G (upd H p (.ins C d (putF "many" (.int z) fs))) :=
  ⟨r, _, _, _, rfl, e, T.cl, T.n_many, rd_len, by rw [pu_many]; exact q⟩
end

/-! ### a reader in the heap -/
structure Rp (K : PySem.W.Frag) (r : Addr) (H : Hp) (len : Nat) (S : PS) (t m : Addr) : Prop where
  ex : ∃ (dx w : Addr) (at' : Nat) (wv : List V) (ws : List PW) (tv mv : List V), H r = some (.ins (CR K) dx (rdF w at' len t m S.many)) ∧
    H w = some (.lst wv) ∧ TpAll K H wv (ws.map PW.toD) ∧ ws.drop at' = S.rest ∧ at' ≤ ws.length ∧ wv.length ≤ 1000000 ∧
    H t = some (.lst tv) ∧ TpAll K H tv (S.todo.map Tk.toD).reverse ∧ H m = some (.lst mv) ∧ TpAll K H mv (S.made.map Md.toD).reverse ∧ t ≠ m ∧ w ≠ t ∧ w ≠ m
  wok : ∀ p ∈ S.rest, p.w.val.canLay0 = true
/-- a is the reader's list of words -/
def Wl (r : Addr) (H : Hp) (a : Addr) : Prop := ∃ (C dx : Addr) (i l : Int) (t m : Addr) (k : Int), H r = some (.ins C dx (rdF a i l t m k))
def Hs (r t m : Addr) (H : Hp) : Prop := (∃ C dx fs, H r = some (.ins C dx fs)) ∧ (∃ xs, H t = some (.lst xs)) ∧ ∃ xs, H m = some (.lst xs)
theorem Hs.rt {r t m : Addr} {H : Hp} (h : Hs r t m H) : r ≠ t ∧ r ≠ m := by
  obtain ⟨⟨_, _, _, h1⟩, ⟨_, h2⟩, ⟨_, h3⟩⟩ := h
  exact ⟨ne_of h1 h2 (by intro z; cases z), ne_of h1 h3 (by intro z; cases z)⟩
/-- all but the reader, its tasks and what it read stands -/
structure Go (r t m : Addr) (H : Hp) (m' : Addr) (H' : Hp) : Prop where
  keep : ∀ a o, H a = some o → a ≠ r → a ≠ t → a ≠ m → H' a = some o
  fr : m' = m ∨ H m' = none
  wd : Hs r t m H → ∀ a, Wl r H' a → Wl r H a
def GoE (r t m : Addr) (H H' : Hp) : Prop := ∀ a o, H a = some o → a ≠ r → a ≠ t → a ≠ m → H' a = some o
theorem Go.refl {r t m : Addr} {H : Hp} : Go r t m H m H := ⟨fun _ _ e _ _ _ => e, .inl rfl, fun _ _ h => h⟩
theorem Rp.hs {K : PySem.W.Frag} {r t m : Addr} {H : Hp} {len : Nat} {S : PS} (R : Rp K r H len S t m) : Hs r t m H := by
  obtain ⟨dx, w, at', wv, ws, tv, mv, hR, hw, hW, hrest, hat, hwl, ht, hT, hm, hM, _⟩ := R.ex
  exact ⟨⟨_, _, _, hR⟩, ⟨_, ht⟩, ⟨_, hm⟩⟩
theorem Rp.r_some {K : PySem.W.Frag} {r t m : Addr} {H : Hp} {len : Nat} {S : PS} (R : Rp K r H len S t m) : ∃ o, H r = some o := by
  obtain ⟨_, _, _, _, _, _, _, h, _⟩ := R.ex
  exact ⟨_, h⟩
theorem Rp.t_some {K : PySem.W.Frag} {r t m : Addr} {H : Hp} {len : Nat} {S : PS} (R : Rp K r H len S t m) : ∃ o, H t = some o := by
  obtain ⟨_, _, _, _, _, _, _, _, _, _, _, _, _, h, _⟩ := R.ex
  exact ⟨_, h⟩
theorem wl_same {r : Addr} {H H' : Hp} (s : Same H H') (h : ∃ o, H r = some o) (a : Addr) (q : Wl r H' a) : Wl r H a := by
  obtain ⟨o, h⟩ := h
  obtain ⟨C, dx, i, l, t, m, k, q⟩ := q
  rw [s _ _ h] at q
  exact ⟨C, dx, i, l, t, m, k, h.trans q⟩
theorem Go.trans {K : PySem.W.Frag} {r t m m1 m2 : Addr} {H H1 H2 : Hp} {len : Nat} {S : PS} (a : Go r t m H m1 H1) (b : Go r t m1 H1 m2 H2) (R : Rp K r H1 len S t m1) : Go r t m H m2 H2 := by
  refine ⟨fun x o e n1 n2 n3 => b.keep x o (a.keep x o e n1 n2 n3) n1 n2 fun z => ?_, ?_, ?_⟩
  · rcases a.fr with q | q
    · exact n3 (z.trans q)
    · rw [z, q] at e; cases e
  · rcases b.fr with q | q
    · rw [q]; exact a.fr
    · by_cases z : m2 = m
      · exact .inl z
      · refine .inr ?_
        cases e : H m2 with
        | none => rfl
        | some o =>
          have z1 : m2 ≠ r := fun y => by
            obtain ⟨u, hu⟩ := R.r_some
            rw [← y, q] at hu; cases hu
          have z2 : m2 ≠ t := fun y => by
            obtain ⟨u, hu⟩ := R.t_some
            rw [← y, q] at hu; cases hu
          have := a.keep m2 o e z1 z2 z
          rw [q] at this; cases this
  · exact fun hs x h => a.wd hs x (b.wd R.hs x h)
theorem Go.e {K : PySem.W.Frag} {r t m m1 : Addr} {H H1 H2 : Hp} (a : Go r t m H m1 H1) (b : GoE r t m1 H1 H2) : GoE r t m H H2 := fun x o e n1 n2 n3 => b x o (a.keep x o e n1 n2 n3) n1 n2 fun z => by
  rcases a.fr with q | q
  · exact n3 (z.trans q)
  · rw [z, q] at e; cases e
theorem Go.same {r t m : Addr} {H H' : Hp} (s : Same H H') : Go r t m H m H' := ⟨fun a o e _ _ _ => s a o e, .inl rfl, fun hs => by obtain ⟨⟨_, _, _, h⟩, _⟩ := hs; exact wl_same s ⟨_, h⟩⟩
/-- what is wanted behind a method that steps or refuses -/
def Out (K : PySem.W.Frag) (r t m : Addr) (len : Nat) (H : Hp) (Q : VK) (E : XK) (x : Rs) : Prop := match x with
  | .ok S => ∀ H' m', Go r t m H m' H' → Rp K r H' len S t m' → Q .non H'
  | .err p => ∀ H' d, GoE r t m H H' → H' d = some (.xd [("at", .int (p : Nat))]) → E (.ref (CB K)) (some d) H'
  | .stuck => False
theorem Out.shift {K : PySem.W.Frag} {r t m m1 : Addr} {len len1 : Nat} {H H1 : Hp} {Q : VK} {E : XK} {x : Rs} {S : PS} (o : Out K r t m len H Q E x) (g : Go r t m H m1 H1) (R : Rp K r H1 len1 S t m1) : Out K r t m1 len H1 Q E x := by
  cases x with
  | ok S => exact fun H' m' g' R' => o H' m' (g.trans g' R) R'
  | err p => exact fun H' d g' e => o H' d (g.e (K := K) g') e
  | stuck => exact o.elim

section
variable {K : PySem.W.Frag} {r t m m' : Addr} {H H' : Hp} {len : Nat} {S : PS}
theorem Rp.same (R : Rp K r H len S t m) (s : Same H H') : Rp K r H' len S t m := by
  obtain ⟨⟨dx, w, at', wv, ws, tv, mv, hR, hw, hW, hrest, hat, hwl, ht, hT, hm, hM, ne1, ne2, ne3⟩, ok⟩ := R
  have M := TM.same s
  exact ⟨⟨dx, w, at', wv, ws, tv, mv, s _ _ hR, s _ _ hw, hW.mono M, hrest, hat, hwl, s _ _ ht, hT.mono M, s _ _ hm, hM.mono M, ne1, ne2, ne3⟩, ok⟩
/-- the tuples stand behind a step -/
theorem Rp.tm (R : Rp K r H len S t m) (g : Go r t m H m' H') : TM H H' := by
  obtain ⟨dx, w, at', wv, ws, tv, mv, hR, hw, hW, hrest, hat, hwl, ht, hT, hm, hM, ne1, ne2, ne3⟩ := R.ex
  intro a xs h
  have nr : a ≠ r := fun z => by
    rcases h with h | ⟨o, h⟩ <;> (rw [z, hR] at h; cases h)
  have nt : a ≠ t := fun z => by
    rcases h with h | ⟨o, h⟩ <;> (rw [z, ht] at h; cases h)
  have nm : a ≠ m := fun z => by
    rcases h with h | ⟨o, h⟩ <;> (rw [z, hm] at h; cases h)
  rcases h with h | ⟨o, h⟩
  · exact .inl (g.keep _ _ h nr nt nm)
  · exact .inr ⟨o, g.keep _ _ h nr nt nm⟩
theorem Rp.ins_ (R : Rp K r H len S t m) : ∃ (dx w : Addr) (at' : Nat), H r = some (.ins (CR K) dx (rdF w at' len t m S.many)) := by
  obtain ⟨dx, w, at', _, _, _, _, hR, _⟩ := R.ex
  exact ⟨dx, w, at', hR⟩
theorem Rp.todo_ (R : Rp K r H len S t m) : ∃ tv, H t = some (.lst tv) ∧ TpAll K H tv (S.todo.map Tk.toD).reverse := by
  obtain ⟨dx, w, at', wv, ws, tv, mv, hR, hw, hW, hrest, hat, hwl, ht, hT, _⟩ := R.ex
  exact ⟨tv, ht, hT⟩
theorem Rp.made_ (R : Rp K r H len S t m) : ∃ mv, H m = some (.lst mv) ∧ TpAll K H mv (S.made.map Md.toD).reverse := by
  obtain ⟨dx, w, at', wv, ws, tv, mv, hR, hw, hW, hrest, hat, hwl, ht, hT, hm, hM, _⟩ := R.ex
  exact ⟨mv, hm, hM⟩
theorem Go.upd_r {C dx C' dx' w t0 m0 t1 m1 : Addr} {a l k a' l' k' : Int} (h : H r = some (.ins C dx (rdF w a l t0 m0 k)) := by assumption) : Go r t m H m (upd H r (.ins C' dx' (rdF w a' l' t1 m1 k'))) :=
  ⟨fun a u e n _ _ => by rw [upd_ne n]; exact e, .inl rfl, fun _ x q => by
    obtain ⟨C2, dx2, i, l, t, m, k, q⟩ := q
    rw [upd_same] at q
    injection q with q
    injection q with _ _ q
    unfold rdF at q
    injection q with q _
    injection q with _ q
    injection q with q
    exact ⟨C, dx, _, _, _, _, _, by rw [← q]; exact h⟩⟩
theorem Go.upd_t {o : HO} : Go r t m H m (upd H t o) := ⟨fun a u e _ n _ => by rw [upd_ne n]; exact e, .inl rfl, fun hs x q => by
  obtain ⟨C2, dx2, i, l, t, m, k, q⟩ := q
  rw [upd_ne hs.rt.1] at q
  exact ⟨_, _, _, _, _, _, _, q⟩⟩
theorem Go.upd_m {o : HO} : Go r t m H m (upd H m o) := ⟨fun a u e _ _ n => by rw [upd_ne n]; exact e, .inl rfl, fun hs x q => by
  obtain ⟨C2, dx2, i, l, t, m, k, q⟩ := q
  rw [upd_ne hs.rt.2] at q
  exact ⟨_, _, _, _, _, _, _, q⟩⟩
/-- a list of the caller's own, changed -/
theorem Go.mut {f : Addr} {o : HO} (g : Go r t m H m' H') (R : Rp K r H len S t m) (hf : H f = none) : Go r t m H m' (upd H' f o) := ⟨fun a u e n1 n2 n3 => by
  rw [upd_ne (ne_of_none e hf)]
  exact g.keep a u e n1 n2 n3, g.fr, fun hs x q => by
    obtain ⟨C2, dx2, i, l, t, m, k, q⟩ := q
    obtain ⟨⟨_, _, _, h⟩, _⟩ := hs
    rw [upd_ne (ne_of_none h hf)] at q
    exact g.wd R.hs x ⟨_, _, _, _, _, _, _, q⟩⟩
theorem Go.nw {f : Addr} (g : Go r t m H m' H') (R : Rp K r H len S t m) (hf : H f = none) : ¬ Wl r H' f := fun q => by
  obtain ⟨C2, dx2, i, l, t2, m2, k, q⟩ := g.wd R.hs f q
  obtain ⟨dx, w, at', wv, ws, tv, mv, hR, hw, hW, hrest, hat, hwl, ht, hT, hm, hM, ne1, ne2, ne3⟩ := R.ex
  rw [hR] at q
  injection q with q
  injection q with _ _ q
  unfold rdF at q
  injection q with q _
  injection q with _ q
  injection q with q
  rw [q, hf] at hw
  cases hw
theorem Rp.mut {f : Addr} {fv fv' : List V} (R : Rp K r H len S t m) (hf : H f = some (.lst fv)) (n1 : f ≠ t) (n2 : f ≠ m) (n3 : ¬ Wl r H f) : Rp K r (upd H f (.lst fv')) len S t m := by
  obtain ⟨⟨dx, w, at', wv, ws, tv, mv, hR, hw, hW, hrest, hat, hwl, ht, hT, hm, hM, ne1, ne2, ne3⟩, ok⟩ := R
  have M : TM H (upd H f (.lst fv')) := TM.lst hf
  have nw : w ≠ f := fun z => n3 ⟨_, _, _, _, _, _, _, by rw [← z]; exact hR⟩
  exact ⟨⟨dx, w, at', wv, ws, tv, mv, by rw [upd_ne (ne_of hR hf (by intro z; cases z))]; exact hR, by rw [upd_ne nw]; exact hw, hW.mono M, hrest, hat, hwl, by rw [upd_ne n1.symm]; exact ht, hT.mono M, by rw [upd_ne n2.symm]; exact hm, hM.mono M, ne1, ne2, ne3⟩, ok⟩
theorem Rp.set_todo (R : Rp K r H len S t m) {tv' : List V} {td : List Tk} (q : TpAll K H tv' (td.map Tk.toD).reverse) : Rp K r (upd H t (.lst tv')) len { S with todo := td } t m := by
  obtain ⟨⟨dx, w, at', wv, ws, tv, mv, hR, hw, hW, hrest, hat, hwl, ht, hT, hm, hM, ne1, ne2, ne3⟩, ok⟩ := R
  have M : TM H (upd H t (.lst tv')) := TM.lst ht
  have nr : r ≠ t := ne_of hR ht (by intro z; cases z)
  exact ⟨⟨dx, w, at', wv, ws, tv', mv, by rw [upd_ne nr]; exact hR, by rw [upd_ne ne2]; exact hw, hW.mono M, hrest, hat, hwl, upd_same, q.mono M, by rw [upd_ne ne1.symm]; exact hm, hM.mono M, ne1, ne2, ne3⟩, ok⟩
theorem Rp.set_made (R : Rp K r H len S t m) {mv' : List V} {md : List Md} (q : TpAll K H mv' (md.map Md.toD).reverse) : Rp K r (upd H m (.lst mv')) len { S with made := md } t m := by
  obtain ⟨⟨dx, w, at', wv, ws, tv, mv, hR, hw, hW, hrest, hat, hwl, ht, hT, hm, hM, ne1, ne2, ne3⟩, ok⟩ := R
  have M : TM H (upd H m (.lst mv')) := TM.lst hm
  have nr : r ≠ m := ne_of hR hm (by intro z; cases z)
  exact ⟨⟨dx, w, at', wv, ws, tv, mv', by rw [upd_ne nr]; exact hR, by rw [upd_ne ne3]; exact hw, hW.mono M, hrest, hat, hwl, by rw [upd_ne ne1]; exact ht, hT.mono M, upd_same, q.mono M, ne1, ne2, ne3⟩, ok⟩
/-- self.made = a new list -/
theorem Rp.new_made {m2 dx w : Addr} {at' : Nat} (R : Rp K r H len S t m) (hR : H r = some (.ins (CR K) dx (rdF w at' len t m S.many))) {mv' : List V} {md : List Md} (h2 : H m2 = some (.lst mv')) (q : TpAll K H mv' (md.map Md.toD).reverse) (n1 : t ≠ m2) (n2 : w ≠ m2) :
    Rp K r (upd H r (.ins (CR K) dx (rdF w at' len t m2 S.many))) len { S with made := md } t m2 := by
  obtain ⟨⟨dx2, w2, at2, wv, ws, tv, mv, hR2, hw, hW, hrest, hat, hwl, ht, hT, hm, hM, ne1, ne2, ne3⟩, ok⟩ := R
  rw [hR] at hR2
  have M : TM H (upd H r (.ins (CR K) dx (rdF w at' len t m2 S.many))) := TM.ins hR
  have nrm : r ≠ m2 := ne_of hR h2 (by intro z; cases z)
  have nrt : r ≠ t := ne_of hR ht (by intro z; cases z)
  injection hR2 with e1
  injection e1 with _ e2 e3
  unfold rdF at e3
  injection e3 with e4 e5
  injection e4 with _ e6
  injection e6 with e6
  injection e5 with e7 e8
  injection e7 with _ e9
  injection e9 with e9
  subst e2
  subst e6
  have e10 : at' = at2 := by omega
  subst e10
  have nrw : r ≠ w := ne_of hR hw (by intro z; cases z)
  exact ⟨⟨dx, w, at', wv, ws, tv, mv', upd_same, by rw [upd_ne nrw.symm]; exact hw, hW.mono M, hrest, hat, hwl, by rw [upd_ne nrt.symm]; exact ht, hT.mono M, by rw [upd_ne nrm.symm]; exact h2, q.mono M, n1, ne2, n2⟩, ok⟩
/-- the words' list is none of the two others -/
theorem Rp.w_ne (R : Rp K r H len S t m) {dx w : Addr} {at' : Nat} (hR : H r = some (.ins (CR K) dx (rdF w at' len t m S.many))) : ∃ wv, H w = some (.lst wv) ∧ w ≠ t ∧ w ≠ m := by
  obtain ⟨⟨dx2, w2, at2, wv, ws, tv, mv, hR2, hw, hW, hrest, hat, hwl, ht, hT, hm, hM, ne1, ne2, ne3⟩, ok⟩ := R
  rw [hR] at hR2
  injection hR2 with e1
  injection e1 with _ e2 e3
  unfold rdF at e3
  injection e3 with e4 e5
  injection e4 with _ e6
  injection e6 with e6
  subst e6
  exact ⟨wv, hw, ne2, ne3⟩
theorem Rp.set_many {dx w : Addr} {at' : Nat} {z : Int} (R : Rp K r H len S t m) (hR : H r = some (.ins (CR K) dx (rdF w at' len t m S.many))) : Rp K r (upd H r (.ins (CR K) dx (rdF w at' len t m z))) len { S with many := z } t m := by
  obtain ⟨⟨dx2, w2, at2, wv, ws, tv, mv, hR2, hw, hW, hrest, hat, hwl, ht, hT, hm, hM, ne1, ne2, ne3⟩, ok⟩ := R
  rw [hR] at hR2
  have M : TM H (upd H r (.ins (CR K) dx (rdF w at' len t m z))) := TM.ins hR
  have nrm : r ≠ m := ne_of hR hm (by intro z; cases z)
  have nrt : r ≠ t := ne_of hR ht (by intro z; cases z)
  injection hR2 with e1
  injection e1 with _ e2 e3
  unfold rdF at e3
  injection e3 with e4 e5
  injection e4 with _ e6
  injection e6 with e6
  injection e5 with e7 e8
  injection e7 with _ e9
  injection e9 with e9
  subst e2
  subst e6
  have e10 : at' = at2 := by omega
  subst e10
  have nrw : r ≠ w := ne_of hR hw (by intro z; cases z)
  exact ⟨⟨dx, w, at', wv, ws, tv, mv, upd_same, by rw [upd_ne nrw.symm]; exact hw, hW.mono M, hrest, hat, hwl, by rw [upd_ne nrt.symm]; exact ht, hT.mono M, by rw [upd_ne nrm.symm]; exact hm, hM.mono M, ne1, ne2, ne3⟩, ok⟩
/-- behind the next word -/
theorem Rp.adv_ {dx w : Addr} {at' : Nat} (R : Rp K r H len S t m) (hR : H r = some (.ins (CR K) dx (rdF w at' len t m S.many))) (hne : S.rest ≠ []) :
    Rp K r (upd H r (.ins (CR K) dx (rdF w ((at' : Int) + 1) len t m S.many))) len S.adv t m ∧ ∃ wv v, H w = some (.lst wv) ∧ wv[at']? = some v ∧ Tp K H v (nowW len S.rest).toD := by
  obtain ⟨⟨dx2, w2, at2, wv, ws, tv, mv, hR2, hw, hW, hrest, hat, hwl, ht, hT, hm, hM, ne1, ne2, ne3⟩, ok⟩ := R
  rw [hR] at hR2
  have M : TM H (upd H r (.ins (CR K) dx (rdF w ((at' : Int) + 1) len t m S.many))) := TM.ins hR
  have nrm : r ≠ m := ne_of hR hm (by intro z; cases z)
  have nrt : r ≠ t := ne_of hR ht (by intro z; cases z)
  injection hR2 with e1
  injection e1 with _ e2 e3
  unfold rdF at e3
  injection e3 with e4 e5
  injection e4 with _ e6
  injection e6 with e6
  injection e5 with e7 e8
  injection e7 with _ e9
  injection e9 with e9
  subst e2
  subst e6
  have e10 : at' = at2 := by omega
  subst e10
  have nrw : r ≠ w := ne_of hR hw (by intro z; cases z)
  have hlt : at' < ws.length := by
    rcases Nat.lt_or_ge at' ws.length with z | z
    · exact z
    · rw [List.drop_eq_nil_of_le z] at hrest
      exact absurd hrest.symm hne
  have hd : ws.drop at' = ws[at'] :: ws.drop (at' + 1) := List.drop_eq_getElem_cons hlt
  have hn : nowW len S.rest = ws[at'] := by rw [← hrest, hd]; rfl
  have ht2 : ws.drop (at' + 1) = S.adv.rest := by
    show _ = S.rest.tail
    rw [← hrest, hd]; rfl
  obtain ⟨v, hv, tpv⟩ := hW.get (i := at') (d := ws[at'].toD) (by rw [List.getElem?_map, List.getElem?_eq_getElem hlt]; rfl)
  refine ⟨⟨⟨dx, w, at' + 1, wv, ws, tv, mv, upd_same, by rw [upd_ne nrw.symm]; exact hw, hW.mono M, ht2, hlt, hwl, by rw [upd_ne nrt.symm]; exact ht, hT.mono M, by rw [upd_ne nrm.symm]; exact hm, hM.mono M, ne1, ne2, ne3⟩, fun p hp => ok p (List.mem_of_mem_tail hp)⟩, wv, v, hw, hv, ?_⟩
  rw [hn]
  exact tpv
end
/-! ### words compared -/
section
variable {w : Wd} {x : Str} {n : Int}
theorem eqv_mark : PyData.eqv (.tuple [.str w.kind, w.val]) (.tuple [.str "mark", .str x]) = decide (w = .mark x) := by
  cases w <;> simp [PyData.eqv, PyData.eqvAll, Wd.kind, Wd.val] <;> first | (intro z; exact absurd z (by decide +kernel)) | exact Bool.beq_eq_decide_eq _ _
theorem eqv_told : PyData.eqv (.tuple [.str w.kind, w.val]) (.tuple [.str "told", .str x]) = decide (w = .told x) := by
  cases w <;> simp [PyData.eqv, PyData.eqvAll, Wd.kind, Wd.val] <;> first | (intro z; exact absurd z (by decide +kernel)) | exact Bool.beq_eq_decide_eq _ _
theorem eqv_var : PyData.eqv (.tuple [.str w.kind, w.val]) (.tuple [.str "var", .int n]) = decide (w = .var n) := by
  cases w <;> simp [PyData.eqv, PyData.eqvAll, Wd.kind, Wd.val] <;> first | (intro z; exact absurd z (by decide +kernel)) | exact Bool.beq_eq_decide_eq _ _
theorem strOk_kind : PyData.strOk w.kind = true := by cases w <;> (simp only [Wd.kind]; decide +kernel)
end
end KW

/-! part KStack -/
set_option maxHeartbeats 4000000
namespace KW
open PySem PySem.Spec PyProof.Rows L2 KM
section
variable {P : Program} {w : World} {K : PySem.W.Frag} {mg : Str → Option Value} {base : Heap}
/-! ### BadText -/
def spBinit (K : PySem.W.Frag) : Sp := fun vs H Q _ => ∃ (a : Addr) (v : V), vs = [.ref a, v] ∧ H a = some (exo a (CB K) none) ∧
  ∀ dx, H dx = none → dx ≠ a → Q .non (upd (upd H dx (exd dx [("at", v)])) a (exo a (CB K) (some dx)))
theorem ok_binit (T : Txt K mg w) : Good P w K mg base 1 (He.ma K (CB K) "__init__") ["self", "at"] (spBinit K) := by
  refine good_of T.f_binit sc_binit (fun _ _ _ _ _ _ us hl => match us, hl with | [_, _], _ => rfl) (fun vs H Q E h => ?_) (fun cdv A outer s H vs Q E hr h => ?_)
  · obtain ⟨_, _, rfl, _⟩ := h; rfl
  · obtain ⟨a, v, rfl, ha, k⟩ := h
    exact ⟨_, pss_one (ps_ost (pv 0) (pv 1)), _, rfl, _, rfl, a, CB K, rfl, T.oB, T.nB, .inl ⟨ha, k⟩⟩
theorem mk_bad {H1 : Hp} {v : V} {Q : XK} (h : ∀ d, H1 d = none → Q (.ref (CB K)) (some d) (upd H1 d (.xd [("at", v)]))) :
    [v].length ≤ 1000 ∧ ∀ a, H1 a = none → spBinit K (.ref a :: ([v] ++ [])) (upd H1 a (exo a (CB K) none))
      (fun u H2 => u = .non ∧ ∃ (d : Addr) (fs : List (Str × V)), H2 a = some (exo a (CB K) (some d)) ∧ H2 d = some (exd d fs) ∧ H1 d = none ∧ Q (.ref (CB K)) (some d) (upd (del H2 a) d (.xd fs))) (fun _ _ _ => False) := by
  refine ⟨by show 1 ≤ 1000; decide, fun a ha => ⟨a, v, rfl, upd_same, fun dx n ne => ⟨rfl, dx, _, upd_same, by rw [upd_ne ne, upd_same], ?_, ?_⟩⟩⟩
  · rw [upd_ne ne] at n; exact n
  · have n' : H1 dx = none := by rw [upd_ne ne] at n; exact n
    have e : upd (del (upd (upd (upd H1 a (exo a (CB K) none)) dx (exd dx [("at", v)])) a (exo a (CB K) (some dx))) a) dx (.xd [("at", v)]) = upd H1 dx (.xd [("at", v)]) := by
      funext b
      by_cases hb : b = dx
      · rw [hb, upd_same, upd_same]
      · rw [upd_ne hb, upd_ne hb]
        by_cases hb' : b = a
        · rw [hb', del_same, ha]
        · rw [del_ne hb', upd_ne hb', upd_ne hb, upd_ne hb']
    rw [e]
    exact h dx n'
theorem ps_bad {X : Cx} {W : WX} {e : Expr} {ta : TE} {p pos pos2 : Pos} (T : Txt X.K X.mg X.w) (hr : Room 2 X.A) (hc : X.calm = true) (tk : Takes X W) (he : PE X e ta) (hg : Gl X "BadText" := by rfl)
    (hs : starEach [e] X.env = (false, eval e X.env) :: starEach [] X.env := by rfl) (hpl : (backTo pos (starEach [] X.env)).any (·.1) = false := by rfl) :
    PS X (.Raise (some (.Call (.Name "BadText" p) [e] [] pos)) none pos2) (fun _ σ H => tMkO (CB X.K) (spBinit X.K) [] (tCons ta tNil) σ H fun cls d H' => W cls d σ H') := by
  obtain ⟨⟨fd, F, B⟩, kp⟩ := ok_binit (P := X.prog) (base := X.base) T
  exact ps_raise hc tk (pmk_oex T.oB T.iB T.tB F hr B .nil passL hg T.g_BadText (pa_cons he pa_nil hs) (by decide) hs hpl)
/-! ### now -/
def spNow (K : PySem.W.Frag) : Sp := fun vs H Q _ => ∃ (r t m : Addr) (len : Nat) (S : PS), vs = [.ref r] ∧ Rp K r H len S t m ∧
  ∀ H' p, Same H H' → Tp K H' (.ref p) (nowW len S.rest).toD → Q (.ref p) H'
theorem ok_now (T : Txt K mg w) : Good P w K mg base 1 (mR K "now") ["self"] (spNow K) := by
  refine good_of T.f_now sc_now (fun _ _ _ _ _ _ us hl => match us, hl with | [_], _ => rfl) (fun vs H Q E h => ?_) (fun cdv A outer s H vs Q E hr h => ?_)
  · obtain ⟨_, _, _, _, _, rfl, _⟩ := h; rfl
  · obtain ⟨r, t, m, len, S, rfl, R, k⟩ := h
    obtain ⟨dx, wd, at', wv, ws, tv, mv, hR, hw, hW, hrest, hat, hwl, ht, hT, hm, hM, ne1, ne2, ne3⟩ := R.ex
    refine ⟨_, pss_one (ps_ret (pe_ifExp (pt_cmpR op_lt (pe_fld (pv 0) rfl) (pe_callB call_len_seq (by rfl) T.z_len PySem.boot_len (pa_cons (pe_fld (pv 0) rfl) pa_nil)) (nomark _))
      (pe_ix ix_list (pe_fld (pv 0) rfl) (pe_fld (pv 0) rfl) (fun _ _ => rfl)) (pe_tup (pa_cons pe_str (pa_cons pe_str (pa_cons (pe_fld (pv 0) rfl) pa_nil)))))), ?_⟩
    refine ⟨_, rfl, fl_at T hR ?_⟩
    refine ⟨_, rfl, fl_words T hR ?_⟩
    refine ⟨wd, _, rfl, .inl (SqL.of hw), _, _, rfl, rfl, _, rfl, ?_⟩
    have hl : wv.length = ws.length := by rw [hW.len, List.length_map]
    refine ite2 (fun c => ?_) (fun c => ?_)
    · have c' : at' < ws.length := by have := of_decide_eq_true c; omega
      obtain ⟨v, hv, tv'⟩ := hW.get (i := at') (d := ws[at'].toD) (by rw [List.getElem?_map, List.getElem?_eq_getElem c']; rfl)
      refine ⟨_, rfl, fl_words T hR ⟨_, rfl, fl_at T hR ⟨wd, _, _, v, rfl, rfl, SqL.of hw, atI_nat hv, ?_⟩⟩⟩
      have e : nowW len S.rest = ws[at'] := by
        rw [← hrest, List.drop_eq_getElem_cons c']; rfl
      obtain ⟨p, xs, rfl, h1, h2⟩ := tv'.tup_inv
      exact k _ p (Same.refl _) (by rw [e]; exact tv')
    · have c' : ws.length ≤ at' := by
        have : ¬ ((at' : Int) < (wv.length : Int)) := fun z => c (decide_eq_true z)
        omega
      refine ⟨_, rfl, fl_length T hR ⟨by show 3 ≤ sizeLine; decide, fun p hp => ?_⟩⟩
      have e : nowW len S.rest = ⟨.fin, len⟩ := by
        rw [← hrest, List.drop_eq_nil_of_le c']; rfl
      exact k _ p (same_new hp) (by rw [e]; exact tp_new hp (.three (.str _) (.str _) (.int _)))
/-! ### wrong, is_mark, is_told -/
def spWrong (K : PySem.W.Frag) : Sp := fun vs H Q E => ∃ (r t m : Addr) (len : Nat) (S : PS), vs = [.ref r] ∧ Rp K r H len S t m ∧ Out K r t m len H Q E (wrongM len S)
theorem ok_wrong (T : Txt K mg w) : Good P w K mg base 3 (mR K "wrong") ["self"] (spWrong K) := by
  have G := ok_now (P := P) (base := base) T
  refine good_of T.f_wrong sc_wrong (fun _ _ _ _ _ _ us hl => match us, hl with | [_], _ => rfl) (fun vs H Q E h => ?_) (fun cdv A outer s H vs Q E hr h => ?_)
  · obtain ⟨_, _, _, _, _, rfl, _⟩ := h; rfl
  · obtain ⟨r, t, m, len, S, rfl, R, k⟩ := h
    obtain ⟨dx, wd, at', hR⟩ := R.ins_
    refine ⟨_, pss_one (ps_bad T hr rfl (takes_of rfl rfl rfl rfl) (pe_ix ix_tup (pm0 G (hr.mono (by decide)) T.cl T.m_now px (pv 0)) pe_int (fun _ _ => rfl))), ?_⟩
    refine ⟨_, rfl, r, dx, _, rfl, hR, rd_none, r, t, m, len, S, rfl, R, fun H1 p s1 tp => ?_⟩
    obtain ⟨a, xs, e, h1, h2⟩ := tp.tup_inv
    obtain rfl : p = a := by injection e
    obtain ⟨v1, r1, rfl, q1, h3⟩ := h2.cons_inv
    obtain ⟨v2, r2, rfl, q2, h4⟩ := h3.cons_inv
    obtain ⟨v3, r3, rfl, q3, h5⟩ := h4.cons_inv
    cases h5.nil_inv
    cases q3.int_inv
    refine ⟨p, _, _, .int _, rfl, rfl, h1, atI_nat (j := 2) rfl, ?_⟩
    exact mk_bad fun d hd => k _ d (fun a o e _ _ _ => by rw [upd_ne (ne_of_none (s1 a o e) hd)]; exact s1 a o e) upd_same
theorem two_shaped {x : Str} {d : PyData} (h1 : PyData.strOk x = true) (h2 : d.canLay0 = true) (h3 : d.depth = 0) : SeqAt.shaped (.tuple [.str x, d]) = true := by
  simp [SeqAt.shaped, PyData.canLay0, PyData.canLayAll0, PyData.depth, PyData.depthAll, h1, h2, h3]
theorem val_depth (w : Wd) : w.val.depth = 0 := by cases w <;> rfl
theorem now_ok {t m r : Addr} {len : Nat} {S : PS} {H : Hp} (R : Rp K r H len S t m) : (nw len S).val.canLay0 = true := by
  have h := R.wok
  cases e : S.rest with
  | nil =>
    show PyData.canLay0 (nowW len S.rest).w.val = true
    rw [e]
    show PyData.canLay0 (.str "") = true
    simp only [PyData.canLay0]; decide +kernel
  | cons p l =>
    have := h p (by rw [e]; exact List.mem_cons_self)
    show PyData.canLay0 (nowW len S.rest).w.val = true
    rw [e]; exact this
/-- (kind, val) of the next word, cut off the word's tuple -/
theorem cut2 {H1 : Hp} {p : Addr} {wd : PW} (tp : Tp K H1 (.ref p) wd.toD) : ∃ xs, SqT K H1 p xs ∧ xs.length = 3 ∧ ∀ q, H1 q = none → Tp K (upd H1 q (.tup (cutV xs none (some 2)))) (.ref q) (.tuple [.str wd.w.kind, wd.w.val]) := by
  obtain ⟨a, xs, e, h1, h2⟩ := tp.tup_inv
  obtain rfl : p = a := by injection e
  obtain ⟨v1, r1, rfl, q1, h3⟩ := h2.cons_inv
  obtain ⟨v2, r2, rfl, q2, h4⟩ := h3.cons_inv
  obtain ⟨v3, r3, rfl, q3, h5⟩ := h4.cons_inv
  cases h5.nil_inv
  exact ⟨_, h1, rfl, fun q hq => tp_new hq (.two q1 q2)⟩
theorem not_whole2 {xs : List V} (h : xs.length = 3) : ¬ (HT.sIx xs.length 0 none = 0 ∧ HT.sIx xs.length xs.length (some 2) = xs.length) := by
  rw [h]; decide
def spIs (K : PySem.W.Frag) (f : Str → Wd) : Sp := fun vs H Q _ => ∃ (r t m : Addr) (len : Nat) (S : PS) (x : Str), vs = [.ref r, .str x] ∧ Rp K r H len S t m ∧ PyData.strOk x = true ∧
  ∀ H', Same H H' → Q (.bl (decide (nw len S = f x))) H'
theorem ok_is_mark (T : Txt K mg w) : Good P w K mg base 2 (mR K "is_mark") ["self", "sign"] (spIs K .mark) := by
  have G := ok_now (P := P) (base := base) T
  refine good_of T.f_is_mark sc_is_mark (fun _ _ _ _ _ _ us hl => match us, hl with | [_, _], _ => rfl) (fun vs H Q E h => ?_) (fun cdv A outer s H vs Q E hr h => ?_)
  · obtain ⟨_, _, _, _, _, _, rfl, _⟩ := h; rfl
  · obtain ⟨r, t, m, len, S, x, rfl, R, hx, k⟩ := h
    obtain ⟨dx, wd, at', hR⟩ := R.ins_
    refine ⟨_, pss_one (ps_ret (pe_cmpR (op_eqD hr.units) (pe_slice sl_tup (pm0 G hr T.cl T.m_now px (pv 0)) po_none (po_some pe_int)) (pe_tup (pa_cons pe_str (pa_cons (pv 1) pa_nil))) (nomark _))), ?_⟩
    refine ⟨_, rfl, r, dx, _, rfl, hR, rd_none, r, t, m, len, S, rfl, R, fun H1 p s1 tp => ?_⟩
    obtain ⟨xs, hp, hl, tq⟩ := cut2 tp
    refine ⟨_, rfl, p, xs, rfl, hp, not_whole2 hl, fun q hq => ?_⟩
    refine ⟨_, rfl, by show 2 ≤ sizeLine; decide, fun q2 hq2 => ?_⟩
    have s2 : Same (upd H1 q (.tup (cutV xs none (some 2)))) (upd (upd H1 q (.tup (cutV xs none (some 2)))) q2 (.tup [.str "mark", .str x])) := same_new hq2
    refine ⟨_, _, ((tq q hq).mono (TM.same s2)).dp, (tp_new hq2 (.two (.str _) (.str x))).dp, two_shaped strOk_kind (now_ok R) (val_depth _), two_shaped (by decide +kernel) (by simpa only [PyData.canLay0] using hx) rfl, ?_⟩
    rw [eqv_mark]
    exact k _ ((s1.trans (same_new hq)).trans s2)
theorem ok_is_told (T : Txt K mg w) : Good P w K mg base 2 (mR K "is_told") ["self", "word"] (spIs K .told) := by
  have G := ok_now (P := P) (base := base) T
  refine good_of T.f_is_told sc_is_told (fun _ _ _ _ _ _ us hl => match us, hl with | [_, _], _ => rfl) (fun vs H Q E h => ?_) (fun cdv A outer s H vs Q E hr h => ?_)
  · obtain ⟨_, _, _, _, _, _, rfl, _⟩ := h; rfl
  · obtain ⟨r, t, m, len, S, x, rfl, R, hx, k⟩ := h
    obtain ⟨dx, wd, at', hR⟩ := R.ins_
    refine ⟨_, pss_one (ps_ret (pe_cmpR (op_eqD hr.units) (pe_slice sl_tup (pm0 G hr T.cl T.m_now px (pv 0)) po_none (po_some pe_int)) (pe_tup (pa_cons pe_str (pa_cons (pv 1) pa_nil))) (nomark _))), ?_⟩
    refine ⟨_, rfl, r, dx, _, rfl, hR, rd_none, r, t, m, len, S, rfl, R, fun H1 p s1 tp => ?_⟩
    obtain ⟨xs, hp, hl, tq⟩ := cut2 tp
    refine ⟨_, rfl, p, xs, rfl, hp, not_whole2 hl, fun q hq => ?_⟩
    refine ⟨_, rfl, by show 2 ≤ sizeLine; decide, fun q2 hq2 => ?_⟩
    have s2 : Same (upd H1 q (.tup (cutV xs none (some 2)))) (upd (upd H1 q (.tup (cutV xs none (some 2)))) q2 (.tup [.str "told", .str x])) := same_new hq2
    refine ⟨_, _, ((tq q hq).mono (TM.same s2)).dp, (tp_new hq2 (.two (.str _) (.str x))).dp, two_shaped strOk_kind (now_ok R) (val_depth _), two_shaped (by decide +kernel) (by simpa only [PyData.canLay0] using hx) rfl, ?_⟩
    rw [eqv_told]
    exact k _ ((s1.trans (same_new hq)).trans s2)
/-! ### go_on -/
def spGoOn (K : PySem.W.Frag) : Sp := fun vs H Q _ => ∃ (r t m : Addr) (len : Nat) (S : PS), vs = [.ref r] ∧ Rp K r H len S t m ∧ S.rest ≠ [] ∧
  ∀ H' v, Go r t m H m H' → Rp K r H' len S.adv t m → Tp K H' v (nw len S).val → Q v H'
theorem ok_go_on (T : Txt K mg w) : Good P w K mg base 1 (mR K "go_on") ["self"] (spGoOn K) := by
  refine good_of T.f_go_on sc_go_on (fun _ _ _ _ _ _ us hl => match us, hl with | [_], _ => rfl) (fun vs H Q E h => ?_) (fun cdv A outer s H vs Q E hr h => ?_)
  · obtain ⟨_, _, _, _, _, rfl, _⟩ := h; rfl
  · obtain ⟨r, t, m, len, S, rfl, R, hne, k⟩ := h
    obtain ⟨dx, wd, at', hR⟩ := R.ins_
    obtain ⟨R', wv, v, hw, hv, tv⟩ := R.adv_ hR hne
    refine ⟨_, pss_cons (ps_fld (pv 0) (pe_op op_add (pe_fld (pv 0) rfl) pe_int) rfl) (pss_one (ps_ret (pe_ix ix_tup (pe_ix ix_list (pe_fld (pv 0) rfl) (pe_op op_sub (pe_fld (pv 0) rfl) pe_int) (fun _ _ => rfl)) pe_int (fun _ _ => rfl)))), ?_⟩
    refine ⟨_, rfl, fl_at T hR ⟨_, _, rfl, rfl, _, rfl, st_at T hR ?_⟩⟩
    have M : TM H (upd H r (.ins (CR K) dx (rdF wd ((at' : Int) + 1) len t m S.many))) := TM.ins hR
    have nrw : wd ≠ r := ne_of hw hR (by intro z; cases z)
    refine ⟨_, rfl, fl_words T upd_same ⟨_, rfl, fl_at T upd_same ⟨_, _, rfl, rfl, wd, wv, _, v, rfl, rfl, SqL.of (by rw [upd_ne nrw]; exact hw), ?_, ?_⟩⟩⟩
    · rw [Int.add_sub_cancel]; exact atI_nat hv
    · obtain ⟨p, xs, rfl, h1, h2⟩ := tv.tup_inv
      obtain ⟨v1, r1, rfl, q1, h3⟩ := h2.cons_inv
      obtain ⟨v2, r2, rfl, q2, h4⟩ := h3.cons_inv
      refine ⟨p, _, _, v2, rfl, rfl, sqT_mono M h1, atI_nat (j := 1) rfl, ?_⟩
      exact k _ v2 Go.upd_r R' (q2.mono M)
end
end KW

/-! part KStack2 -/
set_option maxHeartbeats 4000000
namespace KW
open PySem PySem.Spec PyProof.Rows L2 KM
theorem iteNot {c A B : Prop} [Decidable c] (h1 : ¬ c → A) (h2 : c → B) : if (!decide c) = true then A else B := by
  by_cases h : c
  · rw [decide_eq_true h]; exact iteF (h2 h)
  · rw [decide_eq_false h]; exact iteT (h1 h)
theorem iteD {c A B : Prop} [Decidable c] (h1 : c → A) (h2 : ¬ c → B) : if decide c = true then A else B := by
  by_cases h : c
  · rw [decide_eq_true h]; exact iteT (h1 h)
  · rw [decide_eq_false h]; exact iteF (h2 h)
theorem nowW_ne {len : Nat} {l : List PW} (h : (nowW len l).w ≠ .fin) : l ≠ [] := fun e => by
  rw [e] at h; exact h rfl
section
variable {P : Program} {w : World} {K : PySem.W.Frag} {mg : Str → Option Value} {base : Heap}
theorem Out.same {r t m : Addr} {len len1 : Nat} {H H1 : Hp} {Q : VK} {E : XK} {x : Rs} {S : PS} (o : Out K r t m len H Q E x) (s : Same H H1) (R : Rp K r H1 len1 S t m) : Out K r t m len H1 Q E x := o.shift (Go.same s) R
/-! ### need_word, need_kind -/
def spNeedWord (K : PySem.W.Frag) : Sp := fun vs H Q E => ∃ (r t m : Addr) (len : Nat) (S : PS) (k x : Str) (w0 : Wd), vs = [.ref r, .str k, .str x] ∧ Rp K r H len S t m ∧ (k = "mark" ∧ w0 = .mark x ∨ k = "told" ∧ w0 = .told x) ∧ PyData.strOk x = true ∧
  Out K r t m len H Q E (if nw len S = w0 then .ok S.adv else wrongM len S)
theorem ok_need_word (T : Txt K mg w) : Good P w K mg base 4 (mR K "need_word") ["self", "kind", "word"] (spNeedWord K) := by
  have G := ok_now (P := P) (base := base) T
  have GW := ok_wrong (P := P) (base := base) T
  refine good_of T.f_need_word sc_need_word (fun _ _ _ _ _ _ us hl => match us, hl with | [_, _, _], _ => rfl) (fun vs H Q E h => ?_) (fun cdv A outer s H vs Q E hr h => ?_)
  · obtain ⟨_, _, _, _, _, _, _, _, rfl, _⟩ := h; rfl
  · obtain ⟨r, t, m, len, S, kd, x, w0, rfl, R, hk, hx, k⟩ := h
    obtain ⟨dx, wd, at', hR⟩ := R.ins_
    refine ⟨_, pss_cons (ps_if (pt_cmpR (op_neD hr.units) (pe_slice sl_tup (pm0 G (hr.mono (by decide)) T.cl T.m_now px (pv 0)) po_none (po_some pe_int)) (pe_tup (pa_cons (pv 1) (pa_cons (pv 2) pa_nil))) (nomark _))
        (pss_one (ps_expr (pm0 GW hr T.cl T.m_wrong px (pv 0)))) pss_nil)
      (pss_one (ps_fld (pv 0) (pe_op op_add (pe_fld (pv 0) rfl) pe_int) rfl)), ?_⟩
    refine ⟨_, rfl, r, dx, _, rfl, hR, rd_none, r, t, m, len, S, rfl, R, fun H1 p s1 tp => ?_⟩
    obtain ⟨xs, hp, hl, tq⟩ := cut2 tp
    refine ⟨_, rfl, p, xs, rfl, hp, not_whole2 hl, fun q hq => ?_⟩
    refine ⟨_, rfl, _, rfl, by show 2 ≤ sizeLine; decide, fun q2 hq2 => ?_⟩
    have s2 : Same (upd H1 q (.tup (cutV xs none (some 2)))) (upd (upd H1 q (.tup (cutV xs none (some 2)))) q2 (.tup [.str kd, .str x])) := same_new hq2
    have s3 := (s1.trans (same_new hq)).trans s2
    have hkd : PyData.strOk kd = true := by rcases hk with ⟨rfl, _⟩ | ⟨rfl, _⟩ <;> decide +kernel
    have ev : PyData.eqv (.tuple [.str (nw len S).kind, (nw len S).val]) (.tuple [.str kd, .str x]) = decide (nw len S = w0) := by
      rcases hk with ⟨rfl, rfl⟩ | ⟨rfl, rfl⟩
      · exact eqv_mark
      · exact eqv_told
    refine ⟨_, _, ((tq q hq).mono (TM.same s2)).dp, (tp_new hq2 (.two (.str kd) (.str x))).dp, two_shaped strOk_kind (now_ok R) (val_depth _), two_shaped hkd (by simpa only [PyData.canLay0] using hx) rfl, ?_⟩
    rw [ev]
    have R3 := R.same s3
    refine ⟨_, rfl, iteNot (fun c => ?_) (fun c => ?_)⟩
    · rw [if_neg c] at k
      exact ⟨_, rfl, r, dx, _, rfl, s3 _ _ hR, rd_none, r, t, m, len, S, rfl, R3, k.same s3 R3⟩
    · rw [if_pos c] at k
      have hne : S.rest ≠ [] := nowW_ne (len := len) (fun z => by
        have z' : w0 = .fin := c.symm.trans z
        rcases hk with ⟨_, q⟩ | ⟨_, q⟩ <;> (rw [q] at z'; cases z'))
      have hR3 := s3 _ _ hR
      refine ⟨_, rfl, fl_at T hR3 ⟨_, _, rfl, rfl, _, rfl, st_at T hR3 ?_⟩⟩
      exact k _ m ((Go.same s3).trans Go.upd_r R3) (R3.adv_ hR3 hne).1
def spNeedKind (K : PySem.W.Frag) : Sp := fun vs H Q E => ∃ (r t m : Addr) (len : Nat) (S : PS) (x : Str), vs = [.ref r, .str x] ∧ Rp K r H len S t m ∧ x ≠ "end" ∧
  ((nw len S).kind = x → ∀ H' v, Go r t m H m H' → Rp K r H' len S.adv t m → Tp K H' v (nw len S).val → Q v H') ∧
  (¬ (nw len S).kind = x → Out K r t m len H Q E (wrongM len S))
theorem ok_need_kind (T : Txt K mg w) : Good P w K mg base 4 (mR K "need_kind") ["self", "kind"] (spNeedKind K) := by
  have G := ok_now (P := P) (base := base) T
  have GW := ok_wrong (P := P) (base := base) T
  have GG := ok_go_on (P := P) (base := base) T
  refine good_of T.f_need_kind sc_need_kind (fun _ _ _ _ _ _ us hl => match us, hl with | [_, _], _ => rfl) (fun vs H Q E h => ?_) (fun cdv A outer s H vs Q E hr h => ?_)
  · obtain ⟨_, _, _, _, _, _, rfl, _⟩ := h; rfl
  · obtain ⟨r, t, m, len, S, x, rfl, R, hx, k1, k2⟩ := h
    obtain ⟨dx, wd, at', hR⟩ := R.ins_
    refine ⟨_, pss_cons (ps_if (pt_cmpR op_ne (pe_ix ix_tup (pm0 G (hr.mono (by decide)) T.cl T.m_now px (pv 0)) pe_int (fun _ _ => rfl)) (pv 1) (nomark _))
        (pss_one (ps_expr (pm0 GW hr T.cl T.m_wrong px (pv 0)))) pss_nil)
      (pss_one (ps_ret (pm0 GG (hr.mono (by decide)) T.cl T.m_go_on px (pv 0)))), ?_⟩
    refine ⟨_, rfl, r, dx, _, rfl, hR, rd_none, r, t, m, len, S, rfl, R, fun H1 p s1 tp => ?_⟩
    obtain ⟨a, xs, e, h1, h2⟩ := tp.tup_inv
    obtain rfl : p = a := by injection e
    obtain ⟨v1, r1, rfl, q1, h3⟩ := h2.cons_inv
    cases q1.str_inv
    have R1 := R.same s1
    refine ⟨p, _, _, _, rfl, rfl, h1, atI_nat (j := 0) rfl, _, rfl, rfl, _, rfl, ?_⟩
    rw [dec_str, Bool.beq_eq_decide_eq]
    refine iteNot (fun c => ?_) (fun c => ?_)
    · exact ⟨_, rfl, r, dx, _, rfl, s1 _ _ hR, rd_none, r, t, m, len, S, rfl, R1, (k2 c).same s1 R1⟩
    · have hne : S.rest ≠ [] := nowW_ne (len := len) (fun z => by
        have z' : (nw len S).kind = "end" := by rw [show nw len S = .fin from z]; rfl
        exact hx (c.symm.trans z'))
      exact ⟨_, rfl, r, dx, _, rfl, s1 _ _ hR, rd_none, r, t, m, len, S, rfl, R1, hne, fun H2 v g2 R2 t2 => k1 c H2 v ((Go.same s1).trans g2 R1) R2 t2⟩
/-! ### plan -/
def spPlan (K : PySem.W.Frag) : Sp := fun vs H Q E => ∃ (r t m a : Addr) (len : Nat) (S : PS) (xs : List V) (ts : List Tk), vs = [.ref r, .ref a] ∧ Rp K r H len S t m ∧ SqL K H a xs ∧ TpAll K H xs (ts.map Tk.toD) ∧ ts.length ≤ 1000 ∧ S.todo.length ≤ 2000000 ∧
  Out K r t m len H Q E (.ok (S.add ts))
theorem ok_plan (T : Txt K mg w) : Good P w K mg base 1 (mR K "plan") ["self", "tasks"] (spPlan K) := by
  refine good_of T.f_plan sc_plan (fun _ _ _ _ _ _ us hl => match us, hl with | [_, _], _ => rfl) (fun vs H Q E h => ?_) (fun cdv A outer s H vs Q E hr h => ?_)
  · obtain ⟨_, _, _, _, _, _, _, _, rfl, _⟩ := h; rfl
  · obtain ⟨r, t, m, a, len, S, xs, ts, rfl, R, ha, hxs, hz1, hz2, k⟩ := h
    obtain ⟨dx, wd, at', hR⟩ := R.ins_
    obtain ⟨tv, ht, hT⟩ := R.todo_
    refine ⟨_, pss_one (ps_expr (pe_bm PySem.F.plainAttrs_list PySem.F.slot_list_extend PySem.F.type_list_extend mt_extend (pe_fld (pv 0) rfl) (pa_cons (pe_revL (pv 1)) pa_nil))), ?_⟩
    refine ⟨_, rfl, fl_todo T hR ⟨.inl ⟨rfl, _, SqL.of ht⟩, _, rfl, a, xs, rfl, ha, fun p hp => ?_⟩⟩
    have s1 : Same H (upd H p (.lst xs.reverse)) := same_new hp
    have hl1 : xs.length = ts.length := by rw [hxs.len, List.length_map]
    have hl2 : tv.length = S.todo.length := by rw [hT.len, List.length_reverse, List.length_map]
    refine ⟨t, p, tv, xs.reverse, rfl, rfl, s1 _ _ ht, upd_same, ?_, ?_⟩
    · rw [List.length_reverse, hl1, hl2, sizeLine_eq]; omega
    · have R1 := R.same s1
      refine k _ m ((Go.same s1).trans Go.upd_t R1) (R1.set_todo (td := ts ++ S.todo) ?_)
      rw [List.map_append, List.reverse_append]
      exact (hT.mono (TM.same s1)).app (hxs.mono (TM.same s1)).rev
end
end KW

/-! part KComp -/
set_option maxHeartbeats 4000000
namespace KW
open PySem PySem.Spec PyProof.Rows L2 KM
theorem snoc_take {α : Type} {l : List α} {i : Nat} {y : α} (h : l[i]? = some y) : l.take i ++ [y] = l.take (i + 1) := by
  rw [List.take_add_one, h]; rfl
theorem _root_.L2.Same.seqT {K : PySem.W.Frag} {H H' : Hp} {a : Addr} {xs : List V} (e : Same H H') (h : SqT K H a xs) : SqT K H' a xs := sqT_mono (TM.same e) h
theorem ixT {X : Cx} (K : PySem.W.Frag) (h : X.K = K := by rfl) : IxR X (rIxT K) := h ▸ ix_tup
theorem ixL {X : Cx} (K : PySem.W.Frag) (h : X.K = K := by rfl) : IxR X (rIxL K) := h ▸ ix_list
/-- a list comprehension over a list, each item giving a value -/
theorem lc_map {K : PySem.W.Frag} {a : Addr} {xs : List V} (ys : List V) {g : TG} {tt : TT} {te : TE} {vs : List Nat} {σ : L2.St} {H1 : Hp} {D : Addr} {Qd : Hp → Prop} (hD : H1 D = none) (hx : SqL K H1 a xs) (hl : ys.length = xs.length) (hz : xs.length ≤ 2000000)
    (hs : ∀ (i : Nat) (x y : V) (H : Hp), xs[i]? = some x → ys[i]? = some y → Same H1 H → ∀ (R : VK) (Z : Hp → Prop), (∀ H', Same H H' → R y H') → g x (wipe σ vs) H fun σ2 H2 => wipe σ2 vs = wipe σ vs ∧ tt σ2 H2 fun b H3 => if b = true then te σ2 H3 R else Z H3)
    (hd : ∀ H, Same H1 H → H D = some (.lst ys) → Qd H) :
    ∃ W : Nat → Nat → Hp → Prop, (∃ m, W 0 m (upd H1 D (.lst []))) ∧ ∀ i m H, W i m H →
      ((Itl K a).stop i H ∧ Qd H) ∨ ((Itl K a).go i H ∧ ∃ Nx : Hp → Prop, (∀ H', Nx H' → ∃ m', m' < m ∧ W (i + 1) m' H') ∧ ∀ x H', (Itl K a).yld i H x H' → g x (wipe σ vs) H' fun σ2 H2 => wipe σ2 vs = wipe σ vs ∧ tt σ2 H2 fun b H3 =>
        if b = true then te σ2 H3 fun y H4 => ∃ acc, H4 D = some (.lst acc) ∧ acc.length < sizeLine ∧ Nx (upd H4 D (.lst (acc ++ [y]))) else Nx H3) := by
  refine lc_list (K := K) (a := a) (xs := xs) (fun i H => Same H1 H ∧ H D = some (.lst (ys.take i))) ⟨same_new hD, upd_same⟩ (fun i H _ h => h.1.seq hx) (fun i x H hi ⟨s, hDH⟩ => ?_) (fun H ⟨s, hDH⟩ => hd H s (by rw [← hl, List.take_length] at hDH; exact hDH))
  have hlt : i < ys.length := by rw [hl]; exact (List.getElem?_eq_some_iff.mp hi).1
  have hy : ys[i]? = some ys[i] := List.getElem?_eq_getElem hlt
  refine hs i x ys[i] H hi hy s _ _ fun H' s' => ⟨ys.take i, s' _ _ hDH, ?_, fun b u e => ?_, ?_⟩
  · rw [List.length_take, sizeLine_eq]; omega
  · have nb : b ≠ D := fun z => by rw [z, hD] at e; cases e
    rw [upd_ne nb]
    exact s' _ _ (s _ _ e)
  · rw [upd_same, snoc_take hy]
section
variable {P : Program} {w : World} {K : PySem.W.Frag} {mg : Str → Option Value} {base : Heap}
/-! ### joined -/
theorem md_ix {H : Hp} {v : V} {md : Md} (h : Tp K H v md.toD) (ht : md.isT = true ∨ md.isP = true) : ∃ p xs, v = .ref p ∧ SqT K H p xs ∧ (∃ v0, xs[0]? = some v0 ∧ Tp K H v0 md.thing) ∧ xs[1]? = some (.int md.a1) ∧ xs[2]? = some (.int md.a2) ∧ (md.isP = true → xs[3]? = some (.bl md.a3)) := by
  cases md with
  | T d p q =>
    obtain ⟨a, xs, rfl, h1, h2⟩ := h.tup_inv
    obtain ⟨v1, r1, rfl, q1, h3⟩ := h2.cons_inv
    obtain ⟨v2, r2, rfl, q2, h4⟩ := h3.cons_inv
    obtain ⟨v3, r3, rfl, q3, h5⟩ := h4.cons_inv
    cases q2.int_inv
    cases q3.int_inv
    exact ⟨a, _, rfl, h1, ⟨v1, rfl, q1⟩, rfl, rfl, fun z => by cases z⟩
  | P d p q g =>
    obtain ⟨a, xs, rfl, h1, h2⟩ := h.tup_inv
    obtain ⟨v1, r1, rfl, q1, h3⟩ := h2.cons_inv
    obtain ⟨v2, r2, rfl, q2, h4⟩ := h3.cons_inv
    obtain ⟨v3, r3, rfl, q3, h5⟩ := h4.cons_inv
    obtain ⟨v4, r4, rfl, q4, h6⟩ := h5.cons_inv
    cases q2.int_inv
    cases q3.int_inv
    cases q4.bl_inv
    exact ⟨a, _, rfl, h1, ⟨v1, rfl, q1⟩, rfl, rfl, fun _ => rfl⟩
  | C n => rcases ht with z | z <;> cases z
  | B => rcases ht with z | z <;> cases z
theorem maxI_is : ∀ l : List Int, ∀ m, m ∈ (0 :: l) → (∀ y ∈ (0 :: l), y ≤ m) → m = maxI l := by
  intro l m hm hle
  have h1 : ∀ l : List Int, (0 ≤ maxI l) ∧ (∀ y ∈ l, y ≤ maxI l) ∧ (maxI l = 0 ∨ maxI l ∈ l) := by
    intro l
    induction l with
    | nil => exact ⟨Int.le_refl 0, by simp, .inl rfl⟩
    | cons x r ih =>
      obtain ⟨a, b, c⟩ := ih
      have e : maxI (x :: r) = max x (maxI r) := rfl
      rw [e]
      refine ⟨by omega, fun y hy => ?_, ?_⟩
      · rcases List.mem_cons.mp hy with z | z
        · omega
        · have := b y z; omega
      · rcases Int.le_total x (maxI r) with z | z
        · rw [Int.max_eq_right z]
          rcases c with c | c
          · exact .inl c
          · exact .inr (List.mem_cons_of_mem _ c)
        · rw [Int.max_eq_left z]
          exact .inr List.mem_cons_self
  obtain ⟨a, b, c⟩ := h1 l
  have h2 : m ≤ maxI l := by
    rcases List.mem_cons.mp hm with z | z
    · omega
    · exact b m z
  have h3 : maxI l ≤ m := by
    rcases c with c | c
    · rw [c]; exact hle 0 List.mem_cons_self
    · exact hle _ (List.mem_cons_of_mem _ c)
  omega
def spJoined (K : PySem.W.Frag) : Sp := fun vs H Q _ => ∃ (v : V) (d : PyData) (a : Addr) (xs : List V) (ps : List Md), vs = [v, .ref a] ∧ Tp K H v d ∧ SqL K H a xs ∧ TpAll K H xs (ps.map Md.toD) ∧ (∀ p ∈ ps, p.isT = true ∨ p.isP = true) ∧ ps.length ≤ 1000000 ∧
  ∀ H' q, Same H H' → Tp K H' (.ref q) (joinedM d ps).toD → Q (.ref q) H'
theorem ok_joined (T : Txt K mg w) : Good P w K mg base 1 (He.ga K "joined") ["thing", "parts"] (spJoined K) := by
  refine good_of T.f_joined sc_joined (fun _ _ _ _ _ _ us hl => match us, hl with | [_, _], _ => rfl) (fun vs H Q E h => ?_) (fun cdv A outer s H vs Q E hr h => ?_)
  · obtain ⟨_, _, _, _, _, rfl, _⟩ := h; rfl
  · obtain ⟨v, d, a, xs, ps, rfl, hv, ha, hxs, hps, hz, k⟩ := h
    refine ⟨_, pss_one (ps_ret (pe_tup (pa_cons (pv 0) (pa_cons (pe_op op_add pe_int (pe_callB (cr_sum rfl) (by rfl) T.z_sum (by decide +kernel) (pa_cons
        (pe_lc (own := [("one", 2)]) (g := gName 2) (tt := tYes) rfl sc_joined.nd (pi_list (pv 1)) (blkOk_by (own := [("one", 2)]) (N := N_joined) (sc := defScope s_joined) (by decide +kernel)) (fun _ _ _ _ _ => pg_name (i := 2) sc_joined.nd rfl (Or.inl rfl)) (fun _ _ _ _ _ => pts_nil)
          (fun _ _ _ _ _ => pe_ix (ixT K) (pv 2) pe_int (fun _ _ => rfl))) pa_nil)))
      (pa_cons (pe_op op_add pe_int (pe_callB (cr_max rfl) (by rfl) T.z_max (by decide +kernel) (pa_cons (pe_op op_cat (pe_lst (pa_cons pe_int pa_nil))
        (pe_lc (own := [("one", 2)]) (g := gName 2) (tt := tYes) rfl sc_joined.nd (pi_list (pv 1)) (blkOk_by (own := [("one", 2)]) (N := N_joined) (sc := defScope s_joined) (by decide +kernel)) (fun _ _ _ _ _ => pg_name (i := 2) sc_joined.nd rfl (Or.inl rfl)) (fun _ _ _ _ _ => pts_nil)
          (fun _ _ _ _ _ => pe_ix (ixT K) (pv 2) pe_int (fun _ _ => rfl)))) pa_nil))) pa_nil))))), ?_⟩
    have hlen : xs.length = ps.length := by rw [hxs.len, List.length_map]
    refine ⟨_, rfl, _, rfl, a, rfl, ⟨_, ha⟩, fun D hD => lc_map ((ps.map Md.a1).map V.int) hD ha (by simp [hlen]) (by omega) (fun i x y H2 hx hy s R Z hR => ?_) (fun H2 s2 hD2 => ?_)⟩
    · obtain ⟨md, hmd⟩ : ∃ md, ps[i]? = some md := by
        have := (List.getElem?_eq_some_iff.mp hx).1
        exact ⟨ps[i], List.getElem?_eq_getElem (by omega)⟩
      obtain ⟨v1, e1, tv⟩ := hxs.get (i := i) (d := md.toD) (by rw [List.getElem?_map, hmd]; rfl)
      rw [hx] at e1; cases e1
      obtain ⟨p, zs, rfl, h1, _, h3, _, _⟩ := md_ix tv (hps md (List.mem_of_getElem? hmd))
      have ey : y = .int md.a1 := by
        rw [List.map_map, List.getElem?_map, hmd] at hy
        exact (Option.some.inj hy).symm
      subst ey
      refine ⟨rfl, ⟨_, rfl, p, _, _, _, rfl, rfl, s.seqT h1, atI_nat h3, hR _ (Same.refl _)⟩⟩
    · refine ⟨D, _, rfl, SqL.of hD2, _, _, rfl, rfl, ?_⟩
      have ha2 := s2.seq ha
      refine ⟨by show 1 ≤ sizeLine; decide, fun l hl => ?_⟩
      have s3 : Same H2 (upd H2 l (.lst [.int 0])) := same_new hl
      refine ⟨_, rfl, a, rfl, ⟨_, s3.seq ha2⟩, fun D2 hD2' => lc_map ((ps.map Md.a2).map V.int) hD2' (s3.seq ha2) (by simp [hlen]) (by omega) (fun i x y H4 hx hy s R Z hR => ?_) (fun H4 s4 hD4 => ?_)⟩
      · obtain ⟨md, hmd⟩ : ∃ md, ps[i]? = some md := by
          have := (List.getElem?_eq_some_iff.mp hx).1
          exact ⟨ps[i], List.getElem?_eq_getElem (by omega)⟩
        obtain ⟨v1, e1, tv⟩ := hxs.get (i := i) (d := md.toD) (by rw [List.getElem?_map, hmd]; rfl)
        rw [hx] at e1; cases e1
        obtain ⟨p, zs, rfl, h1, _, _, h3, _⟩ := md_ix tv (hps md (List.mem_of_getElem? hmd))
        have ey : y = .int md.a2 := by
          rw [List.map_map, List.getElem?_map, hmd] at hy
          exact (Option.some.inj hy).symm
        subst ey
        exact ⟨rfl, ⟨_, rfl, p, _, _, _, rfl, rfl, ((s2.trans s3).trans s).seqT h1, atI_nat h3, hR _ (Same.refl _)⟩⟩
      · have hl4 : H4 l = some (.lst [.int 0]) := s4 _ _ upd_same
        refine ⟨l, D2, _, _, rfl, rfl, hl4, hD4, by simp [sizeLine_eq]; omega, fun p hp => ?_⟩
        refine ⟨p, 0 :: ps.map Md.a2, rfl, SqL.of (by rw [upd_same]; rfl), by simp, fun mx hm hle => ?_⟩
        have emx := maxI_is _ mx hm hle
        subst emx
        refine ⟨_, _, rfl, rfl, by show 3 ≤ sizeLine; decide, fun q hq => ?_⟩
        have sall : Same H (upd H4 p (.lst ([.int 0] ++ (ps.map Md.a2).map V.int))) := ((s2.trans s3).trans s4).trans (same_new hp)
        exact k _ q (sall.trans (same_new hq)) (tp_new hq (.three (hv.mono (TM.same sall)) (.int _) (.int _)))
end
end KW

/-! part KMake -/
set_option maxHeartbeats 4000000
namespace KW
open PySem PySem.Spec PyProof.Rows L2 KM
theorem cutV_drop {xs : List V} {k : Nat} (h : k ≤ xs.length) : cutV xs (some (k : Int)) none = xs.drop k := by
  unfold cutV
  rw [HT.sIx_nat, HT.sIx_none, Nat.min_eq_left h]
  exact List.take_of_length_le (by rw [List.length_drop]; omega)
theorem cutV_take {xs : List V} {k : Nat} (h : k ≤ xs.length) : cutV xs none (some (k : Int)) = xs.take k := by
  unfold cutV
  rw [HT.sIx_nat, HT.sIx_none, Nat.min_eq_left h]
  rfl
section
variable {P : Program} {w : World} {K : PySem.W.Frag} {mg : Str → Option Value} {base : Heap}
theorem Go.put {r t m m2 : Addr} {H H1 : Hp} {C dx C' dx' w t0 m0 t1 m1 : Addr} {a l k a' l' k' : Int} (s : Same H H1) (n : H m2 = none) (h : H r = some (.ins C dx (rdF w a l t0 m0 k)) := by assumption) : Go r t m H m2 (upd H1 r (.ins C' dx' (rdF w a' l' t1 m1 k'))) :=
  ⟨fun a u e n1 _ _ => by rw [upd_ne n1]; exact s _ _ e, .inr n, fun hs x q => by
    have g : Go r t m H m (upd H r (.ins C' dx' (rdF w a' l' t1 m1 k'))) := Go.upd_r h
    refine g.wd hs x ?_
    obtain ⟨C2, dx2, i, l, t, m, k, q⟩ := q
    rw [upd_same] at q
    exact ⟨_, _, _, _, _, _, _, by rw [upd_same]; exact q⟩⟩
/-! ### pop_many -/
def spPopMany (K : PySem.W.Frag) : Sp := fun vs H Q _ => ∃ (r t m : Addr) (len : Nat) (S : PS) (n : Nat), vs = [.ref r, .int n] ∧ Rp K r H len S t m ∧ n ≤ S.made.length ∧
  ∀ H' m' p xs, Go r t m H m' H' → Rp K r H' len { S with made := S.made.drop n } t m' → H p = none → p ≠ m' → H' p = some (.lst xs) → TpAll K H' xs ((S.made.take n).reverse.map Md.toD) → Q (.ref p) H'
theorem ok_pop_many (T : Txt K mg w) : Good P w K mg base 1 (mR K "pop_many") ["self", "count"] (spPopMany K) := by
  refine good_of T.f_pop_many sc_pop_many (fun _ _ _ _ _ _ us hl => match us, hl with | [_, _], _ => rfl) (fun vs H Q E h => ?_) (fun cdv A outer s H vs Q E hr h => ?_)
  · obtain ⟨_, _, _, _, _, _, rfl, _⟩ := h; rfl
  · obtain ⟨r, t, m, len, S, n, rfl, R, hn, k⟩ := h
    obtain ⟨dx, wd, at', hR⟩ := R.ins_
    obtain ⟨mv, hm, hM⟩ := R.made_
    obtain ⟨wv, hw, nwt, nwm⟩ := R.w_ne hR
    obtain ⟨tv, ht, hT⟩ := R.todo_
    have hml : mv.length = S.made.length := by rw [hM.len, List.length_reverse, List.length_map]
    refine ⟨_, pss_cons (ps_set (i := 2) sc_pop_many.nd rfl (Or.inl rfl) (pe_op op_sub (pe_callB call_len_seq (by rfl) T.z_len PySem.boot_len (pa_cons (pe_fld (pv 0) rfl) pa_nil)) (pv 1)))
      (pss_cons (ps_set (i := 3) sc_pop_many.nd rfl (Or.inl rfl) (pe_slice sl_list (pe_fld (pv 0) rfl) (po_some (pv 2)) po_none))
      (pss_cons (ps_fld (pv 0) (pe_slice sl_list (pe_fld (pv 0) rfl) po_none (po_some (pv 2))) rfl)
      (pss_one (ps_ret (pv 3))))), ?_⟩
    refine ⟨_, rfl, fl_made T hR ⟨m, _, rfl, .inl (SqL.of hm), _, rfl, _, _, rfl, rfl, ?_⟩⟩
    have eat : ((mv.length : Int) - (n : Int)) = ((mv.length - n : Nat) : Int) := by omega
    refine ⟨_, rfl, fl_made T hR ⟨_, rfl, _, rfl, m, mv, rfl, SqL.of hm, fun p hp => ?_⟩⟩
    rw [show cutV mv (some ((fun i j => i - j) (mv.length : Int) (n : Int))) none = mv.drop (mv.length - n) from by
      show cutV mv (some ((mv.length : Int) - (n : Int))) none = _
      rw [eat]; exact cutV_drop (Nat.sub_le _ _)]
    have s1 : Same H (upd H p (.lst (mv.drop (mv.length - n)))) := same_new hp
    refine ⟨_, rfl, fl_made T (s1 _ _ hR) ⟨_, rfl, _, rfl, m, mv, rfl, SqL.of (s1 _ _ hm), fun m2 hm2 => ?_⟩⟩
    rw [show cutV mv none (some ((fun i j => i - j) (mv.length : Int) (n : Int))) = mv.take (mv.length - n) from by
      show cutV mv none (some ((mv.length : Int) - (n : Int))) = _
      rw [eat]; exact cutV_take (Nat.sub_le _ _)]
    have s2 : Same (upd H p (.lst (mv.drop (mv.length - n)))) (upd (upd H p (.lst (mv.drop (mv.length - n)))) m2 (.lst (mv.take (mv.length - n)))) := same_new hm2
    have s3 := s1.trans s2
    have hR3 := s3 _ _ hR
    refine ⟨_, rfl, st_made T hR3 ?_⟩
    have hm2' : H m2 = none := s1.free hm2
    have q : TpAll K (upd (upd H p (.lst (mv.drop (mv.length - n)))) m2 (.lst (mv.take (mv.length - n)))) (mv.take (mv.length - n)) ((S.made.drop n).map Md.toD).reverse := by
      have := (hM.mono (TM.same s3)).take (mv.length - n)
      rw [List.take_reverse, List.length_map, hml, show S.made.length - (S.made.length - n) = n from by omega] at this
      rw [hml, List.map_drop]; exact this
    have R4 := (R.same s3).new_made hR3 upd_same q (ne_of_none ht hm2') (ne_of_none hw hm2')
    have g4 : Go r t m H m2 (upd _ r (.ins (CR K) dx (rdF wd at' len t m2 S.many))) := Go.put s3 hm2'
    have hpr : p ≠ r := (ne_of_none hR hp).symm
    have hpm : p ≠ m2 := ne_of_none (upd_same (H := H) (o := .lst (mv.drop (mv.length - n)))) hm2
    refine ⟨_, rfl, k _ m2 p (mv.drop (mv.length - n)) g4 R4 hp hpm ?_ ?_⟩
    · rw [upd_ne hpr]; exact s2 _ _ upd_same
    · have M2 : TM H _ := (TM.same s3).trans (TM.ins (o := .ins (CR K) dx (rdF wd at' len t m2 S.many)) hR3)
      have := (hM.mono M2).drop (mv.length - n)
      rw [List.drop_reverse, List.length_map, hml, show S.made.length - (S.made.length - n) = n from by omega] at this
      rw [hml, List.map_reverse, List.map_take]; exact this
/-! ### what is made -/
theorem vals_of {H : Hp} : ∀ {xs : List V} {ps : List Md}, TpAll K H xs (ps.map Md.toD) → (∀ p ∈ ps, p.isT = true ∨ p.isP = true) → ∃ ys : List V, TpAll K H ys (ps.map Md.thing) ∧
    ∀ (i : Nat) (x y : V), xs[i]? = some x → ys[i]? = some y → ∃ p zs, x = .ref p ∧ SqT K H p zs ∧ zs[0]? = some y
  | [], [], _, _ => ⟨[], .nil, fun i x y h => by simp at h⟩
  | x :: xs, p :: ps, h, hp => by
    obtain ⟨v, vs, e, h1, h2⟩ := TpAll.cons_inv (show TpAll K H (x :: xs) (p.toD :: ps.map Md.toD) from h)
    injection e with e1 e2
    subst e1 e2
    obtain ⟨ys, hy, hi⟩ := vals_of h2 fun q hq => hp q (List.mem_cons_of_mem _ hq)
    obtain ⟨a, zs, rfl, q1, ⟨v0, q2, q3⟩, _⟩ := md_ix h1 (hp p List.mem_cons_self)
    refine ⟨v0 :: ys, .cons q3 hy, fun i x y h3 h4 => ?_⟩
    cases i with
    | zero => simp at h3 h4; subst h3 h4; exact ⟨a, zs, rfl, q1, q2⟩
    | succ i => exact hi i x y (by simpa using h3) (by simpa using h4)
  | [], p :: ps, h, _ => by cases h
  | x :: xs, [], h, _ => by cases h
theorem Rp.push_ {r t m : Addr} {H : Hp} {len : Nat} {S : PS} (R : Rp K r H len S t m) {mv : List V} (hm : H m = some (.lst mv)) {v : V} {d : Md} (hv : Tp K H v d.toD) : Rp K r (upd H m (.lst (mv ++ [v]))) len (S.push d) t m := by
  obtain ⟨mv2, hm2, hM⟩ := R.made_
  rw [hm] at hm2; cases hm2
  refine R.set_made (md := d :: S.made) ?_
  rw [List.map_cons, List.reverse_cons]
  exact hM.app (.one hv)
def spMakeCall (K : PySem.W.Frag) : Sp := fun vs H Q E => ∃ (r t m : Addr) (len : Nat) (S : PS) (word x : Str) (n : Nat), vs = [.ref r, .str word, .str x, .int n] ∧ Rp K r H len S t m ∧ S.made.length ≤ 1000000 ∧ Out K r t m len H Q E (makeCall word x n S)
theorem ok_make_call (T : Txt K mg w) : Good P w K mg base 2 (mR K "make_call") ["self", "word", "name", "count"] (spMakeCall K) := by
  have GJ := ok_joined (P := P) (base := base) T
  have GP := ok_pop_many (P := P) (base := base) T
  refine good_of T.f_make_call sc_make_call (fun _ _ _ _ _ _ us hl => match us, hl with | [_, _, _, _], _ => rfl) (fun vs H Q E h => ?_) (fun cdv A outer s H vs Q E hr h => ?_)
  · obtain ⟨_, _, _, _, _, _, _, _, rfl, _⟩ := h; rfl
  · obtain ⟨r, t, m, len, S, word, x, n, rfl, R, hz, k⟩ := h
    obtain ⟨dx, wd, at', hR⟩ := R.ins_
    unfold makeCall at k
    by_cases c : n ≤ S.made.length ∧ (S.made.take n).all Md.isT = true
    rotate_left
    · rw [if_neg c] at k; exact k.elim
    rw [if_pos c] at k
    obtain ⟨c1, c2⟩ := c
    refine ⟨_, pss_cons (ps_set (i := 4) sc_make_call.nd rfl (Or.inl rfl) (pm GP hr T.cl T.m_pop_many px (pv 0) (pa_cons (pv 3) pa_nil)))
      (pss_one (ps_expr (pe_bm PySem.F.plainAttrs_list PySem.F.slot_list_append PySem.F.type_list_append mt_append (pe_fld (pv 0) rfl) (pa_cons
        (pf GJ hr T.g_joined px (pa_cons (pe_tup (pa_cons (pv 1) (pa_cons (pv 2) (pa_cons (pe_callTy call_tuple_of (by rfl) T.z_tuple (by decide +kernel) (pa_cons
          (pe_lc (own := [("one", 5)]) (g := gName 5) (tt := tYes) rfl sc_make_call.nd (pi_list (pv 4)) (blkOk_by (own := [("one", 5)]) (N := N_make_call) (sc := defScope s_make_call) (by decide +kernel)) (fun _ _ _ _ _ => pg_name (i := 5) sc_make_call.nd rfl (Or.inl rfl)) (fun _ _ _ _ _ => pts_nil)
            (fun _ _ _ _ _ => pe_ix (ixT K) (pv 5) pe_int (fun _ _ => rfl))) pa_nil)) pa_nil)))) (pa_cons (pv 4) pa_nil))) pa_nil)))), ?_⟩
    refine ⟨_, rfl, r, dx, _, rfl, hR, rd_none, _, rfl, r, t, m, len, S, n, rfl, R, c1, fun H1 m1 p xs g1 R1 hp npm hpl hxs => ?_⟩
    obtain ⟨dx1, wd1, at1, hR1⟩ := R1.ins_
    obtain ⟨mv, hm1, hM1⟩ := R1.made_
    have hT : ∀ q ∈ (S.made.take n).reverse, q.isT = true ∨ q.isP = true := fun q hq => .inl (List.all_eq_true.mp c2 q (List.mem_reverse.mp hq))
    obtain ⟨ys, hys, hix⟩ := vals_of hxs hT
    have hxl : xs.length = n := by rw [hxs.len, List.length_map, List.length_reverse, List.length_take]; omega
    have hyl : ys.length = xs.length := by rw [hys.len, hxs.len, List.length_map, List.length_map]
    refine ⟨_, rfl, fl_made T hR1 ⟨.inl ⟨rfl, _, SqL.of hm1⟩, ?_⟩⟩
    refine ⟨_, rfl, _, rfl, _, rfl, p, rfl, ⟨_, SqL.of hpl⟩, fun D hD => lc_map ys hD (SqL.of hpl) hyl (by omega) (fun i x y H2 hx hy s R Z hR => ?_) (fun H2 s2 hD2 => ?_)⟩
    · obtain ⟨q, zs, rfl, h1, h2⟩ := hix i x y hx hy
      exact ⟨rfl, ⟨_, rfl, q, _, _, _, rfl, rfl, s.seqT h1, atI_nat h2, hR _ (Same.refl _)⟩⟩
    · refine ⟨D, ys, rfl, .inl ⟨SqL.of hD2, fun l hl => ?_⟩⟩
      have s3 : Same H1 (upd H2 l (.tup ys)) := s2.trans (same_new hl)
      refine ⟨by show 3 ≤ sizeLine; decide, fun u hu => ?_⟩
      have s4 : Same H1 (upd (upd H2 l (.tup ys)) u (.tup [.str word, .str x, .ref l])) := s3.trans (same_new hu)
      have td : Tp K (upd (upd H2 l (.tup ys)) u (.tup [.str word, .str x, .ref l])) (.ref u) (.tuple [.str word, .str x, .tuple ((S.made.take n).reverse.map Md.thing)]) :=
        tp_new hu (.three (.str _) (.str _) (tp_new hl (hys.mono (TM.same s2))))
      refine ⟨_, rfl, .ref u, _, p, xs, (S.made.take n).reverse, rfl, td, s4.seq (SqL.of hpl), hxs.mono (TM.same s4), hT, by rw [List.length_reverse, List.length_take]; omega, fun H5 q s5 tq => ?_⟩
      have s6 := s4.trans s5
      refine ⟨m1, mv, _, rfl, rfl, s6 _ _ hm1, ?_, ?_⟩
      · have : mv.length ≤ S.made.length := by
          rw [hM1.len, List.length_reverse, List.length_map]
          show (S.made.drop n).length ≤ _
          rw [List.length_drop]; omega
        rw [sizeLine_eq]; omega
      · have R5 := R1.same s6
        exact k _ m1 ((g1.trans (Go.same s6) R1).trans Go.upd_m R5) (R5.push_ (s6 _ _ hm1) tq)
end
end KW

/-! part KMake2 -/
set_option maxHeartbeats 4000000
namespace KW
open PySem PySem.Spec PyProof.Rows L2 KM
section
variable {P : Program} {w : World} {K : PySem.W.Frag} {mg : Str → Option Value} {base : Heap}
def spMake (K : PySem.W.Frag) : Sp := fun vs H Q E => ∃ (r t m : Addr) (len : Nat) (S : PS) (x : Str), vs = [.ref r, .str x, .int 2] ∧ Rp K r H len S t m ∧ S.made.length ≤ 1000000 ∧ Out K r t m len H Q E (doMake x S)
theorem ok_make (T : Txt K mg w) : Good P w K mg base 2 (mR K "make") ["self", "word", "count"] (spMake K) := by
  have GJ := ok_joined (P := P) (base := base) T
  have GP := ok_pop_many (P := P) (base := base) T
  refine good_of T.f_make sc_make (fun _ _ _ _ _ _ us hl => match us, hl with | [_, _, _], _ => rfl) (fun vs H Q E h => ?_) (fun cdv A outer s H vs Q E hr h => ?_)
  · obtain ⟨_, _, _, _, _, _, rfl, _⟩ := h; rfl
  · obtain ⟨r, t, m, len, S, x, rfl, R, hz, k⟩ := h
    obtain ⟨dx, wd, at', hR⟩ := R.ins_
    unfold doMake at k
    obtain ⟨rest, many, todo, made⟩ := S
    match made, R, hz, k with
    | [], _, _, k => exact k.elim
    | [_], _, _, k => exact k.elim
    | b :: a :: l, R, hz, k =>
      have k : Out K r t m len H Q E (if a.isT = true ∧ b.isT = true then .ok { rest := rest, many := many, todo := todo, made := joinedM (.tuple [.str x, a.thing, b.thing]) [a, b] :: l } else .stuck) := k
      by_cases c : a.isT = true ∧ b.isT = true
      rotate_left
      · rw [if_neg c] at k; exact k.elim
      rw [if_pos c] at k
      refine ⟨_, pss_cons (ps_set (i := 3) sc_make.nd rfl (Or.inl rfl) (pm GP hr T.cl T.m_pop_many px (pv 0) (pa_cons (pv 2) pa_nil)))
        (pss_one (ps_expr (pe_bm PySem.F.plainAttrs_list PySem.F.slot_list_append PySem.F.type_list_append mt_append (pe_fld (pv 0) rfl) (pa_cons
          (pf GJ hr T.g_joined px (pa_cons (pe_op op_catT (pe_tup (pa_cons (pv 1) pa_nil)) (pe_callTy call_tuple_of (by rfl) T.z_tuple (by decide +kernel) (pa_cons
            (pe_lc (own := [("one", 4)]) (g := gName 4) (tt := tYes) rfl sc_make.nd (pi_list (pv 3)) (blkOk_by (own := [("one", 4)]) (N := N_make) (sc := defScope s_make) (by decide +kernel)) (fun _ _ _ _ _ => pg_name (i := 4) sc_make.nd rfl (Or.inl rfl)) (fun _ _ _ _ _ => pts_nil)
              (fun _ _ _ _ _ => pe_ix (ixT K) (pv 4) pe_int (fun _ _ => rfl))) pa_nil))) (pa_cons (pv 3) pa_nil))) pa_nil)))), ?_⟩
      refine ⟨_, rfl, r, dx, _, rfl, hR, rd_none, _, rfl, r, t, m, len, _, 2, rfl, R, by show 2 ≤ l.length + 1 + 1; omega, fun H1 m1 p xs g1 R1 hp npm hpl hxs => ?_⟩
      have hxs : TpAll K H1 xs ([a, b].map Md.toD) := hxs
      have R1 : Rp K r H1 len { rest := rest, many := many, todo := todo, made := l } t m1 := R1
      obtain ⟨dx1, wd1, at1, hR1⟩ := R1.ins_
      obtain ⟨mv, hm1, hM1⟩ := R1.made_
      have hT : ∀ q ∈ [a, b], q.isT = true ∨ q.isP = true := fun q hq => by
        rcases List.mem_cons.mp hq with rfl | hq
        · exact .inl c.1
        · rcases List.mem_cons.mp hq with rfl | hq
          · exact .inl c.2
          · cases hq
      obtain ⟨ys, hys, hix⟩ := vals_of hxs hT
      have hxl : xs.length = 2 := hxs.len
      have hyl : ys.length = xs.length := by rw [hys.len, hxs.len, List.length_map, List.length_map]
      refine ⟨_, rfl, fl_made T hR1 ⟨.inl ⟨rfl, _, SqL.of hm1⟩, ?_⟩⟩
      refine ⟨_, rfl, by show 1 ≤ sizeLine; decide, fun q1 hq1 => ?_⟩
      have s0 : Same H1 (upd H1 q1 (.tup [.str x])) := same_new hq1
      refine ⟨_, rfl, p, rfl, ⟨_, s0.seq (SqL.of hpl)⟩, fun D hD => lc_map ys hD (s0.seq (SqL.of hpl)) hyl (by omega) (fun i x' y H2 hx hy s R Z hR => ?_) (fun H2 s2 hD2 => ?_)⟩
      · obtain ⟨q, zs, rfl, h1, h2⟩ := hix i x' y hx hy
        exact ⟨rfl, ⟨_, rfl, q, _, _, _, rfl, rfl, (s0.trans s).seqT h1, atI_nat h2, hR _ (Same.refl _)⟩⟩
      · refine ⟨D, ys, rfl, .inl ⟨SqL.of hD2, fun l2 hl2 => ?_⟩⟩
        have s3 : Same H1 (upd H2 l2 (.tup ys)) := (s0.trans s2).trans (same_new hl2)
        have hq1' : (upd H2 l2 (.tup ys)) q1 = some (.tup [.str x]) := by
          have := s2 _ _ (upd_same (H := H1) (a := q1) (o := .tup [.str x]))
          rw [upd_ne (ne_of_none this hl2)]; exact this
        refine ⟨q1, l2, [.str x], ys, rfl, rfl, SqT.of hq1', SqT.of upd_same, by simp, by rw [hyl, hxl, sizeLine_eq]; simp, fun z => ?_, fun _ u hu => ?_⟩
        · rw [z] at hyl; rw [hxl] at hyl; cases hyl
        · have s4 : Same H1 (upd (upd H2 l2 (.tup ys)) u (.tup ([.str x] ++ ys))) := s3.trans (same_new hu)
          have td : Tp K (upd (upd H2 l2 (.tup ys)) u (.tup ([.str x] ++ ys))) (.ref u) (.tuple [.str x, a.thing, b.thing]) :=
            tp_new hu ((TpAll.one (.str x)).app (hys.mono (TM.same s3)))
          refine ⟨_, rfl, .ref u, _, p, xs, [a, b], rfl, td, s4.seq (SqL.of hpl), hxs.mono (TM.same s4), hT, by simp, fun H5 q s5 tq => ?_⟩
          have s6 := s4.trans s5
          refine ⟨m1, mv, _, rfl, rfl, s6 _ _ hm1, ?_, ?_⟩
          · have : mv.length = l.length := by rw [hM1.len, List.length_reverse, List.length_map]
            simp only [List.length_cons] at hz
            rw [sizeLine_eq]; omega
          · have R5 := R1.same s6
            exact k _ m1 ((g1.trans (Go.same s6) R1).trans Go.upd_m R5) (R5.push_ (s6 _ _ hm1) tq)
def spBound (K : PySem.W.Frag) : Sp := fun vs H Q E => ∃ (r t m : Addr) (len : Nat) (S : PS) (x y : Str), vs = [.ref r, .str x, .str y] ∧ Rp K r H len S t m ∧ S.made.length ≤ 1000000 ∧ Out K r t m len H Q E (doBnd x y S)
theorem ok_make_bound (T : Txt K mg w) : Good P w K mg base 2 (mR K "make_bound") ["self", "word", "sort"] (spBound K) := by
  have GJ := ok_joined (P := P) (base := base) T
  have GP := ok_pop_many (P := P) (base := base) T
  refine good_of T.f_make_bound sc_make_bound (fun _ _ _ _ _ _ us hl => match us, hl with | [_, _, _], _ => rfl) (fun vs H Q E h => ?_) (fun cdv A outer s H vs Q E hr h => ?_)
  · obtain ⟨_, _, _, _, _, _, _, rfl, _⟩ := h; rfl
  · obtain ⟨r, t, m, len, S, x, y, rfl, R, hz, k⟩ := h
    obtain ⟨dx, wd, at', hR⟩ := R.ins_
    unfold doBnd at k
    obtain ⟨rest, many, todo, made⟩ := S
    match made, R, hz, k with
    | [], _, _, k => exact k.elim
    | a :: l, R, hz, k =>
      have k : Out K r t m len H Q E (if a.isT = true then .ok { rest := rest, many := many - 1, todo := todo, made := joinedM (.tuple [.str x, .str y, a.thing]) [a] :: l } else .stuck) := k
      by_cases c : a.isT = true
      rotate_left
      · rw [if_neg c] at k; exact k.elim
      rw [if_pos c] at k
      refine ⟨_, pss_cons (ps_fld (pv 0) (pe_op op_sub (pe_fld (pv 0) rfl) pe_int) rfl)
        (pss_cons (ps_set (i := 3) sc_make_bound.nd rfl (Or.inl rfl) (pm GP hr T.cl T.m_pop_many px (pv 0) (pa_cons pe_int pa_nil)))
        (pss_one (ps_expr (pe_bm PySem.F.plainAttrs_list PySem.F.slot_list_append PySem.F.type_list_append mt_append (pe_fld (pv 0) rfl) (pa_cons
          (pf GJ hr T.g_joined px (pa_cons (pe_tup (pa_cons (pv 1) (pa_cons (pv 2) (pa_cons (pe_ix ix_tup (pe_ix ix_list (pv 3) pe_int (fun _ _ => rfl)) pe_int (fun _ _ => rfl)) pa_nil)))) (pa_cons (pv 3) pa_nil))) pa_nil))))), ?_⟩
      refine ⟨_, rfl, fl_many T hR ⟨_, _, rfl, rfl, _, rfl, st_many T hR ?_⟩⟩
      have R0 := R.set_many (z := many - 1) hR
      refine ⟨_, rfl, r, dx, _, rfl, upd_same, rd_none, r, t, m, len, _, 1, rfl, R0, by show 1 ≤ l.length + 1; omega, fun H1 m1 p xs g1 R1 hp npm hpl hxs => ?_⟩
      have hxs : TpAll K H1 xs ([a].map Md.toD) := hxs
      have R1 : Rp K r H1 len { rest := rest, many := many - 1, todo := todo, made := l } t m1 := R1
      have g1 : Go r t m H m1 H1 := Go.trans Go.upd_r g1 R0
      obtain ⟨dx1, wd1, at1, hR1⟩ := R1.ins_
      obtain ⟨mv, hm1, hM1⟩ := R1.made_
      have hT : ∀ q ∈ [a], q.isT = true ∨ q.isP = true := fun q hq => by
        rcases List.mem_cons.mp hq with rfl | hq
        · exact .inl c
        · cases hq
      obtain ⟨v, vr, rfl, tv, tr⟩ := hxs.cons_inv
      cases tr.nil_inv
      obtain ⟨p0, zs, rfl, h1, ⟨v0, h2, h3⟩, _⟩ := md_ix tv (.inl c)
      refine ⟨_, rfl, fl_made T hR1 ⟨.inl ⟨rfl, _, SqL.of hm1⟩, ?_⟩⟩
      refine ⟨_, rfl, _, rfl, _, rfl, p, _, _, _, rfl, rfl, SqL.of hpl, atI_nat (j := 0) rfl, ?_⟩
      refine ⟨p0, _, _, v0, rfl, rfl, h1, atI_nat (j := 0) h2, ?_⟩
      refine ⟨by show 3 ≤ sizeLine; decide, fun u hu => ?_⟩
      have s4 : Same H1 (upd H1 u (.tup [.str x, .str y, v0])) := same_new hu
      have td : Tp K (upd H1 u (.tup [.str x, .str y, v0])) (.ref u) (.tuple [.str x, .str y, a.thing]) := tp_new hu (.three (.str _) (.str _) h3)
      refine ⟨_, rfl, .ref u, _, p, _, [a], rfl, td, s4.seq (SqL.of hpl), hxs.mono (TM.same s4), hT, by simp, fun H5 q s5 tq => ?_⟩
      have s6 := s4.trans s5
      refine ⟨m1, mv, _, rfl, rfl, s6 _ _ hm1, ?_, ?_⟩
      · have : mv.length = l.length := by rw [hM1.len, List.length_reverse, List.length_map]
        simp only [List.length_cons] at hz
        rw [sizeLine_eq]; omega
      · have R5 := R1.same s6
        exact k _ m1 ((g1.trans (Go.same s6) R1).trans Go.upd_m R5) (R5.push_ (s6 _ _ hm1) tq)
def spMkNot (K : PySem.W.Frag) : Sp := fun vs H Q E => ∃ (r t m : Addr) (len : Nat) (S : PS), vs = [.ref r] ∧ Rp K r H len S t m ∧ S.made.length ≤ 1000000 ∧ Out K r t m len H Q E (doMknot S)
theorem ok_make_not (T : Txt K mg w) : Good P w K mg base 2 (mR K "make_not") ["self"] (spMkNot K) := by
  have GJ := ok_joined (P := P) (base := base) T
  have GP := ok_pop_many (P := P) (base := base) T
  refine good_of T.f_make_not sc_make_not (fun _ _ _ _ _ _ us hl => match us, hl with | [_], _ => rfl) (fun vs H Q E h => ?_) (fun cdv A outer s H vs Q E hr h => ?_)
  · obtain ⟨_, _, _, _, _, rfl, _⟩ := h; rfl
  · obtain ⟨r, t, m, len, S, rfl, R, hz, k⟩ := h
    obtain ⟨dx, wd, at', hR⟩ := R.ins_
    unfold doMknot at k
    obtain ⟨rest, many, todo, made⟩ := S
    match made, R, hz, k with
    | [], _, _, k => exact k.elim
    | a :: l, R, hz, k =>
      have k : Out K r t m len H Q E (if a.isT = true then .ok { rest := rest, many := many, todo := todo, made := joinedM (.tuple [.str "if", a.thing, NOd]) [a, .T NOd 1 1] :: l } else .stuck) := k
      by_cases c : a.isT = true
      rotate_left
      · rw [if_neg c] at k; exact k.elim
      rw [if_pos c] at k
      refine ⟨_, pss_cons (ps_set (i := 1) sc_make_not.nd rfl (Or.inl rfl) (pm GP hr T.cl T.m_pop_many px (pv 0) (pa_cons pe_int pa_nil)))
        (pss_one (ps_expr (pe_bm PySem.F.plainAttrs_list PySem.F.slot_list_append PySem.F.type_list_append mt_append (pe_fld (pv 0) rfl) (pa_cons
          (pf GJ hr T.g_joined px (pa_cons (pe_tup (pa_cons pe_str (pa_cons (pe_ix ix_tup (pe_ix ix_list (pv 1) pe_int (fun _ _ => rfl)) pe_int (fun _ _ => rfl)) (pa_cons (pg_r T.g_NO) pa_nil))))
            (pa_cons (pe_op op_cat (pv 1) (pe_lst (pa_cons (pe_tup (pa_cons (pg_r T.g_NO) (pa_cons pe_int (pa_cons pe_int pa_nil)))) pa_nil))) pa_nil))) pa_nil)))), ?_⟩
      refine ⟨_, rfl, r, dx, _, rfl, hR, rd_none, r, t, m, len, _, 1, rfl, R, by show 1 ≤ l.length + 1; omega, fun H1 m1 p xs g1 R1 hp npm hpl hxs => ?_⟩
      have hxs : TpAll K H1 xs ([a].map Md.toD) := hxs
      have R1 : Rp K r H1 len { rest := rest, many := many, todo := todo, made := l } t m1 := R1
      obtain ⟨dx1, wd1, at1, hR1⟩ := R1.ins_
      obtain ⟨mv, hm1, hM1⟩ := R1.made_
      obtain ⟨v, vr, rfl, tv, tr⟩ := hxs.cons_inv
      cases tr.nil_inv
      obtain ⟨p0, zs, rfl, h1, ⟨v0, h2, h3⟩, _⟩ := md_ix tv (.inl c)
      have tno : ∀ G : Hp, Tp K G (.ref (He.ga K "NO")) NOd := fun G => .tup (T.c_NO G) (.one (.str _))
      refine ⟨_, rfl, fl_made T hR1 ⟨.inl ⟨rfl, _, SqL.of hm1⟩, ?_⟩⟩
      refine ⟨_, rfl, p, _, _, _, rfl, rfl, SqL.of hpl, atI_nat (j := 0) rfl, ?_⟩
      refine ⟨p0, _, _, v0, rfl, rfl, h1, atI_nat (j := 0) h2, ?_⟩
      refine ⟨by show 3 ≤ sizeLine; decide, fun u hu => ?_⟩
      have s1 : Same H1 (upd H1 u (.tup [.str "if", v0, .ref (He.ga K "NO")])) := same_new hu
      refine ⟨_, rfl, by show 3 ≤ sizeLine; decide, fun u2 hu2 => ?_⟩
      have s2 := s1.trans (same_new (o := .tup [.ref (He.ga K "NO"), .int 1, .int 1]) hu2)
      refine ⟨by show 1 ≤ sizeLine; decide, fun u3 hu3 => ?_⟩
      have s3 := s2.trans (same_new (o := .lst [.ref u2]) hu3)
      refine ⟨p, u3, _, _, rfl, rfl, s3 _ _ hpl, upd_same, by show 2 ≤ sizeLine; decide, fun u4 hu4 => ?_⟩
      have s4 := s3.trans (same_new (o := .lst ([.ref p0] ++ [.ref u2])) hu4)
      have td : Tp K _ (.ref u) (.tuple [.str "if", a.thing, NOd]) := (tp_new hu (.three (.str _) h3 (tno _))).mono (TM.same (((same_new (o := .tup [.ref (He.ga K "NO"), .int 1, .int 1]) hu2).trans (same_new (o := .lst [.ref u2]) hu3)).trans (same_new (o := .lst ([.ref p0] ++ [.ref u2])) hu4)))
      have te : Tp K _ (.ref u2) (Md.T NOd 1 1).toD := (tp_new hu2 (.three (tno _) (.int _) (.int _))).mono (TM.same ((same_new (o := .lst [.ref u2]) hu3).trans (same_new (o := .lst ([.ref p0] ++ [.ref u2])) hu4)))
      have hT : ∀ q ∈ [a, Md.T NOd 1 1], q.isT = true ∨ q.isP = true := fun q hq => by
        rcases List.mem_cons.mp hq with rfl | hq
        · exact .inl c
        · rcases List.mem_cons.mp hq with rfl | hq
          · exact .inl rfl
          · cases hq
      refine ⟨.ref u, _, u4, _, [a, .T NOd 1 1], rfl, td, SqL.of upd_same, .two (tv.mono (TM.same s4)) te, hT, by simp, fun H5 q s5 tq => ?_⟩
      have s6 := s4.trans s5
      refine ⟨m1, mv, _, rfl, rfl, s6 _ _ hm1, ?_, ?_⟩
      · have : mv.length = l.length := by rw [hM1.len, List.length_reverse, List.length_map]
        simp only [List.length_cons] at hz
        rw [sizeLine_eq]; omega
      · have R5 := R1.same s6
        exact k _ m1 ((g1.trans (Go.same s6) R1).trans Go.upd_m R5) (R5.push_ (s6 _ _ hm1) tq)
end
end KW

/-! part KPar1 -/
set_option maxHeartbeats 4000000
namespace KW
open PySem PySem.Spec PyProof.Rows L2 KM
theorem kind_var {w : Wd} (h : w.kind = "var") : ∃ n, w = .var n := by
  cases w with
  | var n => exact ⟨n, rfl⟩
  | _ => simp only [Wd.kind] at h; exact absurd h (by decide +kernel)
theorem kind_name {w : Wd} (h : w.kind = "name") : ∃ x, w = .name x := by
  cases w with
  | name n => exact ⟨n, rfl⟩
  | _ => simp only [Wd.kind] at h; exact absurd h (by decide +kernel)
theorem kind_num {w : Wd} (h : w.kind = "number") : ∃ n, w = .num n := by
  cases w with
  | num n => exact ⟨n, rfl⟩
  | _ => simp only [Wd.kind] at h; exact absurd h (by decide +kernel)
theorem kind_told {w : Wd} (h : w.kind = "told") : ∃ x, w = .told x := by
  cases w with
  | told n => exact ⟨n, rfl⟩
  | _ => simp only [Wd.kind] at h; exact absurd h (by decide +kernel)
theorem not_var {w : Wd} (h : ¬ w.kind = "var") : ∀ n, w ≠ .var n := fun n e => h (by rw [e]; rfl)
theorem not_name {w : Wd} (h : ¬ w.kind = "name") : ∀ n, w ≠ .name n := fun n e => h (by rw [e]; rfl)
theorem not_num {w : Wd} (h : ¬ w.kind = "number") : ∀ n, w ≠ .num n := fun n e => h (by rw [e]; rfl)
theorem not_told {w : Wd} (h : ¬ w.kind = "told") : ∀ n, w ≠ .told n := fun n e => h (by rw [e]; rfl)
def Sz (S : PS) : Prop := S.todo.length ≤ 1000000 ∧ S.made.length ≤ 1000000
/-- the promise of a method of the reader that steps as the mirror's g -/
def spG (K : PySem.W.Frag) (g : Nat → PS → Rs) : Sp := fun vs H Q E => ∃ (r t m : Addr) (len : Nat) (S : PS), vs = [.ref r] ∧ Rp K r H len S t m ∧ Sz S ∧ Out K r t m len H Q E (g len S)
theorem spG_len {K : PySem.W.Frag} {g : Nat → PS → Rs} : ∀ vs H Q E, spG K g vs H Q E → vs.length = 1 := fun vs H Q E h => by
  obtain ⟨_, _, _, _, _, rfl, _⟩ := h; rfl
/-- the parts of a word's tuple -/
theorem wd_parts {K : PySem.W.Frag} {H : Hp} {p : Addr} {wd : PW} (tp : Tp K H (.ref p) wd.toD) : ∃ v2, SqT K H p [.str wd.w.kind, v2, .int wd.pos] ∧ Tp K H v2 wd.w.val := by
  obtain ⟨a, xs, e, h1, h2⟩ := tp.tup_inv
  obtain rfl : p = a := by injection e
  obtain ⟨v1, r1, rfl, q1, h3⟩ := h2.cons_inv
  obtain ⟨v2, r2, rfl, q2, h4⟩ := h3.cons_inv
  obtain ⟨v3, r3, rfl, q3, h5⟩ := h4.cons_inv
  cases h5.nil_inv
  cases q1.str_inv
  cases q3.int_inv
  exact ⟨v2, h1, q2⟩
section
variable {P : Program} {w : World} {K : PySem.W.Frag} {mg : Str → Option Value} {base : Heap}
/-! ### do_variable -/
theorem ok_do_variable (T : Txt K mg w) : Good P w K mg base 4 (mR K "do_variable") ["self"] (spG K doVariable) := by
  have G := ok_now (P := P) (base := base) T
  have GW := ok_wrong (P := P) (base := base) T
  have GG := ok_go_on (P := P) (base := base) T
  refine good_of T.f_do_variable sc_do_variable (fun _ _ _ _ _ _ us hl => match us, hl with | [_], _ => rfl) spG_len (fun cdv A outer s H vs Q E hr h => ?_)
  obtain ⟨r, t, m, len, S, rfl, R, hz, k⟩ := h
  obtain ⟨dx, wd, at', hR⟩ := R.ins_
  refine ⟨_, pss_cons (ps_if (PW.pt (pw_or (pt_cmpR op_ne (pe_ix ix_tup (pm0 G (hr.mono (by decide)) T.cl T.m_now px (pv 0)) pe_int (fun _ _ => rfl)) pe_str (nomark _))
        (pw_or1 (pt_cmpR op_ge (pe_ix ix_tup (pm0 G (hr.mono (by decide)) T.cl T.m_now px (pv 0)) pe_int (fun _ _ => rfl)) (pe_fld (pv 0) rfl) (nomark _)))))
      (pss_one (ps_expr (pm0 GW hr T.cl T.m_wrong px (pv 0)))) pss_nil)
    (pss_one (ps_expr (pe_bm PySem.F.plainAttrs_list PySem.F.slot_list_append PySem.F.type_list_append mt_append (pe_fld (pv 0) rfl) (pa_cons
      (pe_tup (pa_cons (pe_tup (pa_cons pe_str (pa_cons (pe_op op_sub (pe_op op_sub (pe_fld (pv 0) rfl) pe_int) (pm0 GG (hr.mono (by decide)) T.cl T.m_go_on px (pv 0))) pa_nil))) (pa_cons pe_int (pa_cons pe_int pa_nil)))) pa_nil)))), ?_⟩
  refine ⟨_, rfl, r, dx, _, rfl, hR, rd_none, r, t, m, len, S, rfl, R, fun H1 p s1 tp => ?_⟩
  obtain ⟨v2, h1, q2⟩ := wd_parts tp
  have R1 := R.same s1
  have hR1 := s1 _ _ hR
  refine ⟨p, _, _, _, rfl, rfl, h1, atI_nat (j := 0) rfl, rfl, _, rfl, ?_⟩
  rw [dec_str, Bool.beq_eq_decide_eq]
  refine iteNot (fun c => iteT ?_) (fun c => ?_)
  · have e : doVariable len S = wrongM len S := by
      unfold doVariable
      split
      · rename_i n e; exact absurd e (not_var c n)
      · rfl
    rw [e] at k
    exact ⟨_, rfl, r, dx, _, rfl, hR1, rd_none, r, t, m, len, S, rfl, R1, k.same s1 R1⟩
  · obtain ⟨n, en⟩ : ∃ n, nw len S = .var n := kind_var c
    refine ⟨_, rfl, r, dx, _, rfl, hR1, rd_none, r, t, m, len, S, rfl, R1, fun H2 p2 s2 tp2 => ?_⟩
    obtain ⟨v3, h3, q3⟩ := wd_parts tp2
    have q3' : Tp K H2 v3 (nw len S).val := q3
    rw [en] at q3'
    cases q3'.int_inv
    have R2 := R1.same s2
    have hR2 := s2 _ _ hR1
    have ed : doVariable len S = if n < S.many then .ok (S.adv.push (.T (.tuple [.str "var", .int (S.many - 1 - n)]) 1 1)) else wrongM len S := by
      unfold doVariable; rw [en]
    rw [ed] at k
    refine ⟨p2, _, _, _, rfl, rfl, h3, atI_nat (j := 1) rfl, _, rfl, fl_many T hR2 ⟨_, _, rfl, rfl, _, rfl, iteD (fun c2 => ?_) (fun c2 => ?_)⟩⟩
    · rw [if_neg (by omega)] at k
      exact ⟨_, rfl, r, dx, _, rfl, hR2, rd_none, r, t, m, len, S, rfl, R2, k.same (s1.trans s2) R2⟩
    · rw [if_pos (by omega)] at k
      have hne : S.rest ≠ [] := nowW_ne (len := len) (fun z => by
        have z' : nw len S = .fin := z
        rw [en] at z'; cases z')
      obtain ⟨mv, hm2, hM2⟩ := R2.made_
      refine ⟨_, rfl, fl_made T hR2 ⟨.inl ⟨rfl, _, SqL.of hm2⟩, ?_⟩⟩
      refine ⟨_, rfl, fl_many T hR2 ⟨_, _, rfl, rfl, ?_⟩⟩
      refine ⟨_, rfl, r, dx, _, rfl, hR2, rd_none, r, t, m, len, S, rfl, R2, hne, fun H3 v g3 R3 tv => ?_⟩
      rw [en] at tv
      cases tv.int_inv
      refine ⟨_, _, rfl, rfl, by show 2 ≤ sizeLine; decide, fun u hu => ?_⟩
      refine ⟨by show 3 ≤ sizeLine; decide, fun u2 hu2 => ?_⟩
      obtain ⟨mv3, hm3, hM3⟩ := R3.made_
      have s3 := (same_new (o := .tup [.str "var", .int (S.many - 1 - n)]) hu).trans (same_new (o := .tup [.ref u, .int 1, .int 1]) hu2)
      have td : Tp K _ (.ref u2) (Md.T (.tuple [.str "var", .int (S.many - 1 - n)]) 1 1).toD := tp_new hu2 (.three (tp_new hu (.two (.str _) (.int _))) (.int _) (.int _))
      have R4 := R3.same s3
      refine ⟨m, mv3, _, rfl, rfl, s3 _ _ hm3, ?_, ?_⟩
      · have : mv3.length = S.made.length := by rw [hM3.len, List.length_reverse, List.length_map]; rfl
        have := hz.2
        rw [sizeLine_eq]; omega
      · exact k _ m ((((Go.same (s1.trans s2)).trans g3 R2).trans (Go.same s3) R3).trans Go.upd_m R4) (R4.push_ (s3 _ _ hm3) td)
/-! ### do_term -/
theorem ok_do_term (T : Txt K mg w) : Good P w K mg base 5 (mR K "do_term") ["self"] (spG K doTerm) := by
  have G := ok_now (P := P) (base := base) T
  have GV := ok_do_variable (P := P) (base := base) T
  have GK := ok_need_kind (P := P) (base := base) T
  have GP := ok_plan (P := P) (base := base) T
  refine good_of T.f_do_term sc_do_term (fun _ _ _ _ _ _ us hl => match us, hl with | [_], _ => rfl) spG_len (fun cdv A outer s H vs Q E hr h => ?_)
  obtain ⟨r, t, m, len, S, rfl, R, hz, k⟩ := h
  obtain ⟨dx, wd, at', hR⟩ := R.ins_
  refine ⟨_, pss_one (ps_if (pt_cmpR op_eq (pe_ix ix_tup (pm0 G (hr.mono (by decide)) T.cl T.m_now px (pv 0)) pe_int (fun _ _ => rfl)) pe_str (nomark _))
      (pss_one (ps_expr (pm0 GV hr T.cl T.m_do_variable px (pv 0))))
      (pss_cons (ps_set (i := 1) sc_do_term.nd rfl (Or.inl rfl) (pm GK hr T.cl T.m_need_kind px (pv 0) (pa_cons pe_str pa_nil)))
        (pss_one (ps_expr (pm GP (hr.mono (by decide)) T.cl T.m_plan px (pv 0) (pa_cons (pe_lst (pa_cons (pe_tup (pa_cons pe_str (pa_cons pe_int pa_nil))) (pa_cons (pe_tup (pa_cons pe_str (pa_cons (pv 1) pa_nil))) pa_nil))) pa_nil)))))), ?_⟩
  refine ⟨_, rfl, r, dx, _, rfl, hR, rd_none, r, t, m, len, S, rfl, R, fun H1 p s1 tp => ?_⟩
  obtain ⟨v2, h1, q2⟩ := wd_parts tp
  have R1 := R.same s1
  have hR1 := s1 _ _ hR
  refine ⟨p, _, _, _, rfl, rfl, h1, atI_nat (j := 0) rfl, rfl, _, rfl, ?_⟩
  rw [dec_str, Bool.beq_eq_decide_eq]
  refine iteD (fun c => ?_) (fun c => ?_)
  · obtain ⟨n, en⟩ : ∃ n, nw len S = .var n := kind_var c
    have e : doTerm len S = doVariable len S := by unfold doTerm; rw [en]
    rw [e] at k
    exact ⟨_, rfl, r, dx, _, rfl, hR1, rd_none, r, t, m, len, S, rfl, R1, hz, k.same s1 R1⟩
  · refine ⟨_, rfl, r, dx, _, rfl, hR1, rd_none, r, t, m, len, S, _, rfl, R1, by decide +kernel, fun c2 H2 v g2 R2 tv => ?_, fun c2 => ?_⟩
    · obtain ⟨x, ex⟩ : ∃ x, nw len S = .name x := kind_name c2
      have e : doTerm len S = .ok (S.adv.add [.args, .call x]) := by unfold doTerm; rw [ex]
      rw [e] at k
      rw [ex] at tv
      cases tv.str_inv
      obtain ⟨dx2, wd2, at2, hR2⟩ := R2.ins_
      refine ⟨_, rfl, r, dx2, _, rfl, hR2, rd_none, ?_⟩
      refine ⟨by show 2 ≤ sizeLine; decide, fun u1 hu1 => ?_⟩
      refine ⟨_, rfl, by show 2 ≤ sizeLine; decide, fun u2 hu2 => ?_⟩
      refine ⟨by show 2 ≤ sizeLine; decide, fun u3 hu3 => ?_⟩
      have s2 := same_new (o := .tup [.str "call", .str x]) hu2
      have s3 := same_new (o := .lst [.ref u1, .ref u2]) hu3
      have s4 := ((same_new (o := .tup [.str "args", .int 0]) hu1).trans s2).trans s3
      have R3 := R2.same s4
      refine ⟨r, t, m, u3, len, S.adv, _, [.args, .call x], rfl, R3, SqL.of upd_same, .two ((tp_new hu1 (.two (.str _) (.int _))).mono (TM.same (s2.trans s3))) ((tp_new hu2 (.two (.str _) (.str _))).mono (TM.same s3)), by simp, ?_, ?_⟩
      · have := hz.1
        show S.todo.length ≤ 2000000
        omega
      · exact (k.shift (((Go.same s1).trans g2 R1).trans (Go.same s4) R2) R3)
    · have e : doTerm len S = wrongM len S := by
        unfold doTerm
        split
        · rename_i n e; exact absurd e (not_var c n)
        · rename_i n e; exact absurd e (not_name c2 n)
        · rfl
      rw [e] at k
      exact k.same s1 R1
end
end KW

/-! part KPar2 -/
set_option maxHeartbeats 4000000
namespace KW
open PySem PySem.Spec PyProof.Rows L2 KM
section
variable {P : Program} {w : World} {K : PySem.W.Frag} {mg : Str → Option Value} {base : Heap}
theorem sz2 {S : PS} (h : Sz S) : S.todo.length ≤ 2000000 := by have := h.1; omega
/-- the next word is a mark: it is there -/
theorem ne_of_now {len : Nat} {S : PS} {w0 : Wd} (e : nw len S = w0) (h : w0 ≠ .fin) : S.rest ≠ [] := nowW_ne (len := len) (by show nw len S ≠ .fin; rw [e]; exact h)
/-- .. pushed -/
theorem room_made {r t m : Addr} {H : Hp} {len : Nat} {S : PS} {mv : List V} (R : Rp K r H len S t m) (hm : H m = some (.lst mv)) (h : S.made.length ≤ 2000000) : mv.length < sizeLine := by
  obtain ⟨mv2, hm2, hM⟩ := R.made_
  rw [hm] at hm2; cases hm2
  have : mv.length = S.made.length := by rw [hM.len, List.length_reverse, List.length_map]
  rw [sizeLine_eq]; omega
/-! ### do_args -/
theorem ok_do_args (T : Txt K mg w) : Good P w K mg base 3 (mR K "do_args") ["self"] (spG K doArgs) := by
  have GM := ok_is_mark (P := P) (base := base) T
  have GP := ok_plan (P := P) (base := base) T
  refine good_of T.f_do_args sc_do_args (fun _ _ _ _ _ _ us hl => match us, hl with | [_], _ => rfl) spG_len (fun cdv A outer s H vs Q E hr h => ?_)
  obtain ⟨r, t, m, len, S, rfl, R, hz, k⟩ := h
  obtain ⟨dx, wd, at', hR⟩ := R.ins_
  refine ⟨_, pss_cons (ps_if (pt_not (pt_val (pm GM hr T.cl T.m_is_mark px (pv 0) (pa_cons pe_str pa_nil))))
      (pss_cons (ps_expr (pe_bm PySem.F.plainAttrs_list PySem.F.slot_list_append PySem.F.type_list_append mt_append (pe_fld (pv 0) rfl) (pa_cons pe_int pa_nil))) (pss_one ps_retN)) pss_nil)
    (pss_cons (ps_fld (pv 0) (pe_op op_add (pe_fld (pv 0) rfl) pe_int) rfl)
    (pss_one (ps_expr (pm GP (hr.mono (by decide)) T.cl T.m_plan px (pv 0) (pa_cons (pe_lst (pa_cons (pe_tup (pa_cons pe_str pa_nil)) (pa_cons (pe_tup (pa_cons pe_str (pa_cons pe_int pa_nil))) pa_nil))) pa_nil))))), ?_⟩
  refine ⟨_, rfl, r, _, _, rfl, hR, rd_none, r, t, m, len, S, _, rfl, R, by decide +kernel, fun H1 s1 => ⟨_, rfl, iteNot (fun c => ?_) (fun c => ?_)⟩⟩
  · have e : doArgs len S = .ok (S.push (.C 0)) := if_neg c
    rw [e] at k
    have R1 := R.same s1
    obtain ⟨mv, hm, hM⟩ := R1.made_
    refine ⟨_, rfl, fl_made T (s1 _ _ hR) ⟨.inl ⟨rfl, _, SqL.of hm⟩, m, mv, _, rfl, rfl, hm, room_made R1 hm (by have := hz.2; omega), ?_⟩⟩
    exact k _ m ((Go.same s1).trans Go.upd_m R1) (R1.push_ hm (.int 0))
  · have e : doArgs len S = .ok (S.adv.add [.term, .more 1]) := if_pos c
    rw [e] at k
    have R1 := R.same s1
    have hR1 := s1 _ _ hR
    have R2 := (R1.adv_ hR1 (ne_of_now c (by simp))).1
    refine ⟨_, rfl, fl_at T hR1 ⟨_, _, rfl, rfl, _, rfl, st_at T hR1 ?_⟩⟩
    refine ⟨_, rfl, r, _, _, rfl, upd_same, rd_none, ?_⟩
    refine ⟨by show 1 ≤ sizeLine; decide, fun u1 hu1 => ?_⟩
    refine ⟨by show 2 ≤ sizeLine; decide, fun u2 hu2 => ?_⟩
    refine ⟨by show 2 ≤ sizeLine; decide, fun ul hul => ?_⟩
    have e1 := same_new (o := .tup [.str "term"]) hu1
    have e2 := same_new (o := .tup [.str "more", .int 1]) hu2
    have el := same_new (o := .lst [.ref u1, .ref u2]) hul
    have ea := ((e1).trans e2).trans el
    have R3 := R2.same ea
    exact ⟨r, t, m, ul, len, S.adv, _, [.term, .more 1], rfl, R3, SqL.of upd_same, (.cons ((tp_new hu1 (.one (.str _))).mono (TM.same ((e2).trans el))) (.cons ((tp_new hu2 (.two (.str _) (.int _))).mono (TM.same (el))) .nil)), by simp, sz2 hz, k.shift (((Go.same s1).trans Go.upd_r R1).trans (Go.same ea) R2) R3⟩
/-! ### do_more -/
def spMore (K : PySem.W.Frag) : Sp := fun vs H Q E => ∃ (r t m : Addr) (len : Nat) (S : PS) (n : Nat), vs = [.ref r, .int n] ∧ Rp K r H len S t m ∧ Sz S ∧ Out K r t m len H Q E (doMore len n S)
theorem ok_do_more (T : Txt K mg w) : Good P w K mg base 5 (mR K "do_more") ["self", "count"] (spMore K) := by
  have GM := ok_is_mark (P := P) (base := base) T
  have GP := ok_plan (P := P) (base := base) T
  have GN := ok_need_word (P := P) (base := base) T
  refine good_of T.f_do_more sc_do_more (fun _ _ _ _ _ _ us hl => match us, hl with | [_, _], _ => rfl) (fun vs H Q E h => by obtain ⟨_, _, _, _, _, _, rfl, _⟩ := h; rfl) (fun cdv A outer s H vs Q E hr h => ?_)
  obtain ⟨r, t, m, len, S, n, rfl, R, hz, k⟩ := h
  obtain ⟨dx, wd, at', hR⟩ := R.ins_
  refine ⟨_, pss_one (ps_if (pt_val (pm GM (hr.mono (by decide)) T.cl T.m_is_mark px (pv 0) (pa_cons pe_str pa_nil)))
      (pss_cons (ps_fld (pv 0) (pe_op op_add (pe_fld (pv 0) rfl) pe_int) rfl)
        (pss_one (ps_expr (pm GP (hr.mono (by decide)) T.cl T.m_plan px (pv 0) (pa_cons (pe_lst (pa_cons (pe_tup (pa_cons pe_str pa_nil)) (pa_cons (pe_tup (pa_cons pe_str (pa_cons (pe_op op_add (pv 1) pe_int) pa_nil))) pa_nil))) pa_nil)))))
      (pss_cons (ps_expr (pm GN hr T.cl T.m_need_word px (pv 0) (pa_cons pe_str (pa_cons pe_str pa_nil))))
        (pss_one (ps_expr (pe_bm PySem.F.plainAttrs_list PySem.F.slot_list_append PySem.F.type_list_append mt_append (pe_fld (pv 0) rfl) (pa_cons (pv 1) pa_nil)))))), ?_⟩
  refine ⟨_, rfl, r, _, _, rfl, hR, rd_none, r, t, m, len, S, _, rfl, R, by decide +kernel, fun H1 s1 => ⟨_, rfl, iteD (fun c => ?_) (fun c => ?_)⟩⟩
  · have e : doMore len n S = .ok (S.adv.add [.term, .more (n + 1)]) := if_pos c
    rw [e] at k
    have R1 := R.same s1
    have hR1 := s1 _ _ hR
    have R2 := (R1.adv_ hR1 (ne_of_now c (by simp))).1
    refine ⟨_, rfl, fl_at T hR1 ⟨_, _, rfl, rfl, _, rfl, st_at T hR1 ?_⟩⟩
    have en : ((n : Int) + 1) = ((n + 1 : Nat) : Int) := by omega
    refine ⟨_, rfl, r, _, _, rfl, upd_same, rd_none, ?_⟩
    refine ⟨by show 1 ≤ sizeLine; decide, fun u1 hu1 => ?_⟩
    refine ⟨_, rfl, _, _, rfl, rfl, by show 2 ≤ sizeLine; decide, fun u2 hu2 => ?_⟩
    refine ⟨by show 2 ≤ sizeLine; decide, fun ul hul => ?_⟩
    have e1 := same_new (o := .tup [.str "term"]) hu1
    have e2 := same_new (o := .tup [.str "more", .int ((n : Int) + 1)]) hu2
    have el := same_new (o := .lst [.ref u1, .ref u2]) hul
    have ea := ((e1).trans e2).trans el
    have R3 := R2.same ea
    exact ⟨r, t, m, ul, len, S.adv, _, [.term, .more (n + 1)], rfl, R3, SqL.of upd_same, (.cons ((tp_new hu1 (.one (.str _))).mono (TM.same ((e2).trans el))) (.cons ((tp_new hu2 (.two (.str _) (by show Tp _ _ (.int ((n : Int) + 1)) _; rw [en]; exact .int _))).mono (TM.same (el))) .nil)), by simp, sz2 hz, k.shift (((Go.same s1).trans Go.upd_r R1).trans (Go.same ea) R2) R3⟩
  · have R1 := R.same s1
    have hR1 := s1 _ _ hR
    refine ⟨_, rfl, r, _, _, rfl, hR1, rd_none, r, t, m, len, S, _, _, .mark ")", rfl, R1, .inl ⟨rfl, rfl⟩, by decide +kernel, ?_⟩
    by_cases c2 : nw len S = .mark ")"
    · have e : doMore len n S = .ok (S.adv.push (.C n)) := (if_neg c).trans (if_pos c2)
      rw [e] at k
      rw [if_pos c2]
      intro H2 m2 g2 R2
      obtain ⟨dx2, wd2, at2, hR2⟩ := R2.ins_
      obtain ⟨mv, hm, hM⟩ := R2.made_
      refine ⟨_, rfl, fl_made T hR2 ⟨.inl ⟨rfl, _, SqL.of hm⟩, _, rfl, m2, mv, _, rfl, rfl, hm, room_made R2 hm (by have := hz.2; show S.made.length ≤ 2000000; omega), ?_⟩⟩
      exact k _ m2 (((Go.same s1).trans g2 R1).trans Go.upd_m R2) (R2.push_ hm (.int n))
    · have e : doMore len n S = wrongM len S := (if_neg c).trans (if_neg c2)
      rw [e] at k
      rw [if_neg c2]
      exact k.same s1 R1
/-! ### do_call, do_same, do_rel -/
def SzW (S : PS) : Prop := S.todo.length ≤ 1900000 ∧ S.made.length ≤ 1900000
theorem Sz.toW {S : PS} (h : Sz S) : SzW S := ⟨by have := h.1; omega, by have := h.2; omega⟩
theorem sz2w {S : PS} (h : SzW S) : S.todo.length ≤ 2000000 := by have := h.1; omega
def spGW (K : PySem.W.Frag) (g : Nat → PS → Rs) : Sp := fun vs H Q E => ∃ (r t m : Addr) (len : Nat) (S : PS), vs = [.ref r] ∧ Rp K r H len S t m ∧ SzW S ∧ Out K r t m len H Q E (g len S)
theorem spGW_len {K : PySem.W.Frag} {g : Nat → PS → Rs} : ∀ vs H Q E, spGW K g vs H Q E → vs.length = 1 := fun vs H Q E h => by obtain ⟨_, _, _, _, _, rfl, _⟩ := h; rfl
def spName (K : PySem.W.Frag) (g : Nat → Str → PS → Rs) : Sp := fun vs H Q E => ∃ (r t m : Addr) (len : Nat) (S : PS) (x : Str), vs = [.ref r, .str x] ∧ Rp K r H len S t m ∧ Sz S ∧ Out K r t m len H Q E (g len x S)
theorem spName_len {g : Nat → Str → PS → Rs} : ∀ vs H Q E, spName K g vs H Q E → vs.length = 2 := fun vs H Q E h => by obtain ⟨_, _, _, _, _, _, rfl, _⟩ := h; rfl
/-- the count on top is taken -/
theorem pop_made {r t m : Addr} {H : Hp} {len : Nat} {S : PS} {d : Md} {l : List Md} (R : Rp K r H len S t m) (e : S.made = d :: l) : ∃ mv v, H m = some (.lst mv) ∧ mv[mv.length - 1]? = some v ∧ Tp K H v d.toD ∧ Rp K r (upd H m (.lst mv.dropLast)) len { S with made := l } t m := by
  obtain ⟨mv, hm, hM⟩ := R.made_
  rw [e, List.map_cons, List.reverse_cons] at hM
  obtain ⟨xs, v, rfl, h1, h2⟩ := hM.snoc_inv
  refine ⟨_, v, hm, by simp, h2, ?_⟩
  rw [List.dropLast_concat]
  exact R.set_made h1
theorem ok_do_call (T : Txt K mg w) : Good P w K mg base 3 (mR K "do_call") ["self", "name"] (spName K fun _ => doCall) := by
  have GC := ok_make_call (P := P) (base := base) T
  refine good_of T.f_do_call sc_do_call (fun _ _ _ _ _ _ us hl => match us, hl with | [_, _], _ => rfl) spName_len (fun cdv A outer s H vs Q E hr h => ?_)
  obtain ⟨r, t, m, len, S, x, rfl, R, hz, k⟩ := h
  obtain ⟨dx, wd, at', hR⟩ := R.ins_
  have k : Out K r t m len H Q E (doCall x S) := k
  refine ⟨_, pss_one (ps_expr (pm GC hr T.cl T.m_make_call px (pv 0) (pa_cons pe_str (pa_cons (pv 1) (pa_cons (pe_bm0 PySem.F.plainAttrs_list PySem.F.slot_list_pop PySem.F.type_list_pop mt_pop (pe_fld (pv 0) rfl)) pa_nil))))), ?_⟩
  cases e : S.made with
  | nil => unfold doCall at k; rw [e] at k; exact k.elim
  | cons d l =>
    cases d with
    | C n =>
      have ed : doCall x S = makeCall "call" x n { S with made := l } := by unfold doCall; rw [e]
      rw [ed] at k
      obtain ⟨mv, v, hm, hv, tv, R1⟩ := pop_made R e
      cases tv.int_inv
      refine ⟨_, rfl, r, _, _, rfl, hR, rd_none, _, rfl, _, rfl, fl_made T hR ⟨.inl ⟨rfl, _, SqL.of hm⟩, m, mv, _, rfl, rfl, hm, hv, ?_⟩⟩
      refine ⟨r, t, m, len, _, _, x, n, rfl, R1, ?_, k.shift Go.upd_m R1⟩
      have := hz.2
      rw [e] at this
      simp only [List.length_cons] at this
      show l.length ≤ 1000000
      omega
    | _ => unfold doCall at k; rw [e] at k; exact k.elim
theorem ok_do_same (T : Txt K mg w) : Good P w K mg base 5 (mR K "do_same") ["self"] (spGW K doSame) := by
  have GP := ok_plan (P := P) (base := base) T
  have GN := ok_need_word (P := P) (base := base) T
  refine good_of T.f_do_same sc_do_same (fun _ _ _ _ _ _ us hl => match us, hl with | [_], _ => rfl) spGW_len (fun cdv A outer s H vs Q E hr h => ?_)
  obtain ⟨r, t, m, len, S, rfl, R, hz, k⟩ := h
  obtain ⟨dx, wd, at', hR⟩ := R.ins_
  refine ⟨_, pss_cons (ps_expr (pm GN hr T.cl T.m_need_word px (pv 0) (pa_cons pe_str (pa_cons pe_str pa_nil))))
    (pss_one (ps_expr (pm GP (hr.mono (by decide)) T.cl T.m_plan px (pv 0) (pa_cons (pe_lst (pa_cons (pe_tup (pa_cons pe_str pa_nil)) (pa_cons (pe_tup (pa_cons pe_str (pa_cons pe_str (pa_cons pe_int pa_nil)))) pa_nil))) pa_nil)))), ?_⟩
  refine ⟨_, rfl, r, _, _, rfl, hR, rd_none, r, t, m, len, S, _, _, .mark "=", rfl, R, .inl ⟨rfl, rfl⟩, by decide +kernel, ?_⟩
  by_cases c : nw len S = .mark "="
  · have e : doSame len S = .ok (S.adv.add [.term, .make "same"]) := if_pos c
    rw [e] at k
    rw [if_pos c]
    intro H2 m g2 R2
    have k := k.shift g2 R2
    obtain ⟨dx2, wd2, at2, hR2⟩ := R2.ins_
    refine ⟨_, rfl, r, _, _, rfl, hR2, rd_none, ?_⟩
    refine ⟨by show 1 ≤ sizeLine; decide, fun u1 hu1 => ?_⟩
    refine ⟨by show 3 ≤ sizeLine; decide, fun u2 hu2 => ?_⟩
    refine ⟨by show 2 ≤ sizeLine; decide, fun ul hul => ?_⟩
    have e1 := same_new (o := .tup [.str "term"]) hu1
    have e2 := same_new (o := .tup [.str "make", .str "same", .int 2]) hu2
    have el := same_new (o := .lst [.ref u1, .ref u2]) hul
    have ea := ((e1).trans e2).trans el
    have R3 := R2.same ea
    exact ⟨r, t, m, ul, len, S.adv, _, [.term, .make "same"], rfl, R3, SqL.of upd_same, (.cons ((tp_new hu1 (.one (.str _))).mono (TM.same ((e2).trans el))) (.cons ((tp_new hu2 (.three (.str _) (.str _) (.int _))).mono (TM.same (el))) .nil)), by simp, sz2w hz, k.shift (Go.same ea) R3⟩
  · have e : doSame len S = wrongM len S := if_neg c
    rw [e] at k
    rw [if_neg c]
    exact k
theorem ok_do_rel (T : Txt K mg w) : Good P w K mg base 6 (mR K "do_rel") ["self", "name"] (spName K doRel) := by
  have GC := ok_make_call (P := P) (base := base) T
  have GS := ok_do_same (P := P) (base := base) T
  have GM := ok_is_mark (P := P) (base := base) T
  refine good_of T.f_do_rel sc_do_rel (fun _ _ _ _ _ _ us hl => match us, hl with | [_, _], _ => rfl) spName_len (fun cdv A outer s H vs Q E hr h => ?_)
  obtain ⟨r, t, m, len, S, x, rfl, R, hz, k⟩ := h
  obtain ⟨dx, wd, at', hR⟩ := R.ins_
  refine ⟨_, pss_cons (ps_set (i := 2) sc_do_rel.nd rfl (Or.inl rfl) (pe_bm0 PySem.F.plainAttrs_list PySem.F.slot_list_pop PySem.F.type_list_pop mt_pop (pe_fld (pv 0) rfl)))
    (pss_one (ps_if (pt_val (pm GM (hr.mono (by decide)) T.cl T.m_is_mark px (pv 0) (pa_cons pe_str pa_nil)))
      (pss_cons (ps_expr (pm GC (hr.mono (by decide)) T.cl T.m_make_call px (pv 0) (pa_cons pe_str (pa_cons (pv 1) (pa_cons (pv 2) pa_nil)))))
        (pss_one (ps_expr (pm0 GS hr T.cl T.m_do_same px (pv 0)))))
      (pss_one (ps_expr (pm GC (hr.mono (by decide)) T.cl T.m_make_call px (pv 0) (pa_cons pe_str (pa_cons (pv 1) (pa_cons (pv 2) pa_nil)))))))), ?_⟩
  cases e : S.made with
  | nil => unfold doRel at k; rw [e] at k; exact k.elim
  | cons d l =>
    cases d with
    | C n =>
      have ed : doRel len x S = if nw len S = .mark "=" then (makeCall "call" x n { S with made := l }).bind (doSame len) else makeCall "rel" x n { S with made := l } := by unfold doRel; rw [e]
      rw [ed] at k
      obtain ⟨mv, v, hm, hv, tv, R1⟩ := pop_made R e
      cases tv.int_inv
      obtain ⟨dx1, wd1, at1, hR1⟩ := R1.ins_
      have hml : l.length ≤ 1000000 := by
        have := hz.2
        rw [e] at this
        simp only [List.length_cons] at this
        omega
      refine ⟨_, rfl, fl_made T hR ⟨.inl ⟨rfl, _, SqL.of hm⟩, m, mv, _, rfl, rfl, hm, hv, ?_⟩⟩
      refine ⟨_, rfl, r, _, _, rfl, hR1, rd_none, r, t, m, len, _, _, rfl, R1, by decide +kernel, fun H2 s2 => ⟨_, rfl, iteD (fun c => ?_) (fun c => ?_)⟩⟩
      · have c : nw len S = .mark "=" := c
        rw [if_pos c] at k
        have R2 := R1.same s2
        have k := k.shift (Go.upd_m.trans (Go.same s2) R1) R2
        refine ⟨_, rfl, r, _, _, rfl, s2 _ _ hR1, rd_none, _, rfl, _, rfl, r, t, m, len, _, _, x, n, rfl, R2, hml, ?_⟩
        cases em : makeCall "call" x n { S with made := l } with
        | stuck => rw [em] at k; exact k.elim
        | err p => rw [em] at k; exact k
        | ok S3 =>
          rw [em] at k
          have k : Out K r t m len H2 Q E (doSame len S3) := k
          intro H3 m3 g3 R3
          obtain ⟨dx3, wd3, at3, hR3⟩ := R3.ins_
          have hS3 : S3.todo = S.todo ∧ S3.made.length ≤ l.length + 1 := by
            unfold makeCall at em
            split at em
            · injection em with em
              subst em
              refine ⟨rfl, ?_⟩
              show (List.drop n l).length + 1 ≤ _
              rw [List.length_drop]; omega
            · cases em
          refine ⟨_, rfl, r, _, _, rfl, hR3, rd_none, r, t, m3, len, S3, rfl, R3, ⟨by rw [hS3.1]; have := hz.1; omega, ?_⟩, k.shift g3 R3⟩
          have := hz.2
          rw [e] at this
          simp only [List.length_cons] at this
          have := hS3.2
          omega
      · have c : ¬ nw len S = .mark "=" := c
        rw [if_neg c] at k
        have R2 := R1.same s2
        have k := k.shift (Go.upd_m.trans (Go.same s2) R1) R2
        exact ⟨_, rfl, r, _, _, rfl, s2 _ _ hR1, rd_none, _, rfl, _, rfl, r, t, m, len, _, _, x, n, rfl, R2, hml, k⟩
    | _ => unfold doRel at k; rw [e] at k; exact k.elim
end
end KW

/-! part KPar3 -/
set_option maxHeartbeats 4000000
namespace KW
open PySem PySem.Spec PyProof.Rows L2 KM
section
variable {P : Program} {w : World} {K : PySem.W.Frag} {mg : Str → Option Value} {base : Heap}
/-! ### do_bound -/
theorem ok_do_bound (T : Txt K mg w) : Good P w K mg base 5 (mR K "do_bound") ["self", "word"] (spName K doBound) := by
  have G := ok_now (P := P) (base := base) T
  have GW := ok_wrong (P := P) (base := base) T
  have GN := ok_need_word (P := P) (base := base) T
  have GK := ok_need_kind (P := P) (base := base) T
  have GP := ok_plan (P := P) (base := base) T
  refine good_of T.f_do_bound sc_do_bound (fun _ _ _ _ _ _ us hl => match us, hl with | [_, _], _ => rfl) spName_len (fun cdv A outer s H vs Q E hr h => ?_)
  obtain ⟨r, t, m, len, S, x, rfl, R, hz, k⟩ := h
  obtain ⟨dx, wd, at', hR⟩ := R.ins_
  refine ⟨_, pss_cons (ps_if (pt_cmpR (op_neD hr.units) (pe_slice sl_tup (pm0 G (hr.mono (by decide)) T.cl T.m_now px (pv 0)) po_none (po_some pe_int)) (pe_tup (pa_cons pe_str (pa_cons (pe_fld (pv 0) rfl) pa_nil))) (nomark _))
        (pss_one (ps_expr (pm0 GW (hr.mono (by decide)) T.cl T.m_wrong px (pv 0)))) pss_nil)
    (pss_cons (ps_fld (pv 0) (pe_op op_add (pe_fld (pv 0) rfl) pe_int) rfl)
    (pss_cons (ps_expr (pm GN hr T.cl T.m_need_word px (pv 0) (pa_cons pe_str (pa_cons pe_str pa_nil))))
    (pss_cons (ps_set (i := 2) sc_do_bound.nd rfl (Or.inl rfl) (pm GK hr T.cl T.m_need_kind px (pv 0) (pa_cons pe_str pa_nil)))
    (pss_cons (ps_expr (pm GN hr T.cl T.m_need_word px (pv 0) (pa_cons pe_str (pa_cons pe_str pa_nil))))
    (pss_cons (ps_fld (pv 0) (pe_op op_add (pe_fld (pv 0) rfl) pe_int) rfl)
    (pss_one (ps_expr (pm GP (hr.mono (by decide)) T.cl T.m_plan px (pv 0) (pa_cons (pe_lst (pa_cons (pe_tup (pa_cons pe_str pa_nil)) (pa_cons (pe_tup (pa_cons pe_str (pa_cons (pv 1) (pa_cons (pv 2) pa_nil)))) pa_nil))) pa_nil))))))))), ?_⟩
  refine ⟨_, rfl, r, dx, _, rfl, hR, rd_none, r, t, m, len, S, rfl, R, fun H1 p s1 tp => ?_⟩
  obtain ⟨xs, hp, hl, tq⟩ := cut2 tp
  refine ⟨_, rfl, p, xs, rfl, hp, not_whole2 hl, fun q hq => ?_⟩
  have s1q : Same H (upd H1 q (.tup (cutV xs none (some 2)))) := s1.trans (same_new hq)
  refine ⟨_, rfl, fl_many T (s1q _ _ hR) ⟨by show 2 ≤ sizeLine; decide, fun q2 hq2 => ?_⟩⟩
  have s2 : Same (upd H1 q (.tup (cutV xs none (some 2)))) (upd (upd H1 q (.tup (cutV xs none (some 2)))) q2 (.tup [.str "var", .int S.many])) := same_new hq2
  have s3 := s1q.trans s2
  refine ⟨_, _, ((tq q hq).mono (TM.same s2)).dp, (tp_new hq2 (.two (.str "var") (.int S.many))).dp, two_shaped strOk_kind (now_ok R) (val_depth _), two_shaped (by decide +kernel) rfl rfl, ?_⟩
  rw [eqv_var]
  have R3 := R.same s3
  have hR3 := s3 _ _ hR
  have k := k.same s3 R3
  unfold doBound at k
  refine ⟨_, rfl, iteNot (fun c => ?_) (fun c => ?_)⟩
  · rw [if_neg c] at k
    exact ⟨_, rfl, r, dx, _, rfl, hR3, rd_none, r, t, m, len, S, rfl, R3, k⟩
  have c : nw len S = .var S.many := c
  rw [if_pos c] at k
  have R4 := (R3.adv_ hR3 (ne_of_now c (by simp))).1
  refine ⟨_, rfl, fl_at T hR3 ⟨_, _, rfl, rfl, _, rfl, st_at T hR3 ?_⟩⟩
  have k := k.shift Go.upd_r R4
  refine ⟨_, rfl, r, _, _, rfl, upd_same, rd_none, r, t, m, len, S.adv, _, _, .mark ":", rfl, R4, .inl ⟨rfl, rfl⟩, by decide +kernel, ?_⟩
  unfold needMark at k
  by_cases c1 : nw len S.adv = .mark ":"
  rotate_left
  · rw [if_neg c1]
    rw [if_neg c1] at k
    exact k
  rw [if_pos c1]
  rw [if_pos c1] at k
  intro H5 m g5 R5
  have k : Out K r t m len H5 Q E (doBound2 len x S.adv.adv) := k.shift g5 R5
  obtain ⟨dx5, wd5, at5, hR5⟩ := R5.ins_
  refine ⟨_, rfl, r, _, _, rfl, hR5, rd_none, r, t, m, len, S.adv.adv, _, rfl, R5, by decide +kernel, fun c2 H6 v g6 R6 tv => ?_, fun c2 => ?_⟩
  rotate_left
  · have e : doBound2 len x S.adv.adv = wrongM len S.adv.adv := by
      unfold doBound2
      split
      · rename_i n e; exact absurd e (not_name c2 n)
      · rfl
    rw [e] at k
    exact k
  obtain ⟨y, ey⟩ : ∃ y, nw len S.adv.adv = .name y := kind_name c2
  rw [ey] at tv
  cases tv.str_inv
  have e : doBound2 len x S.adv.adv = doBound3 len x y S.adv.adv.adv := by unfold doBound2; rw [ey]
  rw [e] at k
  have k := k.shift g6 R6
  unfold doBound3 needMark at k
  obtain ⟨dx6, wd6, at6, hR6⟩ := R6.ins_
  refine ⟨_, rfl, r, _, _, rfl, hR6, rd_none, r, t, m, len, S.adv.adv.adv, _, _, .mark ".", rfl, R6, .inl ⟨rfl, rfl⟩, by decide +kernel, ?_⟩
  by_cases c3 : nw len S.adv.adv.adv = .mark "."
  rotate_left
  · rw [if_neg c3]
    rw [if_neg c3] at k
    exact k
  rw [if_pos c3]
  rw [if_pos c3] at k
  intro H7 m g7 R7
  have k : Out K r t m len H7 Q E (.ok ({ S.adv.adv.adv.adv with many := S.many + 1 }.add [.stmt, .bound x y])) := k.shift g7 R7
  obtain ⟨dx7, wd7, at7, hR7⟩ := R7.ins_
  have R2 := R7.set_many (z := S.many + 1) hR7
  refine ⟨_, rfl, fl_many T hR7 ⟨_, _, rfl, rfl, _, rfl, st_many T hR7 ?_⟩⟩
  have k := k.shift Go.upd_r R2
  refine ⟨_, rfl, r, _, _, rfl, upd_same, rd_none, ?_⟩
  refine ⟨by show 1 ≤ sizeLine; decide, fun u1 hu1 => ?_⟩
  refine ⟨_, rfl, _, rfl, by show 3 ≤ sizeLine; decide, fun u2 hu2 => ?_⟩
  refine ⟨by show 2 ≤ sizeLine; decide, fun ul hul => ?_⟩
  have e1 := same_new (o := .tup [.str "statement"]) hu1
  have e2 := same_new (o := .tup [.str "bound", .str x, .str y]) hu2
  have el := same_new (o := .lst [.ref u1, .ref u2]) hul
  have ea := ((e1).trans e2).trans el
  have R3 := R2.same ea
  exact ⟨r, t, m, ul, len, _, _, [.stmt, .bound x y], rfl, R3, SqL.of upd_same, (.cons ((tp_new hu1 (.one (.str _))).mono (TM.same ((e2).trans el))) (.cons ((tp_new hu2 (.three (.str _) (.str _) (.str _))).mono (TM.same (el))) .nil)), by simp, sz2 hz, k.shift (Go.same ea) R3⟩
/-! ### do_not -/
theorem ok_do_not (T : Txt K mg w) : Good P w K mg base 6 (mR K "do_not") ["self"] (spG K doNot) := by
  have G := ok_now (P := P) (base := base) T
  have GM := ok_is_mark (P := P) (base := base) T
  have GT := ok_is_told (P := P) (base := base) T
  have GV := ok_do_variable (P := P) (base := base) T
  have GS := ok_do_same (P := P) (base := base) T
  have GK := ok_need_kind (P := P) (base := base) T
  have GP := ok_plan (P := P) (base := base) T
  refine good_of T.f_do_not sc_do_not (fun _ _ _ _ _ _ us hl => match us, hl with | [_], _ => rfl) spG_len (fun cdv A outer s H vs Q E hr h => ?_)
  obtain ⟨r, t, m, len, S, rfl, R, hz, k⟩ := h
  obtain ⟨dx, wd, at', hR⟩ := R.ins_
  refine ⟨_, (pss_one (ps_if (pt_val (pm GM (hr.mono (by decide)) T.cl T.m_is_mark px (pv 0) (pa_cons pe_str pa_nil))) (pss_cons (ps_fld (pv 0) (pe_op op_add (pe_fld (pv 0) rfl) pe_int) rfl)
      (pss_one (ps_expr (pm GP (hr.mono (by decide)) T.cl T.m_plan px (pv 0) (pa_cons (pe_lst (pa_cons (pe_tup (pa_cons pe_str (pa_cons (pg_i T.c_NOT_LEVEL) pa_nil))) (pa_cons (pe_tup (pa_cons pe_str pa_nil)) pa_nil))) pa_nil))))) (pss_one (ps_if (pt_val (pm GM (hr.mono (by decide)) T.cl T.m_is_mark px (pv 0) (pa_cons pe_str pa_nil))) (pss_cons (ps_fld (pv 0) (pe_op op_add (pe_fld (pv 0) rfl) pe_int) rfl)
      (pss_one (ps_expr (pm GP (hr.mono (by decide)) T.cl T.m_plan px (pv 0) (pa_cons (pe_lst (pa_cons (pe_tup (pa_cons pe_str pa_nil)) (pa_cons (pe_tup (pa_cons pe_str (pa_cons pe_str (pa_cons pe_str pa_nil)))) pa_nil))) pa_nil))))) (pss_one (ps_if (pt_val (pm GT (hr.mono (by decide)) T.cl T.m_is_told px (pv 0) (pa_cons pe_str pa_nil))) (pss_cons (ps_fld (pv 0) (pe_op op_add (pe_fld (pv 0) rfl) pe_int) rfl)
      (pss_one (ps_expr (pe_bm PySem.F.plainAttrs_list PySem.F.slot_list_append PySem.F.type_list_append mt_append (pe_fld (pv 0) rfl) (pa_cons (pe_tup (pa_cons (pe_tup (pa_cons pe_str pa_nil)) (pa_cons pe_int (pa_cons pe_int pa_nil)))) pa_nil))))) (pss_one (ps_if (pt_cmpR op_eq (pe_ix ix_tup (pm0 G (hr.mono (by decide)) T.cl T.m_now px (pv 0)) pe_int (fun _ _ => rfl)) pe_str (nomark _)) (pss_cons (ps_expr (pm0 GV (hr.mono (by decide)) T.cl T.m_do_variable px (pv 0)))
      (pss_one (ps_expr (pm0 GS (hr.mono (by decide)) T.cl T.m_do_same px (pv 0))))) (pss_cons (ps_set (i := 1) sc_do_not.nd rfl (Or.inl rfl) (pm GK (hr.mono (by decide)) T.cl T.m_need_kind px (pv 0) (pa_cons pe_str pa_nil)))
      (pss_one (ps_expr (pm GP (hr.mono (by decide)) T.cl T.m_plan px (pv 0) (pa_cons (pe_lst (pa_cons (pe_tup (pa_cons pe_str (pa_cons pe_int pa_nil))) (pa_cons (pe_tup (pa_cons pe_str (pa_cons (pv 1) pa_nil))) pa_nil))) pa_nil))))))))))))), ?_⟩
  refine ⟨_, rfl, r, _, _, rfl, hR, rd_none, r, t, m, len, S, _, rfl, R, by decide +kernel, fun H1 s1 => ⟨_, rfl, iteD (fun c => ?_) (fun c1 => ?_)⟩⟩
  · have e : doNot len S = .ok (S.adv.add [.level 3, .mknot]) := by unfold doNot; rw [c]; exact if_pos rfl
    rw [e] at k
    have R1 := R.same s1
    have hR1 := s1 _ _ hR
    have R2 := (R1.adv_ hR1 (ne_of_now c (by simp))).1
    refine ⟨_, rfl, fl_at T hR1 ⟨_, _, rfl, rfl, _, rfl, st_at T hR1 ?_⟩⟩
    refine ⟨_, rfl, r, _, _, rfl, upd_same, rd_none, ?_⟩
    refine ⟨by show 2 ≤ sizeLine; decide, fun u1 hu1 => ?_⟩
    refine ⟨by show 1 ≤ sizeLine; decide, fun u2 hu2 => ?_⟩
    refine ⟨by show 2 ≤ sizeLine; decide, fun ul hul => ?_⟩
    have e1 := same_new (o := .tup [.str "level", .int 3]) hu1
    have e2 := same_new (o := .tup [.str "make_not"]) hu2
    have el := same_new (o := .lst [.ref u1, .ref u2]) hul
    have ea := ((e1).trans e2).trans el
    have R3 := R2.same ea
    exact ⟨r, t, m, ul, len, S.adv, _, [.level 3, .mknot], rfl, R3, SqL.of upd_same, (.cons ((tp_new hu1 (.two (.str _) (.int _))).mono (TM.same ((e2).trans el))) (.cons ((tp_new hu2 (.one (.str _))).mono (TM.same (el))) .nil)), by simp, sz2 hz, k.shift (((Go.same s1).trans Go.upd_r R1).trans (Go.same ea) R2) R3⟩
  have R1 := R.same s1
  have hR1 := s1 _ _ hR
  have k := k.same s1 R1
  refine ⟨_, rfl, r, _, _, rfl, hR1, rd_none, r, t, m, len, S, _, rfl, R1, by decide +kernel, fun H2 s2 => ⟨_, rfl, iteD (fun c => ?_) (fun c2 => ?_)⟩⟩
  · have e : doNot len S = .ok (S.adv.add [.stmt, .take ")"]) := by unfold doNot; rw [c]; exact (if_neg (by decide +kernel)).trans (if_pos rfl)
    rw [e] at k
    have R1 := R1.same s2
    have hR1 := s2 _ _ hR1
    have k := k.same s2 R1
    have R2 := (R1.adv_ hR1 (ne_of_now c (by simp))).1
    refine ⟨_, rfl, fl_at T hR1 ⟨_, _, rfl, rfl, _, rfl, st_at T hR1 ?_⟩⟩
    refine ⟨_, rfl, r, _, _, rfl, upd_same, rd_none, ?_⟩
    refine ⟨by show 1 ≤ sizeLine; decide, fun u1 hu1 => ?_⟩
    refine ⟨by show 3 ≤ sizeLine; decide, fun u2 hu2 => ?_⟩
    refine ⟨by show 2 ≤ sizeLine; decide, fun ul hul => ?_⟩
    have e1 := same_new (o := .tup [.str "statement"]) hu1
    have e2 := same_new (o := .tup [.str "take", .str "mark", .str ")"]) hu2
    have el := same_new (o := .lst [.ref u1, .ref u2]) hul
    have ea := ((e1).trans e2).trans el
    have R3 := R2.same ea
    exact ⟨r, t, m, ul, len, S.adv, _, [.stmt, .take ")"], rfl, R3, SqL.of upd_same, (.cons ((tp_new hu1 (.one (.str _))).mono (TM.same ((e2).trans el))) (.cons ((tp_new hu2 (.three (.str _) (.str _) (.str _))).mono (TM.same (el))) .nil)), by simp, sz2 hz, k.shift (Go.trans Go.upd_r (Go.same ea) R2) R3⟩
  have R2 := R1.same s2
  have hR2 := s2 _ _ hR1
  have k := k.same s2 R2
  refine ⟨_, rfl, r, _, _, rfl, hR2, rd_none, r, t, m, len, S, _, rfl, R2, by decide +kernel, fun H3 s3 => ⟨_, rfl, iteD (fun c => ?_) (fun c3 => ?_)⟩⟩
  · have e : doNot len S = .ok (S.adv.push (.T NOd 1 1)) := by unfold doNot; rw [c]; exact if_pos rfl
    rw [e] at k
    have R1 := R2.same s3
    have hR1 := s3 _ _ hR2
    have k := k.same s3 R1
    have R2 := (R1.adv_ hR1 (ne_of_now c (by simp))).1
    refine ⟨_, rfl, fl_at T hR1 ⟨_, _, rfl, rfl, _, rfl, st_at T hR1 ?_⟩⟩
    obtain ⟨mv, hm, hM⟩ := R2.made_
    refine ⟨_, rfl, fl_made T upd_same ⟨.inl ⟨rfl, _, SqL.of hm⟩, ?_⟩⟩
    refine ⟨by show 1 ≤ sizeLine; decide, fun u hu => ⟨by show 3 ≤ sizeLine; decide, fun u2 hu2 => ?_⟩⟩
    have s4 := (same_new (o := .tup [.str "no"]) hu).trans (same_new (o := .tup [.ref u, .int 1, .int 1]) hu2)
    have td : Tp K _ (.ref u2) (Md.T NOd 1 1).toD := tp_new hu2 (.three (tp_new hu (.one (.str _))) (.int _) (.int _))
    have R4 := R2.same s4
    refine ⟨m, mv, _, rfl, rfl, s4 _ _ hm, room_made R2 hm (by have := hz.2; show S.made.length ≤ 2000000; omega), ?_⟩
    exact k _ m ((Go.trans Go.upd_r (Go.same s4) R2).trans Go.upd_m R4) (R4.push_ (s4 _ _ hm) td)
  have R3 := R2.same s3
  have hR3 := s3 _ _ hR2
  have k := k.same s3 R3
  refine ⟨_, rfl, r, dx, _, rfl, hR3, rd_none, r, t, m, len, S, rfl, R3, fun H4 p s4 tp => ?_⟩
  obtain ⟨v2, h1, q2⟩ := wd_parts tp
  have R4 := R3.same s4
  have hR4 := s4 _ _ hR3
  have k := k.same s4 R4
  refine ⟨p, _, _, _, rfl, rfl, h1, atI_nat (j := 0) rfl, rfl, _, rfl, ?_⟩
  rw [dec_str, Bool.beq_eq_decide_eq]
  refine iteD (fun c => ?_) (fun c => ?_)
  · obtain ⟨n, en⟩ : ∃ n, nw len S = .var n := kind_var c
    have e : doNot len S = (doVariable len S).bind (doSame len) := by unfold doNot; rw [en]
    rw [e] at k
    refine ⟨_, rfl, r, _, _, rfl, hR4, rd_none, r, t, m, len, S, rfl, R4, hz, ?_⟩
    cases ev : doVariable len S with
    | stuck => rw [ev] at k; exact k.elim
    | err p => rw [ev] at k; exact k
    | ok S5 =>
      rw [ev] at k
      have k : Out K r t m len H4 Q E (doSame len S5) := k
      have hS5 : SzW S5 := by
        unfold doVariable at ev
        rw [en] at ev
        have ev : (if n < S.many then Rs.ok (S.adv.push (.T (.tuple [.str "var", .int (S.many - 1 - n)]) 1 1)) else wrongM len S) = .ok S5 := ev
        split at ev
        · injection ev with ev
          subst ev
          exact ⟨by have := hz.1; show S.todo.length ≤ 1900000; omega, by have := hz.2; show S.made.length + 1 ≤ 1900000; omega⟩
        · cases ev
      intro H5 m5 g5 R5
      obtain ⟨dx5, wd5, at5, hR5⟩ := R5.ins_
      exact ⟨_, rfl, r, _, _, rfl, hR5, rd_none, r, t, m5, len, S5, rfl, R5, hS5, k.shift g5 R5⟩
  · refine ⟨_, rfl, r, dx, _, rfl, hR4, rd_none, r, t, m, len, S, _, rfl, R4, by decide +kernel, fun c5 H5 v g5 R5 tv => ?_, fun c5 => ?_⟩
    · obtain ⟨x, ex⟩ : ∃ x, nw len S = .name x := kind_name c5
      have e : doNot len S = .ok (S.adv.add [.args, .rel x]) := by unfold doNot; rw [ex]
      rw [e] at k
      rw [ex] at tv
      cases tv.str_inv
      have R2 := R5
      have k := k.shift g5 R2
      obtain ⟨dx2, wd2, at2, hR2⟩ := R2.ins_
      refine ⟨_, rfl, r, _, _, rfl, hR2, rd_none, ?_⟩
      refine ⟨by show 2 ≤ sizeLine; decide, fun u1 hu1 => ?_⟩
      refine ⟨_, rfl, by show 2 ≤ sizeLine; decide, fun u2 hu2 => ?_⟩
      refine ⟨by show 2 ≤ sizeLine; decide, fun ul hul => ?_⟩
      have e1 := same_new (o := .tup [.str "args", .int 0]) hu1
      have e2 := same_new (o := .tup [.str "rel", .str x]) hu2
      have el := same_new (o := .lst [.ref u1, .ref u2]) hul
      have ea := ((e1).trans e2).trans el
      have R3 := R2.same ea
      exact ⟨r, t, m, ul, len, S.adv, _, [.args, .rel x], rfl, R3, SqL.of upd_same, (.cons ((tp_new hu1 (.two (.str _) (.int _))).mono (TM.same ((e2).trans el))) (.cons ((tp_new hu2 (.two (.str _) (.str _))).mono (TM.same (el))) .nil)), by simp, sz2 hz, k.shift (Go.same ea) R3⟩
    · have e : doNot len S = wrongM len S := by
        unfold doNot
        split
        · rename_i y ey
          rw [if_neg (fun z => c1 (by rw [← z]; exact ey)), if_neg (fun z => c2 (by rw [← z]; exact ey))]
        · rename_i y ey
          rw [if_neg (fun z => c3 (by rw [← z]; exact ey))]
        · rename_i y ey; exact absurd ey (not_var c y)
        · rename_i y ey; exact absurd ey (not_name c5 y)
        · rfl
      rw [e] at k
      exact k
end
end KW

/-! part KPar4 -/
set_option maxHeartbeats 4000000
namespace KW
open PySem PySem.Spec PyProof.Rows L2 KM
theorem iteSF {x y : Str} {A B : Prop} (b : B) (h : ¬ x = y := by decide +kernel) : if decide (V.str x = V.str y) = true then A else B := by
  rw [decide_eq_false (fun z => h (by injection z))]; exact iteF b
theorem iteST {x : Str} {A B : Prop} (a : A) : if decide (V.str x = V.str x) = true then A else B := by
  rw [decide_eq_true rfl]; exact iteT a
theorem dec_nat {a b : Nat} : decide (V.int (a : Int) = V.int (b : Int)) = decide (a = b) := by
  by_cases h : a = b
  · rw [h, decide_eq_true rfl, decide_eq_true rfl]
  · rw [decide_eq_false h, decide_eq_false (fun z => h (by injection z; omega))]
def _root_.KM.Tk.vs : Tk → List V
  | .term => [.str "term"]
  | .args => [.str "args", .int 0]
  | .more k => [.str "more", .int k]
  | .call x => [.str "call", .str x]
  | .rel x => [.str "rel", .str x]
  | .stmt => [.str "statement"]
  | .level a => [.str "level", .int a]
  | .rest a => [.str "rest", .int a]
  | .make x => [.str "make", .str x, .int 2]
  | .mknot => [.str "make_not"]
  | .bound x s => [.str "bound", .str x, .str s]
  | .take x => [.str "take", .str "mark", .str x]
  | .ground => [.str "ground"]
  | .piece c => [.str "piece", .str c.str]
  | .small => [.str "small"]
  | .members => [.str "members"]
  | .less => [.str "less"]
  | .ended x => [.str "ended", .str x]
theorem tk_vs {K : PySem.W.Frag} {H : Hp} {v : V} : ∀ {t : Tk}, Tp K H v t.toD → ∃ p, v = .ref p ∧ SqT K H p t.vs := by
  intro t h
  cases t <;> (
    obtain ⟨a, xs, rfl, h1, h2⟩ := h.tup_inv
    refine ⟨a, rfl, ?_⟩
    first
      | (obtain ⟨v1, r1, rfl, q1, h3⟩ := h2.cons_inv; cases q1; cases h3; exact h1)
      | (obtain ⟨v1, r1, rfl, q1, h3⟩ := h2.cons_inv; obtain ⟨v2, r2, rfl, q2, h4⟩ := h3.cons_inv; cases q1; cases q2; cases h4; exact h1)
      | (obtain ⟨v1, r1, rfl, q1, h3⟩ := h2.cons_inv; obtain ⟨v2, r2, rfl, q2, h4⟩ := h3.cons_inv; obtain ⟨v3, r3, rfl, q3, h5⟩ := h4.cons_inv; cases q1; cases q2; cases q3; cases h5; exact h1))
/-- a task whose signs may be compared -/
def tkOk : Tk → Bool
  | .take x => PyData.strOk x
  | _ => true
section
variable {P : Program} {w : World} {K : PySem.W.Frag} {mg : Str → Option Value} {base : Heap}
/-! ### do_level, do_rest, do_statement -/
def spNat (K : PySem.W.Frag) (g : Nat → Nat → PS → Rs) : Sp := fun vs H Q E => ∃ (r t m : Addr) (len : Nat) (S : PS) (n : Nat), vs = [.ref r, .int n] ∧ Rp K r H len S t m ∧ Sz S ∧ Out K r t m len H Q E (g len n S)
theorem spNat_len {g : Nat → Nat → PS → Rs} : ∀ vs H Q E, spNat K g vs H Q E → vs.length = 2 := fun vs H Q E h => by obtain ⟨_, _, _, _, _, _, rfl, _⟩ := h; rfl
theorem ok_do_level (T : Txt K mg w) : Good P w K mg base 7 (mR K "do_level") ["self", "at"] (spNat K doLevel) := by
  have GN := ok_do_not (P := P) (base := base) T
  have GP := ok_plan (P := P) (base := base) T
  refine good_of T.f_do_level sc_do_level (fun _ _ _ _ _ _ us hl => match us, hl with | [_, _], _ => rfl) spNat_len (fun cdv A outer s H vs Q E hr h => ?_)
  obtain ⟨r, t, m, len, S, n, rfl, R, hz, k⟩ := h
  obtain ⟨dx2, wd2, at2, hR2⟩ := R.ins_
  refine ⟨_, (pss_one (ps_if (pt_cmpR op_eq (pv 1) (pg_i T.c_NOT_LEVEL) (nomark _)) (pss_one (ps_expr (pm0 GN (hr.mono (by decide)) T.cl T.m_do_not px (pv 0)))) (pss_one (ps_expr (pm GP (hr.mono (by decide)) T.cl T.m_plan px (pv 0) (pa_cons (pe_lst (pa_cons (pe_tup (pa_cons pe_str (pa_cons (pe_op op_add (pv 1) pe_int) pa_nil))) (pa_cons (pe_tup (pa_cons pe_str (pa_cons (pv 1) pa_nil))) pa_nil))) pa_nil)))))), ?_⟩
  refine ⟨_, rfl, rfl, _, rfl, ?_⟩
  rw [show decide (V.int (n : Int) = V.int 3) = decide (n = 3) from dec_nat (b := 3)]
  refine iteD (fun c => ?_) (fun c => ?_)
  · have e : doLevel len n S = doNot len S := if_pos c
    rw [e] at k
    exact ⟨_, rfl, r, _, _, rfl, hR2, rd_none, r, t, m, len, S, rfl, R, hz, k⟩
  · have e : doLevel len n S = .ok (S.add [.level (n + 1), .rest n]) := if_neg c
    rw [e] at k
    have R2 := R
    have en : ((n : Int) + 1) = ((n + 1 : Nat) : Int) := by omega
    refine ⟨_, rfl, r, _, _, rfl, hR2, rd_none, ?_⟩
    refine ⟨_, rfl, _, _, rfl, rfl, by show 2 ≤ sizeLine; decide, fun u1 hu1 => ?_⟩
    refine ⟨_, rfl, by show 2 ≤ sizeLine; decide, fun u2 hu2 => ?_⟩
    refine ⟨by show 2 ≤ sizeLine; decide, fun ul hul => ?_⟩
    have e1 := same_new (o := .tup [.str "level", .int ((n : Int) + 1)]) hu1
    have e2 := same_new (o := .tup [.str "rest", .int n]) hu2
    have el := same_new (o := .lst [.ref u1, .ref u2]) hul
    have ea := ((e1).trans e2).trans el
    have R3 := R2.same ea
    exact ⟨r, t, m, ul, len, S, _, [.level (n + 1), .rest n], rfl, R3, SqL.of upd_same, (.cons ((tp_new hu1 (.two (.str _) (by show Tp _ _ (.int ((n : Int) + 1)) _; rw [en]; exact .int _))).mono (TM.same ((e2).trans el))) (.cons ((tp_new hu2 (.two (.str _) (.int _))).mono (TM.same (el))) .nil)), by simp, sz2 hz, k.shift (Go.same ea) R3⟩
theorem signs_cases {a : Nat} {x y : Str} (h : KM.signs[a]? = some x) (h2 : kindsL[a]? = some y) : (a = 0 ∧ x = "->" ∧ y = "if") ∨ (a = 1 ∧ x = "|" ∧ y = "or") ∨ (a = 2 ∧ x = "&" ∧ y = "and") := by
  match a, h, h2 with
  | 0, h, h2 => exact .inl ⟨rfl, (Option.some.inj h).symm, (Option.some.inj h2).symm⟩
  | 1, h, h2 => exact .inr (.inl ⟨rfl, (Option.some.inj h).symm, (Option.some.inj h2).symm⟩)
  | 2, h, h2 => exact .inr (.inr ⟨rfl, (Option.some.inj h).symm, (Option.some.inj h2).symm⟩)
  | n + 3, h, _ => simp [KM.signs] at h
theorem ok_do_rest (T : Txt K mg w) : Good P w K mg base 3 (mR K "do_rest") ["self", "at"] (spNat K doRest) := by
  have GM := ok_is_mark (P := P) (base := base) T
  have GP := ok_plan (P := P) (base := base) T
  refine good_of T.f_do_rest sc_do_rest (fun _ _ _ _ _ _ us hl => match us, hl with | [_, _], _ => rfl) spNat_len (fun cdv A outer s H vs Q E hr h => ?_)
  obtain ⟨r, t, m, len, S, n, rfl, R, hz, k⟩ := h
  obtain ⟨dx, wd, at', hR⟩ := R.ins_
  refine ⟨_, (pss_cons (ps_if (pt_not (pt_val (pm GM (hr.mono (by decide)) T.cl T.m_is_mark px (pv 0) (pa_cons (pe_ix ix_tup (pg_r T.g_SIGNS) (pv 1) (fun _ _ => rfl)) pa_nil)))) (pss_one ps_retN) pss_nil)
      (pss_cons (ps_fld (pv 0) (pe_op op_add (pe_fld (pv 0) rfl) pe_int) rfl)
      (pss_one (ps_if (pt_cmpR op_eq (pv 1) pe_int (nomark _)) (pss_one (ps_expr (pm GP (hr.mono (by decide)) T.cl T.m_plan px (pv 0) (pa_cons (pe_lst (pa_cons (pe_tup (pa_cons pe_str (pa_cons pe_int pa_nil))) (pa_cons (pe_tup (pa_cons pe_str (pa_cons pe_str (pa_cons pe_int pa_nil)))) pa_nil))) pa_nil)))) (pss_one (ps_expr (pm GP (hr.mono (by decide)) T.cl T.m_plan px (pv 0) (pa_cons (pe_lst (pa_cons (pe_tup (pa_cons pe_str (pa_cons (pe_op op_add (pv 1) pe_int) pa_nil))) (pa_cons (pe_tup (pa_cons pe_str (pa_cons (pe_ix ix_tup (pg_r T.g_KINDS) (pv 1) (fun _ _ => rfl)) (pa_cons pe_int pa_nil)))) (pa_cons (pe_tup (pa_cons pe_str (pa_cons (pv 1) pa_nil))) pa_nil)))) pa_nil)))))))), ?_⟩
  unfold doRest at k
  cases e1 : KM.signs[n]? with
  | none => rw [e1] at k; exact k.elim
  | some x =>
  cases e2 : kindsL[n]? with
  | none => rw [e1, e2] at k; exact k.elim
  | some y =>
  rw [e1, e2] at k
  have k : Out K r t m len H Q E (if nw len S = .mark x then .ok (S.adv.add (if n = 0 then [.level 0, .make y] else [.level (n + 1), .make y, .rest n])) else .ok S) := k
  have hc := signs_cases e1 e2
  have hx : PyData.strOk x = true := by rcases hc with ⟨_, rfl, _⟩ | ⟨_, rfl, _⟩ | ⟨_, rfl, _⟩ <;> decide +kernel
  have a1 : (KM.signs.map V.str)[n]? = some (.str x) := by rw [List.getElem?_map, e1]; rfl
  have a2 : (kindsL.map V.str)[n]? = some (.str y) := by rw [List.getElem?_map, e2]; rfl
  refine ⟨_, rfl, r, _, _, rfl, hR, rd_none, _, rfl, _, _, _, _, rfl, rfl, T.c_SIGNS H, atI_nat a1, r, t, m, len, S, x, rfl, R, hx, fun H1 s1 => ⟨_, rfl, iteNot (fun c => ?_) (fun c => ?_)⟩⟩
  · rw [if_neg c] at k
    exact k _ m (Go.same s1) (R.same s1)
  · rw [if_pos c] at k
    have R1 := R.same s1
    have hR1 := s1 _ _ hR
    have R2 := (R1.adv_ hR1 (ne_of_now c (by simp))).1
    refine ⟨_, rfl, fl_at T hR1 ⟨_, _, rfl, rfl, _, rfl, st_at T hR1 ?_⟩⟩
    refine ⟨_, rfl, rfl, _, rfl, ?_⟩
    rw [show decide (V.int (n : Int) = V.int 0) = decide (n = 0) from dec_nat (b := 0)]
    refine iteD (fun c2 => ?_) (fun c2 => ?_)
    · rw [if_pos c2] at k
      obtain rfl : y = "if" := by rcases hc with ⟨_, _, q⟩ | ⟨q, _⟩ | ⟨q, _⟩ <;> first | exact q | omega
      refine ⟨_, rfl, r, _, _, rfl, upd_same, rd_none, ?_⟩
      refine ⟨by show 2 ≤ sizeLine; decide, fun u1 hu1 => ?_⟩
      refine ⟨by show 3 ≤ sizeLine; decide, fun u2 hu2 => ?_⟩
      refine ⟨by show 2 ≤ sizeLine; decide, fun ul hul => ?_⟩
      have e1 := same_new (o := .tup [.str "level", .int 0]) hu1
      have e2 := same_new (o := .tup [.str "make", .str "if", .int 2]) hu2
      have el := same_new (o := .lst [.ref u1, .ref u2]) hul
      have ea := ((e1).trans e2).trans el
      have R3 := R2.same ea
      exact ⟨r, t, m, ul, len, S.adv, _, [.level 0, .make "if"], rfl, R3, SqL.of upd_same, (.cons ((tp_new hu1 (.two (.str _) (.int _))).mono (TM.same ((e2).trans el))) (.cons ((tp_new hu2 (.three (.str _) (.str _) (.int _))).mono (TM.same (el))) .nil)), by simp, sz2 hz, k.shift (((Go.same s1).trans Go.upd_r R1).trans (Go.same ea) R2) R3⟩
    · rw [if_neg c2] at k
      have en : ((n : Int) + 1) = ((n + 1 : Nat) : Int) := by omega
      refine ⟨_, rfl, r, _, _, rfl, upd_same, rd_none, ?_⟩
      refine ⟨_, rfl, _, _, rfl, rfl, by show 2 ≤ sizeLine; decide, fun u1 hu1 => ?_⟩
      refine ⟨_, rfl, _, _, _, _, rfl, rfl, T.c_KINDS _, atI_nat a2, by show 3 ≤ sizeLine; decide, fun u2 hu2 => ?_⟩
      refine ⟨_, rfl, by show 2 ≤ sizeLine; decide, fun u3 hu3 => ?_⟩
      refine ⟨by show 3 ≤ sizeLine; decide, fun ul hul => ?_⟩
      have e1 := same_new (o := .tup [.str "level", .int ((n : Int) + 1)]) hu1
      have e2 := same_new (o := .tup [.str "make", .str y, .int 2]) hu2
      have e3 := same_new (o := .tup [.str "rest", .int n]) hu3
      have el := same_new (o := .lst [.ref u1, .ref u2, .ref u3]) hul
      have ea := (((e1).trans e2).trans e3).trans el
      have R3 := R2.same ea
      exact ⟨r, t, m, ul, len, S.adv, _, [.level (n + 1), .make y, .rest n], rfl, R3, SqL.of upd_same, (.cons ((tp_new hu1 (.two (.str _) (by show Tp _ _ (.int ((n : Int) + 1)) _; rw [en]; exact .int _))).mono (TM.same (((e2).trans e3).trans el))) (.cons ((tp_new hu2 (.three (.str _) (.str _) (.int _))).mono (TM.same ((e3).trans el))) (.cons ((tp_new hu3 (.two (.str _) (.int _))).mono (TM.same (el))) .nil))), by simp, sz2 hz, k.shift (((Go.same s1).trans Go.upd_r R1).trans (Go.same ea) R2) R3⟩
theorem ok_do_statement (T : Txt K mg w) : Good P w K mg base 8 (mR K "do_statement") ["self"] (spG K doStmt) := by
  have GT := ok_is_told (P := P) (base := base) T
  have GG := ok_go_on (P := P) (base := base) T
  have GB := ok_do_bound (P := P) (base := base) T
  have GL := ok_do_level (P := P) (base := base) T
  refine good_of T.f_do_statement sc_do_statement (fun _ _ _ _ _ _ us hl => match us, hl with | [_], _ => rfl) spG_len (fun cdv A outer s H vs Q E hr h => ?_)
  obtain ⟨r, t, m, len, S, rfl, R, hz, k⟩ := h
  obtain ⟨dx, wd, at', hR⟩ := R.ins_
  refine ⟨_, (pss_one (ps_if (PW.pt (pw_or (pt_val (pm GT (hr.mono (by decide)) T.cl T.m_is_told px (pv 0) (pa_cons pe_str pa_nil))) (pw_or1 (pt_val (pm GT (hr.mono (by decide)) T.cl T.m_is_told px (pv 0) (pa_cons pe_str pa_nil)))))) (pss_one (ps_expr (pm GB (hr.mono (by decide)) T.cl T.m_do_bound px (pv 0) (pa_cons (pm0 GG (hr.mono (by decide)) T.cl T.m_go_on px (pv 0)) pa_nil)))) (pss_one (ps_expr (pm GL (hr.mono (by decide)) T.cl T.m_do_level px (pv 0) (pa_cons pe_int pa_nil)))))), ?_⟩
  unfold doStmt at k
  refine ⟨_, rfl, r, _, _, rfl, hR, rd_none, r, t, m, len, S, _, rfl, R, by decide +kernel, fun H1 s1 => ⟨_, rfl, iteD (fun c => iteT ?_) (fun c => ?_)⟩⟩
  · rw [if_pos c] at k
    have R1 := R.same s1
    refine ⟨_, rfl, r, _, _, rfl, s1 _ _ hR, rd_none, _, rfl, r, _, _, rfl, s1 _ _ hR, rd_none, r, t, m, len, S, rfl, R1, ne_of_now c (by simp), fun H2 v g2 R2 tv => ?_⟩
    rw [c] at tv
    cases tv.str_inv
    exact ⟨r, t, m, len, _, _, rfl, R2, hz, k.shift ((Go.same s1).trans g2 R1) R2⟩
  · rw [if_neg c] at k
    have R1 := R.same s1
    have hR1 := s1 _ _ hR
    refine ⟨_, rfl, r, _, _, rfl, hR1, rd_none, r, t, m, len, S, _, rfl, R1, by decide +kernel, fun H2 s2 => ⟨_, rfl, iteD (fun c2 => ?_) (fun c2 => ?_)⟩⟩
    · rw [if_pos c2] at k
      have R2 := R1.same s2
      have hR2 := s2 _ _ hR1
      refine ⟨_, rfl, r, _, _, rfl, hR2, rd_none, _, rfl, r, _, _, rfl, hR2, rd_none, r, t, m, len, S, rfl, R2, ne_of_now c2 (by simp), fun H3 v g3 R3 tv => ?_⟩
      rw [c2] at tv
      cases tv.str_inv
      exact ⟨r, t, m, len, _, _, rfl, R3, hz, k.shift ((Go.same (s1.trans s2)).trans g3 R2) R3⟩
    · rw [if_neg c2] at k
      have R2 := R1.same s2
      exact ⟨_, rfl, r, _, _, rfl, s2 _ _ hR1, rd_none, r, t, m, len, S, 0, rfl, R2, hz, k.same (s1.trans s2) R2⟩
/-! ### work_made, work_plain -/
def spWork (K : PySem.W.Frag) (ok : Tk → Bool) : Sp := fun vs H Q E => ∃ (r t m p : Addr) (len : Nat) (S : PS) (tk : Tk), vs = [.ref r, .ref p] ∧ Rp K r H len S t m ∧ Sz S ∧ SqT K H p tk.vs ∧ ok tk = true ∧ tkOk tk = true ∧ Out K r t m len H Q E (stepT len tk S)
theorem spWork_len {ok : Tk → Bool} : ∀ vs H Q E, spWork K ok vs H Q E → vs.length = 2 := fun vs H Q E h => by obtain ⟨_, _, _, _, _, _, _, rfl, _⟩ := h; rfl
def isMade : Tk → Bool
  | .make _ | .mknot | .bound _ _ | .take _ => true
  | _ => false
def isPlain : Tk → Bool
  | .ground | .piece _ | .small | .members | .less | .ended _ => false
  | _ => true
theorem ok_work_made (T : Txt K mg w) : Good P w K mg base 5 (mR K "work_made") ["self", "task"] (spWork K isMade) := by
  have GM := ok_make (P := P) (base := base) T
  have GN := ok_make_not (P := P) (base := base) T
  have GB := ok_make_bound (P := P) (base := base) T
  have GW := ok_need_word (P := P) (base := base) T
  refine good_of T.f_work_made sc_work_made (fun _ _ _ _ _ _ us hl => match us, hl with | [_, _], _ => rfl) spWork_len (fun cdv A outer s H vs Q E hr h => ?_)
  obtain ⟨r, t, m, p, len, S, tk, rfl, R, hz, hp, hok, hto, k⟩ := h
  obtain ⟨dx, wd, at', hR⟩ := R.ins_
  refine ⟨_, (pss_one (ps_if (pt_cmpR op_eq (pe_ix ix_tup (pv 1) pe_int (fun _ _ => rfl)) pe_str (nomark _)) (pss_one (ps_expr (pm GM (hr.mono (by decide)) T.cl T.m_make px (pv 0) (pa_cons (pe_ix ix_tup (pv 1) pe_int (fun _ _ => rfl)) (pa_cons (pe_ix ix_tup (pv 1) pe_int (fun _ _ => rfl)) pa_nil))))) (pss_one (ps_if (pt_cmpR op_eq (pe_ix ix_tup (pv 1) pe_int (fun _ _ => rfl)) pe_str (nomark _)) (pss_one (ps_expr (pm0 GN (hr.mono (by decide)) T.cl T.m_make_not px (pv 0)))) (pss_one (ps_if (pt_cmpR op_eq (pe_ix ix_tup (pv 1) pe_int (fun _ _ => rfl)) pe_str (nomark _)) (pss_one (ps_expr (pm GB (hr.mono (by decide)) T.cl T.m_make_bound px (pv 0) (pa_cons (pe_ix ix_tup (pv 1) pe_int (fun _ _ => rfl)) (pa_cons (pe_ix ix_tup (pv 1) pe_int (fun _ _ => rfl)) pa_nil))))) (pss_one (ps_expr (pm GW (hr.mono (by decide)) T.cl T.m_need_word px (pv 0) (pa_cons (pe_ix ix_tup (pv 1) pe_int (fun _ _ => rfl)) (pa_cons (pe_ix ix_tup (pv 1) pe_int (fun _ _ => rfl)) pa_nil))))))))))), ?_⟩
  cases tk with
  | make x =>
    refine ⟨_, rfl, p, _, _, _, rfl, rfl, hp, atI_nat (j := 0) rfl, rfl, _, rfl, iteST ?_⟩
    exact ⟨_, rfl, r, _, _, rfl, hR, rd_none, _, rfl, p, _, _, _, rfl, rfl, hp, atI_nat (j := 1) rfl, _, rfl, p, _, _, _, rfl, rfl, hp, atI_nat (j := 2) rfl, r, t, m, len, S, x, rfl, R, hz.2, k⟩
  | mknot =>
    refine ⟨_, rfl, p, _, _, _, rfl, rfl, hp, atI_nat (j := 0) rfl, rfl, _, rfl, iteSF ?_⟩
    refine ⟨_, rfl, p, _, _, _, rfl, rfl, hp, atI_nat (j := 0) rfl, rfl, _, rfl, iteST ?_⟩
    exact ⟨_, rfl, r, _, _, rfl, hR, rd_none, r, t, m, len, S, rfl, R, hz.2, k⟩
  | bound x y =>
    refine ⟨_, rfl, p, _, _, _, rfl, rfl, hp, atI_nat (j := 0) rfl, rfl, _, rfl, iteSF ?_⟩
    refine ⟨_, rfl, p, _, _, _, rfl, rfl, hp, atI_nat (j := 0) rfl, rfl, _, rfl, iteSF ?_⟩
    refine ⟨_, rfl, p, _, _, _, rfl, rfl, hp, atI_nat (j := 0) rfl, rfl, _, rfl, iteST ?_⟩
    exact ⟨_, rfl, r, _, _, rfl, hR, rd_none, _, rfl, p, _, _, _, rfl, rfl, hp, atI_nat (j := 1) rfl, _, rfl, p, _, _, _, rfl, rfl, hp, atI_nat (j := 2) rfl, r, t, m, len, S, x, y, rfl, R, hz.2, k⟩
  | take x =>
    refine ⟨_, rfl, p, _, _, _, rfl, rfl, hp, atI_nat (j := 0) rfl, rfl, _, rfl, iteSF ?_⟩
    refine ⟨_, rfl, p, _, _, _, rfl, rfl, hp, atI_nat (j := 0) rfl, rfl, _, rfl, iteSF ?_⟩
    refine ⟨_, rfl, p, _, _, _, rfl, rfl, hp, atI_nat (j := 0) rfl, rfl, _, rfl, iteSF ?_⟩
    exact ⟨_, rfl, r, _, _, rfl, hR, rd_none, _, rfl, p, _, _, _, rfl, rfl, hp, atI_nat (j := 1) rfl, _, rfl, p, _, _, _, rfl, rfl, hp, atI_nat (j := 2) rfl, r, t, m, len, S, _, x, .mark x, rfl, R, .inl ⟨rfl, rfl⟩, hto, k⟩
  | _ => cases hok
theorem ok_work_plain (T : Txt K mg w) : Good P w K mg base 9 (mR K "work_plain") ["self", "task"] (spWork K isPlain) := by
  have G1 := ok_do_term (P := P) (base := base) T
  have G2 := ok_do_args (P := P) (base := base) T
  have G3 := ok_do_more (P := P) (base := base) T
  have G4 := ok_do_call (P := P) (base := base) T
  have G5 := ok_do_rel (P := P) (base := base) T
  have G6 := ok_do_statement (P := P) (base := base) T
  have G7 := ok_do_level (P := P) (base := base) T
  have G8 := ok_do_rest (P := P) (base := base) T
  have G9 := ok_work_made (P := P) (base := base) T
  refine good_of T.f_work_plain sc_work_plain (fun _ _ _ _ _ _ us hl => match us, hl with | [_, _], _ => rfl) spWork_len (fun cdv A outer s H vs Q E hr h => ?_)
  obtain ⟨r, t, m, p, len, S, tk, rfl, R, hz, hp, hok, hto, k⟩ := h
  obtain ⟨dx, wd, at', hR⟩ := R.ins_
  refine ⟨_, (pss_cons (ps_set (i := 2) sc_work_plain.nd rfl (Or.inl rfl) (pe_ix ix_tup (pv 1) pe_int (fun _ _ => rfl))) (pss_one (ps_if (pt_cmpR op_eq (pv 2) pe_str (nomark _)) (pss_one (ps_expr (pm0 G1 (hr.mono (by decide)) T.cl T.m_do_term px (pv 0)))) (pss_one (ps_if (pt_cmpR op_eq (pv 2) pe_str (nomark _)) (pss_one (ps_expr (pm0 G2 (hr.mono (by decide)) T.cl T.m_do_args px (pv 0)))) (pss_one (ps_if (pt_cmpR op_eq (pv 2) pe_str (nomark _)) (pss_one (ps_expr (pm G3 (hr.mono (by decide)) T.cl T.m_do_more px (pv 0) (pa_cons (pe_ix ix_tup (pv 1) pe_int (fun _ _ => rfl)) pa_nil)))) (pss_one (ps_if (pt_cmpR op_eq (pv 2) pe_str (nomark _)) (pss_one (ps_expr (pm G4 (hr.mono (by decide)) T.cl T.m_do_call px (pv 0) (pa_cons (pe_ix ix_tup (pv 1) pe_int (fun _ _ => rfl)) pa_nil)))) (pss_one (ps_if (pt_cmpR op_eq (pv 2) pe_str (nomark _)) (pss_one (ps_expr (pm G5 (hr.mono (by decide)) T.cl T.m_do_rel px (pv 0) (pa_cons (pe_ix ix_tup (pv 1) pe_int (fun _ _ => rfl)) pa_nil)))) (pss_one (ps_if (pt_cmpR op_eq (pv 2) pe_str (nomark _)) (pss_one (ps_expr (pm0 G6 (hr.mono (by decide)) T.cl T.m_do_statement px (pv 0)))) (pss_one (ps_if (pt_cmpR op_eq (pv 2) pe_str (nomark _)) (pss_one (ps_expr (pm G7 (hr.mono (by decide)) T.cl T.m_do_level px (pv 0) (pa_cons (pe_ix ix_tup (pv 1) pe_int (fun _ _ => rfl)) pa_nil)))) (pss_one (ps_if (pt_cmpR op_eq (pv 2) pe_str (nomark _)) (pss_one (ps_expr (pm G8 (hr.mono (by decide)) T.cl T.m_do_rest px (pv 0) (pa_cons (pe_ix ix_tup (pv 1) pe_int (fun _ _ => rfl)) pa_nil)))) (pss_one (ps_expr (pm G9 (hr.mono (by decide)) T.cl T.m_work_made px (pv 0) (pa_cons (pv 1) pa_nil))))))))))))))))))))), ?_⟩
  cases tk with
  | term =>
    refine ⟨_, rfl, p, _, _, _, rfl, rfl, hp, atI_nat (j := 0) rfl, ?_⟩
    refine ⟨_, rfl, rfl, _, rfl, iteST ?_⟩
    exact ⟨_, rfl, r, _, _, rfl, hR, rd_none, r, t, m, len, S, rfl, R, hz, k⟩
  | args =>
    refine ⟨_, rfl, p, _, _, _, rfl, rfl, hp, atI_nat (j := 0) rfl, ?_⟩
    refine ⟨_, rfl, rfl, _, rfl, iteSF ?_⟩
    refine ⟨_, rfl, rfl, _, rfl, iteST ?_⟩
    exact ⟨_, rfl, r, _, _, rfl, hR, rd_none, r, t, m, len, S, rfl, R, hz, k⟩
  | more n =>
    refine ⟨_, rfl, p, _, _, _, rfl, rfl, hp, atI_nat (j := 0) rfl, ?_⟩
    refine ⟨_, rfl, rfl, _, rfl, iteSF ?_⟩
    refine ⟨_, rfl, rfl, _, rfl, iteSF ?_⟩
    refine ⟨_, rfl, rfl, _, rfl, iteST ?_⟩
    exact ⟨_, rfl, r, _, _, rfl, hR, rd_none, _, rfl, p, _, _, _, rfl, rfl, hp, atI_nat (j := 1) rfl, r, t, m, len, S, n, rfl, R, hz, k⟩
  | call x =>
    refine ⟨_, rfl, p, _, _, _, rfl, rfl, hp, atI_nat (j := 0) rfl, ?_⟩
    refine ⟨_, rfl, rfl, _, rfl, iteSF ?_⟩
    refine ⟨_, rfl, rfl, _, rfl, iteSF ?_⟩
    refine ⟨_, rfl, rfl, _, rfl, iteSF ?_⟩
    refine ⟨_, rfl, rfl, _, rfl, iteST ?_⟩
    exact ⟨_, rfl, r, _, _, rfl, hR, rd_none, _, rfl, p, _, _, _, rfl, rfl, hp, atI_nat (j := 1) rfl, r, t, m, len, S, x, rfl, R, hz, k⟩
  | rel x =>
    refine ⟨_, rfl, p, _, _, _, rfl, rfl, hp, atI_nat (j := 0) rfl, ?_⟩
    refine ⟨_, rfl, rfl, _, rfl, iteSF ?_⟩
    refine ⟨_, rfl, rfl, _, rfl, iteSF ?_⟩
    refine ⟨_, rfl, rfl, _, rfl, iteSF ?_⟩
    refine ⟨_, rfl, rfl, _, rfl, iteSF ?_⟩
    refine ⟨_, rfl, rfl, _, rfl, iteST ?_⟩
    exact ⟨_, rfl, r, _, _, rfl, hR, rd_none, _, rfl, p, _, _, _, rfl, rfl, hp, atI_nat (j := 1) rfl, r, t, m, len, S, x, rfl, R, hz, k⟩
  | stmt =>
    refine ⟨_, rfl, p, _, _, _, rfl, rfl, hp, atI_nat (j := 0) rfl, ?_⟩
    refine ⟨_, rfl, rfl, _, rfl, iteSF ?_⟩
    refine ⟨_, rfl, rfl, _, rfl, iteSF ?_⟩
    refine ⟨_, rfl, rfl, _, rfl, iteSF ?_⟩
    refine ⟨_, rfl, rfl, _, rfl, iteSF ?_⟩
    refine ⟨_, rfl, rfl, _, rfl, iteSF ?_⟩
    refine ⟨_, rfl, rfl, _, rfl, iteST ?_⟩
    exact ⟨_, rfl, r, _, _, rfl, hR, rd_none, r, t, m, len, S, rfl, R, hz, k⟩
  | level n =>
    refine ⟨_, rfl, p, _, _, _, rfl, rfl, hp, atI_nat (j := 0) rfl, ?_⟩
    refine ⟨_, rfl, rfl, _, rfl, iteSF ?_⟩
    refine ⟨_, rfl, rfl, _, rfl, iteSF ?_⟩
    refine ⟨_, rfl, rfl, _, rfl, iteSF ?_⟩
    refine ⟨_, rfl, rfl, _, rfl, iteSF ?_⟩
    refine ⟨_, rfl, rfl, _, rfl, iteSF ?_⟩
    refine ⟨_, rfl, rfl, _, rfl, iteSF ?_⟩
    refine ⟨_, rfl, rfl, _, rfl, iteST ?_⟩
    exact ⟨_, rfl, r, _, _, rfl, hR, rd_none, _, rfl, p, _, _, _, rfl, rfl, hp, atI_nat (j := 1) rfl, r, t, m, len, S, n, rfl, R, hz, k⟩
  | rest n =>
    refine ⟨_, rfl, p, _, _, _, rfl, rfl, hp, atI_nat (j := 0) rfl, ?_⟩
    refine ⟨_, rfl, rfl, _, rfl, iteSF ?_⟩
    refine ⟨_, rfl, rfl, _, rfl, iteSF ?_⟩
    refine ⟨_, rfl, rfl, _, rfl, iteSF ?_⟩
    refine ⟨_, rfl, rfl, _, rfl, iteSF ?_⟩
    refine ⟨_, rfl, rfl, _, rfl, iteSF ?_⟩
    refine ⟨_, rfl, rfl, _, rfl, iteSF ?_⟩
    refine ⟨_, rfl, rfl, _, rfl, iteSF ?_⟩
    refine ⟨_, rfl, rfl, _, rfl, iteST ?_⟩
    exact ⟨_, rfl, r, _, _, rfl, hR, rd_none, _, rfl, p, _, _, _, rfl, rfl, hp, atI_nat (j := 1) rfl, r, t, m, len, S, n, rfl, R, hz, k⟩
  | make x =>
    refine ⟨_, rfl, p, _, _, _, rfl, rfl, hp, atI_nat (j := 0) rfl, ?_⟩
    refine ⟨_, rfl, rfl, _, rfl, iteSF ?_⟩
    refine ⟨_, rfl, rfl, _, rfl, iteSF ?_⟩
    refine ⟨_, rfl, rfl, _, rfl, iteSF ?_⟩
    refine ⟨_, rfl, rfl, _, rfl, iteSF ?_⟩
    refine ⟨_, rfl, rfl, _, rfl, iteSF ?_⟩
    refine ⟨_, rfl, rfl, _, rfl, iteSF ?_⟩
    refine ⟨_, rfl, rfl, _, rfl, iteSF ?_⟩
    refine ⟨_, rfl, rfl, _, rfl, iteSF ?_⟩
    exact ⟨_, rfl, r, _, _, rfl, hR, rd_none, _, rfl, r, t, m, p, len, S, _, rfl, R, hz, hp, rfl, hto, k⟩
  | mknot =>
    refine ⟨_, rfl, p, _, _, _, rfl, rfl, hp, atI_nat (j := 0) rfl, ?_⟩
    refine ⟨_, rfl, rfl, _, rfl, iteSF ?_⟩
    refine ⟨_, rfl, rfl, _, rfl, iteSF ?_⟩
    refine ⟨_, rfl, rfl, _, rfl, iteSF ?_⟩
    refine ⟨_, rfl, rfl, _, rfl, iteSF ?_⟩
    refine ⟨_, rfl, rfl, _, rfl, iteSF ?_⟩
    refine ⟨_, rfl, rfl, _, rfl, iteSF ?_⟩
    refine ⟨_, rfl, rfl, _, rfl, iteSF ?_⟩
    refine ⟨_, rfl, rfl, _, rfl, iteSF ?_⟩
    exact ⟨_, rfl, r, _, _, rfl, hR, rd_none, _, rfl, r, t, m, p, len, S, _, rfl, R, hz, hp, rfl, hto, k⟩
  | bound x y =>
    refine ⟨_, rfl, p, _, _, _, rfl, rfl, hp, atI_nat (j := 0) rfl, ?_⟩
    refine ⟨_, rfl, rfl, _, rfl, iteSF ?_⟩
    refine ⟨_, rfl, rfl, _, rfl, iteSF ?_⟩
    refine ⟨_, rfl, rfl, _, rfl, iteSF ?_⟩
    refine ⟨_, rfl, rfl, _, rfl, iteSF ?_⟩
    refine ⟨_, rfl, rfl, _, rfl, iteSF ?_⟩
    refine ⟨_, rfl, rfl, _, rfl, iteSF ?_⟩
    refine ⟨_, rfl, rfl, _, rfl, iteSF ?_⟩
    refine ⟨_, rfl, rfl, _, rfl, iteSF ?_⟩
    exact ⟨_, rfl, r, _, _, rfl, hR, rd_none, _, rfl, r, t, m, p, len, S, _, rfl, R, hz, hp, rfl, hto, k⟩
  | take x =>
    refine ⟨_, rfl, p, _, _, _, rfl, rfl, hp, atI_nat (j := 0) rfl, ?_⟩
    refine ⟨_, rfl, rfl, _, rfl, iteSF ?_⟩
    refine ⟨_, rfl, rfl, _, rfl, iteSF ?_⟩
    refine ⟨_, rfl, rfl, _, rfl, iteSF ?_⟩
    refine ⟨_, rfl, rfl, _, rfl, iteSF ?_⟩
    refine ⟨_, rfl, rfl, _, rfl, iteSF ?_⟩
    refine ⟨_, rfl, rfl, _, rfl, iteSF ?_⟩
    refine ⟨_, rfl, rfl, _, rfl, iteSF ?_⟩
    refine ⟨_, rfl, rfl, _, rfl, iteSF ?_⟩
    exact ⟨_, rfl, r, _, _, rfl, hR, rd_none, _, rfl, r, t, m, p, len, S, _, rfl, R, hz, hp, rfl, hto, k⟩
  | _ => cases hok
end
end KW

/-! part KRead1 -/
set_option maxHeartbeats 4000000
namespace KW
open PySem PySem.Spec PyProof.Rows L2 KM
/-- != of data, one of them shallow -/
def rNeM (K : PySem.W.Frag) : R2 := fun x y H Q => ∃ d e, Dp K H x d ∧ Dp K H y e ∧ d.canLay0 = true ∧ e.canLay0 = true ∧ min d.depth e.depth ≤ 60 ∧ Q (.bl (!PyData.eqv d e)) H
theorem op_neM {X : Cx} (hu : X.A.units + 64 < cLine) : OpR X (compareOp .NotEq) (rNeM X.K) := by
  intro pins s σ H x y v u Q I rx ry ⟨d, e, hd, he, cd, ce, hm, q⟩
  obtain ⟨as, r1⟩ := Dp.reads I d x v hd rx
  obtain ⟨bs, r2⟩ := Dp.reads I e y u he ry
  exact SeqAt.compareNe_reads r1 r2 cd ce (by omega) ⟨.bl _, H, I, rfl, q⟩
def beginD : PyData := .tuple [.str "begin"]
theorem eqv_begin (d : Md) : PyData.eqv d.toD beginD = d.isB := by
  cases d <;> simp [PyData.eqv, PyData.eqvAll, Md.toD, beginD, Md.isB]
theorem lay_begin : beginD.canLay0 = true := by simp [beginD, PyData.canLay0, PyData.canLayAll0]; decide +kernel
def MOk (l : List Md) : Prop := ∀ d ∈ l, d.toD.canLay0 = true
section
variable {P : Program} {w : World} {K : PySem.W.Frag} {mg : Str → Option Value} {base : Heap}
/-! ### since -/
def spSince (K : PySem.W.Frag) : Sp := fun vs H Q _ => ∃ (r t m : Addr) (len : Nat) (S : PS) (ps l : List Md), vs = [.ref r] ∧ Rp K r H len S t m ∧ S.made.length ≤ 2000000 ∧ MOk S.made ∧ KM.since S.made = some (ps, l) ∧
  ∀ H' p xs, Go r t m H m H' → Rp K r H' len { S with made := l } t m → H p = none → H' p = some (.lst xs) → TpAll K H' xs (ps.map Md.toD) → Q (.ref p) H'
theorem since_len : ∀ {md ps l : List Md}, KM.since md = some (ps, l) → ps.length + l.length < md.length
  | [], _, _, h => by cases h
  | .B :: r, ps, l, h => by
    have e : some (([] : List Md), r) = some (ps, l) := h
    injection e with e
    injection e with e1 e2
    subst e1 e2
    simp
  | .T a b c :: r, ps, l, h => by
    have e : (KM.since r).map (fun p => (p.1 ++ [Md.T a b c], p.2)) = some (ps, l) := h
    cases q : KM.since r with
    | none => rw [q] at e; cases e
    | some z =>
      obtain ⟨z1, z2⟩ := z
      rw [q] at e
      injection e with e
      injection e with e1 e2
      have := since_len q
      subst e1 e2
      simp; omega
  | .C n :: r, ps, l, h => by
    have e : (KM.since r).map (fun p => (p.1 ++ [Md.C n], p.2)) = some (ps, l) := h
    cases q : KM.since r with
    | none => rw [q] at e; cases e
    | some z =>
      obtain ⟨z1, z2⟩ := z
      rw [q] at e
      injection e with e
      injection e with e1 e2
      have := since_len q
      subst e1 e2
      simp; omega
  | .P a b c d :: r, ps, l, h => by
    have e : (KM.since r).map (fun p => (p.1 ++ [Md.P a b c d], p.2)) = some (ps, l) := h
    cases q : KM.since r with
    | none => rw [q] at e; cases e
    | some z =>
      obtain ⟨z1, z2⟩ := z
      rw [q] at e
      injection e with e
      injection e with e1 e2
      have := since_len q
      subst e1 e2
      simp; omega
theorem since_cons {x : Md} {r : List Md} {ps l : List Md} (hx : x.isB = false) (h : KM.since (x :: r) = some (ps, l)) : ∃ ps', KM.since r = some (ps', l) ∧ ps = ps' ++ [x] := by
  have e : KM.since (x :: r) = (KM.since r).map fun p => (p.1 ++ [x], p.2) := by
    cases x <;> first | rfl | cases hx
  rw [e] at h
  cases q : KM.since r with
  | none => rw [q] at h; cases h
  | some z =>
    obtain ⟨z1, z2⟩ := z
    rw [q] at h
    injection h with h
    injection h with e1 e2
    subst e1 e2
    exact ⟨z1, rfl, rfl⟩
theorem last_of {H : Hp} {mv : List V} {x : Md} {r : List Md} (h : TpAll K H mv ((x :: r).map Md.toD).reverse) : ∃ v, mv[mv.length - 1]? = some v ∧ Tp K H v x.toD ∧ atI mv (-1) = some v := by
  rw [List.map_cons, List.reverse_cons] at h
  obtain ⟨xs, v, rfl, h1, h2⟩ := h.snoc_inv
  refine ⟨v, by simp, h2, ?_⟩
  have hl : (xs ++ [v]).length = xs.length + 1 := by simp
  have e : ixN (xs ++ [v]).length (-1) = some xs.length := by
    unfold ixN
    rw [hl, if_neg (by omega)]
    rw [if_pos (by omega)]
    congr 1
    omega
  unfold atI
  rw [e]
  simp
theorem ok_since (T : Txt K mg w) : Good P w K mg base 1 (mR K "since") ["self"] (spSince K) := by
  refine good_of T.f_since sc_since (fun _ _ _ _ _ _ us hl => match us, hl with | [_], _ => rfl) (fun vs H Q E h => by obtain ⟨_, _, _, _, _, _, _, rfl, _⟩ := h; rfl) (fun cdv A outer s H vs Q E hr h => ?_)
  obtain ⟨r, t, m, len, S, ps, l, rfl, R, hz, hok, hs, k⟩ := h
  refine ⟨_, pss_cons (ps_set (i := 1) sc_since.nd rfl (Or.inl rfl) (pe_lst pa_nil))
    (pss_cons (ps_while po (pt_cmpR (op_neM hr.units) (pe_ix ix_list (pe_fld (pv 0) rfl) (pe_un un_neg pe_int) (fun _ _ => rfl)) (pe_tup (pa_cons pe_str pa_nil)) (nomark _))
      (pss_one (ps_expr (pe_bm PySem.F.plainAttrs_list PySem.F.slot_list_append PySem.F.type_list_append mt_append (pv 1) (pa_cons (pe_bm0 PySem.F.plainAttrs_list PySem.F.slot_list_pop PySem.F.type_list_pop mt_pop (pe_fld (pv 0) rfl)) pa_nil)))))
    (pss_cons (ps_expr (pe_bm0 PySem.F.plainAttrs_list PySem.F.slot_list_pop PySem.F.type_list_pop mt_pop (pe_fld (pv 0) rfl)))
    (pss_one (ps_ret (pe_revL (pv 1)))))), ?_⟩
  refine ⟨Nat.zero_le _, fun f hf => ?_⟩
  have s0 : Same H (upd H f (.lst [])) := same_new hf
  refine ⟨fun n σ H' => ∃ (fv : List V) (acc md ps' : List Md), σ = [some (.ref r), some (.ref f)] ∧ Go r t m H m H' ∧ Rp K r H' len { S with made := md } t m ∧ H' f = some (.lst fv) ∧ TpAll K H' fv (acc.map Md.toD) ∧ KM.since md = some (ps', l) ∧ ps = ps' ++ acc.reverse ∧
      n = md.length ∧ md.length + acc.length ≤ S.made.length ∧ (∀ d ∈ md, d ∈ S.made),
    ⟨_, [], [], S.made, ps, rfl, (Go.refl (m := m)).mut R hf, R.same s0, upd_same, .nil, hs, by simp, rfl, by simp, fun d h => h⟩, ?_⟩
  rintro n σ H1 ⟨fv, acc, md, ps', rfl, g1, R1, hf1, hfv, hs1, hps, rfl, hlen, hsub⟩
  obtain ⟨dx1, wd1, at1, hR1⟩ := R1.ins_
  obtain ⟨mv, hm1, hM1⟩ := R1.made_
  have hft : f ≠ t := by obtain ⟨o, h⟩ := R.t_some; exact (ne_of_none h hf).symm
  have hfm : f ≠ m := by obtain ⟨mv0, h, _⟩ := R.made_; exact (ne_of_none h hf).symm
  have hfw : ¬ Wl r H1 f := g1.nw R hf
  cases md with
  | nil => cases hs1
  | cons x md' =>
    obtain ⟨v, hv, tv, hat⟩ := last_of hM1
    refine ⟨_, rfl, fl_made T hR1 ⟨_, rfl, m, mv, _, v, rfl, rfl, SqL.of hm1, hat, ?_⟩⟩
    refine ⟨by show 1 ≤ sizeLine; decide, fun q hq => ?_⟩
    have s1 : Same H1 (upd H1 q (.tup [.str "begin"])) := same_new hq
    refine ⟨_, beginD, (tv.mono (TM.same s1)).dp, (tp_new hq (.one (.str _))).dp, hok x (hsub x List.mem_cons_self), lay_begin, by show min _ 1 ≤ 60; omega, ?_⟩
    rw [eqv_begin]
    have R2 := R1.same s1
    have hR2 := s1 _ _ hR1
    have hm2 := s1 _ _ hm1
    have hf2 := s1 _ _ hf1
    have g2 : Go r t m H m (upd H1 q (.tup [.str "begin"])) := g1.trans (Go.same s1) R1
    cases hB : x.isB with
    | true =>
      obtain rfl : x = .B := by cases x <;> first | rfl | cases hB
      obtain ⟨e1, e2⟩ : ps' = [] ∧ md' = l := by
        have e : some (([] : List Md), md') = some (ps', l) := hs1
        injection e with e
        injection e with e1 e2
        exact ⟨e1.symm, e2⟩
      subst e1 e2
      obtain ⟨mv2, v2, hm3, hv2, tv2, R3⟩ := pop_made R2 (d := .B) (l := md') rfl
      refine ⟨_, rfl, iteF ?_⟩
      refine ⟨_, rfl, fl_made T hR2 ⟨.inl ⟨rfl, _, SqL.of hm2⟩, m, mv2, v2, rfl, rfl, hm3, hv2, ?_⟩⟩
      have hf3 : (upd (upd H1 q (.tup [.str "begin"])) m (.lst mv2.dropLast)) f = some (.lst fv) := by rw [upd_ne hfm]; exact hf2
      have g3 : Go r t m H m (upd (upd H1 q (.tup [.str "begin"])) m (.lst mv2.dropLast)) := g2.trans Go.upd_m R2
      refine ⟨_, rfl, f, fv, rfl, SqL.of hf3, fun p hp => ?_⟩
      have s4 := same_new (o := .lst fv.reverse) hp
      have hp0 : H p = none := by
        cases e : H p with
        | none => rfl
        | some o =>
          have nr : p ≠ r := fun z => by
            obtain ⟨_, _, _, h3⟩ := R3.ins_
            rw [z, h3] at hp; cases hp
          have nt : p ≠ t := fun z => by
            obtain ⟨_, h3⟩ := R3.t_some
            rw [z, h3] at hp; cases hp
          have nm : p ≠ m := fun z => by
            obtain ⟨_, h3, _⟩ := R3.made_
            rw [z, h3] at hp; cases hp
          have := g3.keep p o e nr nt nm
          rw [this] at hp; cases hp
      refine k _ p fv.reverse (g3.trans (Go.same s4) R3) (R3.same s4) hp0 upd_same ?_
      rw [hps, List.nil_append, List.map_reverse]
      exact (hfv.mono (((TM.same s1).trans (TM.lst hm3)).trans (TM.same s4))).rev
    | false =>
      obtain ⟨ps2, hs2, e2⟩ := since_cons hB hs1
      obtain ⟨mv2, v2, hm3, hv2, tv2, R3⟩ := pop_made R2 (d := x) (l := md') rfl
      refine ⟨_, rfl, iteT ⟨_, fun σ' H' h => h, ?_⟩⟩
      refine ⟨_, rfl, .inl ⟨rfl, _, SqL.of hf2⟩, _, rfl, fl_made T hR2 ⟨.inl ⟨rfl, _, SqL.of hm2⟩, m, mv2, v2, rfl, rfl, hm3, hv2, ?_⟩⟩
      have hf3 : (upd (upd H1 q (.tup [.str "begin"])) m (.lst mv2.dropLast)) f = some (.lst fv) := by rw [upd_ne hfm]; exact hf2
      have g3 : Go r t m H m (upd (upd H1 q (.tup [.str "begin"])) m (.lst mv2.dropLast)) := g2.trans Go.upd_m R2
      have hfl : fv.length = acc.length := by rw [hfv.len, List.length_map]
      refine ⟨f, fv, v2, rfl, rfl, hf3, ?_, ?_⟩
      · rw [sizeLine_eq]; simp only [List.length_cons] at hlen; omega
      · have hfw3 : ¬ Wl r _ f := g3.nw R hf
        refine ⟨md'.length, by simp, fv ++ [v2], acc ++ [x], md', ps2, rfl, g3.mut R hf, R3.mut hf3 hft hfm hfw3, upd_same, ?_, hs2, ?_, rfl, ?_, fun d h => hsub d (List.mem_cons_of_mem _ h)⟩
        · have M : TM H1 (upd (upd (upd H1 q (.tup [.str "begin"])) m (.lst mv2.dropLast)) f (.lst (fv ++ [v2]))) := ((TM.same s1).trans (TM.lst hm3)).trans (TM.lst hf3)
          rw [List.map_append]
          exact (hfv.mono M).app (.one (tv2.mono ((TM.lst hm3).trans (TM.lst hf3))))
        · rw [hps, e2, List.reverse_append]; simp
        · simp only [List.length_cons, List.length_append, List.length_nil] at hlen ⊢; omega
end
end KW

/-! part KRead2 -/
set_option maxHeartbeats 4000000
namespace KW
open PySem PySem.Spec PyProof.Rows L2 KM
section
variable {P : Program} {w : World} {K : PySem.W.Frag} {mg : Str → Option Value} {base : Heap}
theorem part_of_ix {H : Hp} {xs : List V} {ps : List Md} (h : TpAll K H xs (ps.map Md.toD)) {i : Nat} {x : V} (hx : xs[i]? = some x) : ∃ d, ps[i]? = some d ∧ Tp K H x d.toD := by
  have hl : xs.length = ps.length := by rw [h.len, List.length_map]
  have hi := (List.getElem?_eq_some_iff.mp hx).1
  have e : ps[i]? = some (ps[i]'(by omega)) := List.getElem?_eq_getElem (by omega)
  obtain ⟨v, hv, tv⟩ := h.get (i := i) (d := (ps[i]'(by omega)).toD) (by rw [List.getElem?_map, e]; rfl)
  rw [hx] at hv; cases hv
  exact ⟨_, e, tv⟩
theorem ix_a1 {H : Hp} {xs : List V} {ps : List Md} (h : TpAll K H xs (ps.map Md.toD)) (hp : ∀ p ∈ ps, p.isT = true ∨ p.isP = true) {i : Nat} {x y : V} (hx : xs[i]? = some x) (hy : ((ps.map Md.a1).map V.int)[i]? = some y) : ∃ p zs, x = .ref p ∧ SqT K H p zs ∧ zs[1]? = some y := by
  obtain ⟨d, hd, td⟩ := part_of_ix h hx
  obtain ⟨p, zs, rfl, h1, _, h3, _, _⟩ := md_ix td (hp d (List.mem_of_getElem? hd))
  rw [List.map_map, List.getElem?_map, hd] at hy
  cases hy
  exact ⟨p, zs, rfl, h1, h3⟩
theorem ix_a2 {H : Hp} {xs : List V} {ps : List Md} (h : TpAll K H xs (ps.map Md.toD)) (hp : ∀ p ∈ ps, p.isT = true ∨ p.isP = true) {i : Nat} {x y : V} (hx : xs[i]? = some x) (hy : ((ps.map Md.a2).map V.int)[i]? = some y) : ∃ p zs, x = .ref p ∧ SqT K H p zs ∧ zs[2]? = some y := by
  obtain ⟨d, hd, td⟩ := part_of_ix h hx
  obtain ⟨p, zs, rfl, h1, _, _, h3, _⟩ := md_ix td (hp d (List.mem_of_getElem? hd))
  rw [List.map_map, List.getElem?_map, hd] at hy
  cases hy
  exact ⟨p, zs, rfl, h1, h3⟩
theorem ix_a3 {H : Hp} {xs : List V} {ps : List Md} (h : TpAll K H xs (ps.map Md.toD)) (hp : ∀ p ∈ ps, p.isP = true) {i : Nat} {x y : V} (hx : xs[i]? = some x) (hy : ((ps.map Md.a3).map V.bl)[i]? = some y) : ∃ p zs, x = .ref p ∧ SqT K H p zs ∧ zs[3]? = some y := by
  obtain ⟨d, hd, td⟩ := part_of_ix h hx
  obtain ⟨p, zs, rfl, h1, _, _, _, h3⟩ := md_ix td (.inr (hp d (List.mem_of_getElem? hd)))
  rw [List.map_map, List.getElem?_map, hd] at hy
  cases hy
  exact ⟨p, zs, rfl, h1, h3 (hp d (List.mem_of_getElem? hd))⟩
def spParts (K : PySem.W.Frag) (f : List Md → V) : Sp := fun vs H Q _ => ∃ (v : V) (a : Addr) (xs : List V) (ps : List Md), vs = [v, .ref a] ∧ SqL K H a xs ∧ TpAll K H xs (ps.map Md.toD) ∧ (∀ p ∈ ps, p.isP = true) ∧ ps.length ≤ 2000000 ∧ ∀ H', Same H H' → Q (f ps) H'
theorem spParts_len {f : List Md → V} : ∀ vs H Q E, spParts K f vs H Q E → vs.length = 2 := fun vs H Q E h => by obtain ⟨_, _, _, _, rfl, _⟩ := h; rfl
/-! ### deepest, all_good -/
theorem ok_deepest (T : Txt K mg w) : Good P w K mg base 1 (mR K "deepest") ["self", "parts"] (spParts K fun ps => .int (maxI (ps.map Md.a2))) := by
  refine good_of T.f_deepest sc_deepest (fun _ _ _ _ _ _ us hl => match us, hl with | [_, _], _ => rfl) spParts_len (fun cdv A outer s H vs Q E hr h => ?_)
  obtain ⟨v, a, xs, ps, rfl, ha, hxs, hps, hz, k⟩ := h
  refine ⟨_, (pss_one (ps_ret (pe_callB (cr_max rfl) (by rfl) T.z_max (by decide +kernel) (pa_cons (pe_op op_cat (pe_lst (pa_cons pe_int pa_nil)) (pe_lc (own := [("one", 2)]) (g := gName 2) (tt := tYes) rfl sc_deepest.nd (pi_list (pv 1)) (blkOk_by (own := [("one", 2)]) (N := N_deepest) (sc := defScope s_deepest) (by decide +kernel)) (fun _ _ _ _ _ => pg_name (i := 2) sc_deepest.nd rfl (Or.inl rfl)) (fun _ _ _ _ _ => pts_nil) (fun _ _ _ _ _ => pe_ix (ixT K) (pv 2) pe_int (fun _ _ => rfl)))) pa_nil)))), ?_⟩
  have hlen : xs.length = ps.length := by rw [hxs.len, List.length_map]
  refine ⟨by show 1 ≤ sizeLine; decide, fun l hl => ?_⟩
  have s0 : Same H (upd H l (.lst [.int 0])) := same_new hl
  refine ⟨_, rfl, a, rfl, ⟨_, s0.seq ha⟩, fun D hD => lc_map ((ps.map Md.a2).map V.int) hD (s0.seq ha) (by simp [hlen]) (by omega) (fun i x y H2 hx hy s R Z hR => ?_) (fun H2 s2 hD2 => ?_)⟩
  · obtain ⟨q, zs, rfl, h1, h2⟩ := ix_a2 hxs (fun p hp => .inr (hps p hp)) hx hy
    exact ⟨rfl, ⟨_, rfl, q, _, _, _, rfl, rfl, (s0.trans s).seqT h1, atI_nat h2, hR _ (Same.refl _)⟩⟩
  · refine ⟨l, D, _, _, rfl, rfl, s2 _ _ upd_same, hD2, by simp [sizeLine_eq]; omega, fun p hp => ?_⟩
    refine ⟨p, 0 :: ps.map Md.a2, rfl, SqL.of (by rw [upd_same]; rfl), by simp, fun mx hm hle => ?_⟩
    rw [maxI_is _ mx hm hle]
    exact k _ ((s0.trans s2).trans (same_new hp))
theorem ok_all_good (T : Txt K mg w) : Good P w K mg base 1 (mR K "all_good") ["self", "parts"] (spParts K fun ps => .bl ((ps.map Md.a3).all id)) := by
  refine good_of T.f_all_good sc_all_good (fun _ _ _ _ _ _ us hl => match us, hl with | [_, _], _ => rfl) spParts_len (fun cdv A outer s H vs Q E hr h => ?_)
  obtain ⟨v, a, xs, ps, rfl, ha, hxs, hps, hz, k⟩ := h
  refine ⟨_, (pss_one (ps_ret (pe_callB (cr_all rfl) (by rfl) T.z_all (by decide +kernel) (pa_cons (pe_lc (own := [("one", 2)]) (g := gName 2) (tt := tYes) rfl sc_all_good.nd (pi_list (pv 1)) (blkOk_by (own := [("one", 2)]) (N := N_all_good) (sc := defScope s_all_good) (by decide +kernel)) (fun _ _ _ _ _ => pg_name (i := 2) sc_all_good.nd rfl (Or.inl rfl)) (fun _ _ _ _ _ => pts_nil) (fun _ _ _ _ _ => pe_ix (ixT K) (pv 2) pe_int (fun _ _ => rfl))) pa_nil)))), ?_⟩
  have hlen : xs.length = ps.length := by rw [hxs.len, List.length_map]
  refine ⟨_, rfl, a, rfl, ⟨_, ha⟩, fun D hD => lc_map ((ps.map Md.a3).map V.bl) hD ha (by simp [hlen]) (by omega) (fun i x y H2 hx hy s R Z hR => ?_) (fun H2 s2 hD2 => ?_)⟩
  · obtain ⟨q, zs, rfl, h1, h2⟩ := ix_a3 hxs hps hx hy
    exact ⟨rfl, ⟨_, rfl, q, _, _, _, rfl, rfl, s.seqT h1, atI_nat h2, hR _ (Same.refl _)⟩⟩
  · exact ⟨D, _, rfl, SqL.of hD2, k _ s2⟩
/-! ### do_small, under -/
theorem ok_do_small (T : Txt K mg w) : Good P w K mg base 1 (mR K "do_small") ["self"] (spG K fun _ => doSmall) := by
  refine good_of T.f_do_small sc_do_small (fun _ _ _ _ _ _ us hl => match us, hl with | [_], _ => rfl) spG_len (fun cdv A outer s H vs Q E hr h => ?_)
  obtain ⟨r, t, m, len, S, rfl, R, hz, k⟩ := h
  obtain ⟨dx, wd, at', hR⟩ := R.ins_
  refine ⟨_, (pss_cons (ps_asg (pe_bm0 PySem.F.plainAttrs_list PySem.F.slot_list_pop PySem.F.type_list_pop mt_pop (pe_fld (pv 0) rfl)) (pg_tup rfl (pgs_cons (pg_name (i := 1) sc_do_small.nd rfl (Or.inl rfl)) (pgs_cons (pg_name (i := 2) sc_do_small.nd rfl (Or.inl rfl)) (pgs_cons (pg_name (i := 3) sc_do_small.nd rfl (Or.inl rfl)) pgs_nil)))))
      (pss_one (ps_expr (pe_bm PySem.F.plainAttrs_list PySem.F.slot_list_append PySem.F.type_list_append mt_append (pe_fld (pv 0) rfl) (pa_cons (pe_tup (pa_cons (pv 1) (pa_cons pe_int (pa_cons pe_int (pa_cons (pe_and (pe_cmpR op_le (pv 2) (pg_i T.c_GREAT_PARTS) (nomark _)) (pe_one (pe_cmpR op_le (pv 3) (pg_i T.c_GREAT_DEEP) (nomark _)))) pa_nil))))) pa_nil))))), ?_⟩
  have k : Out K r t m len H Q E (doSmall S) := k
  cases e : S.made with
  | nil => unfold doSmall at k; rw [e] at k; exact k.elim
  | cons d l =>
    cases d with
    | T d p q =>
      have ed : doSmall S = .ok { S with made := .P d 0 0 (decide (p ≤ 4000) && decide (q ≤ 120)) :: l } := by unfold doSmall; rw [e]
      rw [ed] at k
      obtain ⟨mv, v, hm, hv, tv, R1⟩ := pop_made R e
      have hnr : r ≠ m := R.hs.rt.2
      have hR1 : (upd H m (.lst mv.dropLast)) r = some (.ins (CR K) dx (rdF wd at' len t m S.many)) := by rw [upd_ne hnr]; exact hR
      have M : TM H (upd H m (.lst mv.dropLast)) := TM.lst hm
      obtain ⟨a, xs, rfl, h1, h2⟩ := (tv.mono M).tup_inv
      obtain ⟨v1, r1, rfl, q1, h3⟩ := h2.cons_inv
      obtain ⟨v2, r2, rfl, q2, h4⟩ := h3.cons_inv
      obtain ⟨v3, r3, rfl, q3, h5⟩ := h4.cons_inv
      cases h5.nil_inv
      cases q2.int_inv
      cases q3.int_inv
      refine ⟨_, rfl, fl_made T hR ⟨.inl ⟨rfl, _, SqL.of hm⟩, m, mv, _, rfl, rfl, hm, hv, ?_⟩⟩
      refine ⟨a, _, rfl, h1, rfl, _, _, rfl, _, _, rfl, _, _, rfl, rfl, ?_⟩
      refine ⟨_, rfl, fl_made T hR1 ⟨.inl ⟨rfl, _, SqL.of upd_same⟩, _, rfl, _, rfl, _, _, rfl, rfl, _, rfl, ?_⟩⟩
      have hzl : ({ S with made := l } : PS).made.length ≤ 2000000 := by
        have := hz.2
        rw [e] at this
        simp only [List.length_cons] at this
        show l.length ≤ 2000000
        omega
      by_cases c : p ≤ 4000
      · rw [decide_eq_true c] at k ⊢
        refine iteT ⟨_, rfl, _, _, rfl, rfl, by show 4 ≤ sizeLine; decide, fun u hu => ?_⟩
        have s1 := same_new (o := .tup [v1, .int 0, .int 0, .bl (decide (q ≤ 120))]) hu
        exact ⟨m, mv.dropLast, _, rfl, rfl, s1 _ _ upd_same, room_made R1 upd_same hzl, k _ m ((Go.upd_m.trans (Go.same s1) R1).trans Go.upd_m (R1.same s1)) ((R1.same s1).push_ (s1 _ _ upd_same) (tp_new hu (.four q1 (.int _) (.int _) (.bl _))))⟩
      · rw [decide_eq_false c] at k ⊢
        refine iteF ⟨by show 4 ≤ sizeLine; decide, fun u hu => ?_⟩
        have s1 := same_new (o := .tup [v1, .int 0, .int 0, .bl false]) hu
        exact ⟨m, mv.dropLast, _, rfl, rfl, s1 _ _ upd_same, room_made R1 upd_same hzl, k _ m ((Go.upd_m.trans (Go.same s1) R1).trans Go.upd_m (R1.same s1)) ((R1.same s1).push_ (s1 _ _ upd_same) (tp_new hu (.four q1 (.int _) (.int _) (.bl _))))⟩
    | _ => unfold doSmall at k; rw [e] at k; exact k.elim
end
end KW

/-! part KRead3 -/
set_option maxHeartbeats 4000000
namespace KW
open PySem PySem.Spec PyProof.Rows L2 KM
section
variable {P : Program} {w : World} {K : PySem.W.Frag} {mg : Str → Option Value} {base : Heap}
def spGM (K : PySem.W.Frag) (g : Nat → PS → Rs) : Sp := fun vs H Q E => ∃ (r t m : Addr) (len : Nat) (S : PS), vs = [.ref r] ∧ Rp K r H len S t m ∧ Sz S ∧ MOk S.made ∧ Out K r t m len H Q E (g len S)
theorem spGM_len {g : Nat → PS → Rs} : ∀ vs H Q E, spGM K g vs H Q E → vs.length = 1 := fun vs H Q E h => by obtain ⟨_, _, _, _, _, rfl, _⟩ := h; rfl
/-! ### do_members -/
theorem ok_do_members (T : Txt K mg w) : Good P w K mg base 3 (mR K "do_members") ["self"] (spGM K doMembers) := by
  have GM := ok_is_mark (P := P) (base := base) T
  have GP := ok_plan (P := P) (base := base) T
  have GS := ok_since (P := P) (base := base) T
  have GD := ok_deepest (P := P) (base := base) T
  have GA := ok_all_good (P := P) (base := base) T
  refine good_of T.f_do_members sc_do_members (fun _ _ _ _ _ _ us hl => match us, hl with | [_], _ => rfl) spGM_len (fun cdv A outer s H vs Q E hr h => ?_)
  obtain ⟨r, t, m, len, S, rfl, R, hz, hmo, k⟩ := h
  obtain ⟨dx, wd, at', hR⟩ := R.ins_
  refine ⟨_, (pss_one (ps_if (pt_val (pm GM (hr.mono (by decide)) T.cl T.m_is_mark px (pv 0) (pa_cons pe_str pa_nil))) (pss_cons (ps_fld (pv 0) (pe_op op_add (pe_fld (pv 0) rfl) pe_int) rfl)
      (pss_one (ps_expr (pm GP (hr.mono (by decide)) T.cl T.m_plan px (pv 0) (pa_cons (pe_lst (pa_cons (pe_tup (pa_cons pe_str pa_nil)) (pa_cons (pe_tup (pa_cons pe_str pa_nil)) pa_nil))) pa_nil))))) (pss_cons (ps_set (i := 1) sc_do_members.nd rfl (Or.inl rfl) (pm0 GS (hr.mono (by decide)) T.cl T.m_since px (pv 0)))
      (pss_cons (ps_set (i := 2) sc_do_members.nd rfl (Or.inl rfl) (pe_callB (cr_sum rfl) (by rfl) T.z_sum (by decide +kernel) (pa_cons (pe_lc (own := [("one", 4)]) (g := gName 4) (tt := tYes) rfl sc_do_members.nd (pi_list (pv 1)) (blkOk_by (own := [("one", 4)]) (N := N_do_members) (sc := defScope s_do_members) (by decide +kernel)) (fun _ _ _ _ _ => pg_name (i := 4) sc_do_members.nd rfl (Or.inl rfl)) (fun _ _ _ _ _ => pts_nil) (fun _ _ _ _ _ => pe_ix (ixT K) (pv 4) pe_int (fun _ _ => rfl))) pa_nil)))
      (pss_cons (ps_set (i := 3) sc_do_members.nd rfl (Or.inl rfl) (pe_callTy call_tuple_of (by rfl) T.z_tuple (by decide +kernel) (pa_cons (pe_lc (own := [("one", 4)]) (g := gName 4) (tt := tYes) rfl sc_do_members.nd (pi_list (pv 1)) (blkOk_by (own := [("one", 4)]) (N := N_do_members) (sc := defScope s_do_members) (by decide +kernel)) (fun _ _ _ _ _ => pg_name (i := 4) sc_do_members.nd rfl (Or.inl rfl)) (fun _ _ _ _ _ => pts_nil) (fun _ _ _ _ _ => pe_ix (ixT K) (pv 4) pe_int (fun _ _ => rfl))) pa_nil)))
      (pss_one (ps_expr (pe_bm PySem.F.plainAttrs_list PySem.F.slot_list_append PySem.F.type_list_append mt_append (pe_fld (pv 0) rfl) (pa_cons (pe_tup (pa_cons (pv 3) (pa_cons (pv 2) (pa_cons (pm GD (hr.mono (by decide)) T.cl T.m_deepest px (pv 0) (pa_cons (pv 1) pa_nil)) (pa_cons (pm GA (hr.mono (by decide)) T.cl T.m_all_good px (pv 0) (pa_cons (pv 1) pa_nil)) pa_nil))))) pa_nil))))))))), ?_⟩
  unfold doMembers at k
  refine ⟨_, rfl, r, _, _, rfl, hR, rd_none, r, t, m, len, S, _, rfl, R, by decide +kernel, fun H1 s1 => ⟨_, rfl, iteD (fun c => ?_) (fun c => ?_)⟩⟩
  · rw [if_pos c] at k
    have R1 := R.same s1
    have hR1 := s1 _ _ hR
    have R2 := (R1.adv_ hR1 (ne_of_now c (by simp))).1
    refine ⟨_, rfl, fl_at T hR1 ⟨_, _, rfl, rfl, _, rfl, st_at T hR1 ?_⟩⟩
    refine ⟨_, rfl, r, _, _, rfl, upd_same, rd_none, ?_⟩
    refine ⟨by show 1 ≤ sizeLine; decide, fun u1 hu1 => ?_⟩
    refine ⟨by show 1 ≤ sizeLine; decide, fun u2 hu2 => ?_⟩
    refine ⟨by show 2 ≤ sizeLine; decide, fun ul hul => ?_⟩
    have e1 := same_new (o := .tup [.str "ground"]) hu1
    have e2 := same_new (o := .tup [.str "members"]) hu2
    have el := same_new (o := .lst [.ref u1, .ref u2]) hul
    have ea := ((e1).trans e2).trans el
    have R3 := R2.same ea
    exact ⟨r, t, m, ul, len, S.adv, _, [.ground, .members], rfl, R3, SqL.of upd_same, (.cons ((tp_new hu1 (.one (.str _))).mono (TM.same ((e2).trans el))) (.cons ((tp_new hu2 (.one (.str _))).mono (TM.same (el))) .nil)), by simp, sz2 hz, k.shift (((Go.same s1).trans Go.upd_r R1).trans (Go.same ea) R2) R3⟩
  · rw [if_neg c] at k
    have R1 := R.same s1
    have hR1 := s1 _ _ hR
    have k := k.same s1 R1
    cases es : KM.since S.made with
    | none => rw [es] at k; exact k.elim
    | some pl =>
    obtain ⟨ps, l⟩ := pl
    rw [es] at k
    have k : Out K r t m len H1 Q E (if ps.all Md.isP = true then .ok { S with made := .P (.tuple (ps.map Md.thing)) (sumI (ps.map Md.a1)) (maxI (ps.map Md.a2)) ((ps.map Md.a3).all id) :: l } else .stuck) := k
    by_cases cp : ps.all Md.isP = true
    rotate_left
    · rw [if_neg cp] at k; exact k.elim
    rw [if_pos cp] at k
    have hP : ∀ p ∈ ps, p.isP = true := fun p hp => List.all_eq_true.mp cp p hp
    have hTP : ∀ p ∈ ps, p.isT = true ∨ p.isP = true := fun p hp => .inr (hP p hp)
    have hsl := since_len es
    have hpl : ps.length ≤ 1000000 := by have := hz.2; omega
    refine ⟨_, rfl, r, _, _, rfl, hR1, rd_none, r, t, m, len, S, ps, l, rfl, R1, by have := hz.2; omega, hmo, es, fun H2 p xs g2 R2 hp hpx hxs => ?_⟩
    obtain ⟨dx2, wd2, at2, hR2⟩ := R2.ins_
    have hlen : xs.length = ps.length := by rw [hxs.len, List.length_map]
    have hpL : SqL K H2 p xs := SqL.of hpx
    refine ⟨_, rfl, p, rfl, ⟨_, hpL⟩, fun D hD => lc_map ((ps.map Md.a1).map V.int) hD hpL (by simp [hlen]) (by omega) (fun i x y H3 hx hy s R Z hR => ?_) (fun H3 s3 hD3 => ?_)⟩
    · obtain ⟨q, zs, rfl, h1, h2⟩ := ix_a1 hxs hTP hx hy
      exact ⟨rfl, ⟨_, rfl, q, _, _, _, rfl, rfl, s.seqT h1, atI_nat h2, hR _ (Same.refl _)⟩⟩
    refine ⟨D, ps.map Md.a1, rfl, SqL.of hD3, ?_⟩
    obtain ⟨ys, hys, hix⟩ := vals_of hxs hTP
    have hyl : ys.length = xs.length := by rw [hys.len, hxs.len, List.length_map, List.length_map]
    refine ⟨_, rfl, p, rfl, ⟨_, s3.seq hpL⟩, fun D2 hD2 => lc_map ys hD2 (s3.seq hpL) hyl (by omega) (fun i x y H4 hx hy s R Z hR => ?_) (fun H4 s4 hD4 => ?_)⟩
    · obtain ⟨q, zs, rfl, h1, h2⟩ := hix i x y hx hy
      exact ⟨rfl, ⟨_, rfl, q, _, _, _, rfl, rfl, (s3.trans s).seqT h1, atI_nat h2, hR _ (Same.refl _)⟩⟩
    refine ⟨D2, ys, rfl, .inl ⟨SqL.of hD4, fun u hu => ?_⟩⟩
    have s5 : Same H2 (upd H4 u (.tup ys)) := (s3.trans s4).trans (same_new hu)
    have td : Tp K (upd H4 u (.tup ys)) (.ref u) (.tuple (ps.map Md.thing)) := tp_new hu (hys.mono (TM.same (s3.trans s4)))
    obtain ⟨mv, hm2, hM2⟩ := R2.made_
    refine ⟨_, rfl, fl_made T (s5 _ _ hR2) ⟨.inl ⟨rfl, _, SqL.of (s5 _ _ hm2)⟩, ?_⟩⟩
    refine ⟨_, rfl, _, rfl, _, rfl, r, _, _, rfl, s5 _ _ hR2, rd_none, _, rfl, _, p, xs, ps, rfl, s5.seq hpL, hxs.mono (TM.same s5), hP, by omega, fun H6 s6 => ?_⟩
    have s56 := s5.trans s6
    refine ⟨_, rfl, r, _, _, rfl, s56 _ _ hR2, rd_none, _, rfl, _, p, xs, ps, rfl, s56.seq hpL, hxs.mono (TM.same s56), hP, by omega, fun H7 s7 => ?_⟩
    refine ⟨by show 4 ≤ sizeLine; decide, fun v hv => ?_⟩
    have s8 := (s56.trans s7).trans (same_new (o := .tup [.ref u, .int (ps.map Md.a1).sum, .int (maxI (ps.map Md.a2)), .bl ((ps.map Md.a3).all id)]) hv)
    have R8 := R2.same s8
    refine ⟨m, mv, _, rfl, rfl, s8 _ _ hm2, room_made R2 hm2 (by show l.length ≤ _; have := hz.2; omega), ?_⟩
    exact k _ m ((g2.trans (Go.same s8) R2).trans Go.upd_m R8) (R8.push_ (s8 _ _ hm2) (tp_new hv (.four (td.mono (TM.same (s6.trans s7))) (.int _) (.int _) (.bl _))))
/-! ### do_ended -/
def spEnded (K : PySem.W.Frag) : Sp := fun vs H Q E => ∃ (r t m : Addr) (len : Nat) (S : PS) (x : Str), vs = [.ref r, .str x] ∧ Rp K r H len S t m ∧ Sz S ∧ MOk S.made ∧ Out K r t m len H Q E (doEnded x S)
theorem ok_do_ended (T : Txt K mg w) : Good P w K mg base 2 (mR K "do_ended") ["self", "word"] (spEnded K) := by
  have GS := ok_since (P := P) (base := base) T
  have GD := ok_deepest (P := P) (base := base) T
  have GA := ok_all_good (P := P) (base := base) T
  refine good_of T.f_do_ended sc_do_ended (fun _ _ _ _ _ _ us hl => match us, hl with | [_, _], _ => rfl) (fun vs H Q E h => by obtain ⟨_, _, _, _, _, _, rfl, _⟩ := h; rfl) (fun cdv A outer s H vs Q E hr h => ?_)
  obtain ⟨r, t, m, len, S, x, rfl, R, hz, hmo, k⟩ := h
  obtain ⟨dx, wd, at', hR⟩ := R.ins_
  unfold doEnded at k
  cases es : KM.since S.made with
  | none => rw [es] at k; exact k.elim
  | some pl =>
  obtain ⟨ps, l⟩ := pl
  rw [es] at k
  have k : Out K r t m len H Q E (if ps.all Md.isP = true then (match foldThings x (ps.map Md.thing) with
    | some ds => .ok { S with made := .P (.tuple (.str x :: ds)) (1 + sumI (ps.map Md.a1)) (1 + maxI (ps.map Md.a2)) ((ps.map Md.a3).all id) :: l }
    | none => .stuck) else .stuck) := k
  by_cases cp : ps.all Md.isP = true
  rotate_left
  · rw [if_neg cp] at k; exact k.elim
  rw [if_pos cp] at k
  cases ef : foldThings x (ps.map Md.thing) with
  | none => rw [ef] at k; exact k.elim
  | some ds =>
  rw [ef] at k
  have k : Out K r t m len H Q E (.ok { S with made := .P (.tuple (.str x :: ds)) (1 + sumI (ps.map Md.a1)) (1 + maxI (ps.map Md.a2)) ((ps.map Md.a3).all id) :: l }) := k
  have hP : ∀ p ∈ ps, p.isP = true := fun p hp => List.all_eq_true.mp cp p hp
  have hTP : ∀ p ∈ ps, p.isT = true ∨ p.isP = true := fun p hp => .inr (hP p hp)
  have hsl := since_len es
  have hpl : ps.length ≤ 1000000 := by have := hz.2; omega
  obtain ⟨tr, hrest, hcond⟩ : ∃ tr, PSs (XB P w K mg base N_do_ended "Reader.do_ended" s_do_ended (mR K "do_ended") cdv A outer s H E) ((defBody s_do_ended).drop 3) tr ∧
      ∀ (H2 : Hp) (p : Addr) (xs : List V) (H6 : Hp) (q : Addr) (zs : List V) (σ : L2.St), Go r t m H m H2 → Rp K r H2 len { S with made := l } t m → H2 p = some (.lst xs) → TpAll K H2 xs (ps.map Md.toD) → Same H2 H6 → H6 q = some (.tup zs) → TpAll K H6 zs ds →
        zs.length ≤ 1000001 → σ = [some (.ref r), some (.str x), some (.ref p), some (.ref q), none, none] → tr { nx := fun _ H' => Q .non H', rt := Q } σ H6 := by
    refine ⟨_, (pss_cons (ps_set (i := 4) sc_do_ended.nd rfl (Or.inl rfl) (pe_op op_add pe_int (pe_callB (cr_sum rfl) (by rfl) T.z_sum (by decide +kernel) (pa_cons (pe_lc (own := [("one", 5)]) (g := gName 5) (tt := tYes) rfl sc_do_ended.nd (pi_list (pv 2)) (blkOk_by (own := [("one", 5)]) (N := N_do_ended) (sc := defScope s_do_ended) (by decide +kernel)) (fun _ _ _ _ _ => pg_name (i := 5) sc_do_ended.nd rfl (Or.inl rfl)) (fun _ _ _ _ _ => pts_nil) (fun _ _ _ _ _ => pe_ix (ixT K) (pv 5) pe_int (fun _ _ => rfl))) pa_nil))))
      (pss_one (ps_expr (pe_bm PySem.F.plainAttrs_list PySem.F.slot_list_append PySem.F.type_list_append mt_append (pe_fld (pv 0) rfl) (pa_cons (pe_tup (pa_cons (pe_op op_catT (pe_tup (pa_cons (pv 1) pa_nil)) (pv 3)) (pa_cons (pv 4) (pa_cons (pe_op op_add pe_int (pm GD (hr.mono (by decide)) T.cl T.m_deepest px (pv 0) (pa_cons (pv 2) pa_nil))) (pa_cons (pm GA (hr.mono (by decide)) T.cl T.m_all_good px (pv 0) (pa_cons (pv 2) pa_nil)) pa_nil))))) pa_nil))))), ?_⟩
    intro H2 p xs H6 q zs σ g2 R2 hpx hxs s6 hq6 hz6 hzl hσ
    subst hσ
    have hlen : xs.length = ps.length := by rw [hxs.len, List.length_map]
    have hpL : SqL K H2 p xs := SqL.of hpx
    obtain ⟨dx2, wd2, at2, hR2⟩ := R2.ins_
    have hp6 := s6.seq hpL
    refine ⟨_, rfl, p, rfl, ⟨_, hp6⟩, fun D hD => lc_map ((ps.map Md.a1).map V.int) hD hp6 (by simp [hlen]) (by omega) (fun i x y H7 hx hy s R Z hR => ?_) (fun H7 s7 hD7 => ?_)⟩
    · obtain ⟨q, zs, rfl, h1, h2⟩ := ix_a1 hxs hTP hx hy
      exact ⟨rfl, ⟨_, rfl, q, _, _, _, rfl, rfl, (s6.trans s).seqT h1, atI_nat h2, hR _ (Same.refl _)⟩⟩
    refine ⟨D, ps.map Md.a1, rfl, SqL.of hD7, _, _, rfl, rfl, ?_⟩
    have s67 := s6.trans s7
    obtain ⟨mv, hm2, hM2⟩ := R2.made_
    refine ⟨_, rfl, fl_made T (s67 _ _ hR2) ⟨.inl ⟨rfl, _, SqL.of (s67 _ _ hm2)⟩, ?_⟩⟩
    refine ⟨_, rfl, by show 1 ≤ sizeLine; decide, fun a1 ha1 => ?_⟩
    have s8 := s67.trans (same_new (o := .tup [.str x]) ha1)
    have hq8 : (upd H7 a1 (.tup [.str x])) q = some (.tup zs) := (same_new (o := .tup [.str x]) ha1) _ _ (s7 _ _ hq6)
    have hz8 : TpAll K (upd H7 a1 (.tup [.str x])) zs ds := hz6.mono (TM.same (s7.trans (same_new ha1)))
    refine ⟨_, rfl, a1, q, [.str x], zs, rfl, rfl, SqT.of upd_same, SqT.of hq8, by simp, by simp [sizeLine_eq]; omega, fun hnil => ?_, fun _ b hb => ?_⟩
    · subst hnil
      have hds : ds = [] := by cases hz8; rfl
      have tb : Tp K (upd H7 a1 (.tup [.str x])) (.ref a1) (.tuple (.str x :: ds)) := by rw [hds]; exact tp_new ha1 (.one (.str _))
      refine ⟨_, rfl, _, rfl, r, _, _, rfl, s8 _ _ hR2, rd_none, _, rfl, _, p, xs, ps, rfl, s8.seq hpL, hxs.mono (TM.same s8), hP, by omega, fun H9 s9 => ?_⟩
      refine ⟨_, _, rfl, rfl, ?_⟩
      have s89 := s8.trans s9
      refine ⟨_, rfl, r, _, _, rfl, s89 _ _ hR2, rd_none, _, rfl, _, p, xs, ps, rfl, s89.seq hpL, hxs.mono (TM.same s89), hP, by omega, fun H10 s10 => ?_⟩
      refine ⟨by show 4 ≤ sizeLine; decide, fun v hv => ?_⟩
      have s11 := (s89.trans s10).trans (same_new (o := .tup [.ref a1, .int (1 + (ps.map Md.a1).sum), .int (1 + maxI (ps.map Md.a2)), .bl ((ps.map Md.a3).all id)]) hv)
      have R11 := R2.same s11
      refine ⟨m, mv, _, rfl, rfl, s11 _ _ hm2, room_made R2 hm2 (by show l.length ≤ _; have := hz.2; omega), ?_⟩
      exact k _ m ((g2.trans (Go.same s11) R2).trans Go.upd_m R11) (R11.push_ (s11 _ _ hm2) (tp_new hv (.four (tb.mono (TM.same (s9.trans s10))) (.int _) (.int _) (.bl _))))
    · have s8 := s8.trans (same_new (o := .tup ([.str x] ++ zs)) hb)
      have tb : Tp K (upd (upd H7 a1 (.tup [.str x])) b (.tup ([.str x] ++ zs))) (.ref b) (.tuple (.str x :: ds)) := tp_new hb ((TpAll.one (.str x)).app hz8)
      refine ⟨_, rfl, _, rfl, r, _, _, rfl, s8 _ _ hR2, rd_none, _, rfl, _, p, xs, ps, rfl, s8.seq hpL, hxs.mono (TM.same s8), hP, by omega, fun H9 s9 => ?_⟩
      refine ⟨_, _, rfl, rfl, ?_⟩
      have s89 := s8.trans s9
      refine ⟨_, rfl, r, _, _, rfl, s89 _ _ hR2, rd_none, _, rfl, _, p, xs, ps, rfl, s89.seq hpL, hxs.mono (TM.same s89), hP, by omega, fun H10 s10 => ?_⟩
      refine ⟨by show 4 ≤ sizeLine; decide, fun v hv => ?_⟩
      have s11 := (s89.trans s10).trans (same_new (o := .tup [.ref b, .int (1 + (ps.map Md.a1).sum), .int (1 + maxI (ps.map Md.a2)), .bl ((ps.map Md.a3).all id)]) hv)
      have R11 := R2.same s11
      refine ⟨m, mv, _, rfl, rfl, s11 _ _ hm2, room_made R2 hm2 (by show l.length ≤ _; have := hz.2; omega), ?_⟩
      exact k _ m ((g2.trans (Go.same s11) R2).trans Go.upd_m R11) (R11.push_ (s11 _ _ hm2) (tp_new hv (.four (tb.mono (TM.same (s9.trans s10))) (.int _) (.int _) (.bl _))))
  refine ⟨_, pss_cons (ps_set (i := 2) sc_do_ended.nd rfl (Or.inl rfl) (pm0 GS (hr.mono (by decide)) T.cl T.m_since px (pv 0))) (pss_cons (ps_set (i := 3) sc_do_ended.nd rfl (Or.inl rfl) (pe_callTy call_tuple_of (by rfl) T.z_tuple (by decide +kernel) (pa_cons (pe_lc (own := [("one", 5)]) (g := gName 5) (tt := tYes) rfl sc_do_ended.nd (pi_list (pv 2)) (blkOk_by (own := [("one", 5)]) (N := N_do_ended) (sc := defScope s_do_ended) (by decide +kernel)) (fun _ _ _ _ _ => pg_name (i := 5) sc_do_ended.nd rfl (Or.inl rfl)) (fun _ _ _ _ _ => pts_nil) (fun _ _ _ _ _ => pe_ix (ixT K) (pv 5) pe_int (fun _ _ => rfl))) pa_nil))) (pss_cons (ps_if (pt_cmpR op_eq (pv 1) pe_str (nomark _)) (pss_one (ps_set (i := 3) sc_do_ended.nd rfl (Or.inl rfl) (pe_tup (pa_cons (pe_ix ix_tup (pe_ix ix_tup (pv 3) pe_int (fun _ _ => rfl)) pe_int (fun _ _ => rfl)) (pa_cons (pe_ix ix_tup (pe_ix ix_tup (pv 3) pe_int (fun _ _ => rfl)) pe_int (fun _ _ => rfl)) (pa_cons (pe_ix ix_tup (pv 3) pe_int (fun _ _ => rfl)) pa_nil)))))) pss_nil) hrest)), ?_⟩
  refine ⟨_, rfl, r, _, _, rfl, hR, rd_none, r, t, m, len, S, ps, l, rfl, R, by have := hz.2; omega, hmo, es, fun H2 p xs g2 R2 hp hpx hxs => ?_⟩
  obtain ⟨dx2, wd2, at2, hR2⟩ := R2.ins_
  have hlen : xs.length = ps.length := by rw [hxs.len, List.length_map]
  have hpL : SqL K H2 p xs := SqL.of hpx
  obtain ⟨ys, hys, hix⟩ := vals_of hxs hTP
  have hyl : ys.length = xs.length := by rw [hys.len, hxs.len, List.length_map, List.length_map]
  refine ⟨_, rfl, p, rfl, ⟨_, hpL⟩, fun D2 hD2 => lc_map ys hD2 hpL hyl (by omega) (fun i x y H4 hx hy s R Z hR => ?_) (fun H4 s4 hD4 => ?_)⟩
  · obtain ⟨q, zs, rfl, h1, h2⟩ := hix i x y hx hy
    exact ⟨rfl, ⟨_, rfl, q, _, _, _, rfl, rfl, s.seqT h1, atI_nat h2, hR _ (Same.refl _)⟩⟩
  refine ⟨D2, ys, rfl, .inl ⟨SqL.of hD4, fun u hu => ?_⟩⟩
  have s5 : Same H2 (upd H4 u (.tup ys)) := s4.trans (same_new hu)
  have td : TpAll K (upd H4 u (.tup ys)) ys (ps.map Md.thing) := hys.mono (TM.same s5)
  have hu5 : (upd H4 u (.tup ys)) u = some (.tup ys) := upd_same
  refine ⟨_, rfl, rfl, _, rfl, ?_⟩
  rw [dec_str, Bool.beq_eq_decide_eq]
  refine iteD (fun c => ?_) (fun c => ?_)
  · unfold foldThings at ef
    rw [if_pos c] at ef
    obtain ⟨d0, n, a, g, rest, em⟩ : ∃ d0 n a g rest, ps.map Md.thing = .tuple [d0, n, a] :: g :: rest ∧ ds = [n, a, g] := by
      split at ef
      · rename_i d0 n a g rest e
        exact ⟨d0, n, a, g, rest, e, (Option.some.inj ef).symm⟩
      · cases ef
    obtain ⟨em, eds⟩ := em
    rw [em] at td
    obtain ⟨v1, w1, rfl, q1, t1⟩ := td.cons_inv
    obtain ⟨v2, w2, rfl, q2, t2⟩ := t1.cons_inv
    obtain ⟨c0, cx, rfl, h1, h2⟩ := q1.tup_inv
    obtain ⟨x1, y1, rfl, z1, h3⟩ := h2.cons_inv
    obtain ⟨x2, y2, rfl, z2, h4⟩ := h3.cons_inv
    obtain ⟨x3, y3, rfl, z3, h5⟩ := h4.cons_inv
    refine ⟨_, rfl, u, _, _, _, rfl, rfl, SqT.of hu5, atI_nat (j := 0) rfl, c0, _, _, _, rfl, rfl, h1, atI_nat (j := 1) rfl, ?_⟩
    refine ⟨_, rfl, u, _, _, _, rfl, rfl, SqT.of hu5, atI_nat (j := 0) rfl, c0, _, _, _, rfl, rfl, h1, atI_nat (j := 2) rfl, ?_⟩
    refine ⟨_, rfl, u, _, _, _, rfl, rfl, SqT.of hu5, atI_nat (j := 1) rfl, ?_⟩
    refine ⟨by show 3 ≤ sizeLine; decide, fun q hq => ?_⟩
    have s6 := s5.trans (same_new (o := .tup [x2, x3, v2]) hq)
    exact hcond H2 p xs _ q [x2, x3, v2] _ g2 R2 hpx hxs s6 upd_same (by rw [eds]; exact (TpAll.three z2 z3 q2).mono (TM.new hq)) (by simp) rfl
  · unfold foldThings at ef
    rw [if_neg c] at ef
    cases ef
    exact hcond H2 p xs _ u ys _ g2 R2 hpx hxs s5 hu5 td (by omega) rfl
end
end KW

/-! part KEnumS -/
set_option maxHeartbeats 4000000
namespace KW
open PySem PySem.Spec PyProof.Rows L2 KM
/-! ### for i, c in enumerate(text) -/
def ItS (z : Str) : It := ⟨fun i _ => i < z.cps.size, fun i H v H' => ∃ T c, v = .ref T ∧ H T = none ∧ H' = upd H T (.tup [.int (i : Nat), .str ⟨#[c]⟩]) ∧ z.cps[i]? = some c, fun i _ => i = z.cps.size⟩
def EnumSt (e it : Addr) (z : Str) (t : Tok) (i : Nat) (h : Heap) : Prop := (∃ old, IsEnum h e it ((i : Nat) : Int) old) ∧ h.IsStrIter it (strIterType z) z t i ∧ e ≠ it
theorem draws_str {P : Program} {w : World} {A : Around} (hh : A.handled = none) (it : Addr) (z : Str) (t : Tok) :
    Draws P w A it [it] z.cps.size (fun i v => ∃ c u, z.cps[i]? = some c ∧ v = .str ⟨#[c]⟩ u) (fun i h => h.IsStrIter it (strIterType z) z t i) := by
  unfold strIterType
  split
  · exact Draws.strAscii hh it z t
  · exact Draws.strWide hh it z t
theorem turn_enumS {P : Program} {w : World} {K : PySem.W.Frag} {elts : List Expr} {kk : Nat} {tpos : Pos} (z : Str) (t : Tok) (e it : Addr) :
    Turn P w K (.Tuple elts kk tpos) (ItS z) [e, it] e (EnumSt e it z t) where
  mem := by simp
  obj := fun i h st b hb => by
    obtain ⟨⟨old, he⟩, ⟨o, ho, hc, hd⟩, _⟩ := st
    have e' : b = e ∨ b = it := by simpa using hb
    rcases e' with y | y
    · rw [y]; exact ⟨_, he, fun v q => nomatch q⟩
    · rw [y]; exact ⟨o, ho, fun v q => by rw [hd] at q; cases q⟩
  keep := fun i h h' st k => by
    obtain ⟨⟨old, he⟩, ⟨o, ho, r⟩, hne⟩ := st
    exact ⟨⟨old, k e (by simp) _ he⟩, ⟨o, k it (by simp) _ ho, r⟩, hne⟩
  item := by
    intro X hP hw hK hc i pins s σ H E I hf st hg
    subst hP hw hK
    obtain ⟨⟨old, he⟩, hit, hne⟩ := st
    have hel : e < s.heap.objs.size := Heap.lt_size he
    have hil : it < s.heap.objs.size := by obtain ⟨_, q, _⟩ := hit; exact Heap.lt_size q
    refine wpAny_pyNext_enum_itemD (draws_str (A := X.A.in1) (I.ok.hd hc) it z t) he hit hg hne (by simpa using hne) fun x h' tk hx ho hit' hT hsz hk => ?_
    obtain ⟨c, u, hcx, rfl⟩ := hx
    refine ⟨_, rfl, wpAny_letOwnedTupleGo_enum (s := { s with heap := h', toks := tk + 1 }) ho fun h'' he' sb => ?_⟩
    have hT2 : h''.get? s.heap.objs.size = some { cls := .type "tuple", data := .seq #[.int i tk, .str ⟨#[c]⟩ u] } := (sb.2 _ (Nat.ne_of_gt hel)).trans hT
    have new : ObjOk X.prog X.w (upd H s.heap.objs.size (.tup [.int (i : Nat), .str ⟨#[c]⟩])) h'' s.heap.objs.size (.tup [.int (i : Nat), .str ⟨#[c]⟩]) :=
      ⟨by show 2 ≤ sizeLine; decide, [.int i tk, .str ⟨#[c]⟩ u], .cons ⟨_, rfl⟩ (.cons ⟨_, rfl⟩ .nil), ⟨_, hT2, rfl, _, rfl⟩⟩
    have I1 : Inv X pins σ (upd H s.heap.objs.size (.tup [.int (i : Nat), .str ⟨#[c]⟩])) { s with heap := h'', toks := tk + 1 } :=
      I.turnedNew (ch := [e, it]) (fun b ob hb q => (sb.2 b (fun y => hb (by simp [y]))).trans (hk b ob (fun y => hb (by simp [y])) (fun y => hb (by simp [y])) q)) hf (Nat.le_refl _) new
    refine ⟨.ref s.heap.objs.size, _, I1, rfl, ⟨_, c, rfl, I.hok.fresh (Nat.le_refl _), rfl, hcx⟩, ⟨⟨.str ⟨#[c]⟩ u, ?_⟩, ?_, hne⟩, fun b hb => ?_⟩
    · have e1 : ((i + 1 : Nat) : Int) = (i : Int) + 1 := by omega
      rw [e1]; exact he'
    · obtain ⟨o2, ho2, r2⟩ := hit'
      exact ⟨o2, (sb.2 it (Ne.symm hne)).trans ho2, r2⟩
    · have hb' : b < s.heap.objs.size := by
        have e' : b = e ∨ b = it := by simpa using hb
        rcases e' with y | y
        · rw [y]; exact hel
        · rw [y]; exact hil
      rw [upd_ne (Nat.ne_of_lt hb')]
      exact (hf b hb).1
  done := by
    intro X hP hw hK hc i pins s σ H E I hf st hg
    subst hP hw hK
    obtain ⟨⟨old, he⟩, hit, hne⟩ := st
    obtain ⟨f0, f1, f2, f3, f4, f5⟩ := hf it (by simp)
    have hz : i = z.cps.size := hg
    exact wpAny_pyNext_enum_endD (draws_str (A := X.A.in1) (I.ok.hd hc) it z t) he (hz ▸ hit) fun h' eb => ⟨rfl, I.turned (t' := s.toks) (fun b o hb q => eb b o hb q) f0 f1 f3 f4 f5⟩
  self := fun A i s Q E st h => by
    obtain ⟨⟨_, he⟩, _⟩ := st
    exact wpAny_pyIter_enum he h
def iEnumS (ta : TA) : TI := fun σ H R => ta σ H fun vs H1 => ∃ z, vs = [.str z] ∧ R (ItS z) H1
theorem pi_enumS {X : Cx} {e : Expr} {ta : TA} {p pos tpos : Pos} {elts : List Expr} {kk : Nat} (hg : Gl X "enumerate") (hm : X.mg "enumerate" = none) (ha : PA X [e] ta) (hs : starEach [e] X.env = [(false, eval e X.env)] := by rfl) :
    PI X (.Tuple elts kk tpos) (.Call (.Name "enumerate" p) [e] [] pos) (iEnumS ta) := by
  refine ⟨fun pins s σ H R I h => ?_⟩
  refine Call_ (ld_blt I hg hm boot_enumerate (PyProof.Rows.callWith_type1 (thn (ha.run pos pins s σ H _ I h) fun us s1 ⟨vs, H1, I1, r1, q1⟩ => ?_) hs rfl))
  obtain ⟨z, ex, q⟩ := q1
  subst ex
  cases r1 with
  | cons r rr =>
    cases rr
    obtain ⟨t, rfl⟩ := r
    refine call_enumerate_str fun h' he hit hsz hk => wpAny_pyIter_enum he ?_
    have I2 : Inv X pins σ H1 { s1 with heap := h' } := I1.kept (t' := s1.toks) hk
    refine ⟨s1.heap.objs.size + 1, [s1.heap.objs.size + 1, s1.heap.objs.size], _, _, H1, rfl, I2, turn_enumS z t (s1.heap.objs.size + 1) s1.heap.objs.size, ⟨⟨.none, he⟩, hit, Nat.succ_ne_self _⟩, fun b hb => ?_, q⟩
    have e' : b = s1.heap.objs.size + 1 ∨ b = s1.heap.objs.size := by simpa using hb
    have hle : s1.heap.objs.size ≤ b := by
      rcases e' with y | y
      · rw [y]; exact Nat.le_add_right _ _
      · rw [y]; exact Nat.le_refl _
    exact I1.fpOk hle (I1.hok.fresh hle)
theorem walk_enumS {z : Str} : Walk (ItS z) z.cps.size (fun _ => True) (YPair (fun i => some (.int (i : Nat))) (fun i => (z.cps[i]?).map fun c => .str ⟨#[c]⟩)) where
  goes := fun i H h _ => h
  stops := fun H _ => rfl
  yields := fun i H x H' h _ y => by
    obtain ⟨T, c, h1, h2, h3, h4⟩ := y
    exact ⟨T, _, _, h1, h2, h3, rfl, by show ((z.cps[i]?).map fun c => V.str ⟨#[c]⟩) = _; rw [h4]; rfl⟩
end KW

/-! part KGround -/
set_option maxHeartbeats 4000000
namespace KW
open PySem PySem.Spec PyProof.Rows L2 KM
/-! ### the pieces of a ground -/
def pcOne (i : Nat) (c : Pc) : List Tk := if i > 0 ∧ c ≠ .m then [.take ",", .piece c] else [.piece c]
theorem pt_app (l : List Pc) (c : Pc) : pieceTasks (l ++ [c]) = pieceTasks l ++ pcOne l.length c := by
  cases l with
  | nil => rfl
  | cons d r =>
    show Tk.piece d :: ((r ++ [c]).flatMap _) = _
    rw [List.flatMap_append]
    show _ = Tk.piece d :: (_ ++ pcOne (r.length + 1) c)
    unfold pcOne
    by_cases h : c = .m
    · rw [if_neg (fun z => z.2 h)]
      simp [h]
    · rw [if_pos ⟨Nat.succ_pos _, h⟩]
      simp [h]
theorem pt_take {ps : List Pc} {i : Nat} {c : Pc} (h : ps[i]? = some c) : pieceTasks (ps.take (i + 1)) = pieceTasks (ps.take i) ++ pcOne i c := by
  obtain ⟨hi, rfl⟩ := List.getElem?_eq_some_iff.mp h
  rw [List.take_succ_eq_append_getElem hi, pt_app, List.length_take, Nat.min_eq_left (by omega)]
def cp : Pc → Nat
  | .g => 103 | .G => 71 | .a => 97 | .A => 65 | .t => 116 | .f => 102 | .m => 109 | .n => 110 | .w => 119
theorem cp_str (c : Pc) : c.str = ⟨#[cp c]⟩ := by cases c <;> decide +kernel
theorem pcStr_cps (ps : List Pc) : (pcStr ps).cps = (ps.map cp).toArray := by
  have e : (fun c : Pc => c.str.cps.toList) = fun c => [cp c] := funext fun c => by rw [cp_str]
  unfold pcStr
  rw [e]
  congr 1
  induction ps with
  | nil => rfl
  | cons d r ih =>
    rw [List.flatMap_cons, List.map_cons]
    have ih' : List.flatMap (fun c => [cp c]) r = List.map cp r := by injection ih with ih; injection ih
    rw [ih']; rfl
theorem pcStr_at (ps : List Pc) (i : Nat) : ((pcStr ps).cps[i]?).map (fun c => V.str ⟨#[c]⟩) = ps[i]?.map fun c => V.str c.str := by
  rw [pcStr_cps]
  simp only [List.getElem?_toArray, List.getElem?_map, Option.map_map]
  cases ps[i]? with
  | none => rfl
  | some c => simp [cp_str]
theorem pcStr_size (ps : List Pc) : (pcStr ps).cps.size = ps.length := by rw [pcStr_cps]; simp
theorem dec_m {c : Pc} : decide (V.str c.str = V.str "m") = decide (c = .m) := by
  by_cases h : c = .m
  · subst h; rfl
  · rw [decide_eq_false h]
    refine decide_eq_false fun z => ?_
    injection z with z
    cases c <;> first | exact h rfl | (revert z; decide +kernel)
theorem told_pieces {x : Str} {ps : List Pc} (h : pieces.lookup x = some ps) : ps.length ≤ 10 := by
  have : ∀ q ∈ pieces, q.2.length ≤ 10 := by decide +kernel
  have m : ∀ {l : List (Str × List Pc)}, l.lookup x = some ps → (x, ps) ∈ l := by
    intro l
    induction l with
    | nil => intro z; cases z
    | cons q r ih =>
      intro z
      obtain ⟨y, qs⟩ := q
      by_cases e : x = y
      · subst e
        rw [List.lookup_cons, beq_self_eq_true] at z
        cases z
        exact List.mem_cons_self
      · have e2 : (x == y) = false := by simpa using e
        rw [List.lookup_cons, e2] at z
        exact List.mem_cons_of_mem _ (ih z)
  exact this _ (m h)
section
variable {P : Program} {w : World} {K : PySem.W.Frag} {mg : Str → Option Value} {base : Heap}
def spGround (K : PySem.W.Frag) : Sp := fun vs H Q E => ∃ (r t m : Addr) (len : Nat) (S : PS), vs = [.ref r] ∧ Rp K r H len S t m ∧ Sz S ∧ (∀ x, nw len S = .told x → x ∈ toldAll) ∧ Out K r t m len H Q E (doGround len S)
theorem ok_do_ground (T : Txt K mg w) : Good P w K mg base 5 (mR K "do_ground") ["self"] (spGround K) := by
  have GN := ok_now (P := P) (base := base) T
  have GW := ok_wrong (P := P) (base := base) T
  have GG := ok_go_on (P := P) (base := base) T
  have GM := ok_need_word (P := P) (base := base) T
  have GP := ok_plan (P := P) (base := base) T
  obtain ⟨es, nn, D⟩ := T.d_PIECES
  refine good_of T.f_do_ground sc_do_ground (fun _ _ _ _ _ _ us hl => match us, hl with | [_], _ => rfl) (fun vs H Q E h => by obtain ⟨_, _, _, _, _, rfl, _⟩ := h; rfl) (fun cdv A outer s H vs Q E hr h => ?_)
  obtain ⟨r, t, m, len, S, rfl, R, hz, htold, k⟩ := h
  obtain ⟨dx, wd, at', hR⟩ := R.ins_
  refine ⟨_, (pss_cons (ps_if (PW.pt (pw_or (pt_cmpR op_ne (pe_ix ix_tup (pm0 GN (hr.mono (by decide)) T.cl T.m_now px (pv 0)) pe_int (fun _ _ => rfl)) pe_str (nomark _)) (pw_or1 (pt_cmpR (op_notIn_kd D) (pe_ix ix_tup (pm0 GN (hr.mono (by decide)) T.cl T.m_now px (pv 0)) pe_int (fun _ _ => rfl)) (pg_r T.g_PIECES) (by with_unfolding_all rfl))))) (pss_one (ps_expr (pm0 GW (hr.mono (by decide)) T.cl T.m_wrong px (pv 0)))) pss_nil)
      (pss_cons (ps_set (i := 1) sc_do_ground.nd rfl (Or.inl rfl) (pm0 GG (hr.mono (by decide)) T.cl T.m_go_on px (pv 0)))
      (pss_cons (ps_expr (pm GM (hr.mono (by decide)) T.cl T.m_need_word px (pv 0) (pa_cons pe_str (pa_cons pe_str pa_nil))))
      (pss_cons (ps_set (i := 2) sc_do_ground.nd rfl (Or.inl rfl) (pe_lst pa_nil))
      (pss_cons (ps_for po rfl (pi_enumS (by rfl) T.z_enumerate (pa_cons (pe_ix ix_kdict (pg_r T.g_PIECES) (pv 1) (fun _ _ => rfl)) pa_nil)) (pg_tup rfl (pgs_cons (pg_name (i := 3) sc_do_ground.nd rfl (Or.inl rfl)) (pgs_cons (pg_name (i := 4) sc_do_ground.nd rfl (Or.inl rfl)) pgs_nil))) (pss_cons (ps_if (PW.pt (pw_and (pt_cmpR op_gt (pv 3) pe_int (nomark _)) (pw_and1 (pt_cmpR op_ne (pv 4) pe_str (nomark _))))) (pss_one (ps_expr (pe_bm PySem.F.plainAttrs_list PySem.F.slot_list_append PySem.F.type_list_append mt_append (pv 2) (pa_cons (pe_tup (pa_cons pe_str (pa_cons pe_str (pa_cons pe_str pa_nil)))) pa_nil)))) pss_nil)
      (pss_one (ps_expr (pe_bm PySem.F.plainAttrs_list PySem.F.slot_list_append PySem.F.type_list_append mt_append (pv 2) (pa_cons (pe_tup (pa_cons pe_str (pa_cons (pv 4) pa_nil))) pa_nil))))))
      (pss_cons (ps_expr (pe_bm PySem.F.plainAttrs_list PySem.F.slot_list_append PySem.F.type_list_append mt_append (pe_fld (pv 0) rfl) (pa_cons (pe_tup (pa_cons pe_str pa_nil)) pa_nil)))
      (pss_one (ps_expr (pm GP (hr.mono (by decide)) T.cl T.m_plan px (pv 0) (pa_cons (pe_op op_cat (pv 2) (pe_lst (pa_cons (pe_tup (pa_cons pe_str (pa_cons pe_str (pa_cons pe_str pa_nil)))) (pa_cons (pe_tup (pa_cons pe_str (pa_cons (pv 1) pa_nil))) pa_nil)))) pa_nil)))))))))), ?_⟩
  refine ⟨_, rfl, r, dx, _, rfl, hR, rd_none, r, t, m, len, S, rfl, R, fun H1 p s1 tp => ?_⟩
  obtain ⟨v2, h1, q2⟩ := wd_parts tp
  have R1 := R.same s1
  have hR1 := s1 _ _ hR
  refine ⟨p, _, _, _, rfl, rfl, h1, atI_nat (j := 0) rfl, rfl, _, rfl, ?_⟩
  rw [dec_str, Bool.beq_eq_decide_eq]
  refine iteNot (fun c => iteT ?_) (fun c => ?_)
  · have e : doGround len S = wrongM len S := by
      unfold doGround
      split
      · rename_i n e; exact absurd e (not_told c n)
      · rfl
    rw [e] at k
    exact ⟨_, rfl, r, dx, _, rfl, hR1, rd_none, r, t, m, len, S, rfl, R1, k.same s1 R1⟩
  obtain ⟨x, ex⟩ : ∃ x, nw len S = .told x := kind_told c
  have hxt := htold x ex
  obtain ⟨ro, hro, hro1, hro2⟩ := T.v_PIECES x hxt
  have e : doGround len S = doGround1 len x S := by unfold doGround; rw [ex]
  rw [e] at k
  unfold doGround1 at k
  refine ⟨_, rfl, r, dx, _, rfl, hR1, rd_none, r, t, m, len, S, rfl, R1, fun H2 p2 s2 tp2 => ?_⟩
  obtain ⟨v3, h3, q3⟩ := wd_parts tp2
  have q3' : Tp K H2 v3 (nw len S).val := q3
  rw [ex] at q3'
  cases q3'.str_inv
  have R2 := R1.same s2
  have hR2 := s2 _ _ hR1
  refine ⟨p2, _, _, _, rfl, rfl, h3, atI_nat (j := 1) rfl, x, ro, rfl, rfl, hro, _, rfl, ?_⟩
  cases ro with
  | none =>
    refine iteT ?_
    have e2 : pieces.lookup x = none := by
      cases z : pieces.lookup x with
      | none => rfl
      | some _ => exact absurd (hro1.mpr (by rw [z]; rfl)) (by simp)
    rw [e2] at k
    exact ⟨_, rfl, r, dx, _, rfl, hR2, rd_none, r, t, m, len, S, rfl, R2, k.same (s1.trans s2) R2⟩
  | some u0 =>
  refine iteF ?_
  obtain ⟨ps, hps, ru⟩ := hro2 u0 rfl
  rw [hps] at k
  have k : Out K r t m len H Q E ((needMark len "(" S.adv).bind (doGround2 x ps)) := k
  have hl10 := told_pieces hps
  refine ⟨_, rfl, r, dx, _, rfl, hR2, rd_none, r, t, m, len, S, rfl, R2, ne_of_now ex (by simp), fun H3 v g3 R3 tv => ?_⟩
  rw [ex] at tv
  cases tv.str_inv
  have g13 : Go r t m H m H3 := (Go.same (s1.trans s2)).trans g3 R2
  obtain ⟨dx3, wd3, at3, hR3⟩ := R3.ins_
  refine ⟨_, rfl, r, dx3, _, rfl, hR3, rd_none, r, t, m, len, S.adv, "mark", "(", .mark "(", rfl, R3, .inl ⟨rfl, rfl⟩, by decide +kernel, ?_⟩
  unfold needMark at k
  by_cases cm : nw len S.adv = .mark "("
  rotate_left
  · rw [if_neg cm] at k ⊢
    exact k.shift g13 R3
  rw [if_pos cm] at k ⊢
  have k : Out K r t m len H Q E (.ok ((S.adv.adv.push .B).add (pieceTasks ps ++ [.take ")", .ended x]))) := k
  intro H4 m4 g4 R4
  have g14 : Go r t m H m4 H4 := g13.trans g4 R3
  refine ⟨Nat.zero_le _, fun f hf => ?_⟩
  have s5 : Same H4 (upd H4 f (.lst [])) := same_new hf
  have hft : f ≠ t := by obtain ⟨o, h⟩ := R4.t_some; exact (ne_of_none h hf).symm
  have hfm : f ≠ m4 := by obtain ⟨mv0, h, _⟩ := R4.made_; exact (ne_of_none h hf).symm
  refine ⟨_, rfl, He.ga K "PIECES", x, _, rfl, rfl, ⟨es, nn, u0, D.at_, D.lit, hro, ru⟩, pcStr ps, rfl, ?_⟩
  refine for_it walk_enumS (fun i σ H' => ∃ (a b : Option V) (fv : List V), σ = [some (.ref r), some (.str x), some (.ref f), a, b] ∧ Go r t m4 H4 m4 H' ∧ Rp K r H' len S.adv.adv t m4 ∧ H' f = some (.lst fv) ∧ TpAll K H' fv ((pieceTasks (ps.take i)).map Tk.toD) ∧ fv.length ≤ 2 * i) ?_ (fun _ _ _ _ _ => trivial) ?_ ?_
  · exact ⟨none, none, [], rfl, (Go.refl (m := m4)).mut R4 hf, R4.same s5, upd_same, .nil, Nat.zero_le _⟩
  · rintro i y σ H5 H6 hi ⟨a, b, fv, rfl, g5, R5, hf5, hfv, hfl⟩ ⟨q, y1, y2, rfl, hq, rfl, e1, e2⟩
    cases e1
    replace e2 := (pcStr_at ps i).symm.trans e2
    rw [pcStr_size] at hi
    obtain ⟨pc, hpc, rfl⟩ := Option.map_eq_some_iff.mp e2
    have s6 : Same H5 (upd H5 q (.tup [.int (i : Nat), .str pc.str])) := same_new hq
    have hf6 := s6 _ _ hf5
    have g6 := g5.trans (Go.same s6) R5
    have R6 := R5.same s6
    refine ⟨q, _, rfl, SqT.of upd_same, rfl, _, _, rfl, _, _, rfl, rfl, ?_⟩
    have hp6 : upd H5 q (.tup [.int (i : Nat), .str pc.str]) q = some (.tup [.int (i : Nat), .str pc.str]) := upd_same
    have fin : ∀ (H7 : Hp) (gv : List V) (tks : List Tk) (A B : Option V), Go r t m4 H4 m4 H7 → Rp K r H7 len S.adv.adv t m4 → H7 f = some (.lst gv) → TpAll K H7 gv (tks.map Tk.toD) → gv.length ≤ 2 * i + 1 → pieceTasks (ps.take (i + 1)) = tks ++ [.piece pc] →
        2 ≤ sizeLine ∧ ∀ u, H7 u = none → ∃ (a : Addr) (xs : List V) (y : V), V.ref f = .ref a ∧ [V.ref u] = [y] ∧ (upd H7 u (.tup [.str "piece", .str pc.str])) a = some (.lst xs) ∧ xs.length < sizeLine ∧
          ∃ (a' b' : Option V) (fv : List V), [some (.ref r), some (.str x), some (.ref f), A, B] = [some (.ref r), some (.str x), some (.ref f), a', b'] ∧ Go r t m4 H4 m4 (upd (upd H7 u (.tup [.str "piece", .str pc.str])) a (.lst (xs ++ [y]))) ∧
            Rp K r (upd (upd H7 u (.tup [.str "piece", .str pc.str])) a (.lst (xs ++ [y]))) len S.adv.adv t m4 ∧ (upd (upd H7 u (.tup [.str "piece", .str pc.str])) a (.lst (xs ++ [y]))) f = some (.lst fv) ∧
            TpAll K (upd (upd H7 u (.tup [.str "piece", .str pc.str])) a (.lst (xs ++ [y]))) fv ((pieceTasks (ps.take (i + 1))).map Tk.toD) ∧ fv.length ≤ 2 * (i + 1) := by
      intro H7 gv tks A B g7 R7 hf7 hgv hgl het
      refine ⟨by show 2 ≤ sizeLine; decide, fun u hu => ?_⟩
      have s8 : Same H7 (upd H7 u (.tup [.str "piece", .str pc.str])) := same_new hu
      have g8 := g7.trans (Go.same s8) R7
      have R8 := R7.same s8
      have hf8 := s8 _ _ hf7
      refine ⟨f, gv, .ref u, rfl, rfl, hf8, by rw [sizeLine_eq]; omega, A, B, gv ++ [.ref u], rfl, g8.mut R4 hf, R8.mut hf8 hft hfm (g8.nw R4 hf), upd_same, ?_, by rw [List.length_append]; show gv.length + 1 ≤ _; omega⟩
      rw [het, List.map_append]
      refine TpAll.app ((hgv.mono (TM.same s8)).mono (TM.lst hf8)) (.one ((tp_new hu (.two (.str _) (.str _))).mono (TM.lst hf8)))
    refine ⟨_, rfl, _, _, rfl, rfl, _, rfl, ?_⟩
    refine iteD (c := ((0 : Int) < (i : Int))) (fun hi0 => ?_) (fun hi0 => iteF ?_)
    · refine ⟨_, rfl, rfl, _, rfl, ?_⟩
      rw [dec_m]
      refine iteNot (fun hm => ?_) (fun hm => ?_)
      · refine ⟨_, rfl, .inl ⟨rfl, _, SqL.of hf6⟩, by show 3 ≤ sizeLine; decide, fun u hu => ?_⟩
        have s7 : Same (upd H5 q (.tup [.int (i : Nat), .str pc.str])) _ := same_new (o := .tup [.str "take", .str "mark", .str ","]) hu
        have R7 := R6.same s7
        have g7 := g6.trans (Go.same s7) R6
        have hf7 := s7 _ _ hf6
        refine ⟨f, fv, .ref u, rfl, rfl, hf7, by rw [sizeLine_eq]; omega, ?_⟩
        refine ⟨_, rfl, .inl ⟨rfl, _, SqL.of upd_same⟩, _, rfl, ?_⟩
        refine fin _ (fv ++ [.ref u]) (pieceTasks (ps.take i) ++ [.take ","]) _ _ (g7.mut R4 hf) (R7.mut hf7 hft hfm (g7.nw R4 hf)) upd_same ?_ (by rw [List.length_append]; show fv.length + 1 ≤ _; omega) ?_
        · rw [List.map_append]
          exact TpAll.app (((hfv.mono (TM.same s6)).mono (TM.same s7)).mono (TM.lst hf7)) (.one ((tp_new hu (.three (.str _) (.str _) (.str _))).mono (TM.lst hf7)))
        · rw [pt_take hpc]
          unfold pcOne
          rw [if_pos ⟨by omega, hm⟩]
          simp
      · refine ⟨_, rfl, .inl ⟨rfl, _, SqL.of hf6⟩, _, rfl, ?_⟩
        refine fin _ fv (pieceTasks (ps.take i)) _ _ g6 R6 hf6 (hfv.mono (TM.same s6)) (by omega) ?_
        rw [pt_take hpc]
        unfold pcOne
        rw [if_neg (fun z => z.2 hm)]
    · refine ⟨_, rfl, .inl ⟨rfl, _, SqL.of hf6⟩, _, rfl, ?_⟩
      refine fin _ fv (pieceTasks (ps.take i)) _ _ g6 R6 hf6 (hfv.mono (TM.same s6)) (by omega) ?_
      rw [pt_take hpc]
      unfold pcOne
      rw [if_neg (fun z => hi0 (by omega))]
  · rintro σ H5 ⟨a, b, fv, rfl, g5, R5, hf5, hfv, hfl⟩
    rw [pcStr_size] at hfv hfl
    rw [List.take_length] at hfv
    obtain ⟨dx5, wd5, at5, hR5⟩ := R5.ins_
    obtain ⟨mv, hm5, hM5⟩ := R5.made_
    refine ⟨_, rfl, fl_made T hR5 ⟨.inl ⟨rfl, _, SqL.of hm5⟩, ?_⟩⟩
    refine ⟨by show 1 ≤ sizeLine; decide, fun u hu => ?_⟩
    have s6 := same_new (o := .tup [.str "begin"]) hu
    have R6 := R5.same s6
    have g6 := g5.trans (Go.same s6) R5
    have hz1 := hz.1
    have hz2 := hz.2
    refine ⟨m4, mv, _, rfl, rfl, s6 _ _ hm5, room_made R5 hm5 (show S.made.length ≤ _ by omega), ?_⟩
    have R7 := R6.push_ (d := .B) (s6 _ _ hm5) (tp_new hu (.one (.str _)))
    have g7 := g6.trans (Go.upd_m (o := .lst (mv ++ [.ref u]))) R6
    have hf6 := s6 _ _ hf5
    have hf7 : (upd (upd H5 u (.tup [.str "begin"])) m4 (.lst (mv ++ [.ref u]))) f = some (.lst fv) := by rw [upd_ne hfm]; exact hf6
    have hfv7 := (hfv.mono (TM.same s6)).mono (TM.lst (o := .lst (mv ++ [.ref u])) (s6 _ _ hm5))
    obtain ⟨dx7, wd7, at7, hR7⟩ := R7.ins_
    refine ⟨_, rfl, r, _, _, rfl, hR7, rd_none, _, rfl, ?_⟩
    refine ⟨by show 3 ≤ sizeLine; decide, fun u1 hu1 => ?_⟩
    refine ⟨_, rfl, by show 2 ≤ sizeLine; decide, fun u2 hu2 => ?_⟩
    refine ⟨by show 2 ≤ sizeLine; decide, fun ul hul => ?_⟩
    have e1 := same_new (o := .tup [.str "take", .str "mark", .str ")"]) hu1
    have e2 := same_new (o := .tup [.str "ended", .str x]) hu2
    have el := same_new (o := .lst [.ref u1, .ref u2]) hul
    refine ⟨f, ul, fv, _, rfl, rfl, el _ _ (e2 _ _ (e1 _ _ hf7)), upd_same, by rw [sizeLine_eq]; show fv.length + 2 ≤ _; omega, fun uc huc => ?_⟩
    have ec := same_new (o := .lst (fv ++ [.ref u1, .ref u2])) huc
    have ea := ((e1.trans e2).trans el).trans ec
    have R8 := R7.same ea
    refine ⟨r, t, m4, uc, len, _, _, pieceTasks ps ++ [.take ")", .ended x], rfl, R8, SqL.of upd_same, ?_, ?_, by show S.todo.length ≤ 2000000; omega, ?_⟩
    · rw [List.map_append]
      exact TpAll.app (hfv7.mono (TM.same ea)) (.cons ((tp_new hu1 (.three (.str _) (.str _) (.str _))).mono (TM.same ((e2.trans el).trans ec))) (.cons ((tp_new hu2 (.two (.str _) (.str _))).mono (TM.same (el.trans ec))) .nil))
    · have := hfv7.len
      simp only [List.length_map] at this
      rw [List.length_append]
      show _ + 2 ≤ _
      omega
    · exact k.shift (((g14.trans g7 R4).trans (Go.same ea) R7)) R8
end
end KW

/-! part KPiece -/
set_option maxHeartbeats 4000000
namespace KW
open PySem PySem.Spec PyProof.Rows L2 KM
theorem iteIF {x : V} {xs : List V} {A B : Prop} (h : inV x xs = false) (b : B) : if (if false = true then !inV x xs else inV x xs) = true then A else B := by
  rw [h]; exact iteF b
theorem iteIT {x : V} {xs : List V} {A B : Prop} (h : inV x xs = true) (a : A) : if (if false = true then !inV x xs else inV x xs) = true then A else B := by
  rw [h]; exact iteT a
theorem dget_of {H : Hp} {a : Addr} {kvs : List (L2.Key × V)} {k : L2.Key} {v : V} (e : H a = some (.dK kvs)) (h : valV kvs k = some v) : DGet H a (kV k) (some v) := by rw [← h]; exact DGet.k e
theorem same_new2 {H : Hp} {p : Addr} {o o' : HO} (h : H p = none) : Same H (upd (upd H p o) p o') := fun a u e => by
  rw [upd_ne (ne_of_none e h), upd_ne (ne_of_none e h)]; exact e
theorem wrong_n {len : Nat} {S : PS} (h : ∀ x, nw len S ≠ .num x) : doPiece len .n S = wrongM len S := by
  cases hw : nw len S with
  | num x => exact absurd hw (h x)
  | _ => simp only [doPiece, hw]
theorem wrong_w {len : Nat} {S : PS} (h : ∀ x, nw len S ≠ .name x) : doPiece len .w S = wrongM len S := by
  cases hw : nw len S with
  | name x => exact absurd hw (h x)
  | _ => simp only [doPiece, hw]
theorem wrong_f {len : Nat} {S : PS} (h : ∀ x, nw len S ≠ .name x) : doPiece len .f S = wrongM len S := by
  cases hw : nw len S with
  | name x => exact absurd hw (h x)
  | _ => simp only [doPiece, hw]

section
variable {P : Program} {w : World} {K : PySem.W.Frag} {mg : Str → Option Value} {base : Heap}
/-! ### under -/
def underM (c : Pc) (ts : List Tk) (S : PS) : Rs := if c = .G ∨ c = .A then .ok ({ S with many := S.many + 1 }.add (ts ++ [Tk.less])) else .ok (S.add ts)
def spUnder (K : PySem.W.Frag) : Sp := fun vs H Q E => ∃ (r t m l : Addr) (len : Nat) (S : PS) (c : Pc) (xs : List V) (ts : List Tk), vs = [.ref r, .str c.str, .ref l] ∧ Rp K r H len S t m ∧ Sz S ∧ H l = some (.lst xs) ∧ TpAll K H xs (ts.map Tk.toD) ∧ ts.length ≤ 10 ∧
  Out K r t m len H Q E (underM c ts S)
theorem inGA (c : Pc) : inV (.str c.str) [.str "G", .str "A"] = decide (c = .G ∨ c = .A) := by cases c <;> decide +kernel
theorem ok_under (T : Txt K mg w) : Good P w K mg base 2 (mR K "under") ["self", "sort", "tasks"] (spUnder K) := by
  have GP := ok_plan (P := P) (base := base) T
  refine good_of T.f_under sc_under (fun _ _ _ _ _ _ us hl => match us, hl with | [_, _, _], _ => rfl) (fun vs H Q E h => by obtain ⟨_, _, _, _, _, _, _, _, _, rfl, _⟩ := h; rfl) (fun cdv A outer s H vs Q E hr h => ?_)
  obtain ⟨r, t, m, l, len, S, c, xs, ts, rfl, R, hz, hl, hxs, htl, k⟩ := h
  refine ⟨_, (pss_one (ps_if (pt_cmpR op_in_seq (pv 1) (pe_tup (pa_cons pe_str (pa_cons pe_str pa_nil))) rfl) (pss_cons (ps_fld (pv 0) (pe_op op_add (pe_fld (pv 0) rfl) pe_int) rfl)
      (pss_one (ps_expr (pm GP (hr.mono (by decide)) T.cl T.m_plan px (pv 0) (pa_cons (pe_op op_cat (pv 2) (pe_lst (pa_cons (pe_tup (pa_cons pe_str pa_nil)) pa_nil))) pa_nil))))) (pss_one (ps_expr (pm GP (hr.mono (by decide)) T.cl T.m_plan px (pv 0) (pa_cons (pv 2) pa_nil)))))), ?_⟩
  refine ⟨_, rfl, by show 2 ≤ sizeLine; decide, fun w0 hw0 => ?_⟩
  have q0 := same_new (o := .tup [.str "G", .str "A"]) hw0
  refine ⟨_, _, rfl, .inr (SqT.of upd_same), rfl, by decide +kernel, _, rfl, ?_⟩
  show if inV (.str c.str) [.str "G", .str "A"] = true then _ else _
  rw [inGA]
  have R1 := R.same q0
  have hl1 := q0 _ _ hl
  have hxs1 := hxs.mono (TM.same q0)
  obtain ⟨dx, wd, at', hR1⟩ := R1.ins_
  unfold underM at k
  refine iteD (fun hc => ?_) (fun hc => ?_)
  · rw [if_pos hc] at k
    refine ⟨_, rfl, fl_many T hR1 ⟨_, _, rfl, rfl, _, rfl, st_many T hR1 ?_⟩⟩
    have R2 := R1.set_many (z := S.many + 1) hR1
    have M2 := TM.ins (o := .ins (CR K) dx (rdF wd at' len t m (S.many + 1))) hR1
    have nlr : l ≠ r := (ne_of hR1 hl1 (by intro z; cases z)).symm
    have hl2 : (upd (upd H w0 (.tup [.str "G", .str "A"])) r (.ins (CR K) dx (rdF wd at' len t m (S.many + 1)))) l = some (.lst xs) := by rw [upd_ne nlr]; exact hl1
    refine ⟨_, rfl, r, _, _, rfl, upd_same, rd_none, _, rfl, ?_⟩
    refine ⟨by show 1 ≤ sizeLine; decide, fun u1 hu1 => ?_⟩
    refine ⟨by show 1 ≤ sizeLine; decide, fun ul hul => ?_⟩
    have e1 := same_new (o := .tup [.str "less"]) hu1
    have el := same_new (o := .lst [.ref u1]) hul
    have hxl : xs.length = ts.length := by rw [hxs.len, List.length_map]
    refine ⟨l, ul, xs, _, rfl, rfl, el _ _ (e1 _ _ hl2), upd_same, by rw [sizeLine_eq]; show xs.length + 1 ≤ _; omega, fun uc huc => ?_⟩
    have ec := same_new (o := .lst (xs ++ [.ref u1])) huc
    have ea := (e1.trans el).trans ec
    have R3 := R2.same ea
    refine ⟨r, t, m, uc, len, _, _, ts ++ [.less], rfl, R3, SqL.of upd_same, ?_, by rw [List.length_append]; show ts.length + 1 ≤ _; omega, by have := hz.1; show S.todo.length ≤ 2000000; omega, ?_⟩
    · rw [List.map_append]
      exact TpAll.app ((hxs1.mono M2).mono (TM.same ea)) (.one ((tp_new hu1 (.one (.str _))).mono (TM.same (el.trans ec))))
    · exact k.shift (((Go.same q0).trans Go.upd_r R1).trans (Go.same ea) R2) R3
  · rw [if_neg hc] at k
    refine ⟨_, rfl, r, _, _, rfl, hR1, rd_none, _, rfl, ?_⟩
    exact ⟨r, t, m, l, len, S, xs, ts, rfl, R1, SqL.of hl1, hxs1, by omega, sz2 hz, k.shift (Go.same q0) R1⟩
/-! ### do_piece -/
def spPiece (K : PySem.W.Frag) : Sp := fun vs H Q E => ∃ (r t m : Addr) (len : Nat) (S : PS) (c : Pc), vs = [.ref r, .str c.str] ∧ Rp K r H len S t m ∧ Sz S ∧ Out K r t m len H Q E (doPiece len c S)
theorem ok_do_piece (T : Txt K mg w) : Good P w K mg base 5 (mR K "do_piece") ["self", "sort"] (spPiece K) := by
  have GP := ok_plan (P := P) (base := base) T
  have GK := ok_need_kind (P := P) (base := base) T
  have GU := ok_under (P := P) (base := base) T
  refine good_of T.f_do_piece sc_do_piece (fun _ _ _ _ _ _ us hl => match us, hl with | [_, _], _ => rfl) (fun vs H Q E h => by obtain ⟨_, _, _, _, _, _, rfl, _⟩ := h; rfl) (fun cdv A outer s H vs Q E hr h => ?_)
  obtain ⟨r, t, m, len, S, c, rfl, R, hz, k⟩ := h
  obtain ⟨dx, wd, at', hR⟩ := R.ins_
  refine ⟨_, (pss_one (ps_if (pt_cmpR op_in_seq (pv 1) (pe_tup (pa_cons pe_str (pa_cons pe_str pa_nil))) rfl) (pss_one (ps_expr (pm GU (hr.mono (by decide)) T.cl T.m_under px (pv 0) (pa_cons (pv 1) (pa_cons (pe_lst (pa_cons (pe_tup (pa_cons pe_str pa_nil)) pa_nil)) pa_nil))))) (pss_one (ps_if (pt_cmpR op_in_seq (pv 1) (pe_tup (pa_cons pe_str (pa_cons pe_str pa_nil))) rfl) (pss_one (ps_expr (pm GU (hr.mono (by decide)) T.cl T.m_under px (pv 0) (pa_cons (pv 1) (pa_cons (pe_lst (pa_cons (pe_tup (pa_cons pe_str (pa_cons pe_str (pa_cons pe_str pa_nil)))) (pa_cons (pe_tup (pa_cons pe_str pa_nil)) (pa_cons (pe_tup (pa_cons pe_str (pa_cons pe_str (pa_cons pe_str pa_nil)))) (pa_cons (pe_tup (pa_cons pe_str pa_nil)) pa_nil))))) pa_nil))))) (pss_one (ps_if (pt_cmpR op_eq (pv 1) pe_str (nomark _)) (pss_one (ps_expr (pm GP (hr.mono (by decide)) T.cl T.m_plan px (pv 0) (pa_cons (pe_lst (pa_cons (pe_tup (pa_cons pe_str pa_nil)) (pa_cons (pe_tup (pa_cons pe_str pa_nil)) pa_nil))) pa_nil)))) (pss_one (ps_if (pt_cmpR op_eq (pv 1) pe_str (nomark _)) (pss_cons (ps_set (i := 2) sc_do_piece.nd rfl (Or.inl rfl) (pm GK (hr.mono (by decide)) T.cl T.m_need_kind px (pv 0) (pa_cons pe_str pa_nil)))
      (pss_one (ps_expr (pm GP (hr.mono (by decide)) T.cl T.m_plan px (pv 0) (pa_cons (pe_lst (pa_cons (pe_tup (pa_cons pe_str (pa_cons pe_int pa_nil))) (pa_cons (pe_tup (pa_cons pe_str (pa_cons (pv 2) pa_nil))) (pa_cons (pe_tup (pa_cons pe_str pa_nil)) pa_nil)))) pa_nil))))) (pss_one (ps_if (pt_cmpR op_eq (pv 1) pe_str (nomark _)) (pss_cons (ps_expr (pe_bm PySem.F.plainAttrs_list PySem.F.slot_list_append PySem.F.type_list_append mt_append (pe_fld (pv 0) rfl) (pa_cons (pe_tup (pa_cons pe_str pa_nil)) pa_nil)))
      (pss_one (ps_expr (pm GP (hr.mono (by decide)) T.cl T.m_plan px (pv 0) (pa_cons (pe_lst (pa_cons (pe_tup (pa_cons pe_str pa_nil)) pa_nil)) pa_nil))))) (pss_one (ps_expr (pe_bm PySem.F.plainAttrs_list PySem.F.slot_list_append PySem.F.type_list_append mt_append (pe_fld (pv 0) rfl) (pa_cons (pe_tup (pa_cons (pm GK (hr.mono (by decide)) T.cl T.m_need_kind px (pv 0) (pa_cons (pe_dget (Nat.lt_of_le_of_lt (Nat.add_le_add_left (by decide : 1 ≤ 64) _) hr.units) (pe_disp (pps_cons pe_str pe_str (pps_cons pe_str pe_str pps_nil)) rfl rfl (by simp) (by decide)) (pv 1) (fun _ _ => rfl)) pa_nil)) (pa_cons pe_int (pa_cons pe_int (pa_cons pe_bl pa_nil))))) pa_nil)))))))))))))), ?_⟩
  cases c with
  | g =>
    have k : Out K r t m len H Q E (doPiece len .g S) := k
    have hp1 : V.str (Pc.g).str = V.str "g" := rfl
    rw [show doPiece len .g S = underM .g [.ground] S by unfold underM; first | (rw [if_pos (by decide)]; rfl) | (rw [if_neg (by decide)]; rfl)] at k
    refine ⟨_, rfl, by show 2 ≤ sizeLine; decide, fun w0 hw0 => ?_⟩
    have q0 := same_new (o := .tup [.str "g", .str "G"]) hw0
    refine ⟨_, _, rfl, .inr (SqT.of upd_same), rfl, rfl, _, rfl, iteIT (by decide +kernel) ?_⟩
    have R1 := R.same q0
    refine ⟨_, rfl, r, _, _, rfl, q0 _ _ hR, rd_none, _, rfl, ?_⟩
    refine ⟨by show 1 ≤ sizeLine; decide, fun u1 hu1 => ?_⟩
    refine ⟨by show 1 ≤ sizeLine; decide, fun ul hul => ?_⟩
    have e1 := same_new (o := .tup [.str "ground"]) hu1
    have el := same_new (o := .lst [.ref u1]) hul
    have ea := (e1).trans el
    have R2 := R1.same ea
    exact ⟨r, t, m, ul, len, S, .g, _, [.ground], rfl, R2, hz, upd_same, (.cons ((tp_new hu1 (.one (.str _))).mono (TM.same (el))) .nil), by simp, k.shift ((Go.same q0).trans (Go.same ea) R1) R2⟩
  | G =>
    have k : Out K r t m len H Q E (doPiece len .G S) := k
    have hp1 : V.str (Pc.G).str = V.str "G" := rfl
    rw [show doPiece len .G S = underM .G [.ground] S by unfold underM; first | (rw [if_pos (by decide)]; rfl) | (rw [if_neg (by decide)]; rfl)] at k
    refine ⟨_, rfl, by show 2 ≤ sizeLine; decide, fun w0 hw0 => ?_⟩
    have q0 := same_new (o := .tup [.str "g", .str "G"]) hw0
    refine ⟨_, _, rfl, .inr (SqT.of upd_same), rfl, rfl, _, rfl, iteIT (by decide +kernel) ?_⟩
    have R1 := R.same q0
    refine ⟨_, rfl, r, _, _, rfl, q0 _ _ hR, rd_none, _, rfl, ?_⟩
    refine ⟨by show 1 ≤ sizeLine; decide, fun u1 hu1 => ?_⟩
    refine ⟨by show 1 ≤ sizeLine; decide, fun ul hul => ?_⟩
    have e1 := same_new (o := .tup [.str "ground"]) hu1
    have el := same_new (o := .lst [.ref u1]) hul
    have ea := (e1).trans el
    have R2 := R1.same ea
    exact ⟨r, t, m, ul, len, S, .G, _, [.ground], rfl, R2, hz, upd_same, (.cons ((tp_new hu1 (.one (.str _))).mono (TM.same (el))) .nil), by simp, k.shift ((Go.same q0).trans (Go.same ea) R1) R2⟩
  | a =>
    have k : Out K r t m len H Q E (doPiece len .a S) := k
    have hp1 : V.str (Pc.a).str = V.str "a" := rfl
    rw [show doPiece len .a S = underM .a [.take "[", .stmt, .take "]", .small] S by unfold underM; first | (rw [if_pos (by decide)]; rfl) | (rw [if_neg (by decide)]; rfl)] at k
    refine ⟨_, rfl, by show 2 ≤ sizeLine; decide, fun w0 hw0 => ?_⟩
    have q0 := same_new (o := .tup [.str "g", .str "G"]) hw0
    refine ⟨_, _, rfl, .inr (SqT.of upd_same), rfl, rfl, _, rfl, iteIF (by decide +kernel) ?_⟩
    refine ⟨_, rfl, by show 2 ≤ sizeLine; decide, fun w1 hw1 => ?_⟩
    have q1 := q0.trans (same_new (o := .tup [.str "a", .str "A"]) hw1)
    refine ⟨_, _, rfl, .inr (SqT.of upd_same), rfl, rfl, _, rfl, iteIT (by decide +kernel) ?_⟩
    have R1 := R.same q1
    refine ⟨_, rfl, r, _, _, rfl, q1 _ _ hR, rd_none, _, rfl, ?_⟩
    refine ⟨by show 3 ≤ sizeLine; decide, fun u1 hu1 => ?_⟩
    refine ⟨by show 1 ≤ sizeLine; decide, fun u2 hu2 => ?_⟩
    refine ⟨by show 3 ≤ sizeLine; decide, fun u3 hu3 => ?_⟩
    refine ⟨by show 1 ≤ sizeLine; decide, fun u4 hu4 => ?_⟩
    refine ⟨by show 4 ≤ sizeLine; decide, fun ul hul => ?_⟩
    have e1 := same_new (o := .tup [.str "take", .str "mark", .str "["]) hu1
    have e2 := same_new (o := .tup [.str "statement"]) hu2
    have e3 := same_new (o := .tup [.str "take", .str "mark", .str "]"]) hu3
    have e4 := same_new (o := .tup [.str "small"]) hu4
    have el := same_new (o := .lst [.ref u1, .ref u2, .ref u3, .ref u4]) hul
    have ea := ((((e1).trans e2).trans e3).trans e4).trans el
    have R2 := R1.same ea
    exact ⟨r, t, m, ul, len, S, .a, _, [.take "[", .stmt, .take "]", .small], rfl, R2, hz, upd_same, (.cons ((tp_new hu1 (.three (.str _) (.str _) (.str _))).mono (TM.same ((((e2).trans e3).trans e4).trans el))) (.cons ((tp_new hu2 (.one (.str _))).mono (TM.same (((e3).trans e4).trans el))) (.cons ((tp_new hu3 (.three (.str _) (.str _) (.str _))).mono (TM.same ((e4).trans el))) (.cons ((tp_new hu4 (.one (.str _))).mono (TM.same (el))) .nil)))), by simp, k.shift ((Go.same q1).trans (Go.same ea) R1) R2⟩
  | A =>
    have k : Out K r t m len H Q E (doPiece len .A S) := k
    have hp1 : V.str (Pc.A).str = V.str "A" := rfl
    rw [show doPiece len .A S = underM .A [.take "[", .stmt, .take "]", .small] S by unfold underM; first | (rw [if_pos (by decide)]; rfl) | (rw [if_neg (by decide)]; rfl)] at k
    refine ⟨_, rfl, by show 2 ≤ sizeLine; decide, fun w0 hw0 => ?_⟩
    have q0 := same_new (o := .tup [.str "g", .str "G"]) hw0
    refine ⟨_, _, rfl, .inr (SqT.of upd_same), rfl, rfl, _, rfl, iteIF (by decide +kernel) ?_⟩
    refine ⟨_, rfl, by show 2 ≤ sizeLine; decide, fun w1 hw1 => ?_⟩
    have q1 := q0.trans (same_new (o := .tup [.str "a", .str "A"]) hw1)
    refine ⟨_, _, rfl, .inr (SqT.of upd_same), rfl, rfl, _, rfl, iteIT (by decide +kernel) ?_⟩
    have R1 := R.same q1
    refine ⟨_, rfl, r, _, _, rfl, q1 _ _ hR, rd_none, _, rfl, ?_⟩
    refine ⟨by show 3 ≤ sizeLine; decide, fun u1 hu1 => ?_⟩
    refine ⟨by show 1 ≤ sizeLine; decide, fun u2 hu2 => ?_⟩
    refine ⟨by show 3 ≤ sizeLine; decide, fun u3 hu3 => ?_⟩
    refine ⟨by show 1 ≤ sizeLine; decide, fun u4 hu4 => ?_⟩
    refine ⟨by show 4 ≤ sizeLine; decide, fun ul hul => ?_⟩
    have e1 := same_new (o := .tup [.str "take", .str "mark", .str "["]) hu1
    have e2 := same_new (o := .tup [.str "statement"]) hu2
    have e3 := same_new (o := .tup [.str "take", .str "mark", .str "]"]) hu3
    have e4 := same_new (o := .tup [.str "small"]) hu4
    have el := same_new (o := .lst [.ref u1, .ref u2, .ref u3, .ref u4]) hul
    have ea := ((((e1).trans e2).trans e3).trans e4).trans el
    have R2 := R1.same ea
    exact ⟨r, t, m, ul, len, S, .A, _, [.take "[", .stmt, .take "]", .small], rfl, R2, hz, upd_same, (.cons ((tp_new hu1 (.three (.str _) (.str _) (.str _))).mono (TM.same ((((e2).trans e3).trans e4).trans el))) (.cons ((tp_new hu2 (.one (.str _))).mono (TM.same (((e3).trans e4).trans el))) (.cons ((tp_new hu3 (.three (.str _) (.str _) (.str _))).mono (TM.same ((e4).trans el))) (.cons ((tp_new hu4 (.one (.str _))).mono (TM.same (el))) .nil)))), by simp, k.shift ((Go.same q1).trans (Go.same ea) R1) R2⟩
  | t =>
    have k : Out K r t m len H Q E (doPiece len .t S) := k
    have hp1 : V.str (Pc.t).str = V.str "t" := rfl
    refine ⟨_, rfl, by show 2 ≤ sizeLine; decide, fun w0 hw0 => ?_⟩
    have q0 := same_new (o := .tup [.str "g", .str "G"]) hw0
    refine ⟨_, _, rfl, .inr (SqT.of upd_same), rfl, rfl, _, rfl, iteIF (by decide +kernel) ?_⟩
    refine ⟨_, rfl, by show 2 ≤ sizeLine; decide, fun w1 hw1 => ?_⟩
    have q1 := q0.trans (same_new (o := .tup [.str "a", .str "A"]) hw1)
    refine ⟨_, _, rfl, .inr (SqT.of upd_same), rfl, rfl, _, rfl, iteIF (by decide +kernel) ?_⟩
    refine ⟨_, rfl, rfl, _, rfl, iteST ?_⟩
    have R1 := R.same q1
    have hR1 := q1 _ _ hR
    refine ⟨_, rfl, r, _, _, rfl, hR1, rd_none, ?_⟩
    refine ⟨by show 1 ≤ sizeLine; decide, fun u1 hu1 => ?_⟩
    refine ⟨by show 1 ≤ sizeLine; decide, fun u2 hu2 => ?_⟩
    refine ⟨by show 2 ≤ sizeLine; decide, fun ul hul => ?_⟩
    have e1 := same_new (o := .tup [.str "term"]) hu1
    have e2 := same_new (o := .tup [.str "small"]) hu2
    have el := same_new (o := .lst [.ref u1, .ref u2]) hul
    have ea := ((e1).trans e2).trans el
    have R3 := R1.same ea
    exact ⟨r, t, m, ul, len, S, _, [.term, .small], rfl, R3, SqL.of upd_same, (.cons ((tp_new hu1 (.one (.str _))).mono (TM.same ((e2).trans el))) (.cons ((tp_new hu2 (.one (.str _))).mono (TM.same (el))) .nil)), by simp, sz2 hz, k.shift ((Go.same q1).trans (Go.same ea) R1) R3⟩
  | f =>
    have k : Out K r t m len H Q E (doPiece len .f S) := k
    have hp1 : V.str (Pc.f).str = V.str "f" := rfl
    refine ⟨_, rfl, by show 2 ≤ sizeLine; decide, fun w0 hw0 => ?_⟩
    have q0 := same_new (o := .tup [.str "g", .str "G"]) hw0
    refine ⟨_, _, rfl, .inr (SqT.of upd_same), rfl, rfl, _, rfl, iteIF (by decide +kernel) ?_⟩
    refine ⟨_, rfl, by show 2 ≤ sizeLine; decide, fun w1 hw1 => ?_⟩
    have q1 := q0.trans (same_new (o := .tup [.str "a", .str "A"]) hw1)
    refine ⟨_, _, rfl, .inr (SqT.of upd_same), rfl, rfl, _, rfl, iteIF (by decide +kernel) ?_⟩
    refine ⟨_, rfl, rfl, _, rfl, iteSF ?_⟩
    refine ⟨_, rfl, rfl, _, rfl, iteST ?_⟩
    have R1 := R.same q1
    have hR1 := q1 _ _ hR
    refine ⟨_, rfl, r, _, _, rfl, hR1, rd_none, r, t, m, len, S, _, rfl, R1, by decide +kernel, fun c2 H2 v g2 R2 tv => ?_, fun c2 => ?_⟩
    · obtain ⟨x, ex⟩ : ∃ x, nw len S = .name x := kind_name c2
      have e : doPiece len .f S = .ok (S.adv.add [.args, .call x, .small]) := by unfold doPiece; rw [ex]
      rw [e] at k
      rw [ex] at tv
      cases tv.str_inv
      obtain ⟨dx2, wd2, at2, hR2⟩ := R2.ins_
      refine ⟨_, rfl, r, _, _, rfl, hR2, rd_none, ?_⟩
      refine ⟨by show 2 ≤ sizeLine; decide, fun u1 hu1 => ?_⟩
      refine ⟨_, rfl, by show 2 ≤ sizeLine; decide, fun u2 hu2 => ?_⟩
      refine ⟨by show 1 ≤ sizeLine; decide, fun u3 hu3 => ?_⟩
      refine ⟨by show 3 ≤ sizeLine; decide, fun ul hul => ?_⟩
      have e1 := same_new (o := .tup [.str "args", .int 0]) hu1
      have e2 := same_new (o := .tup [.str "call", .str x]) hu2
      have e3 := same_new (o := .tup [.str "small"]) hu3
      have el := same_new (o := .lst [.ref u1, .ref u2, .ref u3]) hul
      have ea := (((e1).trans e2).trans e3).trans el
      have R3 := R2.same ea
      exact ⟨r, t, m, ul, len, S.adv, _, [.args, .call x, .small], rfl, R3, SqL.of upd_same, (.cons ((tp_new hu1 (.two (.str _) (.int _))).mono (TM.same (((e2).trans e3).trans el))) (.cons ((tp_new hu2 (.two (.str _) (.str _))).mono (TM.same ((e3).trans el))) (.cons ((tp_new hu3 (.one (.str _))).mono (TM.same (el))) .nil))), by simp, sz2 hz, k.shift (((Go.same q1).trans g2 R1).trans (Go.same ea) R2) R3⟩
    · rw [wrong_f (not_name c2)] at k
      exact k.same q1 R1
  | m =>
    have k : Out K r t m len H Q E (doPiece len .m S) := k
    have hp1 : V.str (Pc.m).str = V.str "m" := rfl
    refine ⟨_, rfl, by show 2 ≤ sizeLine; decide, fun w0 hw0 => ?_⟩
    have q0 := same_new (o := .tup [.str "g", .str "G"]) hw0
    refine ⟨_, _, rfl, .inr (SqT.of upd_same), rfl, rfl, _, rfl, iteIF (by decide +kernel) ?_⟩
    refine ⟨_, rfl, by show 2 ≤ sizeLine; decide, fun w1 hw1 => ?_⟩
    have q1 := q0.trans (same_new (o := .tup [.str "a", .str "A"]) hw1)
    refine ⟨_, _, rfl, .inr (SqT.of upd_same), rfl, rfl, _, rfl, iteIF (by decide +kernel) ?_⟩
    refine ⟨_, rfl, rfl, _, rfl, iteSF ?_⟩
    refine ⟨_, rfl, rfl, _, rfl, iteSF ?_⟩
    refine ⟨_, rfl, rfl, _, rfl, iteST ?_⟩
    have R1 := R.same q1
    have hR1 := q1 _ _ hR
    obtain ⟨mv, hm1, hM1⟩ := R1.made_
    refine ⟨_, rfl, fl_made T hR1 ⟨.inl ⟨rfl, _, SqL.of hm1⟩, ?_⟩⟩
    refine ⟨by show 1 ≤ sizeLine; decide, fun u hu => ?_⟩
    have s6 := same_new (o := .tup [.str "begin"]) hu
    have R6 := R1.same s6
    refine ⟨m, mv, _, rfl, rfl, s6 _ _ hm1, room_made R1 hm1 (by have := hz.2; omega), ?_⟩
    have R7 := R6.push_ (d := .B) (s6 _ _ hm1) (tp_new hu (.one (.str _)))
    have g7 := ((Go.same q1).trans (Go.same s6) R1).trans (Go.upd_m (o := .lst (mv ++ [.ref u]))) R6
    obtain ⟨dx7, wd7, at7, hR7⟩ := R7.ins_
    refine ⟨_, rfl, r, _, _, rfl, hR7, rd_none, ?_⟩
    refine ⟨by show 1 ≤ sizeLine; decide, fun v1 hv1 => ?_⟩
    refine ⟨by show 1 ≤ sizeLine; decide, fun ul hul => ?_⟩
    have e1 := same_new (o := .tup [.str "members"]) hv1
    have el := same_new (o := .lst [.ref v1]) hul
    have ea := (e1).trans el
    have R8 := R7.same ea
    exact ⟨r, t, m, ul, len, _, _, [.members], rfl, R8, SqL.of upd_same, (.cons ((tp_new hv1 (.one (.str _))).mono (TM.same (el))) .nil), by simp, by have := hz.1; show S.todo.length ≤ 2000000; omega, k.shift (g7.trans (Go.same ea) R7) R8⟩
  | n =>
    have k : Out K r t m len H Q E (doPiece len .n S) := k
    have hp1 : V.str (Pc.n).str = V.str "n" := rfl
    refine ⟨_, rfl, by show 2 ≤ sizeLine; decide, fun w0 hw0 => ?_⟩
    have q0 := same_new (o := .tup [.str "g", .str "G"]) hw0
    refine ⟨_, _, rfl, .inr (SqT.of upd_same), rfl, rfl, _, rfl, iteIF (by decide +kernel) ?_⟩
    refine ⟨_, rfl, by show 2 ≤ sizeLine; decide, fun w1 hw1 => ?_⟩
    have q1 := q0.trans (same_new (o := .tup [.str "a", .str "A"]) hw1)
    refine ⟨_, _, rfl, .inr (SqT.of upd_same), rfl, rfl, _, rfl, iteIF (by decide +kernel) ?_⟩
    refine ⟨_, rfl, rfl, _, rfl, iteSF ?_⟩
    refine ⟨_, rfl, rfl, _, rfl, iteSF ?_⟩
    refine ⟨_, rfl, rfl, _, rfl, iteSF ?_⟩
    have R1 := R.same q1
    have hR1 := q1 _ _ hR
    obtain ⟨mv, hm1, hM1⟩ := R1.made_
    refine ⟨_, rfl, fl_made T hR1 ⟨.inl ⟨rfl, _, SqL.of hm1⟩, ?_⟩⟩
    refine ⟨_, rfl, r, _, _, rfl, hR1, rd_none, fun p hp => ⟨upd_same, [(.inr "n", .str "number"), (.inr "w", .str "name")], rfl, by decide, _, rfl, p, .str "number", rfl, ?_, ?_⟩⟩
    · exact dget_of (k := .inr "n") upd_same (by decide +kernel)
    have q2 := q1.trans (same_new2 (o := .dK []) (o' := .dK (mergeK [] [(.inr "n", .str "number"), (.inr "w", .str "name")])) hp)
    have R2 := R.same q2
    have hR2 := q2 _ _ hR
    refine ⟨r, t, m, len, S, _, rfl, R2, by decide +kernel, fun c2 H2 v g2 R3 tv => ?_, fun c2 => ?_⟩
    · obtain ⟨x, ex⟩ : ∃ x, nw len S = .num x := kind_num c2
      have e : doPiece len .n S = .ok (S.adv.push (.P (.int x) 0 0 true)) := by unfold doPiece; rw [ex]
      rw [e] at k
      rw [ex] at tv
      cases tv.int_inv
      refine ⟨by show 4 ≤ sizeLine; decide, fun u hu => ?_⟩
      have s6 := same_new (o := .tup [.int x, .int 0, .int 0, .bl true]) hu
      obtain ⟨mv3, hm3, hM3⟩ := R3.made_
      have R6 := R3.same s6
      refine ⟨m, mv3, _, rfl, rfl, s6 _ _ hm3, room_made R3 hm3 (by have := hz.2; show S.made.length ≤ _; omega), ?_⟩
      exact k _ m ((((Go.same q2).trans g2 R2).trans (Go.same s6) R3).trans Go.upd_m R6) (R6.push_ (d := .P (.int x) 0 0 true) (s6 _ _ hm3) (tp_new hu (.four (.int _) (.int _) (.int _) (.bl _))))
    · rw [wrong_n (not_num c2)] at k
      exact k.same q2 R2
  | w =>
    have k : Out K r t m len H Q E (doPiece len .w S) := k
    have hp1 : V.str (Pc.w).str = V.str "w" := rfl
    refine ⟨_, rfl, by show 2 ≤ sizeLine; decide, fun w0 hw0 => ?_⟩
    have q0 := same_new (o := .tup [.str "g", .str "G"]) hw0
    refine ⟨_, _, rfl, .inr (SqT.of upd_same), rfl, rfl, _, rfl, iteIF (by decide +kernel) ?_⟩
    refine ⟨_, rfl, by show 2 ≤ sizeLine; decide, fun w1 hw1 => ?_⟩
    have q1 := q0.trans (same_new (o := .tup [.str "a", .str "A"]) hw1)
    refine ⟨_, _, rfl, .inr (SqT.of upd_same), rfl, rfl, _, rfl, iteIF (by decide +kernel) ?_⟩
    refine ⟨_, rfl, rfl, _, rfl, iteSF ?_⟩
    refine ⟨_, rfl, rfl, _, rfl, iteSF ?_⟩
    refine ⟨_, rfl, rfl, _, rfl, iteSF ?_⟩
    have R1 := R.same q1
    have hR1 := q1 _ _ hR
    obtain ⟨mv, hm1, hM1⟩ := R1.made_
    refine ⟨_, rfl, fl_made T hR1 ⟨.inl ⟨rfl, _, SqL.of hm1⟩, ?_⟩⟩
    refine ⟨_, rfl, r, _, _, rfl, hR1, rd_none, fun p hp => ⟨upd_same, [(.inr "n", .str "number"), (.inr "w", .str "name")], rfl, by decide, _, rfl, p, .str "name", rfl, ?_, ?_⟩⟩
    · exact dget_of (k := .inr "w") upd_same (by decide +kernel)
    have q2 := q1.trans (same_new2 (o := .dK []) (o' := .dK (mergeK [] [(.inr "n", .str "number"), (.inr "w", .str "name")])) hp)
    have R2 := R.same q2
    have hR2 := q2 _ _ hR
    refine ⟨r, t, m, len, S, _, rfl, R2, by decide +kernel, fun c2 H2 v g2 R3 tv => ?_, fun c2 => ?_⟩
    · obtain ⟨x, ex⟩ : ∃ x, nw len S = .name x := kind_name c2
      have e : doPiece len .w S = .ok (S.adv.push (.P (.str x) 0 0 true)) := by unfold doPiece; rw [ex]
      rw [e] at k
      rw [ex] at tv
      cases tv.str_inv
      refine ⟨by show 4 ≤ sizeLine; decide, fun u hu => ?_⟩
      have s6 := same_new (o := .tup [.str x, .int 0, .int 0, .bl true]) hu
      obtain ⟨mv3, hm3, hM3⟩ := R3.made_
      have R6 := R3.same s6
      refine ⟨m, mv3, _, rfl, rfl, s6 _ _ hm3, room_made R3 hm3 (by have := hz.2; show S.made.length ≤ _; omega), ?_⟩
      exact k _ m ((((Go.same q2).trans g2 R2).trans (Go.same s6) R3).trans Go.upd_m R6) (R6.push_ (d := .P (.str x) 0 0 true) (s6 _ _ hm3) (tp_new hu (.four (.str _) (.int _) (.int _) (.bl _))))
    · rw [wrong_w (not_name c2)] at k
      exact k.same q2 R2

end
end KW

/-! part KPot -/
set_option maxHeartbeats 4000000
/-! A weight of words, tasks and what was read that falls (by c) at each step. -/
namespace KM
open PySem
def sumN (l : List Nat) : Nat := l.sum
structure Pot (c : Nat) (Z : Int → Prop) (α : Wd → Nat) (β : Tk → Nat) (γ : Md → Nat) : Prop where
  varT : ∀ n z, Z z → γ (.T (.tuple [.str "var", .int z]) 1 1) + c ≤ α (.var n) + β .term
  termN : ∀ x, β .args + β (.call x) + c ≤ α (.name x) + β .term
  argsP : β .term + β (.more 1) + c ≤ α (.mark "(") + β .args
  argsN : γ (.C 0) + c ≤ β .args
  moreC : ∀ k, β .term + β (.more (k + 1)) + c ≤ α (.mark ",") + β (.more k)
  moreE : ∀ k, γ (.C k) + c ≤ α (.mark ")") + β (.more k)
  callT : ∀ x ps, (∀ p ∈ ps, p.isT = true) → γ (joinedM (.tuple [.str "call", .str x, .tuple (ps.map Md.thing)]) ps) + c ≤ γ (.C ps.length) + (ps.map γ).sum + β (.call x)
  relT : ∀ x ps, (∀ p ∈ ps, p.isT = true) → γ (joinedM (.tuple [.str "rel", .str x, .tuple (ps.map Md.thing)]) ps) + c ≤ γ (.C ps.length) + (ps.map γ).sum + β (.rel x)
  relS : ∀ x ps, (∀ p ∈ ps, p.isT = true) → γ (joinedM (.tuple [.str "call", .str x, .tuple (ps.map Md.thing)]) ps) + β .term + β (.make "same") + c ≤ γ (.C ps.length) + (ps.map γ).sum + α (.mark "=") + β (.rel x)
  bnd : ∀ w n s, (w = "all" ∨ w = "some") → β .stmt + β (.bound w s) + c ≤ α (.told w) + α (.var n) + α (.mark ":") + α (.name s) + α (.mark ".") + β .stmt
  stm : β (.level 1) + β (.rest 0) + c ≤ β .stmt
  lev : ∀ a, a < 3 → β (.level (a + 1)) + β (.rest a) + c ≤ β (.level a)
  notN : β (.level 3) + β .mknot + c ≤ α (.mark "~") + β (.level 3)
  notP : β .stmt + β (.take ")") + c ≤ α (.mark "(") + β (.level 3)
  notO : γ (.T NOd 1 1) + c ≤ α (.told "no") + β (.level 3)
  notV : ∀ n z, Z z → γ (.T (.tuple [.str "var", .int z]) 1 1) + β .term + β (.make "same") + c ≤ α (.var n) + α (.mark "=") + β (.level 3)
  notX : ∀ x, β .args + β (.rel x) + c ≤ α (.name x) + β (.level 3)
  restN : ∀ a, c ≤ β (.rest a)
  rest0 : β (.level 0) + β (.make "if") + c ≤ α (.mark "->") + β (.rest 0)
  rest1 : β (.level 2) + β (.make "or") + c ≤ α (.mark "|")
  rest2 : β (.level 3) + β (.make "and") + c ≤ α (.mark "&")
  mak : ∀ x a b, a.isT = true → b.isT = true → γ (joinedM (.tuple [.str x, a.thing, b.thing]) [a, b]) + c ≤ γ a + γ b + β (.make x)
  nt : ∀ a, a.isT = true → γ (joinedM (.tuple [.str "if", a.thing, NOd]) [a, .T NOd 1 1]) + c ≤ γ a + β .mknot
  bd : ∀ x s a, a.isT = true → γ (joinedM (.tuple [.str x, .str s, a.thing]) [a]) + c ≤ γ a + β (.bound x s)
  tak : ∀ x, c ≤ α (.mark x) + β (.take x)
  grd : ∀ x ps, pieces.lookup x = some ps → γ .B + ((pieceTasks ps).map β).sum + β (.take ")") + β (.ended x) + c ≤ α (.told x) + α (.mark "(") + β .ground
  pg : β .ground + c ≤ β (.piece .g)
  pG : β .ground + β .less + c ≤ β (.piece .G)
  pa : β (.take "[") + β .stmt + β (.take "]") + β .small + c ≤ β (.piece .a)
  pA : β (.take "[") + β .stmt + β (.take "]") + β .small + β .less + c ≤ β (.piece .A)
  pt : β .term + β .small + c ≤ β (.piece .t)
  pf : ∀ x, β .args + β (.call x) + β .small + c ≤ α (.name x) + β (.piece .f)
  pm : γ .B + β .members + c ≤ β (.piece .m)
  pn : ∀ n, γ (.P (.int n) 0 0 true) + c ≤ α (.num n) + β (.piece .n)
  pw : ∀ x, γ (.P (.str x) 0 0 true) + c ≤ α (.name x) + β (.piece .w)
  sml : ∀ d p q, γ (.P d 0 0 (decide (p ≤ 4000) && decide (q ≤ 120))) + c ≤ γ (.T d p q) + β .small
  memC : β .ground + c ≤ α (.mark ",")
  memE : ∀ ps : List Md, (∀ p ∈ ps, p.isP = true) → γ (.P (.tuple (ps.map Md.thing)) (sumI (ps.map Md.a1)) (maxI (ps.map Md.a2)) ((ps.map Md.a3).all id)) + c ≤ (ps.map γ).sum + γ .B + β .members
  les : c ≤ β .less
  end_ : ∀ (x : Str) (ps : List Md) (ds : List PyData), (∀ p ∈ ps, p.isP = true) → foldThings x (ps.map Md.thing) = some ds → γ (.P (.tuple (.str x :: ds)) (1 + sumI (ps.map Md.a1)) (1 + maxI (ps.map Md.a2)) ((ps.map Md.a3).all id)) + c ≤ (ps.map γ).sum + γ .B + β (.ended x)
section
variable {c : Nat} {Z : Int → Prop} {α : Wd → Nat} {β : Tk → Nat} {γ : Md → Nat} {len : Nat}
def phi (α : Wd → Nat) (β : Tk → Nat) (γ : Md → Nat) (S : PS) : Nat := (S.rest.map fun p => α p.w).sum + (S.todo.map β).sum + (S.made.map γ).sum
theorem nw_cons {S : PS} {w : Wd} (h : nw len S = w) (hw : w ≠ .fin) : ∃ p r, S.rest = p :: r ∧ p.w = w := by
  obtain ⟨rest, many, todo, made⟩ := S
  cases rest with
  | nil => exact absurd h.symm hw
  | cons p r => exact ⟨p, r, rfl, h⟩
/-- consumed -/
theorem phi_adv {S : PS} {w : Wd} (h : nw len S = w) (hw : w ≠ .fin) : phi α β γ S.adv + α w = phi α β γ S := by
  obtain ⟨p, r, e, rfl⟩ := nw_cons h hw
  obtain ⟨rest, many, todo, made⟩ := S
  cases e
  simp only [phi, PS.adv, List.tail_cons, List.map_cons, List.sum_cons]
  omega
theorem phi_add {S : PS} {ts : List Tk} : phi α β γ (S.add ts) = phi α β γ S + (ts.map β).sum := by
  simp only [phi, PS.add, List.map_append, List.sum_append]; omega
theorem phi_push {S : PS} {d : Md} : phi α β γ (S.push d) = phi α β γ S + γ d := by
  simp only [phi, PS.push, List.map_cons, List.sum_cons]; omega
theorem phi_many {S : PS} {z : Int} : phi α β γ { S with many := z } = phi α β γ S := rfl
theorem need_ok {x : Str} {S S' : PS} (h : needMark len x S = .ok S') : nw len S = .mark x ∧ S' = S.adv := by
  unfold needMark at h
  split at h
  · rename_i e; exact ⟨e, (by injection h with h; exact h.symm)⟩
  · cases h
theorem need_phi {x : Str} {S S' : PS} (h : needMark len x S = .ok S') : phi α β γ S' + α (.mark x) = phi α β γ S := by
  obtain ⟨e, rfl⟩ := need_ok h
  exact phi_adv e (by simp)
theorem bind_ok {r : Rs} {f : PS → Rs} {S' : PS} (h : r.bind f = .ok S') : ∃ S1, r = .ok S1 ∧ f S1 = .ok S' := by
  cases r with
  | ok S1 => exact ⟨S1, rfl, h⟩
  | err p => cases h
  | stuck => cases h
theorem var_ok {S S' : PS} (h : doVariable len S = .ok S') : ∃ n, nw len S = .var n ∧ n < S.many ∧ S' = S.adv.push (.T (.tuple [.str "var", .int (S.many - 1 - n)]) 1 1) := by
  unfold doVariable at h
  split at h
  · rename_i n e
    split at h
    · rename_i l; exact ⟨n, e, l, by injection h with h; exact h.symm⟩
    · cases h
  · cases h
theorem call_ok {word x : Str} {n : Nat} {S S' : PS} (h : makeCall word x n S = .ok S') : ∃ ps, ps.length = n ∧ (∀ p ∈ ps, p.isT = true) ∧ S.made = ps.reverse ++ S.made.drop n ∧
    S' = { S with made := joinedM (.tuple [.str word, .str x, .tuple (ps.map Md.thing)]) ps :: S.made.drop n } := by
  unfold makeCall at h
  split at h
  · rename_i e
    refine ⟨(S.made.take n).reverse, by simp [List.length_take, Nat.min_eq_left e.1], fun p hp => List.all_eq_true.mp e.2 p (List.mem_reverse.mp hp), by simp, ?_⟩
    injection h with h; exact h.symm
  · cases h
theorem sum_rev (l : List Md) : (l.reverse.map γ).sum = (l.map γ).sum := by
  induction l with
  | nil => rfl
  | cons a l ih => simp only [List.reverse_cons, List.map_append, List.sum_append, List.map_cons, List.map_nil, List.sum_cons, List.sum_nil, ih]; omega
theorem call_phi {word x : Str} {n : Nat} {S S' : PS} (h : makeCall word x n S = .ok S') : ∃ ps, ps.length = n ∧ (∀ p ∈ ps, p.isT = true) ∧
    phi α β γ S' + (ps.map γ).sum = phi α β γ S + γ (joinedM (.tuple [.str word, .str x, .tuple (ps.map Md.thing)]) ps) ∧ S'.rest = S.rest := by
  obtain ⟨ps, h1, h2, h3, rfl⟩ := call_ok h
  refine ⟨ps, h1, h2, ?_, rfl⟩
  have e : (S.made.map γ).sum = (ps.map γ).sum + ((S.made.drop n).map γ).sum := by
    have := congrArg (fun l => (l.map γ).sum) h3
    simp only [List.map_append, List.sum_append, sum_rev] at this
    omega
  simp only [phi, List.map_cons, List.sum_cons, e]
  omega
theorem since_sum : ∀ {md ps l : List Md}, since md = some (ps, l) → (md.map γ).sum = (ps.map γ).sum + γ .B + (l.map γ).sum
  | [], _, _, h => by cases h
  | x :: r, ps, l, h => by
    by_cases hB : x = .B
    · subst hB
      have e : some (([] : List Md), r) = some (ps, l) := h
      injection e with e
      injection e with e1 e2
      subst e1 e2
      simp
    · have e : since (x :: r) = (since r).map fun p => (p.1 ++ [x], p.2) := by cases x <;> first | exact absurd rfl hB | rfl
      rw [e] at h
      cases q : since r with
      | none => rw [q] at h; cases h
      | some p =>
        rw [q] at h
        obtain ⟨a, b⟩ := p
        have e2 : some (a ++ [x], b) = some (ps, l) := h
        injection e2 with e2
        injection e2 with e3 e4
        subst e3 e4
        simp only [List.map_cons, List.sum_cons, List.map_append, List.sum_append, List.map_nil, List.sum_nil, since_sum q]
        omega
theorem pot_step (Pt : Pot c Z α β γ) {t : Tk} {S S' : PS} (h : stepT len t S = .ok S') (hZ : ∀ n, nw len S = .var n → n < S.many → Z (S.many - 1 - n)) (hl : ∀ a, t = .level a → a ≤ 3) :
    phi α β γ S' + c ≤ phi α β γ S + β t := by
  have same : ∀ {S S' : PS}, doSame len S = .ok S' → phi α β γ S' + α (.mark "=") = phi α β γ S + β .term + β (.make "same") := by
    intro S S' h
    unfold doSame at h
    split at h
    · rename_i e
      injection h with h; subst h
      have := phi_adv (α := α) (β := β) (γ := γ) e (by simp)
      rw [phi_add]
      simp only [List.map_cons, List.map_nil, List.sum_cons, List.sum_nil]
      omega
    · cases h
  have vr : ∀ {S' : PS}, doVariable len S = .ok S' → ∃ n z, Z z ∧ phi α β γ S' + α (.var n) = phi α β γ S + γ (.T (.tuple [.str "var", .int z]) 1 1) := by
    intro S' h
    obtain ⟨n, e, l, rfl⟩ := var_ok h
    refine ⟨n, _, hZ n e l, ?_⟩
    have := phi_adv (α := α) (β := β) (γ := γ) e (by simp)
    rw [phi_push]
    omega
  have stp : ∀ {ts : List Tk} {w : Wd}, nw len S = w → w ≠ .fin → phi α β γ (S.adv.add ts) + α w = phi α β γ S + (ts.map β).sum := by
    intro ts w e hw
    have := phi_adv (α := α) (β := β) (γ := γ) e hw
    rw [phi_add]
    omega
  cases t with
  | term =>
    have h : doTerm len S = .ok S' := h
    unfold doTerm at h
    split at h
    · obtain ⟨n, z, hz, e⟩ := vr h
      have := Pt.varT n z hz
      omega
    · rename_i x e
      injection h with h; subst h
      have h1 := stp (ts := [.args, .call x]) e (by simp)
      have h2 := Pt.termN x
      simp only [List.map_cons, List.map_nil, List.sum_cons, List.sum_nil] at h1
      omega
    · cases h
  | args =>
    have h : doArgs len S = .ok S' := h
    unfold doArgs at h
    split at h
    · rename_i e
      injection h with h; subst h
      have h1 := stp (ts := [.term, .more 1]) e (by simp)
      have h2 := Pt.argsP
      simp only [List.map_cons, List.map_nil, List.sum_cons, List.sum_nil] at h1
      omega
    · injection h with h; subst h
      have h2 := Pt.argsN
      rw [phi_push]
      omega
  | more k =>
    have h : doMore len k S = .ok S' := h
    unfold doMore at h
    split at h
    · rename_i e
      injection h with h; subst h
      have h1 := stp (ts := [.term, .more (k + 1)]) e (by simp)
      have h2 := Pt.moreC k
      simp only [List.map_cons, List.map_nil, List.sum_cons, List.sum_nil] at h1
      omega
    · split at h
      · rename_i e
        injection h with h; subst h
        have h1 := phi_adv (α := α) (β := β) (γ := γ) e (by simp)
        have h2 := Pt.moreE k
        rw [phi_push]
        omega
      · cases h
  | call x =>
    have h : doCall x S = .ok S' := h
    unfold doCall at h
    split at h
    · rename_i n r e
      obtain ⟨ps, h1, h2, h3, _⟩ := call_phi (α := α) (β := β) (γ := γ) h
      have h4 := Pt.callT x ps h2
      have h5 : phi α β γ S = phi α β γ { S with made := r } + γ (.C n) := by simp only [phi, e, List.map_cons, List.sum_cons]; omega
      rw [h1] at h4
      omega
    · cases h
  | rel x =>
    have h : doRel len x S = .ok S' := h
    unfold doRel at h
    split at h
    · rename_i n r e
      have h5 : phi α β γ S = phi α β γ { S with made := r } + γ (.C n) := by simp only [phi, e, List.map_cons, List.sum_cons]; omega
      split at h
      · obtain ⟨S1, h6, h7⟩ := bind_ok h
        obtain ⟨ps, h1, h2, h3, _⟩ := call_phi (α := α) (β := β) (γ := γ) h6
        have h4 := Pt.relS x ps h2
        have h8 := same h7
        rw [h1] at h4
        omega
      · obtain ⟨ps, h1, h2, h3, _⟩ := call_phi (α := α) (β := β) (γ := γ) h
        have h4 := Pt.relT x ps h2
        rw [h1] at h4
        omega
    · cases h
  | stmt =>
    have h : doStmt len S = .ok S' := h
    have bd : ∀ w, (w = "all" ∨ w = "some") → nw len S = .told w → doBound len w S.adv = .ok S' → phi α β γ S' + c ≤ phi α β γ S + β .stmt := by
      intro w hw e h
      unfold doBound at h
      split at h
      · rename_i e2
        obtain ⟨S1, h1, h2⟩ := bind_ok h
        have a1 := phi_adv (α := α) (β := β) (γ := γ) e (by simp)
        have a2 := phi_adv (α := α) (β := β) (γ := γ) e2 (by simp)
        have a3 := need_phi (α := α) (β := β) (γ := γ) h1
        unfold doBound2 at h2
        split at h2
        · rename_i s e4
          have a4 := phi_adv (α := α) (β := β) (γ := γ) e4 (by simp)
          unfold doBound3 at h2
          obtain ⟨S2, h3, h4⟩ := bind_ok h2
          have a5 := need_phi (α := α) (β := β) (γ := γ) h3
          injection h4 with h4; subst h4
          have h5 := Pt.bnd w S.adv.many s hw
          rw [phi_add, phi_many]
          simp only [List.map_cons, List.map_nil, List.sum_cons, List.sum_nil]
          omega
        · cases h2
      · cases h
    unfold doStmt at h
    split at h
    · rename_i e; exact bd _ (.inl rfl) e h
    · split at h
      · rename_i e; exact bd _ (.inr rfl) e h
      · unfold doLevel at h
        rw [if_neg (by decide)] at h
        injection h with h; subst h
        have := Pt.stm
        rw [phi_add]
        simp only [List.map_cons, List.map_nil, List.sum_cons, List.sum_nil, Nat.zero_add]
        omega
  | level a =>
    have h : doLevel len a S = .ok S' := h
    have ha := hl a rfl
    unfold doLevel at h
    split at h
    · rename_i e
      subst e
      replace h : doNot len S = .ok S' := h
      unfold doNot at h
      split at h
      · rename_i x e
        split at h
        · rename_i ex; subst ex
          injection h with h; subst h
          have h1 := stp (ts := [.level 3, .mknot]) e (by simp)
          have h2 := Pt.notN
          simp only [List.map_cons, List.map_nil, List.sum_cons, List.sum_nil] at h1
          omega
        · split at h
          · rename_i ex; subst ex
            injection h with h; subst h
            have h1 := stp (ts := [.stmt, .take ")"]) e (by simp)
            have h2 := Pt.notP
            simp only [List.map_cons, List.map_nil, List.sum_cons, List.sum_nil] at h1
            omega
          · cases h
      · rename_i x e
        split at h
        · rename_i ex; subst ex
          injection h with h; subst h
          have h1 := phi_adv (α := α) (β := β) (γ := γ) e (by simp)
          have h2 := Pt.notO
          rw [phi_push]
          omega
        · cases h
      · obtain ⟨S1, h1, h2⟩ := bind_ok h
        obtain ⟨n, z, hz, e⟩ := vr h1
        have := Pt.notV n z hz
        have := same h2
        omega
      · rename_i x e
        injection h with h; subst h
        have h1 := stp (ts := [.args, .rel x]) e (by simp)
        have h2 := Pt.notX x
        simp only [List.map_cons, List.map_nil, List.sum_cons, List.sum_nil] at h1
        omega
      · cases h
    · injection h with h; subst h
      have := Pt.lev a (by omega)
      rw [phi_add]
      simp only [List.map_cons, List.map_nil, List.sum_cons, List.sum_nil]
      omega
  | rest a =>
    have h : doRest len a S = .ok S' := h
    unfold doRest at h
    have hN := Pt.restN a
    match a, h with
    | 0, h =>
      have h : (if nw len S = .mark "->" then Rs.ok (S.adv.add [.level 0, .make "if"]) else .ok S) = .ok S' := h
      split at h
      · rename_i e
        injection h with h; subst h
        have h1 := stp (ts := [.level 0, .make "if"]) e (by simp)
        have h2 := Pt.rest0
        simp only [List.map_cons, List.map_nil, List.sum_cons, List.sum_nil] at h1
        omega
      · injection h with h; subst h; omega
    | 1, h =>
      have h : (if nw len S = .mark "|" then Rs.ok (S.adv.add [.level 2, .make "or", .rest 1]) else .ok S) = .ok S' := h
      split at h
      · rename_i e
        injection h with h; subst h
        have h1 := stp (ts := [.level 2, .make "or", .rest 1]) e (by simp)
        have h2 := Pt.rest1
        simp only [List.map_cons, List.map_nil, List.sum_cons, List.sum_nil] at h1
        omega
      · injection h with h; subst h; omega
    | 2, h =>
      have h : (if nw len S = .mark "&" then Rs.ok (S.adv.add [.level 3, .make "and", .rest 2]) else .ok S) = .ok S' := h
      split at h
      · rename_i e
        injection h with h; subst h
        have h1 := stp (ts := [.level 3, .make "and", .rest 2]) e (by simp)
        have h2 := Pt.rest2
        simp only [List.map_cons, List.map_nil, List.sum_cons, List.sum_nil] at h1
        omega
      · injection h with h; subst h; omega
    | n + 3, h => simp [signs] at h
  | make x =>
    have h : doMake x S = .ok S' := h
    unfold doMake at h
    split at h
    · rename_i b a r e
      split at h
      · rename_i ht
        injection h with h; subst h
        have := Pt.mak x a b ht.1 ht.2
        simp only [phi, e, List.map_cons, List.sum_cons]
        omega
      · cases h
    · cases h
  | mknot =>
    have h : doMknot S = .ok S' := h
    unfold doMknot at h
    split at h
    · rename_i a r e
      split at h
      · rename_i ht
        injection h with h; subst h
        have := Pt.nt a ht
        simp only [phi, e, List.map_cons, List.sum_cons]
        omega
      · cases h
    · cases h
  | bound x s =>
    have h : doBnd x s S = .ok S' := h
    unfold doBnd at h
    split at h
    · rename_i a r e
      split at h
      · rename_i ht
        injection h with h; subst h
        have := Pt.bd x s a ht
        simp only [phi, e, List.map_cons, List.sum_cons]
        omega
      · cases h
    · cases h
  | take x =>
    have h : needMark len x S = .ok S' := h
    have := need_phi (α := α) (β := β) (γ := γ) h
    have := Pt.tak x
    omega
  | ground =>
    have h : doGround len S = .ok S' := h
    unfold doGround at h
    split at h
    · rename_i x e
      unfold doGround1 at h
      split at h
      · rename_i ps hp
        obtain ⟨S1, h1, h2⟩ := bind_ok h
        have a1 := phi_adv (α := α) (β := β) (γ := γ) e (by simp)
        have a2 := need_phi (α := α) (β := β) (γ := γ) h1
        unfold doGround2 at h2
        injection h2 with h2; subst h2
        have := Pt.grd x ps hp
        rw [phi_add, phi_push]
        simp only [List.map_append, List.sum_append, List.map_cons, List.map_nil, List.sum_cons, List.sum_nil]
        omega
      · cases h
    · cases h
  | piece p =>
    have h : doPiece len p S = .ok S' := h
    unfold doPiece at h
    cases p with
    | g =>
      injection h with h; subst h
      have := Pt.pg
      rw [phi_add]; simp only [List.map_cons, List.map_nil, List.sum_cons, List.sum_nil]; omega
    | G =>
      injection h with h; subst h
      have := Pt.pG
      rw [phi_add, phi_many]; simp only [List.map_cons, List.map_nil, List.sum_cons, List.sum_nil]; omega
    | a =>
      injection h with h; subst h
      have := Pt.pa
      rw [phi_add]; simp only [List.map_cons, List.map_nil, List.sum_cons, List.sum_nil]; omega
    | A =>
      injection h with h; subst h
      have := Pt.pA
      rw [phi_add, phi_many]; simp only [List.map_cons, List.map_nil, List.sum_cons, List.sum_nil]; omega
    | t =>
      injection h with h; subst h
      have := Pt.pt
      rw [phi_add]; simp only [List.map_cons, List.map_nil, List.sum_cons, List.sum_nil]; omega
    | f =>
      replace h : (match nw len S with | .name x => Rs.ok (S.adv.add [.args, .call x, .small]) | _ => wrongM len S) = .ok S' := h
      split at h
      · rename_i x e
        injection h with h; subst h
        have h1 := stp (ts := [.args, .call x, .small]) e (by simp)
        have h2 := Pt.pf x
        simp only [List.map_cons, List.map_nil, List.sum_cons, List.sum_nil] at h1
        omega
      · cases h
    | m =>
      injection h with h; subst h
      have := Pt.pm
      rw [phi_add, phi_push]; simp only [List.map_cons, List.map_nil, List.sum_cons, List.sum_nil]; omega
    | n =>
      replace h : (match nw len S with | .num n => Rs.ok (S.adv.push (.P (.int n) 0 0 true)) | _ => wrongM len S) = .ok S' := h
      split at h
      · rename_i x e
        injection h with h; subst h
        have h1 := phi_adv (α := α) (β := β) (γ := γ) e (by simp)
        have h2 := Pt.pn x
        rw [phi_push]; omega
      · cases h
    | w =>
      replace h : (match nw len S with | .name x => Rs.ok (S.adv.push (.P (.str x) 0 0 true)) | _ => wrongM len S) = .ok S' := h
      split at h
      · rename_i x e
        injection h with h; subst h
        have h1 := phi_adv (α := α) (β := β) (γ := γ) e (by simp)
        have h2 := Pt.pw x
        rw [phi_push]; omega
      · cases h
  | small =>
    have h : doSmall S = .ok S' := h
    unfold doSmall at h
    split at h
    · rename_i d p q r e
      injection h with h; subst h
      have := Pt.sml d p q
      simp only [phi, e, List.map_cons, List.sum_cons]
      omega
    · cases h
  | members =>
    have h : doMembers len S = .ok S' := h
    unfold doMembers at h
    split at h
    · rename_i e
      injection h with h; subst h
      have h1 := stp (ts := [.ground, .members]) e (by simp)
      have h2 := Pt.memC
      simp only [List.map_cons, List.map_nil, List.sum_cons, List.sum_nil] at h1
      omega
    · split at h
      · rename_i ps r e
        split at h
        · rename_i ht
          injection h with h; subst h
          have := Pt.memE ps fun p hp => List.all_eq_true.mp ht p hp
          have := since_sum (γ := γ) e
          simp only [phi, List.map_cons, List.sum_cons]
          omega
        · cases h
      · cases h
  | less =>
    have h : Rs.ok { S with many := S.many - 1 } = .ok S' := h
    injection h with h; subst h
    have := Pt.les
    rw [phi_many]; omega
  | ended x =>
    have h : doEnded x S = .ok S' := h
    unfold doEnded at h
    split at h
    · rename_i ps r e
      split at h
      · rename_i ht
        split at h
        · rename_i ds hd
          injection h with h; subst h
          have := Pt.end_ x ps ds (fun p hp => List.all_eq_true.mp ht p hp) hd
          have := since_sum (γ := γ) e
          simp only [phi, List.map_cons, List.sum_cons]
          omega
        · cases h
      · cases h
    · cases h
end
end KM

/-! part KInv -/
set_option maxHeartbeats 4000000
/-! The weights; what stays true along a run; runs by fuel. -/
namespace KM
open PySem
theorem look_mem {x : Str} {ps : List Pc} : ∀ {l : List (Str × List Pc)}, l.lookup x = some ps → (x, ps) ∈ l := by
  intro l
  induction l with
  | nil => intro z; cases z
  | cons q r ih =>
    intro z
    obtain ⟨y, qs⟩ := q
    by_cases e : x = y
    · subst e
      rw [List.lookup_cons, beq_self_eq_true] at z
      cases z
      exact List.mem_cons_self
    · have e2 : (x == y) = false := by simpa using e
      rw [List.lookup_cons, e2] at z
      exact List.mem_cons_of_mem _ (ih z)
theorem sum_one (ps : List Md) : (ps.map fun _ => 1).sum = ps.length := by
  induction ps with
  | nil => rfl
  | cons a l ih => simp only [List.map_cons, List.sum_cons, ih, List.length_cons]; omega
/-! ### the measure of a run -/
def bM : Tk → Nat
  | .args => 2
  | .stmt => 8
  | .level a => 7 - 2 * a
  | .piece _ => 14
  | _ => 1
theorem potM : Pot 1 (fun _ => True) (fun _ => 100) bM (fun _ => 1) where
  varT := by intros; simp [bM]
  termN := by intros; simp [bM]
  argsP := by simp [bM]
  argsN := by simp [bM]
  moreC := by intros; simp [bM]
  moreE := by intros; simp [bM]
  callT := by intro x ps h; simp [bM]
  relT := by intro x ps h; simp [bM]
  relS := by intro x ps h; simp [bM]
  bnd := by intros; simp [bM]
  stm := by simp [bM]
  lev := by intro a h; simp [bM]; omega
  notN := by simp [bM]
  notP := by simp [bM]
  notO := by simp [bM]
  notV := by intros; simp [bM]
  notX := by intros; simp [bM]
  restN := by intros; simp [bM]
  rest0 := by simp [bM]
  rest1 := by simp [bM]
  rest2 := by simp [bM]
  mak := by intros; simp [bM]
  nt := by intros; simp [bM]
  bd := by intros; simp [bM]
  tak := by intros; simp [bM]
  grd := by
    intro x ps h
    have : ∀ q ∈ pieces, ((pieceTasks q.2).map bM).sum ≤ 100 := by decide +kernel
    have := this _ (look_mem h)
    simp [bM] at this ⊢
    omega
  pg := by simp [bM]
  pG := by simp [bM]
  pa := by simp [bM]
  pA := by simp [bM]
  pt := by simp [bM]
  pf := by intros; simp [bM]
  pm := by simp [bM]
  pn := by intros; simp [bM]
  pw := by intros; simp [bM]
  sml := by intros; simp [bM]
  memC := by simp [bM]
  memE := by intros; simp [bM]
  les := by simp [bM]
  end_ := by intros; simp [bM]
def mu (S : PS) : Nat := phi (fun _ => 100) bM (fun _ => 1) S
theorem bM_pos {t : Tk} (h : ∀ a, t = .level a → a ≤ 3) : 1 ≤ bM t := by
  cases t with
  | level a => have := h a rfl; simp only [bM]; omega
  | _ => simp only [bM]; omega
/-! ### what was written may be compared -/
def bn (b : Bool) : Nat := if b = true then 0 else 1
theorem bn0 {b : Bool} : bn b = 0 ↔ b = true := by cases b <;> simp [bn]
theorem bn_and {a b : Bool} : bn (a && b) ≤ bn a + bn b := by cases a <;> cases b <;> simp [bn]
def aL (w : Wd) : Nat := bn w.val.canLay0
def bL (t : Tk) : Nat := bn (t.toD.canLay0 && (match t with | .level a => decide (a ≤ 3) | _ => true))
def gL (d : Md) : Nat := bn d.toD.canLay0
theorem lay_T {d : PyData} {p q : Int} : gL (.T d p q) = bn d.canLay0 := by
  cases h : d.canLay0 <;> simp [gL, Md.toD, PyData.canLay0, PyData.canLayAll0, h]
theorem lay_P {d : PyData} {p q : Int} {b : Bool} : gL (.P d p q b) = bn d.canLay0 := by
  cases h : d.canLay0 <;> simp [gL, Md.toD, PyData.canLay0, PyData.canLayAll0, h]
theorem gl_thing {m : Md} : bn m.thing.canLay0 ≤ gL m := by
  cases m with
  | T d p q => rw [lay_T]; exact Nat.le_refl _
  | P d p q b => rw [lay_P]; exact Nat.le_refl _
  | C n => simp [Md.thing, PyData.canLay0, bn]
  | B => simp [Md.thing, PyData.canLay0, bn]
theorem gl_things (ps : List Md) : bn (PyData.canLayAll0 (ps.map Md.thing)) ≤ (ps.map gL).sum := by
  induction ps with
  | nil => simp [PyData.canLayAll0, bn]
  | cons a l ih =>
    have h1 := gl_thing (m := a)
    have h2 := bn_and (a := a.thing.canLay0) (b := PyData.canLayAll0 (l.map Md.thing))
    simp only [List.map_cons, List.sum_cons, PyData.canLayAll0]
    omega
theorem lay_fold {x : Str} {ds es : List PyData} (h : foldThings x ds = some es) : bn (PyData.canLayAll0 es) ≤ bn (PyData.canLayAll0 ds) := by
  unfold foldThings at h
  split at h
  · split at h
    · injection h with h
      subst h
      rename_i d0 n a g r
      have : PyData.canLayAll0 (.tuple [d0, n, a] :: g :: r) = true → PyData.canLayAll0 [n, a, g] = true := by
        simp [PyData.canLay0, PyData.canLayAll0]
        intros; simp_all
      cases q : PyData.canLayAll0 (.tuple [d0, n, a] :: g :: r) with
      | true => rw [this q]; simp [bn]
      | false => simp only [bn]; split <;> simp
    · cases h
  · injection h with h
    subst h
    exact Nat.le_refl _
theorem potL : Pot 0 (fun _ => True) aL bL gL where
  varT := by intro n z _; rw [lay_T]; simp [PyData.canLay0, PyData.canLayAll0, bn, show PyData.strOk "var" = true by decide +kernel]
  termN := by intro x; simp [bL, aL, Tk.toD, Wd.val, PyData.canLay0, PyData.canLayAll0, show PyData.strOk "args" = true by decide +kernel, show PyData.strOk "call" = true by decide +kernel, show PyData.strOk "term" = true by decide +kernel, bn]
  argsP := by decide +kernel
  argsN := by decide +kernel
  moreC := by intro k; simp [bL, aL, Tk.toD, Wd.val, PyData.canLay0, PyData.canLayAll0, show PyData.strOk "more" = true by decide +kernel, show PyData.strOk "term" = true by decide +kernel, bn]
  moreE := by intro k; simp [gL, Md.toD, PyData.canLay0, bn]
  callT := by
    intro x ps h
    have h1 := gl_things ps
    have h2 : bn (PyData.strOk x) ≤ bL (.call x) := by cases q : PyData.strOk x <;> simp [bL, Tk.toD, PyData.canLay0, PyData.canLayAll0, q, bn]
    unfold joinedM
    rw [lay_T]
    have h3 := bn_and (a := PyData.strOk x) (b := PyData.canLayAll0 (ps.map Md.thing))
    simp only [PyData.canLay0, PyData.canLayAll0, Bool.and_true, show PyData.strOk "call" = true by decide +kernel, Bool.true_and]
    omega
  relT := by
    intro x ps h
    have h1 := gl_things ps
    have h2 : bn (PyData.strOk x) ≤ bL (.rel x) := by cases q : PyData.strOk x <;> simp [bL, Tk.toD, PyData.canLay0, PyData.canLayAll0, q, bn]
    unfold joinedM
    rw [lay_T]
    have h3 := bn_and (a := PyData.strOk x) (b := PyData.canLayAll0 (ps.map Md.thing))
    simp only [PyData.canLay0, PyData.canLayAll0, Bool.and_true, show PyData.strOk "rel" = true by decide +kernel, Bool.true_and]
    omega
  relS := by
    intro x ps h
    have h1 := gl_things ps
    have h2 : bn (PyData.strOk x) ≤ bL (.rel x) := by cases q : PyData.strOk x <;> simp [bL, Tk.toD, PyData.canLay0, PyData.canLayAll0, q, bn]
    have h4 : bL .term + bL (.make "same") = 0 := by decide +kernel
    unfold joinedM
    rw [lay_T]
    have h3 := bn_and (a := PyData.strOk x) (b := PyData.canLayAll0 (ps.map Md.thing))
    simp only [PyData.canLay0, PyData.canLayAll0, Bool.and_true, show PyData.strOk "call" = true by decide +kernel, Bool.true_and]
    omega
  bnd := by
    intro w n s hw
    have h1 : PyData.strOk w = true := by rcases hw with rfl | rfl <;> decide +kernel
    have h2 : bL (.bound w s) ≤ aL (.name s) := by cases q : PyData.strOk s <;> simp [bL, aL, Wd.val, Tk.toD, PyData.canLay0, PyData.canLayAll0, q, h1, bn, show PyData.strOk "bound" = true by decide +kernel]
    omega
  stm := by decide +kernel
  lev := by
    intro a h
    have h1 : bL (.level (a + 1)) = 0 := by simp [bL, Tk.toD, PyData.canLay0, PyData.canLayAll0, bn, show PyData.strOk "level" = true by decide +kernel]; omega
    have h2 : bL (.rest a) = 0 := by simp [bL, Tk.toD, PyData.canLay0, PyData.canLayAll0, bn, show PyData.strOk "rest" = true by decide +kernel]
    omega
  notN := by decide +kernel
  notP := by decide +kernel
  notO := by decide +kernel
  notV := by
    intro n z _
    have h4 : bL .term + bL (.make "same") = 0 := by decide +kernel
    rw [lay_T]
    simp [PyData.canLay0, PyData.canLayAll0, show PyData.strOk "var" = true by decide +kernel, bn]
    omega
  notX := by intro x; simp [bL, aL, Tk.toD, Wd.val, PyData.canLay0, PyData.canLayAll0, show PyData.strOk "args" = true by decide +kernel, show PyData.strOk "rel" = true by decide +kernel, bn]
  restN := by intros; omega
  rest0 := by decide +kernel
  rest1 := by decide +kernel
  rest2 := by decide +kernel
  mak := by
    intro x a b _ _
    have h1 := gl_thing (m := a)
    have h2 := gl_thing (m := b)
    have h3 : bn (PyData.strOk x) ≤ bL (.make x) := by cases q : PyData.strOk x <;> simp [bL, Tk.toD, PyData.canLay0, PyData.canLayAll0, q, bn]
    have h4 := bn_and (a := PyData.strOk x) (b := a.thing.canLay0 && b.thing.canLay0)
    have h5 := bn_and (a := a.thing.canLay0) (b := b.thing.canLay0)
    unfold joinedM
    rw [lay_T]
    simp only [PyData.canLay0, PyData.canLayAll0, Bool.and_true]
    omega
  nt := by
    intro a _
    have h1 := gl_thing (m := a)
    unfold joinedM
    rw [lay_T]
    simp only [PyData.canLay0, PyData.canLayAll0, Bool.and_true, NOd, show PyData.strOk "if" = true by decide +kernel, show PyData.strOk "no" = true by decide +kernel, Bool.true_and]
    omega
  bd := by
    intro x s a _
    have h1 := gl_thing (m := a)
    have h2 : bn (PyData.strOk x && PyData.strOk s) ≤ bL (.bound x s) := by cases q : PyData.strOk x <;> cases q2 : PyData.strOk s <;> simp [bL, Tk.toD, PyData.canLay0, PyData.canLayAll0, q, q2, bn]
    have h4 := bn_and (a := PyData.strOk x && PyData.strOk s) (b := a.thing.canLay0)
    unfold joinedM
    rw [lay_T]
    simp only [PyData.canLay0, PyData.canLayAll0, Bool.and_true]
    rw [← Bool.and_assoc]
    omega
  tak := by intros; omega
  grd := by
    intro x ps h
    have : ∀ q ∈ pieces, gL .B + ((pieceTasks q.2).map bL).sum + bL (.take ")") + bL (.ended q.1) = 0 := by decide +kernel
    have := this _ (look_mem h)
    simp only at this
    omega
  pg := by decide +kernel
  pG := by decide +kernel
  pa := by decide +kernel
  pA := by decide +kernel
  pt := by decide +kernel
  pf := by intro x; simp [bL, aL, Tk.toD, Wd.val, PyData.canLay0, PyData.canLayAll0, show PyData.strOk "args" = true by decide +kernel, show PyData.strOk "call" = true by decide +kernel, show PyData.strOk "small" = true by decide +kernel, bn]
  pm := by decide +kernel
  pn := by intro n; rw [lay_P]; simp [PyData.canLay0, bn]
  pw := by intro x; rw [lay_P]; simp [PyData.canLay0, aL, Wd.val]
  sml := by intro d p q; rw [lay_P, lay_T]; omega
  memC := by decide +kernel
  memE := by
    intro ps h
    have h1 := gl_things ps
    rw [lay_P]
    simp only [PyData.canLay0]
    omega
  les := by omega
  end_ := by
    intro x ps ds h hf
    have h1 := gl_things ps
    have h0 := lay_fold hf
    have h2 : bn (PyData.strOk x) ≤ bL (.ended x) := by cases q : PyData.strOk x <;> simp [bL, Tk.toD, PyData.canLay0, PyData.canLayAll0, q, bn]
    have h3 := bn_and (a := PyData.strOk x) (b := PyData.canLayAll0 ds)
    rw [lay_P]
    simp only [PyData.canLay0, PyData.canLayAll0]
    omega
def lay (S : PS) : Nat := phi aL bL gL S
theorem sum0 {l : List Nat} (h : l.sum = 0) : ∀ x ∈ l, x = 0 := by
  induction l with
  | nil => simp
  | cons a l ih =>
    intro x hx
    simp only [List.sum_cons] at h
    rcases List.mem_cons.mp hx with rfl | hx
    · omega
    · exact ih (by omega) x hx
theorem lay_made {S : PS} (h : lay S = 0) : ∀ d ∈ S.made, d.toD.canLay0 = true := fun d hd => bn0.mp (sum0 (l := S.made.map gL) (by unfold lay phi at h; omega) _ (List.mem_map_of_mem hd))
theorem lay_todo {S : PS} (h : lay S = 0) : ∀ t ∈ S.todo, t.toD.canLay0 = true ∧ ∀ a, t = .level a → a ≤ 3 := fun t ht => by
  have h1 := sum0 (l := S.todo.map bL) (by unfold lay phi at h; omega) _ (List.mem_map_of_mem ht)
  have h2 := bn0.mp h1
  rw [Bool.and_eq_true] at h2
  refine ⟨h2.1, fun a e => ?_⟩
  subst e
  exact of_decide_eq_true h2.2
theorem lay_rest {S : PS} (h : lay S = 0) : ∀ p ∈ S.rest, p.w.val.canLay0 = true := fun p hp => bn0.mp (sum0 (l := S.rest.map fun p => aL p.w) (by unfold lay phi at h; omega) _ (List.mem_map_of_mem (f := fun p : PW => aL p.w) hp))
end KM

/-! part KChk -/
set_option maxHeartbeats 4000000
/-! No task is stuck: the shapes of what was read. -/
namespace KM
open PySem
theorem sum_z {β : Type} (l : List β) : (l.map fun _ => 0).sum = 0 := by
  induction l with
  | nil => rfl
  | cons a l ih => rw [List.map_cons, List.sum_cons, ih]
theorem potW (p : Wd → Bool) : Pot 0 (fun _ => True) (fun w => bn (p w)) (fun _ => 0) (fun _ => 0) := by
  constructor <;> intros <;> simp [sum_z]
/-- T: a term or statement; K: a call (a tuple of three); Q: a piece that holds a call -/
inductive Sh where
  | T | K | C (n : Nat) | B | P | Q
  deriving DecidableEq
def is3 : PyData → Bool
  | .tuple [_, _, _] => true
  | _ => false
def okS : Md → Sh → Prop
  | m, .T => m.isT = true
  | m, .K => m.isT = true ∧ is3 m.thing = true
  | m, .C n => m = .C n
  | m, .B => m = .B
  | m, .P => m.isP = true
  | m, .Q => m.isP = true ∧ is3 m.thing = true
def Has : List Md → List Sh → Prop
  | [], [] => True
  | m :: ms, s :: ss => okS m s ∧ Has ms ss
  | _, _ => False
def shP : Pc → Sh
  | .f => .Q
  | _ => .P
def isPQ : Sh → Bool
  | .P => true
  | .Q => true
  | _ => false
def chk (F : List Sh → Prop) : List Tk → List Sh → Prop
  | [], s => F s
  | .term :: ts, s => chk F ts (.T :: s)
  | .stmt :: ts, s => chk F ts (.T :: s)
  | .level a :: ts, s => a ≤ 3 ∧ chk F ts (.T :: s)
  | .rest a :: ts, s => a < 3 ∧ ∃ s', s = .T :: s' ∧ chk F ts (.T :: s')
  | .args :: ts, s => ∀ n, chk F ts (.C n :: (List.replicate n .T ++ s))
  | .more k :: ts, s => ∃ s', s = List.replicate k .T ++ s' ∧ ∀ n, chk F ts (.C n :: (List.replicate n .T ++ s'))
  | .call _ :: ts, s => ∃ n s', s = .C n :: (List.replicate n .T ++ s') ∧ (chk F ts (.T :: s') ∨ chk F ts (.K :: s'))
  | .rel _ :: ts, s => ∃ n s', s = .C n :: (List.replicate n .T ++ s') ∧ chk F ts (.T :: s')
  | .make _ :: ts, s => ∃ s', s = .T :: .T :: s' ∧ chk F ts (.T :: s')
  | .mknot :: ts, s => ∃ s', s = .T :: s' ∧ chk F ts (.T :: s')
  | .bound _ _ :: ts, s => ∃ s', s = .T :: s' ∧ chk F ts (.T :: s')
  | .take _ :: ts, s => chk F ts s
  | .ground :: ts, s => chk F ts (.P :: s)
  | .piece c :: ts, s => chk F ts (shP c :: s)
  | .small :: ts, s => ∃ s', (s = .T :: s' ∧ chk F ts (.P :: s')) ∨ (s = .K :: s' ∧ chk F ts (.Q :: s'))
  | .members :: ts, s => ∃ n s', s = List.replicate n .P ++ .B :: s' ∧ chk F ts (.P :: s')
  | .less :: ts, s => chk F ts s
  | .ended x :: ts, s => ∃ l s', s = l ++ .B :: s' ∧ l.all isPQ = true ∧ (x = "fold" → l = [.P, .Q]) ∧ chk F ts (.P :: s')
theorem has_cons {ms : List Md} {s : Sh} {ss : List Sh} (h : Has ms (s :: ss)) : ∃ m r, ms = m :: r ∧ okS m s ∧ Has r ss := by
  cases ms with
  | nil => exact h.elim
  | cons m r => exact ⟨m, r, rfl, h.1, h.2⟩
theorem has_app : ∀ {a : List Sh} {ms : List Md} {b : List Sh}, Has ms (a ++ b) → ∃ x y, ms = x ++ y ∧ Has x a ∧ Has y b
  | [], ms, b, h => ⟨[], ms, rfl, trivial, h⟩
  | s :: a, ms, b, h => by
    obtain ⟨m, r, rfl, h1, h2⟩ := has_cons h
    obtain ⟨x, y, rfl, h3, h4⟩ := has_app h2
    exact ⟨m :: x, y, rfl, ⟨h1, h3⟩, h4⟩
theorem has_len : ∀ {a : List Sh} {ms : List Md}, Has ms a → ms.length = a.length
  | [], [], _ => rfl
  | _ :: a, _ :: ms, h => by rw [List.length_cons, List.length_cons, has_len h.2]
  | [], _ :: _, h => h.elim
  | _ :: _, [], h => h.elim
theorem has_T : ∀ {n : Nat} {ms : List Md}, Has ms (List.replicate n .T) → ms.all Md.isT = true ∧ ms.length = n
  | 0, [], _ => ⟨rfl, rfl⟩
  | 0, _ :: _, h => h.elim
  | n + 1, ms, h => by
    rw [List.replicate_succ] at h
    obtain ⟨m, r, rfl, h1, h2⟩ := has_cons h
    obtain ⟨h3, h4⟩ := has_T h2
    have h1 : m.isT = true := h1
    exact ⟨by simp [h1, h3], by simp [h4]⟩
theorem has_PQ : ∀ {l : List Sh} {ms : List Md}, l.all isPQ = true → Has ms l → ms.all Md.isP = true
  | [], [], _, _ => rfl
  | [], _ :: _, _, h => h.elim
  | s :: l, ms, hl, h => by
    obtain ⟨m, r, rfl, h1, h2⟩ := has_cons h
    simp only [List.all_cons, Bool.and_eq_true] at hl
    have h3 := has_PQ hl.2 h2
    have h4 : m.isP = true := by
      cases s <;> first | exact h1 | exact h1.1 | exact absurd hl.1 (by simp [isPQ])
    simp only [List.all_cons, h4, h3, Bool.and_self]
theorem since_app : ∀ {a l : List Md}, a.all Md.isP = true → since (a ++ .B :: l) = some (a.reverse, l)
  | [], l, _ => rfl
  | m :: a, l, h => by
    simp only [List.all_cons, Bool.and_eq_true] at h
    have e : since (m :: (a ++ .B :: l)) = (since (a ++ .B :: l)).map fun p => (p.1 ++ [m], p.2) := by cases m <;> first | rfl | exact absurd h.1 (by decide)
    rw [List.cons_append, e, since_app h.2, List.reverse_cons] <;> rfl
theorem chk_pieces {F : List Sh → Prop} {ts : List Tk} : ∀ (ps : List Pc) (s : List Sh), chk F (pieceTasks ps ++ ts) s ↔ chk F ts ((ps.map shP).reverse ++ s) := by
  have tail : ∀ (r : List Pc) (s : List Sh), chk F ((r.flatMap fun d => if d = .m then [Tk.piece d] else [.take ",", .piece d]) ++ ts) s ↔ chk F ts ((r.map shP).reverse ++ s) := by
    intro r
    induction r with
    | nil => intro s; exact Iff.rfl
    | cons d r ih =>
      intro s
      rw [List.flatMap_cons, List.append_assoc]
      by_cases h : d = .m
      · rw [if_pos h]
        show chk F (_ ++ ts) (shP d :: s) ↔ _
        rw [ih]
        simp
      · rw [if_neg h]
        show chk F (_ ++ ts) (shP d :: s) ↔ _
        rw [ih]
        simp
  intro ps s
  cases ps with
  | nil => exact Iff.rfl
  | cons c r =>
    show chk F (_ ++ ts) (shP c :: s) ↔ _
    rw [tail]
    simp
/-- a step that is not stuck, and what then stands -/
def Fine (F : List Sh → Prop) (r : Rs) : Prop := match r with
  | .err _ => True
  | .ok S => ∃ s, chk F S.todo s ∧ Has S.made s
  | .stuck => False
theorem fine_bind {F : List Sh → Prop} {r : Rs} {f : PS → Rs} (h1 : r ≠ .stuck) (h : ∀ S, r = .ok S → Fine F (f S)) : Fine F (r.bind f) := by
  cases r with
  | ok S => exact h S rfl
  | err p => trivial
  | stuck => exact absurd rfl h1
section
variable {len : Nat} {F : List Sh → Prop}
theorem need_ns {x : Str} {S : PS} : needMark len x S ≠ .stuck := by
  unfold needMark; split <;> simp
theorem var_ns {S : PS} : doVariable len S ≠ .stuck := by
  unfold doVariable
  split
  · split <;> simp
  · simp
theorem call_fine {word x : Str} {n : Nat} {S : PS} {a r : List Md} (hm : S.made = a ++ r) (ha : a.all Md.isT = true) (hn : a.length = n) :
    makeCall word x n S = .ok { S with made := joinedM (.tuple [.str word, .str x, .tuple (a.reverse.map Md.thing)]) a.reverse :: r } := by
  have h1 : S.made.take n = a := by rw [hm, ← hn, List.take_left]
  have h2 : S.made.drop n = r := by rw [hm, ← hn, List.drop_left]
  unfold makeCall
  rw [h1, h2, if_pos ⟨by rw [hm, List.length_append]; omega, ha⟩]
theorem same_fine {S : PS} {s : List Sh} (h : chk F S.todo (.T :: s)) (hm : Has S.made (.T :: s)) : Fine F (doSame len S) := by
  unfold doSame
  split
  · exact ⟨.T :: s, by show chk F (.term :: .make "same" :: S.todo) _; unfold chk; unfold chk; exact ⟨s, rfl, h⟩, hm⟩
  · trivial
theorem var_fine {S S' : PS} {s : List Sh} (h : doVariable len S = .ok S') (hm : Has S.made s) : S'.todo = S.todo ∧ Has S'.made (.T :: s) := by
  obtain ⟨n, _, _, rfl⟩ := var_ok h
  exact ⟨rfl, rfl, hm⟩
theorem step_fine {t : Tk} {S : PS} {s : List Sh} (h : chk F (t :: S.todo) s) (hm : Has S.made s) : Fine F (stepT len t S) := by
  cases t with
  | term =>
    unfold chk at h
    show Fine F (doTerm len S)
    unfold doTerm
    split
    · cases e : doVariable len S with
      | ok S' => obtain ⟨h1, h2⟩ := var_fine e hm; exact ⟨_, by rw [h1]; exact h, h2⟩
      | err p => trivial
      | stuck => exact absurd e var_ns
    · refine ⟨s, ?_, hm⟩
      show chk F (.args :: .call _ :: S.todo) s
      unfold chk
      intro n
      unfold chk
      exact ⟨n, s, rfl, .inl h⟩
    · trivial
  | args =>
    unfold chk at h
    show Fine F (doArgs len S)
    unfold doArgs
    split
    · refine ⟨s, ?_, hm⟩
      show chk F (.term :: .more 1 :: S.todo) s
      unfold chk
      unfold chk
      exact ⟨s, rfl, h⟩
    · exact ⟨_, h 0, rfl, hm⟩
  | more k =>
    unfold chk at h
    obtain ⟨s', rfl, h⟩ := h
    show Fine F (doMore len k S)
    unfold doMore
    split
    · refine ⟨List.replicate k Sh.T ++ s', ?_, hm⟩
      show chk F (.term :: .more (k + 1) :: S.todo) _
      unfold chk
      unfold chk
      exact ⟨s', by rw [List.replicate_succ]; rfl, h⟩
    · split
      · exact ⟨_, h k, rfl, hm⟩
      · trivial
  | call x =>
    unfold chk at h
    obtain ⟨n, s', rfl, h⟩ := h
    obtain ⟨m, r, hmr, h1, h2⟩ := has_cons hm
    obtain ⟨a, r2, rfl, h3, h4⟩ := has_app h2
    obtain ⟨h5, h6⟩ := has_T h3
    obtain rfl : m = .C n := h1
    show Fine F (doCall x S)
    unfold doCall
    rw [hmr]
    show Fine F (makeCall "call" x n { S with made := a ++ r2 })
    rw [call_fine rfl h5 h6]
    rcases h with h | h
    · exact ⟨_, h, rfl, h4⟩
    · exact ⟨_, h, ⟨rfl, rfl⟩, h4⟩
  | rel x =>
    unfold chk at h
    obtain ⟨n, s', rfl, h⟩ := h
    obtain ⟨m, r, hmr, h1, h2⟩ := has_cons hm
    obtain ⟨a, r2, rfl, h3, h4⟩ := has_app h2
    obtain ⟨h5, h6⟩ := has_T h3
    obtain rfl : m = .C n := h1
    show Fine F (doRel len x S)
    unfold doRel
    rw [hmr]
    show Fine F (if _ then _ else _)
    split
    · rw [call_fine rfl h5 h6]
      exact same_fine (S := { S with made := _ :: r2 }) h ⟨rfl, h4⟩
    · rw [call_fine rfl h5 h6]
      exact ⟨_, h, rfl, h4⟩
  | stmt =>
    unfold chk at h
    have bd : ∀ w, Fine F (doBound len w S.adv) := by
      intro w
      unfold doBound
      split
      · refine fine_bind need_ns fun S1 e1 => ?_
        obtain ⟨_, rfl⟩ := need_ok e1
        unfold doBound2
        split
        · unfold doBound3
          refine fine_bind need_ns fun S2 e2 => ?_
          obtain ⟨_, rfl⟩ := need_ok e2
          refine ⟨s, ?_, hm⟩
          show chk F (.stmt :: .bound _ _ :: S.todo) s
          unfold chk
          unfold chk
          exact ⟨s, rfl, h⟩
        · trivial
      · trivial
    show Fine F (doStmt len S)
    unfold doStmt
    split
    · exact bd _
    · split
      · exact bd _
      · unfold doLevel
        rw [if_neg (by decide)]
        refine ⟨s, ?_, hm⟩
        show chk F (.level 1 :: .rest 0 :: S.todo) s
        unfold chk
        refine ⟨by decide, ?_⟩
        unfold chk
        exact ⟨by decide, s, rfl, h⟩
  | level a =>
    unfold chk at h
    obtain ⟨ha, h⟩ := h
    show Fine F (doLevel len a S)
    unfold doLevel
    split
    · unfold doNot
      split
      · split
        · refine ⟨s, ?_, hm⟩
          show chk F (.level 3 :: .mknot :: S.todo) s
          unfold chk
          refine ⟨by decide, ?_⟩
          unfold chk
          exact ⟨s, rfl, h⟩
        · split
          · refine ⟨s, ?_, hm⟩
            show chk F (.stmt :: .take ")" :: S.todo) s
            unfold chk
            unfold chk
            exact h
          · trivial
      · split
        · exact ⟨_, h, rfl, hm⟩
        · trivial
      · refine fine_bind var_ns fun S1 e1 => ?_
        obtain ⟨h1, h2⟩ := var_fine e1 hm
        exact same_fine (by rw [h1]; exact h) h2
      · refine ⟨s, ?_, hm⟩
        show chk F (.args :: .rel _ :: S.todo) s
        unfold chk
        intro n
        unfold chk
        exact ⟨n, s, rfl, h⟩
      · trivial
    · refine ⟨s, ?_, hm⟩
      show chk F (.level (a + 1) :: .rest a :: S.todo) s
      unfold chk
      refine ⟨by omega, ?_⟩
      unfold chk
      exact ⟨by omega, s, rfl, h⟩
  | rest a =>
    unfold chk at h
    obtain ⟨ha, s', rfl, h⟩ := h
    show Fine F (doRest len a S)
    unfold doRest
    match a, ha with
    | 0, _ =>
      show Fine F (if _ then _ else _)
      split
      · refine ⟨_, ?_, hm⟩
        show chk F (.level 0 :: .make "if" :: S.todo) _
        unfold chk
        refine ⟨by decide, ?_⟩
        unfold chk
        exact ⟨s', rfl, h⟩
      · exact ⟨_, h, hm⟩
    | 1, _ =>
      show Fine F (if _ then _ else _)
      split
      · refine ⟨_, ?_, hm⟩
        show chk F (.level 2 :: .make "or" :: .rest 1 :: S.todo) _
        unfold chk
        refine ⟨by decide, ?_⟩
        unfold chk
        refine ⟨s', rfl, ?_⟩
        unfold chk
        exact ⟨by decide, s', rfl, h⟩
      · exact ⟨_, h, hm⟩
    | 2, _ =>
      show Fine F (if _ then _ else _)
      split
      · refine ⟨_, ?_, hm⟩
        show chk F (.level 3 :: .make "and" :: .rest 2 :: S.todo) _
        unfold chk
        refine ⟨by decide, ?_⟩
        unfold chk
        refine ⟨s', rfl, ?_⟩
        unfold chk
        exact ⟨by decide, s', rfl, h⟩
      · exact ⟨_, h, hm⟩
    | n + 3, hn => omega
  | make x =>
    unfold chk at h
    obtain ⟨s', rfl, h⟩ := h
    obtain ⟨b, r, e1, h1, h2⟩ := has_cons hm
    obtain ⟨a, r2, rfl, h3, h4⟩ := has_cons h2
    show Fine F (doMake x S)
    unfold doMake
    rw [e1]
    show Fine F (if _ then _ else _)
    rw [if_pos ⟨h3, h1⟩]
    exact ⟨_, h, rfl, h4⟩
  | mknot =>
    unfold chk at h
    obtain ⟨s', rfl, h⟩ := h
    obtain ⟨b, r, e1, h1, h2⟩ := has_cons hm
    show Fine F (doMknot S)
    unfold doMknot
    rw [e1]
    show Fine F (if _ then _ else _)
    rw [if_pos (show b.isT = true from h1)]
    exact ⟨_, h, rfl, h2⟩
  | bound x y =>
    unfold chk at h
    obtain ⟨s', rfl, h⟩ := h
    obtain ⟨b, r, e1, h1, h2⟩ := has_cons hm
    show Fine F (doBnd x y S)
    unfold doBnd
    rw [e1]
    show Fine F (if _ then _ else _)
    rw [if_pos (show b.isT = true from h1)]
    exact ⟨_, h, rfl, h2⟩
  | take x =>
    unfold chk at h
    show Fine F (needMark len x S)
    unfold needMark
    split
    · exact ⟨_, h, hm⟩
    · trivial
  | ground =>
    unfold chk at h
    show Fine F (doGround len S)
    unfold doGround
    split
    · rename_i x e
      unfold doGround1
      split
      · rename_i ps hp
        refine fine_bind need_ns fun S1 e1 => ?_
        obtain ⟨_, rfl⟩ := need_ok e1
        unfold doGround2
        refine ⟨.B :: s, ?_, rfl, hm⟩
        show chk F ((pieceTasks ps ++ [.take ")", .ended x]) ++ S.todo) _
        rw [List.append_assoc, chk_pieces]
        show chk F (.take ")" :: .ended x :: S.todo) _
        unfold chk
        unfold chk
        have : ∀ q ∈ pieces, ((q.2.map shP).reverse).all isPQ = true ∧ (q.1 = "fold" → (q.2.map shP).reverse = [.P, .Q]) := by decide +kernel
        have := this _ (look_mem hp)
        exact ⟨(ps.map shP).reverse, s, rfl, this.1, this.2, h⟩
      · trivial
    · trivial
  | piece c =>
    unfold chk at h
    show Fine F (doPiece len c S)
    cases c with
    | g => exact ⟨s, by show chk F (.ground :: S.todo) s; unfold chk; exact h, hm⟩
    | G =>
      refine ⟨s, ?_, hm⟩
      show chk F (.ground :: .less :: S.todo) s
      unfold chk; unfold chk; exact h
    | a =>
      refine ⟨s, ?_, hm⟩
      show chk F (.take "[" :: .stmt :: .take "]" :: .small :: S.todo) s
      unfold chk; unfold chk; unfold chk; unfold chk
      exact ⟨s, .inl ⟨rfl, h⟩⟩
    | A =>
      refine ⟨s, ?_, hm⟩
      show chk F (.take "[" :: .stmt :: .take "]" :: .small :: .less :: S.todo) s
      unfold chk; unfold chk; unfold chk; unfold chk
      refine ⟨s, .inl ⟨rfl, ?_⟩⟩
      unfold chk; exact h
    | t =>
      refine ⟨s, ?_, hm⟩
      show chk F (.term :: .small :: S.todo) s
      unfold chk; unfold chk
      exact ⟨s, .inl ⟨rfl, h⟩⟩
    | f =>
      show Fine F (match nw len S with | .name x => Rs.ok (S.adv.add [.args, .call x, .small]) | _ => wrongM len S)
      split
      · refine ⟨s, ?_, hm⟩
        show chk F (.args :: .call _ :: .small :: S.todo) s
        unfold chk
        intro n
        unfold chk
        refine ⟨n, s, rfl, .inr ?_⟩
        unfold chk
        exact ⟨s, .inr ⟨rfl, h⟩⟩
      · trivial
    | m =>
      refine ⟨.B :: s, ?_, rfl, hm⟩
      show chk F (.members :: S.todo) _
      unfold chk
      exact ⟨0, s, rfl, h⟩
    | n =>
      show Fine F (match nw len S with | .num n => Rs.ok (S.adv.push (.P (.int n) 0 0 true)) | _ => wrongM len S)
      split
      · exact ⟨_, h, rfl, hm⟩
      · trivial
    | w =>
      show Fine F (match nw len S with | .name x => Rs.ok (S.adv.push (.P (.str x) 0 0 true)) | _ => wrongM len S)
      split
      · exact ⟨_, h, rfl, hm⟩
      · trivial
  | small =>
    unfold chk at h
    obtain ⟨s', h⟩ := h
    show Fine F (doSmall S)
    unfold doSmall
    rcases h with ⟨rfl, h⟩ | ⟨rfl, h⟩
    · obtain ⟨b, r, e1, h1, h2⟩ := has_cons hm
      rw [e1]
      cases b with
      | T d p q => exact ⟨_, h, rfl, h2⟩
      | _ => cases h1
    · obtain ⟨b, r, e1, h1, h2⟩ := has_cons hm
      rw [e1]
      cases b with
      | T d p q => exact ⟨_, h, ⟨rfl, h1.2⟩, h2⟩
      | _ => cases h1.1
  | members =>
    unfold chk at h
    obtain ⟨n, s', rfl, h⟩ := h
    show Fine F (doMembers len S)
    unfold doMembers
    split
    · refine ⟨_, ?_, hm⟩
      show chk F (.ground :: .members :: S.todo) _
      unfold chk
      unfold chk
      exact ⟨n + 1, s', by rw [List.replicate_succ]; rfl, h⟩
    · obtain ⟨a, r, e1, h1, h2⟩ := has_app hm
      obtain ⟨b, r2, rfl, h3, h4⟩ := has_cons h2
      obtain rfl : b = .B := h3
      have ha : a.all Md.isP = true := has_PQ (l := List.replicate n .P) (by simp [isPQ]) h1
      rw [e1, since_app ha]
      show Fine F (if _ then _ else _)
      rw [if_pos (by rw [List.all_reverse]; exact ha)]
      exact ⟨_, h, rfl, h4⟩
  | less =>
    unfold chk at h
    exact ⟨s, h, hm⟩
  | ended x =>
    unfold chk at h
    obtain ⟨l, s', rfl, hl, hf, h⟩ := h
    show Fine F (doEnded x S)
    unfold doEnded
    obtain ⟨a, r, e1, h1, h2⟩ := has_app hm
    obtain ⟨b, r2, rfl, h3, h4⟩ := has_cons h2
    obtain rfl : b = .B := h3
    have ha := has_PQ hl h1
    rw [e1, since_app ha]
    show Fine F (if _ then _ else _)
    rw [if_pos (by rw [List.all_reverse]; exact ha)]
    have hd : ∃ ds, foldThings x (a.reverse.map Md.thing) = some ds := by
      unfold foldThings
      split
      · rename_i hx
        have e := hf hx
        subst e
        obtain ⟨m1, r1, rfl, q1, q2⟩ := has_cons h1
        obtain ⟨m2, r3, rfl, q3, q4⟩ := has_cons q2
        cases r3 with
        | cons _ _ => exact q4.elim
        | nil =>
          have q5 : is3 m2.thing = true := q3.2
          show ∃ ds, (match [m2.thing, m1.thing] with
            | .tuple [_, n, a] :: g :: _ => some [n, a, g]
            | _ => none) = some ds
          unfold is3 at q5
          split at q5
          · rename_i e; rw [e]; exact ⟨_, rfl⟩
          · cases q5
      · exact ⟨_, rfl⟩
    obtain ⟨ds, hd⟩ := hd
    rw [hd]
    exact ⟨_, h, rfl, h4⟩
/-! ### runs -/
def runF (len : Nat) : Nat → PS → Rs
  | 0, _ => .stuck
  | n + 1, S => match S.todo with
    | [] => .ok S
    | t :: ts => (stepT len t { S with todo := ts }).bind (runF len n)
/-- what a run keeps -/
structure Inv0 (p : Wd → Bool) (S : PS) : Prop where
  ly : lay S = 0
  wd : ∀ q ∈ S.rest, p q.w = true
theorem inv_step {p : Wd → Bool} {S S' : PS} {t : Tk} {ts : List Tk} (e : S.todo = t :: ts) (I : Inv0 p S) (h : stepT len t { S with todo := ts } = .ok S') : Inv0 p S' ∧ mu S' < mu S ∧ phi (fun w => bn (p w)) (fun _ => 0) (fun _ => 0) S' ≤ phi (fun w => bn (p w)) (fun _ => 0) (fun _ => 0) S := by
  have hl := lay_todo I.ly
  have hlv := (hl t (by rw [e]; exact List.mem_cons_self)).2
  have h1 := pot_step potL h (fun _ _ _ => trivial) hlv
  have h2 := pot_step potM h (fun _ _ _ => trivial) hlv
  have h3 := pot_step (potW p) h (fun _ _ _ => trivial) hlv
  have e1 : lay S = phi aL bL gL { S with todo := ts } + bL t := by simp only [lay, phi, e, List.map_cons, List.sum_cons]; omega
  have e2 : mu S = phi (fun _ => 100) bM (fun _ => 1) { S with todo := ts } + bM t := by simp only [mu, phi, e, List.map_cons, List.sum_cons]; omega
  have e3 : phi (fun w => bn (p w)) (fun _ => 0) (fun _ => 0) S = phi (fun w => bn (p w)) (fun _ => 0) (fun _ => 0) { S with todo := ts } := by simp only [phi, e, List.map_cons, List.sum_cons]; omega
  have i1 := I.ly
  refine ⟨⟨by unfold lay; omega, ?_⟩, by unfold mu at *; omega, by omega⟩
  have z : phi (fun w => bn (p w)) (fun _ => 0) (fun _ => 0) S = 0 := by
    have h0 : (S.rest.map fun q => bn (p q.w)).sum = 0 := by
      have := I.wd
      generalize S.rest = l at this
      induction l with
      | nil => rfl
      | cons a l ih =>
        simp only [List.map_cons, List.sum_cons]
        rw [ih fun q hq => this q (List.mem_cons_of_mem _ hq), this a List.mem_cons_self]
        rfl
    have s0 : ∀ (l : List Tk), (l.map fun _ => 0).sum = 0 := by intro l; induction l <;> simp_all
    have s1 : ∀ (l : List Md), (l.map fun _ => 0).sum = 0 := by intro l; induction l <;> simp_all
    simp only [phi, h0, s0, s1]
  intro q hq
  have h4 : phi (fun w => bn (p w)) (fun _ => 0) (fun _ => 0) S' = 0 := by omega
  have h5 : (S'.rest.map fun q => bn (p q.w)).sum = 0 := by simp only [phi, sum_z] at h4; omega
  exact bn0.mp (sum0 (l := S'.rest.map fun q => bn (p q.w)) h5 _ (List.mem_map_of_mem (f := fun q : PW => bn (p q.w)) hq))
/-- a run ends, and ends as it should -/
theorem run_fine {p : Wd → Bool} : ∀ (n : Nat) (S : PS) (s : List Sh), mu S < n → Inv0 p S → chk F S.todo s → Has S.made s →
    (∃ q, runF len n S = .err q) ∨ ∃ S', runF len n S = .ok S' ∧ S'.todo = [] ∧ Inv0 p S' ∧ ∃ s', F s' ∧ Has S'.made s'
  | 0, _, _, h, _, _, _ => by omega
  | n + 1, S, s, h, I, c, hm => by
    unfold runF
    cases e : S.todo with
    | nil =>
      rw [e] at c
      exact .inr ⟨S, rfl, e, I, s, c, hm⟩
    | cons t ts =>
      rw [e] at c
      show (∃ q, (stepT len t { S with todo := ts }).bind (runF len n) = .err q) ∨ ∃ S', (stepT len t { S with todo := ts }).bind (runF len n) = .ok S' ∧ _
      have hf := step_fine (len := len) (S := { S with todo := ts }) c hm
      cases r : stepT len t { S with todo := ts } with
      | err q => exact .inl ⟨q, rfl⟩
      | stuck => rw [r] at hf; exact hf.elim
      | ok S1 =>
        rw [r] at hf
        obtain ⟨s1, c1, m1⟩ := hf
        obtain ⟨I1, h1, _⟩ := inv_step e I r
        exact run_fine n S1 s1 (by omega) I1 c1 m1
end
end KM

/-! part KBnd -/
set_option maxHeartbeats 4000000
/-! How great what is read can be: parts and depth; signs of what is written. -/
namespace KM
open PySem
/-! ### parts and depth -/
/-- signs by which something stands deeper -/
def deepMarks : List Str := ["(", "=", "~", ":", "->", "|", "&"]
def aB : Wd → Nat
  | .mark x => 2 + (if x ∈ deepMarks then 10 else 0)
  | .fin => 0
  | _ => 2
def bB : Tk → Nat
  | .more _ => 10
  | .call _ => 1
  | .rel _ => 1
  | .make _ => 11
  | .mknot => 12
  | .bound _ _ => 11
  | .ended _ => 11
  | _ => 0
def gB : Md → Nat
  | .T _ p q => p.toNat + 10 * (q - 1).toNat
  | .C n => if n = 0 then 0 else 10
  | .B => 0
  | .P _ m q g => m.toNat + 10 * q.toNat + (if g = true then 0 else 1200)
theorem sumI_cons {a : Int} {l : List Int} : sumI (a :: l) = a + sumI l := by unfold sumI; rw [List.sum_cons]
theorem gB_T {m : Md} (h : m.isT = true) : gB m = m.a1.toNat + 10 * (m.a2 - 1).toNat := by
  cases m with
  | T d p q => rfl
  | _ => cases h
theorem gB_P {m : Md} (h : m.isP = true) : gB m = m.a1.toNat + 10 * m.a2.toNat + (if m.a3 = true then 0 else 1200) := by
  cases m with
  | P d p q g => rfl
  | _ => cases h
theorem sum_T : ∀ {ps : List Md}, (∀ p ∈ ps, p.isT = true) → (sumI (ps.map Md.a1)).toNat + 10 * (maxI (ps.map Md.a2) - 1).toNat ≤ (ps.map gB).sum
  | [], _ => by simp [sumI, maxI]
  | m :: ps, h => by
    have ih := sum_T (ps := ps) fun p hp => h p (List.mem_cons_of_mem _ hp)
    have hm := gB_T (h m List.mem_cons_self)
    simp only [List.map_cons, List.sum_cons, sumI_cons, maxI]
    omega
theorem sum_P : ∀ {ps : List Md}, (∀ p ∈ ps, p.isP = true) → (sumI (ps.map Md.a1)).toNat + 10 * (maxI (ps.map Md.a2)).toNat + (if (ps.map Md.a3).all id = true then 0 else 1200) ≤ (ps.map gB).sum
  | [], _ => by simp [sumI, maxI]
  | m :: ps, h => by
    have ih := sum_P (ps := ps) fun p hp => h p (List.mem_cons_of_mem _ hp)
    have hm := gB_P (h m List.mem_cons_self)
    simp only [List.map_cons, List.sum_cons, sumI_cons, maxI, List.all_cons, id_eq, Bool.and_eq_true]
    by_cases h1 : m.a3 = true
    · rw [if_pos h1] at hm
      by_cases h2 : (ps.map Md.a3).all id = true
      · rw [if_pos h2] at ih
        rw [if_pos ⟨h1, h2⟩]; omega
      · rw [if_neg h2] at ih
        rw [if_neg (fun z => h2 z.2)]; omega
    · rw [if_neg h1] at hm
      rw [if_neg (fun z => h1 z.1)]; omega
theorem gB_jo {d : PyData} {ps : List Md} : gB (joinedM d ps) = (1 + sumI (ps.map Md.a1)).toNat + 10 * (1 + maxI (ps.map Md.a2) - 1).toNat := rfl
theorem gB_joined {d : PyData} {ps : List Md} (h : ∀ p ∈ ps, p.isT = true) : gB (joinedM d ps) ≤ 1 + (ps.map gB).sum + gB (.C ps.length) := by
  have h1 := sum_T h
  cases ps with
  | nil => simp [joinedM, gB, sumI, maxI]
  | cons m l =>
    unfold joinedM
    simp only [gB, List.length_cons]
    rw [if_neg (by omega)]
    omega
theorem potB : Pot 0 (fun _ => True) aB bB gB where
  varT := by intros; simp [gB, aB, bB]
  termN := by intro x; show _ ≤ 2 + _; simp only [bB]; omega
  argsP := by decide +kernel
  argsN := by simp [gB]
  moreC := by intro k; show bB .term + bB (.more (k + 1)) + 0 ≤ aB (.mark ",") + bB (.more k); simp only [bB]; omega
  moreE := by intro k; simp only [gB, bB]; split <;> omega
  callT := by intro x ps h; have := gB_joined (d := .tuple [.str "call", .str x, .tuple (ps.map Md.thing)]) h; simp only [bB]; omega
  relT := by intro x ps h; have := gB_joined (d := .tuple [.str "rel", .str x, .tuple (ps.map Md.thing)]) h; simp only [bB]; omega
  relS := by
    intro x ps h
    have := gB_joined (d := .tuple [.str "call", .str x, .tuple (ps.map Md.thing)]) h
    have : aB (.mark "=") = 12 := by decide +kernel
    simp only [bB]; omega
  bnd := by
    intro w n s hw
    have : aB (.mark ":") = 12 := by decide +kernel
    simp only [bB]; omega
  stm := by simp [bB]
  lev := by intro a h; simp [bB]
  notN := by decide +kernel
  notP := by decide +kernel
  notO := by decide +kernel
  notV := by
    intro n z _
    have : aB (.mark "=") = 12 := by decide +kernel
    have : aB (.var n) = 2 := rfl
    simp only [gB, bB]; omega
  notX := by intro x; show _ ≤ 2 + _; simp only [bB]; omega
  restN := by intros; omega
  rest0 := by decide +kernel
  rest1 := by decide +kernel
  rest2 := by decide +kernel
  mak := by
    intro x a b ha hb
    have h1 := gB_T ha
    have h2 := gB_T hb
    rw [gB_jo, h1, h2]
    simp only [bB, List.map_cons, List.map_nil, sumI_cons, maxI, show sumI [] = 0 from rfl]
    omega
  nt := by
    intro a ha
    have h1 := gB_T ha
    have e1 : (Md.T NOd 1 1).a1 = 1 := rfl
    have e2 : (Md.T NOd 1 1).a2 = 1 := rfl
    rw [gB_jo, h1]
    simp only [bB, List.map_cons, List.map_nil, sumI_cons, maxI, show sumI [] = 0 from rfl, e1, e2]
    omega
  bd := by
    intro x s a ha
    have h1 := gB_T ha
    rw [gB_jo, h1]
    simp only [bB, List.map_cons, List.map_nil, sumI_cons, maxI, show sumI [] = 0 from rfl]
    omega
  tak := by intros; omega
  grd := by
    intro x ps h
    have : ∀ q ∈ pieces, gB .B + ((pieceTasks q.2).map bB).sum + bB (.take ")") + bB (.ended q.1) ≤ 11 := by decide +kernel
    have h2 : gB .B + ((pieceTasks ps).map bB).sum + bB (.take ")") + bB (.ended x) ≤ 11 := this _ (look_mem h)
    have : aB (.mark "(") = 12 := by decide +kernel
    omega
  pg := by decide +kernel
  pG := by decide +kernel
  pa := by decide +kernel
  pA := by decide +kernel
  pt := by decide +kernel
  pf := by intro x; show _ ≤ 2 + _; simp only [bB]; omega
  pm := by decide +kernel
  pn := by intro n; show _ ≤ 2 + _; simp [gB]
  pw := by intro n; show _ ≤ 2 + _; simp [gB]
  sml := by
    intro d p q
    simp only [gB, bB]
    by_cases h1 : p ≤ 4000
    · by_cases h2 : q ≤ 120
      · rw [decide_eq_true h1, decide_eq_true h2]; simp
      · rw [decide_eq_false h2, Bool.and_false, if_neg (by simp)]
        simp only [Int.toNat_zero]; omega
    · rw [decide_eq_false h1, Bool.false_and, if_neg (by simp)]
      simp only [Int.toNat_zero]; omega
  memC := by decide +kernel
  memE := by
    intro ps h
    have := sum_P h
    simp only [gB, bB]
    omega
  les := by omega
  end_ := by
    intro x ps ds h hf
    have := sum_P h
    simp only [gB, bB]
    omega
/-! ### what is written -/
mutual
/-- a size: the signs and things of what is written; a great number for what may not be -/
def sz : PyData → Nat
  | .none => 0
  | .bool _ => 0
  | .int i => if (PyData.shown (.int i)).length ≤ 32 ∧ i.natAbs.log2 < 1920 then 0 else 1000000
  | .str x => if PyData.strOk x = true then x.length else 1000000
  | .tuple xs => szAll xs
  | .list _ => 1000000
  | .dict _ => 1000000
def szAll : List PyData → Nat
  | [] => 0
  | x :: xs => sz x + 1 + szAll xs
end
def szS (x : Str) : Nat := if PyData.strOk x = true then x.length else 1000000
theorem sz_str {x : Str} : sz (.str x) = szS x := by unfold sz szS; rfl
theorem sz_tup {xs : List PyData} : sz (.tuple xs) = szAll xs := by rw [sz]
theorem szAll_cons {x : PyData} {xs : List PyData} : szAll (x :: xs) = sz x + 1 + szAll xs := by rw [szAll]
theorem szAll_nil : szAll [] = 0 := by rw [szAll]
mutual
theorem sz_ok : ∀ d : PyData, sz d < 1000000 → d.canLay0 = true ∧ d.leavesShort 32 = true ∧ d.showable = true ∧ d.hasDict = false ∧ d.bulk ≤ sz d ∧ d.depth ≤ sz d + 1
  | .none, _ => by simp [PyData.canLay0, PyData.leavesShort, PyData.showable, PyData.hasDict, PyData.bulk, PyData.depth]
  | .bool _, _ => by simp [PyData.canLay0, PyData.leavesShort, PyData.showable, PyData.hasDict, PyData.bulk, PyData.depth]
  | .int i, h => by
    unfold sz at h ⊢
    split at h
    · rename_i e
      rw [if_pos e]
      simp [PyData.canLay0, PyData.leavesShort, PyData.showable, PyData.hasDict, PyData.bulk, PyData.depth, e.1, e.2]
    · omega
  | .str x, h => by
    unfold sz at h ⊢
    split at h
    · rename_i e
      rw [if_pos e]
      refine ⟨by simpa only [PyData.canLay0] using e, PyData.leavesShort_of_canLay0 32 _ (by simpa only [PyData.canLay0] using e) (by simp only [PyData.intsShort]), by simp only [PyData.showable], by simp only [PyData.hasDict], ?_, ?_⟩
      · simp only [PyData.bulk]; exact Nat.le_refl _
      · simp only [PyData.depth]; omega
    · omega
  | .tuple xs, h => by
    rw [sz_tup] at h ⊢
    obtain ⟨h1, h2, h3, h4, h5, h6⟩ := szAll_ok xs h
    refine ⟨by simpa only [PyData.canLay0] using h1, by simpa only [PyData.leavesShort] using h2, by simpa only [PyData.showable] using h3, by simpa only [PyData.hasDict] using h4, by simpa only [PyData.bulk] using h5, ?_⟩
    simp only [PyData.depth]; omega
  | .list _, h => by unfold sz at h; omega
  | .dict _, h => by unfold sz at h; omega
theorem szAll_ok : ∀ xs : List PyData, szAll xs < 1000000 → PyData.canLayAll0 xs = true ∧ PyData.leavesShortAll 32 xs = true ∧ PyData.showableAll xs = true ∧ PyData.hasDictAll xs = false ∧ PyData.bulkAll xs ≤ szAll xs ∧ PyData.depthAll xs ≤ szAll xs
  | [], _ => by simp [PyData.canLayAll0, PyData.leavesShortAll, PyData.showableAll, PyData.hasDictAll, PyData.bulkAll, PyData.depthAll, szAll]
  | x :: xs, h => by
    rw [szAll_cons] at h ⊢
    obtain ⟨h1, h2, h3, h4, h5, h6⟩ := sz_ok x (by omega)
    obtain ⟨i1, i2, i3, i4, i5, i6⟩ := szAll_ok xs (by omega)
    refine ⟨by simp [PyData.canLayAll0, h1, i1], by simp [PyData.leavesShortAll, h2, i2], by simp [PyData.showableAll, h3, i3], by simp [PyData.hasDictAll, h4, i4], by simp only [PyData.bulkAll]; omega, ?_⟩
    simp only [PyData.depthAll]; omega
end
/-! ### the size of what is read -/
def aS : Wd → Nat
  | .fin => 0
  | .bad => 20
  | w => sz w.val + 20
def bS : Tk → Nat
  | .call x => szS x + 8
  | .rel x => szS x + 8
  | .make x => szS x + 2
  | .mknot => 10
  | .bound x s => szS x + szS s + 3
  | .piece .m => 1
  | .members => 1
  | .ended x => szS x + 2
  | _ => 0
def gS : Md → Nat
  | .T d _ _ => sz d + 1
  | .P d _ _ _ => sz d + 1
  | _ => 0
theorem gS_T {m : Md} (h : m.isT = true) : gS m = sz m.thing + 1 := by
  cases m with
  | T d p q => rfl
  | _ => cases h
theorem gS_P {m : Md} (h : m.isP = true) : gS m = sz m.thing + 1 := by
  cases m with
  | P d p q g => rfl
  | _ => cases h
theorem szAll_T : ∀ {ps : List Md}, (∀ p ∈ ps, p.isT = true) → szAll (ps.map Md.thing) = (ps.map gS).sum
  | [], _ => by simp [szAll]
  | m :: ps, h => by
    rw [List.map_cons, szAll_cons, List.map_cons, List.sum_cons, szAll_T (ps := ps) fun p hp => h p (List.mem_cons_of_mem _ hp), gS_T (h m List.mem_cons_self)]
theorem szAll_P : ∀ {ps : List Md}, (∀ p ∈ ps, p.isP = true) → szAll (ps.map Md.thing) = (ps.map gS).sum
  | [], _ => by simp [szAll]
  | m :: ps, h => by
    rw [List.map_cons, szAll_cons, List.map_cons, List.sum_cons, szAll_P (ps := ps) fun p hp => h p (List.mem_cons_of_mem _ hp), gS_P (h m List.mem_cons_self)]
theorem sz_fold {x : Str} {ds es : List PyData} (h : foldThings x ds = some es) : szAll es ≤ szAll ds := by
  unfold foldThings at h
  split at h
  · split at h
    · injection h with h
      subst h
      simp only [szAll_cons, szAll_nil, sz_tup]
      omega
    · cases h
  · injection h with h
    subst h
    exact Nat.le_refl _
theorem sz_lit : szS "call" = 4 ∧ szS "rel" = 3 ∧ szS "var" = 3 ∧ szS "if" = 2 ∧ szS "no" = 2 ∧ szS "same" = 4 ∧ szS "and" = 3 ∧ szS "or" = 2 := by decide +kernel
theorem gS_joined {d : PyData} {ps : List Md} : gS (joinedM d ps) = sz d + 1 := rfl
def zOk (z : Int) : Prop := sz (.int z) = 0
theorem potS : Pot 0 zOk aS bS gS where
  varT := by
    intro n z hz
    have := sz_lit
    unfold zOk at hz
    simp only [gS, aS, bS, sz_tup, szAll_cons, szAll_nil, sz_str, hz]; omega
  termN := by intro x; simp only [aS, bS, Wd.val, sz_str]; omega
  argsP := by simp only [bS]; omega
  argsN := by simp only [gS, bS]; omega
  moreC := by intro k; simp only [bS]; omega
  moreE := by intro k; simp only [gS, bS]; omega
  callT := by intro x ps h; have := sz_lit; have := szAll_T h; simp only [gS_joined, bS, sz_tup, szAll_cons, szAll_nil, sz_str]; omega
  relT := by intro x ps h; have := sz_lit; have := szAll_T h; simp only [gS_joined, bS, sz_tup, szAll_cons, szAll_nil, sz_str]; omega
  relS := by
    intro x ps h
    have := sz_lit
    have := szAll_T h
    simp only [gS_joined, aS, bS, sz_tup, szAll_cons, szAll_nil, sz_str]; omega
  bnd := by intro w n s hw; simp only [aS, bS, Wd.val, sz_str]; omega
  stm := by simp only [bS]; omega
  lev := by intro a h; simp only [bS]; omega
  notN := by simp only [aS, bS]; omega
  notP := by simp only [aS, bS]; omega
  notO := by have := sz_lit; simp only [gS, aS, bS, NOd, sz_tup, szAll_cons, szAll_nil, sz_str]; omega
  notV := by
    intro n z hz
    have := sz_lit
    unfold zOk at hz
    simp only [gS, aS, bS, sz_tup, szAll_cons, szAll_nil, sz_str, hz]; omega
  notX := by intro x; simp only [aS, bS, Wd.val, sz_str]; omega
  restN := by intros; omega
  rest0 := by have := sz_lit; simp only [aS, bS]; omega
  rest1 := by have := sz_lit; simp only [aS, bS]; omega
  rest2 := by have := sz_lit; simp only [aS, bS]; omega
  mak := by
    intro x a b ha hb
    have h1 := gS_T ha
    have h2 := gS_T hb
    simp only [gS_joined, bS, sz_tup, szAll_cons, szAll_nil, sz_str]; omega
  nt := by
    intro a ha
    have := sz_lit
    have h1 := gS_T ha
    simp only [gS_joined, bS, NOd, sz_tup, szAll_cons, szAll_nil, sz_str]; omega
  bd := by
    intro x s a ha
    have h1 := gS_T ha
    simp only [gS_joined, bS, sz_tup, szAll_cons, szAll_nil, sz_str]; omega
  tak := by intros; omega
  grd := by
    intro x ps h
    have : ∀ q ∈ pieces, gS .B + ((pieceTasks q.2).map bS).sum + bS (.take ")") ≤ 1 := by decide +kernel
    have := this _ (look_mem h)
    simp only [aS, bS, Wd.val, sz_str] at this ⊢
    omega
  pg := by decide +kernel
  pG := by decide +kernel
  pa := by decide +kernel
  pA := by decide +kernel
  pt := by decide +kernel
  pf := by intro x; simp only [aS, bS, Wd.val, sz_str]; omega
  pm := by decide +kernel
  pn := by intro n; simp only [gS, aS, bS, Wd.val]; omega
  pw := by intro x; simp only [gS, aS, bS, Wd.val]; omega
  sml := by intro d p q; simp only [gS, bS]; omega
  memC := by simp only [aS, bS]; omega
  memE := by
    intro ps h
    have := szAll_P h
    simp only [gS, bS, sz_tup]
    omega
  les := by omega
  end_ := by
    intro x ps ds h hf
    have := szAll_P h
    have := sz_fold hf
    simp only [gS, bS, sz_tup, szAll_cons, sz_str]
    omega
/-! ### how many variables stand round -/
theorem call_many {word x : Str} {n : Nat} {S S' : PS} (h : makeCall word x n S = .ok S') : S'.many = S.many := by
  obtain ⟨ps, _, _, _, rfl⟩ := call_ok h
  rfl
theorem same_many {len : Nat} {S S' : PS} (h : doSame len S = .ok S') : S'.many = S.many := by
  unfold doSame at h
  split at h
  · injection h with h; subst h; rfl
  · cases h
theorem many_step {len : Nat} {t : Tk} {S S' : PS} (h : stepT len t S = .ok S') : S'.many ≤ S.many + 1 := by
  cases t with
  | term =>
    have h : doTerm len S = .ok S' := h
    unfold doTerm at h
    split at h
    · obtain ⟨n, _, _, rfl⟩ := var_ok h
      show S.many ≤ _
      omega
    · injection h with h; subst h
      show S.many ≤ _
      omega
    · cases h
  | args =>
    have h : doArgs len S = .ok S' := h
    unfold doArgs at h
    split at h <;> (injection h with h; subst h; show S.many ≤ _; omega)
  | more k =>
    have h : doMore len k S = .ok S' := h
    unfold doMore at h
    split at h
    · injection h with h; subst h; show S.many ≤ _; omega
    · split at h
      · injection h with h; subst h; show S.many ≤ _; omega
      · cases h
  | call x =>
    have h : doCall x S = .ok S' := h
    unfold doCall at h
    split at h
    · rename_i n r e
      have := call_many h
      show S'.many ≤ _
      simp only at this
      omega
    · cases h
  | rel x =>
    have h : doRel len x S = .ok S' := h
    unfold doRel at h
    split at h
    · split at h
      · obtain ⟨S1, h1, h2⟩ := bind_ok h
        have := call_many h1
        have := same_many h2
        simp only at *
        omega
      · have := call_many h
        simp only at this
        omega
    · cases h
  | stmt =>
    have h : doStmt len S = .ok S' := h
    have bd : ∀ w, doBound len w S.adv = .ok S' → S'.many ≤ S.many + 1 := by
      intro w h
      unfold doBound at h
      split at h
      · obtain ⟨S1, h1, h2⟩ := bind_ok h
        obtain ⟨_, rfl⟩ := need_ok h1
        unfold doBound2 at h2
        split at h2
        · unfold doBound3 at h2
          obtain ⟨S2, h3, h4⟩ := bind_ok h2
          obtain ⟨_, rfl⟩ := need_ok h3
          injection h4 with h4; subst h4
          exact Int.le_refl _
        · cases h2
      · cases h
    unfold doStmt at h
    split at h
    · exact bd _ h
    · split at h
      · exact bd _ h
      · unfold doLevel at h
        rw [if_neg (by decide)] at h
        injection h with h; subst h
        show S.many ≤ _
        omega
  | level a =>
    have h : doLevel len a S = .ok S' := h
    unfold doLevel at h
    split at h
    · unfold doNot at h
      split at h
      · split at h
        · injection h with h; subst h; show S.many ≤ _; omega
        · split at h
          · injection h with h; subst h; show S.many ≤ _; omega
          · cases h
      · split at h
        · injection h with h; subst h; show S.many ≤ _; omega
        · cases h
      · obtain ⟨S1, h1, h2⟩ := bind_ok h
        obtain ⟨n, _, _, rfl⟩ := var_ok h1
        have := same_many h2
        rw [this]; show S.many ≤ _; omega
      · injection h with h; subst h; show S.many ≤ _; omega
      · cases h
    · injection h with h; subst h; show S.many ≤ _; omega
  | rest a =>
    have h : doRest len a S = .ok S' := h
    unfold doRest at h
    split at h
    · split at h
      · injection h with h; subst h; show S.many ≤ _; omega
      · injection h with h; subst h; omega
    · cases h
  | make x =>
    have h : doMake x S = .ok S' := h
    unfold doMake at h
    split at h
    · split at h
      · injection h with h; subst h; show S.many ≤ _; omega
      · cases h
    · cases h
  | mknot =>
    have h : doMknot S = .ok S' := h
    unfold doMknot at h
    split at h
    · split at h
      · injection h with h; subst h; show S.many ≤ _; omega
      · cases h
    · cases h
  | bound x s =>
    have h : doBnd x s S = .ok S' := h
    unfold doBnd at h
    split at h
    · split at h
      · injection h with h; subst h; show S.many - 1 ≤ _; omega
      · cases h
    · cases h
  | take x =>
    have h : needMark len x S = .ok S' := h
    obtain ⟨_, rfl⟩ := need_ok h
    show S.many ≤ _
    omega
  | ground =>
    have h : doGround len S = .ok S' := h
    unfold doGround at h
    split at h
    · unfold doGround1 at h
      split at h
      · obtain ⟨S1, h1, h2⟩ := bind_ok h
        obtain ⟨_, rfl⟩ := need_ok h1
        unfold doGround2 at h2
        injection h2 with h2; subst h2; show S.many ≤ _; omega
      · cases h
    · cases h
  | piece p =>
    have h : doPiece len p S = .ok S' := h
    unfold doPiece at h
    cases p with
    | f =>
      replace h : (match nw len S with | .name x => Rs.ok (S.adv.add [.args, .call x, .small]) | _ => wrongM len S) = .ok S' := h
      split at h
      · injection h with h; subst h; show S.many ≤ _; omega
      · cases h
    | n =>
      replace h : (match nw len S with | .num n => Rs.ok (S.adv.push (.P (.int n) 0 0 true)) | _ => wrongM len S) = .ok S' := h
      split at h
      · injection h with h; subst h; show S.many ≤ _; omega
      · cases h
    | w =>
      replace h : (match nw len S with | .name x => Rs.ok (S.adv.push (.P (.str x) 0 0 true)) | _ => wrongM len S) = .ok S' := h
      split at h
      · injection h with h; subst h; show S.many ≤ _; omega
      · cases h
    | G => injection h with h; subst h; exact Int.le_refl _
    | A => injection h with h; subst h; exact Int.le_refl _
    | _ => injection h with h; subst h; show S.many ≤ _; omega
  | small =>
    have h : doSmall S = .ok S' := h
    unfold doSmall at h
    split at h
    · injection h with h; subst h; show S.many ≤ _; omega
    · cases h
  | members =>
    have h : doMembers len S = .ok S' := h
    unfold doMembers at h
    split at h
    · injection h with h; subst h; show S.many ≤ _; omega
    · split at h
      · split at h
        · injection h with h; subst h; show S.many ≤ _; omega
        · cases h
      · cases h
  | less =>
    have h : Rs.ok { S with many := S.many - 1 } = .ok S' := h
    injection h with h; subst h
    show S.many - 1 ≤ _
    omega
  | ended x =>
    have h : doEnded x S = .ok S' := h
    unfold doEnded at h
    split at h
    · split at h
      · split at h
        · injection h with h; subst h; show S.many ≤ _; omega
        · cases h
      · cases h
    · cases h
/-! ### along a run -/
theorem z_ok {z : Int} (h0 : 0 ≤ z) (h : z < 100000) : zOk z := by
  unfold zOk sz
  have h1 := PyData.shown_int_le (i := z) (by have : (10 : Nat) ^ 12 = 1000000000000 := by decide
                                              omega)
  have h2 : z.natAbs.log2 < 1920 := by
    have h3 : z.natAbs < 2 ^ 17 := by have : (2 : Nat) ^ 17 = 131072 := by decide
                                      omega
    by_cases e : z.natAbs = 0
    · rw [e]; decide +kernel
    · have := (Nat.log2_lt e).mpr h3
      omega
  rw [if_pos ⟨by omega, h2⟩]
def numOk (w : Wd) : Bool := match w with
  | .var n => decide (0 ≤ n)
  | _ => true
theorem run_bnd {len : Nat} : ∀ (n : Nat) (S S' : PS), mu S < n → Inv0 numOk S → S.many + mu S < 100000 → runF len n S = .ok S' →
    phi aB bB gB S' ≤ phi aB bB gB S ∧ phi aS bS gS S' ≤ phi aS bS gS S
  | 0, _, _, h, _, _, _ => by omega
  | n + 1, S, S', h, I, hm, hr => by
    unfold runF at hr
    cases e : S.todo with
    | nil =>
      rw [e] at hr
      injection hr with hr
      subst hr
      exact ⟨Nat.le_refl _, Nat.le_refl _⟩
    | cons t ts =>
      rw [e] at hr
      obtain ⟨S1, h1, h2⟩ := bind_ok hr
      obtain ⟨I1, m1, _⟩ := inv_step e I h1
      have hm1 := many_step h1
      have hl := lay_todo I.ly
      have hlv := (hl t (by rw [e]; exact List.mem_cons_self)).2
      simp only at hm1
      obtain ⟨a1, a2⟩ := run_bnd n S1 S' (by omega) I1 (by omega) h2
      have b1 := pot_step potB h1 (fun _ _ _ => trivial) hlv
      have b2 := pot_step potS h1 (fun k hk hlt => by
        have hk' : nw len S = .var k := hk
        have hlt' : k < S.many := hlt
        obtain ⟨p, r, er, ew⟩ := nw_cons hk' (by simp)
        have := I.wd p (by rw [er]; exact List.mem_cons_self)
        rw [ew] at this
        have h0 : 0 ≤ k := of_decide_eq_true this
        exact z_ok (z := S.many - 1 - k) (by omega) (by omega)) hlv
      have e1 : phi aB bB gB S = phi aB bB gB { S with todo := ts } + bB t := by simp only [phi, e, List.map_cons, List.sum_cons]; omega
      have e2 : phi aS bS gS S = phi aS bS gS { S with todo := ts } + bS t := by simp only [phi, e, List.map_cons, List.sum_cons]; omega
      exact ⟨by omega, by omega⟩
end KM

/-! part KShift -/
set_option maxHeartbeats 4000000
/-! A run on a slice is the run within the whole text. -/
namespace KM
open PySem
section
variable (sh len1 len2 : Nat) (e : List PW)
def shW (p : PW) : PW := ⟨p.w, sh + p.pos⟩
def extS (S : PS) : PS := { S with rest := S.rest.map (shW sh) ++ e }
def mapR : Rs → Rs
  | .err p => .err (sh + p)
  | .ok S => .ok (extS sh e S)
  | .stuck => .stuck
/-- what stands behind the slice: nothing, or the word by -/
structure Beh : Prop where
  w : (nowW len1 e).w = .fin ∨ (nowW len1 e).w = .told "by"
  pos : (nowW len1 e).pos = sh + len2
end
section
variable {sh len1 len2 : Nat} {e : List PW} (B : Beh sh len1 len2 e)
include B
theorem ext_pos (S : PS) : (nowW len1 (extS sh e S).rest).pos = sh + (nowW len2 S.rest).pos := by
  obtain ⟨rest, many, todo, made⟩ := S
  cases rest with
  | nil => exact B.pos
  | cons p r => rfl
theorem ext_cases (S : PS) : (nw len1 (extS sh e S) = nw len2 S ∧ ∀ (_ _ : Nat), (extS sh e S).adv = extS sh e S.adv) ∨ (nw len2 S = .fin ∧ (nw len1 (extS sh e S) = .fin ∨ nw len1 (extS sh e S) = .told "by")) := by
  obtain ⟨rest, many, todo, made⟩ := S
  cases rest with
  | nil => exact .inr ⟨rfl, B.w⟩
  | cons p r => exact .inl ⟨rfl, fun _ _ => rfl⟩
theorem ext_wrong (S : PS) : wrongM len1 (extS sh e S) = mapR sh e (wrongM len2 S) := by
  show Rs.err _ = Rs.err _
  rw [ext_pos B]
/-- a test of the next word -/
theorem ext_if {w : Wd} (hf : w ≠ .fin) (hb : w ≠ .told "by") {A1 A2 B1 B2 : PS → Rs} (S : PS) (h1 : nw len2 S = w → (extS sh e S).adv = extS sh e S.adv → A1 (extS sh e S) = mapR sh e (A2 S)) (h2 : B1 (extS sh e S) = mapR sh e (B2 S)) :
    (if nw len1 (extS sh e S) = w then A1 (extS sh e S) else B1 (extS sh e S)) = mapR sh e (if nw len2 S = w then A2 S else B2 S) := by
  rcases ext_cases B S with ⟨q1, q2⟩ | ⟨q1, q2⟩
  · rw [q1]
    by_cases c : nw len2 S = w
    · rw [if_pos c, if_pos c]; exact h1 c (q2 0 0)
    · rw [if_neg c, if_neg c]; exact h2
  · have c2 : ¬ nw len2 S = w := by rw [q1]; exact fun z => hf z.symm
    have c1 : ¬ nw len1 (extS sh e S) = w := by
      rcases q2 with q2 | q2 <;> rw [q2]
      · exact fun z => hf z.symm
      · exact fun z => hb z.symm
    rw [if_neg c1, if_neg c2]; exact h2
theorem ext_bind {r1 r2 : Rs} {f1 f2 : PS → Rs} (h : r1 = mapR sh e r2) (hf : ∀ S, r2 = .ok S → f1 (extS sh e S) = mapR sh e (f2 S)) : r1.bind f1 = mapR sh e (r2.bind f2) := by
  subst h
  cases r2 with
  | err p => rfl
  | ok S => exact hf S rfl
  | stuck => rfl
theorem ext_need {x : Str} (S : PS) : needMark len1 x (extS sh e S) = mapR sh e (needMark len2 x S) := by
  unfold needMark
  exact ext_if B (A1 := fun S => .ok S.adv) (A2 := fun S => .ok S.adv) (B1 := fun S => wrongM len1 S) (B2 := fun S => wrongM len2 S) (by simp) (by simp) S (fun _ h => congrArg Rs.ok h) (ext_wrong B S)
/-- a look at the next word, by all its kinds -/
theorem ext_look (S : PS) : (∃ q, nw len1 (extS sh e S) = q ∧ nw len2 S = q ∧ (extS sh e S).adv = extS sh e S.adv) ∨ (nw len2 S = .fin ∧ (nw len1 (extS sh e S) = .fin ∨ nw len1 (extS sh e S) = .told "by")) := by
  rcases ext_cases B S with ⟨q1, q2⟩ | h
  · exact .inl ⟨_, q1, rfl, q2 0 0⟩
  · exact .inr h
theorem ext_var (S : PS) : doVariable len1 (extS sh e S) = mapR sh e (doVariable len2 S) := by
  unfold doVariable
  rcases ext_look B S with ⟨q, e1, e2, ea⟩ | ⟨e2, e1 | e1⟩
  · rw [e1, e2, ea]
    cases q with
    | var n =>
      show (if n < S.many then _ else _) = mapR sh e (if n < S.many then _ else _)
      split
      · rfl
      · exact ext_wrong B S
    | _ => exact ext_wrong B S
  · rw [e1, e2]; exact ext_wrong B S
  · rw [e1, e2]; exact ext_wrong B S
theorem ext_call {word x : Str} {n : Nat} (S : PS) : makeCall word x n (extS sh e S) = mapR sh e (makeCall word x n S) := by
  unfold makeCall
  show (if n ≤ S.made.length ∧ (S.made.take n).all Md.isT = true then _ else _) = mapR sh e (if n ≤ S.made.length ∧ (S.made.take n).all Md.isT = true then _ else _)
  split <;> rfl
theorem ext_same (S : PS) : doSame len1 (extS sh e S) = mapR sh e (doSame len2 S) := by
  unfold doSame
  exact ext_if B (A1 := fun S => .ok (S.adv.add [.term, .make "same"])) (A2 := fun S => .ok (S.adv.add [.term, .make "same"])) (B1 := fun S => wrongM len1 S) (B2 := fun S => wrongM len2 S) (by simp) (by simp) S (fun _ h => by show Rs.ok _ = _; rw [h]; rfl) (ext_wrong B S)
theorem ext_step (t : Tk) (S : PS) : stepT len1 t (extS sh e S) = mapR sh e (stepT len2 t S) := by
  cases t with
  | term =>
    show doTerm len1 (extS sh e S) = mapR sh e (doTerm len2 S)
    unfold doTerm
    rcases ext_look B S with ⟨q, e1, e2, ea⟩ | ⟨e2, e1 | e1⟩
    · rw [e1, e2, ea]
      cases q with
      | var n => exact ext_var B S
      | name x => rfl
      | _ => exact ext_wrong B S
    · rw [e1, e2]; exact ext_wrong B S
    · rw [e1, e2]; exact ext_wrong B S
  | args =>
    show doArgs len1 (extS sh e S) = mapR sh e (doArgs len2 S)
    unfold doArgs
    exact ext_if B (A1 := fun S => .ok (S.adv.add [.term, .more 1])) (A2 := fun S => .ok (S.adv.add [.term, .more 1])) (B1 := fun S => .ok (S.push (.C 0))) (B2 := fun S => .ok (S.push (.C 0))) (by simp) (by simp) S (fun _ h => by show Rs.ok _ = _; rw [h]; rfl) rfl
  | more k =>
    show doMore len1 k (extS sh e S) = mapR sh e (doMore len2 k S)
    unfold doMore
    exact ext_if B (A1 := fun S => .ok (S.adv.add [.term, .more (k + 1)])) (A2 := fun S => .ok (S.adv.add [.term, .more (k + 1)])) (B1 := fun S => if nw len1 S = .mark ")" then .ok (S.adv.push (.C k)) else wrongM len1 S) (B2 := fun S => if nw len2 S = .mark ")" then .ok (S.adv.push (.C k)) else wrongM len2 S) (by simp) (by simp) S (fun _ h => by show Rs.ok _ = _; rw [h]; rfl)
      (ext_if B (A1 := fun S => .ok (S.adv.push (.C k))) (A2 := fun S => .ok (S.adv.push (.C k))) (B1 := fun S => wrongM len1 S) (B2 := fun S => wrongM len2 S) (by simp) (by simp) S (fun _ h => by show Rs.ok _ = _; rw [h]; rfl) (ext_wrong B S))
  | call x =>
    show doCall x (extS sh e S) = mapR sh e (doCall x S)
    obtain ⟨rest, many, todo, made⟩ := S
    cases made with
    | nil => rfl
    | cons m r =>
      cases m with
      | C n => exact ext_call B (⟨rest, many, todo, r⟩ : PS)
      | _ => rfl
  | rel x =>
    show doRel len1 x (extS sh e S) = mapR sh e (doRel len2 x S)
    obtain ⟨rest, many, todo, made⟩ := S
    cases made with
    | nil => rfl
    | cons m r =>
      cases m with
      | C n =>
        show (if nw len1 (extS sh e ⟨rest, many, todo, r⟩) = .mark "=" then _ else _) = mapR sh e (if nw len2 ⟨rest, many, todo, r⟩ = .mark "=" then _ else _)
        exact ext_if B (A1 := fun S => (makeCall "call" x n S).bind (doSame len1)) (A2 := fun S => (makeCall "call" x n S).bind (doSame len2)) (B1 := fun S => makeCall "rel" x n S) (B2 := fun S => makeCall "rel" x n S) (by simp) (by simp) ⟨rest, many, todo, r⟩
          (fun _ _ => ext_bind B (ext_call B _) (fun S _ => ext_same B S)) (ext_call B _)
      | _ => rfl
  | stmt =>
    show doStmt len1 (extS sh e S) = mapR sh e (doStmt len2 S)
    have bd : ∀ w S, doBound len1 w (extS sh e S) = mapR sh e (doBound len2 w S) := by
      intro w S
      unfold doBound
      refine ext_if B (A1 := fun S => (needMark len1 ":" S.adv).bind (doBound2 len1 w)) (A2 := fun S => (needMark len2 ":" S.adv).bind (doBound2 len2 w)) (B1 := fun S => wrongM len1 S) (B2 := fun S => wrongM len2 S) (by simp) (by simp) S (fun _ h => ?_) (ext_wrong B S)
      simp only [h]
      refine ext_bind B (ext_need B _) (fun S2 _ => ?_)
      unfold doBound2
      rcases ext_look B S2 with ⟨q, e1, e2, ea⟩ | ⟨e2, e1 | e1⟩
      · rw [e1, e2, ea]
        cases q with
        | name x =>
          show doBound3 len1 w x _ = mapR sh e (doBound3 len2 w x _)
          unfold doBound3
          exact ext_bind B (ext_need B _) (fun S3 _ => rfl)
        | _ => exact ext_wrong B S2
      · rw [e1, e2]; exact ext_wrong B S2
      · rw [e1, e2]; exact ext_wrong B S2
    unfold doStmt
    exact ext_if B (A1 := fun S => doBound len1 "all" S.adv) (A2 := fun S => doBound len2 "all" S.adv) (B1 := fun S => if nw len1 S = .told "some" then doBound len1 "some" S.adv else doLevel len1 0 S) (B2 := fun S => if nw len2 S = .told "some" then doBound len2 "some" S.adv else doLevel len2 0 S) (by simp) (by decide) S (fun _ h => by show doBound len1 "all" _ = _; rw [h]; exact bd _ _)
      (ext_if B (A1 := fun S => doBound len1 "some" S.adv) (A2 := fun S => doBound len2 "some" S.adv) (B1 := fun S => doLevel len1 0 S) (B2 := fun S => doLevel len2 0 S) (by simp) (by decide) S (fun _ h => by show doBound len1 "some" _ = _; rw [h]; exact bd _ _) rfl)
  | level a =>
    show doLevel len1 a (extS sh e S) = mapR sh e (doLevel len2 a S)
    unfold doLevel
    split
    · unfold doNot
      rcases ext_look B S with ⟨q, e1, e2, ea⟩ | ⟨e2, e1 | e1⟩
      · rw [e1, e2, ea]
        cases q with
        | mark x =>
          show (if x = "~" then _ else if x = "(" then _ else _) = mapR sh e (if x = "~" then _ else if x = "(" then _ else _)
          split
          · rfl
          · split
            · rfl
            · exact ext_wrong B S
        | told x =>
          show (if x = "no" then _ else _) = mapR sh e (if x = "no" then _ else _)
          split
          · rfl
          · exact ext_wrong B S
        | var n => exact ext_bind B (ext_var B S) (fun S1 _ => ext_same B S1)
        | name x => rfl
        | _ => exact ext_wrong B S
      · rw [e1, e2]; exact ext_wrong B S
      · rw [e1, e2]
        show (if ("by" : Str) = "no" then _ else _) = _
        rw [if_neg (by decide)]
        exact ext_wrong B S
    · rfl
  | rest a =>
    show doRest len1 a (extS sh e S) = mapR sh e (doRest len2 a S)
    unfold doRest
    split
    · rename_i x y _ _
      exact ext_if B (A1 := fun S => .ok (S.adv.add (if a = 0 then [.level 0, .make y] else [.level (a + 1), .make y, .rest a]))) (A2 := fun S => .ok (S.adv.add (if a = 0 then [.level 0, .make y] else [.level (a + 1), .make y, .rest a]))) (B1 := fun S => .ok S) (B2 := fun S => .ok S) (by simp) (by simp) S (fun _ h => by show Rs.ok _ = _; rw [h]; rfl) rfl
    · rfl
  | make x =>
    show doMake x (extS sh e S) = mapR sh e (doMake x S)
    obtain ⟨rest, many, todo, made⟩ := S
    match made with
    | [] => rfl
    | [_] => rfl
    | b :: a :: r =>
      show (if a.isT = true ∧ b.isT = true then _ else _) = mapR sh e (if a.isT = true ∧ b.isT = true then _ else _)
      split <;> rfl
  | mknot =>
    show doMknot (extS sh e S) = mapR sh e (doMknot S)
    obtain ⟨rest, many, todo, made⟩ := S
    match made with
    | [] => rfl
    | a :: r =>
      show (if a.isT = true then _ else _) = mapR sh e (if a.isT = true then _ else _)
      split <;> rfl
  | bound x y =>
    show doBnd x y (extS sh e S) = mapR sh e (doBnd x y S)
    obtain ⟨rest, many, todo, made⟩ := S
    match made with
    | [] => rfl
    | a :: r =>
      show (if a.isT = true then _ else _) = mapR sh e (if a.isT = true then _ else _)
      split <;> rfl
  | take x => exact ext_need B S
  | ground =>
    show doGround len1 (extS sh e S) = mapR sh e (doGround len2 S)
    unfold doGround
    have g1 : ∀ x, (extS sh e S).adv = extS sh e S.adv → doGround1 len1 x (extS sh e S) = mapR sh e (doGround1 len2 x S) := by
      intro x ea
      unfold doGround1
      split
      · rw [ea]
        exact ext_bind B (ext_need B _) (fun S1 _ => rfl)
      · exact ext_wrong B S
    rcases ext_look B S with ⟨q, e1, e2, ea⟩ | ⟨e2, e1 | e1⟩
    · rw [e1, e2]
      cases q with
      | told x => exact g1 x ea
      | _ => exact ext_wrong B S
    · rw [e1, e2]; exact ext_wrong B S
    · rw [e1, e2]
      show doGround1 len1 "by" _ = _
      unfold doGround1
      rw [show pieces.lookup ("by" : Str) = none by decide +kernel]
      exact ext_wrong B S
  | piece c =>
    show doPiece len1 c (extS sh e S) = mapR sh e (doPiece len2 c S)
    unfold doPiece
    cases c with
    | f =>
      show (match nw len1 (extS sh e S) with | .name x => Rs.ok ((extS sh e S).adv.add [.args, .call x, .small]) | _ => wrongM len1 (extS sh e S)) = mapR sh e (match nw len2 S with | .name x => Rs.ok (S.adv.add [.args, .call x, .small]) | _ => wrongM len2 S)
      rcases ext_look B S with ⟨q, e1, e2, ea⟩ | ⟨e2, e1 | e1⟩
      · rw [e1, e2, ea]
        cases q with
        | name x => rfl
        | _ => exact ext_wrong B S
      · rw [e1, e2]; exact ext_wrong B S
      · rw [e1, e2]; exact ext_wrong B S
    | n =>
      show (match nw len1 (extS sh e S) with | .num n => Rs.ok ((extS sh e S).adv.push (.P (.int n) 0 0 true)) | _ => wrongM len1 (extS sh e S)) = mapR sh e (match nw len2 S with | .num n => Rs.ok (S.adv.push (.P (.int n) 0 0 true)) | _ => wrongM len2 S)
      rcases ext_look B S with ⟨q, e1, e2, ea⟩ | ⟨e2, e1 | e1⟩
      · rw [e1, e2, ea]
        cases q with
        | num x => rfl
        | _ => exact ext_wrong B S
      · rw [e1, e2]; exact ext_wrong B S
      · rw [e1, e2]; exact ext_wrong B S
    | w =>
      show (match nw len1 (extS sh e S) with | .name x => Rs.ok ((extS sh e S).adv.push (.P (.str x) 0 0 true)) | _ => wrongM len1 (extS sh e S)) = mapR sh e (match nw len2 S with | .name x => Rs.ok (S.adv.push (.P (.str x) 0 0 true)) | _ => wrongM len2 S)
      rcases ext_look B S with ⟨q, e1, e2, ea⟩ | ⟨e2, e1 | e1⟩
      · rw [e1, e2, ea]
        cases q with
        | name x => rfl
        | _ => exact ext_wrong B S
      · rw [e1, e2]; exact ext_wrong B S
      · rw [e1, e2]; exact ext_wrong B S
    | _ => rfl
  | small =>
    show doSmall (extS sh e S) = mapR sh e (doSmall S)
    obtain ⟨rest, many, todo, made⟩ := S
    match made with
    | [] => rfl
    | a :: r => cases a <;> rfl
  | members =>
    show doMembers len1 (extS sh e S) = mapR sh e (doMembers len2 S)
    unfold doMembers
    have tl : ∀ S : PS, (match since (extS sh e S).made with
      | some (ps, r) => if ps.all Md.isP = true then Rs.ok { extS sh e S with made := .P (.tuple (ps.map Md.thing)) (sumI (ps.map Md.a1)) (maxI (ps.map Md.a2)) ((ps.map Md.a3).all id) :: r } else .stuck
      | none => .stuck) = mapR sh e (match since S.made with
      | some (ps, r) => if ps.all Md.isP = true then Rs.ok { S with made := .P (.tuple (ps.map Md.thing)) (sumI (ps.map Md.a1)) (maxI (ps.map Md.a2)) ((ps.map Md.a3).all id) :: r } else .stuck
      | none => .stuck) := by
      intro S
      show (match since S.made with | some (ps, r) => _ | none => _) = _
      cases since S.made with
      | none => rfl
      | some p =>
        obtain ⟨ps, r⟩ := p
        show (if ps.all Md.isP = true then _ else _) = mapR sh e (if ps.all Md.isP = true then _ else _)
        split <;> rfl
    exact ext_if B (A1 := fun S => .ok (S.adv.add [.ground, .members])) (A2 := fun S => .ok (S.adv.add [.ground, .members])) (B1 := fun S => match since S.made with
      | some (ps, r) => if ps.all Md.isP = true then Rs.ok { S with made := .P (.tuple (ps.map Md.thing)) (sumI (ps.map Md.a1)) (maxI (ps.map Md.a2)) ((ps.map Md.a3).all id) :: r } else .stuck
      | none => .stuck) (B2 := fun S => match since S.made with
      | some (ps, r) => if ps.all Md.isP = true then Rs.ok { S with made := .P (.tuple (ps.map Md.thing)) (sumI (ps.map Md.a1)) (maxI (ps.map Md.a2)) ((ps.map Md.a3).all id) :: r } else .stuck
      | none => .stuck) (by simp) (by simp) S (fun _ h => by show Rs.ok _ = _; rw [h]; rfl) (tl S)
  | less => rfl
  | ended x =>
    show doEnded x (extS sh e S) = mapR sh e (doEnded x S)
    unfold doEnded
    show (match since S.made with | some (ps, r) => _ | none => _) = _
    cases since S.made with
    | none => rfl
    | some p =>
      obtain ⟨ps, r⟩ := p
      show (if ps.all Md.isP = true then _ else _) = mapR sh e (if ps.all Md.isP = true then _ else _)
      split
      · cases foldThings x (ps.map Md.thing) <;> rfl
      · rfl
theorem ext_run : ∀ (n : Nat) (S : PS), runF len1 n (extS sh e S) = mapR sh e (runF len2 n S)
  | 0, S => rfl
  | n + 1, S => by
    unfold runF
    show (match S.todo with | [] => Rs.ok (extS sh e S) | t :: ts => (stepT len1 t (extS sh e { S with todo := ts })).bind (runF len1 n)) = mapR sh e (match S.todo with | [] => Rs.ok S | t :: ts => (stepT len2 t { S with todo := ts }).bind (runF len2 n))
    cases S.todo with
    | nil => rfl
    | cons t ts =>
      show (stepT len1 t (extS sh e { S with todo := ts })).bind (runF len1 n) = mapR sh e ((stepT len2 t { S with todo := ts }).bind (runF len2 n))
      exact ext_bind B (ext_step B t _) (fun S1 _ => ext_run n S1)
end
theorem run_fuel {len : Nat} : ∀ (n m : Nat) (S : PS), n ≤ m → runF len n S ≠ .stuck → runF len m S = runF len n S
  | 0, m, S, _, h => absurd rfl h
  | n + 1, 0, S, h, _ => by omega
  | n + 1, m + 1, S, h, hs => by
    unfold runF at hs ⊢
    cases e : S.todo with
    | nil => rfl
    | cons t ts =>
      rw [e] at hs
      show (stepT len t { S with todo := ts }).bind (runF len m) = (stepT len t { S with todo := ts }).bind (runF len n)
      cases r : stepT len t { S with todo := ts } with
      | err p => rfl
      | stuck => rfl
      | ok S1 =>
        have hs2 : (stepT len t { S with todo := ts }).bind (runF len n) ≠ .stuck := hs
        rw [r] at hs2
        exact run_fuel n m S1 (by omega) hs2
end KM

/-! part KWork -/
set_option maxHeartbeats 4000000
namespace KW
open PySem PySem.Spec PyProof.Rows L2 KM
section
variable {P : Program} {w : World} {K : PySem.W.Frag} {mg : Str → Option Value} {base : Heap}
/-! ### Reader.work -/
def spWk (K : PySem.W.Frag) : Sp := fun vs H Q E => ∃ (r t m p : Addr) (len : Nat) (S : PS) (tk : Tk), vs = [.ref r, .ref p] ∧ Rp K r H len S t m ∧ Sz S ∧ SqT K H p tk.vs ∧ tkOk tk = true ∧ MOk S.made ∧ (tk = .ground → ∀ x, nw len S = .told x → x ∈ toldAll) ∧ Out K r t m len H Q E (stepT len tk S)
theorem ok_work (T : Txt K mg w) : Good P w K mg base 10 (mR K "work") ["self", "task"] (spWk K) := by
  have G1 := ok_do_ground (P := P) (base := base) T
  have G2 := ok_do_piece (P := P) (base := base) T
  have G3 := ok_do_small (P := P) (base := base) T
  have G4 := ok_do_members (P := P) (base := base) T
  have G5 := ok_do_ended (P := P) (base := base) T
  have G6 := ok_work_plain (P := P) (base := base) T
  refine good_of T.f_work sc_work (fun _ _ _ _ _ _ us hl => match us, hl with | [_, _], _ => rfl) (fun vs H Q E h => by obtain ⟨_, _, _, _, _, _, _, rfl, _⟩ := h; rfl) (fun cdv A outer s H vs Q E hr h => ?_)
  obtain ⟨r, t, m, p, len, S, tk, rfl, R, hz, hp, hto, hmo, htold, k⟩ := h
  obtain ⟨dx, wd, at', hR⟩ := R.ins_
  refine ⟨_, (pss_one (ps_if (pt_cmpR op_eq (pe_ix ix_tup (pv 1) pe_int (fun _ _ => rfl)) pe_str (nomark _)) (pss_one (ps_expr (pm0 G1 (hr.mono (by decide)) T.cl T.m_do_ground px (pv 0)))) (pss_one (ps_if (pt_cmpR op_eq (pe_ix ix_tup (pv 1) pe_int (fun _ _ => rfl)) pe_str (nomark _)) (pss_one (ps_expr (pm G2 (hr.mono (by decide)) T.cl T.m_do_piece px (pv 0) (pa_cons (pe_ix ix_tup (pv 1) pe_int (fun _ _ => rfl)) pa_nil)))) (pss_one (ps_if (pt_cmpR op_eq (pe_ix ix_tup (pv 1) pe_int (fun _ _ => rfl)) pe_str (nomark _)) (pss_one (ps_expr (pm0 G3 (hr.mono (by decide)) T.cl T.m_do_small px (pv 0)))) (pss_one (ps_if (pt_cmpR op_eq (pe_ix ix_tup (pv 1) pe_int (fun _ _ => rfl)) pe_str (nomark _)) (pss_one (ps_expr (pm0 G4 (hr.mono (by decide)) T.cl T.m_do_members px (pv 0)))) (pss_one (ps_if (pt_cmpR op_eq (pe_ix ix_tup (pv 1) pe_int (fun _ _ => rfl)) pe_str (nomark _)) (pss_one (ps_fld (pv 0) (pe_op op_sub (pe_fld (pv 0) rfl) pe_int) rfl)) (pss_one (ps_if (pt_cmpR op_eq (pe_ix ix_tup (pv 1) pe_int (fun _ _ => rfl)) pe_str (nomark _)) (pss_one (ps_expr (pm G5 (hr.mono (by decide)) T.cl T.m_do_ended px (pv 0) (pa_cons (pe_ix ix_tup (pv 1) pe_int (fun _ _ => rfl)) pa_nil)))) (pss_one (ps_expr (pm G6 (hr.mono (by decide)) T.cl T.m_work_plain px (pv 0) (pa_cons (pv 1) pa_nil)))))))))))))))), ?_⟩
  cases tk with
  | ground =>
    refine ⟨_, rfl, p, _, _, _, rfl, rfl, hp, atI_nat (j := 0) rfl, rfl, _, rfl, iteST ?_⟩
    exact ⟨_, rfl, r, _, _, rfl, hR, rd_none, r, t, m, len, S, rfl, R, hz, htold rfl, k⟩
  | piece c =>
    refine ⟨_, rfl, p, _, _, _, rfl, rfl, hp, atI_nat (j := 0) rfl, rfl, _, rfl, iteSF ?_⟩
    refine ⟨_, rfl, p, _, _, _, rfl, rfl, hp, atI_nat (j := 0) rfl, rfl, _, rfl, iteST ?_⟩
    exact ⟨_, rfl, r, _, _, rfl, hR, rd_none, _, rfl, p, _, _, _, rfl, rfl, hp, atI_nat (j := 1) rfl, r, t, m, len, S, c, rfl, R, hz, k⟩
  | small =>
    refine ⟨_, rfl, p, _, _, _, rfl, rfl, hp, atI_nat (j := 0) rfl, rfl, _, rfl, iteSF ?_⟩
    refine ⟨_, rfl, p, _, _, _, rfl, rfl, hp, atI_nat (j := 0) rfl, rfl, _, rfl, iteSF ?_⟩
    refine ⟨_, rfl, p, _, _, _, rfl, rfl, hp, atI_nat (j := 0) rfl, rfl, _, rfl, iteST ?_⟩
    exact ⟨_, rfl, r, _, _, rfl, hR, rd_none, r, t, m, len, S, rfl, R, hz, k⟩
  | members =>
    refine ⟨_, rfl, p, _, _, _, rfl, rfl, hp, atI_nat (j := 0) rfl, rfl, _, rfl, iteSF ?_⟩
    refine ⟨_, rfl, p, _, _, _, rfl, rfl, hp, atI_nat (j := 0) rfl, rfl, _, rfl, iteSF ?_⟩
    refine ⟨_, rfl, p, _, _, _, rfl, rfl, hp, atI_nat (j := 0) rfl, rfl, _, rfl, iteSF ?_⟩
    refine ⟨_, rfl, p, _, _, _, rfl, rfl, hp, atI_nat (j := 0) rfl, rfl, _, rfl, iteST ?_⟩
    exact ⟨_, rfl, r, _, _, rfl, hR, rd_none, r, t, m, len, S, rfl, R, hz, hmo, k⟩
  | less =>
    refine ⟨_, rfl, p, _, _, _, rfl, rfl, hp, atI_nat (j := 0) rfl, rfl, _, rfl, iteSF ?_⟩
    refine ⟨_, rfl, p, _, _, _, rfl, rfl, hp, atI_nat (j := 0) rfl, rfl, _, rfl, iteSF ?_⟩
    refine ⟨_, rfl, p, _, _, _, rfl, rfl, hp, atI_nat (j := 0) rfl, rfl, _, rfl, iteSF ?_⟩
    refine ⟨_, rfl, p, _, _, _, rfl, rfl, hp, atI_nat (j := 0) rfl, rfl, _, rfl, iteSF ?_⟩
    refine ⟨_, rfl, p, _, _, _, rfl, rfl, hp, atI_nat (j := 0) rfl, rfl, _, rfl, iteST ?_⟩
    refine ⟨_, rfl, fl_many T hR ⟨_, _, rfl, rfl, _, rfl, st_many T hR ?_⟩⟩
    exact k _ m Go.upd_r (R.set_many hR)
  | ended x =>
    refine ⟨_, rfl, p, _, _, _, rfl, rfl, hp, atI_nat (j := 0) rfl, rfl, _, rfl, iteSF ?_⟩
    refine ⟨_, rfl, p, _, _, _, rfl, rfl, hp, atI_nat (j := 0) rfl, rfl, _, rfl, iteSF ?_⟩
    refine ⟨_, rfl, p, _, _, _, rfl, rfl, hp, atI_nat (j := 0) rfl, rfl, _, rfl, iteSF ?_⟩
    refine ⟨_, rfl, p, _, _, _, rfl, rfl, hp, atI_nat (j := 0) rfl, rfl, _, rfl, iteSF ?_⟩
    refine ⟨_, rfl, p, _, _, _, rfl, rfl, hp, atI_nat (j := 0) rfl, rfl, _, rfl, iteSF ?_⟩
    refine ⟨_, rfl, p, _, _, _, rfl, rfl, hp, atI_nat (j := 0) rfl, rfl, _, rfl, iteST ?_⟩
    exact ⟨_, rfl, r, _, _, rfl, hR, rd_none, _, rfl, p, _, _, _, rfl, rfl, hp, atI_nat (j := 1) rfl, r, t, m, len, S, x, rfl, R, hz, hmo, k⟩
  | term =>
    refine ⟨_, rfl, p, _, _, _, rfl, rfl, hp, atI_nat (j := 0) rfl, rfl, _, rfl, iteSF ?_⟩
    refine ⟨_, rfl, p, _, _, _, rfl, rfl, hp, atI_nat (j := 0) rfl, rfl, _, rfl, iteSF ?_⟩
    refine ⟨_, rfl, p, _, _, _, rfl, rfl, hp, atI_nat (j := 0) rfl, rfl, _, rfl, iteSF ?_⟩
    refine ⟨_, rfl, p, _, _, _, rfl, rfl, hp, atI_nat (j := 0) rfl, rfl, _, rfl, iteSF ?_⟩
    refine ⟨_, rfl, p, _, _, _, rfl, rfl, hp, atI_nat (j := 0) rfl, rfl, _, rfl, iteSF ?_⟩
    refine ⟨_, rfl, p, _, _, _, rfl, rfl, hp, atI_nat (j := 0) rfl, rfl, _, rfl, iteSF ?_⟩
    exact ⟨_, rfl, r, _, _, rfl, hR, rd_none, _, rfl, r, t, m, p, len, S, _, rfl, R, hz, hp, rfl, hto, k⟩
  | args =>
    refine ⟨_, rfl, p, _, _, _, rfl, rfl, hp, atI_nat (j := 0) rfl, rfl, _, rfl, iteSF ?_⟩
    refine ⟨_, rfl, p, _, _, _, rfl, rfl, hp, atI_nat (j := 0) rfl, rfl, _, rfl, iteSF ?_⟩
    refine ⟨_, rfl, p, _, _, _, rfl, rfl, hp, atI_nat (j := 0) rfl, rfl, _, rfl, iteSF ?_⟩
    refine ⟨_, rfl, p, _, _, _, rfl, rfl, hp, atI_nat (j := 0) rfl, rfl, _, rfl, iteSF ?_⟩
    refine ⟨_, rfl, p, _, _, _, rfl, rfl, hp, atI_nat (j := 0) rfl, rfl, _, rfl, iteSF ?_⟩
    refine ⟨_, rfl, p, _, _, _, rfl, rfl, hp, atI_nat (j := 0) rfl, rfl, _, rfl, iteSF ?_⟩
    exact ⟨_, rfl, r, _, _, rfl, hR, rd_none, _, rfl, r, t, m, p, len, S, _, rfl, R, hz, hp, rfl, hto, k⟩
  | more n =>
    refine ⟨_, rfl, p, _, _, _, rfl, rfl, hp, atI_nat (j := 0) rfl, rfl, _, rfl, iteSF ?_⟩
    refine ⟨_, rfl, p, _, _, _, rfl, rfl, hp, atI_nat (j := 0) rfl, rfl, _, rfl, iteSF ?_⟩
    refine ⟨_, rfl, p, _, _, _, rfl, rfl, hp, atI_nat (j := 0) rfl, rfl, _, rfl, iteSF ?_⟩
    refine ⟨_, rfl, p, _, _, _, rfl, rfl, hp, atI_nat (j := 0) rfl, rfl, _, rfl, iteSF ?_⟩
    refine ⟨_, rfl, p, _, _, _, rfl, rfl, hp, atI_nat (j := 0) rfl, rfl, _, rfl, iteSF ?_⟩
    refine ⟨_, rfl, p, _, _, _, rfl, rfl, hp, atI_nat (j := 0) rfl, rfl, _, rfl, iteSF ?_⟩
    exact ⟨_, rfl, r, _, _, rfl, hR, rd_none, _, rfl, r, t, m, p, len, S, _, rfl, R, hz, hp, rfl, hto, k⟩
  | call x =>
    refine ⟨_, rfl, p, _, _, _, rfl, rfl, hp, atI_nat (j := 0) rfl, rfl, _, rfl, iteSF ?_⟩
    refine ⟨_, rfl, p, _, _, _, rfl, rfl, hp, atI_nat (j := 0) rfl, rfl, _, rfl, iteSF ?_⟩
    refine ⟨_, rfl, p, _, _, _, rfl, rfl, hp, atI_nat (j := 0) rfl, rfl, _, rfl, iteSF ?_⟩
    refine ⟨_, rfl, p, _, _, _, rfl, rfl, hp, atI_nat (j := 0) rfl, rfl, _, rfl, iteSF ?_⟩
    refine ⟨_, rfl, p, _, _, _, rfl, rfl, hp, atI_nat (j := 0) rfl, rfl, _, rfl, iteSF ?_⟩
    refine ⟨_, rfl, p, _, _, _, rfl, rfl, hp, atI_nat (j := 0) rfl, rfl, _, rfl, iteSF ?_⟩
    exact ⟨_, rfl, r, _, _, rfl, hR, rd_none, _, rfl, r, t, m, p, len, S, _, rfl, R, hz, hp, rfl, hto, k⟩
  | rel x =>
    refine ⟨_, rfl, p, _, _, _, rfl, rfl, hp, atI_nat (j := 0) rfl, rfl, _, rfl, iteSF ?_⟩
    refine ⟨_, rfl, p, _, _, _, rfl, rfl, hp, atI_nat (j := 0) rfl, rfl, _, rfl, iteSF ?_⟩
    refine ⟨_, rfl, p, _, _, _, rfl, rfl, hp, atI_nat (j := 0) rfl, rfl, _, rfl, iteSF ?_⟩
    refine ⟨_, rfl, p, _, _, _, rfl, rfl, hp, atI_nat (j := 0) rfl, rfl, _, rfl, iteSF ?_⟩
    refine ⟨_, rfl, p, _, _, _, rfl, rfl, hp, atI_nat (j := 0) rfl, rfl, _, rfl, iteSF ?_⟩
    refine ⟨_, rfl, p, _, _, _, rfl, rfl, hp, atI_nat (j := 0) rfl, rfl, _, rfl, iteSF ?_⟩
    exact ⟨_, rfl, r, _, _, rfl, hR, rd_none, _, rfl, r, t, m, p, len, S, _, rfl, R, hz, hp, rfl, hto, k⟩
  | stmt =>
    refine ⟨_, rfl, p, _, _, _, rfl, rfl, hp, atI_nat (j := 0) rfl, rfl, _, rfl, iteSF ?_⟩
    refine ⟨_, rfl, p, _, _, _, rfl, rfl, hp, atI_nat (j := 0) rfl, rfl, _, rfl, iteSF ?_⟩
    refine ⟨_, rfl, p, _, _, _, rfl, rfl, hp, atI_nat (j := 0) rfl, rfl, _, rfl, iteSF ?_⟩
    refine ⟨_, rfl, p, _, _, _, rfl, rfl, hp, atI_nat (j := 0) rfl, rfl, _, rfl, iteSF ?_⟩
    refine ⟨_, rfl, p, _, _, _, rfl, rfl, hp, atI_nat (j := 0) rfl, rfl, _, rfl, iteSF ?_⟩
    refine ⟨_, rfl, p, _, _, _, rfl, rfl, hp, atI_nat (j := 0) rfl, rfl, _, rfl, iteSF ?_⟩
    exact ⟨_, rfl, r, _, _, rfl, hR, rd_none, _, rfl, r, t, m, p, len, S, _, rfl, R, hz, hp, rfl, hto, k⟩
  | level n =>
    refine ⟨_, rfl, p, _, _, _, rfl, rfl, hp, atI_nat (j := 0) rfl, rfl, _, rfl, iteSF ?_⟩
    refine ⟨_, rfl, p, _, _, _, rfl, rfl, hp, atI_nat (j := 0) rfl, rfl, _, rfl, iteSF ?_⟩
    refine ⟨_, rfl, p, _, _, _, rfl, rfl, hp, atI_nat (j := 0) rfl, rfl, _, rfl, iteSF ?_⟩
    refine ⟨_, rfl, p, _, _, _, rfl, rfl, hp, atI_nat (j := 0) rfl, rfl, _, rfl, iteSF ?_⟩
    refine ⟨_, rfl, p, _, _, _, rfl, rfl, hp, atI_nat (j := 0) rfl, rfl, _, rfl, iteSF ?_⟩
    refine ⟨_, rfl, p, _, _, _, rfl, rfl, hp, atI_nat (j := 0) rfl, rfl, _, rfl, iteSF ?_⟩
    exact ⟨_, rfl, r, _, _, rfl, hR, rd_none, _, rfl, r, t, m, p, len, S, _, rfl, R, hz, hp, rfl, hto, k⟩
  | rest n =>
    refine ⟨_, rfl, p, _, _, _, rfl, rfl, hp, atI_nat (j := 0) rfl, rfl, _, rfl, iteSF ?_⟩
    refine ⟨_, rfl, p, _, _, _, rfl, rfl, hp, atI_nat (j := 0) rfl, rfl, _, rfl, iteSF ?_⟩
    refine ⟨_, rfl, p, _, _, _, rfl, rfl, hp, atI_nat (j := 0) rfl, rfl, _, rfl, iteSF ?_⟩
    refine ⟨_, rfl, p, _, _, _, rfl, rfl, hp, atI_nat (j := 0) rfl, rfl, _, rfl, iteSF ?_⟩
    refine ⟨_, rfl, p, _, _, _, rfl, rfl, hp, atI_nat (j := 0) rfl, rfl, _, rfl, iteSF ?_⟩
    refine ⟨_, rfl, p, _, _, _, rfl, rfl, hp, atI_nat (j := 0) rfl, rfl, _, rfl, iteSF ?_⟩
    exact ⟨_, rfl, r, _, _, rfl, hR, rd_none, _, rfl, r, t, m, p, len, S, _, rfl, R, hz, hp, rfl, hto, k⟩
  | make x =>
    refine ⟨_, rfl, p, _, _, _, rfl, rfl, hp, atI_nat (j := 0) rfl, rfl, _, rfl, iteSF ?_⟩
    refine ⟨_, rfl, p, _, _, _, rfl, rfl, hp, atI_nat (j := 0) rfl, rfl, _, rfl, iteSF ?_⟩
    refine ⟨_, rfl, p, _, _, _, rfl, rfl, hp, atI_nat (j := 0) rfl, rfl, _, rfl, iteSF ?_⟩
    refine ⟨_, rfl, p, _, _, _, rfl, rfl, hp, atI_nat (j := 0) rfl, rfl, _, rfl, iteSF ?_⟩
    refine ⟨_, rfl, p, _, _, _, rfl, rfl, hp, atI_nat (j := 0) rfl, rfl, _, rfl, iteSF ?_⟩
    refine ⟨_, rfl, p, _, _, _, rfl, rfl, hp, atI_nat (j := 0) rfl, rfl, _, rfl, iteSF ?_⟩
    exact ⟨_, rfl, r, _, _, rfl, hR, rd_none, _, rfl, r, t, m, p, len, S, _, rfl, R, hz, hp, rfl, hto, k⟩
  | mknot =>
    refine ⟨_, rfl, p, _, _, _, rfl, rfl, hp, atI_nat (j := 0) rfl, rfl, _, rfl, iteSF ?_⟩
    refine ⟨_, rfl, p, _, _, _, rfl, rfl, hp, atI_nat (j := 0) rfl, rfl, _, rfl, iteSF ?_⟩
    refine ⟨_, rfl, p, _, _, _, rfl, rfl, hp, atI_nat (j := 0) rfl, rfl, _, rfl, iteSF ?_⟩
    refine ⟨_, rfl, p, _, _, _, rfl, rfl, hp, atI_nat (j := 0) rfl, rfl, _, rfl, iteSF ?_⟩
    refine ⟨_, rfl, p, _, _, _, rfl, rfl, hp, atI_nat (j := 0) rfl, rfl, _, rfl, iteSF ?_⟩
    refine ⟨_, rfl, p, _, _, _, rfl, rfl, hp, atI_nat (j := 0) rfl, rfl, _, rfl, iteSF ?_⟩
    exact ⟨_, rfl, r, _, _, rfl, hR, rd_none, _, rfl, r, t, m, p, len, S, _, rfl, R, hz, hp, rfl, hto, k⟩
  | bound x y =>
    refine ⟨_, rfl, p, _, _, _, rfl, rfl, hp, atI_nat (j := 0) rfl, rfl, _, rfl, iteSF ?_⟩
    refine ⟨_, rfl, p, _, _, _, rfl, rfl, hp, atI_nat (j := 0) rfl, rfl, _, rfl, iteSF ?_⟩
    refine ⟨_, rfl, p, _, _, _, rfl, rfl, hp, atI_nat (j := 0) rfl, rfl, _, rfl, iteSF ?_⟩
    refine ⟨_, rfl, p, _, _, _, rfl, rfl, hp, atI_nat (j := 0) rfl, rfl, _, rfl, iteSF ?_⟩
    refine ⟨_, rfl, p, _, _, _, rfl, rfl, hp, atI_nat (j := 0) rfl, rfl, _, rfl, iteSF ?_⟩
    refine ⟨_, rfl, p, _, _, _, rfl, rfl, hp, atI_nat (j := 0) rfl, rfl, _, rfl, iteSF ?_⟩
    exact ⟨_, rfl, r, _, _, rfl, hR, rd_none, _, rfl, r, t, m, p, len, S, _, rfl, R, hz, hp, rfl, hto, k⟩
  | take x =>
    refine ⟨_, rfl, p, _, _, _, rfl, rfl, hp, atI_nat (j := 0) rfl, rfl, _, rfl, iteSF ?_⟩
    refine ⟨_, rfl, p, _, _, _, rfl, rfl, hp, atI_nat (j := 0) rfl, rfl, _, rfl, iteSF ?_⟩
    refine ⟨_, rfl, p, _, _, _, rfl, rfl, hp, atI_nat (j := 0) rfl, rfl, _, rfl, iteSF ?_⟩
    refine ⟨_, rfl, p, _, _, _, rfl, rfl, hp, atI_nat (j := 0) rfl, rfl, _, rfl, iteSF ?_⟩
    refine ⟨_, rfl, p, _, _, _, rfl, rfl, hp, atI_nat (j := 0) rfl, rfl, _, rfl, iteSF ?_⟩
    refine ⟨_, rfl, p, _, _, _, rfl, rfl, hp, atI_nat (j := 0) rfl, rfl, _, rfl, iteSF ?_⟩
    exact ⟨_, rfl, r, _, _, rfl, hR, rd_none, _, rfl, r, t, m, p, len, S, _, rfl, R, hz, hp, rfl, hto, k⟩
end
end KW

/-! part KRun -/
set_option maxHeartbeats 4000000
namespace KW
open PySem PySem.Spec PyProof.Rows L2 KM
theorem lay_all {l : List PyData} (h : ∀ d ∈ l, d.canLay0 = true) : PyData.canLayAll0 l = true := by
  induction l with
  | nil => rfl
  | cons a l ih =>
    simp only [PyData.canLayAll0, h a List.mem_cons_self, ih fun d hd => h d (List.mem_cons_of_mem _ hd), Bool.and_self]
theorem lay_todoL {S : PS} (h : lay S = 0) : PyData.canLay0 (.list (S.todo.map Tk.toD).reverse) = true := by
  show PyData.canLayAll0 _ = true
  refine lay_all fun d hd => ?_
  obtain ⟨t, ht, rfl⟩ := List.mem_map.mp (List.mem_reverse.mp hd)
  exact (lay_todo h t ht).1
theorem tk_ok {t : Tk} (h : t.toD.canLay0 = true) : tkOk t = true := by
  cases t <;> first | rfl | (simp [Tk.toD, PyData.canLay0, PyData.canLayAll0] at h; exact h.2.2)
theorem eqv_nil (l : List PyData) : PyData.eqv (.list l) (.list []) = l.isEmpty := by cases l <;> simp [PyData.eqv, PyData.eqvAll]
theorem runF_cons {len n : Nat} {S : PS} {tk : Tk} {ts : List Tk} (e : S.todo = tk :: ts) : runF len (n + 1) S = (stepT len tk { S with todo := ts }).bind (runF len n) := by
  show (match S.todo with
    | [] => Rs.ok S
    | t :: ts => (stepT len t { S with todo := ts }).bind (runF len n)) = _
  rw [e]
theorem runF_nil {len n : Nat} {S : PS} (e : S.todo = []) : runF len (n + 1) S = .ok S := by
  show (match S.todo with
    | [] => Rs.ok S
    | t :: ts => (stepT len t { S with todo := ts }).bind (runF len n)) = _
  rw [e]
def pT (w : Wd) : Bool := match w with
  | .told x => decide (x ∈ toldAll)
  | _ => true
theorem told_of {len : Nat} {S : PS} (h : ∀ q ∈ S.rest, pT q.w = true) : ∀ x, nw len S = .told x → x ∈ toldAll := fun x e => by
  obtain ⟨p, r, e1, e2⟩ := nw_cons e (by simp)
  have := h p (by rw [e1]; exact List.mem_cons_self)
  rw [e2] at this
  exact of_decide_eq_true this
theorem mu_len {S : PS} (h : lay S = 0) : S.todo.length ≤ mu S ∧ S.made.length ≤ mu S := by
  have h1 : S.todo.length ≤ (S.todo.map bM).sum := by
    have := lay_todo h
    generalize S.todo = l at this
    induction l with
    | nil => exact Nat.zero_le _
    | cons a l ih =>
      have h2 := bM_pos (this a List.mem_cons_self).2
      have h3 := ih fun t ht => this t (List.mem_cons_of_mem _ ht)
      simp only [List.length_cons, List.map_cons, List.sum_cons]
      omega
  have h2 := sum_one S.made
  unfold mu phi
  omega
section
variable {P : Program} {w : World} {K : PySem.W.Frag} {mg : Str → Option Value} {base : Heap}
/-- the last task popped -/
theorem pop_todo {r t m : Addr} {H : Hp} {len : Nat} {S : PS} {tk : Tk} {ts : List Tk} (R : Rp K r H len S t m) (e : S.todo = tk :: ts) :
    ∃ tv v, H t = some (.lst tv) ∧ tv[tv.length - 1]? = some v ∧ Tp K H v tk.toD ∧ Rp K r (upd H t (.lst tv.dropLast)) len { S with todo := ts } t m := by
  obtain ⟨tv, ht, hT⟩ := R.todo_
  have hT2 : TpAll K H tv ((ts.map Tk.toD).reverse ++ [tk.toD]) := by rw [e, List.map_cons, List.reverse_cons] at hT; exact hT
  obtain ⟨xs, v, rfl, h1, h2⟩ := hT2.snoc_inv
  refine ⟨_, v, ht, by simp, h2, R.set_todo ?_⟩
  rw [List.dropLast_concat]
  exact h1
/-- what a run of tasks leads to -/
def RunOut (K : PySem.W.Frag) (r t m : Addr) (len : Nat) (H : Hp) (Q : VK) (E : XK) (x : Rs) : Prop := match x with
  | .err p => ∀ H' d, GoE r t m H H' → H' d = some (.xd [("at", .int (p : Nat))]) → E (.ref (CB K)) (some d) H'
  | .ok S => if S.rest = [] then ∃ d l, S.made = d :: l ∧ ∀ H' v, GoE r t m H H' → Tp K H' v d.toD → Q v H' else
      ∀ H' d, GoE r t m H H' → H' d = some (.xd [("at", .int ((nowW len S.rest).pos : Nat))]) → E (.ref (CB K)) (some d) H'
  | .stuck => False
theorem Go.toE {r t m m' : Addr} {H H' : Hp} (g : Go r t m H m' H') : GoE r t m H H' := g.keep
def spRun (K : PySem.W.Frag) : Sp := fun vs H Q E => ∃ (r t m a : Addr) (len n : Nat) (S : PS) (xs : List V) (ts : List Tk), vs = [.ref r, .ref a] ∧ Rp K r H len S t m ∧ SqL K H a xs ∧ TpAll K H xs (ts.map Tk.toD) ∧ ts.length ≤ 1000 ∧ S.todo.length ≤ 2000000 ∧
  Inv0 pT (S.add ts) ∧ mu (S.add ts) ≤ 1000000 ∧ RunOut K r t m len H Q E (runF len n (S.add ts))
theorem ok_run (T : Txt K mg w) : Good P w K mg base 11 (mR K "run") ["self", "tasks"] (spRun K) := by
  have GP := ok_plan (P := P) (base := base) T
  have GW := ok_work (P := P) (base := base) T
  have GX := ok_wrong (P := P) (base := base) T
  refine good_of T.f_run sc_run (fun _ _ _ _ _ _ us hl => match us, hl with | [_, _], _ => rfl) (fun vs H Q E h => by obtain ⟨_, _, _, _, _, _, _, _, _, rfl, _⟩ := h; rfl) (fun cdv A outer s H vs Q E hr h => ?_)
  obtain ⟨r, t, m, a, len, n, S, xs, ts, rfl, R, ha, hxs, hz1, hz2, hI, hmu, k⟩ := h
  obtain ⟨dx, wd, at', hR⟩ := R.ins_
  refine ⟨_, (pss_cons (ps_expr (pm GP (hr.mono (by decide)) T.cl T.m_plan px (pv 0) (pa_cons (pv 1) pa_nil)))
      (pss_cons (ps_while po (pt_cmpR (op_neM hr.units) (pe_fld (pv 0) rfl) (pe_lst pa_nil) (nomark _)) (pss_one (ps_expr (pm GW (hr.mono (by decide)) T.cl T.m_work px (pv 0) (pa_cons (pe_bm0 PySem.F.plainAttrs_list PySem.F.slot_list_pop PySem.F.type_list_pop mt_pop (pe_fld (pv 0) rfl)) pa_nil)))))
      (pss_cons (ps_if (pt_cmpR op_lt (pe_fld (pv 0) rfl) (pe_callB call_len (by rfl) T.z_len boot_len (pa_cons (pe_fld (pv 0) rfl) pa_nil)) (nomark _)) (pss_one (ps_expr (pm0 GX (hr.mono (by decide)) T.cl T.m_wrong px (pv 0)))) pss_nil)
      (pss_one (ps_ret (pe_bm0 PySem.F.plainAttrs_list PySem.F.slot_list_pop PySem.F.type_list_pop mt_pop (pe_fld (pv 0) rfl))))))), ?_⟩
  refine ⟨_, rfl, r, _, _, rfl, hR, rd_none, _, rfl, r, t, m, a, len, S, xs, ts, rfl, R, ha, hxs, hz1, hz2, fun H1 m1 g1 R1 => ?_⟩
  refine ⟨fun n' σ H' => ∃ S' m', σ = [some (.ref r), some (.ref a)] ∧ Go r t m H m' H' ∧ Rp K r H' len S' t m' ∧ runF len n' S' = runF len n (S.add ts) ∧ Inv0 pT S' ∧ mu S' ≤ 1000000, ⟨n, S.add ts, m1, rfl, g1, R1, rfl, hI, hmu⟩, ?_⟩
  rintro n' σ H2 ⟨S2, m2, rfl, g2, R2, hrun, hI2, hmu2⟩
  obtain ⟨dx2, wd2, at2, hR2⟩ := R2.ins_
  obtain ⟨tv, ht2, hT2⟩ := R2.todo_
  rw [← hrun] at k
  cases n' with
  | zero => exact k.elim
  | succ n' =>
  unfold runF at k
  refine ⟨_, rfl, fl_todo T hR2 ⟨Nat.zero_le _, fun q hq => ?_⟩⟩
  have s3 := same_new (o := .lst []) hq
  refine ⟨_, .list [], .lst (SqL.of (s3 _ _ ht2)) (hT2.mono (TM.same s3)).dp, .lst (SqL.of upd_same) .nil, lay_todoL hI2.ly, rfl, by show min _ 1 ≤ 60; omega, ?_⟩
  rw [eqv_nil]
  have R3 := R2.same s3
  have g3 := g2.trans (Go.same s3) R2
  have hR3 := s3 _ _ hR2
  cases e : S2.todo with
  | nil =>
    rw [e] at k
    refine ⟨_, rfl, iteF ?_⟩
    have k : RunOut K r t m len H Q E (.ok S2) := k
    obtain ⟨dx3, w3, at3, wv, ws, tv3, mv, hRR, hw, hW, hrest, hat, hwl, htt, hTT, hm, hM, _⟩ := R3.ex
    refine ⟨_, rfl, fl_at T hRR ⟨_, rfl, fl_words T hRR ⟨_, _, rfl, .inl ⟨_, SqL.of hw, rfl⟩, _, _, rfl, rfl, _, rfl, ?_⟩⟩⟩
    have hlen : wv.length = ws.length := by rw [hW.len, List.length_map]
    refine iteD (c := ((at3 : Int) < (wv.length : Int))) (fun c => ?_) (fun c => ?_)
    · have hne : S2.rest ≠ [] := by
        rw [← hrest]
        intro z
        have := List.drop_eq_nil_iff.mp z
        omega
      have k : ∀ H' d, GoE r t m H H' → H' d = some (.xd [("at", .int ((nowW len S2.rest).pos : Nat))]) → E (.ref (CB K)) (some d) H' := by
        simp only [RunOut] at k
        rw [if_neg hne] at k
        exact k
      exact ⟨_, rfl, r, _, _, rfl, hRR, rd_none, r, t, m2, len, S2, rfl, R3, fun H' d g4 hd => k H' d (g3.e (K := K) g4) hd⟩
    · have he : S2.rest = [] := by
        rw [← hrest]
        exact List.drop_eq_nil_iff.mpr (by omega)
      simp only [RunOut] at k
      rw [if_pos he] at k
      obtain ⟨d, l, e2, k⟩ := k
      obtain ⟨mv2, v, hm2, hv, tv2, R4⟩ := pop_made R3 e2
      exact ⟨_, rfl, fl_made T hRR ⟨.inl ⟨rfl, _, SqL.of hm2⟩, m2, mv2, v, rfl, rfl, hm2, hv, k _ v (g3.trans Go.upd_m R3).toE (tv2.mono (TM.lst hm2))⟩⟩
  | cons tk ts2 =>
    rw [e] at k
    have k : RunOut K r t m len H Q E ((stepT len tk { S2 with todo := ts2 }).bind (runF len n')) := k
    have hne : ((tk :: ts2).map Tk.toD).reverse.isEmpty = false := by simp
    rw [hne]
    refine ⟨_, rfl, iteT ⟨_, fun σ' H' h => h, ?_⟩⟩
    obtain ⟨tv4, v, ht4, hv4, tp4, R4⟩ := pop_todo R3 e
    have hR4 : (upd (upd H2 q (.lst [])) t (.lst tv4.dropLast)) r = some (.ins (CR K) dx2 (rdF wd2 at2 len t m2 S2.many)) := by rw [upd_ne R3.hs.rt.1]; exact hR3
    obtain ⟨p, rfl, hp⟩ := tk_vs (tp4.mono (TM.lst (o := .lst tv4.dropLast) ht4))
    have g4 := g3.trans (Go.upd_t (o := .lst tv4.dropLast)) R3
    have hlt := lay_todo hI2.ly tk (by rw [e]; exact List.mem_cons_self)
    have hml := mu_len hI2.ly
    have htl : S2.todo.length = ts2.length + 1 := by rw [e]; rfl
    refine ⟨_, rfl, r, _, _, rfl, hR3, rd_none, _, rfl, fl_todo T hR3 ⟨.inl ⟨rfl, _, SqL.of ht4⟩, t, tv4, _, rfl, rfl, ht4, hv4, ?_⟩⟩
    refine ⟨r, t, m2, p, len, { S2 with todo := ts2 }, tk, rfl, R4, ⟨by show ts2.length ≤ _; omega, by show S2.made.length ≤ _; omega⟩, hp, tk_ok hlt.1, (show MOk S2.made from lay_made hI2.ly), fun _ => told_of (S := { S2 with todo := ts2 }) hI2.wd, ?_⟩
    cases es : stepT len tk { S2 with todo := ts2 } with
    | stuck => rw [es] at k; exact k.elim
    | err pp =>
      rw [es] at k
      have k : ∀ H' d, GoE r t m H H' → H' d = some (.xd [("at", .int (pp : Nat))]) → E (.ref (CB K)) (some d) H' := k
      exact fun H' d g5 hd => k H' d (g4.e (K := K) g5) hd
    | ok S5 =>
      rw [es] at k
      have k : RunOut K r t m len H Q E (runF len n' S5) := k
      obtain ⟨I5, h5, _⟩ := inv_step e hI2 es
      have hrun5 : runF len n' S5 = runF len n (S.add ts) := by
        rw [← hrun, runF_cons e, es]
        rfl
      exact fun H5 m5 g5 R5 => ⟨n', by omega, S5, m5, rfl, g4.trans g5 R4, R5, hrun5, I5, by omega⟩
end
end KW

/-! part KTok -/
set_option maxHeartbeats 4000000
/-! The words of a text, from its code points. Plain Lean. -/
namespace KW
open PySem PySem.Spec PyProof.Rows L2 KM SX
def smallT : Str := "abcdefghijklmnopqrstuvwxyz"
def figT : Str := "0123456789"
def marksT : Str := "()[],.:=&|~"
def smallL : List Nat := smallT.cps.toList
def figL : List Nat := figT.cps.toList
def marksL : List Nat := marksT.cps.toList
def runL : List Nat := (smallT ++ figT ++ ("X" : Str)).cps.toList
def isSmall (c : Nat) : Bool := decide (c ∈ smallL)
def isFig (c : Nat) : Bool := decide (c ∈ figL)
def isRun (c : Nat) : Bool := decide (c ∈ runL)
def isMark (c : Nat) : Bool := decide (c ∈ marksL)
def isCalled : List Nat → Bool
  | [] => false
  | c :: r => decide ((c :: r).length ≤ 10) && isSmall c && !decide (S (c :: r) ∈ toldL) && !decide (S (c :: r) ∈ formsL) && (c :: r).all fun d => decide (d ∈ (smallT ++ figT).cps.toList)
/-- the text of a number -/
def isNum : List Nat → Bool
  | [] => false
  | c :: r => decide ((c :: r).length ≤ 30) && !(decide (c = 48) && !decide (c :: r = [48])) && (c :: r).all isFig
def numVal (l : List Nat) : Nat := NumText.digitsVal l
def wordOf (l : List Nat) : Wd :=
  if S l ∈ toldAll then .told (S l) else if isCalled l = true then .name (S l) else if isNum l = true then .num (numVal l) else
  if l.head? = some 88 ∧ isNum l.tail = true then .var (numVal l.tail) else .bad
/-- a word with its own text -/
structure Tok where
  w : Wd
  src : List Nat
  pos : Nat
def Tok.pw (t : Tok) : PW := ⟨t.w, t.pos⟩
def scan : Nat → Nat → List Nat → List Tok
  | 0, _, _ => []
  | _ + 1, _, [] => []
  | n + 1, at', c :: r =>
    if isRun c = true then (if wordOf ((c :: r).takeWhile isRun) = .bad then [⟨.bad, (c :: r).takeWhile isRun, at'⟩]
      else ⟨wordOf ((c :: r).takeWhile isRun), (c :: r).takeWhile isRun, at'⟩ :: scan n (at' + ((c :: r).takeWhile isRun).length) ((c :: r).dropWhile isRun))
    else if c = 45 ∧ r.head? = some 62 then ⟨.mark "->", [45, 62], at'⟩ :: scan n (at' + 2) r.tail
    else if isMark c = true then ⟨.mark (S [c]), [c], at'⟩ :: scan n (at' + 1) r
    else if c = 32 then scan n (at' + 1) r
    else [⟨.bad, [c], at'⟩]
def toks (l : List Nat) : List Tok := scan l.length 0 l
theorem dropWhile_len (p : Nat → Bool) (l : List Nat) : (l.takeWhile p).length + (l.dropWhile p).length = l.length := by
  rw [← List.length_append, List.takeWhile_append_dropWhile]
theorem takeWhile_pos {p : Nat → Bool} {c : Nat} {r : List Nat} (h : p c = true) : 1 ≤ ((c :: r).takeWhile p).length := by
  rw [List.takeWhile_cons, if_pos h]; simp
theorem scan_fuel : ∀ (n m : Nat) (at' : Nat) (l : List Nat), l.length ≤ n → l.length ≤ m → scan n at' l = scan m at' l
  | 0, 0, _, _, _, _ => rfl
  | 0, m + 1, at', l, h, _ => by
    have : l = [] := List.eq_nil_of_length_eq_zero (by omega)
    subst this
    rfl
  | n + 1, 0, at', l, _, h => by
    have : l = [] := List.eq_nil_of_length_eq_zero (by omega)
    subst this
    rfl
  | n + 1, m + 1, at', [], _, _ => rfl
  | n + 1, m + 1, at', c :: r, h1, h2 => by
    have e1 : ((c :: r).dropWhile isRun).length ≤ r.length ∨ ¬ isRun c = true := by
      by_cases hc : isRun c = true
      · have := takeWhile_pos (r := r) hc
        have := dropWhile_len isRun (c :: r)
        simp only [List.length_cons] at this
        left; omega
      · exact .inr hc
    simp only [List.length_cons] at h1 h2
    have ht : r.tail.length ≤ r.length := by cases r <;> simp
    unfold scan
    split
    · rename_i hc
      rcases e1 with e1 | e1
      · rw [scan_fuel n m _ _ (by omega) (by omega)]
      · exact absurd hc e1
    · rw [scan_fuel n m _ r.tail (by omega) (by omega), scan_fuel n m _ r (by omega) (by omega)]
/-- one word of a text, and what is left behind it -/
theorem scan_cons {n at' c : Nat} {r : List Nat} (hn : (c :: r).length ≤ n) : scan n at' (c :: r) =
    if isRun c = true then (if wordOf ((c :: r).takeWhile isRun) = .bad then [⟨.bad, (c :: r).takeWhile isRun, at'⟩]
      else ⟨wordOf ((c :: r).takeWhile isRun), (c :: r).takeWhile isRun, at'⟩ :: scan ((c :: r).dropWhile isRun).length (at' + ((c :: r).takeWhile isRun).length) ((c :: r).dropWhile isRun))
    else if c = 45 ∧ r.head? = some 62 then ⟨.mark "->", [45, 62], at'⟩ :: scan r.tail.length (at' + 2) r.tail
    else if isMark c = true then ⟨.mark (S [c]), [c], at'⟩ :: scan r.length (at' + 1) r
    else if c = 32 then scan r.length (at' + 1) r
    else [⟨.bad, [c], at'⟩] := by
  cases n with
  | zero => simp at hn
  | succ n =>
    simp only [List.length_cons] at hn
    have ht : r.tail.length ≤ r.length := by cases r <;> simp
    conv => lhs; unfold scan
    split
    · rename_i hc
      have h1 := takeWhile_pos (r := r) hc
      have h2 := dropWhile_len isRun (c :: r)
      simp only [List.length_cons] at h2
      rw [scan_fuel n _ _ _ (by omega) (Nat.le_refl _)]
    · rw [scan_fuel n _ _ r.tail (by omega) (Nat.le_refl _), scan_fuel n _ _ r (by omega) (Nat.le_refl _)]
/-! ### signs of words may be compared -/
theorem runOk {c : Nat} (h : isRun c = true) : c < 0x110000 := by
  have : ∀ d ∈ runL, d < 0x110000 := by decide +kernel
  exact this c (of_decide_eq_true h)
theorem markOk {c : Nat} (h : isMark c = true) : c < 0x110000 := by
  have : ∀ d ∈ marksL, d < 0x110000 := by decide +kernel
  exact this c (of_decide_eq_true h)
theorem strOk_S {l : List Nat} (h : ∀ c ∈ l, c < 0x110000) : PyData.strOk (S l) = true := by
  unfold PyData.strOk
  rw [← Array.all_toList]
  exact List.all_eq_true.mpr fun c hc => decide_eq_true (h c hc)
theorem wordOk {l : List Nat} (h : ∀ c ∈ l, isRun c = true) : (wordOf l).val.canLay0 = true := by
  have hs : PyData.strOk (S l) = true := strOk_S fun c hc => runOk (h c hc)
  unfold wordOf
  split
  · simpa only [Wd.val, PyData.canLay0] using hs
  · split
    · simpa only [Wd.val, PyData.canLay0] using hs
    · split
      · rfl
      · split
        · rfl
        · simp only [Wd.val, PyData.canLay0]; decide +kernel
theorem takeWhile_all (p : Nat → Bool) (l : List Nat) : ∀ c ∈ l.takeWhile p, p c = true := by
  induction l with
  | nil => intro c h; cases h
  | cons a l ih =>
    intro c h
    rw [List.takeWhile_cons] at h
    split at h
    · rename_i ha
      rcases List.mem_cons.mp h with rfl | h
      · exact ha
      · exact ih c h
    · cases h
theorem scan_ok : ∀ (n at' : Nat) (l : List Nat), ∀ t ∈ scan n at' l, t.w.val.canLay0 = true
  | 0, _, _, t, h => by cases h
  | n + 1, _, [], t, h => by cases h
  | n + 1, at', c :: r, t, h => by
    have bad : (Wd.bad).val.canLay0 = true := by simp only [Wd.val, PyData.canLay0]; decide +kernel
    unfold scan at h
    split at h
    · split at h
      · rcases List.mem_cons.mp h with rfl | h
        · exact bad
        · cases h
      · rcases List.mem_cons.mp h with rfl | h
        · exact wordOk (takeWhile_all isRun _)
        · exact scan_ok n _ _ t h
    · split at h
      · rcases List.mem_cons.mp h with rfl | h
        · show PyData.canLay0 (.str "->") = true
          simp only [PyData.canLay0]; decide +kernel
        · exact scan_ok n _ _ t h
      · split at h
        · rename_i hm
          rcases List.mem_cons.mp h with rfl | h
          · show PyData.canLay0 (.str (S [c])) = true
            simp only [PyData.canLay0]
            exact strOk_S fun d hd => by rw [List.mem_singleton.mp hd]; exact markOk hm
          · exact scan_ok n _ _ t h
        · split at h
          · exact scan_ok n _ _ t h
          · rcases List.mem_cons.mp h with rfl | h
            · exact bad
            · cases h
/-- told words are of the list -/
theorem word_told {l : List Nat} {x : Str} (h : wordOf l = .told x) : x ∈ toldAll := by
  unfold wordOf at h
  split at h
  · rename_i q
    injection h with h
    exact h ▸ q
  · split at h
    · cases h
    · split at h
      · cases h
      · split at h <;> cases h
theorem scan_told : ∀ (n at' : Nat) (l : List Nat), ∀ t ∈ scan n at' l, ∀ x, t.w = .told x → x ∈ toldAll
  | 0, _, _, t, h, _, _ => by cases h
  | n + 1, _, [], t, h, _, _ => by cases h
  | n + 1, at', c :: r, t, h, x, hx => by
    unfold scan at h
    split at h
    · split at h
      · rcases List.mem_cons.mp h with rfl | h
        · cases hx
        · cases h
      · rcases List.mem_cons.mp h with rfl | h
        · exact word_told hx
        · exact scan_told n _ _ t h x hx
    · split at h
      · rcases List.mem_cons.mp h with rfl | h
        · cases hx
        · exact scan_told n _ _ t h x hx
      · split at h
        · rcases List.mem_cons.mp h with rfl | h
          · cases hx
          · exact scan_told n _ _ t h x hx
        · split at h
          · exact scan_told n _ _ t h x hx
          · rcases List.mem_cons.mp h with rfl | h
            · cases hx
            · cases h
theorem scan_len : ∀ (n at' : Nat) (l : List Nat), (scan n at' l).length ≤ n
  | 0, _, _ => Nat.le_refl _
  | n + 1, _, [] => Nat.zero_le _
  | n + 1, at', c :: r => by
    unfold scan
    split
    · split
      · simp
      · have := scan_len n (at' + ((c :: r).takeWhile isRun).length) ((c :: r).dropWhile isRun)
        simp only [List.length_cons]; omega
    · split
      · have := scan_len n (at' + 2) r.tail
        simp only [List.length_cons]; omega
      · split
        · have := scan_len n (at' + 1) r
          simp only [List.length_cons]; omega
        · split
          · have := scan_len n (at' + 1) r; omega
          · simp
end KW

/-! part KScan -/
set_option maxHeartbeats 4000000
/-! Words of a slice are those of the whole text. Plain Lean. -/
namespace KW
open PySem PySem.Spec PyProof.Rows L2 KM SX
def Tok.up (k : Nat) (t : Tok) : Tok := ⟨t.w, t.src, k + t.pos⟩
theorem scan_shift : ∀ (n k at' : Nat) (l : List Nat), scan n (k + at') l = (scan n at' l).map (Tok.up k)
  | 0, _, _, _ => rfl
  | n + 1, _, _, [] => rfl
  | n + 1, k, at', c :: r => by
    have h1 := scan_shift n k (at' + ((c :: r).takeWhile isRun).length) ((c :: r).dropWhile isRun)
    have h2 := scan_shift n k (at' + 2) r.tail
    have h3 := scan_shift n k (at' + 1) r
    unfold scan
    rw [Nat.add_assoc k at' _, Nat.add_assoc k at' 2, Nat.add_assoc k at' 1, h1, h2, h3]
    split
    · split <;> rfl
    · split
      · rfl
      · split
        · rfl
        · split <;> rfl
theorem dropW (p : Nat → Bool) (l : List Nat) : l.drop (l.takeWhile p).length = l.dropWhile p := by
  induction l with
  | nil => rfl
  | cons a l ih =>
    rw [List.takeWhile_cons, List.dropWhile_cons]
    split
    · rw [List.length_cons, List.drop_succ_cons, ih]
    · rfl
theorem takeW_app {p : Nat → Bool} {a b : List Nat} (ha : ∀ c ∈ a, p c = true) (hb : ∀ c, b.head? = some c → p c = false) : (a ++ b).takeWhile p = a ∧ (a ++ b).dropWhile p = b := by
  induction a with
  | nil =>
    cases b with
    | nil => exact ⟨rfl, rfl⟩
    | cons c r =>
      have := hb c rfl
      simp [List.takeWhile_cons, List.dropWhile_cons, this]
  | cons c a ih =>
    obtain ⟨h1, h2⟩ := ih fun d hd => ha d (List.mem_cons_of_mem _ hd)
    have hc := ha c List.mem_cons_self
    simp [List.takeWhile_cons, List.dropWhile_cons, hc, h1, h2]
theorem dropW_head {p : Nat → Bool} {l : List Nat} {c : Nat} (h : (l.dropWhile p).head? = some c) : p c = false := by
  induction l with
  | nil => cases h
  | cons a l ih =>
    rw [List.dropWhile_cons] at h
    split at h
    · exact ih h
    · rename_i q
      have e : a = c := by simpa using h
      subst e
      simpa using q
theorem head_take {l : List Nat} {j c : Nat} (h : (l.take j).head? = some c) : l.head? = some c := by
  cases l with
  | nil => simp at h
  | cons a l =>
    cases j with
    | zero => simp at h
    | succ j => simpa using h
/-- scan with just enough turns -/
def sc (at' : Nat) (l : List Nat) : List Tok := scan l.length at' l
theorem sc_nil (at' : Nat) : sc at' [] = [] := rfl
theorem sc_cons (at' c : Nat) (r : List Nat) : sc at' (c :: r) =
    if isRun c = true then (if wordOf ((c :: r).takeWhile isRun) = .bad then [⟨.bad, (c :: r).takeWhile isRun, at'⟩]
      else ⟨wordOf ((c :: r).takeWhile isRun), (c :: r).takeWhile isRun, at'⟩ :: sc (at' + ((c :: r).takeWhile isRun).length) ((c :: r).dropWhile isRun))
    else if c = 45 ∧ r.head? = some 62 then ⟨.mark "->", [45, 62], at'⟩ :: sc (at' + 2) r.tail
    else if isMark c = true then ⟨.mark (S [c]), [c], at'⟩ :: sc (at' + 1) r
    else if c = 32 then sc (at' + 1) r
    else [⟨.bad, [c], at'⟩] := scan_cons (Nat.le_refl _)
theorem not45 {c : Nat} (h : isMark c = true) : c ≠ 45 := by
  have : ∀ d ∈ marksL, d ≠ 45 := by decide +kernel
  exact this c (of_decide_eq_true h)
theorem sc_split : ∀ (n : Nat) (at' : Nat) (l : List Nat) (A B : List Tok) (t : Tok), l.length ≤ n → sc at' l = A ++ t :: B →
    ∃ j, t.pos = at' + j ∧ j ≤ l.length ∧ sc t.pos (l.drop j) = t :: B ∧ sc at' (l.take j) = A ∧ (t.w ≠ .bad → sc (t.pos + t.src.length) (l.drop (j + t.src.length)) = B)
  | _, at', [], A, B, t, _, h => by rw [sc_nil] at h; cases A <;> cases h
  | 0, at', c :: r, A, B, t, hn, h => by simp at hn
  | n + 1, at', c :: r, A, B, t, hn, h => by
    have h0 := h
    simp only [List.length_cons] at hn
    rw [sc_cons] at h
    have single : ∀ u : Tok, u.pos = at' → u.w = .bad → [u] = A ++ t :: B → ∃ j, t.pos = at' + j ∧ j ≤ (c :: r).length ∧ sc t.pos ((c :: r).drop j) = t :: B ∧ sc at' ((c :: r).take j) = A ∧ (t.w ≠ .bad → sc (t.pos + t.src.length) ((c :: r).drop (j + t.src.length)) = B) := by
      intro u hu hb e
      cases A with
      | nil =>
        injection e with e1 e2
        subst e1
        refine ⟨0, hu, Nat.zero_le _, ?_, rfl, fun z => absurd hb z⟩
        rw [hu]
        exact h0
      | cons a A =>
        injection e with e1 e2
        cases A <;> cases e2
    have first : ∀ (u : Tok) (R : List Tok), u.pos = at' → u :: R = A ++ t :: B → A = [] → (t.w ≠ .bad → sc (at' + u.src.length) ((c :: r).drop u.src.length) = R) → ∃ j, t.pos = at' + j ∧ j ≤ (c :: r).length ∧ sc t.pos ((c :: r).drop j) = t :: B ∧ sc at' ((c :: r).take j) = A ∧ (t.w ≠ .bad → sc (t.pos + t.src.length) ((c :: r).drop (j + t.src.length)) = B) := by
      intro u R hu e hA k
      subst hA
      injection e with e1 e2
      subst e1 e2
      refine ⟨0, hu, Nat.zero_le _, by rw [hu]; exact h0, rfl, fun z => ?_⟩
      rw [Nat.zero_add, hu]
      exact k z
    split at h
    · rename_i hc
      have hk := takeWhile_pos (r := r) hc
      have hlen := dropWhile_len isRun (c :: r)
      simp only [List.length_cons] at hlen
      split at h
      · exact single _ rfl rfl h
      · rename_i hb
        cases A with
        | nil => exact first _ _ rfl h rfl (fun _ => by rw [dropW])
        | cons a A =>
          injection h with ea e2
          subst ea
          obtain ⟨j, hp, hj, q1, q2, q3⟩ := sc_split n _ ((c :: r).dropWhile isRun) A B t (by omega) e2
          refine ⟨((c :: r).takeWhile isRun).length + j, by omega, by simp only [List.length_cons]; omega, ?_, ?_, fun z => ?_⟩
          · rw [← List.drop_drop, dropW]; exact q1
          · have e3 : (c :: r).take (((c :: r).takeWhile isRun).length + j) = (c :: r).takeWhile isRun ++ ((c :: r).dropWhile isRun).take j := by
              conv => lhs; rw [← List.takeWhile_append_dropWhile (p := isRun) (l := c :: r)]
              rw [List.take_append, List.take_of_length_le (by rw [List.takeWhile_append_dropWhile]; omega)]
              congr 1
              rw [List.takeWhile_append_dropWhile, Nat.add_sub_cancel_left]
            rw [e3]
            obtain ⟨w1, w2⟩ := takeW_app (p := isRun) (a := (c :: r).takeWhile isRun) (b := ((c :: r).dropWhile isRun).take j) (takeWhile_all isRun _) (fun d hd => dropW_head (head_take hd))
            obtain ⟨r2, hr2⟩ : ∃ r2, (c :: r).takeWhile isRun = c :: r2 := ⟨r.takeWhile isRun, by rw [List.takeWhile_cons, if_pos hc]⟩
            have e4 : (c :: r).takeWhile isRun ++ ((c :: r).dropWhile isRun).take j = c :: (r2 ++ ((c :: r).dropWhile isRun).take j) := by rw [hr2]; rfl
            rw [e4] at w1 w2 ⊢
            rw [sc_cons, if_pos hc, w1, if_neg hb, w2, q2]
          · rw [Nat.add_assoc, ← List.drop_drop, dropW]; exact q3 z
    · rename_i hc
      split at h
      · rename_i harr
        obtain ⟨rfl, hr⟩ := harr
        obtain ⟨r2, rfl⟩ : ∃ r2, r = 62 :: r2 := by
          cases r with
          | nil => cases hr
          | cons d r2 => exact ⟨r2, by rw [List.head?_cons] at hr; injection hr with hr; rw [hr]⟩
        simp only [List.length_cons] at hn
        cases A with
        | nil => exact first _ _ rfl h rfl (fun _ => rfl)
        | cons a A =>
          injection h with ea e2
          subst ea
          obtain ⟨j, hp, hj, q1, q2, q3⟩ := sc_split n _ r2 A B t (by omega) e2
          refine ⟨2 + j, by omega, by simp only [List.length_cons]; omega, ?_, ?_, fun z => ?_⟩
          · rw [← List.drop_drop]; exact q1
          · have e3 : (45 :: 62 :: r2).take (2 + j) = 45 :: 62 :: r2.take j := by rw [Nat.add_comm]; rfl
            rw [e3, sc_cons, if_neg hc, if_pos ⟨rfl, rfl⟩]
            show _ :: sc (at' + 2) (r2.take j) = _
            rw [q2]
          · rw [Nat.add_assoc, ← List.drop_drop]; exact q3 z
      · rename_i harr
        split at h
        · rename_i hm
          cases A with
          | nil => exact first _ _ rfl h rfl (fun _ => rfl)
          | cons a A =>
            injection h with ea e2
            subst ea
            obtain ⟨j, hp, hj, q1, q2, q3⟩ := sc_split n _ r A B t (by omega) e2
            refine ⟨1 + j, by omega, by simp only [List.length_cons]; omega, ?_, ?_, fun z => ?_⟩
            · rw [← List.drop_drop]; exact q1
            · have e3 : (c :: r).take (1 + j) = c :: r.take j := by rw [Nat.add_comm]; rfl
              rw [e3, sc_cons, if_neg hc, if_neg (fun z => not45 hm z.1), if_pos hm, q2]
            · rw [Nat.add_assoc, ← List.drop_drop]; exact q3 z
        · rename_i hm
          split at h
          · rename_i h32
            subst h32
            obtain ⟨j, hp, hj, q1, q2, q3⟩ := sc_split n _ r A B t (by omega) h
            refine ⟨1 + j, by omega, by simp only [List.length_cons]; omega, ?_, ?_, fun z => ?_⟩
            · rw [← List.drop_drop]; exact q1
            · have e3 : (32 :: r).take (1 + j) = 32 :: r.take j := by rw [Nat.add_comm]; rfl
              rw [e3, sc_cons, if_neg hc, if_neg (by simp), if_neg hm, if_pos rfl, q2]
            · rw [Nat.add_assoc, ← List.drop_drop]; exact q3 z
          · exact single _ rfl rfl h
theorem sc_up (k : Nat) (l : List Nat) : sc k l = (toks l).map (Tok.up k) := scan_shift l.length k 0 l
/-- the words of a text, cut at a word -/
theorem toks_split {l : List Nat} {A B : List Tok} {t : Tok} (h : toks l = A ++ t :: B) : t.pos ≤ l.length ∧ (toks (l.drop t.pos)).map (Tok.up t.pos) = t :: B ∧ toks (l.take t.pos) = A ∧
    (t.w ≠ .bad → (toks (l.drop (t.pos + t.src.length))).map (Tok.up (t.pos + t.src.length)) = B) := by
  obtain ⟨j, hp, hj, q1, q2, q3⟩ := sc_split l.length 0 l A B t (Nat.le_refl _) h
  rw [Nat.zero_add] at hp
  subst hp
  refine ⟨hj, by rw [← sc_up]; exact q1, q2, fun z => by rw [← sc_up]; exact q3 z⟩
/-- the words between two words -/
theorem toks_slice {l : List Nat} {A M B : List Tok} {u t : Tok} {D : List Tok} (h : toks l = A ++ (M ++ t :: B)) (hu : M ++ t :: B = u :: D) :
    u.pos ≤ t.pos ∧ (toks ((l.drop u.pos).take (t.pos - u.pos))).map (Tok.up u.pos) = M := by
  rw [hu] at h
  obtain ⟨h1, h2, h3, _⟩ := toks_split h
  rw [← hu] at h2
  obtain ⟨M', T', e, hM, hT⟩ := List.map_eq_append_iff.mp h2
  obtain ⟨t', B', rfl, ht, hB⟩ := List.map_eq_cons_iff.mp hT
  obtain ⟨g1, g2, g3, _⟩ := toks_split e
  have ep : t.pos = u.pos + t'.pos := by rw [← ht]; rfl
  refine ⟨by omega, ?_⟩
  rw [show t.pos - u.pos = t'.pos by omega, g3, hM]
/-! ### what a word is -/
def wordL (x : List Nat) : Wd := match x with
  | [] => .bad
  | c :: r => if isRun c = true then wordOf (c :: r) else if c = 45 ∧ r = [62] then .mark "->" else if isMark c = true ∧ r = [] then .mark (S [c]) else .bad
theorem scan_word : ∀ (n at' : Nat) (l : List Nat), ∀ t ∈ scan n at' l, t.w = wordL t.src ∧ t.src ≠ [] ∧ ((∀ c ∈ t.src, isRun c = true) ∨ t.src = [45, 62] ∨ t.src.length = 1)
  | 0, _, _, t, h => by cases h
  | n + 1, _, [], t, h => by cases h
  | n + 1, at', c :: r, t, h => by
    have ne : isRun c = true → (c :: r).takeWhile isRun = c :: r.takeWhile isRun := fun hc => by rw [List.takeWhile_cons, if_pos hc]
    unfold scan at h
    split at h
    · rename_i hc
      split at h
      · rename_i hb
        obtain rfl := List.mem_singleton.mp h
        refine ⟨?_, by simp only; rw [ne hc]; simp, .inl (takeWhile_all isRun _)⟩
        simp only
        rw [ne hc] at hb ⊢
        unfold wordL
        simp only
        rw [if_pos hc, hb]
      · rename_i hb
        rcases List.mem_cons.mp h with rfl | h
        · refine ⟨?_, by simp only; rw [ne hc]; simp, .inl (takeWhile_all isRun _)⟩
          simp only
          rw [ne hc]
          unfold wordL
          simp only
          rw [if_pos hc]
        · exact scan_word n _ _ t h
    · rename_i hc
      split at h
      · rcases List.mem_cons.mp h with rfl | h
        · exact ⟨show Wd.mark "->" = wordL [45, 62] by decide +kernel, by simp, .inr (.inl rfl)⟩
        · exact scan_word n _ _ t h
      · rename_i ha
        split at h
        · rename_i hm
          rcases List.mem_cons.mp h with rfl | h
          · refine ⟨?_, by simp, .inr (.inr rfl)⟩
            show _ = wordL [c]
            unfold wordL
            simp only
            rw [if_neg hc, if_neg (by simp), if_pos ⟨hm, trivial⟩]
          · exact scan_word n _ _ t h
        · rename_i hm
          split at h
          · exact scan_word n _ _ t h
          · obtain rfl := List.mem_singleton.mp h
            refine ⟨?_, by simp, .inr (.inr rfl)⟩
            show _ = wordL [c]
            unfold wordL
            simp only
            rw [if_neg hc, if_neg (by simp), if_neg (fun z => hm z.1)]
theorem wordOf_src {x : List Nat} {y : Str} (h : wordOf x = .told y ∨ wordOf x = .name y ∨ wordOf x = .mark y) : y = S x := by
  unfold wordOf at h
  split at h
  · rcases h with h | h | h
    · injection h with h; exact h.symm
    · cases h
    · cases h
  · split at h
    · rcases h with h | h | h
      · cases h
      · injection h with h; exact h.symm
      · cases h
    · split at h
      · rcases h with h | h | h <;> cases h
      · split at h <;> (rcases h with h | h | h <;> cases h)
theorem wordL_src {x : List Nat} {y : Str} (h : wordL x = .told y ∨ wordL x = .name y ∨ wordL x = .mark y) : y = S x := by
  unfold wordL at h
  split at h
  · rcases h with h | h | h <;> cases h
  · split at h
    · exact wordOf_src h
    · split at h
      · rename_i e
        rcases h with h | h | h
        · cases h
        · cases h
        · injection h with h
          rw [e.1, e.2, ← h]
          rfl
      · split at h
        · rename_i e
          rcases h with h | h | h
          · cases h
          · cases h
          · injection h with h
            rw [e.2, ← h]
        · rcases h with h | h | h <;> cases h
/-! ### weights of words by their signs -/
theorem scan_sum {f : Wd → Nat} {g : Nat → Nat} (H : ∀ x, x ≠ [] → ((∀ c ∈ x, isRun c = true) ∨ x = [45, 62] ∨ x.length = 1) → f (wordL x) ≤ (x.map g).sum) : ∀ (n at' : Nat) (l : List Nat), ((scan n at' l).map fun t => f t.w).sum ≤ (l.map g).sum
  | 0, _, _ => by simp [scan]
  | n + 1, _, [] => by simp [scan]
  | n + 1, at', c :: r => by
    have h1 := scan_sum H n (at' + ((c :: r).takeWhile isRun).length) ((c :: r).dropWhile isRun)
    have h2 := scan_sum H n (at' + 2) r.tail
    have h3 := scan_sum H n (at' + 1) r
    have ne : isRun c = true → (c :: r).takeWhile isRun = c :: r.takeWhile isRun := fun hc => by rw [List.takeWhile_cons, if_pos hc]
    have e1 : ((c :: r).map g).sum = (((c :: r).takeWhile isRun).map g).sum + (((c :: r).dropWhile isRun).map g).sum := by
      conv => lhs; rw [← List.takeWhile_append_dropWhile (p := isRun) (l := c :: r)]
      rw [List.map_append, List.sum_append]
    have key : ∀ t ∈ scan (n + 1) at' (c :: r), f t.w ≤ (t.src.map g).sum := fun t ht => by
      obtain ⟨a, b, d⟩ := scan_word _ _ _ t ht
      rw [a]
      exact H _ b d
    unfold scan at key ⊢
    split
    · rename_i hc
      rw [if_pos hc] at key
      split
      · rename_i hb
        rw [if_pos hb] at key
        have := key _ List.mem_cons_self
        simp only [List.map_cons, List.map_nil, List.sum_cons, List.sum_nil] at this e1 ⊢
        omega
      · rename_i hb
        rw [if_neg hb] at key
        have := key _ List.mem_cons_self
        simp only [List.map_cons, List.sum_cons] at this e1 ⊢
        omega
    · rename_i hc
      rw [if_neg hc] at key
      split
      · rename_i ha
        rw [if_pos ha] at key
        have := key _ List.mem_cons_self
        obtain ⟨rfl, hr⟩ := ha
        obtain ⟨r2, rfl⟩ : ∃ r2, r = 62 :: r2 := by
          cases r with
          | nil => cases hr
          | cons d r2 => exact ⟨r2, by rw [List.head?_cons] at hr; injection hr with hr; rw [hr]⟩
        simp only [List.map_cons, List.map_nil, List.sum_cons, List.sum_nil, List.tail_cons] at this h2 ⊢
        omega
      · rename_i ha
        rw [if_neg ha] at key
        split
        · rename_i hm
          rw [if_pos hm] at key
          have := key _ List.mem_cons_self
          simp only [List.map_cons, List.map_nil, List.sum_cons, List.sum_nil] at this ⊢
          omega
        · rename_i hm
          rw [if_neg hm] at key
          split
          · simp only [List.map_cons, List.sum_cons]
            omega
          · rename_i h32
            rw [if_neg h32] at key
            have := key _ List.mem_cons_self
            simp only [List.map_cons, List.map_nil, List.sum_cons, List.sum_nil] at this ⊢
            omega
/-- signs by which a thing may stand deeper -/
def deepC : List Nat := [40, 61, 126, 58, 62, 124, 38]
def gBc (c : Nat) : Nat := 2 + (if c ∈ deepC then 10 else 0)
theorem sum_ge {g : Nat → Nat} {k : Nat} (h : ∀ c, k ≤ g c) : ∀ x : List Nat, k * x.length ≤ (x.map g).sum
  | [] => by simp
  | c :: r => by
    have := sum_ge h r
    have := h c
    simp only [List.map_cons, List.sum_cons, List.length_cons, Nat.mul_add]
    omega
theorem wordOf_nomark {x : List Nat} {y : Str} : wordOf x ≠ .mark y := by
  unfold wordOf
  split
  · simp
  · split
    · simp
    · split
      · simp
      · split <;> simp
theorem aB_run {x : List Nat} : aB (wordOf x) ≤ 2 := by
  have := fun y => wordOf_nomark (x := x) (y := y)
  cases e : wordOf x with
  | mark y => exact absurd e (this y)
  | fin => exact Nat.zero_le _
  | _ => exact Nat.le_refl 2
theorem scan_aB (n at' : Nat) (l : List Nat) : ((scan n at' l).map fun t => aB t.w).sum ≤ (l.map gBc).sum := by
  refine scan_sum (fun x hx hh => ?_) n at' l
  have h2 := sum_ge (g := gBc) (k := 2) (fun c => by unfold gBc; omega) x
  have hl : 1 ≤ x.length := by cases x with
    | nil => exact absurd rfl hx
    | cons c r => simp
  unfold wordL
  split
  · exact absurd rfl hx
  · rename_i c r
    split
    · have := aB_run (x := c :: r)
      omega
    · split
      · rename_i e
        rw [e.1, e.2]
        decide +kernel
      · split
        · rename_i e
          obtain ⟨hm, rfl⟩ := e
          have : ∀ d ∈ marksL, aB (.mark (S [d])) ≤ gBc d := by decide +kernel
          have := this c (of_decide_eq_true hm)
          simpa using this
        · show 2 ≤ _
          omega
theorem digits_fold : ∀ (x : List Nat) (acc : Nat), (∀ c ∈ x, isFig c = true) → x.foldl (fun acc c => acc * 10 + (c - 48)) acc < (acc + 1) * 10 ^ x.length
  | [], acc, _ => by simp
  | c :: r, acc, h => by
    have hc : c ≤ 57 := by
      have : ∀ d ∈ figL, d ≤ 57 := by decide +kernel
      exact this c (of_decide_eq_true (h c List.mem_cons_self))
    have ih := digits_fold r (acc * 10 + (c - 48)) fun d hd => h d (List.mem_cons_of_mem _ hd)
    rw [List.foldl_cons, List.length_cons, Nat.pow_succ]
    have : (acc * 10 + (c - 48) + 1) * 10 ^ r.length ≤ ((acc + 1) * 10) * 10 ^ r.length := Nat.mul_le_mul_right _ (by omega)
    have e : (acc + 1) * (10 ^ r.length * 10) = ((acc + 1) * 10) * 10 ^ r.length := by rw [Nat.mul_comm (10 ^ r.length) 10, Nat.mul_assoc]
    omega
theorem digits_lt (x : List Nat) (h : ∀ c ∈ x, isFig c = true) : NumText.digitsVal x < 10 ^ x.length := by
  have := digits_fold x 0 h
  rw [Nat.zero_add, Nat.one_mul] at this
  exact this
theorem num_sz {x : List Nat} (h : isNum x = true) : sz (.int (numVal x : Nat)) = 0 := by
  cases x with
  | nil => cases h
  | cons c r =>
    have h' : (decide ((c :: r).length ≤ 30) && !(decide (c = 48) && !decide (c :: r = [48])) && (c :: r).all isFig) = true := h
    simp only [Bool.and_eq_true, decide_eq_true_eq] at h'
    have hv := digits_lt (c :: r) (fun d hd => List.all_eq_true.mp h'.2 d hd)
    have h30 : (10 : Nat) ^ (c :: r).length ≤ 10 ^ 30 := Nat.pow_le_pow_right (by decide) h'.1.1
    have hlt : numVal (c :: r) < 10 ^ 30 := Nat.lt_of_lt_of_le hv h30
    have e : (((numVal (c :: r) : Nat) : Int)).natAbs = numVal (c :: r) := rfl
    have h1 : (PyData.shown (.int (numVal (c :: r) : Nat))).length ≤ 32 := by
      have := int_text_length_le10 (k := 30) (by decide) (a := ((numVal (c :: r) : Nat) : Int)) (by rw [e]; exact hlt)
      show (Str.ofString (toString _)).length ≤ 32
      rw [PySem.ofString_length]; omega
    have h2 : (((numVal (c :: r) : Nat) : Int)).natAbs.log2 < 1920 := by
      rw [e]
      have h3 : numVal (c :: r) < 2 ^ 100 := Nat.lt_trans hlt (by decide)
      by_cases z : numVal (c :: r) = 0
      · rw [z]; decide +kernel
      · have := (Nat.log2_lt z).mpr h3
        omega
    unfold sz
    rw [if_pos ⟨h1, h2⟩]
theorem szS_S {x : List Nat} (h : ∀ c ∈ x, isRun c = true) : szS (S x) = x.length := by
  unfold szS
  rw [if_pos (strOk_S fun c hc => runOk (h c hc)), S_len]
theorem aS_run {x : List Nat} (h : ∀ c ∈ x, isRun c = true) : aS (wordOf x) ≤ x.length + 20 := by
  unfold wordOf
  split
  · show sz (.str (S x)) + 20 ≤ _
    rw [sz_str, szS_S h]; omega
  · split
    · show sz (.str (S x)) + 20 ≤ _
      rw [sz_str, szS_S h]; omega
    · split
      · rename_i q
        show sz (.int _) + 20 ≤ _
        rw [num_sz q]; omega
      · split
        · rename_i q
          show sz (.int _) + 20 ≤ _
          rw [num_sz q.2]; omega
        · show 20 ≤ _
          omega
theorem scan_aS (n at' : Nat) (l : List Nat) : ((scan n at' l).map fun t => aS t.w).sum ≤ 22 * l.length := by
  have := scan_sum (f := aS) (g := fun _ => 22) (fun x hx hh => ?_) n at' l
  · have e : (l.map fun _ => 22).sum = 22 * l.length := by
      clear this
      induction l with
      | nil => rfl
      | cons a l ih => simp only [List.map_cons, List.sum_cons, ih, List.length_cons]; omega
    omega
  have e : (x.map fun _ => 22).sum = 22 * x.length := by
    clear hx hh
    induction x with
    | nil => rfl
    | cons a l ih => simp only [List.map_cons, List.sum_cons, ih, List.length_cons]; omega
  have hl : 1 ≤ x.length := by cases x with
    | nil => exact absurd rfl hx
    | cons c r => simp
  rw [e]
  unfold wordL
  split
  · exact absurd rfl hx
  · rename_i c r
    split
    · rename_i hc
      have hr : ∀ d ∈ c :: r, isRun d = true := by
        rcases hh with hh | hh | hh
        · exact hh
        · injection hh with h1 h2
          subst h1
          exact absurd hc (by decide +kernel)
        · intro d hd
          have : r = [] := List.eq_nil_of_length_eq_zero (by simpa using hh)
          subst this
          rw [List.mem_singleton.mp hd]; exact hc
      have := aS_run hr
      simp only [List.length_cons] at this hl ⊢
      omega
    · split
      · show sz (.str "->") + 20 ≤ _
        have : sz (.str "->") = 2 := by rw [sz_str]; decide +kernel
        simp only [List.length_cons] at hl ⊢
        omega
      · split
        · rename_i e
          have : sz (.str (S [c])) = 1 := by
            rw [sz_str]; unfold szS
            rw [if_pos (strOk_S fun d hd => by rw [List.mem_singleton.mp hd]; exact markOk e.1)]; rfl
          show sz (.str (S [c])) + 20 ≤ _
          omega
        · show 20 ≤ _
          omega
end KW

/-! part KWords -/
set_option maxHeartbeats 4000000
namespace KW
open PySem PySem.Spec PyProof.Rows L2 KM SX
/-- a list comprehension over a text -/
theorem lc_str {l : List Nat} (ys : List V) {g : TG} {tt : TT} {te : TE} {vs : List Nat} {σ : L2.St} {H1 : Hp} {D : Addr} {Qd : Hp → Prop} (hD : H1 D = none) (hl : ys.length = l.length) (hz : l.length ≤ 2000000)
    (hs : ∀ (i : Nat) (c : Nat) (y : V) (H : Hp), l[i]? = some c → ys[i]? = some y → Same H1 H → ∀ (R : VK) (Z : Hp → Prop), (∀ H', Same H H' → R y H') → g (.str (S [c])) (wipe σ vs) H fun σ2 H2 => wipe σ2 vs = wipe σ vs ∧ tt σ2 H2 fun b H3 => if b = true then te σ2 H3 R else Z H3)
    (hd : ∀ H, Same H1 H → H D = some (.lst ys) → Qd H) :
    ∃ W : Nat → Nat → Hp → Prop, (∃ m, W 0 m (upd H1 D (.lst []))) ∧ ∀ i m H, W i m H →
      ((Its (S l)).stop i H ∧ Qd H) ∨ ((Its (S l)).go i H ∧ ∃ Nx : Hp → Prop, (∀ H', Nx H' → ∃ m', m' < m ∧ W (i + 1) m' H') ∧ ∀ x H', (Its (S l)).yld i H x H' → g x (wipe σ vs) H' fun σ2 H2 => wipe σ2 vs = wipe σ vs ∧ tt σ2 H2 fun b H3 =>
        if b = true then te σ2 H3 fun y H4 => ∃ acc, H4 D = some (.lst acc) ∧ acc.length < sizeLine ∧ Nx (upd H4 D (.lst (acc ++ [y]))) else Nx H3) := by
  have esz : (S l).cps.size = l.length := by simp
  refine lc_it walk_str (fun i H => Same H1 H ∧ H D = some (.lst (ys.take i))) ⟨same_new hD, upd_same⟩ (fun _ _ _ _ => trivial) (fun i x H H' hi ⟨s, hDH⟩ hy => ?_) (fun H ⟨s, hDH⟩ => hd H s (by rw [esz, ← hl, List.take_length] at hDH; exact hDH))
  obtain ⟨rfl, c, hc, rfl⟩ := hy
  have hc' : l[i]? = some c := by simpa using hc
  have hlt : i < ys.length := by rw [hl, ← esz]; exact hi
  have hy : ys[i]? = some ys[i] := List.getElem?_eq_getElem hlt
  refine hs i c ys[i] _ hc' hy s _ _ fun H' s' => ⟨ys.take i, s' _ _ hDH, ?_, fun b u e => ?_, ?_⟩
  · rw [List.length_take, sizeLine_eq]; omega
  · have nb : b ≠ D := fun z => by rw [z, hD] at e; cases e
    rw [upd_ne nb]
    exact s' _ _ (s _ _ e)
  · rw [upd_same, snoc_take hy]
theorem inV_strs {x : Str} {l : List Str} : inV (.str x) (l.map V.str) = decide (x ∈ l) := by
  unfold inV
  induction l with
  | nil => simp
  | cons a l ih =>
    rw [List.map_cons, List.any_cons, ih]
    have e : eqV (.str a) (.str x) = decide (x = a) := by
      by_cases h : x = a
      · subst h; simp [eqV]
      · simp [eqV, h, show ¬ a = x from fun z => h z.symm]
    rw [e]
    by_cases h : x = a <;> simp [h]
theorem all_flat (l : List Str) : (l.map V.str).all flatV = true := by
  rw [List.all_map]
  exact List.all_eq_true.mpr fun x _ => rfl
theorem figs_lt {c : Nat} : isFig c = true ↔ (decide (48 ≤ c) && decide (c ≤ 57)) = true := by
  have e : figL = [48, 49, 50, 51, 52, 53, 54, 55, 56, 57] := by decide +kernel
  unfold isFig
  rw [e]
  simp
  omega
theorem int_val {l : List Nat} (h : l.all isFig = true) (hne : l ≠ []) (hl : l.length ≤ 30) : intText? (S l) = some ((numVal l : Nat) : Int) :=
  int_S (List.all_eq_true.mpr fun c hc => figs_lt.mp (List.all_eq_true.mp h c hc)) hne (by omega)
theorem isCalled_cons {c : Nat} {r : List Nat} : isCalled (c :: r) = (decide ((c :: r).length ≤ 10) && isSmall c && !decide (S (c :: r) ∈ toldL) && !decide (S (c :: r) ∈ formsL) && (c :: r).all fun d => decide (d ∈ (smallT ++ figT).cps.toList)) := rfl
theorem isNum_cons {c : Nat} {r : List Nat} : isNum (c :: r) = (decide ((c :: r).length ≤ 30) && !(decide (c = 48) && !decide (c :: r = [48])) && (c :: r).all isFig) := rfl
section
variable {P : Program} {w : World} {K : PySem.W.Frag} {mg : Str → Option Value} {base : Heap}
/-! ### is_called -/
def spCalled : Sp := fun vs H Q _ => ∃ (l : List Nat), vs = [.str (S l)] ∧ l.length ≤ 1000000 ∧ ∀ H', Same H H' → Q (.bl (isCalled l)) H'
theorem ok_is_called (T : Txt K mg w) : Good P w K mg base 1 (He.ga K "is_called") ["word"] spCalled := by
  refine good_of T.f_is_called sc_is_called (fun _ _ _ _ _ _ us hl => match us, hl with | [_], _ => rfl) (fun vs H Q E h => by obtain ⟨_, rfl, _⟩ := h; rfl) (fun cdv A outer s H vs Q E hr h => ?_)
  obtain ⟨l, rfl, hl, k⟩ := h
  refine ⟨_, (pss_cons (ps_if (PW.pt (pw_or (pt_not (pt_chain op_le op_le pe_int (pe_callB call_len_str (by rfl) T.z_len (by decide +kernel) (pa_cons (pv 0) pa_nil)) (pg_i T.c_MOST_LETTERS))) (pw_or (pt_cmpR op_notIn_sign (pe_ix ix_str (pv 0) pe_int (fun _ _ => rfl)) (pg_s T.c_SMALL) rfl) (pw_or (pt_cmpR op_in_seq (pv 0) (pg_r T.g_TOLD) rfl) (pw_or1 (pt_cmpR op_in_seq (pv 0) (pg_r T.g_FORMS) rfl)))))) (pss_one (ps_ret pe_bl)) pss_nil)
      (pss_one (ps_ret (pe_callB (cr_all rfl) (by rfl) T.z_all (by decide +kernel) (pa_cons (pe_lc (own := [("sign", 1)]) (g := gName 1) (tt := tYes) rfl sc_is_called.nd (pi_str (pv 0)) (blkOk_by (own := [("sign", 1)]) (N := N_is_called) (sc := defScope s_is_called) (by decide +kernel)) (fun _ _ _ _ _ => pg_name (i := 1) sc_is_called.nd rfl (Or.inl rfl)) (fun _ _ _ _ _ => pts_nil) (fun _ _ _ _ _ => (pe_cmpR op_in_sign (pv 1) (pe_op op_add_str (pg_s T.c_SMALL) (pg_s T.c_FIGURES)) rfl))) pa_nil))))), ?_⟩
  refine ⟨_, rfl, _, rfl, by rw [S_len, sizeLine_eq]; omega, _, _, rfl, rfl, _, rfl, ?_⟩
  rw [S_len]
  cases l with
  | nil => exact iteF ⟨_, rfl, iteT (k _ (Same.refl _))⟩
  | cons c r =>
  refine iteD (c := ((1 : Int) ≤ ((c :: r).length : Nat))) (fun _ => ?_) (fun z => absurd (by simp only [List.length_cons]; omega) z)
  refine ⟨_, _, rfl, rfl, _, rfl, ?_⟩
  have e1 : decide ((((c :: r).length : Nat) : Int) ≤ 10) = decide ((c :: r).length ≤ 10) := by rw [decide_eq_decide]; omega
  show if (!decide ((((c :: r).length : Nat) : Int) ≤ 10)) = true then _ else _
  rw [e1]
  refine iteNot (fun h1 => iteT ?_) (fun h1 => ?_)
  · have e : isCalled (c :: r) = false := by rw [isCalled_cons, decide_eq_false h1]; rfl
    rw [e] at k
    exact k _ (Same.refl _)
  refine ⟨_, rfl, _, _, _, rfl, rfl, by rw [S_len, sizeLine_eq]; omega, atI_nat (j := 0) rfl, ?_⟩
  refine ⟨_, _, rfl, rfl, _, rfl, ?_⟩
  refine iteNot (fun h2 => iteT ?_) (fun h2 => ?_)
  · have e : isCalled (c :: r) = false := by
      have : isSmall c = false := decide_eq_false h2
      rw [isCalled_cons, this]; simp
    rw [e] at k
    exact k _ (Same.refl _)
  refine ⟨_, rfl, _, _, rfl, .inr (T.c_TOLD H), rfl, all_flat _, _, rfl, ?_⟩
  show if inV (.str (S (c :: r))) (toldL.map V.str) = true then _ else _
  rw [inV_strs]
  refine iteD (fun h3 => iteT ?_) (fun h3 => ?_)
  · have e : isCalled (c :: r) = false := by rw [isCalled_cons, decide_eq_true h3]; simp
    rw [e] at k
    exact k _ (Same.refl _)
  refine ⟨_, rfl, _, _, rfl, .inr (T.c_FORMS H), rfl, all_flat _, _, rfl, ?_⟩
  show if inV (.str (S (c :: r))) (formsL.map V.str) = true then _ else _
  rw [inV_strs]
  refine iteD (fun h4 => ?_) (fun h4 => ?_)
  · have e : isCalled (c :: r) = false := by rw [isCalled_cons, decide_eq_true h4]; simp
    rw [e] at k
    exact k _ (Same.refl _)
  have e : isCalled (c :: r) = (c :: r).all fun d => decide (d ∈ (smallT ++ figT).cps.toList) := by
    have h2' : isSmall c = true := decide_eq_true h2
    rw [isCalled_cons, decide_eq_true h1, decide_eq_false h3, decide_eq_false h4, h2']; rfl
  rw [e] at k
  refine ⟨_, rfl, _, rfl, fun D hD => lc_str (l := c :: r) ((c :: r).map fun d => .bl (decide (d ∈ (smallT ++ figT).cps.toList))) hD (by simp) (by omega) (fun i x y H2 hx hy s R Z hR => ?_) (fun H2 s2 hD2 => ?_)⟩
  · have ey : y = .bl (decide (x ∈ (smallT ++ figT).cps.toList)) := by
      rw [List.getElem?_map, hx] at hy
      exact (Option.some.inj hy).symm
    subst ey
    exact ⟨rfl, _, rfl, _, _, rfl, rfl, by decide +kernel, _, _, rfl, rfl, hR _ (Same.refl _)⟩
  · refine ⟨D, (c :: r).map fun d => decide (d ∈ (smallT ++ figT).cps.toList), rfl, SqL.of (by rw [List.map_map]; exact hD2), ?_⟩
    rw [List.all_map]
    exact k _ s2
/-! ### number_of -/
def numV (l : List Nat) : V := if isNum l = true then .int (numVal l : Nat) else .non
def spNumber : Sp := fun vs H Q _ => ∃ (l : List Nat), vs = [.str (S l)] ∧ l.length ≤ 1000000 ∧ ∀ H', Same H H' → Q (numV l) H'
theorem ok_number_of (T : Txt K mg w) : Good P w K mg base 1 (He.ga K "number_of") ["word"] spNumber := by
  refine good_of T.f_number_of sc_number_of (fun _ _ _ _ _ _ us hl => match us, hl with | [_], _ => rfl) (fun vs H Q E h => by obtain ⟨_, rfl, _⟩ := h; rfl) (fun cdv A outer s H vs Q E hr h => ?_)
  obtain ⟨l, rfl, hl, k⟩ := h
  obtain ⟨tr, hrest, hq⟩ : ∃ tr, PSs (XB P w K mg base N_number_of "number_of" s_number_of (He.ga K "number_of") cdv A outer s H E) ((defBody s_number_of).drop 1) tr ∧
      (1 ≤ l.length → l.length ≤ 30 → (¬ (l.head? = some 48 ∧ ¬ l = [48])) → tr { nx := fun _ H' => Q .non H', rt := Q } [some (.str (S l)), none] H) := by
    refine ⟨_, (pss_one (ps_ret (pe_ifExp (pt_val (pe_callB (cr_all rfl) (by rfl) T.z_all (by decide +kernel) (pa_cons (pe_lc (own := [("sign", 1)]) (g := gName 1) (tt := tYes) rfl sc_number_of.nd (pi_str (pv 0)) (blkOk_by (own := [("sign", 1)]) (N := N_number_of) (sc := defScope s_number_of) (by decide +kernel)) (fun _ _ _ _ _ => pg_name (i := 1) sc_number_of.nd rfl (Or.inl rfl)) (fun _ _ _ _ _ => pts_nil) (fun _ _ _ _ _ => (pe_cmpR op_in_sign (pv 1) (pg_s T.c_FIGURES) rfl))) pa_nil))) (pe_callTy call_int_str (by rfl) T.z_int (by decide +kernel) (pa_cons (pv 0) pa_nil)) pe_non))), fun h0 h1 h2 => ?_⟩
    have e : isNum l = l.all isFig := by
      cases l with
      | nil => simp at h0
      | cons c r =>
        rw [isNum_cons, decide_eq_true h1]
        by_cases hc : c = 48
        · have : c :: r = [48] := Classical.byContradiction fun z => h2 ⟨by rw [hc]; rfl, z⟩
          rw [decide_eq_true hc, decide_eq_true this]; rfl
        · rw [decide_eq_false hc]; rfl
    refine ⟨_, rfl, _, rfl, fun D hD => lc_str (l := l) (l.map fun d => .bl (isFig d)) hD (by simp) (by omega) (fun i x y H2 hx hy s R Z hR => ?_) (fun H2 s2 hD2 => ?_)⟩
    · have ey : y = .bl (isFig x) := by
        rw [List.getElem?_map, hx] at hy
        exact (Option.some.inj hy).symm
      subst ey
      exact ⟨rfl, _, rfl, _, _, rfl, rfl, hR _ (Same.refl _)⟩
    · refine ⟨D, l.map isFig, rfl, SqL.of (by rw [List.map_map]; exact hD2), _, rfl, ?_⟩
      rw [List.all_map]
      unfold numV at k
      rw [e] at k
      show if l.all isFig = true then _ else _
      cases ha : l.all isFig with
      | true =>
        rw [ha] at k
        exact iteT ⟨_, rfl, _, _, rfl, int_val ha (by intro z; rw [z] at h0; simp at h0) h1, by rw [S_len]; omega, k _ s2⟩
      | false =>
        rw [ha] at k
        exact iteF (k _ s2)
  refine ⟨_, pss_cons (ps_if (PW.pt (pw_or (pt_not (pt_chain op_le op_le pe_int (pe_callB call_len_str (by rfl) T.z_len (by decide +kernel) (pa_cons (pv 0) pa_nil)) (pg_i T.c_MOST_FIGURES))) (pw_or1 (PW.pt (pw_and (pt_cmpR op_eq (pe_ix ix_str (pv 0) pe_int (fun _ _ => rfl)) pe_str (nomark _)) (pw_and1 (pt_cmpR op_ne (pv 0) pe_str (nomark _)))))))) (pss_one (ps_ret pe_non)) pss_nil) hrest, ?_⟩
  refine ⟨_, rfl, _, rfl, by rw [S_len, sizeLine_eq]; omega, _, _, rfl, rfl, _, rfl, ?_⟩
  rw [S_len]
  unfold numV at k
  cases l with
  | nil => exact iteF ⟨_, rfl, iteT (k _ (Same.refl _))⟩
  | cons c r =>
  refine iteD (c := ((1 : Int) ≤ ((c :: r).length : Nat))) (fun _ => ?_) (fun z => absurd (by simp only [List.length_cons]; omega) z)
  refine ⟨_, _, rfl, rfl, _, rfl, ?_⟩
  have e1 : decide ((((c :: r).length : Nat) : Int) ≤ 30) = decide ((c :: r).length ≤ 30) := by rw [decide_eq_decide]; omega
  show if (!decide ((((c :: r).length : Nat) : Int) ≤ 30)) = true then _ else _
  rw [e1]
  refine iteNot (fun h1 => iteT ?_) (fun h1 => ?_)
  · have e : isNum (c :: r) = false := by rw [isNum_cons, decide_eq_false h1]; rfl
    rw [e] at k
    exact k _ (Same.refl _)
  refine ⟨_, rfl, _, _, _, rfl, rfl, by rw [S_len, sizeLine_eq]; omega, atI_nat (j := 0) rfl, rfl, _, rfl, ?_⟩
  have ed : decide (V.str ⟨#[c]⟩ = V.str "0") = decide (c = 48) := by
    rw [decide_eq_decide]
    constructor
    · intro z
      injection z with z
      have z2 : S [c] = S [48] := z
      exact List.head_eq_of_cons_eq (S_inj z2)
    · rintro rfl; rfl
  rw [ed]
  have ed2 : decide (V.str (S (c :: r)) = V.str "0") = decide (c :: r = [48]) := by
    rw [decide_eq_decide]
    constructor
    · intro z
      injection z with z
      have z2 : S (c :: r) = S [48] := z
      exact S_inj z2
    · intro z; rw [z]; rfl
  refine iteD (fun h2 => ?_) (fun h2 => ?_)
  · refine ⟨_, rfl, rfl, _, rfl, ?_⟩
    rw [ed2]
    refine iteNot (fun h3 => ?_) (fun h3 => ?_)
    · have e : isNum (c :: r) = false := by rw [isNum_cons, decide_eq_true h1, decide_eq_true h2, decide_eq_false h3]; rfl
      rw [e] at k
      exact k _ (Same.refl _)
    · exact hq (by simp) h1 (fun z => z.2 h3)
  · exact iteF (hq (by simp) h1 (fun z => h2 (by have := z.1; simp at this; exact this)))
end
end KW

/-! part KWords2 -/
set_option maxHeartbeats 4000000
namespace KW
open PySem PySem.Spec PyProof.Rows L2 KM SX
theorem cut_S {l : List Nat} {i j : Nat} : cutS (S l) (some (i : Nat)) (some (j : Nat)) = S ((l.drop i).take (j - i)) := by
  unfold cutS
  have e : (S l).length = l.length := S_len l
  rw [e, HT.sIx_nat, HT.sIx_nat]
  show S ((l.drop (min i l.length)).take (min j l.length - min i l.length)) = _
  congr 1
  by_cases h : i ≤ l.length
  · rw [Nat.min_eq_left h]
    by_cases h2 : j ≤ l.length
    · rw [Nat.min_eq_left h2]
    · rw [Nat.min_eq_right (by omega), List.take_of_length_le (by simp), List.take_of_length_le (by simp; omega)]
  · rw [show min i l.length = l.length by omega, List.drop_eq_nil_of_le (Nat.le_refl _), List.drop_eq_nil_of_le (by omega)]
    simp
theorem cut_from {l : List Nat} {i : Nat} : cutS (S l) (some (i : Nat)) none = S (l.drop i) := by
  unfold cutS
  have e : (S l).length = l.length := S_len l
  rw [e, HT.sIx_nat, HT.sIx_none]
  show S ((l.drop (min i l.length)).take (l.length - min i l.length)) = _
  congr 1
  by_cases h : i ≤ l.length
  · rw [Nat.min_eq_left h, List.take_of_length_le (by simp)]
  · rw [Nat.min_eq_right (by omega), List.drop_eq_nil_of_le (Nat.le_refl _), List.drop_eq_nil_of_le (by omega)]
    simp
section
variable {P : Program} {w : World} {K : PySem.W.Frag} {mg : Str → Option Value} {base : Heap}
/-! ### run_at -/
def spRunAt : Sp := fun vs H Q _ => ∃ (l : List Nat) (i : Nat), vs = [.str (S l), .int i] ∧ i ≤ l.length ∧ l.length ≤ 1000000 ∧ ∀ H', Same H H' → Q (.int ((i + ((l.drop i).takeWhile isRun).length : Nat) : Int)) H'
theorem ok_run_at (T : Txt K mg w) : Good P w K mg base 1 (He.ga K "run_at") ["text", "at"] spRunAt := by
  refine good_of T.f_run_at sc_run_at (fun _ _ _ _ _ _ us hl => match us, hl with | [_, _], _ => rfl) (fun vs H Q E h => by obtain ⟨_, _, rfl, _⟩ := h; rfl) (fun cdv A outer s H vs Q E hr h => ?_)
  obtain ⟨l, i, rfl, hi, hl, k⟩ := h
  refine ⟨_, (pss_cons (ps_while po (PW.pt (pw_and (pt_cmpR op_lt (pv 1) (pe_callB call_len_str (by rfl) T.z_len (by decide +kernel) (pa_cons (pv 0) pa_nil)) (nomark _)) (pw_and1 (pt_cmpR op_in_sign (pe_ix ix_str (pv 0) (pv 1) (fun _ _ => rfl)) (pe_op op_add_str (pe_op op_add_str (pg_s T.c_SMALL) (pg_s T.c_FIGURES)) pe_str) rfl)))) (pss_one (ps_set (i := 1) sc_run_at.nd rfl (Or.inl rfl) (pe_op op_add (pv 1) pe_int))))
      (pss_one (ps_ret (pv 1)))), ?_⟩
  refine ⟨fun n σ H' => ∃ j : Nat, σ = [some (.str (S l)), some (.int j)] ∧ Same H H' ∧ j ≤ l.length ∧ n = l.length - j ∧ i + ((l.drop i).takeWhile isRun).length = j + ((l.drop j).takeWhile isRun).length, ⟨_, i, rfl, Same.refl _, hi, rfl, rfl⟩, ?_⟩
  rintro n σ H1 ⟨j, rfl, s1, hj, rfl, e⟩
  refine ⟨_, rfl, _, rfl, _, rfl, by rw [S_len, sizeLine_eq]; omega, _, _, rfl, rfl, _, rfl, ?_⟩
  rw [S_len]
  refine iteD (c := ((j : Int) < (l.length : Nat))) (fun c => ?_) (fun c => ?_)
  · have hlt : j < l.length := by omega
    have hc : l[j]? = some l[j] := List.getElem?_eq_getElem hlt
    have hd : l.drop j = l[j] :: l.drop (j + 1) := List.drop_eq_getElem_cons hlt
    refine ⟨_, rfl, _, rfl, _, _, _, rfl, rfl, by rw [S_len, sizeLine_eq]; omega, atI_nat (j := j) hc, ?_⟩
    refine ⟨_, _, rfl, rfl, by decide +kernel, _, _, rfl, rfl, by decide +kernel, _, _, rfl, rfl, _, rfl, ?_⟩
    show if isRun l[j] = true then _ else _
    cases hr2 : isRun l[j] with
    | true =>
      have e2 : ((l.drop j).takeWhile isRun).length = ((l.drop (j + 1)).takeWhile isRun).length + 1 := by rw [hd, List.takeWhile_cons, if_pos hr2]; rfl
      refine iteT ⟨_, fun σ' H' h => h, ?_⟩
      refine ⟨_, rfl, _, _, rfl, rfl, ?_⟩
      exact ⟨_, by omega, j + 1, rfl, s1, by omega, rfl, by omega⟩
    | false =>
      have e2 : ((l.drop j).takeWhile isRun).length = 0 := by rw [hd, List.takeWhile_cons, if_neg (by rw [hr2]; simp)]; rfl
      refine iteF ⟨_, rfl, ?_⟩
      rw [show ((i + ((l.drop i).takeWhile isRun).length : Nat) : Int) = (j : Int) by omega] at k
      exact k _ s1
  · have e2 : l.drop j = [] := List.drop_eq_nil_of_le (by omega)
    rw [e2] at e
    refine iteF ⟨_, rfl, ?_⟩
    rw [show ((i + ((l.drop i).takeWhile isRun).length : Nat) : Int) = (j : Int) by simp at e; omega] at k
    exact k _ s1
/-! ### run_word -/
def spRunWord (K : PySem.W.Frag) : Sp := fun vs H Q _ => ∃ (l : List Nat), vs = [.str (S l)] ∧ l ≠ [] ∧ l.length ≤ 1000000 ∧ ∀ H' v, Same H H' → (wordOf l = .bad → v = .non) → (wordOf l ≠ .bad → Tp K H' v (.tuple [.str (wordOf l).kind, (wordOf l).val])) → Q v H'
theorem ok_run_word (T : Txt K mg w) : Good P w K mg base 2 (He.ga K "run_word") ["run"] (spRunWord K) := by
  have GC := ok_is_called (P := P) (base := base) T
  have GN := ok_number_of (P := P) (base := base) T
  refine good_of T.f_run_word sc_run_word (fun _ _ _ _ _ _ us hl => match us, hl with | [_], _ => rfl) (fun vs H Q E h => by obtain ⟨_, rfl, _⟩ := h; rfl) (fun cdv A outer s H vs Q E hr h => ?_)
  obtain ⟨l, rfl, hne, hl, k⟩ := h
  have fin : ∀ (w : Wd) (H1 : Hp) (v2 : V), wordOf l = w → w ≠ .bad → Same H H1 → Tp K H1 v2 w.val → ∀ u, H1 u = none → Q (.ref u) (upd H1 u (.tup [.str w.kind, v2])) := by
    intro w H1 v2 e hb s1 h2 u hu
    refine k _ _ (s1.trans (same_new hu)) (fun z => absurd (e.symm.trans z) hb) fun _ => ?_
    rw [e]
    exact tp_new hu (.two (.str _) h2)
  have told : S l ∈ toldAll → wordOf l = .told (S l) := fun h => by unfold wordOf; rw [if_pos h]
  refine ⟨_, (pss_cons (ps_if (PW.pt (pw_or (pt_cmpR op_in_seq (pv 0) (pg_r T.g_TOLD) rfl) (pw_or1 (pt_cmpR op_in_seq (pv 0) (pg_r T.g_FORMS) rfl)))) (pss_one (ps_ret (pe_tup (pa_cons pe_str (pa_cons (pv 0) pa_nil))))) pss_nil)
      (pss_cons (ps_if (pt_val (pf GC (hr.mono (by decide)) T.g_is_called px (pa_cons (pv 0) pa_nil))) (pss_one (ps_ret (pe_tup (pa_cons pe_str (pa_cons (pv 0) pa_nil))))) pss_nil)
      (pss_cons (ps_if (pt_cmpR op_notN (pf GN (hr.mono (by decide)) T.g_number_of px (pa_cons (pv 0) pa_nil)) pe_non (nomark _)) (pss_one (ps_ret (pe_tup (pa_cons pe_str (pa_cons (pf GN (hr.mono (by decide)) T.g_number_of px (pa_cons (pv 0) pa_nil)) pa_nil))))) pss_nil)
      (pss_cons (ps_if (PW.pt (pw_and (pt_cmpR op_eq (pe_ix ix_str (pv 0) pe_int (fun _ _ => rfl)) pe_str (nomark _)) (pw_and1 (pt_cmpR op_notN (pf GN (hr.mono (by decide)) T.g_number_of px (pa_cons (pe_slice sl_str (pv 0) (po_some pe_int) po_none) pa_nil)) pe_non (nomark _))))) (pss_one (ps_ret (pe_tup (pa_cons pe_str (pa_cons (pf GN (hr.mono (by decide)) T.g_number_of px (pa_cons (pe_slice sl_str (pv 0) (po_some pe_int) po_none) pa_nil)) pa_nil))))) pss_nil)
      (pss_one (ps_ret pe_non)))))), ?_⟩
  refine ⟨_, rfl, _, _, rfl, .inr (T.c_TOLD H), rfl, all_flat _, _, rfl, ?_⟩
  show if inV (.str (S l)) (toldL.map V.str) = true then _ else _
  rw [inV_strs]
  refine iteD (fun h1 => iteT ?_) (fun h1 => ?_)
  · exact ⟨_, rfl, by show 2 ≤ sizeLine; decide, fin (.told (S l)) H _ (told (List.mem_append.mpr (.inl h1))) (by simp) (Same.refl _) (.str _)⟩
  refine ⟨_, rfl, _, _, rfl, .inr (T.c_FORMS H), rfl, all_flat _, _, rfl, ?_⟩
  show if inV (.str (S l)) (formsL.map V.str) = true then _ else _
  rw [inV_strs]
  refine iteD (fun h2 => ?_) (fun h2 => ?_)
  · exact ⟨_, rfl, by show 2 ≤ sizeLine; decide, fin (.told (S l)) H _ (told (List.mem_append.mpr (.inr h2))) (by simp) (Same.refl _) (.str _)⟩
  have h3 : ¬ S l ∈ toldAll := fun z => by
    rcases List.mem_append.mp z with z | z
    · exact h1 z
    · exact h2 z
  refine ⟨_, rfl, l, rfl, hl, fun H1 s1 => ⟨_, rfl, ?_⟩⟩
  cases hc : isCalled l with
  | true =>
    have e : wordOf l = .name (S l) := by unfold wordOf; rw [if_neg h3, if_pos hc]
    exact iteT ⟨_, rfl, by show 2 ≤ sizeLine; decide, fin (.name (S l)) H1 _ e (by simp) s1 (.str _)⟩
  | false =>
  refine iteF ?_
  refine ⟨_, rfl, l, rfl, hl, fun H2 s2 => ⟨rfl, _, rfl, ?_⟩⟩
  unfold numV
  cases hn : isNum l with
  | true =>
    have e : wordOf l = .num (numVal l) := by unfold wordOf; rw [if_neg h3, if_neg (by rw [hc]; simp), if_pos hn]
    refine iteT ⟨_, rfl, l, rfl, hl, fun H3 s3 => ?_⟩
    unfold numV
    rw [if_pos hn]
    exact ⟨by show 2 ≤ sizeLine; decide, fin (.num (numVal l)) H3 _ e (by simp) ((s1.trans s2).trans s3) (.int _)⟩
  | false =>
  refine iteF ?_
  have e0 : wordOf l = if l.head? = some 88 ∧ isNum l.tail = true then .var (numVal l.tail) else .bad := by
    unfold wordOf; rw [if_neg h3, if_neg (by rw [hc]; simp), if_neg (by rw [hn]; simp)]
  cases l with
  | nil => exact absurd rfl hne
  | cons c r =>
  refine ⟨_, rfl, _, _, _, rfl, rfl, by rw [S_len, sizeLine_eq]; omega, atI_nat (j := 0) rfl, rfl, _, rfl, ?_⟩
  have ed : decide (V.str ⟨#[c]⟩ = V.str "X") = decide (c = 88) := by
    rw [decide_eq_decide]
    constructor
    · intro z
      injection z with z
      have z2 : S [c] = S [88] := z
      exact List.head_eq_of_cons_eq (S_inj z2)
    · rintro rfl; rfl
  rw [ed]
  have ec : cutS (S (c :: r)) (some 1) none = S r := cut_from (i := 1)
  refine iteD (fun h4 => ?_) (fun h4 => ?_)
  · refine ⟨_, rfl, _, rfl, _, rfl, by rw [S_len, sizeLine_eq]; omega, r, (by rw [ec]; rfl), by simp only [List.length_cons] at hl; omega, fun H3 s3 => ⟨rfl, _, rfl, ?_⟩⟩
    unfold numV
    cases hn2 : isNum r with
    | true =>
      have e : wordOf (c :: r) = .var (numVal r) := by rw [e0, if_pos ⟨by rw [h4]; rfl, hn2⟩]; rfl
      refine iteT ⟨_, rfl, _, rfl, _, rfl, by rw [S_len, sizeLine_eq]; omega, r, (by rw [ec]; rfl), by simp only [List.length_cons] at hl; omega, fun H4 s4 => ?_⟩
      unfold numV
      rw [if_pos hn2]
      exact ⟨by show 2 ≤ sizeLine; decide, fin (.var (numVal r)) H4 _ e (by simp) (((s1.trans s2).trans s3).trans s4) (.int _)⟩
    | false =>
      have e : wordOf (c :: r) = .bad := by rw [e0, if_neg (fun z => by have z2 : isNum r = true := z.2; rw [hn2] at z2; cases z2)]
      exact iteF (k _ _ ((s1.trans s2).trans s3) (fun _ => rfl) (fun z => absurd e z))
  · have e : wordOf (c :: r) = .bad := by rw [e0, if_neg (fun z => h4 (by have z2 : some c = some 88 := z.1; exact Option.some.inj z2))]
    exact iteF (k _ _ (s1.trans s2) (fun _ => rfl) (fun z => absurd e z))
end
end KW

/-! part KWords3 -/
set_option maxHeartbeats 4000000
namespace KW
open PySem PySem.Spec PyProof.Rows L2 KM SX
section
variable {P : Program} {w : World} {K : PySem.W.Frag} {mg : Str → Option Value} {base : Heap}
theorem kind_bad {w : Wd} : (w.kind = "none") = (w = .bad) := by
  cases w <;> simp [Wd.kind] <;> decide +kernel
theorem scan_nil {n at' : Nat} : scan n at' [] = [] := by cases n <;> rfl
theorem atI_last {xs : List V} {v : V} : atI (xs ++ [v]) (-1) = some v := by
  have hl : (xs ++ [v]).length = xs.length + 1 := by simp
  have e : ixN (xs ++ [v]).length (-1) = some xs.length := by
    unfold ixN
    rw [hl, if_neg (by omega)]
    rw [if_pos (by omega)]
    congr 1
    omega
  unfold atI
  rw [e]
  simp
theorem take_run (p : Nat → Bool) (l : List Nat) : l.take (l.takeWhile p).length = l.takeWhile p := by
  induction l with
  | nil => rfl
  | cons a l ih =>
    rw [List.takeWhile_cons]
    split
    · rw [List.length_cons, List.take_succ_cons, ih]
    · rfl
theorem drop_run (p : Nat → Bool) (l : List Nat) : l.drop (l.takeWhile p).length = l.dropWhile p := by
  induction l with
  | nil => rfl
  | cons a l ih =>
    rw [List.takeWhile_cons, List.dropWhile_cons]
    split
    · rw [List.length_cons, List.drop_succ_cons, ih]
    · rfl
/-! ### words_of -/
abbrev restWords : List Stmt := match (defBody s_words_of).drop 2 with
  | .While (body := b) .. :: _ => b.drop 2
  | _ => []
def spWordsOf (K : PySem.W.Frag) : Sp := fun vs H Q _ => ∃ (l : List Nat), vs = [.str (S l)] ∧ l.length ≤ 1000000 ∧ ∀ H' f fv, Same H H' → H f = none → H' f = some (.lst fv) → TpAll K H' fv ((toks l).map fun t => t.pw.toD) → Q (.ref f) H'
theorem ok_words_of (T : Txt K mg w) : Good P w K mg base 3 (He.ga K "words_of") ["text"] (spWordsOf K) := by
  have GA := ok_run_at (P := P) (base := base) T
  have GR := ok_run_word (P := P) (base := base) T
  refine good_of T.f_words_of sc_words_of (fun _ _ _ _ _ _ us hl => match us, hl with | [_], _ => rfl) (fun vs H Q E h => by obtain ⟨_, rfl, _⟩ := h; rfl) (fun cdv A outer s H vs Q E hr h => ?_)
  obtain ⟨l, rfl, hl, k⟩ := h
  obtain ⟨tr, hrest, hq⟩ : ∃ tr, PSs (XB P w K mg base N_words_of "words_of" s_words_of (He.ga K "words_of") cdv A outer s H E) restWords tr ∧
      (∀ (D : Ends) (f : Addr) (fv : List V) (acc : List Tok) (i j : Nat) (b : Option V) (H1 : Hp), H1 f = some (.lst fv) → TpAll K H1 fv (acc.map fun t => t.pw.toD) → (∀ t ∈ acc, t.w.val.canLay0 = true) →
        (∀ H2, Same H1 H2 → (∀ t ts, acc = ts ++ [t] → t.w = .bad → D.rt (.ref f) H2) ∧ ((∀ t ts, acc = ts ++ [t] → t.w ≠ .bad) → D.nx [some (.str (S l)), some (.ref f), some (.int (j : Nat)), some (.int (j : Nat)), b] H2)) →
        tr D [some (.str (S l)), some (.ref f), some (.int (i : Nat)), some (.int (j : Nat)), b] H1) := by
    refine ⟨_, (pss_cons (ps_if (PW.pt (pw_and (pt_cmpR (op_neM hr.units) (pv 1) (pe_lst pa_nil) (nomark _)) (pw_and1 (pt_cmpR op_eq (pe_ix ix_tup (pe_ix ix_list (pv 1) (pe_un un_neg pe_int) (fun _ _ => rfl)) pe_int (fun _ _ => rfl)) pe_str (nomark _))))) (pss_one (ps_ret (pv 1))) pss_nil)
      (pss_one (ps_set (i := 2) sc_words_of.nd rfl (Or.inl rfl) (pv 3)))), fun D f fv acc i j b H1 hf hfv hok hk => ?_⟩
    refine ⟨_, rfl, Nat.zero_le _, fun q hq => ?_⟩
    have s1 := same_new (o := .lst []) hq
    have lay : PyData.canLay0 (.list (acc.map fun t => t.pw.toD)) = true := by
      show PyData.canLayAll0 _ = true
      refine lay_all fun d hd => ?_
      obtain ⟨t, ht, rfl⟩ := List.mem_map.mp hd
      simp only [PW.toD, Tok.pw, PyData.canLay0, PyData.canLayAll0, strOk_kind, hok t ht, Bool.and_self]
    refine ⟨_, .list [], .lst (SqL.of (s1 _ _ hf)) (hfv.mono (TM.same s1)).dp, .lst (SqL.of upd_same) .nil, lay, rfl, by show min _ 1 ≤ 60; omega, ?_⟩
    rw [eqv_nil]
    rcases List.eq_nil_or_concat acc with e | ⟨ts, t, e⟩
    · subst e
      refine ⟨_, rfl, iteF (iteF ⟨_, rfl, (hk _ s1).2 fun t ts z => by simp at z⟩)⟩
    · rw [List.concat_eq_append] at e
      subst e
      have hne : (((ts ++ [t]).map fun t => t.pw.toD)).isEmpty = false := by simp
      rw [hne]
      refine ⟨_, rfl, iteT ?_⟩
      have hfv2 : TpAll K (upd H1 q (.lst [])) fv ((ts.map fun t => t.pw.toD) ++ [t.pw.toD]) := by
        have := hfv.mono (TM.same s1)
        rw [List.map_append] at this
        exact this
      obtain ⟨xs, v, rfl, h1, h2⟩ := hfv2.snoc_inv
      obtain ⟨p, ys, rfl, h3, h4⟩ := h2.tup_inv
      obtain ⟨v1, r1, rfl, q1, h5⟩ := h4.cons_inv
      cases q1.str_inv
      refine ⟨_, rfl, _, rfl, f, _, _, .ref p, rfl, rfl, SqL.of (s1 _ _ hf), ?_, ?_⟩
      · exact atI_last
      refine ⟨p, _, _, _, rfl, rfl, h3, atI_nat (j := 0) rfl, rfl, _, rfl, ?_⟩
      have ed : decide (V.str t.pw.w.kind = V.str "none") = decide (t.w = .bad) := by
        rw [decide_eq_decide]
        rw [← kind_bad]
        exact ⟨fun z => by injection z, fun z => by rw [show t.pw.w = t.w from rfl, z]⟩
      rw [ed]
      refine iteD (fun hb => ?_) (fun hb => ?_)
      · exact ⟨_, rfl, (hk _ s1).1 t ts rfl hb⟩
      · refine ⟨_, rfl, (hk _ s1).2 fun t' ts' z => ?_⟩
        have := List.append_inj_right' z rfl
        injection this with z2
        rw [← z2]
        exact hb
  refine ⟨_, pss_cons (ps_set (i := 1) sc_words_of.nd rfl (Or.inl rfl) (pe_lst pa_nil)) (pss_cons (ps_set (i := 2) sc_words_of.nd rfl (Or.inl rfl) pe_int) (pss_cons (ps_while po (pt_cmpR op_lt (pv 2) (pe_callB call_len_str (by rfl) T.z_len (by decide +kernel) (pa_cons (pv 0) pa_nil)) (nomark _))
     (pss_cons (ps_set (i := 3) sc_words_of.nd rfl (Or.inl rfl) (pf GA (hr.mono (by decide)) T.g_run_at px (pa_cons (pv 0) (pa_cons (pv 2) pa_nil)))) (pss_cons (ps_if (pt_cmpR op_gt (pv 3) (pv 2) (nomark _)) (pss_cons (ps_set (i := 4) sc_words_of.nd rfl (Or.inl rfl) (pf GR (hr.mono (by decide)) T.g_run_word px (pa_cons (pe_slice sl_str (pv 0) (po_some (pv 2)) (po_some (pv 3))) pa_nil)))
      (pss_one (ps_expr (pe_bm PySem.F.plainAttrs_list PySem.F.slot_list_append PySem.F.type_list_append mt_append (pv 1) (pa_cons (pe_ifExp (pt_cmpR op_isN (pv 4) pe_non (nomark _)) (pe_tup (pa_cons pe_str (pa_cons pe_str (pa_cons (pv 2) pa_nil)))) (pe_op op_catT (pv 4) (pe_tup (pa_cons (pv 2) pa_nil)))) pa_nil))))) (pss_one (ps_if (pt_cmpR op_eq (pe_slice sl_str (pv 0) (po_some (pv 2)) (po_some (pe_op op_add (pv 2) pe_int))) pe_str (nomark _)) (pss_cons (ps_set (i := 3) sc_words_of.nd rfl (Or.inl rfl) (pe_op op_add (pv 2) pe_int))
      (pss_one (ps_expr (pe_bm PySem.F.plainAttrs_list PySem.F.slot_list_append PySem.F.type_list_append mt_append (pv 1) (pa_cons (pe_tup (pa_cons pe_str (pa_cons pe_str (pa_cons (pv 2) pa_nil)))) pa_nil))))) (pss_one (ps_if (pt_cmpR op_in_sign (pe_ix ix_str (pv 0) (pv 2) (fun _ _ => rfl)) (pg_s T.c_MARKS) rfl) (pss_cons (ps_set (i := 3) sc_words_of.nd rfl (Or.inl rfl) (pe_op op_add (pv 2) pe_int))
      (pss_one (ps_expr (pe_bm PySem.F.plainAttrs_list PySem.F.slot_list_append PySem.F.type_list_append mt_append (pv 1) (pa_cons (pe_tup (pa_cons pe_str (pa_cons (pe_ix ix_str (pv 0) (pv 2) (fun _ _ => rfl)) (pa_cons (pv 2) pa_nil)))) pa_nil))))) (pss_one (ps_if (pt_cmpR op_eq (pe_ix ix_str (pv 0) (pv 2) (fun _ _ => rfl)) pe_str (nomark _)) (pss_one (ps_set (i := 3) sc_words_of.nd rfl (Or.inl rfl) (pe_op op_add (pv 2) pe_int))) (pss_one (ps_expr (pe_bm PySem.F.plainAttrs_list PySem.F.slot_list_append PySem.F.type_list_append mt_append (pv 1) (pa_cons (pe_tup (pa_cons pe_str (pa_cons pe_str (pa_cons (pv 2) pa_nil)))) pa_nil))))))))))) hrest))) (pss_one (ps_ret (pv 1))))), ?_⟩
  refine ⟨Nat.zero_le _, fun f hf => ?_⟩
  have s0 := same_new (o := .lst []) hf
  refine ⟨fun n σ H' => ∃ (i : Nat) (acc : List Tok) (fv : List V) (b3 b4 : Option V), σ = [some (.str (S l)), some (.ref f), some (.int i), b3, b4] ∧ i ≤ l.length ∧ n = l.length - i ∧ Same H H' ∧ H' f = some (.lst fv) ∧ TpAll K H' fv (acc.map fun t => t.pw.toD) ∧
      toks l = acc ++ scan (l.drop i).length i (l.drop i) ∧ (∀ t ∈ acc, t.w.val.canLay0 = true) ∧ (∀ t ∈ acc, t.w ≠ .bad) ∧ fv.length ≤ i, ⟨_, 0, [], [], none, none, rfl, Nat.zero_le _, rfl, s0, upd_same, .nil, rfl, (fun t h => by cases h), (fun t h => by cases h), Nat.zero_le _⟩, ?_⟩
  rintro n σ H1 ⟨i, acc, fv, b3, b4, rfl, hi, rfl, s1, hf1, hfv, htk, hok, hnb, hfl⟩
  refine ⟨_, rfl, _, rfl, _, rfl, by rw [S_len, sizeLine_eq]; omega, _, _, rfl, rfl, _, rfl, ?_⟩
  rw [S_len]
  refine iteD (c := ((i : Int) < (l.length : Nat))) (fun c => ?_) (fun c => ?_)
  rotate_left
  · have e : l.drop i = [] := List.drop_eq_nil_of_le (by omega)
    rw [e, scan_nil, List.append_nil] at htk
    exact ⟨_, rfl, k H1 f fv s1 hf hf1 (by rw [htk]; exact hfv)⟩
  have hlt : i < l.length := by omega
  have hc : l[i]? = some l[i] := List.getElem?_eq_getElem hlt
  have hd : l.drop i = l[i] :: l.drop (i + 1) := List.drop_eq_getElem_cons hlt
  have htk0 := htk
  rw [hd, scan_cons (Nat.le_refl _)] at htk
  have hall := scan_ok l.length 0 l
  have okApp : ∀ (t : Tok) (R : List Tok), toks l = acc ++ t :: R → ∀ t' ∈ acc ++ [t], t'.w.val.canLay0 = true := by
    intro t R e t' ht'
    rcases List.mem_append.mp ht' with z | z
    · exact hok t' z
    · rw [List.mem_singleton.mp z]; exact hall _ (by show _ ∈ toks l; rw [e]; simp)
  refine ⟨_, fun σ' H' h => h, ?_⟩
  refine ⟨_, rfl, _, rfl, l, i, rfl, hi, hl, fun H2 s2 => ?_⟩
  -- behind an append
  have fin : ∀ (D : Ends) (t : Tok) (R : List Tok) (j : Nat) (b : Option V) (H3 : Hp) (u : Addr), toks l = acc ++ t :: R → Same H1 H3 → H3 f = some (.lst fv) → Tp K H3 (.ref u) t.pw.toD →
      (t.w = .bad → R = [] ∧ D.rt = Q) → (t.w ≠ .bad → i < j ∧ j ≤ l.length ∧ R = scan (l.drop j).length j (l.drop j)) →
      (∀ H4 gv, t.w ≠ .bad → Same H H4 → H4 f = some (.lst gv) → TpAll K H4 gv ((acc ++ [t]).map fun t => t.pw.toD) → gv.length ≤ j → D.nx [some (.str (S l)), some (.ref f), some (.int (j : Nat)), some (.int (j : Nat)), b] H4) →
      fv.length < sizeLine ∧ tr D [some (.str (S l)), some (.ref f), some (.int (i : Nat)), some (.int (j : Nat)), b] (upd H3 f (.lst (fv ++ [.ref u]))) := by
    intro D t R j b H3 u e s3 hf3 tp hbad hgood hnx
    refine ⟨by rw [sizeLine_eq]; omega, ?_⟩
    have M : TM H3 (upd H3 f (.lst (fv ++ [.ref u]))) := TM.lst hf3
    have s4 : Same H (upd H3 f (.lst (fv ++ [.ref u]))) := fun b o z => by
      rw [upd_ne (ne_of_none z hf)]; exact s3 _ _ (s1 _ _ z)
    have hgv : TpAll K (upd H3 f (.lst (fv ++ [.ref u]))) (fv ++ [.ref u]) ((acc ++ [t]).map fun t => t.pw.toD) := by
      rw [List.map_append]
      exact TpAll.app ((hfv.mono (TM.same s3)).mono M) (.one (tp.mono M))
    refine hq D f _ (acc ++ [t]) i j b _ upd_same hgv (okApp t R e) fun H5 s5 => ⟨fun t' ts' z hb => ?_, fun hnb2 => ?_⟩
    · have := List.append_inj_right' z rfl
      injection this with z2
      rw [← z2] at hb
      obtain ⟨h1, h2⟩ := hbad hb
      subst h1
      rw [h2]
      exact k H5 f _ (s4.trans s5) hf (s5 _ _ upd_same) (by rw [e]; exact hgv.mono (TM.same s5))
    · have hb := hnb2 t acc rfl
      obtain ⟨h1, h2, h3⟩ := hgood hb
      exact hnx H5 _ hb (s4.trans s5) (s5 _ _ upd_same) (hgv.mono (TM.same s5)) (by rw [List.length_append]; show fv.length + 1 ≤ j; omega)
  have goOn : ∀ (t : Tok) (R : List Tok) (j : Nat), toks l = acc ++ t :: R → t.w ≠ .bad → i < j → j ≤ l.length → R = scan (l.drop j).length j (l.drop j) → ∀ (H4 : Hp) (gv : List V) (b : Option V), Same H H4 → H4 f = some (.lst gv) → TpAll K H4 gv ((acc ++ [t]).map fun t => t.pw.toD) → gv.length ≤ j →
      ∃ n', n' < l.length - i ∧ ∃ (i' : Nat) (acc' : List Tok) (fv' : List V) (b3 b4 : Option V), [some (.str (S l)), some (.ref f), some (.int (j : Nat)), some (.int (j : Nat)), b] = [some (.str (S l)), some (.ref f), some (.int i'), b3, b4] ∧ i' ≤ l.length ∧ n' = l.length - i' ∧ Same H H4 ∧ H4 f = some (.lst fv') ∧ TpAll K H4 fv' (acc'.map fun t => t.pw.toD) ∧
      toks l = acc' ++ scan (l.drop i').length i' (l.drop i') ∧ (∀ t ∈ acc', t.w.val.canLay0 = true) ∧ (∀ t ∈ acc', t.w ≠ .bad) ∧ fv'.length ≤ i' := by
    intro t R j e hb h1 h2 h3 H4 gv b s4 hg hgv hgl
    refine ⟨_, by omega, j, acc ++ [t], gv, _, _, rfl, h2, rfl, s4, hg, hgv, by rw [e, h3]; simp, okApp t R e, fun t' ht' => ?_, hgl⟩
    rcases List.mem_append.mp ht' with z | z
    · exact hnb t' z
    · rw [List.mem_singleton.mp z]; exact hb
  have hf2 := s2 _ _ hf1
  have s12 := s1.trans s2
  refine ⟨_, rfl, _, rfl, _, _, rfl, rfl, _, rfl, ?_⟩
  rw [hd]
  cases hr2 : isRun l[i] with
  | true =>
    have hp1 := takeWhile_pos (r := l.drop (i + 1)) hr2
    have htr : (l.drop i).take ((l[i] :: l.drop (i + 1)).takeWhile isRun).length = (l[i] :: l.drop (i + 1)).takeWhile isRun := by rw [← hd]; exact take_run _ _
    have hdr : (l.drop i).drop ((l[i] :: l.drop (i + 1)).takeWhile isRun).length = (l[i] :: l.drop (i + 1)).dropWhile isRun := by rw [← hd]; exact drop_run _ _
    have hle : ((l[i] :: l.drop (i + 1)).takeWhile isRun).length ≤ l.length - i := by
      have := dropWhile_len isRun (l[i] :: l.drop (i + 1))
      rw [← hd, List.length_drop] at this
      rw [← hd]; omega
    rw [if_pos hr2] at htk
    generalize hrun : (l[i] :: l.drop (i + 1)).takeWhile isRun = run at *
    refine iteD (c := ((i : Int) < ((i + run.length : Nat) : Int))) (fun _ => ?_) (fun z => absurd (by omega) z)
    have ecut : cutS (S l) (some (i : Nat)) (some ((i + run.length : Nat) : Int)) = S run := by rw [cut_S, show i + run.length - i = run.length by omega, htr]
    refine ⟨_, rfl, _, rfl, _, rfl, _, rfl, _, rfl, _, rfl, by rw [S_len, sizeLine_eq]; omega, run, (by rw [ecut]; rfl), (by intro z; rw [z] at hp1; simp at hp1), by omega, fun H3 v s3 hvb hvg => ?_⟩
    have hf3 := s3 _ _ hf2
    refine ⟨_, rfl, .inl ⟨rfl, _, SqL.of hf3⟩, _, rfl, rfl, _, rfl, ?_⟩
    by_cases hb : wordOf run = .bad
    · rw [hvb hb]
      rw [if_pos hb] at htk
      refine iteT ⟨_, rfl, by show 3 ≤ sizeLine; decide, fun u hu => ⟨f, fv, .ref u, rfl, rfl, same_new hu _ _ hf3, ?_⟩⟩
      exact fin _ ⟨.bad, run, i⟩ [] _ _ _ u htk ((s2.trans s3).trans (same_new hu)) (same_new hu _ _ hf3) (tp_new hu (.three (.str _) (.str _) (.int _))) (fun _ => ⟨rfl, rfl⟩) (fun z => absurd rfl z) (fun _ _ z => absurd rfl z)
    · obtain ⟨p, ys, rfl, h3, h4⟩ := (hvg hb).tup_inv
      rw [if_neg hb] at htk
      refine iteF ⟨_, rfl, _, rfl, by show 1 ≤ sizeLine; decide, fun a1 ha1 => ?_⟩
      have hyl : ys.length = 2 := h4.len
      have hyn : ys ≠ [] := by intro z; rw [z] at hyl; cases hyl
      have e1 := same_new (o := .tup [.int (i : Nat)]) ha1
      refine ⟨p, a1, ys, [.int (i : Nat)], rfl, rfl, e1.seqT h3, SqT.of upd_same, hyn, by rw [sizeLine_eq, hyl]; show 2 + 1 ≤ _; omega, (fun z => absurd z (by simp)), fun _ u hu => ⟨f, fv, .ref u, rfl, rfl, same_new hu _ _ (e1 _ _ hf3), ?_⟩⟩
      have e2 := e1.trans (same_new (o := .tup (ys ++ [.int (i : Nat)])) hu)
      have tp : Tp K (upd (upd H3 a1 (.tup [.int (i : Nat)])) u (.tup (ys ++ [.int (i : Nat)]))) (.ref u) (Tok.pw ⟨wordOf run, run, i⟩).toD := tp_new hu ((h4.mono (TM.same e1)).app (.one (.int _)))
      have hR : scan ((l[i] :: l.drop (i + 1)).dropWhile isRun).length (i + run.length) ((l[i] :: l.drop (i + 1)).dropWhile isRun) = scan (l.drop (i + run.length)).length (i + run.length) (l.drop (i + run.length)) := by
        rw [← hdr, List.drop_drop]
      exact fin _ ⟨wordOf run, run, i⟩ _ (i + run.length) _ _ u htk ((s2.trans s3).trans e2) (same_new hu _ _ (e1 _ _ hf3)) tp (fun z => absurd z hb) (fun _ => ⟨by omega, by omega, hR⟩)
        (fun H4 gv _ s4 hg hgv hgl => goOn _ _ _ htk hb (by omega) (by omega) hR H4 gv _ s4 hg hgv hgl)
  | false =>
    have hrun : (l[i] :: l.drop (i + 1)).takeWhile isRun = [] := by rw [List.takeWhile_cons, if_neg (by rw [hr2]; simp)]
    rw [hrun]
    rw [if_neg (by rw [hr2]; simp)] at htk
    have ecut : cutS (S l) (some (i : Nat)) (some ((i : Int) + 2)) = S ((l[i] :: l.drop (i + 1)).take 2) := by
      have := cut_S (l := l) (i := i) (j := i + 2)
      rw [show i + 2 - i = 2 by omega, hd] at this
      exact this
    refine iteD (c := ((i : Int) < ((i + 0 : Nat) : Int))) (fun z => absurd z (by omega)) (fun _ => ?_)
    refine ⟨_, rfl, _, rfl, _, rfl, _, rfl, _, _, rfl, rfl, _, rfl, _, rfl, by rw [S_len, sizeLine_eq]; omega, rfl, _, rfl, ?_⟩
    rw [ecut]
    have ed : decide (V.str (S ((l[i] :: l.drop (i + 1)).take 2)) = V.str "->") = decide (l[i] = 45 ∧ (l.drop (i + 1)).head? = some 62) := by
      rw [decide_eq_decide]
      have e0 : ("->" : Str) = S [45, 62] := by decide +kernel
      rw [e0]
      generalize l.drop (i + 1) = r
      constructor
      · intro z
        injection z with z
        have z2 := S_inj z
        cases r with
        | nil => simp at z2
        | cons d r => simp at z2; simp [z2]
      · rintro ⟨h1, h2⟩
        cases r with
        | nil => cases h2
        | cons d r =>
          have h2 : d = 62 := Option.some.inj h2
          rw [h1, h2]; rfl
    rw [ed]
    refine iteD (fun ha => ?_) (fun ha => ?_)
    · rw [if_pos ha] at htk
      have hlt2 : i + 2 ≤ l.length := by
        have h2 := ha.2
        cases e : l.drop (i + 1) with
        | nil => rw [e] at h2; cases h2
        | cons d r =>
          have := congrArg List.length e
          rw [List.length_drop] at this
          simp only [List.length_cons] at this
          omega
      have hR : scan (l.drop (i + 1)).tail.length (i + 2) (l.drop (i + 1)).tail = scan (l.drop (i + 2)).length (i + 2) (l.drop (i + 2)) := by
        rw [List.tail_drop]
      refine ⟨_, rfl, _, _, rfl, rfl, ?_⟩
      refine ⟨_, rfl, .inl ⟨rfl, _, SqL.of hf2⟩, _, rfl, by show 3 ≤ sizeLine; decide, fun u hu => ⟨f, fv, .ref u, rfl, rfl, same_new hu _ _ hf2, ?_⟩⟩
      exact fin _ ⟨.mark "->", [45, 62], i⟩ _ (i + 2) _ _ u htk (s2.trans (same_new hu)) (same_new hu _ _ hf2) (tp_new hu (.three (.str _) (.str _) (.int _))) (fun z => by cases z) (fun _ => ⟨by omega, by omega, hR⟩)
        (fun H4 gv _ s4 hg hgv hgl => goOn _ _ _ htk (by simp) (by omega) (by omega) hR H4 gv _ s4 hg hgv hgl)
    · rw [if_neg ha] at htk
      have hR : scan (l.drop (i + 1)).length (i + 1) (l.drop (i + 1)) = scan (l.drop (i + 1)).length (i + 1) (l.drop (i + 1)) := rfl
      refine ⟨_, rfl, _, rfl, _, _, _, rfl, rfl, by rw [S_len, sizeLine_eq]; omega, atI_nat (j := i) hc, ?_⟩
      refine ⟨_, _, rfl, rfl, _, rfl, ?_⟩
      show if isMark l[i] = true then _ else _
      cases hm : isMark l[i] with
      | true =>
        rw [if_pos hm] at htk
        refine iteT ⟨_, rfl, _, _, rfl, rfl, ?_⟩
        refine ⟨_, rfl, .inl ⟨rfl, _, SqL.of hf2⟩, _, rfl, _, rfl, _, _, _, rfl, rfl, by rw [S_len, sizeLine_eq]; omega, atI_nat (j := i) hc, _, rfl, by show 3 ≤ sizeLine; decide, fun u hu => ⟨f, fv, .ref u, rfl, rfl, same_new hu _ _ hf2, ?_⟩⟩
        exact fin _ ⟨.mark (S [l[i]]), [l[i]], i⟩ _ (i + 1) _ _ u htk (s2.trans (same_new hu)) (same_new hu _ _ hf2) (tp_new hu (.three (.str _) (.str _) (.int _))) (fun z => by cases z) (fun _ => ⟨by omega, by omega, hR⟩)
          (fun H4 gv _ s4 hg hgv hgl => goOn _ _ _ htk (by simp) (by omega) (by omega) hR H4 gv _ s4 hg hgv hgl)
      | false =>
        rw [if_neg (by rw [hm]; simp)] at htk
        refine iteF ?_
        refine ⟨_, rfl, _, rfl, _, _, _, rfl, rfl, by rw [S_len, sizeLine_eq]; omega, atI_nat (j := i) hc, rfl, _, rfl, ?_⟩
        have ed2 : decide (V.str ⟨#[l[i]]⟩ = V.str " ") = decide (l[i] = 32) := by
          rw [decide_eq_decide]
          have e0 : (" " : Str) = S [32] := by decide +kernel
          rw [e0]
          constructor
          · intro z
            injection z with z
            have z2 : S [l[i]] = S [32] := z
            exact List.head_eq_of_cons_eq (S_inj z2)
          · intro z; rw [z]
        rw [ed2]
        refine iteD (fun hsp => ?_) (fun hsp => ?_)
        · rw [if_pos hsp] at htk
          refine ⟨_, rfl, _, _, rfl, rfl, ?_⟩
          refine hq _ f fv acc i (i + 1) _ _ hf2 (hfv.mono (TM.same s2)) hok fun H5 s5 => ⟨fun t' ts' z hb => ?_, fun _ => ?_⟩
          · exact absurd hb (hnb t' (by rw [z]; simp))
          · exact ⟨_, by omega, i + 1, acc, fv, _, _, rfl, by omega, rfl, s12.trans s5, s5 _ _ hf2, (hfv.mono (TM.same s2)).mono (TM.same s5), htk, hok, hnb, by omega⟩
        · rw [if_neg hsp] at htk
          refine ⟨_, rfl, .inl ⟨rfl, _, SqL.of hf2⟩, _, rfl, by show 3 ≤ sizeLine; decide, fun u hu => ⟨f, fv, .ref u, rfl, rfl, same_new hu _ _ hf2, ?_⟩⟩
          exact fin _ ⟨.bad, [l[i]], i⟩ [] _ _ _ u htk (s2.trans (same_new hu)) (same_new hu _ _ hf2) (tp_new hu (.three (.str _) (.str _) (.int _))) (fun _ => ⟨rfl, rfl⟩) (fun z => absurd rfl z) (fun _ _ z => absurd rfl z)
end
end KW

/-! part KRead4 -/
set_option maxHeartbeats 4000000
namespace KW
open PySem PySem.Spec PyProof.Rows L2 KM SX
theorem pu_end {f : Str} {v : V} : putF f v [] = [(f, v)] := rfl
theorem pf2 {a v : V} : putF "at" v [("words", a)] = ([("words", a), ("at", v)] : List (Str × V)) := by rw [pu_miss (by decide +kernel), pu_end]
theorem pf3 {a b v : V} : putF "length" v [("words", a), ("at", b)] = ([("words", a), ("at", b), ("length", v)] : List (Str × V)) := by rw [pu_miss (by decide +kernel), pu_miss (by decide +kernel), pu_end]
theorem pf4 {a b c v : V} : putF "todo" v [("words", a), ("at", b), ("length", c)] = ([("words", a), ("at", b), ("length", c), ("todo", v)] : List (Str × V)) := by rw [pu_miss (by decide +kernel), pu_miss (by decide +kernel), pu_miss (by decide +kernel), pu_end]
theorem pf5 {a b c d v : V} : putF "made" v [("words", a), ("at", b), ("length", c), ("todo", d)] = ([("words", a), ("at", b), ("length", c), ("todo", d), ("made", v)] : List (Str × V)) := by
  rw [pu_miss (by decide +kernel), pu_miss (by decide +kernel), pu_miss (by decide +kernel), pu_miss (by decide +kernel), pu_end]
theorem pf6 {a b c d e v : V} : putF "many" v [("words", a), ("at", b), ("length", c), ("todo", d), ("made", e)] = ([("words", a), ("at", b), ("length", c), ("todo", d), ("made", e), ("many", v)] : List (Str × V)) := by
  rw [pu_miss (by decide +kernel), pu_miss (by decide +kernel), pu_miss (by decide +kernel), pu_miss (by decide +kernel), pu_miss (by decide +kernel), pu_end]
theorem stN {K : PySem.W.Frag} {H : Hp} {r dx : Addr} {f : Str} {v : V} {fs fs' : List (Str × V)} {G : Hp → Prop} (c : Cls K (CR K)) (n : NoAttr K (CR K) f) (e : H r = some (.ins (CR K) dx fs)) (hl : fs.length < 1000) (hp : putF f v fs = fs') (q : G (upd H r (.ins (CR K) dx fs'))) :
    ∃ (p C d : Addr) (fs : List (Str × V)), V.ref r = .ref p ∧ H p = some (.ins C d fs) ∧ Cls K C ∧ NoAttr K C f ∧ fs.length < 1000 ∧ G (upd H p (.ins C d (putF f v fs))) := ⟨r, _, _, _, rfl, e, c, n, hl, by rw [hp]; exact q⟩
/-- a call of a class by its name -/
theorem pmk0 {X : Cx} {x : Str} {pos p : Pos} {C f : Addr} {ps : List Str} {sp : Sp} {k : Nat} {E : XK} {e : Expr} {es : List Expr} {t : TA} (G : Good X.prog X.w X.K X.mg X.base k f ps sp) (hr : Room (k + 1) X.A) (M : Mk X.K C f) (hm : X.mg x = some (.ref C)) (hx : Passes (L2.CX X.prog X.w) X E)
    (ha : PA X (e :: es) t) (hg : Gl X x := by rfl) (hdb : (x == ("__debug__" : Str)) = false := by decide) (he : starEach (e :: es) X.env = (false, eval e X.env) :: starEach es X.env := by rfl) (hpl : (backTo pos (starEach es X.env)).any (·.1) = false := by rfl) :
    PE X (.Call (.Name x p) (e :: es) [] pos) (tMake C sp [] E t) := by
  obtain ⟨⟨fd, F, B⟩, kp⟩ := G
  exact pe_make M F hr hg hm B .nil hx ha hdb he hpl
section
variable {P : Program} {w : World} {K : PySem.W.Frag} {mg : Str → Option Value} {base : Heap}
/-! ### Stack.__init__ -/
def spInit (K : PySem.W.Frag) : Sp := fun vs H Q _ => ∃ (r wl dx : Addr) (wv : List V) (toksL : List Tok) (len : Nat) (many : Int), vs = [.ref r, .ref wl, .int len, .int many] ∧ H r = some (.ins (CR K) dx []) ∧ H wl = some (.lst wv) ∧ TpAll K H wv (toksL.map fun t => t.pw.toD) ∧ wv.length ≤ 1000000 ∧
  (∀ t ∈ toksL, t.w.val.canLay0 = true) ∧ ∀ H' t m, (∀ a o, H a = some o → a ≠ r → H' a = some o) → H t = none → H m = none → Rp K r H' len ⟨toksL.map Tok.pw, many, [], []⟩ t m → Q .non H'
theorem ok_init (T : Txt K mg w) : Good P w K mg base 1 (mR K "__init__") ["self", "words", "length", "many"] (spInit K) := by
  refine good_of T.f_init sc_init (fun _ _ _ _ _ _ us hl => match us, hl with | [_, _, _, _], _ => rfl) (fun vs H Q E h => by obtain ⟨_, _, _, _, _, _, _, rfl, _⟩ := h; rfl) (fun cdv A outer s H vs Q E hr h => ?_)
  obtain ⟨r, wl, dx, wv, tl, len, many, rfl, hr0, hw, hW, hwl, hok, k⟩ := h
  refine ⟨_, (pss_cons (ps_fld (pv 0) (pv 1) rfl)
      (pss_cons (ps_fld (pv 0) pe_int rfl)
      (pss_cons (ps_fld (pv 0) (pv 2) rfl)
      (pss_cons (ps_fld (pv 0) (pe_lst pa_nil) rfl)
      (pss_cons (ps_fld (pv 0) (pe_lst pa_nil) rfl)
      (pss_one (ps_fld (pv 0) (pv 3) rfl))))))), ?_⟩
  have nrw : r ≠ wl := ne_of hr0 hw (by intro z; cases z)
  refine ⟨_, rfl, _, rfl, stN T.cl T.n_words hr0 (by show 0 < 1000; decide) pu_end ?_⟩
  refine ⟨_, rfl, stN T.cl T.n_at upd_same (by show 1 < 1000; decide) pf2 ?_⟩
  refine ⟨_, rfl, _, rfl, stN T.cl T.n_length upd_same (by show 2 < 1000; decide) pf3 ?_⟩
  refine ⟨Nat.zero_le _, fun t ht => ?_⟩
  have nrt : r ≠ t := fun z => by rw [← z, upd_same] at ht; cases ht
  have ht0 : H t = none := by rw [upd_ne nrt.symm, upd_ne nrt.symm, upd_ne nrt.symm] at ht; exact ht
  refine ⟨_, rfl, stN T.cl T.n_todo (by rw [upd_ne nrt]; exact upd_same) (by show 3 < 1000; decide) pf4 ?_⟩
  refine ⟨Nat.zero_le _, fun m hm => ?_⟩
  have nrm : r ≠ m := fun z => by rw [← z, upd_same] at hm; cases hm
  have ntm : t ≠ m := fun z => by rw [← z, upd_ne nrt.symm, upd_same] at hm; cases hm
  have hm0 : H m = none := by rw [upd_ne nrm.symm, upd_ne ntm.symm, upd_ne nrm.symm, upd_ne nrm.symm, upd_ne nrm.symm] at hm; exact hm
  refine ⟨_, rfl, stN T.cl T.n_made (by rw [upd_ne nrm]; exact upd_same) (by show 4 < 1000; decide) pf5 ?_⟩
  refine ⟨_, rfl, _, rfl, stN T.cl T.n_many upd_same (by show 5 < 1000; decide) pf6 ?_⟩
  have keep : ∀ (o1 o2 o3 o4 o5 o6 : HO) (ol om : HO), ∀ a o, H a = some o → a ≠ r → upd (upd (upd (upd (upd (upd (upd (upd H r o1) r o2) r o3) t ol) r o4) m om) r o5) r o6 a = some o := by
    intro o1 o2 o3 o4 o5 o6 ol om a o e n
    rw [upd_ne n, upd_ne n, upd_ne (ne_of_none e hm0), upd_ne n, upd_ne (ne_of_none e ht0), upd_ne n, upd_ne n, upd_ne n]
    exact e
  refine k _ t m (keep _ _ _ _ _ _ _ _) ht0 hm0 ⟨⟨dx, wl, 0, wv, tl.map Tok.pw, [], [], upd_same, keep _ _ _ _ _ _ _ _ _ _ hw nrw.symm, ?_, rfl, Nat.zero_le _, hwl, ?_, .nil, ?_, .nil, ntm, ?_, ?_⟩, ?_⟩
  · rw [List.map_map]
    refine hW.mono fun a xs h => ?_
    have na : a ≠ r := fun z => by
      rcases h with h | ⟨o, h⟩ <;> (rw [z, hr0] at h; cases h)
    rcases h with h | ⟨o, h⟩
    · exact .inl (keep _ _ _ _ _ _ _ _ _ _ h na)
    · exact .inr ⟨o, keep _ _ _ _ _ _ _ _ _ _ h na⟩
  · rw [upd_ne nrt.symm, upd_ne nrt.symm, upd_ne ntm, upd_ne nrt.symm, upd_same]
  · rw [upd_ne nrm.symm, upd_ne nrm.symm, upd_same]
  · exact (ne_of_none hw ht0)
  · exact (ne_of_none hw hm0)
  · intro p hp
    obtain ⟨t', ht', rfl⟩ := List.mem_map.mp hp
    exact hok t' ht'
/-! ### reader_of -/
def Bad (K : PySem.W.Frag) (H : Hp) (E : XK) (v : V) : Prop := ∀ H' d, Same H H' → H' d = some (.xd [("at", v)]) → E (.ref (CB K)) (some d) H'
theorem Bad.same {H H' : Hp} {E : XK} {v : V} (b : Bad K H E v) (s : Same H H') : Bad K H' E v := fun H2 d s2 e => b H2 d (s.trans s2) e
def psOf (l : List Nat) (many : Int) : PS := ⟨(toks l).map Tok.pw, many, [], []⟩
def spReaderOf (K : PySem.W.Frag) : Sp := fun vs H Q E => ∃ (x : V) (many most : Int), vs = [x, .int many, .int most] ∧
  ((∃ l : List Nat, x = .str (S l) ∧ l.length ≤ 1000000 ∧ (most < (l.length : Nat) → Bad K H E .non) ∧ (¬ most < (l.length : Nat) → ∀ H' r t m, Same H H' → H r = none → H t = none → H m = none → Rp K r H' l.length (psOf l many) t m → Q (.ref r) H')) ∨
   (∃ t, TyX K H x t ∧ PySem.W.kitOne K t (.type "str") = some false ∧ Bad K H E .non))
theorem ok_reader_of (T : Txt K mg w) : Good P w K mg base 4 (He.ga K "reader_of") ["text", "many", "most"] (spReaderOf K) := by
  have GW := ok_words_of (P := P) (base := base) T
  have GI := ok_init (P := P) (base := base) T
  refine good_of T.f_reader_of sc_reader_of (fun _ _ _ _ _ _ us hl => match us, hl with | [_, _, _], _ => rfl) (fun vs H Q E h => by obtain ⟨_, _, _, rfl, _⟩ := h; rfl) (fun cdv A outer s H vs Q E hr h => ?_)
  obtain ⟨x, many, most, rfl, h⟩ := h
  refine ⟨_, (pss_cons (ps_if (PW.pt (pw_or (pt_not (pt_val (pe_callB call_isi (by rfl) T.z_isinstance (by decide +kernel) (pa_cons (pv 0) (pa_cons (pe_bltn (by rfl) T.z_str (v := .ty "str") (u := .type "str") (by decide +kernel) rfl) pa_nil))))) (pw_or1 (pt_cmpR op_gt (pe_callB call_len_str (by rfl) T.z_len (by decide +kernel) (pa_cons (pv 0) pa_nil)) (pv 2) (nomark _))))) (pss_one (ps_bad T (hr.mono (by decide)) rfl (takes_of rfl rfl rfl rfl) pe_non)) pss_nil)
      (pss_one (ps_ret (pmk0 GI (hr.mono (by decide)) T.mkR T.g_Reader px (pa_cons (pf GW (hr.mono (by decide)) T.g_words_of px (pa_cons (pv 0) pa_nil)) (pa_cons (pe_callB call_len_str (by rfl) T.z_len (by decide +kernel) (pa_cons (pv 0) pa_nil)) (pa_cons (pv 1) pa_nil))))))), ?_⟩
  rcases h with ⟨l, rfl, hl, k1, k2⟩ | ⟨t, h1, h2, k⟩
  · refine ⟨_, rfl, _, _, _, _, true, rfl, .ty "str", .base (.str _), kit_ty (by decide +kernel), _, rfl, ?_⟩
    refine iteF ⟨_, rfl, _, rfl, by rw [S_len, sizeLine_eq]; omega, _, rfl, _, _, rfl, rfl, _, rfl, ?_⟩
    rw [S_len]
    refine iteD (c := (most < (l.length : Nat))) (fun c => ?_) (fun c => ?_)
    · exact mk_bad fun d hd => k1 c _ d (same_new hd) upd_same
    · refine ⟨_, rfl, l, rfl, hl, fun H1 f fv s1 hf hf1 hfv => ?_⟩
      refine ⟨_, rfl, _, rfl, by rw [S_len, sizeLine_eq]; omega, _, rfl, fun r dx hr1 hd1 nd => ?_⟩
      have s2 : Same H1 (upd (upd H1 dx (.own r)) r (.ins (CR K) dx [])) := fun b o e => by rw [upd_ne (ne_of_none e hr1), upd_ne (ne_of_none e hd1)]; exact e
      have hlen : fv.length = (toks l).length := by rw [hfv.len, List.length_map]
      refine ⟨r, f, dx, fv, toks l, l.length, many, by rw [S_len]; rfl, upd_same, s2 _ _ hf1, hfv.mono (TM.same s2), ?_, scan_ok l.length 0 l, fun H3 t m hk ht hm R => ⟨rfl, ?_⟩⟩
      · have := scan_len l.length 0 l
        show fv.length ≤ _
        rw [hlen]
        show (scan l.length 0 l).length ≤ _
        omega
      · have s3 : Same H1 H3 := fun b o e => hk b o (s2 _ _ e) (ne_of_none e hr1)
        have nt : H1 t = none := by
          cases e : H1 t with
          | none => rfl
          | some o => rw [s2 _ _ e] at ht; cases ht
        have nm : H1 m = none := by
          cases e : H1 m with
          | none => rfl
          | some o => rw [s2 _ _ e] at hm; cases hm
        have up : ∀ {a : Addr}, H1 a = none → H a = none := fun {a} h => by
          cases e : H a with
          | none => rfl
          | some o => rw [s1 _ _ e] at h; cases h
        exact k2 c H3 r t m (s1.trans s3) (up hr1) (up nt) (up nm) R
  · refine ⟨_, rfl, _, _, _, _, false, rfl, .ty "str", h1, h2, _, rfl, iteT ?_⟩
    exact mk_bad fun d hd => k _ d (same_new hd) upd_same
end
end KW

/-! part KRead5 -/
set_option maxHeartbeats 4000000
namespace KW
open PySem PySem.Spec PyProof.Rows L2 KM SX
/-- what a run of tasks gives: what was read, or the place of the fault -/
def outF (len : Nat) : Rs → Md ⊕ Nat
  | .err p => .inr p
  | .ok S => if S.rest = [] then (match S.made with
    | d :: _ => .inl d
    | [] => .inr 0) else .inr (nowW len S.rest).pos
  | .stuck => .inr 0
theorem outF_made {len : Nat} {S : PS} {d : Md} (e : S.made = [d]) : outF len (.ok S) = if S.rest = [] then .inl d else .inr (nowW len S.rest).pos := by
  show (if S.rest = [] then (match S.made with
    | d :: _ => Sum.inl d
    | [] => Sum.inr 0) else Sum.inr (nowW len S.rest).pos) = _
  rw [e]
def runOf (l : List Nat) (many : Int) (t : Tk) : Rs := runF l.length (mu ((psOf l many).add [t]) + 1) ((psOf l many).add [t])
def stmtOut (l : List Nat) (many : Int) : PyData ⊕ Nat := match outF l.length (runOf l many .stmt) with
  | .inl (.T d p q) => if p > 400 ∨ q > 40 then .inr l.length else .inl d
  | .inl _ => .inr 0
  | .inr p => .inr p
/-- a ground that is not too great -/
def wholeG (len : Nat) : Md → PyData ⊕ Nat
  | .P d p q g => if p > 4000 ∨ q > 150 ∨ g = false then .inr len else .inl d
  | _ => .inr 0
theorem wholeG_P {len : Nat} {d : PyData} {p q : Int} {g : Bool} : wholeG len (.P d p q g) = if p > 4000 ∨ q > 150 ∨ g = false then .inr len else .inl d := rfl
def groundOut (l : List Nat) (many : Int) : PyData ⊕ Nat := match outF l.length (runOf l many .ground) with
  | .inl d => wholeG l.length d
  | .inr p => .inr p
theorem inv_psOf (l : List Nat) (many : Int) {t : Tk} (ht : bL t = 0) : Inv0 pT ((psOf l many).add [t]) := by
  constructor
  · show phi aL bL gL ⟨(toks l).map Tok.pw, many, [t], []⟩ = 0
    have h := scan_ok l.length 0 l
    have : (((toks l).map Tok.pw).map fun p => aL p.w).sum = 0 := by
      unfold toks
      generalize scan l.length 0 l = ts at h
      induction ts with
      | nil => rfl
      | cons a ts ih =>
        simp only [List.map_cons, List.sum_cons]
        rw [ih fun t ht => h t (List.mem_cons_of_mem _ ht)]
        have := h a List.mem_cons_self
        show aL a.w + 0 = 0
        unfold aL
        rw [this]; rfl
    simp only [phi, this, List.map_cons, List.map_nil, List.sum_cons, List.sum_nil, ht, Nat.add_zero]
  · intro q hq
    obtain ⟨t', ht', rfl⟩ := List.mem_map.mp hq
    have := scan_told l.length 0 l t' ht'
    show pT t'.w = true
    unfold pT
    split
    · rename_i x e; exact decide_eq_true (this x e)
    · rfl
theorem mu_psOf (l : List Nat) (many : Int) (t : Tk) : mu ((psOf l many).add [t]) ≤ 100 * l.length + bM t := by
  have h := scan_len l.length 0 l
  have e : ((toks l).map fun _ => 100).sum = 100 * (toks l).length := by
    generalize toks l = ts
    induction ts with
    | nil => rfl
    | cons a ts ih => simp only [List.map_cons, List.sum_cons, ih, List.length_cons]; omega
  have e2 : mu ((psOf l many).add [t]) = 100 * (toks l).length + bM t := by
    show phi _ _ _ ⟨(toks l).map Tok.pw, many, [t], []⟩ = _
    unfold phi
    rw [List.map_map, show ((fun _ : PW => 100) ∘ Tok.pw) = fun _ => 100 from rfl, e]
    simp
  rw [e2]
  have : (toks l).length ≤ l.length := h
  omega
theorem stmt_fine (l : List Nat) (many : Int) : (∃ q, runOf l many .stmt = .err q) ∨ ∃ S' d p q, runOf l many .stmt = .ok S' ∧ S'.made = [.T d p q] := by
  rcases run_fine (F := fun s => s = [.T]) (len := l.length) (p := pT) _ ((psOf l many).add [.stmt]) [] (Nat.lt_succ_self _) (inv_psOf l many (by decide +kernel)) rfl trivial with h | ⟨S', h1, h2, h3, s', h4, h5⟩
  · exact .inl h
  · subst h4
    obtain ⟨m, r, e, h6, h7⟩ := has_cons h5
    cases r with
    | cons _ _ => exact h7.elim
    | nil =>
      cases m with
      | T d p q => exact .inr ⟨S', d, p, q, h1, e⟩
      | _ => cases h6
theorem ground_fine (l : List Nat) (many : Int) : (∃ q, runOf l many .ground = .err q) ∨ ∃ S' d p q g, runOf l many .ground = .ok S' ∧ S'.made = [.P d p q g] := by
  rcases run_fine (F := fun s => s = [.P]) (len := l.length) (p := pT) _ ((psOf l many).add [.ground]) [] (Nat.lt_succ_self _) (inv_psOf l many (by decide +kernel)) rfl trivial with h | ⟨S', h1, h2, h3, s', h4, h5⟩
  · exact .inl h
  · subst h4
    obtain ⟨m, r, e, h6, h7⟩ := has_cons h5
    cases r with
    | cons _ _ => exact h7.elim
    | nil =>
      cases m with
      | P d p q g => exact .inr ⟨S', d, p, q, g, h1, e⟩
      | _ => cases h6
section
variable {P : Program} {w : World} {K : PySem.W.Frag} {mg : Str → Option Value} {base : Heap}
theorem runOut_of {r t m : Addr} {len : Nat} {H : Hp} {Q : VK} {E : XK} {x : Rs} (h : (∃ q, x = .err q) ∨ ∃ S' d, x = .ok S' ∧ S'.made = [d]) (k1 : ∀ d, outF len x = .inl d → ∀ H' v, GoE r t m H H' → Tp K H' v d.toD → Q v H')
    (k2 : ∀ p, outF len x = .inr p → ∀ H' d, GoE r t m H H' → H' d = some (.xd [("at", .int (p : Nat))]) → E (.ref (CB K)) (some d) H') : RunOut K r t m len H Q E x := by
  rcases h with ⟨q, rfl⟩ | ⟨S', d, rfl, e⟩
  · exact k2 q rfl
  · unfold RunOut
    by_cases hr : S'.rest = []
    · show if S'.rest = [] then _ else _
      rw [if_pos hr]
      refine ⟨d, [], e, k1 d ?_⟩
      rw [outF_made e, if_pos hr]
    · show if S'.rest = [] then _ else _
      rw [if_neg hr]
      refine k2 _ ?_
      rw [outF_made e, if_neg hr]
theorem goE_same {r t m : Addr} {H H1 H2 : Hp} (s : Same H H1) (g : GoE r t m H1 H2) (hr : H r = none) (ht : H t = none) (hm : H m = none) : Same H H2 := fun a o e => g a o (s _ _ e) (ne_of_none e hr) (ne_of_none e ht) (ne_of_none e hm)
/-- a value with these data, or a fault at this place -/
def Ends2 (K : PySem.W.Frag) (H : Hp) (Q : VK) (E : XK) (o : PyData ⊕ Nat) : Prop := match o with
  | .inl d => ∀ H' v, Same H H' → Tp K H' v d → Q v H'
  | .inr p => Bad K H E (.int (p : Nat))
def spSmall (K : PySem.W.Frag) : Sp := fun vs H Q E => ∃ (l : List Nat) (many : Int), vs = [.str (S l), .int many, .str "statement"] ∧ l.length ≤ 5000 ∧ Ends2 K H Q E (stmtOut l many)
theorem ok_small_one (T : Txt K mg w) : Good P w K mg base 12 (He.ga K "small_one") ["text", "many", "task"] (spSmall K) := by
  have GO := ok_reader_of (P := P) (base := base) T
  have GR := ok_run (P := P) (base := base) T
  refine good_of T.f_small_one sc_small_one (fun _ _ _ _ _ _ us hl => match us, hl with | [_, _, _], _ => rfl) (fun vs H Q E h => by obtain ⟨_, _, rfl, _⟩ := h; rfl) (fun cdv A outer s H vs Q E hr h => ?_)
  obtain ⟨l, many, rfl, hl, k⟩ := h
  refine ⟨_, (pss_cons (ps_asg (pm GR (hr.mono (by decide)) T.cl T.m_run px (pf GO (hr.mono (by decide)) T.g_reader_of px (pa_cons (pv 0) (pa_cons (pv 1) (pa_cons (pg_i T.c_MOST_SIGNS) pa_nil)))) (pa_cons (pe_lst (pa_cons (pe_tup (pa_cons (pv 2) pa_nil)) pa_nil)) pa_nil)) (pg_tup rfl (pgs_cons (pg_name (i := 3) sc_small_one.nd rfl (Or.inl rfl)) (pgs_cons (pg_name (i := 4) sc_small_one.nd rfl (Or.inl rfl)) (pgs_cons (pg_name (i := 5) sc_small_one.nd rfl (Or.inl rfl)) pgs_nil)))))
      (pss_cons (ps_if (PW.pt (pw_or (pt_cmpR op_gt (pv 4) (pg_i T.c_MOST_PARTS) (nomark _)) (pw_or1 (pt_cmpR op_gt (pv 5) (pg_i T.c_MOST_DEEP) (nomark _))))) (pss_one (ps_bad T (hr.mono (by decide)) rfl (takes_of rfl rfl rfl rfl) (pe_callB call_len_str (by rfl) T.z_len (by decide +kernel) (pa_cons (pv 0) pa_nil)))) pss_nil)
      (pss_one (ps_ret (pv 3))))), ?_⟩
  refine ⟨_, rfl, _, rfl, _, many, 20000, rfl, .inl ⟨l, rfl, by omega, fun z => absurd z (by omega), fun _ H1 r t m s1 hr0 ht0 hm0 R => ?_⟩⟩
  obtain ⟨dx, wd, at', hR⟩ := R.ins_
  refine ⟨r, _, _, rfl, hR, rd_none, _, rfl, by show 1 ≤ sizeLine; decide, fun u hu => ?_⟩
  refine ⟨by show 1 ≤ sizeLine; decide, fun ul hul => ?_⟩
  have e1 := same_new (o := .tup [.str "statement"]) hu
  have el := same_new (o := .lst [.ref u]) hul
  have s2 := e1.trans el
  have hmu := mu_psOf l many .stmt
  refine ⟨r, t, m, ul, l.length, mu ((psOf l many).add [.stmt]) + 1, psOf l many, _, [.stmt], rfl, R.same s2, SqL.of upd_same, .one ((tp_new hu (.one (.str _))).mono (TM.same el)), by simp, by show 0 ≤ 2000000; omega, inv_psOf l many (by decide +kernel), by simp only [bM] at hmu; omega, ?_⟩
  have hf := stmt_fine l many
  refine runOut_of (x := runOf l many .stmt) (by rcases hf with h | ⟨S', d, p, q, h1, h2⟩; exact .inl h; exact .inr ⟨S', _, h1, h2⟩) (fun d ed H2 v g2 tv => ?_) (fun p ep H2 d g2 hd => ?_)
  · have s3 : Same H H2 := goE_same (s1.trans s2) g2 hr0 ht0 hm0
    obtain ⟨d0, p, q, rfl⟩ : ∃ d0 p q, d = .T d0 p q := by
      rcases hf with ⟨q, h⟩ | ⟨S', d0, p, q, h1, h2⟩
      · rw [h] at ed; cases ed
      · rw [h1, outF_made h2] at ed
        split at ed
        · injection ed with ed; exact ⟨d0, p, q, ed.symm⟩
        · cases ed
    obtain ⟨a, xs, rfl, h1, h2⟩ := tv.tup_inv
    obtain ⟨v1, r1, rfl, q1, h3⟩ := h2.cons_inv
    obtain ⟨v2, r2, rfl, q2, h4⟩ := h3.cons_inv
    obtain ⟨v3, r3, rfl, q3, h5⟩ := h4.cons_inv
    cases h5.nil_inv
    cases q2.int_inv
    cases q3.int_inv
    have eo : stmtOut l many = if p > 400 ∨ q > 40 then .inr l.length else .inl d0 := by unfold stmtOut; rw [ed]
    rw [eo] at k
    refine ⟨a, _, rfl, h1, rfl, _, _, rfl, _, _, rfl, _, _, rfl, rfl, ?_⟩
    refine ⟨_, rfl, _, _, rfl, rfl, _, rfl, ?_⟩
    refine iteD (c := (400 < p)) (fun c => iteT ?_) (fun c => ?_)
    · rw [if_pos (.inl c)] at k
      refine ⟨_, rfl, _, rfl, by rw [S_len, sizeLine_eq]; omega, ?_⟩
      rw [S_len]
      exact mk_bad fun d hd => k _ d (s3.trans (same_new hd)) upd_same
    · refine ⟨_, rfl, _, _, rfl, rfl, _, rfl, ?_⟩
      refine iteD (c := (40 < q)) (fun c2 => ?_) (fun c2 => ?_)
      · rw [if_pos (.inr c2)] at k
        refine ⟨_, rfl, _, rfl, by rw [S_len, sizeLine_eq]; omega, ?_⟩
        rw [S_len]
        exact mk_bad fun d hd => k _ d (s3.trans (same_new hd)) upd_same
      · rw [if_neg (by omega)] at k
        exact ⟨_, rfl, k H2 v1 s3 q1⟩
  · have s3 : Same H H2 := goE_same (s1.trans s2) g2 hr0 ht0 hm0
    have eo : stmtOut l many = .inr p := by unfold stmtOut; rw [ep]
    rw [eo] at k
    exact k H2 d s3 hd
def spReadS (K : PySem.W.Frag) : Sp := fun vs H Q E => ∃ (l : List Nat) (many : Int), vs = [.str (S l), .int many] ∧ l.length ≤ 5000 ∧ Ends2 K H Q E (stmtOut l many)
theorem ok_read_statement (T : Txt K mg w) : Good P w K mg base 13 (He.ga K "read_statement") ["text", "many"] (spReadS K) := by
  have GS := ok_small_one (P := P) (base := base) T
  refine good_of T.f_read_statement sc_read_statement (fun _ _ _ _ _ _ us hl => match us, hl with | [_, _], _ => rfl) (fun vs H Q E h => by obtain ⟨_, _, rfl, _⟩ := h; rfl) (fun cdv A outer s H vs Q E hr h => ?_)
  obtain ⟨l, many, rfl, hl, k⟩ := h
  exact ⟨_, (pss_one (ps_ret (pf GS (hr.mono (by decide)) T.g_small_one px (pa_cons (pv 0) (pa_cons (pv 1) (pa_cons pe_str pa_nil)))))), _, rfl, _, rfl, l, many, rfl, hl, k⟩
def spWholeG (K : PySem.W.Frag) : Sp := fun vs H Q E => ∃ (v : V) (d : PyData) (p q : Int) (g : Bool) (len : Nat), vs = [v, .int len] ∧ Tp K H v (Md.P d p q g).toD ∧ Ends2 K H Q E (wholeG len (.P d p q g))
theorem ok_whole_ground (T : Txt K mg w) : Good P w K mg base 3 (He.ga K "whole_ground") ["found", "length"] (spWholeG K) := by
  refine good_of T.f_whole_ground sc_whole_ground (fun _ _ _ _ _ _ us hl => match us, hl with | [_, _], _ => rfl) (fun vs H Q E h => by obtain ⟨_, _, _, _, _, _, rfl, _⟩ := h; rfl) (fun cdv A outer s H vs Q E hr h => ?_)
  obtain ⟨v, d, p, q, g, len, rfl, tv, k⟩ := h
  obtain ⟨a, xs, rfl, h1, h2⟩ := tv.tup_inv
  obtain ⟨v1, r1, rfl, q1, h3⟩ := h2.cons_inv
  obtain ⟨v2, r2, rfl, q2, h4⟩ := h3.cons_inv
  obtain ⟨v3, r3, rfl, q3, h5⟩ := h4.cons_inv
  obtain ⟨v4, r4, rfl, q4, h6⟩ := h5.cons_inv
  cases h6.nil_inv
  cases q2.int_inv
  cases q3.int_inv
  cases q4.bl_inv
  rw [wholeG_P] at k
  refine ⟨_, (pss_cons (ps_asg (pv 0) (pg_tup rfl (pgs_cons (pg_name (i := 2) sc_whole_ground.nd rfl (Or.inl rfl)) (pgs_cons (pg_name (i := 3) sc_whole_ground.nd rfl (Or.inl rfl)) (pgs_cons (pg_name (i := 4) sc_whole_ground.nd rfl (Or.inl rfl)) (pgs_cons (pg_name (i := 5) sc_whole_ground.nd rfl (Or.inl rfl)) pgs_nil))))))
      (pss_cons (ps_if (PW.pt (pw_or (pt_cmpR op_gt (pv 3) (pg_i T.c_MOST_GROUNDS) (nomark _)) (pw_or (pt_cmpR op_gt (pv 4) (pg_i T.c_MOST_WITHIN) (nomark _)) (pw_or1 (pt_not (pt_val (pv 5))))))) (pss_one (ps_bad T (hr.mono (by decide)) rfl (takes_of rfl rfl rfl rfl) (pv 1))) pss_nil)
      (pss_one (ps_ret (pv 2))))), ?_⟩
  refine ⟨_, rfl, a, _, rfl, h1, rfl, _, _, rfl, _, _, rfl, _, _, rfl, _, _, rfl, rfl, ?_⟩
  refine ⟨_, rfl, _, _, rfl, rfl, _, rfl, ?_⟩
  refine iteD (c := (4000 < p)) (fun c => iteT ?_) (fun c => ?_)
  · rw [if_pos (.inl c)] at k
    exact ⟨_, rfl, mk_bad fun d hd => k _ d (same_new hd) upd_same⟩
  refine ⟨_, rfl, _, _, rfl, rfl, _, rfl, ?_⟩
  refine iteD (c := (150 < q)) (fun c2 => iteT ?_) (fun c2 => ?_)
  · rw [if_pos (.inr (.inl c2))] at k
    exact ⟨_, rfl, mk_bad fun d hd => k _ d (same_new hd) upd_same⟩
  refine ⟨_, rfl, _, rfl, ?_⟩
  cases g with
  | false =>
    rw [if_pos (.inr (.inr rfl))] at k
    exact iteT ⟨_, rfl, mk_bad fun d hd => k _ d (same_new hd) upd_same⟩
  | true =>
    rw [if_neg (by simp; omega)] at k
    exact iteF ⟨_, rfl, k H v1 (Same.refl _) q1⟩
def spReadG (K : PySem.W.Frag) : Sp := fun vs H Q E => ∃ (l : List Nat) (many : Int), vs = [.str (S l), .int many] ∧ l.length ≤ 5000 ∧ Ends2 K H Q E (groundOut l many)
theorem ok_read_ground (T : Txt K mg w) : Good P w K mg base 12 (He.ga K "read_ground") ["text", "many"] (spReadG K) := by
  have GO := ok_reader_of (P := P) (base := base) T
  have GR := ok_run (P := P) (base := base) T
  have GW := ok_whole_ground (P := P) (base := base) T
  refine good_of T.f_read_ground sc_read_ground (fun _ _ _ _ _ _ us hl => match us, hl with | [_, _], _ => rfl) (fun vs H Q E h => by obtain ⟨_, _, rfl, _⟩ := h; rfl) (fun cdv A outer s H vs Q E hr h => ?_)
  obtain ⟨l, many, rfl, hl, k⟩ := h
  refine ⟨_, (pss_one (ps_ret (pf GW (hr.mono (by decide)) T.g_whole_ground px (pa_cons (pm GR (hr.mono (by decide)) T.cl T.m_run px (pf GO (hr.mono (by decide)) T.g_reader_of px (pa_cons (pv 0) (pa_cons (pv 1) (pa_cons (pg_i T.c_MOST_SIGNS) pa_nil)))) (pa_cons (pe_lst (pa_cons (pe_tup (pa_cons pe_str pa_nil)) pa_nil)) pa_nil)) (pa_cons (pe_callB call_len_str (by rfl) T.z_len (by decide +kernel) (pa_cons (pv 0) pa_nil)) pa_nil))))), ?_⟩
  refine ⟨_, rfl, _, rfl, _, many, 20000, rfl, .inl ⟨l, rfl, by omega, fun z => absurd z (by omega), fun _ H1 r t m s1 hr0 ht0 hm0 R => ?_⟩⟩
  obtain ⟨dx, wd, at', hR⟩ := R.ins_
  refine ⟨r, _, _, rfl, hR, rd_none, by show 1 ≤ sizeLine; decide, fun u hu => ?_⟩
  refine ⟨by show 1 ≤ sizeLine; decide, fun ul hul => ?_⟩
  have e1 := same_new (o := .tup [.str "ground"]) hu
  have el := same_new (o := .lst [.ref u]) hul
  have s2 := e1.trans el
  have hmu := mu_psOf l many .ground
  refine ⟨r, t, m, ul, l.length, mu ((psOf l many).add [.ground]) + 1, psOf l many, _, [.ground], rfl, R.same s2, SqL.of upd_same, .one ((tp_new hu (.one (.str _))).mono (TM.same el)), by simp, by show 0 ≤ 2000000; omega, inv_psOf l many (by decide +kernel), by simp only [bM] at hmu; omega, ?_⟩
  have hf := ground_fine l many
  refine runOut_of (x := runOf l many .ground) (by rcases hf with h | ⟨S', d, p, q, g, h1, h2⟩; exact .inl h; exact .inr ⟨S', _, h1, h2⟩) (fun d ed H2 v g2 tv => ?_) (fun p ep H2 d g2 hd => ?_)
  · have s3 : Same H H2 := goE_same (s1.trans s2) g2 hr0 ht0 hm0
    obtain ⟨d0, p, q, g, rfl⟩ : ∃ d0 p q g, d = .P d0 p q g := by
      rcases hf with ⟨q, h⟩ | ⟨S', d0, p, q, g, h1, h2⟩
      · rw [h] at ed; cases ed
      · rw [h1, outF_made h2] at ed
        split at ed
        · injection ed with ed; exact ⟨d0, p, q, g, ed.symm⟩
        · cases ed
    have eo : groundOut l many = wholeG l.length (.P d0 p q g) := by unfold groundOut; rw [ed]
    rw [eo] at k
    refine ⟨_, rfl, _, rfl, by rw [S_len, sizeLine_eq]; omega, v, d0, p, q, g, l.length, by rw [S_len]; rfl, tv, ?_⟩
    cases ew : wholeG l.length (.P d0 p q g) with
    | inl d => rw [ew] at k; exact fun H' v' s' t' => k H' v' (s3.trans s') t'
    | inr p => rw [ew] at k; exact fun H' d s' e => k H' d (s3.trans s') e
  · have s3 : Same H H2 := goE_same (s1.trans s2) g2 hr0 ht0 hm0
    have eo : groundOut l many = .inr p := by unfold groundOut; rw [ep]
    rw [eo] at k
    exact k H2 d s3 hd
end
end KW

/-! part KEntM -/
set_option maxHeartbeats 4000000
/-! The mirror of the entries. -/
namespace KM
open PySem
inductive Er (α : Type) where
  | err (p : Nat) | ok (a : α) (S : PS)
def Er.bind {α β : Type} (x : Er α) (f : α → PS → Er β) : Er β := match x with
  | .err p => .err p
  | .ok a S => f a S
def takeNames : List PW → List Str × List PW
  | ⟨.name x, _⟩ :: r => let q := takeNames r; (x :: q.1, q.2)
  | l => ([], l)
section
variable (len : Nat)
def wrongE {α : Type} (S : PS) : Er α := .err (nowW len S.rest).pos
def needE (w0 : Wd) (S : PS) : Er Unit := if nw len S = w0 then .ok () S.adv else wrongE len S
def nameE (S : PS) : Er Str := match nw len S with
  | .name x => .ok x S.adv
  | _ => wrongE len S
/-- one name or more -/
def namesE (S : PS) : Er (List Str) := (nameE len S).bind fun x S => .ok (x :: (takeNames S.rest).1) { S with rest := (takeNames S.rest).2 }
def namesBehind (S : PS) : Er (List Str) := if nw len S = .mark ":" then namesE len S.adv else .ok [] S
def strsD (xs : List Str) : PyData := .tuple (xs.map .str)
def funcE2 (x : Str) (ns : List Str) (S : PS) : Er PyData :=
  if decide (1 < ns.length) = true ∨ nw len S = .mark "->" then (needE len (.mark "->") S).bind fun _ S => (nameE len S).bind fun y S => .ok (.tuple [.str "func", .str x, strsD ns, .str y]) S
  else .ok (.tuple [.str "func", .str x, .tuple [], .str (ns.headD "")]) S
def funcE (x : Str) (S : PS) : Er PyData := (needE len (.mark ":") S).bind fun _ S => (namesE len S).bind fun ns S => funcE2 len x ns S
def partS (many : Int) (t : Tk) (S : PS) : PS := { S with many := many }.add [t]
def partE (many : Int) (t : Tk) (S : PS) : Er Md := match runF len (mu (partS many t S) + 1) (partS many t S) with
  | .err p => .err p
  | .ok S' => (match S'.made with
    | d :: l => .ok d { S' with made := l }
    | [] => .err 0)
  | .stuck => .err 0
def stmtE (many : Int) (S : PS) : Er (PyData × Bool) := (partE len many .stmt S).bind fun d S => match d with
  | .T d p q => .ok (d, decide (p ≤ 400) && decide (q ≤ 40)) S
  | _ => .err 0
def groundE (S : PS) : Er PyData := (partE len 0 .ground S).bind fun d S => match KW.wholeG len d with
  | .inl g => .ok g S
  | .inr p => .err p
def toldE (word x : Str) (S : PS) : Er (PyData × Bool) :=
  if word = "mean" then (namesBehind len S).bind fun ns S => (needE len (.told "by") S).bind fun _ S => (stmtE len ns.length S).bind fun a S => .ok (.tuple [.str "mean", .str x, strsD ns, a.1], a.2) S
  else (needE len (.mark ":") S).bind fun _ S => (stmtE len 0 S).bind fun a S =>
    if word = "taken" then .ok (.tuple [.str "taken", .str x, a.1], a.2) S
    else (needE len (.told "by") S).bind fun _ S => (groundE len S).bind fun g S => .ok (.tuple [.str "shown", .str x, a.1, g], a.2) S
def sortsL : List Str := ["sort", "func", "rel", "mean", "taken", "shown"]
def entryE2 (word x : Str) (S : PS) : Er (PyData × Bool) :=
  if word = "func" then (funcE len x S).bind fun d S => .ok (d, true) S
  else if word = "sort" ∨ word = "rel" then (namesBehind len S).bind fun ns S => .ok (.tuple [.str word, .str x, strsD ns], true) S
  else toldE len word x S
def entryE (S : PS) : Er (PyData × Bool) := match nw len S with
  | .told word => if word ∈ sortsL then (nameE len S.adv).bind fun x S => entryE2 len word x S else wrongE len S
  | _ => wrongE len S
def entryOf (S : PS) : PyData ⊕ Nat := match entryE len S with
  | .err p => .inr p
  | .ok a S => if S.rest = [] then (if a.2 = true then .inl a.1 else .inr len) else .inr (nowW len S.rest).pos
end
end KM
namespace KW
open KM
def entryOut (l : List Nat) : PySem.PyData ⊕ Nat := entryOf l.length (psOf l 0)
end KW

/-! part KEnt1 -/
set_option maxHeartbeats 4000000
namespace KW
open PySem PySem.Spec PyProof.Rows L2 KM SX
/-- what is wanted behind a part of an entry -/
def OutA {α : Type} (K : PySem.W.Frag) (r t m : Addr) (len : Nat) (H : Hp) (Q : VK) (E : XK) (x : Er α) (rel : Hp → V → α → Prop) : Prop := match x with
  | .err p => ∀ H' d, GoE r t m H H' → H' d = some (.xd [("at", .int (p : Nat))]) → E (.ref (CB K)) (some d) H'
  | .ok a S => ∀ H' m' v, Go r t m H m' H' → Rp K r H' len S t m' → rel H' v a → Q v H'
theorem OutA.shift {α : Type} {K : PySem.W.Frag} {r t m m1 : Addr} {len len1 : Nat} {H H1 : Hp} {Q : VK} {E : XK} {x : Er α} {rel : Hp → V → α → Prop} {S : PS} (o : OutA K r t m len H Q E x rel) (g : Go r t m H m1 H1) (R : Rp K r H1 len1 S t m1) : OutA K r t m1 len H1 Q E x rel := by
  cases x with
  | ok a S => exact fun H' m' v g' R' q => o H' m' v (g.trans g' R) R' q
  | err p => exact fun H' d g' e => o H' d (g.e (K := K) g') e
/-- nothing planned, nothing made; the words are in order -/
structure Ok1 (S : PS) : Prop where
  todo : S.todo = []
  made : S.made = []
  lay : ∀ p ∈ S.rest, p.w.val.canLay0 = true
  told : ∀ p ∈ S.rest, pT p.w = true
  len : S.rest.length ≤ 5000
theorem Ok1.suf {S : PS} {l : List PW} (o : Ok1 S) (h : ∃ k, l = S.rest.drop k) : Ok1 { S with rest := l } := by
  obtain ⟨k, rfl⟩ := h
  exact ⟨o.todo, o.made, fun p hp => o.lay p (List.mem_of_mem_drop hp), fun p hp => o.told p (List.mem_of_mem_drop hp), by have := o.len; show (S.rest.drop k).length ≤ _; rw [List.length_drop]; omega⟩
theorem Ok1.adv {S : PS} (o : Ok1 S) : Ok1 S.adv := o.suf ⟨1, by simp⟩
theorem take_suf : ∀ l : List PW, ∃ k, (takeNames l).2 = l.drop k
  | [] => ⟨0, rfl⟩
  | ⟨.name x, p⟩ :: r => by
    obtain ⟨k, e⟩ := take_suf r
    exact ⟨k + 1, e⟩
  | ⟨.told x, p⟩ :: r => ⟨0, rfl⟩
  | ⟨.num x, p⟩ :: r => ⟨0, rfl⟩
  | ⟨.var x, p⟩ :: r => ⟨0, rfl⟩
  | ⟨.mark x, p⟩ :: r => ⟨0, rfl⟩
  | ⟨.bad, p⟩ :: r => ⟨0, rfl⟩
  | ⟨.fin, p⟩ :: r => ⟨0, rfl⟩
theorem take_cons {len : Nat} {S : PS} {x : Str} (h : nw len S = .name x) : (takeNames S.rest).1 = x :: (takeNames S.rest.tail).1 ∧ (takeNames S.rest).2 = (takeNames S.rest.tail).2 := by
  obtain ⟨p, r, e, h2⟩ := nw_cons h (by simp)
  obtain ⟨w, pos⟩ := p
  obtain rfl : w = .name x := h2
  rw [e]
  exact ⟨rfl, rfl⟩
theorem take_none {len : Nat} {S : PS} (h : ∀ x, nw len S ≠ .name x) : takeNames S.rest = ([], S.rest) := by
  obtain ⟨rest, many, todo, made⟩ := S
  cases rest with
  | nil => rfl
  | cons p r =>
    obtain ⟨w, pos⟩ := p
    cases w with
    | name x => exact absurd rfl (h x)
    | _ => rfl
theorem nameE_err {len : Nat} {S : PS} (h : ∀ x, nw len S ≠ .name x) : nameE len S = wrongE len S := by
  unfold nameE
  split
  · rename_i x e; exact absurd e (h x)
  · rfl
theorem nameE_ok {len : Nat} {S : PS} {x : Str} (h : nw len S = .name x) : nameE len S = .ok x S.adv := by unfold nameE; rw [h]
section
variable {P : Program} {w : World} {K : PySem.W.Frag} {mg : Str → Option Value} {base : Heap}
/-! ### names_behind -/
def spNames (K : PySem.W.Frag) : Sp := fun vs H Q E => ∃ (r t m : Addr) (len : Nat) (S : PS), vs = [.ref r] ∧ Rp K r H len S t m ∧ S.rest.length ≤ 5000 ∧ OutA K r t m len H Q E (namesBehind len S) fun H' v ns => Tp K H' v (strsD ns)
theorem ok_names_behind (T : Txt K mg w) : Good P w K mg base 5 (He.ga K "names_behind") ["reader"] (spNames K) := by
  have GN := ok_now (P := P) (base := base) T
  have GM := ok_is_mark (P := P) (base := base) T
  have GW := ok_need_word (P := P) (base := base) T
  have GK := ok_need_kind (P := P) (base := base) T
  refine good_of T.f_names_behind sc_names_behind (fun _ _ _ _ _ _ us hl => match us, hl with | [_], _ => rfl) (fun vs H Q E h => by obtain ⟨_, _, _, _, _, rfl, _⟩ := h; rfl) (fun cdv A outer s H vs Q E hr h => ?_)
  obtain ⟨r, t, m, len, S, rfl, R, hl, k⟩ := h
  refine ⟨_, (pss_cons (ps_set (i := 1) sc_names_behind.nd rfl (Or.inl rfl) (pe_lst pa_nil))
      (pss_cons (ps_if (pt_val (pm GM (hr.mono (by decide)) T.cl T.m_is_mark px (pv 0) (pa_cons pe_str pa_nil))) (pss_cons (ps_expr (pm GW (hr.mono (by decide)) T.cl T.m_need_word px (pv 0) (pa_cons pe_str (pa_cons pe_str pa_nil))))
      (pss_cons (ps_expr (pe_bm PySem.F.plainAttrs_list PySem.F.slot_list_append PySem.F.type_list_append mt_append (pv 1) (pa_cons (pm GK (hr.mono (by decide)) T.cl T.m_need_kind px (pv 0) (pa_cons pe_str pa_nil)) pa_nil)))
      (pss_one (ps_while po (pt_cmpR op_eq (pe_ix ix_tup (pm0 GN (hr.mono (by decide)) T.cl T.m_now px (pv 0)) pe_int (fun _ _ => rfl)) pe_str (nomark _)) (pss_one (ps_expr (pe_bm PySem.F.plainAttrs_list PySem.F.slot_list_append PySem.F.type_list_append mt_append (pv 1) (pa_cons (pm GK (hr.mono (by decide)) T.cl T.m_need_kind px (pv 0) (pa_cons pe_str pa_nil)) pa_nil)))))))) pss_nil)
      (pss_one (ps_ret (pe_callTy call_tuple_of (by rfl) T.z_tuple (by decide +kernel) (pa_cons (pv 1) pa_nil)))))), ?_⟩
  refine ⟨Nat.zero_le _, fun f hf => ?_⟩
  have s0 := same_new (o := .lst []) hf
  have R0 := R.same s0
  obtain ⟨dx, wd, at', hR0⟩ := R0.ins_
  have hft : f ≠ t := by obtain ⟨o, h⟩ := R.t_some; exact (ne_of_none h hf).symm
  have hfr : f ≠ r := by obtain ⟨o, h⟩ := R.r_some; exact (ne_of_none h hf).symm
  have hfm : f ≠ m := by obtain ⟨mv0, h, _⟩ := R.made_; exact (ne_of_none h hf).symm
  refine ⟨_, rfl, r, _, _, rfl, hR0, rd_none, r, t, m, len, S, _, rfl, R0, by decide +kernel, fun H1 s1 => ⟨_, rfl, iteD (fun c => ?_) (fun c => ?_)⟩⟩
  rotate_left
  · have e : namesBehind len S = .ok [] S := if_neg c
    rw [e] at k
    have hf1 := s1 _ _ (show upd H f (.lst []) f = some (.lst []) from upd_same)
    refine ⟨_, rfl, f, _, rfl, .inl ⟨SqL.of hf1, fun u hu => ?_⟩⟩
    have s3 := (s0.trans s1).trans (same_new (o := .tup []) hu)
    exact k _ m _ (Go.same s3) (R.same s3) (tp_new hu .nil)
  have e : namesBehind len S = namesE len S.adv := if_pos c
  rw [e] at k
  have R1 := R0.same s1
  have g1 : Go r t m H m H1 := Go.same (s0.trans s1)
  have hR1 := s1 _ _ hR0
  have hf1 := s1 _ _ (show upd H f (.lst []) f = some (.lst []) from upd_same)
  refine ⟨_, rfl, r, _, _, rfl, hR1, rd_none, r, t, m, len, S, "mark", ":", .mark ":", rfl, R1, .inl ⟨rfl, rfl⟩, by decide +kernel, ?_⟩
  rw [if_pos c]
  intro H2 m2 g2 R2
  have g12 := g1.trans g2 R1
  have hf2 := g2.keep f _ hf1 hfr hft hfm
  have hfm2 : f ≠ m2 := by
    rcases g2.fr with z | z
    · rw [z]; exact hfm
    · exact fun y => by rw [← y, hf1] at z; cases z
  obtain ⟨dx2, wd2, at2, hR2⟩ := R2.ins_
  refine ⟨_, rfl, .inl ⟨rfl, _, SqL.of hf2⟩, _, rfl, r, _, _, rfl, hR2, rd_none, r, t, m2, len, S.adv, _, rfl, R2, by decide +kernel, fun c2 H3 v g3 R3 tv => ?_, fun c2 => ?_⟩
  rotate_left
  · unfold namesE at k
    rw [nameE_err (not_name c2)] at k
    exact fun H' d g' e => k H' d (g12.e (K := K) g') e
  obtain ⟨x, ex⟩ : ∃ x, nw len S.adv = .name x := kind_name c2
  unfold namesE at k
  rw [nameE_ok ex] at k
  have k : OutA K r t m len H Q E (.ok (x :: (takeNames S.adv.adv.rest).1) { S.adv.adv with rest := (takeNames S.adv.adv.rest).2 }) fun H' v ns => Tp K H' v (strsD ns) := k
  rw [ex] at tv
  cases tv.str_inv
  have g13 := g12.trans g3 R2
  have hf3 := g3.keep f _ hf2 hfr hft hfm2
  refine ⟨f, [], .str x, rfl, rfl, hf3, by show 0 < sizeLine; decide, ?_⟩
  have g4 : Go r t m H m2 (upd H3 f (.lst ([] ++ [V.str x]))) := g13.mut R hf
  have R4 : Rp K r (upd H3 f (.lst ([] ++ [V.str x]))) len S.adv.adv t m2 := R3.mut hf3 hft hfm2 (g13.nw R hf)
  refine ⟨fun n σ H' => ∃ (rest' : List PW) (ns : List Str) (fv : List V), σ = [some (.ref r), some (.ref f)] ∧ Go r t m H m2 H' ∧ Rp K r H' len { S.adv.adv with rest := rest' } t m2 ∧ H' f = some (.lst fv) ∧ TpAll K H' fv (ns.map .str) ∧
      ns ++ (takeNames rest').1 = x :: (takeNames S.adv.adv.rest).1 ∧ (takeNames rest').2 = (takeNames S.adv.adv.rest).2 ∧ n = rest'.length ∧ ns.length + rest'.length ≤ 5000,
    ⟨_, S.adv.adv.rest, [x], _, rfl, g4, R4, upd_same, .one (.str _), rfl, rfl, rfl, by
      show 1 + (S.rest.tail.tail).length ≤ 5000
      have h1 : S.rest ≠ [] := ne_of_now c (by simp)
      cases hrs : S.rest with
      | nil => exact absurd hrs h1
      | cons a l =>
        rw [hrs] at hl
        simp only [List.length_cons] at hl
        show 1 + l.tail.length ≤ 5000
        rw [List.length_tail]
        omega⟩, ?_⟩
  rintro n σ H5 ⟨rest', ns, fv, rfl, g5, R5, hf5, hfv, hns, hrs, rfl, hnl⟩
  obtain ⟨dx5, wd5, at5, hR5⟩ := R5.ins_
  refine ⟨_, rfl, r, _, _, rfl, hR5, rd_none, r, t, m2, len, _, rfl, R5, fun H6 p s6 tp => ?_⟩
  obtain ⟨v2, h1, q2⟩ := wd_parts tp
  have R6 := R5.same s6
  have hR6 := s6 _ _ hR5
  have hf6 := s6 _ _ hf5
  have g6 := g5.trans (Go.same s6) R5
  refine ⟨p, _, _, _, rfl, rfl, h1, atI_nat (j := 0) rfl, rfl, _, rfl, ?_⟩
  rw [dec_str, Bool.beq_eq_decide_eq]
  refine iteD (fun c3 => ?_) (fun c3 => ?_)
  · obtain ⟨y, ey⟩ : ∃ y, nw len { S.adv.adv with rest := rest' } = .name y := kind_name c3
    obtain ⟨t1, t2⟩ := take_cons ey
    refine ⟨_, fun σ' H' h => h, ?_⟩
    refine ⟨_, rfl, .inl ⟨rfl, _, SqL.of hf6⟩, _, rfl, r, _, _, rfl, hR6, rd_none, r, t, m2, len, _, _, rfl, R6, by decide +kernel, fun c4 H7 v7 g7 R7 tv7 => ?_, fun c4 => absurd c3 c4⟩
    rw [ey] at tv7
    cases tv7.str_inv
    have hf7 := g7.keep f _ hf6 hfr hft hfm2
    have hfv7 := hfv.mono ((TM.same s6).trans (R6.tm g7))
    have g67 := g6.trans g7 R6
    have hlen : fv.length = ns.length := by rw [hfv.len, List.length_map]
    refine ⟨f, fv, .str y, rfl, rfl, hf7, by rw [sizeLine_eq]; omega, ?_⟩
    have hrl : rest'.tail.length + 1 ≤ rest'.length := by
      have h1 : rest' ≠ [] := ne_of_now (S := { S.adv.adv with rest := rest' }) ey (by simp)
      cases rest' with
      | nil => exact absurd rfl h1
      | cons a l => simp
    refine ⟨_, by omega, rest'.tail, ns ++ [y], fv ++ [.str y], rfl, g67.mut R hf, R7.mut hf7 hft hfm2 (g67.nw R hf), upd_same, ?_, ?_, ?_, rfl, ?_⟩
    · rw [List.map_append]
      exact (hfv7.mono (TM.lst hf7)).app (.one (.str _))
    · have t1 : (takeNames rest').1 = y :: (takeNames rest'.tail).1 := t1
      rw [← hns, t1]; simp
    · have t2 : (takeNames rest').2 = (takeNames rest'.tail).2 := t2
      rw [← hrs, t2]
    · rw [List.length_append]; show ns.length + 1 + _ ≤ _; omega
  · have e0 : takeNames rest' = ([], rest') := take_none (S := { S.adv.adv with rest := rest' }) (not_name c3)
    rw [e0] at hns hrs
    have hns : ns = x :: (takeNames S.adv.adv.rest).1 := by simpa using hns
    have hrs : rest' = (takeNames S.adv.adv.rest).2 := hrs
    refine ⟨_, rfl, f, _, rfl, .inl ⟨SqL.of hf6, fun u hu => ?_⟩⟩
    have s8 := same_new (o := .tup fv) hu
    have R8 := R6.same s8
    rw [← hns, ← hrs] at k
    exact k _ m2 _ (g6.trans (Go.same s8) R6) R8 (tp_new hu (hfv.mono (TM.same s6)))

/-! ### func_entry -/
abbrev arrowBody : List Stmt := match (defBody s_func_entry).drop 3 with
  | .If (body := b) .. :: _ => b
  | _ => []
def spFuncE (K : PySem.W.Frag) : Sp := fun vs H Q E => ∃ (r t m : Addr) (len : Nat) (S : PS) (nm : Str), vs = [.ref r, .str nm] ∧ Rp K r H len S t m ∧ S.rest.length ≤ 5000 ∧ OutA K r t m len H Q E (funcE len nm S) fun H' v d => Tp K H' v d
theorem ok_func_entry (T : Txt K mg w) : Good P w K mg base 5 (He.ga K "func_entry") ["reader", "name"] (spFuncE K) := by
  have GN := ok_now (P := P) (base := base) T
  have GM := ok_is_mark (P := P) (base := base) T
  have GW := ok_need_word (P := P) (base := base) T
  have GK := ok_need_kind (P := P) (base := base) T
  refine good_of T.f_func_entry sc_func_entry (fun _ _ _ _ _ _ us hl => match us, hl with | [_, _], _ => rfl) (fun vs H Q E h => by obtain ⟨_, _, _, _, _, _, rfl, _⟩ := h; rfl) (fun cdv A outer s H vs Q E hr h => ?_)
  obtain ⟨r, t, m, len, S, nm, rfl, R, hl, k⟩ := h
  obtain ⟨dx, wd, at', hR⟩ := R.ins_
  obtain ⟨ta, hA, hq⟩ : ∃ ta, PSs (XB P w K mg base N_func_entry "func_entry" s_func_entry (He.ga K "func_entry") cdv A outer s H E) arrowBody ta ∧ ∀ (D : Ends) (H8 : Hp) (f : Addr) (fv : List V) (ns : List Str) (S5 : PS) (m5 : Addr), D.rt = Q → H8 f = some (.lst fv) → TpAll K H8 fv (ns.map .str) → fv.length ≤ 10000 → Rp K r H8 len S5 t m5 → f ≠ r → f ≠ t → f ≠ m5 →
      OutA K r t m5 len H8 Q E ((needE len (.mark "->") S5).bind fun _ S => (nameE len S).bind fun y S => .ok (.tuple [.str "func", .str nm, strsD ns, .str y]) S) (fun H' v d => Tp K H' v d) → ta D [some (.ref r), some (.str nm), some (.ref f)] H8 := by
    refine ⟨_, (pss_cons (ps_expr (pm GW (hr.mono (by decide)) T.cl T.m_need_word px (pv 0) (pa_cons pe_str (pa_cons pe_str pa_nil))))
      (pss_one (ps_ret (pe_tup (pa_cons pe_str (pa_cons (pv 1) (pa_cons (pe_callTy call_tuple_of (by rfl) T.z_tuple (by decide +kernel) (pa_cons (pv 2) pa_nil)) (pa_cons (pm GK (hr.mono (by decide)) T.cl T.m_need_kind px (pv 0) (pa_cons pe_str pa_nil)) pa_nil)))))))), fun D H8 f fv ns S5 m5 hD hf8 hfv8 hz8 R8 n1 n2 n3 k8 => ?_⟩
    obtain ⟨dx8, wd8, at8, hR8⟩ := R8.ins_
    unfold needE at k8
    refine ⟨_, rfl, r, _, _, rfl, hR8, rd_none, r, t, m5, len, S5, "mark", "->", .mark "->", rfl, R8, .inl ⟨rfl, rfl⟩, by decide +kernel, ?_⟩
    by_cases c : nw len S5 = .mark "->"
    rotate_left
    · rw [if_neg c] at k8 ⊢
      exact k8
    rw [if_pos c] at k8 ⊢
    intro H9 m9 g9 R9
    have k9 : OutA K r t m9 len H9 Q E ((nameE len S5.adv).bind fun y S => .ok (.tuple [.str "func", .str nm, strsD ns, .str y]) S) (fun H' v d => Tp K H' v d) := k8.shift g9 R9
    have hf9 := g9.keep f _ hf8 n1 n2 n3
    obtain ⟨dx9, wd9, at9, hR9⟩ := R9.ins_
    refine ⟨_, rfl, _, rfl, f, _, rfl, .inl ⟨SqL.of hf9, fun u hu => ?_⟩⟩
    have s10 := same_new (o := .tup fv) hu
    have R10 := R9.same s10
    have hfv10 : Tp K (upd H9 u (.tup fv)) (.ref u) (strsD ns) := tp_new hu (hfv8.mono (R8.tm g9))
    refine ⟨_, rfl, r, _, _, rfl, s10 _ _ hR9, rd_none, r, t, m9, len, _, _, rfl, R10, by decide +kernel, fun c2 H11 v g11 R11 tv => ?_, fun c2 => ?_⟩
    · obtain ⟨y, ey⟩ : ∃ y, nw len S5.adv = .name y := kind_name c2
      rw [nameE_ok ey] at k9
      rw [ey] at tv
      cases tv.str_inv
      refine ⟨by show 4 ≤ sizeLine; decide, fun u2 hu2 => ?_⟩
      have s12 := same_new (o := .tup [.str "func", .str nm, .ref u, .str y]) hu2
      have R12 := R11.same s12
      show D.rt _ _
      rw [hD]
      exact k9 _ m9 _ (((Go.same s10).trans g11 R10).trans (Go.same s12) R11) R12 (tp_new hu2 (.four (.str _) (.str _) (hfv10.mono (R10.tm g11)) (.str _)))
    · rw [nameE_err (not_name c2)] at k9
      exact fun H' d g' e => k9 H' d ((Go.same (r := r) (t := t) (m := m9) s10).e (K := K) g') e
  refine ⟨_, (pss_cons (ps_expr (pm GW (hr.mono (by decide)) T.cl T.m_need_word px (pv 0) (pa_cons pe_str (pa_cons pe_str pa_nil))))
      (pss_cons (ps_set (i := 2) sc_func_entry.nd rfl (Or.inl rfl) (pe_lst (pa_cons (pm GK (hr.mono (by decide)) T.cl T.m_need_kind px (pv 0) (pa_cons pe_str pa_nil)) pa_nil)))
      (pss_cons (ps_while po (pt_cmpR op_eq (pe_ix ix_tup (pm0 GN (hr.mono (by decide)) T.cl T.m_now px (pv 0)) pe_int (fun _ _ => rfl)) pe_str (nomark _)) (pss_one (ps_expr (pe_bm PySem.F.plainAttrs_list PySem.F.slot_list_append PySem.F.type_list_append mt_append (pv 2) (pa_cons (pm GK (hr.mono (by decide)) T.cl T.m_need_kind px (pv 0) (pa_cons pe_str pa_nil)) pa_nil)))))
      (pss_cons (ps_if (PW.pt (pw_or (pt_cmpR op_gt (pe_callB call_len (by rfl) T.z_len boot_len (pa_cons (pv 2) pa_nil)) pe_int (nomark _)) (pw_or1 (pt_val (pm GM (hr.mono (by decide)) T.cl T.m_is_mark px (pv 0) (pa_cons pe_str pa_nil)))))) hA pss_nil)
      (pss_one (ps_ret (pe_tup (pa_cons pe_str (pa_cons (pv 1) (pa_cons (pe_tup pa_nil) (pa_cons (pe_ix ix_list (pv 2) pe_int (fun _ _ => rfl)) pa_nil))))))))))), ?_⟩
  refine ⟨_, rfl, r, _, _, rfl, hR, rd_none, r, t, m, len, S, "mark", ":", .mark ":", rfl, R, .inl ⟨rfl, rfl⟩, by decide +kernel, ?_⟩
  unfold funcE needE at k
  by_cases c : nw len S = .mark ":"
  rotate_left
  · rw [if_neg c] at k ⊢
    exact k
  rw [if_pos c] at k ⊢
  intro H2 m3 g2 R2
  have k : OutA K r t m3 len H2 Q E ((namesE len S.adv).bind fun ns S => funcE2 len nm ns S) (fun H' v d => Tp K H' v d) := k.shift g2 R2
  clear R hR
  generalize hS2 : S.adv = S2 at k R2
  have hl2 : S2.rest.length ≤ 5000 := by rw [← hS2]; show S.rest.tail.length ≤ 5000; rw [List.length_tail]; omega
  obtain ⟨dx2, wd2, at2, hR2⟩ := R2.ins_
  unfold namesE at k
  refine ⟨_, rfl, r, _, _, rfl, hR2, rd_none, r, t, m3, len, S2, _, rfl, R2, by decide +kernel, fun c2 H3 v g3 R3 tv => ?_, fun c2 => ?_⟩
  rotate_left
  · rw [nameE_err (not_name c2)] at k
    exact fun H' d g' e => k H' d g' e
  obtain ⟨x, ex⟩ : ∃ x, nw len S2 = .name x := kind_name c2
  rw [nameE_ok ex] at k
  have k : OutA K r t m3 len H2 Q E (funcE2 len nm (x :: (takeNames S2.adv.rest).1) { S2.adv with rest := (takeNames S2.adv.rest).2 }) (fun H' v d => Tp K H' v d) := k
  rw [ex] at tv
  cases tv.str_inv
  replace k := k.shift g3 R3
  refine ⟨by show 1 ≤ sizeLine; decide, fun f hf => ?_⟩
  have s4 := same_new (o := .lst [.str x]) hf
  have hft : f ≠ t := by obtain ⟨o, h⟩ := R3.t_some; exact (ne_of_none h hf).symm
  have hfr : f ≠ r := by obtain ⟨o, h⟩ := R3.r_some; exact (ne_of_none h hf).symm
  have hfm : f ≠ m3 := by obtain ⟨mv0, h, _⟩ := R3.made_; exact (ne_of_none h hf).symm
  refine ⟨fun n σ H' => ∃ (rest' : List PW) (ns : List Str) (fv : List V), σ = [some (.ref r), some (.str nm), some (.ref f)] ∧ Go r t m3 H3 m3 H' ∧ Rp K r H' len { S2.adv with rest := rest' } t m3 ∧ H' f = some (.lst fv) ∧ TpAll K H' fv (ns.map .str) ∧
      ns ++ (takeNames rest').1 = x :: (takeNames S2.adv.rest).1 ∧ (takeNames rest').2 = (takeNames S2.adv.rest).2 ∧ n = rest'.length ∧ ns.length + rest'.length ≤ 5000,
    ⟨_, S2.adv.rest, [x], _, rfl, (Go.refl (m := m3)).mut R3 hf, R3.same s4, upd_same, .one (.str _), rfl, rfl, rfl, by
      show 1 + (S2.rest.tail).length ≤ 5000
      have h1 : S2.rest ≠ [] := ne_of_now ex (by simp)
      cases hrs : S2.rest with
      | nil => exact absurd hrs h1
      | cons a l =>
        rw [hrs] at hl2
        simp only [List.length_cons] at hl2
        show 1 + l.length ≤ 5000
        omega⟩, ?_⟩
  rintro n σ H5 ⟨rest', ns, fv, rfl, g5, R5, hf5, hfv, hns, hrs, rfl, hnl⟩
  obtain ⟨dx5, wd5, at5, hR5⟩ := R5.ins_
  refine ⟨_, rfl, r, _, _, rfl, hR5, rd_none, r, t, m3, len, _, rfl, R5, fun H6 p s6 tp => ?_⟩
  obtain ⟨v2, h1, q2⟩ := wd_parts tp
  have R6 := R5.same s6
  have hR6 := s6 _ _ hR5
  have hf6 := s6 _ _ hf5
  have g6 := g5.trans (Go.same s6) R5
  refine ⟨p, _, _, _, rfl, rfl, h1, atI_nat (j := 0) rfl, rfl, _, rfl, ?_⟩
  rw [dec_str, Bool.beq_eq_decide_eq]
  refine iteD (fun c3 => ?_) (fun c3 => ?_)
  · obtain ⟨y, ey⟩ : ∃ y, nw len { S2.adv with rest := rest' } = .name y := kind_name c3
    obtain ⟨t1, t2⟩ := take_cons ey
    refine ⟨_, fun σ' H' h => h, ?_⟩
    refine ⟨_, rfl, .inl ⟨rfl, _, SqL.of hf6⟩, _, rfl, r, _, _, rfl, hR6, rd_none, r, t, m3, len, _, _, rfl, R6, by decide +kernel, fun c4 H7 v7 g7 R7 tv7 => ?_, fun c4 => absurd c3 c4⟩
    rw [ey] at tv7
    cases tv7.str_inv
    have hf7 := g7.keep f _ hf6 hfr hft hfm
    have hfv7 := hfv.mono ((TM.same s6).trans (R6.tm g7))
    have g67 := g6.trans g7 R6
    have hlen : fv.length = ns.length := by rw [hfv.len, List.length_map]
    refine ⟨f, fv, .str y, rfl, rfl, hf7, by rw [sizeLine_eq]; omega, ?_⟩
    have hrl : rest'.tail.length + 1 ≤ rest'.length := by
      have h1 : rest' ≠ [] := ne_of_now (S := { S2.adv with rest := rest' }) ey (by simp)
      cases rest' with
      | nil => exact absurd rfl h1
      | cons a l => simp
    refine ⟨_, by omega, rest'.tail, ns ++ [y], fv ++ [.str y], rfl, g67.mut R3 hf, R7.mut hf7 hft hfm (g67.nw R3 hf), upd_same, ?_, ?_, ?_, rfl, ?_⟩
    · rw [List.map_append]
      exact (hfv7.mono (TM.lst hf7)).app (.one (.str _))
    · have t1 : (takeNames rest').1 = y :: (takeNames rest'.tail).1 := t1
      rw [← hns, t1]; simp
    · have t2 : (takeNames rest').2 = (takeNames rest'.tail).2 := t2
      rw [← hrs, t2]
    · rw [List.length_append]; show ns.length + 1 + _ ≤ _; omega
  · have e0 : takeNames rest' = ([], rest') := take_none (S := { S2.adv with rest := rest' }) (not_name c3)
    rw [e0] at hns hrs
    have hns : ns = x :: (takeNames S2.adv.rest).1 := by simpa using hns
    have hrs : rest' = (takeNames S2.adv.rest).2 := hrs
    have hle : fv.length = ns.length := by rw [hfv.len, List.length_map]
    have hfv6 := hfv.mono (TM.same s6)
    have k6 : OutA K r t m3 len H6 Q E (funcE2 len nm ns { S2.adv with rest := rest' }) (fun H' v d => Tp K H' v d) := by rw [hns, hrs]; exact k.shift g6 R6
    have hnp : 1 ≤ ns.length := by rw [hns]; simp
    unfold funcE2 at k6
    refine ⟨_, rfl, _, _, rfl, .inl ⟨_, SqL.of hf6, rfl⟩, _, _, rfl, rfl, _, rfl, ?_⟩
    refine iteD (c := ((1 : Int) < (fv.length : Nat))) (fun c5 => iteT ?_) (fun c5 => ?_)
    · rw [if_pos (.inl (decide_eq_true (by omega)))] at k6
      exact hq _ H6 f fv ns _ m3 rfl hf6 hfv6 (by omega) R6 hfr hft hfm k6
    · refine ⟨_, rfl, r, _, _, rfl, hR6, rd_none, r, t, m3, len, _, _, rfl, R6, by decide +kernel, fun H7 s7 => ⟨_, rfl, iteD (fun c6 => ?_) (fun c6 => ?_)⟩⟩
      · rw [if_pos (.inr c6)] at k6
        exact hq _ H7 f fv ns _ m3 rfl (s7 _ _ hf6) (hfv6.mono (TM.same s7)) (by omega) (R6.same s7) hfr hft hfm (k6.shift (Go.same s7) (R6.same s7))
      · rw [if_neg (fun z => by
          rcases z with z | z
          · have := of_decide_eq_true z; omega
          · exact c6 z)] at k6
        obtain ⟨z, e1⟩ : ∃ z, ns = [z] := by
          cases ns with
          | nil => simp at hnp
          | cons z l =>
            cases l with
            | nil => exact ⟨z, rfl⟩
            | cons _ _ => simp at hle; omega
        subst e1
        obtain ⟨v9, l9, rfl, q9, q10⟩ := hfv6.cons_inv
        cases q9.str_inv
        cases q10.nil_inv
        have R7 := R6.same s7
        refine ⟨_, rfl, by show 0 ≤ sizeLine; decide, fun u1 hu1 => ?_⟩
        have e1 := same_new (o := .tup []) hu1
        refine ⟨_, rfl, f, _, _, .str z, rfl, rfl, SqL.of (e1 _ _ (s7 _ _ hf6)), atI_nat (j := 0) rfl, by show 4 ≤ sizeLine; decide, fun u2 hu2 => ?_⟩
        have e2 := same_new (o := .tup [.str "func", .str nm, .ref u1, .str z]) hu2
        have e3 := (s7.trans e1).trans e2
        exact k6 _ m3 _ (Go.same e3) (R6.same e3) (tp_new hu2 (.four (.str _) (.str _) (tp_new hu1 .nil) (.str _)))
end
end KW

/-! part KEnt2 -/
set_option maxHeartbeats 4000000
namespace KW
open PySem PySem.Spec PyProof.Rows L2 KM SX
theorem run_len {p : Wd → Bool} {len : Nat} : ∀ (n : Nat) (S S' : PS), Inv0 p S → runF len n S = .ok S' → S'.rest.length ≤ S.rest.length
  | 0, _, _, _, h => by cases h
  | n + 1, S, S', I, h => by
    cases e : S.todo with
    | nil =>
      rw [runF_nil e] at h
      injection h with h
      rw [h]; exact Nat.le_refl _
    | cons t ts =>
      rw [runF_cons e] at h
      obtain ⟨S1, h1, h2⟩ := bind_ok h
      obtain ⟨I1, _, _⟩ := inv_step e I h1
      have h3 := run_len n S1 S' I1 h2
      have h4 := pot_step (potW fun _ => false) h1 (fun _ _ _ => trivial) (lay_todo I.ly t (by rw [e]; exact List.mem_cons_self)).2
      have cnt : ∀ S : PS, phi (fun w => bn ((fun _ => false) w)) (fun _ => 0) (fun _ => 0) S = S.rest.length := by
        intro S
        simp only [phi, sum_z]
        show (S.rest.map fun _ => 1).sum + 0 + 0 = _
        generalize S.rest = l
        induction l with
        | nil => rfl
        | cons a l ih => simp only [List.map_cons, List.sum_cons, List.length_cons] at *; omega
      rw [cnt, cnt] at h4
      have h5 : ({ S with todo := ts } : PS).rest.length = S.rest.length := rfl
      omega
theorem inv_part {S : PS} (o : Ok1 S) (many : Int) {t : Tk} (ht : bL t = 0) : Inv0 pT (partS many t S) := by
  constructor
  · show phi aL bL gL ⟨S.rest, many, t :: S.todo, S.made⟩ = 0
    have h := o.lay
    have : (S.rest.map fun p => aL p.w).sum = 0 := by
      generalize S.rest = ts at h
      induction ts with
      | nil => rfl
      | cons a ts ih =>
        simp only [List.map_cons, List.sum_cons]
        rw [ih fun t ht => h t (List.mem_cons_of_mem _ ht)]
        have := h a List.mem_cons_self
        unfold aL
        rw [this]; rfl
    simp only [phi, this, o.todo, o.made, List.map_cons, List.map_nil, List.sum_cons, List.sum_nil, ht, Nat.add_zero]
  · exact o.told
theorem mu_part {S : PS} (o : Ok1 S) (many : Int) (t : Tk) : mu (partS many t S) ≤ 500000 + bM t := by
  have e : ∀ l : List PW, (l.map fun _ => 100).sum = 100 * l.length := by
    intro ts
    induction ts with
    | nil => rfl
    | cons a ts ih => simp only [List.map_cons, List.sum_cons, ih, List.length_cons]; omega
  have e2 : mu (partS many t S) = 100 * S.rest.length + bM t := by
    show phi _ _ _ ⟨S.rest, many, t :: S.todo, S.made⟩ = _
    unfold phi
    rw [e, o.todo, o.made]
    simp
  have := o.len
  omega
theorem part_fine {S : PS} (o : Ok1 S) (len : Nat) (many : Int) (t : Tk) (sh : Sh) (ht : t = .stmt ∧ sh = .T ∨ t = .ground ∧ sh = .P) : (∃ q, runF len (mu (partS many t S) + 1) (partS many t S) = .err q) ∨
    ∃ S' d, runF len (mu (partS many t S) + 1) (partS many t S) = .ok S' ∧ S'.made = [d] ∧ okS d sh ∧ partE len many t S = .ok d { S' with made := [] } ∧ Ok1 { S' with made := [] } := by
  have hb : bL t = 0 := by rcases ht with ⟨rfl, _⟩ | ⟨rfl, _⟩ <;> decide +kernel
  have hc : chk (fun s => s = [sh]) (partS many t S).todo [] := by
    show chk _ (t :: S.todo) _
    rw [o.todo]
    rcases ht with ⟨rfl, rfl⟩ | ⟨rfl, rfl⟩ <;> rfl
  have hI := inv_part o many hb
  have hm : Has (partS many t S).made [] := by show Has S.made []; rw [o.made]; trivial
  rcases run_fine (F := fun s => s = [sh]) (len := len) (p := pT) _ (partS many t S) [] (Nat.lt_succ_self _) hI hc hm with h | ⟨S', h1, h2, h3, s', h4, h5⟩
  · exact .inl h
  · subst h4
    obtain ⟨m, r, e, h6, h7⟩ := has_cons h5
    cases r with
    | cons _ _ => exact h7.elim
    | nil =>
      refine .inr ⟨S', m, h1, e, h6, ?_, ⟨h2, rfl, (fun q hq => lay_rest (S := S') h3.ly q hq), (fun q hq => h3.wd q hq), ?_⟩⟩
      · unfold partE
        rw [h1]
        show (match S'.made with
          | d :: l => Er.ok d { S' with made := l }
          | [] => .err 0) = _
        rw [e]
      · have := run_len _ _ _ hI h1
        have h8 : (partS many t S).rest.length = S.rest.length := rfl
        have := o.len
        show S'.rest.length ≤ 5000
        omega
theorem part_err {S : PS} {len : Nat} {many : Int} {t : Tk} {q : Nat} (h : runF len (mu (partS many t S) + 1) (partS many t S) = .err q) : partE len many t S = .err q := by
  unfold partE
  rw [h]
section
variable {P : Program} {w : World} {K : PySem.W.Frag} {mg : Str → Option Value} {base : Heap}
/-! ### part_of -/
def spPart (K : PySem.W.Frag) : Sp := fun vs H Q E => ∃ (r t m : Addr) (len : Nat) (S : PS) (many : Int) (tk : Tk) (sh : Sh) (ts : Str), vs = [.ref r, .int many, .str ts] ∧ (tk = .stmt ∧ sh = .T ∧ ts = "statement" ∨ tk = .ground ∧ sh = .P ∧ ts = "ground") ∧ Rp K r H len S t m ∧ Ok1 S ∧
  OutA K r t m len H Q E (partE len many tk S) fun H' v d => Tp K H' v d.toD
theorem ok_part_of (T : Txt K mg w) : Good P w K mg base 11 (He.ga K "part_of") ["reader", "many", "task"] (spPart K) := by
  have GP := ok_plan (P := P) (base := base) T
  have GW := ok_work (P := P) (base := base) T
  refine good_of T.f_part_of sc_part_of (fun _ _ _ _ _ _ us hl => match us, hl with | [_, _, _], _ => rfl) (fun vs H Q E h => by obtain ⟨_, _, _, _, _, _, _, _, _, rfl, _⟩ := h; rfl) (fun cdv A outer s H vs Q E hr h => ?_)
  obtain ⟨r, t, m, len, S, many, tk0, sh, tstr, rfl, htk, R, o1, k⟩ := h
  have htoD : tk0.toD = .tuple [.str tstr] := by rcases htk with ⟨rfl, _, rfl⟩ | ⟨rfl, _, rfl⟩ <;> rfl
  have hb : bL tk0 = 0 := by rcases htk with ⟨rfl, _, rfl⟩ | ⟨rfl, _, rfl⟩ <;> decide +kernel
  have hbm : bM tk0 ≤ 8 := by rcases htk with ⟨rfl, _, rfl⟩ | ⟨rfl, _, rfl⟩ <;> decide +kernel
  have hfin := part_fine o1 len many tk0 sh (by rcases htk with ⟨h1, h2, _⟩ | ⟨h1, h2, _⟩; exact .inl ⟨h1, h2⟩; exact .inr ⟨h1, h2⟩)
  have hI := inv_part o1 many hb
  have hmu := mu_part o1 many tk0
  obtain ⟨dx, wd, at', hR⟩ := R.ins_
  refine ⟨_, (pss_cons (ps_fld (pv 0) (pv 1) rfl)
      (pss_cons (ps_expr (pm GP (hr.mono (by decide)) T.cl T.m_plan px (pv 0) (pa_cons (pe_lst (pa_cons (pe_tup (pa_cons (pv 2) pa_nil)) pa_nil)) pa_nil)))
      (pss_cons (ps_while po (pt_cmpR (op_neM hr.units) (pe_fld (pv 0) rfl) (pe_lst pa_nil) (nomark _)) (pss_one (ps_expr (pm GW (hr.mono (by decide)) T.cl T.m_work px (pv 0) (pa_cons (pe_bm0 PySem.F.plainAttrs_list PySem.F.slot_list_pop PySem.F.type_list_pop mt_pop (pe_fld (pv 0) rfl)) pa_nil)))))
      (pss_one (ps_ret (pe_bm0 PySem.F.plainAttrs_list PySem.F.slot_list_pop PySem.F.type_list_pop mt_pop (pe_fld (pv 0) rfl))))))), ?_⟩
  refine ⟨_, rfl, _, rfl, st_many T hR ?_⟩
  have R0 := R.set_many (z := many) hR
  have g0 : Go r t m H m (upd H r (.ins (CR K) dx (rdF wd at' len t m many))) := Go.upd_r hR
  refine ⟨_, rfl, r, _, _, rfl, upd_same, rd_none, _, rfl, by show 1 ≤ sizeLine; decide, fun u hu => ?_⟩
  refine ⟨by show 1 ≤ sizeLine; decide, fun ul hul => ?_⟩
  have e1 := same_new (o := .tup [.str tstr]) hu
  have el := same_new (o := .lst [.ref u]) hul
  have sa := e1.trans el
  have Ra := R0.same sa
  have ga := g0.trans (Go.same sa) R0
  have htd : S.todo = [] := o1.todo
  refine ⟨r, t, m, ul, len, _, _, [tk0], rfl, Ra, SqL.of upd_same, .one (by rw [htoD]; exact (tp_new hu (.one (.str _))).mono (TM.same el)), by simp, by show S.todo.length ≤ 2000000; rw [htd]; show 0 ≤ _; omega, fun H1 m1 g1' R1 => ?_⟩
  have g1 := ga.trans g1' Ra
  generalize hn : mu (partS many tk0 S) + 1 = n at hfin
  refine ⟨fun n' σ H' => ∃ S' m', σ = [some (.ref r), some (.int many), some (.str tstr)] ∧ Go r t m H m' H' ∧ Rp K r H' len S' t m' ∧ runF len n' S' = runF len n (partS many tk0 S) ∧ Inv0 pT S' ∧ mu S' ≤ 1000000, ⟨n, partS many tk0 S, m1, rfl, g1, R1, rfl, hI, by omega⟩, ?_⟩
  rintro n' σ H2 ⟨S2, m2, rfl, g2, R2, hrun, hI2, hmu2⟩
  obtain ⟨dx2, wd2, at2, hR2⟩ := R2.ins_
  obtain ⟨tv, ht2, hT2⟩ := R2.todo_
  rw [← hrun] at hfin
  cases n' with
  | zero =>
    exfalso
    rcases hfin with ⟨q, h⟩ | ⟨S', d, h, _⟩ <;> cases h
  | succ n' =>
  refine ⟨_, rfl, fl_todo T hR2 ⟨Nat.zero_le _, fun q hq => ?_⟩⟩
  have s3 := same_new (o := .lst []) hq
  refine ⟨_, .list [], .lst (SqL.of (s3 _ _ ht2)) (hT2.mono (TM.same s3)).dp, .lst (SqL.of upd_same) .nil, lay_todoL hI2.ly, rfl, by show min _ 1 ≤ 60; omega, ?_⟩
  rw [eqv_nil]
  have R3 := R2.same s3
  have g3 := g2.trans (Go.same s3) R2
  have hR3 := s3 _ _ hR2
  cases e : S2.todo with
  | nil =>
    refine ⟨_, rfl, iteF ?_⟩
    rw [runF_nil e] at hfin
    rcases hfin with ⟨q, h⟩ | ⟨S', d, h1, h2, h3, h4, h5⟩
    · cases h
    injection h1 with h1
    subst h1
    rw [h4] at k
    obtain ⟨mv2, v, hm2, hv, tv2, R4⟩ := pop_made R3 h2
    exact ⟨_, rfl, fl_made T hR3 ⟨.inl ⟨rfl, _, SqL.of hm2⟩, m2, mv2, v, rfl, rfl, hm2, hv, k _ m2 v (g3.trans Go.upd_m R3) R4 (tv2.mono (TM.lst hm2))⟩⟩
  | cons tk ts2 =>
    rw [runF_cons e] at hfin
    have hne : ((tk :: ts2).map Tk.toD).reverse.isEmpty = false := by simp
    rw [hne]
    refine ⟨_, rfl, iteT ⟨_, fun σ' H' h => h, ?_⟩⟩
    obtain ⟨tv4, v, ht4, hv4, tp4, R4⟩ := pop_todo R3 e
    have hR4 : (upd (upd H2 q (.lst [])) t (.lst tv4.dropLast)) r = some (.ins (CR K) dx2 (rdF wd2 at2 len t m2 S2.many)) := by rw [upd_ne R3.hs.rt.1]; exact hR3
    obtain ⟨p, rfl, hp⟩ := tk_vs (tp4.mono (TM.lst (o := .lst tv4.dropLast) ht4))
    have g4 := g3.trans (Go.upd_t (o := .lst tv4.dropLast)) R3
    have hlt := lay_todo hI2.ly tk (by rw [e]; exact List.mem_cons_self)
    have hml := mu_len hI2.ly
    have htl : S2.todo.length = ts2.length + 1 := by rw [e]; rfl
    refine ⟨_, rfl, r, _, _, rfl, hR3, rd_none, _, rfl, fl_todo T hR3 ⟨.inl ⟨rfl, _, SqL.of ht4⟩, t, tv4, _, rfl, rfl, ht4, hv4, ?_⟩⟩
    refine ⟨r, t, m2, p, len, { S2 with todo := ts2 }, tk, rfl, R4, ⟨by show ts2.length ≤ _; omega, by show S2.made.length ≤ _; omega⟩, hp, tk_ok hlt.1, (show MOk S2.made from lay_made hI2.ly), fun _ => told_of (S := { S2 with todo := ts2 }) hI2.wd, ?_⟩
    cases es : stepT len tk { S2 with todo := ts2 } with
    | stuck =>
      rw [es] at hfin
      rcases hfin with ⟨q, h⟩ | ⟨S', d, h1, _⟩
      · cases h
      · cases h1
    | err pp =>
      rw [es] at hfin
      rcases hfin with ⟨q, h⟩ | ⟨S', d, h1, _⟩
      · have h : Rs.err pp = .err q := h
        injection h with h
        subst h
        have hrun' : runF len n (partS many tk0 S) = .err pp := by
          rw [← hrun, runF_cons e, es] <;> rfl
        rw [← hn] at hrun'
        rw [part_err hrun'] at k
        exact fun H' d g5 hd => k H' d (g4.e (K := K) g5) hd
      · cases h1
    | ok S5 =>
      obtain ⟨I5, h5, _⟩ := inv_step e hI2 es
      have hrun5 : runF len n' S5 = runF len n (partS many tk0 S) := by
        rw [← hrun, runF_cons e, es] <;> rfl
      exact fun H5 m5 g5 R5 => ⟨n', by omega, S5, m5, rfl, g4.trans g5 R4, R5, hrun5, I5, by omega⟩
/-! ### statement_in -/
def spStIn (K : PySem.W.Frag) : Sp := fun vs H Q E => ∃ (r t m : Addr) (len : Nat) (S : PS) (many : Int), vs = [.ref r, .int many] ∧ Rp K r H len S t m ∧ Ok1 S ∧
  OutA K r t m len H Q E (stmtE len many S) fun H' v a => Tp K H' v (.tuple [a.1, .bool a.2])
theorem ok_statement_in (T : Txt K mg w) : Good P w K mg base 12 (He.ga K "statement_in") ["reader", "many"] (spStIn K) := by
  have GP := ok_part_of (P := P) (base := base) T
  refine good_of T.f_statement_in sc_statement_in (fun _ _ _ _ _ _ us hl => match us, hl with | [_, _], _ => rfl) (fun vs H Q E h => by obtain ⟨_, _, _, _, _, _, rfl, _⟩ := h; rfl) (fun cdv A outer s H vs Q E hr h => ?_)
  obtain ⟨r, t, m, len, S, many, rfl, R, o1, k⟩ := h
  have hf := part_fine o1 len many .stmt .T (.inl ⟨rfl, rfl⟩)
  refine ⟨_, (pss_cons (ps_asg (pf GP (hr.mono (by decide)) T.g_part_of px (pa_cons (pv 0) (pa_cons (pv 1) (pa_cons pe_str pa_nil)))) (pg_tup rfl (pgs_cons (pg_name (i := 2) sc_statement_in.nd rfl (Or.inl rfl)) (pgs_cons (pg_name (i := 3) sc_statement_in.nd rfl (Or.inl rfl)) (pgs_cons (pg_name (i := 4) sc_statement_in.nd rfl (Or.inl rfl)) pgs_nil)))))
      (pss_one (ps_ret (pe_tup (pa_cons (pv 2) (pa_cons (pe_and (pe_cmpR op_le (pv 3) (pg_i T.c_MOST_PARTS) (nomark _)) (pe_one (pe_cmpR op_le (pv 4) (pg_i T.c_MOST_DEEP) (nomark _)))) pa_nil)))))), ?_⟩
  refine ⟨_, rfl, _, rfl, r, t, m, len, S, many, .stmt, .T, _, rfl, .inl ⟨rfl, rfl, rfl⟩, R, o1, ?_⟩
  unfold stmtE at k
  rcases hf with ⟨q, h⟩ | ⟨S', d, h1, h2, h3, h4, h5⟩
  · rw [part_err h] at k ⊢
    exact k
  rw [h4] at k ⊢
  cases d with
  | T d p q =>
    have k : OutA K r t m len H Q E (.ok (d, decide (p ≤ 400) && decide (q ≤ 40)) { S' with made := [] }) (fun H' v a => Tp K H' v (.tuple [a.1, .bool a.2])) := k
    intro H1 m1 v g1 R1 tv
    obtain ⟨a, xs, rfl, h1, h2⟩ := tv.tup_inv
    obtain ⟨v1, r1, rfl, q1, h3⟩ := h2.cons_inv
    obtain ⟨v2, r2, rfl, q2, h4⟩ := h3.cons_inv
    obtain ⟨v3, r3, rfl, q3, h5⟩ := h4.cons_inv
    cases h5.nil_inv
    cases q2.int_inv
    cases q3.int_inv
    refine ⟨a, _, rfl, h1, rfl, _, _, rfl, _, _, rfl, _, _, rfl, rfl, ?_⟩
    refine ⟨_, rfl, _, rfl, _, _, rfl, rfl, _, rfl, ?_⟩
    have fin : ∀ b : Bool, (decide (p ≤ 400) && decide (q ≤ 40)) = b → ∀ u, H1 u = none → Q (.ref u) (upd H1 u (.tup [v1, .bl b])) := fun b e u hu => by
      rw [e] at k
      exact k _ m1 _ (g1.trans (Go.same (same_new hu)) R1) (R1.same (same_new hu)) (tp_new hu (.two q1 (.bl _)))
    refine iteD (c := (p ≤ 400)) (fun c => ?_) (fun c => ?_)
    · exact ⟨_, rfl, _, _, rfl, rfl, by show 2 ≤ sizeLine; decide, fin _ (by rw [decide_eq_true c]; rfl)⟩
    · exact ⟨by show 2 ≤ sizeLine; decide, fin _ (by rw [decide_eq_false c]; rfl)⟩
  | _ => cases h3
end
end KW

/-! part KEnt3 -/
set_option maxHeartbeats 4000000
namespace KW
open PySem PySem.Spec PyProof.Rows L2 KM SX
theorem stmt_cases {S : PS} (o : Ok1 S) (len : Nat) (many : Int) : (∃ q, stmtE len many S = .err q) ∨ ∃ a S', stmtE len many S = .ok a S' ∧ Ok1 S' := by
  rcases part_fine o len many .stmt .T (.inl ⟨rfl, rfl⟩) with ⟨q, h⟩ | ⟨S', d, h1, h2, h3, h4, h5⟩
  · exact .inl ⟨q, by unfold stmtE; rw [part_err h]; rfl⟩
  · cases d with
    | T d p q => exact .inr ⟨_, _, by unfold stmtE; rw [h4]; rfl, h5⟩
    | _ => cases h3
theorem namesE_cases {S : PS} (o : Ok1 S) (len : Nat) : (∃ q, namesE len S = .err q) ∨ ∃ ns S', namesE len S = .ok ns S' ∧ Ok1 S' := by
  unfold namesE nameE
  split
  · refine .inr ⟨_, _, rfl, ?_⟩
    exact o.adv.suf (take_suf _)
  · exact .inl ⟨_, rfl⟩
theorem names_cases {S : PS} (o : Ok1 S) (len : Nat) : (∃ q, namesBehind len S = .err q) ∨ ∃ ns S', namesBehind len S = .ok ns S' ∧ Ok1 S' := by
  unfold namesBehind
  split
  · exact namesE_cases o.adv len
  · exact .inr ⟨_, _, rfl, o⟩
section
variable {P : Program} {w : World} {K : PySem.W.Frag} {mg : Str → Option Value} {base : Heap}
def relE (K : PySem.W.Frag) (H' : Hp) (v : V) (a : PyData × Bool) : Prop := Tp K H' v (.tuple [a.1, .bool a.2])
/-- the two parts of (a, is_good) -/
theorem relE_inv {H : Hp} {v : V} {a : PyData × Bool} (h : relE K H v a) : ∃ p v1, v = .ref p ∧ SqT K H p [v1, .bl a.2] ∧ Tp K H v1 a.1 := by
  obtain ⟨p, xs, rfl, h1, h2⟩ := Tp.tup_inv h
  obtain ⟨v1, r1, rfl, q1, h3⟩ := h2.cons_inv
  obtain ⟨v2, r2, rfl, q2, h4⟩ := h3.cons_inv
  cases h4.nil_inv
  cases q2.bl_inv
  exact ⟨p, v1, rfl, h1, q1⟩
/-- need_word read, when the word is w0 or not -/
theorem need_out {α : Type} {r t m : Addr} {len : Nat} {H : Hp} {Q : VK} {E : XK} {w0 : Wd} {S : PS} {f : Unit → PS → Er α} {rel : Hp → V → α → Prop} {Q2 : VK} (k : OutA K r t m len H Q E ((needE len w0 S).bind f) rel)
    (h : nw len S = w0 → ∀ H' m', Go r t m H m' H' → Rp K r H' len S.adv t m' → OutA K r t m' len H' Q E (f () S.adv) rel → Q2 .non H') : Out K r t m len H Q2 E (if nw len S = w0 then .ok S.adv else wrongM len S) := by
  unfold needE at k
  by_cases c : nw len S = w0
  · rw [if_pos c] at k ⊢
    exact fun H' m' g R => h c H' m' g R (OutA.shift (x := f () S.adv) k g R)
  · rw [if_neg c] at k ⊢
    exact k
/-! ### told_entry -/
def spTold (K : PySem.W.Frag) : Sp := fun vs H Q E => ∃ (r t m : Addr) (len : Nat) (S : PS) (word nm : Str), vs = [.ref r, .str word, .str nm] ∧ Rp K r H len S t m ∧ Ok1 S ∧ OutA K r t m len H Q E (toldE len word nm S) (relE K)
theorem ok_told_entry (T : Txt K mg w) : Good P w K mg base 13 (He.ga K "told_entry") ["reader", "word", "name"] (spTold K) := by
  have GN := ok_names_behind (P := P) (base := base) T
  have GW := ok_need_word (P := P) (base := base) T
  have GS := ok_statement_in (P := P) (base := base) T
  have GP := ok_part_of (P := P) (base := base) T
  have GG := ok_whole_ground (P := P) (base := base) T
  refine good_of T.f_told_entry sc_told_entry (fun _ _ _ _ _ _ us hl => match us, hl with | [_, _, _], _ => rfl) (fun vs H Q E h => by obtain ⟨_, _, _, _, _, _, _, rfl, _⟩ := h; rfl) (fun cdv A outer s H vs Q E hr h => ?_)
  obtain ⟨r, t, m, len, S, word, nm, rfl, R, o1, k⟩ := h
  obtain ⟨dx, wd, at', hR⟩ := R.ins_
  refine ⟨_, (pss_cons (ps_if (pt_cmpR op_eq (pv 1) pe_str (nomark _)) (pss_cons (ps_set (i := 3) sc_told_entry.nd rfl (Or.inl rfl) (pf GN (hr.mono (by decide)) T.g_names_behind px (pa_cons (pv 0) pa_nil)))
      (pss_cons (ps_expr (pm GW (hr.mono (by decide)) T.cl T.m_need_word px (pv 0) (pa_cons pe_str (pa_cons pe_str pa_nil))))
      (pss_cons (ps_asg (pf GS (hr.mono (by decide)) T.g_statement_in px (pa_cons (pv 0) (pa_cons (pe_callB call_len_seq (by rfl) T.z_len (by decide +kernel) (pa_cons (pv 3) pa_nil)) pa_nil))) (pg_tup rfl (pgs_cons (pg_name (i := 4) sc_told_entry.nd rfl (Or.inl rfl)) (pgs_cons (pg_name (i := 5) sc_told_entry.nd rfl (Or.inl rfl)) pgs_nil))))
      (pss_one (ps_ret (pe_tup (pa_cons (pe_tup (pa_cons pe_str (pa_cons (pv 2) (pa_cons (pv 3) (pa_cons (pv 4) pa_nil))))) (pa_cons (pv 5) pa_nil)))))))) pss_nil)
      (pss_cons (ps_expr (pm GW (hr.mono (by decide)) T.cl T.m_need_word px (pv 0) (pa_cons pe_str (pa_cons pe_str pa_nil))))
      (pss_cons (ps_asg (pf GS (hr.mono (by decide)) T.g_statement_in px (pa_cons (pv 0) (pa_cons pe_int pa_nil))) (pg_tup rfl (pgs_cons (pg_name (i := 4) sc_told_entry.nd rfl (Or.inl rfl)) (pgs_cons (pg_name (i := 5) sc_told_entry.nd rfl (Or.inl rfl)) pgs_nil))))
      (pss_cons (ps_if (pt_cmpR op_eq (pv 1) pe_str (nomark _)) (pss_one (ps_ret (pe_tup (pa_cons (pe_tup (pa_cons pe_str (pa_cons (pv 2) (pa_cons (pv 4) pa_nil)))) (pa_cons (pv 5) pa_nil))))) pss_nil)
      (pss_cons (ps_expr (pm GW (hr.mono (by decide)) T.cl T.m_need_word px (pv 0) (pa_cons pe_str (pa_cons pe_str pa_nil))))
      (pss_cons (ps_set (i := 6) sc_told_entry.nd rfl (Or.inl rfl) (pf GG (hr.mono (by decide)) T.g_whole_ground px (pa_cons (pf GP (hr.mono (by decide)) T.g_part_of px (pa_cons (pv 0) (pa_cons pe_int (pa_cons pe_str pa_nil)))) (pa_cons (pe_fld (pv 0) rfl) pa_nil))))
      (pss_one (ps_ret (pe_tup (pa_cons (pe_tup (pa_cons pe_str (pa_cons (pv 2) (pa_cons (pv 4) (pa_cons (pv 6) pa_nil))))) (pa_cons (pv 5) pa_nil))))))))))), ?_⟩
  refine ⟨_, rfl, rfl, _, rfl, ?_⟩
  rw [dec_str, Bool.beq_eq_decide_eq]
  unfold toldE at k
  refine iteD (fun cw => ?_) (fun cw => ?_)
  · rw [if_pos cw] at k
    refine ⟨_, rfl, r, t, m, len, S, rfl, R, o1.len, ?_⟩
    rcases names_cases o1 len with ⟨q, h⟩ | ⟨ns, S1, h, o2⟩
    · rw [h] at k ⊢
      exact k
    rw [h] at k ⊢
    have k : OutA K r t m len H Q E ((needE len (.told "by") S1).bind fun _ S => (stmtE len ns.length S).bind fun a S => .ok (.tuple [.str "mean", .str nm, strsD ns, a.1], a.2) S) (relE K) := k
    intro H1 m1 v1 g1 R1 tv1
    replace k := k.shift g1 R1
    obtain ⟨dx1, wd1, at1, hR1⟩ := R1.ins_
    refine ⟨_, rfl, r, _, _, rfl, hR1, rd_none, r, t, m1, len, S1, "told", "by", .told "by", rfl, R1, .inr ⟨rfl, rfl⟩, by decide +kernel, need_out k fun c H2 m2 g2 R2 k => ?_⟩
    have tv2 := tv1.mono (R1.tm g2)
    obtain ⟨p, xs, rfl, h1, h2⟩ := tv2.tup_inv
    have hxl : xs.length = ns.length := by rw [h2.len, List.length_map]
    refine ⟨_, rfl, _, rfl, p, xs, rfl, .inr h1, r, t, m2, len, S1.adv, (xs.length : Nat), rfl, R2, o2.adv, ?_⟩
    rw [hxl]
    rcases stmt_cases o2.adv len (ns.length : Nat) with ⟨q, h⟩ | ⟨a, S3, h, o3⟩
    · rw [h] at k ⊢
      exact k
    rw [h] at k ⊢
    have k : OutA K r t m2 len H2 Q E (.ok (.tuple [.str "mean", .str nm, strsD ns, a.1], a.2) S3) (relE K) := k
    intro H3 m3 v3 g3 R3 tv3
    obtain ⟨p3, va, rfl, h3, h4⟩ := relE_inv tv3
    refine ⟨p3, _, rfl, h3, rfl, _, _, rfl, _, _, rfl, rfl, ?_⟩
    have tvs : Tp K H3 (.ref p) (strsD ns) := tv2.mono (R2.tm g3)
    refine ⟨_, rfl, _, rfl, _, rfl, by show 4 ≤ sizeLine; decide, fun u hu => ?_⟩
    have e1 := same_new (o := .tup [.str "mean", .str nm, .ref p, va]) hu
    refine ⟨_, rfl, by show 2 ≤ sizeLine; decide, fun u2 hu2 => ?_⟩
    have e2 := same_new (o := .tup [.ref u, .bl a.2]) hu2
    exact k _ m3 _ (g3.trans (Go.same (e1.trans e2)) R3) (R3.same (e1.trans e2)) (tp_new hu2 (.two (tp_new hu (.four (.str _) (.str _) tvs h4)) (.bl _)))
  rw [if_neg cw] at k
  refine ⟨_, rfl, r, _, _, rfl, hR, rd_none, r, t, m, len, S, "mark", ":", .mark ":", rfl, R, .inl ⟨rfl, rfl⟩, by decide +kernel, need_out k fun c H2 m2 g2 R2 k => ?_⟩
  refine ⟨_, rfl, r, t, m2, len, S.adv, 0, rfl, R2, o1.adv, ?_⟩
  rcases stmt_cases o1.adv len 0 with ⟨q, h⟩ | ⟨a, S3, h, o3⟩
  · rw [h] at k ⊢
    exact k
  rw [h] at k ⊢
  have k : OutA K r t m2 len H2 Q E (if word = "taken" then .ok (.tuple [.str "taken", .str nm, a.1], a.2) S3
    else (needE len (.told "by") S3).bind fun _ S => (groundE len S).bind fun g S => .ok (.tuple [.str "shown", .str nm, a.1, g], a.2) S) (relE K) := k
  intro H3 m3 v3 g3 R3 tv3
  replace k := k.shift g3 R3
  obtain ⟨p3, va, rfl, h3, h4⟩ := relE_inv tv3
  refine ⟨p3, _, rfl, h3, rfl, _, _, rfl, _, _, rfl, rfl, ?_⟩
  refine ⟨_, rfl, rfl, _, rfl, ?_⟩
  rw [dec_str, Bool.beq_eq_decide_eq]
  refine iteD (fun cw2 => ?_) (fun cw2 => ?_)
  · rw [if_pos cw2] at k
    refine ⟨_, rfl, _, rfl, by show 3 ≤ sizeLine; decide, fun u hu => ?_⟩
    have e1 := same_new (o := .tup [.str "taken", .str nm, va]) hu
    refine ⟨_, rfl, by show 2 ≤ sizeLine; decide, fun u2 hu2 => ?_⟩
    have e2 := same_new (o := .tup [.ref u, .bl a.2]) hu2
    exact k _ m3 _ (Go.same (e1.trans e2)) (R3.same (e1.trans e2)) (tp_new hu2 (.two (tp_new hu (.three (.str _) (.str _) h4)) (.bl _)))
  rw [if_neg cw2] at k
  obtain ⟨dx3, wd3, at3, hR3⟩ := R3.ins_
  refine ⟨_, rfl, r, _, _, rfl, hR3, rd_none, r, t, m3, len, S3, "told", "by", .told "by", rfl, R3, .inr ⟨rfl, rfl⟩, by decide +kernel, need_out k fun c H5 m5 g5 R5 k => ?_⟩
  refine ⟨_, rfl, r, t, m5, len, S3.adv, 0, .ground, .P, "ground", rfl, .inr ⟨rfl, rfl, rfl⟩, R5, o3.adv, ?_⟩
  unfold groundE at k
  rcases part_fine o3.adv len 0 .ground .P (.inr ⟨rfl, rfl⟩) with ⟨q, h⟩ | ⟨S', d, h1, h2, h5, h6, h7⟩
  · rw [part_err h] at k ⊢
    exact k
  rw [h6] at k ⊢
  intro H6 m6 v6 g6 R6 tv6
  obtain ⟨dx6, wd6, at6, hR6⟩ := R6.ins_
  refine ⟨_, rfl, fl_length T hR6 ?_⟩
  cases d with
  | P d p q g =>
    refine ⟨v6, d, p, q, g, len, rfl, tv6, ?_⟩
    cases ew : wholeG len (.P d p q g) with
    | inr pp =>
      have k : OutA K r t m5 len H5 Q E (match wholeG len (.P d p q g) with
        | .inl g => ((Er.ok g { S' with made := [] }).bind fun g S => .ok (.tuple [.str "shown", .str nm, a.1, g], a.2) S)
        | .inr p => .err p) (relE K) := by
        have k0 := k
        cases ew2 : wholeG len (.P d p q g) with
        | inl g' => rw [ew] at ew2; cases ew2
        | inr pp' =>
          simp only [Er.bind, ew2] at k0
          exact k0
      rw [ew] at k
      exact fun H' d' s' e => k H' d' (g6.e (K := K) (Go.same (r := r) (t := t) (m := m6) s').toE) e
    | inl gd =>
      simp only [Er.bind, ew] at k
      intro H7 v7 s7 tv7
      have R7 := R6.same s7
      have ta : Tp K H7 va a.1 := ((h4.mono (R3.tm g5)).mono (R5.tm g6)).mono (TM.same s7)
      refine ⟨_, rfl, _, rfl, _, rfl, by show 4 ≤ sizeLine; decide, fun u hu => ?_⟩
      have e1 := same_new (o := .tup [.str "shown", .str nm, va, v7]) hu
      refine ⟨_, rfl, by show 2 ≤ sizeLine; decide, fun u2 hu2 => ?_⟩
      have e2 := same_new (o := .tup [.ref u, .bl a.2]) hu2
      exact k _ m6 _ ((g6.trans (Go.same s7) R6).trans (Go.same (e1.trans e2)) R7) (R7.same (e1.trans e2)) (tp_new hu2 (.two (tp_new hu (.four (.str _) (.str _) ta tv7)) (.bl _)))
  | _ => cases h5
end
end KW

/-! part KEnt4 -/
set_option maxHeartbeats 4000000
namespace KW
open PySem PySem.Spec PyProof.Rows L2 KM SX
theorem toldE_cases {S : PS} (o : Ok1 S) (len : Nat) (word x : Str) : (∃ q, toldE len word x S = .err q) ∨ ∃ a S', toldE len word x S = .ok a S' := by
  cases h : toldE len word x S with
  | err p => exact .inl ⟨p, rfl⟩
  | ok a S => exact .inr ⟨a, S, rfl⟩
theorem iteInF {x : V} {xs : List V} {A B : Prop} {b : Bool} (e : inV x xs = b) (h1 : b = false → A) (h2 : b = true → B) : if (if true = true then !inV x xs else inV x xs) = true then A else B := by
  rw [e]
  cases b with
  | true => exact iteF (h2 rfl)
  | false => exact iteT (h1 rfl)
section
variable {P : Program} {w : World} {K : PySem.W.Frag} {mg : Str → Option Value} {base : Heap}
/-! ### entry_in -/
def spEntryIn (K : PySem.W.Frag) : Sp := fun vs H Q E => ∃ (r t m : Addr) (len : Nat) (S : PS), vs = [.ref r] ∧ Rp K r H len S t m ∧ Ok1 S ∧ OutA K r t m len H Q E (entryE len S) (relE K)
theorem ok_entry_in (T : Txt K mg w) : Good P w K mg base 14 (He.ga K "entry_in") ["reader"] (spEntryIn K) := by
  have GNow := ok_now (P := P) (base := base) T
  have GX := ok_wrong (P := P) (base := base) T
  have GO := ok_go_on (P := P) (base := base) T
  have GK := ok_need_kind (P := P) (base := base) T
  have GF := ok_func_entry (P := P) (base := base) T
  have GN := ok_names_behind (P := P) (base := base) T
  have GT := ok_told_entry (P := P) (base := base) T
  refine good_of T.f_entry_in sc_entry_in (fun _ _ _ _ _ _ us hl => match us, hl with | [_], _ => rfl) (fun vs H Q E h => by obtain ⟨_, _, _, _, _, rfl, _⟩ := h; rfl) (fun cdv A outer s H vs Q E hr h => ?_)
  obtain ⟨r, t, m, len, S, rfl, R, o1, k⟩ := h
  obtain ⟨dx, wd, at', hR⟩ := R.ins_
  refine ⟨_, (pss_cons (ps_if (PW.pt (pw_or (pt_cmpR op_ne (pe_ix ix_tup (pm0 GNow (hr.mono (by decide)) T.cl T.m_now px (pv 0)) pe_int (fun _ _ => rfl)) pe_str (nomark _)) (pw_or1 (pt_cmpR op_notIn_seq (pe_ix ix_tup (pm0 GNow (hr.mono (by decide)) T.cl T.m_now px (pv 0)) pe_int (fun _ _ => rfl)) (pe_tup (pa_cons pe_str (pa_cons pe_str (pa_cons pe_str (pa_cons pe_str (pa_cons pe_str (pa_cons pe_str pa_nil))))))) rfl)))) (pss_one (ps_expr (pm0 GX (hr.mono (by decide)) T.cl T.m_wrong px (pv 0)))) pss_nil)
      (pss_cons (ps_set (i := 1) sc_entry_in.nd rfl (Or.inl rfl) (pm0 GO (hr.mono (by decide)) T.cl T.m_go_on px (pv 0)))
      (pss_cons (ps_set (i := 2) sc_entry_in.nd rfl (Or.inl rfl) (pm GK (hr.mono (by decide)) T.cl T.m_need_kind px (pv 0) (pa_cons pe_str pa_nil)))
      (pss_cons (ps_if (pt_cmpR op_eq (pv 1) pe_str (nomark _)) (pss_one (ps_ret (pe_tup (pa_cons (pf GF (hr.mono (by decide)) T.g_func_entry px (pa_cons (pv 0) (pa_cons (pv 2) pa_nil))) (pa_cons pe_bl pa_nil))))) pss_nil)
      (pss_cons (ps_if (pt_cmpR op_in_seq (pv 1) (pe_tup (pa_cons pe_str (pa_cons pe_str pa_nil))) rfl) (pss_one (ps_ret (pe_tup (pa_cons (pe_tup (pa_cons (pv 1) (pa_cons (pv 2) (pa_cons (pf GN (hr.mono (by decide)) T.g_names_behind px (pa_cons (pv 0) pa_nil)) pa_nil)))) (pa_cons pe_bl pa_nil))))) pss_nil)
      (pss_one (ps_ret (pf GT (hr.mono (by decide)) T.g_told_entry px (pa_cons (pv 0) (pa_cons (pv 1) (pa_cons (pv 2) pa_nil))))))))))), ?_⟩
  refine ⟨_, rfl, r, dx, _, rfl, hR, rd_none, r, t, m, len, S, rfl, R, fun H1 p s1 tp => ?_⟩
  obtain ⟨v2, h1, q2⟩ := wd_parts tp
  have R1 := R.same s1
  have hR1 := s1 _ _ hR
  refine ⟨p, _, _, _, rfl, rfl, h1, atI_nat (j := 0) rfl, rfl, _, rfl, ?_⟩
  rw [dec_str, Bool.beq_eq_decide_eq]
  refine iteNot (fun c => iteT ?_) (fun c => ?_)
  · have e : entryE len S = wrongE len S := by
      unfold entryE
      split
      · rename_i n e; exact absurd e (not_told c n)
      · rfl
    rw [e] at k
    exact ⟨_, rfl, r, dx, _, rfl, hR1, rd_none, r, t, m, len, S, rfl, R1, fun H' d g e => k H' d ((Go.same (r := r) (t := t) (m := m) s1).e (K := K) g) e⟩
  obtain ⟨x, ex⟩ : ∃ x, nw len S = .told x := kind_told c
  have e : entryE len S = if x ∈ sortsL then (nameE len S.adv).bind fun y S => entryE2 len x y S else wrongE len S := by unfold entryE; rw [ex]
  rw [e] at k
  refine ⟨_, rfl, r, dx, _, rfl, hR1, rd_none, r, t, m, len, S, rfl, R1, fun H2 p2 s2 tp2 => ?_⟩
  obtain ⟨v3, h3, q3⟩ := wd_parts tp2
  have q3' : Tp K H2 v3 (nw len S).val := q3
  rw [ex] at q3'
  cases q3'.str_inv
  refine ⟨p2, _, _, _, rfl, rfl, h3, atI_nat (j := 1) rfl, ?_⟩
  refine ⟨by show 6 ≤ sizeLine; decide, fun u hu => ?_⟩
  have e3 := same_new (o := .tup [.str "sort", .str "func", .str "rel", .str "mean", .str "taken", .str "shown"]) hu
  have s12 := (s1.trans s2).trans e3
  have R2 := R.same s12
  have hR2 := s12 _ _ hR
  refine ⟨_, _, rfl, .inr (SqT.of upd_same), rfl, by decide +kernel, _, rfl, ?_⟩
  refine iteInF (b := decide (x ∈ sortsL)) (inV_strs (l := sortsL)) (fun c2 => ?_) (fun c2 => ?_)
  · have c2 := of_decide_eq_false c2
    rw [if_neg c2] at k
    exact ⟨_, rfl, r, dx, _, rfl, hR2, rd_none, r, t, m, len, S, rfl, R2, fun H' d g e => k H' d ((Go.same (r := r) (t := t) (m := m) s12).e (K := K) g) e⟩
  have c2 := of_decide_eq_true c2
  rw [if_pos c2] at k
  refine ⟨_, rfl, r, dx, _, rfl, hR2, rd_none, r, t, m, len, S, rfl, R2, ne_of_now ex (by simp), fun H4 v g4 R4 tv => ?_⟩
  rw [ex] at tv
  cases tv.str_inv
  have g14 : Go r t m H m H4 := (Go.same s12).trans g4 R2
  replace k := k.shift g14 R4
  obtain ⟨dx4, wd4, at4, hR4⟩ := R4.ins_
  refine ⟨_, rfl, r, _, _, rfl, hR4, rd_none, r, t, m, len, S.adv, _, rfl, R4, by decide +kernel, fun c3 H5 v g5 R5 tv => ?_, fun c3 => ?_⟩
  rotate_left
  · rw [nameE_err (not_name c3)] at k
    exact k
  obtain ⟨y, ey⟩ : ∃ y, nw len S.adv = .name y := kind_name c3
  rw [nameE_ok ey] at k
  have k : OutA K r t m len H4 Q E (entryE2 len x y S.adv.adv) (relE K) := k
  rw [ey] at tv
  cases tv.str_inv
  replace k := k.shift g5 R5
  have o3 := o1.adv.adv
  obtain ⟨dx5, wd5, at5, hR5⟩ := R5.ins_
  unfold entryE2 at k
  refine ⟨_, rfl, rfl, _, rfl, ?_⟩
  rw [dec_str, Bool.beq_eq_decide_eq]
  refine iteD (fun cw => ?_) (fun cw => ?_)
  · rw [if_pos cw] at k
    refine ⟨_, rfl, _, rfl, r, t, m, len, S.adv.adv, y, rfl, R5, o3.len, ?_⟩
    cases h : funcE len y S.adv.adv with
    | err q => rw [h] at k; exact k
    | ok d S6 =>
      rw [h] at k
      have k : OutA K r t m len H5 Q E (.ok (d, true) S6) (relE K) := k
      intro H6 m6 v6 g6 R6 tv6
      refine ⟨by show 2 ≤ sizeLine; decide, fun u2 hu2 => ?_⟩
      have e2 := same_new (o := .tup [v6, .bl true]) hu2
      exact k _ m6 _ (g6.trans (Go.same e2) R6) (R6.same e2) (tp_new hu2 (.two tv6 (.bl _)))
  rw [if_neg cw] at k
  refine ⟨_, rfl, by show 2 ≤ sizeLine; decide, fun u hu => ?_⟩
  have e6 := same_new (o := .tup [.str "sort", .str "rel"]) hu
  have R6 := R5.same e6
  refine ⟨_, _, rfl, .inr (SqT.of upd_same), rfl, by decide +kernel, _, rfl, ?_⟩
  show if inV (.str x) ((["sort", "rel"] : List Str).map V.str) = true then _ else _
  rw [inV_strs]
  refine iteD (fun cr => ?_) (fun cr => ?_)
  · rw [if_pos (by simpa using cr)] at k
    replace k := k.shift (Go.same e6) R6
    refine ⟨_, rfl, _, rfl, _, rfl, r, t, m, len, S.adv.adv, rfl, R6, o3.len, ?_⟩
    cases h : namesBehind len S.adv.adv with
    | err q => rw [h] at k; exact k
    | ok ns S7 =>
      rw [h] at k
      have k : OutA K r t m len (upd H5 u (.tup [.str "sort", .str "rel"])) Q E (.ok (.tuple [.str x, .str y, strsD ns], true) S7) (relE K) := k
      intro H7 m7 v7 g7 R7 tv7
      refine ⟨by show 3 ≤ sizeLine; decide, fun u1 hu1 => ?_⟩
      have e1 := same_new (o := .tup [.str x, .str y, v7]) hu1
      refine ⟨by show 2 ≤ sizeLine; decide, fun u2 hu2 => ?_⟩
      have e2 := same_new (o := .tup [.ref u1, .bl true]) hu2
      exact k _ m7 _ (g7.trans (Go.same (e1.trans e2)) R7) (R7.same (e1.trans e2)) (tp_new hu2 (.two (tp_new hu1 (.three (.str _) (.str _) tv7)) (.bl _)))
  · rw [if_neg (by simpa using cr)] at k
    exact ⟨_, rfl, _, rfl, _, rfl, r, t, m, len, S.adv.adv, x, y, rfl, R6, o3, k.shift (Go.same e6) R6⟩
/-! ### entry_of, read_entry -/
theorem ok1_psOf {l : List Nat} (hl : l.length ≤ 5000) (many : Int) : Ok1 (psOf l many) := by
  have h1 := inv_psOf l many (t := .stmt) (by decide +kernel)
  have h2 := scan_len l.length 0 l
  refine ⟨rfl, rfl, (fun p hp => lay_rest h1.ly p hp), (fun p hp => h1.wd p hp), ?_⟩
  show ((toks l).map Tok.pw).length ≤ 5000
  rw [List.length_map]
  have : (toks l).length ≤ l.length := h2
  omega
def spEntryX (K : PySem.W.Frag) (most : Int) (x : V) (H : Hp) (Q : VK) (E : XK) : Prop := (∃ l : List Nat, x = .str (S l) ∧ ((most < (l.length : Nat) ∧ l.length ≤ 1000000 ∧ Bad K H E .non) ∨ (¬ most < (l.length : Nat) ∧ l.length ≤ 5000 ∧ Ends2 K H Q E (entryOut l)))) ∨
  (∃ t, TyX K H x t ∧ PySem.W.kitOne K t (.type "str") = some false ∧ Bad K H E .non)
def spEntryOf (K : PySem.W.Frag) : Sp := fun vs H Q E => ∃ (x : V) (most : Int), vs = [x, .int most] ∧ spEntryX K most x H Q E
theorem ok_entry_of (T : Txt K mg w) : Good P w K mg base 15 (He.ga K "entry_of") ["text", "most"] (spEntryOf K) := by
  have GR := ok_reader_of (P := P) (base := base) T
  have GE := ok_entry_in (P := P) (base := base) T
  have GX := ok_wrong (P := P) (base := base) T
  refine good_of T.f_entry_of sc_entry_of (fun _ _ _ _ _ _ us hl => match us, hl with | [_, _], _ => rfl) (fun vs H Q E h => by obtain ⟨_, _, rfl, _⟩ := h; rfl) (fun cdv A outer s H vs Q E hr h => ?_)
  obtain ⟨x, most, rfl, h⟩ := h
  refine ⟨_, (pss_cons (ps_set (i := 2) sc_entry_of.nd rfl (Or.inl rfl) (pf GR (hr.mono (by decide)) T.g_reader_of px (pa_cons (pv 0) (pa_cons pe_int (pa_cons (pv 1) pa_nil)))))
      (pss_cons (ps_asg (pf GE (hr.mono (by decide)) T.g_entry_in px (pa_cons (pv 2) pa_nil)) (pg_tup rfl (pgs_cons (pg_name (i := 3) sc_entry_of.nd rfl (Or.inl rfl)) (pgs_cons (pg_name (i := 4) sc_entry_of.nd rfl (Or.inl rfl)) pgs_nil))))
      (pss_cons (ps_if (pt_cmpR op_lt (pe_fld (pv 2) rfl) (pe_callB call_len (by rfl) T.z_len boot_len (pa_cons (pe_fld (pv 2) rfl) pa_nil)) (nomark _)) (pss_one (ps_expr (pm0 GX (hr.mono (by decide)) T.cl T.m_wrong px (pv 2)))) pss_nil)
      (pss_cons (ps_if (pt_not (pt_val (pv 4))) (pss_one (ps_bad T (hr.mono (by decide)) rfl (takes_of rfl rfl rfl rfl) (pe_callB call_len_str (by rfl) T.z_len (by decide +kernel) (pa_cons (pv 0) pa_nil)))) pss_nil)
      (pss_one (ps_ret (pv 3))))))), ?_⟩
  rcases h with ⟨l, rfl, ⟨hm, hl, kb⟩ | ⟨hm, hl, k⟩⟩ | ⟨ty, h1, h2, kb⟩
  · exact ⟨_, rfl, _, rfl, .str (S l), 0, most, rfl, .inl ⟨l, rfl, hl, fun _ => kb, fun z => absurd hm z⟩⟩
  rotate_left
  · exact ⟨_, rfl, _, rfl, _, 0, most, rfl, .inr ⟨ty, h1, h2, kb⟩⟩
  refine ⟨_, rfl, _, rfl, .str (S l), 0, most, rfl, .inl ⟨l, rfl, by omega, fun z => absurd z hm, fun _ H1 r t m s1 hr0 ht0 hm0 R => ?_⟩⟩
  refine ⟨_, rfl, r, t, m, l.length, psOf l 0, rfl, R, ok1_psOf hl 0, ?_⟩
  unfold entryOut entryOf at k
  cases h : entryE l.length (psOf l 0) with
  | err p =>
    rw [h] at k
    exact fun H' d g e => k H' d (goE_same s1 g hr0 ht0 hm0) e
  | ok a S2 =>
    rw [h] at k
    have k : Ends2 K H Q E (if S2.rest = [] then (if a.2 = true then .inl a.1 else .inr l.length) else .inr (nowW l.length S2.rest).pos) := k
    intro H2 m2 v2 g2 R2 tv2
    have s2 : Same H H2 := goE_same s1 g2.toE hr0 ht0 hm0
    obtain ⟨p3, va, rfl, h3, h4⟩ := relE_inv tv2
    refine ⟨p3, _, rfl, h3, rfl, _, _, rfl, _, _, rfl, rfl, ?_⟩
    obtain ⟨dx3, w3, at3, wv, ws, tv3, mv, hRR, hw, hW, hrest, hat, hwl, htt, hTT, hmm, hM, _⟩ := R2.ex
    refine ⟨_, rfl, fl_at T hRR ⟨_, rfl, fl_words T hRR ⟨_, _, rfl, .inl ⟨_, SqL.of hw, rfl⟩, _, _, rfl, rfl, _, rfl, ?_⟩⟩⟩
    have hlen : wv.length = ws.length := by rw [hW.len, List.length_map]
    refine iteD (c := ((at3 : Int) < (wv.length : Int))) (fun c => ?_) (fun c => ?_)
    · have hne : S2.rest ≠ [] := by
        rw [← hrest]
        intro z
        have := List.drop_eq_nil_iff.mp z
        omega
      rw [if_neg hne] at k
      exact ⟨_, rfl, r, _, _, rfl, hRR, rd_none, r, t, m2, l.length, S2, rfl, R2, fun H' d g4 hd => k H' d (goE_same s1 (g2.e (K := K) g4) hr0 ht0 hm0) hd⟩
    · have he : S2.rest = [] := by
        rw [← hrest]
        exact List.drop_eq_nil_iff.mpr (by omega)
      rw [if_pos he] at k
      refine ⟨_, rfl, _, rfl, ?_⟩
      cases hb : a.2 with
      | false =>
        rw [hb] at k
        refine iteT ⟨_, rfl, _, rfl, by rw [S_len, sizeLine_eq]; omega, ?_⟩
        rw [S_len]
        exact mk_bad fun d hd => k _ d (s2.trans (same_new hd)) upd_same
      | true =>
        rw [hb] at k
        exact iteF ⟨_, rfl, k H2 va s2 h4⟩
def spReadE (K : PySem.W.Frag) : Sp := fun vs H Q E => ∃ (x : V), vs = [x] ∧ spEntryX K 20000 x H Q E
theorem ok_read_entry (T : Txt K mg w) : Good P w K mg base 16 (He.ga K "read_entry") ["text"] (spReadE K) := by
  have GE := ok_entry_of (P := P) (base := base) T
  refine good_of T.f_read_entry sc_read_entry (fun _ _ _ _ _ _ us hl => match us, hl with | [_], _ => rfl) (fun vs H Q E h => by obtain ⟨_, rfl, _⟩ := h; rfl) (fun cdv A outer s H vs Q E hr h => ?_)
  obtain ⟨x, rfl, h⟩ := h
  exact ⟨_, (pss_one (ps_ret (pf GE (hr.mono (by decide)) T.g_entry_of px (pa_cons (pv 0) (pa_cons (pg_i T.c_MOST_SIGNS) pa_nil))))), _, rfl, x, 20000, rfl, h⟩
end
end KW

/-! part KEnt5 -/
set_option maxHeartbeats 4000000
namespace KW
open PySem PySem.Spec PyProof.Rows L2 KM SX
/-- a call of a def by its name, what it lets out told by the slots -/
theorem pfS {X : Cx} {x : Str} {pos : Pos} {f : Addr} {ps : List Str} {sp : Sp} {k : Nat} {E : L2.St → XK} {e : Expr} {es : List Expr} {t : TA} {p : Pos} (G : Good X.prog X.w X.K X.mg X.base k f ps sp) (hr : Room k X.A) (hm : X.mg x = some (.ref f)) (hx : ∀ σ, PassesAt (L2.CX X.prog X.w) X σ (E σ))
    (ha : PA X (e :: es) t) (hg : Gl X x := by rfl) (hdb : (x == ("__debug__" : Str)) = false := by decide) (he : starEach (e :: es) X.env = (false, eval e X.env) :: starEach es X.env := by rfl) (hpl : (backTo pos (starEach es X.env)).any (·.1) = false := by rfl) :
    PE X (.Call (.Name x p) (e :: es) [] pos) (tCallSD sp [] E t) := by
  obtain ⟨⟨fd, F, B⟩, kp⟩ := G
  exact pe_callSD F hr hg hm kp B .nil hx ha hdb he hpl
section
variable {P : Program} {w : World} {K : PySem.W.Frag} {mg : Str → Option Value} {base : Heap}
/-! ### line_entry -/
def spLineE (K : PySem.W.Frag) : Sp := fun vs H Q E => ∃ (l : List Nat) (i : Int), vs = [.str (S l), .int i] ∧ l.length ≤ 5000 ∧ (match entryOut l with
  | .inl d => ∀ H' v, Same H H' → Tp K H' v d → Q v H'
  | .inr _ => Bad K H E (.int i))
theorem entryOut_tup {l : List Nat} {d : PyData} (h : entryOut l = .inl d) : True := trivial
theorem ok_line_entry (T : Txt K mg w) (nn : ∀ l d, entryOut l = .inl d → d ≠ .none) : Good P w K mg base 17 (He.ga K "line_entry") ["line", "at"] (spLineE K) := by
  have GE := ok_read_entry (P := P) (base := base) T
  refine good_of T.f_line_entry sc_line_entry (fun _ _ _ _ _ _ us hl => match us, hl with | [_, _], _ => rfl) (fun vs H Q E h => by obtain ⟨_, _, rfl, _⟩ := h; rfl) (fun cdv A outer s H vs Q E hr h => ?_)
  obtain ⟨l, i, rfl, hl, k⟩ := h
  refine ⟨_, (pss_cons (ps_set (i := 2) sc_line_entry.nd rfl (Or.inl rfl) pe_non)
      (pss_cons (ps_try_only (c := .ref (CB K)) (Wout := fun cls d _ H => E cls d H) rfl rfl ⟨by rfl, by decide, .inl T.g_BadText⟩ (takes_of rfl rfl rfl rfl) (fun W pn xe tk _ => pss_one (ps_set (i := 2) sc_line_entry.nd rfl (Or.inl rfl) (pfS GE (hr.mono (by decide)) T.g_read_entry (fun σ => passAt tk σ) (pa_cons (pv 0) pa_nil)))) (fun a oe cls d pn _ _ => pss_one (ps_set (i := 2) sc_line_entry.nd rfl (Or.inl rfl) pe_non)))
      (pss_cons (ps_if (pt_cmpR op_isN (pv 2) pe_non (nomark _)) (pss_one (ps_bad T (hr.mono (by decide)) rfl (takes_of rfl rfl rfl rfl) (pv 1))) pss_nil)
      (pss_one (ps_ret (pv 2)))))), ?_⟩
  refine ⟨_, rfl, _, rfl, .inl ⟨l, rfl, .inr ⟨by omega, hl, ?_⟩⟩⟩
  cases e : entryOut l with
  | inl d =>
    rw [e] at k
    intro H1 v s1 tv
    refine ⟨_, rfl, rfl, _, rfl, ?_⟩
    refine iteD (c := v = .non) (fun c => ?_) (fun _ => ?_)
    · subst c
      have := nn l d e
      cases tv
      exact absurd rfl this
    · exact ⟨_, rfl, k H1 v s1 tv⟩
  | inr p =>
    rw [e] at k
    intro H1 d s1 hd
    refine ⟨true, T.xB, fun _ a ha => ?_, fun z => by cases z⟩
    refine ⟨_, rfl, rfl, _, rfl, iteT ?_⟩
    exact ⟨_, rfl, mk_bad fun d2 hd2 => k _ d2 (s1.trans (same_new hd2)) upd_same⟩
end
end KW

/-! part KCompX -/
set_option maxHeartbeats 4000000
/-! A list comprehension whose element may raise. -/
namespace KW
open PySem PySem.Spec PyProof.Rows L2 KM SX
section
variable {B G : Heap} {l : List Env} {a : Addr} {Z : Obj → Prop} {fl : Value} {L C : Addr} {h h' : Heap}
/-- on less ground -/
theorem held_less (k : HandSPX.HeldZ B l a Z L h) (sub : ∀ b o, G.get? b = some o → B.get? b = some o) : HandSPX.HeldZ G l a Z L h := by
  obtain ⟨k1, k2, k3, oe, vs, T, oT, ts, t1, t2, t3, t4, t5, t6⟩ := k
  have no : ∀ {b}, B.get? b = none → G.get? b = none := fun {b} z => by
    cases e : G.get? b with
    | none => rfl
    | some o => rw [sub b o e] at z; cases z
  exact ⟨fun b o e => k1 b o (sub b o e), no k2, funFrames_none k3 fun L' hL => no (k3.mem hL).1, oe, vs, T, oT, ts, t1, t2, t3, t4, no t5, t6⟩
/-- the block's names let go -/
theorem held_but (k : HandSPX.HeldZ G l a Z L h) (hC : G.get? C = none) {m m' : Str → Option Value} (n : h.Ns C m) (n' : h'.Ns C m') (sb : Heap.SameBut C h h') : HandSPX.HeldZ G l a Z L h' := by
  obtain ⟨k1, k2, k3, oe, vs, T, oT, ts, t1, t2, t3, t4, t5, t6, t7, t8, t9⟩ := k
  obtain ⟨oC, es, ep, hoC, hdC, _⟩ := n
  have na : a ≠ C := fun z => by rw [z, hoC] at t1; cases t1; rw [hdC] at t3; cases t3
  have nT : T ≠ C := fun z => by rw [z, hoC] at t7; cases t7; rw [hdC] at t8; cases t8
  exact ⟨fun b o e => (sb.2 b fun z => by rw [z, hC] at e; cases e).trans (k1 b o e), k2, Heap.FunFrames.sameBut sb n' k3, oe, vs, T, oT, ts, (sb.2 a na).trans t1, t2, t3, t4, t5, t6, (sb.2 T nT).trans t7, t8, t9⟩
end
/-- an exception held by a frame goes on when the block's names are gone -/
theorem goes_on {M : Model} {A : Around} {E : Value → Shared → Prop} {s : Shared} {env cenv : Env} {outer : List Env} {a L : Addr} {Z : Obj → Prop} {G : Heap} {m : Str → Option Value} (hf : cenv.frame = some L) (hC : G.get? cenv.locals = none) (n : s.heap.Ns cenv.locals m)
    (k : HandSPX.HeldZ G (env :: outer) a Z L s.heap) (q : ∀ h', HandSPX.HeldZ G (env :: outer) a Z L h' → (∀ b o, b ≠ cenv.locals → s.heap.get? b = some o → (∀ vs, o.data ≠ .fields vs) → ∃ sl, h'.get? b = some { o with slots := sl }) → E (.ref a) { s with heap := h' }) :
    CompFails M A E cenv (.ref a) s := by
  refine ⟨m, n, fun h2 m2 n2 sb => ?_⟩
  have k2 := held_but k hC n n2 sb
  obtain ⟨_, _, _, oe, vs, T, oT, ts, t1, t2, t3, t4, _⟩ := id k2
  unfold PySem.passOn
  refine wpAny_bind (wpAny_field t1 t3 t4 ?_)
  rw [if_neg (show ¬ ((Value.ref T == Value.none) = true) from by simp), hf]
  refine wpAny_bind (HandSPX.setFlight_onZ (s := { s with heap := h2 }) k2 fun h3 k3 up => ?_)
  refine wpAny_throw (q h3 k3 fun b o hb e hd => ?_)
  exact up b o ((sb.2 b hb).trans e) hd
section
variable {X : Cx}
/-- the context of the element of such a comprehension -/
abbrev blkX (X : Cx) (s : Shared) (H : Hp) (scope : Scope) (cenv : Env) (fp : List Addr) (pn : List (Addr × Obj)) (xe : Value → Shared → Prop) : Cx := (X.blk s H scope cenv fp).tr pn xe
/-- [elt for target in iter], elt may raise what E0 tells -/
theorem pe_lcX {W : WX} {E0 : XK} {elt tg iter : Expr} {scope : Scope} {own : List (Str × Nat)} {pos : Pos} {wi : TI} {g : TG} {te : TE} (hst : X.stack = X.env :: X.outer) (hfL : X.env.frame = some X.env.locals) (tk : Takes X W) (hW : ∀ cls d σ H, E0 cls d H → W cls d σ H)
    (hc : X.calm = true) (hN : X.N.Nodup) (hi : PI X tg iter wi) (ok : BlkOk X.N X.env.scope scope own)
    (hg : ∀ (s : Shared) (H : Hp) (C : Addr) (cl : List (Str × Addr)) (fp : List Addr), PG (X.blk s H scope (compEnvC scope cl C X.env) fp) tg g)
    (he : ∀ (s : Shared) (H : Hp) (C : Addr) (cl : List (Str × Addr)) (fp : List Addr) (pn : List (Addr × Obj)) (xe : Value → Shared → Prop), Passes (L2.CX X.prog X.w) (blkX X s H scope (compEnvC scope cl C X.env) fp pn xe) E0 → PE (blkX X s H scope (compEnvC scope cl C X.env) fp pn xe) elt te)
    (hs : ∀ x, foldedSetIterable iter X.env x = pure x := by intro _; rfl) :
    PE X (.ListComp elt [⟨tg, iter, [], 0⟩] scope pos) (tLc wi g tYes te (own.map (·.2))) := by
  refine ⟨fun pins s σ H Q I h => ?_⟩
  rw [eval_ListComp]
  have hfree : ∀ y ∈ scope.names, y.2 = .free → ∃ c, X.env.cells.lookup y.1 = some c := fun y hy e => (ok.free y hy e).elim (fun k => I.ok.has _ (.inl k)) fun k => I.ok.has _ (.inr k)
  refine comprehension_at (use := none) rfl hs (closure_ok hfree) ok.kind (fun y hy e => by rw [ok.uniq y hy, e])
    (thn (hi.run pins s σ H _ I h) fun xv s1 hx => thn hx fun itv s2 ⟨it, fp, tn, J, H2, e, I2, T, st2, f2, q⟩ => ?_)
  subst e
  refine wpAny_newObj_type (newEnv_comp ?_) (by show 0 ≤ sizeLine; decide)
  obtain ⟨D, hD⟩ : ∃ D, D = s2.heap.objs.size := ⟨_, rfl⟩
  rw [← hD]
  obtain ⟨W0, ⟨m0, w0⟩, turn⟩ := q D (I2.hok.fresh (Nat.le_of_eq hD.symm))
  obtain ⟨s3, hs3⟩ : ∃ s3 : Shared, s3 = { s2 with heap := s2.heap.push { cls := .type "list", data := .seq ([] : List Value).toArray } } := ⟨_, rfl⟩
  rw [← hs3]
  have grow : ∀ b o, s2.heap.get? b = some o → s3.heap.get? b = some o := fun b o e => by rw [hs3]; exact Heap.get?_push_of_some _ e
  have I3 : Inv X pins σ (upd H2 D (.lst [])) s3 := by
    rw [hs3]
    exact I2.laid (t' := s2.toks) (fun b o e => Heap.get?_push_of_some _ e) (Nat.le_of_eq hD.symm) ⟨Nat.zero_le _, [], 0, .nil, by rw [hD]; exact Heap.get?_push_size _ rfl⟩
  have low : ∀ b ∈ fp, b < s2.heap.objs.size := fun b hb => (T.obj _ _ st2 b hb).elim fun o e => Heap.lt_size e.1
  have f3 : ∀ b ∈ fp, FpOk X pins (upd H2 D (.lst [])) b ∧ b < s3.heap.objs.size := fun b hb => by
    refine ⟨⟨by rw [upd_ne (by rw [hD]; exact Nat.ne_of_lt (low b hb))]; exact (f2 b hb).1, (f2 b hb).2⟩, ?_⟩
    rw [hs3, Heap.size_push]
    exact Nat.lt_succ_of_lt (low b hb)
  have st3 : tn 0 s3.heap := T.keep _ _ _ st2 fun b _ o e => grow b o e
  have I4 := block_start I3 ok hN f3
  obtain ⟨C, hCe⟩ : ∃ C, C = s3.heap.objs.size := ⟨_, rfl⟩
  obtain ⟨cl, hcl⟩ : ∃ cl, cl = cellsFrom (s3.heap.objs.size + 1) scope.names (cloFrom X.env.cells scope.names []) := ⟨_, rfl⟩
  show codeAny _ _ (.compStart (.ListComp elt [⟨tg, iter, [], 0⟩] scope pos) 0 (.ref it) (.ref D) (compEnvC scope (cellsFrom (s3.heap.objs.size + 1) scope.names (cloFrom X.env.cells scope.names [])) s3.heap.objs.size X.env))
    (compEnds (model X.prog X.w) X.A X.xe none _ (.ref D) (compEnvC scope (cellsFrom (s3.heap.objs.size + 1) scope.names (cloFrom X.env.cells scope.names [])) s3.heap.objs.size X.env)) { s3 with heap := pushCells (s3.heap.push { cls := .type "dict", data := .dict #[] }) scope.names }
  rw [← hcl, ← hCe] at I4 ⊢
  have nfp : ∀ b ∈ fp, (upd H2 D (.lst [])) b = none := fun b hb => (f3 b hb).1.1
  obtain ⟨s4, hs4⟩ : ∃ s4 : Shared, s4 = { s3 with heap := pushCells (s3.heap.push { cls := .type "dict", data := .dict #[] }) scope.names } := ⟨_, rfl⟩
  rw [← hs4] at I4 ⊢
  have st4 : tn 0 s4.heap := T.keep _ _ _ st3 fun b _ o e => by rw [hs4]; exact pushCells_keeps _ _ _ _ (Heap.get?_push_of_some _ e)
  have pg := hg s3 (upd H2 D (.lst [])) C cl fp
  have pe := he s3 (upd H2 D (.lst [])) C cl fp
  have stat : ∀ {σ' : L2.St} {H' : Hp} {s' : Shared}, Inv (X.blk s3 (upd H2 D (.lst [])) scope (compEnvC scope cl C X.env) fp) [] σ' H' s' → (∀ b ∈ fp, H' b = none) → ∀ b ∈ fp, FpOk (X.blk s3 (upd H2 D (.lst [])) scope (compEnvC scope cl C X.env) fp) [] H' b := fun {σ' H' s'} I' hn b hb =>
    ⟨hn b hb, (I'.ok.exf b hb).1, I'.ok.exfs b hb, .inl hb, fun x c e => (I'.ok.exf b hb).2 x c e, fun p hp => absurd (show p ∈ ([] : List (Addr × Obj)) ++ [] from hp) (by simp)⟩
  -- from the block to the def
  have back : ∀ {s' : Shared} {H' : Hp}, s'.os = s3.os → Un (frs X.stack) fp (upd H2 D (.lst [])) H' s3.heap s'.heap → HOk X.prog X.w H' s'.heap → AllBare s'.gens → Inv X pins σ H' s' := fun {s' H'} a b c d => I3.call' (ch := fp) a b c d fun b hb => ⟨(f3 b hb).1.2.2.2.1, (f3 b hb).1.2.1, (f3 b hb).1.2.2.2.2.1, (f3 b hb).1.2.2.2.2.2⟩
  have hCn : s3.heap.get? C = none := by
    cases e : s3.heap.get? C with
    | none => rfl
    | some o => exact absurd (Heap.lt_size e) (by rw [hCe]; exact Nat.lt_irrefl _)
  -- what the element let out leaves the comprehension
  have out : ∀ (u : Value) (s' : Shared) (pins' : List (Addr × Obj)) (σ' : L2.St) (H5 : Hp) (sA : Shared), Inv (X.blk s3 (upd H2 D (.lst [])) scope (compEnvC scope cl C X.env) fp) pins' σ' H5 sA → L2.CX X.prog X.w X.stack H5 sA E0 u s' →
      notedBy (model X.prog X.w) X.A (compEnvC scope cl C X.env) (CompFails (model X.prog X.w) X.A X.xe (compEnvC scope cl C X.env)) u s' := by
    intro u s' pins' σ' H5 sA I5 c
    obtain ⟨a, B, sI, pins6, σ6, H6, cls, d, rfl, I6, nb, up, sky, na, os, ag, w6⟩ := XE.of_call (X := X.blk s3 (upd H2 D (.lst [])) scope (compEnvC scope cl C X.env) fp) (W := fun cls d _ H => E0 cls d H) I5 (fun _ _ _ z => z) c
    have nC6 : H6 C = none := I6.free
    obtain ⟨m6, hn6, _⟩ := I6.loc
    have hn6 : sI.heap.Ns C m6 := hn6
    obtain ⟨G, g1, g2⟩ := restrict B fun b => decide (b ≠ C)
    obtain ⟨Gs, gs1, gs2⟩ := restrict sI.heap fun b => decide (b ≠ C)
    have gC : G.get? C = none := g2 C (by simp)
    have gB : ∀ b o, G.get? b = some o → B.get? b = some o := fun b o e => by
      have nb' : b ≠ C := fun z => by rw [z, gC] at e; cases e
      rw [g1 b (decide_eq_true nb')] at e
      exact e
    have gI : ∀ b o, Gs.get? b = some o → sI.heap.get? b = some o ∧ b ≠ C := fun b o e => by
      have nb' : b ≠ C := fun z => by rw [z, gs2 C (by simp)] at e; cases e
      rw [gs1 b (decide_eq_true nb')] at e
      exact ⟨e, nb'⟩
    have gI2 : ∀ b o, b ≠ C → sI.heap.get? b = some o → Gs.get? b = some o := fun b o n e => by rw [gs1 b (decide_eq_true n)]; exact e
    have hokG : HOk X.prog X.w H6 Gs := fun b o q => (I6.hok b o q).stay (fun c u hc r => gI2 c u (fun z => by
      rcases hc with hc | hc
      · rw [← hc, z, nC6] at q; cases q
      · rw [z, nC6] at hc; cases hc) r) (fun _ r => r) fun _ _ r => r
    have ne3 : ∀ b o, s3.heap.get? b = some o → b ≠ C := fun b o e z => by rw [z, hCn] at e; cases e
    have I7 : Inv X pins σ H6 { sI with heap := Gs } := back (s' := { sI with heap := Gs }) I6.os ⟨fun b o e n1 n2 n3 => gI2 b o (ne3 b o e) (I6.base.keep b o e n1 n2 n3), fun b o e n1 n2 n3 => by
        obtain ⟨sl, z⟩ := I6.base.slot b o e n1 n2 n3
        exact ⟨sl, gI2 b _ (ne3 b o e) z⟩, I6.base.free, fun b o e n => by
        obtain ⟨o', z⟩ := I6.base.there b o e n
        exact ⟨o', gI2 b o' (ne3 b o e) z⟩, I6.base.tups, I6.base.frzs, I6.base.tbls⟩ hokG I6.bare
    have hfr : X.A.frames = some (X.env :: X.outer) := by rw [I.ok.frames, hst]
    have fly : HandSPX.FlyingZ B (X.env :: X.outer) a (Zc cls d) s'.heap := by
      obtain ⟨a', B', H', cls', d', e, ⟨_, _, _, oe, vs, T, oT, ts, t1, _, t3, t4, _, _, t7, t8, t9⟩, _⟩ := c
      cases e
      rw [← hst]
      rcases sky with ⟨_, _, _, oe2, vs2, r1, _, r3, r4⟩ | fl | ⟨_, _, _, oe2, vs2, T2, oT2, ts2, r1, _, r3, r4, _, _, r7, r8, r9⟩
      · rw [t1] at r1; cases r1
        rw [t3] at r3; cases r3
        rw [t4] at r4; cases r4
      · exact fl
      · rw [t1] at r1; cases r1
        rw [t3] at r3; cases r3
        rw [t4] at r4; cases r4
        rw [t7] at r7; cases r7
        rw [t8] at r8; cases r8
        rw [t9] at r9; cases r9
    show wpAny _ _ (noteFrame (.ref a) (compEnvC scope cl C X.env)) _ _ s'
    rw [noteFrame_env _ (show (compEnvC scope cl C X.env).frame = X.env.frame from rfl)]
    refine HandSPX.looks_onZ Zc.steady hfr hfL fly fun h1 k1 up1 => ?_
    have n1 : h1.Ns C m6 := (up.trans up1).ns hn6
    refine goes_on (s := { s' with heap := h1 }) (env := X.env) (outer := X.outer) (G := G) (L := X.env.locals) hfL gC n1 (held_less k1 gB) fun h2 k2 up2 => ?_
    refine tk _ _ ⟨a, G, { sI with heap := Gs }, pins, σ, H6, cls, d, rfl, I7, fun b o e hb => ?_, fun b o e hd => ?_, .inr (.inr ?_), na, os, ag, hW _ _ _ _ w6⟩
    · obtain ⟨e1, n⟩ := gI b o e
      rw [g1 b (decide_eq_true n)]
      exact nb b o e1 hb
    · obtain ⟨e1, n⟩ := gI b o e
      obtain ⟨sl, e2⟩ := (up.trans up1) b o e1 hd
      obtain ⟨sl2, e3⟩ := up2 b _ n e2 hd
      exact ⟨sl2, e3⟩
    · rw [hst]; exact k2
  have loop : codeAny (model X.prog X.w) X.A (.compLoop (.ListComp elt [⟨tg, iter, [], 0⟩] scope pos) 0 (.ref it) (.ref D) (compEnvC scope cl C X.env)) (compEnds (model X.prog X.w) X.A X.xe none (fun v s' => EP X pins σ Q v s') (.ref D) (compEnvC scope cl C X.env)) s4 := by
    refine compLoop_any (fun n s' => ∃ i H', Inv (X.blk s3 (upd H2 D (.lst [])) scope (compEnvC scope cl C X.env) fp) [] (wipe σ (own.map (·.2))) H' s' ∧ tn i s'.heap ∧ (∀ b ∈ fp, H' b = none) ∧ W0 i n H') ?_ m0 ⟨0, _, I4, st4, nfp, w0⟩
    rintro n s5 ⟨i, H5, I5, st5, n5, w5⟩
    rcases turn i n H5 w5 with ⟨stop, qq⟩ | ⟨go, Nx, hNx, step⟩
    · refine thnF (T.done (X.blk s3 (upd H2 D (.lst [])) scope (compEnvC scope cl C X.env) fp) rfl rfl rfl hc i [] s5 _ H5 (fun _ _ => False) I5 (stat I5 n5) st5 stop) fun r s6 ⟨hr, I6⟩ => ?_
      subst hr
      have nC : H5 C = none := I6.free
      obtain ⟨m, hn, _⟩ := I6.loc
      have I7 : Inv X pins σ H5 s6 := back I6.os I6.base I6.hok I6.bare
      obtain ⟨f0, f1, f2, f3, f4, f5⟩ := I3.fpOk (Nat.le_of_eq hCe.symm) nC
      exact ⟨m, hn, fun h'' sb => ⟨.ref D, H5, I7.turned (t' := s6.toks) (fun b o hb e => (sb.2 b hb).trans e) f0 f1 f3 f4 f5, rfl, qq⟩⟩
    · refine thnF (T.item (X.blk s3 (upd H2 D (.lst [])) scope (compEnvC scope cl C X.env) fp) rfl rfl rfl hc i [] s5 _ H5 (fun _ _ => False) I5 (stat I5 n5) st5 go) fun r s6 ⟨u, hr, h6⟩ => ?_
      subst hr
      refine thnF h6 fun _ s7 ⟨x, H7, I7, r7, y7, st7, n7⟩ => ?_
      refine thnF (pg.run _ s7 _ H7 x u _ (I7.pinned (stat I7 n7) (T.obj _ _ st7)) r7 (step x H7 y7)) fun _ s8 ⟨σ8, H8, I8, hw8, q8⟩ => ?_
      refine wpAny_tests_nil ?_
      rw [if_pos rfl]
      have q8 : te σ8 H8 fun y H4 => ∃ acc, H4 D = some (.lst acc) ∧ acc.length < sizeLine ∧ Nx (upd H4 D (.lst (acc ++ [y]))) := q8
      -- the element
      have pel := (pe ([] ++ ([] ++ pinsAt fp s7.heap)) (notedBy (model X.prog X.w) X.A (compEnvC scope cl C X.env) (CompFails (model X.prog X.w) X.A X.xe (compEnvC scope cl C X.env))) fun pins' σ' H' s' u s'' I' c => out u s'' _ σ' H' s' (I'.ofTry I8.ok) c).run [] s8 σ8 H8 _ (I8.toTry _) q8
      refine thn pel fun z s10 ⟨yv, H10, I10', r10, acc, hD10, hz10, nx⟩ => ?_
      have I10 := I10'.ofTry (pins := [] ++ pinsAt fp s7.heap) I8.ok
      refine app_ok (X := X.blk s3 (upd H2 D (.lst [])) scope (compEnvC scope cl C X.env) fp) I10 hD10 hz10 r10 fun s11 I11 => ?_
      obtain ⟨m', hm, w'⟩ := hNx _ nx
      have pin' : ∀ b ∈ fp, ∀ o, s7.heap.get? b = some o → s11.heap.get? b = some o ∧ (upd H10 D (.lst (acc ++ [yv]))) b = none := fun b hb o e =>
        let z := I11.pin (b, o) (List.mem_append_right _ (List.mem_append_right _ (mem_pinsAt hb e)))
        ⟨z.1, z.2.1⟩
      refine ⟨m', hm, i + 1, _, (I11.unpinned (pins := [])).weak (by rw [← hw8, wipe_length]) (fun j v e => ?_), T.keep _ _ _ st7 fun b hb o e => (pin' b hb o e).1, fun b hb => ?_, w'⟩
      · rw [← hw8] at e
        exact (wipe_some e).1
      · obtain ⟨o, e, _⟩ := T.obj _ _ st7 b hb
        exact (pin' b hb o e).2
  exact codeAny_compStart_list loop (T.self X.A 0 _ _ _ st4 loop)
end
end KW

/-! part KRoom -/
set_option maxHeartbeats 4000000
namespace KW
open PySem PySem.Spec PyProof.Rows L2 KM SX
def linesOf (l : List Nat) : List (List Nat) := if l = [] then [] else TL.spl [10] 0 [] l
def roomGo : List (List Nat) → Nat → List PyData ⊕ Nat
  | [], _ => .inl []
  | x :: r, i => match entryOut x with
    | .inr _ => .inr i
    | .inl d => (match roomGo r (i + 1) with
      | .inl ds => .inl (d :: ds)
      | .inr p => .inr p)
def roomOut (l : List Nat) : PyData ⊕ Nat := match roomGo (linesOf l) 0 with
  | .inl ds => .inl (.tuple ds)
  | .inr p => .inr p
def afterR (ds : List PyData) : List PyData ⊕ Nat → List PyData ⊕ Nat
  | .inl es => .inl (ds ++ es)
  | .inr p => .inr p
theorem roomGo_cons {x : List Nat} {r : List (List Nat)} {i : Nat} : roomGo (x :: r) i = (match entryOut x with
    | .inr _ => .inr i
    | .inl d => (match roomGo r (i + 1) with
      | .inl ds => .inl (d :: ds)
      | .inr p => .inr p)) := rfl
theorem afterR_snoc {ds : List PyData} {d : PyData} {x : List Nat} {r : List (List Nat)} {i : Nat} (h : entryOut x = .inl d) : afterR ds (roomGo (x :: r) i) = afterR (ds ++ [d]) (roomGo r (i + 1)) := by
  rw [roomGo_cons, h]
  cases roomGo r (i + 1) with
  | inl es => simp [afterR]
  | inr p => rfl
theorem afterR_err {ds : List PyData} {p : Nat} {x : List Nat} {r : List (List Nat)} {i : Nat} (h : entryOut x = .inr p) : afterR ds (roomGo (x :: r) i) = .inr i := by
  rw [roomGo_cons, h]
  rfl
section
variable {P : Program} {w : World} {K : PySem.W.Frag} {mg : Str → Option Value} {base : Heap}
def spRoomX (K : PySem.W.Frag) (x : V) (H : Hp) (Q : VK) (E : XK) : Prop := (∃ l : List Nat, x = .str (S l) ∧ l.length ≤ 1000000 ∧ ((100000 < l.length ∧ Bad K H E .non) ∨ (l.length ≤ 100000 ∧ (∀ y ∈ linesOf l, y.length ≤ 5000) ∧ (linesOf l).length ≤ 1000000 ∧ Ends2 K H Q E (roomOut l)))) ∨
  (∃ t, TyX K H x t ∧ PySem.W.kitOne K t (.type "str") = some false ∧ Bad K H E .non)
def spReadR (K : PySem.W.Frag) : Sp := fun vs H Q E => ∃ (x : V), vs = [x] ∧ spRoomX K x H Q E
theorem ok_read_room (T : Txt K mg w) (nn : ∀ l d, entryOut l = .inl d → d ≠ .none) : Good P w K mg base 18 (He.ga K "read_room") ["text"] (spReadR K) := by
  have GL := ok_line_entry (P := P) (base := base) T nn
  refine good_of T.f_read_room sc_read_room (fun _ _ _ _ _ _ us hl => match us, hl with | [_], _ => rfl) (fun vs H Q E h => by obtain ⟨_, rfl, _⟩ := h; rfl) (fun cdv A outer s H vs Q E hr h => ?_)
  obtain ⟨x, rfl, h⟩ := h
  obtain ⟨tr, hrest, hq⟩ : ∃ tr, PSs (XB P w K mg base N_read_room "read_room" s_read_room (He.ga K "read_room") cdv A outer s H E) ((defBody s_read_room).drop 2) tr ∧ ∀ (l : List Nat) (H1 : Hp) (p : Addr), (∀ y ∈ linesOf l, y.length ≤ 5000) → (linesOf l).length ≤ 1000000 → Ends2 K H Q E (roomOut l) →
      Same H H1 → H1 p = some (.lst ((linesOf l).map fun y => V.str (S y))) → tr { nx := fun _ H' => Q .non H', rt := Q } [some x, some (.ref p), none, none] H1 := by
    refine ⟨_, (pss_one (ps_ret (pe_callTy call_tuple_of (by rfl) T.z_tuple (by decide +kernel) (pa_cons (pe_lcX (W := fun cls d _ H => E cls d H) (E0 := E) (own := [("at", 2), ("line", 3)]) (g := gTup K 2 (gCons (gName 2) (gCons (gName 3) gNil))) rfl rfl (takes_of rfl rfl rfl rfl) (fun _ _ _ _ z => z) rfl sc_read_room.nd (pi_enum (by rfl) T.z_enumerate (pa_cons (pv 1) pa_nil)) (blkOk_by (own := [("at", 2), ("line", 3)]) (N := N_read_room) (sc := defScope s_read_room) (by decide +kernel)) (fun _ _ _ _ _ => pg_tup rfl (pgs_cons (pg_name (i := 2) sc_read_room.nd rfl (Or.inl rfl)) (pgs_cons (pg_name (i := 3) sc_read_room.nd rfl (Or.inl rfl)) pgs_nil))) (fun _ _ _ _ _ _ _ hx => pf GL (hr.mono (by decide)) T.g_line_entry hx (pa_cons (pv 3) (pa_cons (pv 2) pa_nil)))) pa_nil)))), fun l H1 p hlen hcnt k s1 hp => ?_⟩
    have hpL : SqL K H1 p ((linesOf l).map fun y => V.str (S y)) := SqL.of hp
    refine ⟨_, rfl, p, _, rfl, hpL, fun D hD => lc_it (walk_enum (xs := (linesOf l).map fun y => V.str (S y))) (fun i H' => Same H1 H' ∧ ∃ acc ds, H' D = some (.lst acc) ∧ TpAll K H' acc ds ∧ acc.length = i ∧ roomGo (linesOf l) 0 = afterR ds (roomGo ((linesOf l).drop i) i))
      ⟨same_new hD, [], [], upd_same, .nil, rfl, by show _ = afterR [] (roomGo (linesOf l) 0); cases roomGo (linesOf l) 0 <;> rfl⟩ (fun i H' _ h => h.1.seq hpL) (fun i x H2 H3 hi h hy => ?_) (fun H2 h => ?_)⟩
    · obtain ⟨s2, acc, ds, hD2, hT, hal, hgo⟩ := h
      obtain ⟨u, y1, y2, rfl, hu, rfl, e1, e2⟩ := hy
      cases e1
      replace e2 : (((linesOf l).map fun y => V.str (S y))[i]?) = some y2 := e2
      rw [List.getElem?_map] at e2
      obtain ⟨z, hz, rfl⟩ := Option.map_eq_some_iff.mp e2
      have hd : (linesOf l).drop i = z :: (linesOf l).drop (i + 1) := by
        obtain ⟨hlt, rfl⟩ := List.getElem?_eq_some_iff.mp hz
        exact List.drop_eq_getElem_cons hlt
      rw [hd] at hgo
      have s3 : Same H2 (upd H2 u (.tup [.int (i : Nat), .str (S z)])) := same_new hu
      refine ⟨u, _, rfl, SqT.of upd_same, rfl, _, _, rfl, _, _, rfl, rfl, rfl, ?_⟩
      refine ⟨_, rfl, _, rfl, z, i, rfl, hlen z (List.mem_of_getElem? hz), ?_⟩
      cases ez : entryOut z with
      | inr q =>
        rw [afterR_err ez] at hgo
        have er : roomOut l = .inr i := by unfold roomOut; rw [hgo]
        rw [er] at k
        exact fun H' d s' e => k H' d ((s1.trans s2).trans (s3.trans s')) e
      | inl d =>
        rw [afterR_snoc ez] at hgo
        intro H4 v s4 tv
        have s34 := s3.trans s4
        refine ⟨acc, s34 _ _ hD2, ?_, fun b o e => ?_, acc ++ [v], ds ++ [d], upd_same, ?_, by rw [List.length_append]; show acc.length + 1 = _; omega, hgo⟩
        · have : i < (linesOf l).length := by simpa using hi
          rw [sizeLine_eq]; omega
        · rw [upd_ne (ne_of_none e hD)]
          exact s34 _ _ (s2 _ _ e)
        · have M : TM H4 (upd H4 D (.lst (acc ++ [v]))) := TM.lst (s34 _ _ hD2)
          exact ((hT.mono (TM.same s34)).mono M).app (.one (tv.mono M))
    · obtain ⟨s2, acc, ds, hD2, hT, hal, hgo⟩ := h
      rw [List.length_map] at hgo
      rw [List.drop_eq_nil_of_le (Nat.le_refl _)] at hgo
      have er : roomOut l = .inl (.tuple ds) := by unfold roomOut; rw [hgo]; show Sum.inl (PyData.tuple (ds ++ [])) = _; rw [List.append_nil]
      rw [er] at k
      refine ⟨D, acc, rfl, .inl ⟨SqL.of hD2, fun u hu => ?_⟩⟩
      exact k _ _ ((s1.trans s2).trans (same_new hu)) (tp_new hu hT)
  refine ⟨_, (pss_cons (ps_if (PW.pt (pw_or (pt_not (pt_val (pe_callB call_isi (by rfl) T.z_isinstance (by decide +kernel) (pa_cons (pv 0) (pa_cons (pe_bltn (by rfl) T.z_str (v := .ty "str") (u := .type "str") (by decide +kernel) rfl) pa_nil))))) (pw_or1 (pt_cmpR op_gt (pe_callB call_len_str (by rfl) T.z_len (by decide +kernel) (pa_cons (pv 0) pa_nil)) (pg_i T.c_MOST_ROOM) (nomark _))))) (pss_one (ps_bad T (hr.mono (by decide)) rfl (takes_of rfl rfl rfl rfl) pe_non)) pss_nil)
      (pss_cons (ps_set (i := 1) sc_read_room.nd rfl (Or.inl rfl) (pe_ifExp (pt_cmpR op_eq (pv 0) pe_str (nomark _)) (pe_lst pa_nil) (pe_split (pv 0) pe_str))) hrest)), ?_⟩
  rcases h with ⟨l, rfl, hl6, h⟩ | ⟨t, h1, h2, k⟩
  rotate_left
  · refine ⟨_, rfl, _, _, _, _, false, rfl, .ty "str", h1, h2, _, rfl, iteT ?_⟩
    exact mk_bad fun d hd => k _ d (same_new hd) upd_same
  refine ⟨_, rfl, _, _, _, _, true, rfl, .ty "str", .base (.str _), kit_ty (by decide +kernel), _, rfl, ?_⟩
  refine iteF ⟨_, rfl, _, rfl, by rw [S_len, sizeLine_eq]; omega, _, _, rfl, rfl, _, rfl, ?_⟩
  rw [S_len]
  rcases h with ⟨hb, k⟩ | ⟨hb, hlen, hcnt, k⟩
  · exact iteD (c := ((100000 : Int) < (l.length : Nat))) (fun c => mk_bad fun d hd => k _ d (same_new hd) upd_same) (fun c => absurd (by omega) c)
  refine iteD (c := ((100000 : Int) < (l.length : Nat))) (fun c => absurd c (by omega)) (fun _ => ?_)
  refine ⟨_, rfl, rfl, _, rfl, ?_⟩
  have ed : decide (V.str (S l) = V.str "") = decide (l = []) := by
    rw [decide_eq_decide]
    constructor
    · intro z
      injection z with z
      have z2 : S l = S [] := z
      exact S_inj z2
    · rintro rfl; rfl
  rw [ed]
  refine iteD (fun c => ?_) (fun c => ?_)
  · subst c
    refine ⟨Nat.zero_le _, fun p hp => ?_⟩
    exact hq [] _ p hlen hcnt k (same_new hp) upd_same
  · refine ⟨_, rfl, ⟨_, rfl⟩, S l, "\n", rfl, rfl, by decide +kernel, by rw [S_len, sizeLine_eq]; omega, fun p hp => ?_⟩
    have e0 : Txt.split (S l) ("
" : Str) = (linesOf l).map S := by
      unfold linesOf
      rw [if_neg c]
      exact split_S (a := l) (b := [10]) (by simp) (by decide)
    rw [e0, List.map_map]
    exact hq l _ p hlen hcnt k (same_new hp) upd_same
end
end KW

/-! part KLaw1 -/
set_option maxHeartbeats 4000000
namespace KW
open PySem PySem.Spec PyProof.Rows L2 KM SX
theorem modAt (k : Nat) {n : Nat} (h : (0 : Int) < (n : Nat)) : ∃ j, j < n ∧ ((k : Nat) : Int) % (n : Nat) = (j : Nat) := by
  refine ⟨k % n, Nat.mod_lt _ (by omega), ?_⟩
  omega
theorem divAt (k : Nat) {n : Nat} (h : (0 : Int) < (n : Nat)) : 0 ≤ ((k : Nat) : Int) / (n : Nat) ∧ ((k : Nat) : Int) / (n : Nat) ≤ k := by
  constructor
  · exact Int.ediv_nonneg (by omega) (by omega)
  · exact Int.ediv_le_self _ (by omega)
theorem same_upd2 {H H2 : Hp} {sp : Addr} {o o' : HO} (h : Same (upd H sp o) H2) : Same (upd H sp o') (upd H2 sp o') := fun b x e => by
  by_cases z : b = sp
  · subst z; rw [upd_same] at e ⊢; exact e
  · rw [upd_ne z] at e ⊢; exact h _ _ (by rw [upd_ne z]; exact e)
/-- a list that stays readable whatever is written at sp -/
theorem sq_after {K : PySem.W.Frag} {H H2 : Hp} {sp c : Addr} {o : HO} {xs : List V} (h : Same (upd H sp o) H2) (cs : ∀ o, SqL K (upd H sp o) c xs) : ∀ o', SqL K (upd H2 sp o') c xs := fun o' => (same_upd2 (o' := o') h).seq (cs o')
section
variable {P : Program} {w : World} {K : PySem.W.Frag} {mg : Str → Option Value} {base : Heap}
/-! ### _law_cell -/
def spCellM (K : PySem.W.Frag) : Sp := fun vs H Q _ => ∃ (c sp k : Nat) (ns : List Int), vs = [.ref c, .ref sp] ∧ (∀ o, SqL K (upd H sp o) c (ns.map V.int)) ∧ ns.length ≤ 63 ∧ H sp = some (.lst [.int (k : Nat)]) ∧ k ≤ 1000000 ∧ ∀ n : Nat, n < 2147483648 → Q (.int (n : Nat)) (upd H sp (.lst [.int ((k + 1 : Nat) : Int)]))
theorem ok_l_cell (T : Txt K mg w) : Good P w K mg base 1 (He.ga K "_law_cell") ["_law_cells", "_law_spot"] (spCellM K) := by
  refine good_of T.f_l_cell sc_l_cell (fun _ _ _ _ _ _ us hl => match us, hl with | [_, _], _ => rfl) (fun vs H Q E h => by obtain ⟨_, _, _, _, rfl, _⟩ := h; rfl) (fun cdv A outer s H vs Q E hr h => ?_)
  obtain ⟨c, sp, k, ns, rfl, ncs, hn, hs, hk, q⟩ := h
  obtain ⟨t2, h2, q2⟩ : ∃ tr, PSs (XB P w K mg base N_l_cell "_law_cell" s_l_cell (He.ga K "_law_cell") cdv A outer s H E) ((defBody s_l_cell).drop 5) tr ∧ ∀ (b : Int) (x y : Option V) (H1 : Hp), (∀ n : Nat, n < 2147483648 → Q (.int (n : Nat)) H1) →
      tr { nx := fun _ H' => Q .non H', rt := Q } [some (.ref c), some (.ref sp), some (.int ((k + 1 : Nat) : Int)), some (.int b), x, y] H1 := by
    refine ⟨_, (pss_one (ps_ret (pe_op op_fdiv (pe_op op_mod (pe_op op_mul (pv 3) pe_int) pe_int) pe_int))), fun b x y H1 q => ?_⟩
    refine ⟨_, rfl, _, _, rfl, rfl, .inr ⟨by decide, by decide⟩, _, _, rfl, rfl, (show (0 : Int) < 2147483647 by decide), _, _, rfl, rfl, (show (0 : Int) < 7 ∧ (7 : Int) < 1073741824 by decide), ?_⟩
    have h1 : 0 ≤ b * 48271 % 2147483647 := Int.emod_nonneg _ (by decide)
    have h3 : b * 48271 % 2147483647 < 2147483647 := Int.emod_lt_of_pos _ (by decide)
    have := q (b * 48271 % 2147483647 / 7).toNat (by omega)
    rw [show (((b * 48271 % 2147483647 / 7).toNat : Nat) : Int) = b * 48271 % 2147483647 / 7 by omega] at this
    exact this
  obtain ⟨t1, h1, q1⟩ : ∃ tr, PSs (XB P w K mg base N_l_cell "_law_cell" s_l_cell (He.ga K "_law_cell") cdv A outer s H E) ((defBody s_l_cell).drop 4) tr ∧ ∀ (b : Int) (x y : Option V) (H1 : Hp), SqL K H1 c (ns.map V.int) → (∀ n : Nat, n < 2147483648 → Q (.int (n : Nat)) H1) →
      tr { nx := fun _ H' => Q .non H', rt := Q } [some (.ref c), some (.ref sp), some (.int ((k + 1 : Nat) : Int)), some (.int b), x, y] H1 := by
    refine ⟨_, pss_cons (ps_if (pt_cmpR op_gt (pe_callB call_len_seq (by rfl) T.z_len (by decide +kernel) (pa_cons (pv 0) pa_nil)) pe_int (nomark _)) (pss_one (ps_set (i := 3) sc_l_cell.nd rfl (Or.inl rfl) (pe_op op_add (pv 3) (pe_op op_mul (pe_ix ix_list (pv 0) (pe_op op_mod (pv 2) (pe_callB call_len_seq (by rfl) T.z_len (by decide +kernel) (pa_cons (pv 0) pa_nil))) (fun _ _ => rfl)) (pe_op op_add pe_int (pe_op op_fdiv (pv 2) (pe_callB call_len_seq (by rfl) T.z_len (by decide +kernel) (pa_cons (pv 0) pa_nil)))))))) pss_nil) h2, fun b x y H1 hc1 q => ?_⟩
    refine ⟨_, rfl, c, _, rfl, .inl (hc1), _, _, rfl, rfl, _, rfl, ?_⟩
    rw [List.length_map]
    refine iteD (c := ((0 : Int) < (ns.length : Nat))) (fun hp => ?_) (fun _ => q2 b x y H1 q)
    obtain ⟨j, hj, ej⟩ := modAt (k + 1) hp
    have hv : (ns.map V.int)[j]? = some (V.int ns[j]) := by rw [List.getElem?_map, List.getElem?_eq_getElem hj]; rfl
    have hdiv := divAt (k + 1) hp
    refine ⟨_, rfl, _, rfl, _, rfl, _, rfl, c, _, rfl, .inl (hc1), ?_⟩
    rw [List.length_map]
    refine ⟨_, _, rfl, rfl, hp, c, _, _, _, rfl, rfl, hc1, (show atI (ns.map V.int) (((k + 1 : Nat) : Int) % (ns.length : Nat)) = _ from by rw [ej]; exact atI_nat hv), _, rfl, _, rfl, c, _, rfl, .inl (hc1), ?_⟩
    rw [List.length_map]
    refine ⟨_, _, rfl, rfl, ⟨hp, by omega⟩, _, _, rfl, rfl, _, _, rfl, rfl, .inr ⟨by omega, by omega⟩, _, _, rfl, rfl, ?_⟩
    exact q2 _ x y H1 q
  refine ⟨_, pss_cons (ps_asg (pe_op op_add (pe_ix ix_list (pv 1) pe_int (fun _ _ => rfl)) pe_int) (pg_sub (pv 1) pe_int set_list)) (pss_cons (ps_set (i := 2) sc_l_cell.nd rfl (Or.inl rfl) (pe_ix ix_list (pv 1) pe_int (fun _ _ => rfl))) (pss_cons (ps_set (i := 3) sc_l_cell.nd rfl (Or.inl rfl) (pe_op op_add (pe_op op_mul (pe_op op_mul pe_int (pv 2)) (pv 2)) (pe_op op_mul pe_int (pv 2)))) (pss_cons (ps_if (PW.pt (pw_and (pt_cmpR op_gt (pe_callB call_len_seq (by rfl) T.z_len (by decide +kernel) (pa_cons (pv 0) pa_nil)) pe_int (nomark _)) (pw_and (pt_cmpR op_ge (pe_ix ix_list (pv 0) (pe_op op_mod (pv 2) (pe_callB call_len_seq (by rfl) T.z_len (by decide +kernel) (pa_cons (pv 0) pa_nil))) (fun _ _ => rfl)) (pe_op op_pow pe_int pe_int) (nomark _)) (pw_and1 (pt_cmpR op_lt (pe_op op_fdiv (pv 2) (pe_callB call_len_seq (by rfl) T.z_len (by decide +kernel) (pa_cons (pv 0) pa_nil))) pe_int (nomark _)))))) (pss_cons (ps_set (i := 4) sc_l_cell.nd rfl (Or.inl rfl) (pe_ix ix_list (pv 0) (pe_op op_mod (pv 2) (pe_callB call_len_seq (by rfl) T.z_len (by decide +kernel) (pa_cons (pv 0) pa_nil))) (fun _ _ => rfl)))
      (pss_cons (ps_for po rfl (pi_range1 (by rfl) T.z_range (pa_cons (pe_op op_fdiv (pv 2) (pe_callB call_len_seq (by rfl) T.z_len (by decide +kernel) (pa_cons (pv 0) pa_nil))) pa_nil)) (pg_name (i := 5) sc_l_cell.nd rfl (Or.inl rfl)) (pss_one (ps_set (i := 4) sc_l_cell.nd rfl (Or.inl rfl) (pe_op op_fdiv (pv 4) pe_int))))
      (pss_one (ps_if (pt_cmpR op_gt (pv 4) pe_int (nomark _)) (pss_one (ps_ret (pe_op op_mod (pv 4) pe_int))) pss_nil)))) pss_nil) h1))), ?_⟩
  refine ⟨_, rfl, sp, _, _, _, rfl, rfl, SqL.of hs, atI_nat (j := 0) rfl, _, _, rfl, rfl, _, rfl, sp, [.int (k : Nat)], 0, 0, rfl, rfl, hs, rfl, ?_⟩
  have hc1 : SqL K (upd H sp (.lst [.int ((k + 1 : Nat) : Int)])) c (ns.map V.int) := ncs _
  refine ⟨_, rfl, sp, _, _, _, rfl, rfl, SqL.of upd_same, atI_nat (j := 0) rfl, ?_⟩
  refine ⟨_, rfl, _, _, rfl, rfl, .inr ⟨by omega, by omega⟩, _, rfl, _, _, rfl, rfl, .inr ⟨by omega, by omega⟩, _, rfl, _, _, rfl, rfl, .inr ⟨by omega, by omega⟩, _, _, rfl, rfl, ?_⟩
  have out : ∀ (b : Int) (x y : Option V), t1 { nx := fun _ H' => Q .non H', rt := Q } [some (.ref c), some (.ref sp), some (.int ((k + 1 : Nat) : Int)), some (.int b), x, y] (upd H sp (.lst [.int ((k + 1 : Nat) : Int)])) := fun b x y => q1 b x y _ hc1 fun n hn => q n hn
  refine ⟨_, rfl, c, _, rfl, .inl (hc1), _, _, rfl, rfl, _, rfl, ?_⟩
  rw [List.length_map]
  refine iteD (c := ((0 : Int) < (ns.length : Nat))) (fun hp => ?_) (fun _ => out _ _ _)
  obtain ⟨j, hj, ej⟩ := modAt (k + 1) hp
  have hv : (ns.map V.int)[j]? = some (V.int ns[j]) := by rw [List.getElem?_map, List.getElem?_eq_getElem hj]; rfl
  have hdiv := divAt (k + 1) hp
  refine ⟨_, rfl, _, rfl, _, rfl, c, _, rfl, .inl (hc1), ?_⟩
  rw [List.length_map]
  refine ⟨_, _, rfl, rfl, hp, c, _, _, _, rfl, rfl, hc1, (show atI (ns.map V.int) (((k + 1 : Nat) : Int) % (ns.length : Nat)) = _ from by rw [ej]; exact atI_nat hv), _, _, rfl, rfl, ⟨by decide, by decide, by decide⟩, _, _, rfl, rfl, _, rfl, ?_⟩
  refine iteD (c := ((10 : Int) ^ (18 : Int).toNat ≤ ns[j])) (fun _ => ?_) (fun _ => out _ _ _)
  refine ⟨_, rfl, _, rfl, c, _, rfl, .inl (hc1), ?_⟩
  rw [List.length_map]
  refine ⟨_, _, rfl, rfl, ⟨hp, by omega⟩, _, _, rfl, rfl, _, rfl, ?_⟩
  refine iteD (c := (((k + 1 : Nat) : Int) / (ns.length : Nat) < 60)) (fun h60 => ?_) (fun _ => out _ _ _)
  refine ⟨_, rfl, _, rfl, _, rfl, c, _, rfl, .inl (hc1), ?_⟩
  rw [List.length_map]
  refine ⟨_, _, rfl, rfl, hp, c, _, _, _, rfl, rfl, hc1, (show atI (ns.map V.int) (((k + 1 : Nat) : Int) % (ns.length : Nat)) = _ from by rw [ej]; exact atI_nat hv), ?_⟩
  refine ⟨_, rfl, _, rfl, c, _, rfl, .inl (hc1), ?_⟩
  rw [List.length_map]
  have hd2 : 0 ≤ ((k : Nat) : Int) + 1 ∧ (((k : Nat) : Int) + 1) / (ns.length : Nat) = ((k + 1 : Nat) : Int) / (ns.length : Nat) := ⟨by omega, by congr 1⟩
  refine ⟨_, _, rfl, rfl, ⟨hp, by omega⟩, _, rfl, by rw [hd2.2]; omega, by rw [hd2.2]; omega, ?_⟩
  refine for_it walk_range (fun i σ H' => ∃ (b o : Int) (t : Option V), σ = [some (.ref c), some (.ref sp), some (.int ((k + 1 : Nat) : Int)), some (.int b), some (.int o), t] ∧ H' = upd H sp (.lst [.int ((k + 1 : Nat) : Int)])) ⟨_, _, _, rfl, rfl⟩ (fun _ _ _ _ _ => trivial) ?_ ?_
  · rintro i x σ H1 H2 hi ⟨b, o, t, rfl, rfl⟩ ⟨rfl, rfl⟩
    refine ⟨_, rfl, _, _, rfl, rfl, (show (0 : Int) < 306783379 ∧ (306783379 : Int) < 1073741824 by decide), ?_⟩
    exact ⟨b, _, _, rfl, rfl⟩
  · rintro σ H1 ⟨b, o, t, rfl, rfl⟩
    refine ⟨_, rfl, _, _, rfl, rfl, _, rfl, ?_⟩
    refine iteD (c := ((0 : Int) < o)) (fun _ => ?_) (fun _ => out _ _ _)
    refine ⟨_, rfl, _, _, rfl, rfl, (show (0 : Int) < 306783379 by decide), ?_⟩
    have h1 : 0 ≤ o % 306783379 := Int.emod_nonneg _ (by decide)
    have h3 : o % 306783379 < 306783379 := Int.emod_lt_of_pos _ (by decide)
    have := q (o % 306783379).toNat (by omega)
    rw [show (((o % 306783379).toNat : Nat) : Int) = o % 306783379 by omega] at this
    exact this
end
end KW

/-! part KLaw2 -/
set_option maxHeartbeats 4000000
namespace KW
open PySem PySem.Spec PyProof.Rows L2 KM SX
/-- a text of the law: short, of plain signs -/
structure TextOk (l : List Nat) : Prop where
  len : l.length ≤ 4000
  asc : ∀ c ∈ l, c < 128
theorem TextOk.str {l : List Nat} (h : TextOk l) : PyData.strOk (S l) = true := strOk_S fun c hc => by have := h.asc c hc; omega
theorem TextOk.sub {l m : List Nat} (h : TextOk l) (hl : m.length ≤ l.length) (hs : ∀ c ∈ m, c ∈ l) : TextOk m := ⟨by have := h.len; omega, fun c hc => h.asc c (hs c hc)⟩
def namesT : List Str := ["a", "f", "p", "thing", "x1", "q", "longname10", "r2d2", "ab", "z"]
abbrev tNin : TT := tTest (tOp (fun x y H Q => ∃ (c : Nat) (z : Str), x = .str ⟨#[c]⟩ ∧ y = .str z ∧ Q (.bl (!decide (c ∈ z.cps.toList))) H) (tVar 1) (tC (.str "0123456789")))
section
variable {P : Program} {w : World} {K : PySem.W.Frag} {mg : Str → Option Value} {base : Heap}
/-! ### _law_name -/
def spNameL : Sp := fun vs H Q _ => ∃ (n : Nat), vs = [.int n] ∧ ∀ H' x, x ∈ namesT → Same H H' → Q (.str x) H'
theorem ok_l_name (T : Txt K mg w) : Good P w K mg base 1 (He.ga K "_law_name") ["_law_n"] spNameL := by
  refine good_of T.f_l_name sc_l_name (fun _ _ _ _ _ _ us hl => match us, hl with | [_], _ => rfl) (fun vs H Q E h => by obtain ⟨_, rfl, _⟩ := h; rfl) (fun cdv A outer s H vs Q E hr h => ?_)
  obtain ⟨n, rfl, k⟩ := h
  refine ⟨_, (pss_one (ps_ret (pe_ix ix_list (pe_lst (pa_cons pe_str (pa_cons pe_str (pa_cons pe_str (pa_cons pe_str (pa_cons pe_str (pa_cons pe_str (pa_cons pe_str (pa_cons pe_str (pa_cons pe_str (pa_cons pe_str pa_nil))))))))))) (pe_op op_mod (pv 0) pe_int) (fun _ _ => rfl)))), ?_⟩
  refine ⟨by show 10 ≤ sizeLine; decide, fun p hp => ?_⟩
  have hj : n % 10 < namesT.length := Nat.mod_lt _ (by decide)
  refine ⟨_, rfl, _, _, rfl, rfl, (show (0 : Int) < 10 by decide), p, namesT.map V.str, _, .str namesT[n % 10], rfl, rfl, SqL.of upd_same, ?_, k _ _ (List.getElem_mem hj) (same_new hp)⟩
  rw [show ((n : Int) % 10) = ((n % 10 : Nat) : Int) by omega]
  exact atI_nat (by rw [List.getElem?_map, List.getElem?_eq_getElem hj]; rfl)
/-! ### _law_is_number -/
def spIsNum : Sp := fun vs H Q _ => ∃ (l : List Nat), vs = [.str (S l)] ∧ TextOk l ∧ ∀ H', Same H H' → Q (.bl (isNum l)) H'
theorem ok_l_is_number (T : Txt K mg w) : Good P w K mg base 1 (He.ga K "_law_is_number") ["_law_word"] spIsNum := by
  refine good_of T.f_l_is_number sc_l_is_number (fun _ _ _ _ _ _ us hl => match us, hl with | [_], _ => rfl) (fun vs H Q E h => by obtain ⟨_, rfl, _⟩ := h; rfl) (fun cdv A outer s H vs Q E hr h => ?_)
  obtain ⟨l, rfl, ht, k⟩ := h
  have hl := ht.len
  obtain ⟨tr, hrest, hq⟩ : ∃ tr, PSs (XB P w K mg base N_l_is_number "_law_is_number" s_l_is_number (He.ga K "_law_is_number") cdv A outer s H E) ((defBody s_l_is_number).drop 1) tr ∧
      (1 ≤ l.length → l.length ≤ 30 → (¬ (l.head? = some 48 ∧ ¬ l = [48])) → tr { nx := fun _ H' => Q .non H', rt := Q } [some (.str (S l)), none] H) := by
    refine ⟨_, (pss_one (ps_ret (pe_cmpR (op_eqD hr.units) (pe_lc (own := [("_law_sign", 1)]) (g := gName 1) (tt := tNin) rfl sc_l_is_number.nd (pi_str (pv 0)) (blkOk_by (own := [("_law_sign", 1)]) (N := N_l_is_number) (sc := defScope s_l_is_number) (by decide +kernel)) (fun _ _ _ _ _ => pg_name (i := 1) sc_l_is_number.nd rfl (Or.inl rfl)) (fun _ _ _ _ _ => pts_one (pt_cmpR op_notIn_sign (pv 1) pe_str rfl)) (fun _ _ _ _ _ => (pv 1))) (pe_lst pa_nil) (nomark _)))), fun h0 h1 h2 => ?_⟩
    have e : isNum l = l.all isFig := by
      cases l with
      | nil => simp at h0
      | cons c r =>
        rw [isNum_cons, decide_eq_true h1]
        by_cases hc : c = 48
        · have : c :: r = [48] := Classical.byContradiction fun z => h2 ⟨by rw [hc]; rfl, z⟩
          rw [decide_eq_true hc, decide_eq_true this]; rfl
        · rw [decide_eq_false hc]; rfl
    have esz : (S l).cps.size = l.length := by simp
    refine ⟨_, rfl, S l, rfl, fun D hD => lc_it walk_str (fun i H' => Same H H' ∧ H' D = some (.lst (((l.take i).filter fun c => !isFig c).map fun c => .str (S [c])))) ⟨same_new hD, upd_same⟩ (fun _ _ _ _ => trivial) (fun i x H2 H3 hi h hy => ?_) (fun H2 h => ?_)⟩
    · obtain ⟨s2, hD2⟩ := h
      obtain ⟨rfl, c, hc, rfl⟩ := hy
      have hc' : l[i]? = some c := by simpa using hc
      have et : l.take (i + 1) = l.take i ++ [c] := (snoc_take hc').symm
      refine ⟨rfl, _, rfl, _, _, rfl, rfl, _, rfl, ?_⟩
      show if (!isFig c) = true then _ else _
      cases hf : isFig c with
      | true =>
        refine iteF ⟨s2, ?_⟩
        rw [et, List.filter_append, hD2]
        simp [hf]
      | false =>
        refine iteT ⟨_, rfl, _, hD2, ?_, fun b o z => ?_, ?_⟩
        · have h3 := List.length_filter_le (fun c => !isFig c) (l.take i)
          have h4 : (l.take i).length ≤ l.length := by rw [List.length_take]; omega
          rw [sizeLine_eq, List.length_map]; omega
        · rw [upd_ne (ne_of_none z hD)]; exact s2 _ _ z
        · rw [upd_same, et, List.filter_append]
          simp [hf]
    · obtain ⟨s2, hD2⟩ := h
      rw [esz, List.take_length] at hD2
      refine ⟨Nat.zero_le _, fun q hq => ?_⟩
      have s3 := same_new (o := .lst []) hq
      have hT : TpAll K (upd H2 q (.lst [])) ((l.filter fun c => !isFig c).map fun c => V.str (S [c])) ((l.filter fun c => !isFig c).map fun c => PyData.str (S [c])) := by
        generalize l.filter (fun c => !isFig c) = m
        induction m with
        | nil => exact .nil
        | cons a m ih => exact .cons (.str _) ih
      have lay : ∀ d ∈ ((l.filter fun c => !isFig c).map fun c => PyData.str (S [c])), d.canLay0 = true := fun d hd => by
        obtain ⟨c, hc, rfl⟩ := List.mem_map.mp hd
        simp only [PyData.canLay0]
        exact strOk_S fun d' hd' => by
          rw [List.mem_singleton.mp hd']
          have := ht.asc c ((List.mem_filter.mp hc).1); omega
      have dep : (PyData.list ((l.filter fun c => !isFig c).map fun c => PyData.str (S [c]))).depth ≤ 64 := by
        show PyData.depthAll _ + 1 ≤ 64
        have : ∀ m : List Nat, PyData.depthAll (m.map fun c => PyData.str (S [c])) = 0 := by
          intro m
          induction m with
          | nil => rfl
          | cons a m ih => show max 0 _ = 0; rw [ih]; rfl
        rw [this]; omega
      refine ⟨_, .list [], .lst (SqL.of (s3 _ _ hD2)) hT.dp, .lst (SqL.of upd_same) .nil, ?_, by decide +kernel, ?_⟩
      · unfold SeqAt.shaped
        rw [show PyData.canLay0 (.list ((l.filter fun c => !isFig c).map fun c => PyData.str (S [c]))) = true from lay_all lay, decide_eq_true dep]
        rfl
      · rw [eqv_nil]
        have ee : ((l.filter fun c => !isFig c).map fun c => PyData.str (S [c])).isEmpty = isNum l := by
          rw [e]
          generalize l = m
          induction m with
          | nil => rfl
          | cons a m ih =>
            rw [List.filter_cons, List.all_cons]
            cases isFig a <;> simp_all
        rw [ee]
        exact k _ (s2.trans s3)
  refine ⟨_, pss_cons (ps_if (PW.pt (pw_or (pt_not (pt_chain op_le op_le pe_int (pe_callB call_len_str (by rfl) T.z_len (by decide +kernel) (pa_cons (pv 0) pa_nil)) pe_int)) (pw_or1 (PW.pt (pw_and (pt_cmpR op_eq (pe_ix ix_str (pv 0) pe_int (fun _ _ => rfl)) pe_str (nomark _)) (pw_and1 (pt_cmpR op_ne (pv 0) pe_str (nomark _)))))))) (pss_one (ps_ret pe_bl)) pss_nil) hrest, ?_⟩
  refine ⟨_, rfl, _, rfl, by rw [S_len, sizeLine_eq]; omega, _, _, rfl, rfl, _, rfl, ?_⟩
  rw [S_len]
  cases l with
  | nil => exact iteF ⟨_, rfl, iteT (k _ (Same.refl _))⟩
  | cons c r =>
  refine iteD (c := ((1 : Int) ≤ ((c :: r).length : Nat))) (fun _ => ?_) (fun z => absurd (by simp only [List.length_cons]; omega) z)
  refine ⟨_, _, rfl, rfl, _, rfl, ?_⟩
  have e1 : decide ((((c :: r).length : Nat) : Int) ≤ 30) = decide ((c :: r).length ≤ 30) := by rw [decide_eq_decide]; omega
  show if (!decide ((((c :: r).length : Nat) : Int) ≤ 30)) = true then _ else _
  rw [e1]
  refine iteNot (fun h1 => iteT ?_) (fun h1 => ?_)
  · have e : isNum (c :: r) = false := by rw [isNum_cons, decide_eq_false h1]; rfl
    rw [e] at k
    exact k _ (Same.refl _)
  refine ⟨_, rfl, _, _, _, rfl, rfl, by rw [S_len, sizeLine_eq]; omega, atI_nat (j := 0) rfl, rfl, _, rfl, ?_⟩
  have ed : decide (V.str ⟨#[c]⟩ = V.str "0") = decide (c = 48) := by
    rw [decide_eq_decide]
    constructor
    · intro z
      injection z with z
      have z2 : S [c] = S [48] := z
      exact List.head_eq_of_cons_eq (S_inj z2)
    · rintro rfl; rfl
  rw [ed]
  have ed2 : decide (V.str (S (c :: r)) = V.str "0") = decide (c :: r = [48]) := by
    rw [decide_eq_decide]
    constructor
    · intro z
      injection z with z
      have z2 : S (c :: r) = S [48] := z
      exact S_inj z2
    · intro z; rw [z]; rfl
  refine iteD (fun h2 => ?_) (fun h2 => ?_)
  · refine ⟨_, rfl, rfl, _, rfl, ?_⟩
    rw [ed2]
    refine iteNot (fun h3 => ?_) (fun h3 => ?_)
    · have e : isNum (c :: r) = false := by rw [isNum_cons, decide_eq_true h1, decide_eq_true h2, decide_eq_false h3]; rfl
      rw [e] at k
      exact k _ (Same.refl _)
    · exact hq (by simp) h1 (fun z => z.2 h3)
  · exact iteF (hq (by simp) h1 (fun z => h2 (by have := z.1; simp at this; exact this)))
end
end KW

/-! part KLaw3 -/
set_option maxHeartbeats 4000000
namespace KW
open PySem PySem.Spec PyProof.Rows L2 KM SX
/-! ### the law's words, plain -/
def markSp : Str := "()[],.:=&|~ "
def kindL (x : List Nat) : Str :=
  if S x ∈ toldAll then "told" else if x = [45, 62] ∨ (x.length = 1 ∧ x.headD 0 ∈ markSp.cps.toList) then "mark" else if isNum x = true then "number" else
  if x.head? = some 88 ∧ isNum x.tail = true then "var" else if isSmall (x.headD 0) = true ∧ ¬ 88 ∈ x ∧ x.length ≤ 10 then "name" else "none"
theorem runL_split {c : Nat} : isRun c = true ↔ (c ∈ (smallT ++ figT).cps.toList ∨ c = 88) := by
  have e : runL = (smallT ++ figT).cps.toList ++ [88] := by decide +kernel
  unfold isRun
  rw [e]
  simp
theorem small_run {c : Nat} (h : isSmall c = true) : c ∈ (smallT ++ figT).cps.toList := by
  have : ∀ d ∈ smallL, d ∈ (smallT ++ figT).cps.toList := by decide +kernel
  exact this c (of_decide_eq_true h)
theorem fig_run {c : Nat} (h : isFig c = true) : c ∈ (smallT ++ figT).cps.toList := by
  have : ∀ d ∈ figL, d ∈ (smallT ++ figT).cps.toList := by decide +kernel
  exact this c (of_decide_eq_true h)
theorem fig_not_small {c : Nat} (h : isFig c = true) : isSmall c = false := by
  have : ∀ d ∈ figL, isSmall d = false := by decide +kernel
  exact this c (of_decide_eq_true h)
theorem mark_run {c : Nat} (h : c ∈ markSp.cps.toList) : isRun c = false := by
  have : ∀ d ∈ markSp.cps.toList, isRun d = false := by decide +kernel
  exact this c h
/-- a run's kind is its word's -/
theorem kind_run {x : List Nat} (hne : x ≠ []) (hr : ∀ c ∈ x, isRun c = true) : kindL x = (wordOf x).kind := by
  unfold kindL wordOf
  by_cases h1 : S x ∈ toldAll
  · rw [if_pos h1, if_pos h1]; rfl
  rw [if_neg h1, if_neg h1]
  have h2 : ¬ (x = [45, 62] ∨ (x.length = 1 ∧ x.headD 0 ∈ markSp.cps.toList)) := by
    rintro (h | ⟨_, hc⟩)
    · have := hr 45 (by rw [h]; simp)
      exact absurd this (by decide +kernel)
    · have := hr (x.headD 0) (by cases x with
        | nil => exact absurd rfl hne
        | cons a r => simp)
      rw [mark_run hc] at this
      cases this
  rw [if_neg h2]
  cases x with
  | nil => exact absurd rfl hne
  | cons c r =>
    have ht : ¬ S (c :: r) ∈ toldL ∧ ¬ S (c :: r) ∈ formsL := ⟨fun z => h1 (List.mem_append.mpr (.inl z)), fun z => h1 (List.mem_append.mpr (.inr z))⟩
    have hall : isCalled (c :: r) = true ↔ (isSmall c = true ∧ ¬ 88 ∈ c :: r ∧ (c :: r).length ≤ 10) := by
      rw [isCalled_cons, decide_eq_false ht.1, decide_eq_false ht.2]
      simp only [Bool.not_false, Bool.and_true, Bool.and_eq_true, decide_eq_true_eq, List.all_eq_true]
      constructor
      · rintro ⟨⟨a, b⟩, d⟩
        refine ⟨b, fun z => ?_, a⟩
        have := d 88 z
        exact absurd this (by decide +kernel)
      · rintro ⟨a, b, d⟩
        refine ⟨⟨d, a⟩, fun e he => ?_⟩
        rcases runL_split.mp (hr e he) with z | z
        · exact z
        · exact absurd (z ▸ he) b
    by_cases hn : isNum (c :: r) = true
    · have hs : isSmall c = false := by
        rw [isNum_cons] at hn
        simp only [Bool.and_eq_true, List.all_cons] at hn
        exact fig_not_small hn.2.1
      rw [if_pos hn, if_neg (fun z => by rw [(hall.mp z).1] at hs; cases hs), if_pos hn]; rfl
    rw [if_neg hn]
    by_cases hv : (c :: r).head? = some 88 ∧ isNum (c :: r).tail = true
    · have hs : isSmall c = false := by
        have : c = 88 := Option.some.inj hv.1
        rw [this]; decide +kernel
      rw [if_pos hv, if_neg (fun z => by rw [(hall.mp z).1] at hs; cases hs), if_neg hn, if_pos hv]; rfl
    rw [if_neg hv]
    show (if isSmall c = true ∧ ¬ 88 ∈ c :: r ∧ (c :: r).length ≤ 10 then ("name" : Str) else "none") = _
    by_cases hc : isCalled (c :: r) = true
    · obtain ⟨a, b, d⟩ := hall.mp hc
      rw [if_pos ⟨a, b, d⟩, if_pos hc]; rfl
    · rw [if_neg (fun z => hc (hall.mpr z)), if_neg hc, if_neg hn, if_neg hv]; rfl
theorem kind_arrow : kindL [45, 62] = "mark" := by
  unfold kindL
  rw [if_neg (by decide +kernel), if_pos (.inl rfl)]
theorem kind_mark {c : Nat} (h : c ∈ markSp.cps.toList) : kindL [c] = "mark" := by
  have h1 : ∀ d ∈ markSp.cps.toList, ¬ S [d] ∈ toldAll := by decide +kernel
  unfold kindL
  rw [if_neg (h1 c h), if_pos (.inr ⟨rfl, h⟩)]
theorem told_long : ∀ x ∈ toldAll, x.length ≠ 1 := by decide +kernel
theorem kind_none {c : Nat} (h1 : isRun c = false) (h2 : ¬ c ∈ markSp.cps.toList) : kindL [c] = "none" := by
  unfold kindL
  have hn : isRun c ≠ true := by rw [h1]; simp
  have hf : isFig c = false := by
    cases z : isFig c with
    | false => rfl
    | true => exact absurd (runL_split.mpr (.inl (fig_run z))) hn
  have hs : ¬ isSmall c = true := fun z => hn (runL_split.mpr (.inl (small_run z)))
  rw [if_neg (fun z => told_long _ z (by rw [S_len]; rfl)), if_neg, if_neg, if_neg, if_neg]
  · rintro ⟨a, _⟩
    exact hs a
  · rintro ⟨e, _⟩
    have : c = 88 := Option.some.inj e
    exact hn (runL_split.mpr (.inr this))
  · rw [isNum_cons]; simp [hf]
  · rintro (h | ⟨_, a⟩)
    · cases h
    · exact h2 a
theorem markSp_iff {c : Nat} : c ∈ markSp.cps.toList ↔ (isMark c = true ∨ c = 32) := by
  have e : markSp.cps.toList = marksL ++ [32] := by decide +kernel
  rw [e]
  unfold isMark
  simp
def rowD (t : Tok) : PyData := .tuple [.str t.w.kind, .str (S t.src), .int t.pos]
def toldText : Str := ("no same all some sort func rel mean taken shown by held use pair first second either other" : Str) ++ (" cases take give void twice each at open alike swap" : Str) ++ (" members unlike fold unfold" : Str)
theorem told_split : Txt.split toldText (" " : Str) = toldAll := by
  have e : toldText = S toldText.cps.toList := (S_tl _).symm
  rw [e, show (" " : Str) = S [32] by decide +kernel, split_S (by simp) (by decide)]
  decide +kernel
section
variable {P : Program} {w : World} {K : PySem.W.Frag} {mg : Str → Option Value} {base : Heap}
abbrev bodyLW : List Stmt := match (defBody s_l_words).drop 5 with
  | .While (body := b) .. :: _ => b
  | _ => []
abbrev eL1 : List Stmt := match bodyLW.drop 5 with
  | .If (orelse := e) .. :: _ => e
  | _ => []
abbrev eL2 : List Stmt := match eL1 with
  | .If (orelse := e) .. :: _ => e
  | _ => []
abbrev eL3 : List Stmt := match eL2 with
  | .If (orelse := e) .. :: _ => e
  | _ => []
abbrev eL4 : List Stmt := match eL3 with
  | .If (orelse := e) .. :: _ => e
  | _ => []
theorem str_beq {x y : List Nat} : decide (V.str (S x) = V.str (S y)) = decide (x = y) := by
  rw [decide_eq_decide]
  constructor
  · intro z
    injection z with z
    exact S_inj z
  · rintro rfl; rfl
theorem kd_none {w : Wd} : decide (V.str w.kind = V.str "none") = decide (w = .bad) := by
  rw [decide_eq_decide, ← kind_bad]
  exact ⟨fun z => by injection z, fun z => by rw [z]⟩
def spWordsL (K : PySem.W.Frag) : Sp := fun vs H Q _ => ∃ (l : List Nat), vs = [.str (S l)] ∧ TextOk l ∧ ∀ H' f fv, Same H H' → H f = none → H' f = some (.lst fv) → TpAll K H' fv ((toks l).map rowD) → Q (.ref f) H'
theorem ok_l_words (T : Txt K mg w) : Good P w K mg base 2 (He.ga K "_law_words") ["_law_text"] (spWordsL K) := by
  have GN := ok_l_is_number (P := P) (base := base) T
  refine good_of T.f_l_words sc_l_words (fun _ _ _ _ _ _ us hl => match us, hl with | [_], _ => rfl) (fun vs H Q E h => by obtain ⟨_, rfl, _⟩ := h; rfl) (fun cdv A outer s H vs Q E hr h => ?_)
  obtain ⟨l, rfl, ht, k⟩ := h
  have hl := ht.len
  -- the end of a turn
  obtain ⟨tE, hE, qE⟩ : ∃ tr, PSs (XB P w K mg base N_l_words "_law_words" s_l_words (He.ga K "_law_words") cdv A outer s H E) (bodyLW.drop 7) tr ∧ ∀ (D : Ends) (p1 f : Addr) (i : Nat) (b : Option V) (x : List Nat) (y : Str) (H1 : Hp), x.length ≤ 5000 → (y = "none" → D.rt (.ref f) H1) →
      (y ≠ "none" → D.nx [some (.str (S l)), some (.ref p1), some (.ref f), some (.int ((i + x.length : Nat) : Int)), b, some (.str (S x)), some (.str y)] H1) →
      tr D [some (.str (S l)), some (.ref p1), some (.ref f), some (.int (i : Nat)), b, some (.str (S x)), some (.str y)] H1 := by
    refine ⟨_, (pss_cons (ps_if (pt_cmpR op_eq (pv 6) pe_str (nomark _)) (pss_one (ps_ret (pv 2))) pss_nil)
      (pss_one (ps_set (i := 3) sc_l_words.nd rfl (Or.inl rfl) (pe_op op_add (pv 3) (pe_callB call_len_str (by rfl) T.z_len (by decide +kernel) (pa_cons (pv 5) pa_nil)))))), fun D p1 f i b x y H1 hxz h1 h2 => ?_⟩
    refine ⟨_, rfl, rfl, _, rfl, ?_⟩
    rw [dec_str, Bool.beq_eq_decide_eq]
    refine iteD (fun c => ⟨_, rfl, h1 c⟩) (fun c => ?_)
    refine ⟨_, rfl, _, rfl, _, rfl, by rw [S_len, sizeLine_eq]; omega, _, _, rfl, rfl, ?_⟩
    rw [S_len]
    exact h2 c
  obtain ⟨tD, hD, qD⟩ : ∃ tr, PSs (XB P w K mg base N_l_words "_law_words" s_l_words (He.ga K "_law_words") cdv A outer s H E) (bodyLW.drop 6) tr ∧ ∀ (D : Ends) (p1 f : Addr) (i : Nat) (b : Option V) (x : List Nat) (y : Str) (H1 : Hp) (fv : List V), H1 f = some (.lst fv) → fv.length ≤ 5000 → x.length ≤ 5000 →
      (x = [32] → (y = "none" → D.rt (.ref f) H1) ∧ (y ≠ "none" → D.nx [some (.str (S l)), some (.ref p1), some (.ref f), some (.int ((i + x.length : Nat) : Int)), b, some (.str (S x)), some (.str y)] H1)) →
      (x ≠ [32] → ∀ u, H1 u = none → (fun H2 => (y = "none" → D.rt (.ref f) H2) ∧ (y ≠ "none" → D.nx [some (.str (S l)), some (.ref p1), some (.ref f), some (.int ((i + x.length : Nat) : Int)), b, some (.str (S x)), some (.str y)] H2)) (upd (upd H1 u (.tup [.str y, .str (S x), .int (i : Nat)])) f (.lst (fv ++ [.ref u])))) →
      tr D [some (.str (S l)), some (.ref p1), some (.ref f), some (.int (i : Nat)), b, some (.str (S x)), some (.str y)] H1 := by
    refine ⟨_, pss_cons (ps_if (pt_cmpR op_ne (pv 5) pe_str (nomark _)) (pss_one (ps_expr (pe_bm PySem.F.plainAttrs_list PySem.F.slot_list_append PySem.F.type_list_append mt_append (pv 2) (pa_cons (pe_tup (pa_cons (pv 6) (pa_cons (pv 5) (pa_cons (pv 3) pa_nil)))) pa_nil)))) pss_nil) hE, fun D p1 f i b x y H1 fv hf hz hxz h1 h2 => ?_⟩
    refine ⟨_, rfl, rfl, _, rfl, ?_⟩
    rw [show (" " : Str) = S [32] by decide +kernel, str_beq]
    refine iteNot (fun c => ?_) (fun c => ?_)
    · refine ⟨_, rfl, .inl ⟨rfl, _, SqL.of hf⟩, _, rfl, _, rfl, _, rfl, by show 3 ≤ sizeLine; decide, fun u hu => ?_⟩
      refine ⟨f, fv, .ref u, rfl, rfl, same_new hu _ _ hf, by rw [sizeLine_eq]; omega, ?_⟩
      exact qE D p1 f i b x y _ hxz (h2 c u hu).1 (h2 c u hu).2
    · exact qE D p1 f i b x y H1 hxz (h1 c).1 (h1 c).2
  -- the kind
  obtain ⟨tL, hL, qL⟩ : ∃ tr, PSs (XB P w K mg base N_l_words "_law_words" s_l_words (He.ga K "_law_words") cdv A outer s H E) eL4 tr ∧ ∀ (D : Ends) (p1 f : Addr) (i : Nat) (b : Option V) (c : Nat) (r : List Nat) (H1 : Hp), TextOk (c :: r) →
      (∀ y : Str, (if isSmall ((c :: r).headD 0) = true ∧ ¬ 88 ∈ c :: r ∧ (c :: r).length ≤ 10 then ("name" : Str) else "none") = y → D.nx [some (.str (S l)), some (.ref p1), some (.ref f), some (.int (i : Nat)), b, some (.str (S (c :: r))), some (.str y)] H1) →
      tr D [some (.str (S l)), some (.ref p1), some (.ref f), some (.int (i : Nat)), b, some (.str (S (c :: r))), some (.str "none")] H1 := by
    refine ⟨_, (pss_one (ps_if (PW.pt (pw_and (pt_cmpR op_in_sign (pe_ix ix_str (pv 5) pe_int (fun _ _ => rfl)) pe_str rfl) (pw_and (pt_cmpR op_notIn_sign pe_str (pv 5) rfl) (pw_and1 (pt_cmpR op_le (pe_callB call_len_str (by rfl) T.z_len (by decide +kernel) (pa_cons (pv 5) pa_nil)) pe_int (nomark _)))))) (pss_one (ps_set (i := 6) sc_l_words.nd rfl (Or.inl rfl) pe_str)) pss_nil)), fun D p1 f i b c r H1 hx hk => ?_⟩
    have hxl := hx.len
    refine ⟨_, rfl, _, _, _, rfl, rfl, by rw [S_len, sizeLine_eq]; omega, atI_nat (j := 0) rfl, _, _, rfl, rfl, _, rfl, ?_⟩
    show if isSmall c = true then _ else _
    cases h1 : isSmall c with
    | false => exact iteF (hk _ (if_neg fun z => by have z1 : isSmall c = true := z.1; rw [h1] at z1; cases z1))
    | true =>
    refine iteT ⟨_, rfl, 88, _, rfl, rfl, _, rfl, ?_⟩
    refine iteNot (c := 88 ∈ c :: r) (fun h2 => ?_) (fun h2 => hk _ (if_neg fun z => z.2.1 h2))
    refine ⟨_, rfl, _, rfl, by rw [S_len, sizeLine_eq]; omega, _, _, rfl, rfl, _, rfl, ?_⟩
    rw [S_len]
    refine iteD (c := ((((c :: r).length : Nat) : Int) ≤ 10)) (fun h3 => ?_) (fun h3 => ?_)
    · exact hk _ (if_pos ⟨h1, h2, by omega⟩)
    · exact hk _ (if_neg fun z => h3 (by have := z.2.2; omega))
  obtain ⟨tN, hN, qN⟩ : ∃ tr, PSs (XB P w K mg base N_l_words "_law_words" s_l_words (He.ga K "_law_words") cdv A outer s H E) eL2 tr ∧ ∀ (D : Ends) (p1 f : Addr) (i : Nat) (b : Option V) (c : Nat) (r : List Nat) (H1 : Hp), TextOk (c :: r) → ¬ S (c :: r) ∈ toldAll → ¬ (c :: r = [45, 62] ∨ ((c :: r).length = 1 ∧ (c :: r).headD 0 ∈ markSp.cps.toList)) →
      (∀ H2, Same H1 H2 → D.nx [some (.str (S l)), some (.ref p1), some (.ref f), some (.int (i : Nat)), b, some (.str (S (c :: r))), some (.str (kindL (c :: r)))] H2) →
      tr D [some (.str (S l)), some (.ref p1), some (.ref f), some (.int (i : Nat)), b, some (.str (S (c :: r))), some (.str "none")] H1 := by
    refine ⟨_, (pss_one (ps_if (pt_val (pf GN (hr.mono (by decide)) T.g_l_is_number px (pa_cons (pv 5) pa_nil))) (pss_one (ps_set (i := 6) sc_l_words.nd rfl (Or.inl rfl) pe_str)) (pss_one (ps_if (PW.pt (pw_and (pt_cmpR op_eq (pe_ix ix_str (pv 5) pe_int (fun _ _ => rfl)) pe_str (nomark _)) (pw_and1 (pt_val (pf GN (hr.mono (by decide)) T.g_l_is_number px (pa_cons (pe_slice sl_str (pv 5) (po_some pe_int) po_none) pa_nil)))))) (pss_one (ps_set (i := 6) sc_l_words.nd rfl (Or.inl rfl) pe_str)) hL)))), fun D p1 f i b c r H1 hx h1 h2 hk => ?_⟩
    have hxl := hx.len
    have hr2 : TextOk r := hx.sub (by simp) (fun d hd => List.mem_cons_of_mem _ hd)
    unfold kindL at hk
    rw [if_neg h1, if_neg h2] at hk
    refine ⟨_, rfl, _, rfl, hx, fun H2 s2 => ⟨_, rfl, ?_⟩⟩
    cases hn : isNum (c :: r) with
    | true =>
      rw [if_pos hn] at hk
      exact iteT (hk H2 s2)
    | false =>
    rw [if_neg (by rw [hn]; simp)] at hk
    refine iteF ?_
    have ed : decide (V.str ⟨#[c]⟩ = V.str "X") = decide (c = 88) := by
      rw [show ("X" : Str) = S [88] by decide +kernel]
      have := str_beq (x := [c]) (y := [88])
      rw [show (⟨#[c]⟩ : Str) = S [c] from rfl, this, decide_eq_decide]
      exact ⟨fun z => List.head_eq_of_cons_eq z, fun z => by rw [z]⟩
    have ec : cutS (S (c :: r)) (some 1) none = S r := cut_from (i := 1)
    have nm : (c :: r).head? = some 88 ∧ isNum (c :: r).tail = true → False ∨ True := fun _ => .inr trivial
    refine ⟨_, rfl, _, _, _, rfl, rfl, by rw [S_len, sizeLine_eq]; omega, atI_nat (j := 0) rfl, rfl, _, rfl, ?_⟩
    rw [ed]
    refine iteD (fun c3 => ?_) (fun c3 => ?_)
    · refine ⟨_, rfl, _, rfl, _, rfl, by rw [S_len, sizeLine_eq]; omega, r, (by rw [ec]; rfl), hr2, fun H3 s3 => ⟨_, rfl, ?_⟩⟩
      cases hn2 : isNum r with
      | true =>
        rw [if_pos ⟨by rw [c3]; rfl, hn2⟩] at hk
        exact iteT (hk H3 (s2.trans s3))
      | false =>
        rw [if_neg (fun z => by have z2 : isNum r = true := z.2; rw [hn2] at z2; cases z2)] at hk
        exact iteF (qL D p1 f i b c r H3 hx fun y hy => by rw [← hy] at *; exact hk H3 (s2.trans s3))
    · rw [if_neg (fun z => c3 (by have z2 : some c = some 88 := z.1; exact Option.some.inj z2))] at hk
      exact iteF (qL D p1 f i b c r H2 hx fun y hy => by rw [← hy] at *; exact hk H2 s2)
  obtain ⟨tC, hC, qC⟩ : ∃ tr, PSs (XB P w K mg base N_l_words "_law_words" s_l_words (He.ga K "_law_words") cdv A outer s H E) (bodyLW.drop 4) tr ∧ ∀ (D : Ends) (p1 f : Addr) (i : Nat) (b bk : Option V) (x : List Nat) (H1 : Hp), H1 p1 = some (.lst (toldAll.map V.str)) → TextOk x → x ≠ [] →
      (∀ H2, Same H1 H2 → tD D [some (.str (S l)), some (.ref p1), some (.ref f), some (.int (i : Nat)), b, some (.str (S x)), some (.str (kindL x))] H2) →
      tr D [some (.str (S l)), some (.ref p1), some (.ref f), some (.int (i : Nat)), b, some (.str (S x)), bk] H1 := by
    refine ⟨_, (pss_cons (ps_set (i := 6) sc_l_words.nd rfl (Or.inl rfl) pe_str) (pss_cons (ps_if (pt_cmpR op_in_seq (pv 5) (pv 1) rfl) (pss_one (ps_set (i := 6) sc_l_words.nd rfl (Or.inl rfl) pe_str)) (pss_one (ps_if (PW.pt (pw_or (pt_cmpR op_eq (pv 5) pe_str (nomark _)) (pw_or1 (PW.pt (pw_and (pt_cmpR op_eq (pe_callB call_len_str (by rfl) T.z_len (by decide +kernel) (pa_cons (pv 5) pa_nil)) pe_int (nomark _)) (pw_and1 (pt_cmpR op_in_sign (pv 5) pe_str rfl))))))) (pss_one (ps_set (i := 6) sc_l_words.nd rfl (Or.inl rfl) pe_str)) hN))) hD)), fun D p1 f i b bk x H1 hp1 hx hne hk => ?_⟩
    have hxl := hx.len
    have hk0 := hk
    unfold kindL at hk
    refine ⟨_, rfl, _, rfl, p1, _, rfl, .inl (SqL.of hp1), rfl, all_flat _, _, rfl, ?_⟩
    show if inV (.str (S x)) (toldAll.map V.str) = true then _ else _
    rw [inV_strs]
    refine iteD (fun c1 => ?_) (fun c1 => ?_)
    · rw [if_pos c1] at hk
      exact hk H1 (Same.refl _)
    rw [if_neg c1] at hk
    cases x with
    | nil => exact absurd rfl hne
    | cons c r =>
    refine ⟨_, rfl, rfl, _, rfl, ?_⟩
    rw [show ("->" : Str) = S [45, 62] by decide +kernel, str_beq]
    refine iteD (fun c2 => iteT ?_) (fun c2 => ?_)
    · rw [if_pos (.inl c2)] at hk
      exact hk H1 (Same.refl _)
    refine ⟨_, rfl, _, rfl, by rw [S_len, sizeLine_eq]; omega, rfl, _, rfl, ?_⟩
    rw [S_len, show decide (V.int (((c :: r).length : Nat) : Int) = V.int 1) = decide ((c :: r).length = 1) from dec_nat (b := 1)]
    cases r with
    | nil =>
      refine iteD (c := ([c].length = 1)) (fun _ => ?_) (fun z => absurd rfl z)
      refine ⟨_, rfl, c, _, rfl, rfl, _, rfl, ?_⟩
      refine iteD (c := c ∈ markSp.cps.toList) (fun c3 => ?_) (fun c3 => ?_)
      · rw [if_pos (.inr ⟨rfl, c3⟩)] at hk
        exact hk H1 (Same.refl _)
      · have h2 : ¬ ([c] = [45, 62] ∨ ([c].length = 1 ∧ [c].headD 0 ∈ markSp.cps.toList)) := fun z => by
          rcases z with z | z
          · exact c2 z
          · exact c3 z.2
        exact qN _ p1 f i b c [] H1 hx c1 h2 fun H2 s2 => hk0 H2 s2
    | cons d r =>
      have h2 : ¬ (c :: d :: r = [45, 62] ∨ ((c :: d :: r).length = 1 ∧ (c :: d :: r).headD 0 ∈ markSp.cps.toList)) := fun z => by
        rcases z with z | z
        · exact c2 z
        · have := z.1; simp at this
      refine iteD (c := ((c :: d :: r).length = 1)) (fun z => absurd z (by simp)) (fun _ => iteF ?_)
      exact qN _ p1 f i b c (d :: r) H1 hx c1 h2 fun H2 s2 => hk0 H2 s2
  obtain ⟨tA, hA, qA⟩ : ∃ tr, PSs (XB P w K mg base N_l_words "_law_words" s_l_words (He.ga K "_law_words") cdv A outer s H E) (bodyLW.drop 2) tr ∧ ∀ (D : Ends) (p1 f : Addr) (i : Nat) (b5 b6 : Option V) (H1 : Hp) (acc : List Tok) (fv : List V), i < l.length → p1 ≠ f → H f = none → Same H H1 → H1 p1 = some (.lst (toldAll.map V.str)) → H1 f = some (.lst fv) →
      TpAll K H1 fv (acc.map rowD) → toks l = acc ++ scan (l.drop i).length i (l.drop i) → fv.length ≤ i → D.rt = Q →
      (∀ (i' : Nat) (acc' : List Tok) (fv' : List V) (c4 c5 c6 : Option V) (H' : Hp), i < i' → i' ≤ l.length → Same H H' → H' p1 = some (.lst (toldAll.map V.str)) → H' f = some (.lst fv') → TpAll K H' fv' (acc'.map rowD) → toks l = acc' ++ scan (l.drop i').length i' (l.drop i') → fv'.length ≤ i' →
        D.nx [some (.str (S l)), some (.ref p1), some (.ref f), some (.int (i' : Nat)), c4, c5, c6] H') →
      tr D [some (.str (S l)), some (.ref p1), some (.ref f), some (.int (i : Nat)), some (.int ((i + ((l.drop i).takeWhile isRun).length : Nat) : Int)), b5, b6] H1 := by
    refine ⟨_, pss_cons (ps_set (i := 5) sc_l_words.nd rfl (Or.inl rfl) (pe_slice sl_str (pv 0) (po_some (pv 3)) (po_some (pv 4)))) (pss_cons (ps_if (pt_cmpR op_eq (pv 5) pe_str (nomark _)) (pss_one (ps_set (i := 5) sc_l_words.nd rfl (Or.inl rfl) (pe_ifExp (pt_cmpR op_eq (pe_slice sl_str (pv 0) (po_some (pv 3)) (po_some (pe_op op_add (pv 3) pe_int))) pe_str (nomark _)) pe_str (pe_ix ix_str (pv 0) (pv 3) (fun _ _ => rfl))))) pss_nil) hC), fun D p1 f i b5 b6 H1 acc fv hlt np hf0 s1 hp1 hf1 hfv htk hfl hrt hnx => ?_⟩
    have hc : l[i]? = some l[i] := List.getElem?_eq_getElem hlt
    have hd : l.drop i = l[i] :: l.drop (i + 1) := List.drop_eq_getElem_cons hlt
    have ecut : cutS (S l) (some (i : Nat)) (some ((i + ((l.drop i).takeWhile isRun).length : Nat) : Int)) = S ((l.drop i).takeWhile isRun) := by
      rw [cut_S, show i + ((l.drop i).takeWhile isRun).length - i = ((l.drop i).takeWhile isRun).length by omega, take_run]
    -- a row, or none, and on
    have fin : ∀ (x : List Nat) (t : Option Tok) (R : List Tok) (H2 : Hp) (b5 b6 : Option V), x ≠ [] → TextOk x → Same H1 H2 → (x = [32] ↔ t = none) → (∀ t', t = some t' → t'.src = x ∧ t'.pos = i ∧ kindL x = t'.w.kind ∧ toks l = acc ++ t' :: R ∧ (t'.w = .bad → R = []) ∧ (t'.w ≠ .bad → R = scan (l.drop (i + x.length)).length (i + x.length) (l.drop (i + x.length)))) →
        (t = none → kindL x = "mark" ∧ toks l = acc ++ scan (l.drop (i + x.length)).length (i + x.length) (l.drop (i + x.length))) → i + x.length ≤ l.length →
        tC D [some (.str (S l)), some (.ref p1), some (.ref f), some (.int (i : Nat)), some (.int ((i + ((l.drop i).takeWhile isRun).length : Nat) : Int)), some (.str (S x)), b6] H2 := by
      intro x t R H2 b5 b6 hne hx s2 hsp ht1 ht2 hix
      have hxl := hx.len
      have hx1 : 1 ≤ x.length := by cases x with
        | nil => exact absurd rfl hne
        | cons _ _ => simp
      refine qC D p1 f i _ b6 x H2 (s2 _ _ hp1) hx hne fun H3 s3 => ?_
      have s23 := s2.trans s3
      have hf3 := s23 _ _ hf1
      refine qD D p1 f i _ x (kindL x) H3 fv hf3 (by omega) (by omega) (fun ex => ?_) (fun ex u hu => ?_)
      · obtain ⟨ek, etk⟩ := ht2 (hsp.mp ex)
        rw [ek]
        refine ⟨fun z => absurd z (by decide +kernel), fun _ => ?_⟩
        exact hnx (i + x.length) acc fv _ _ _ H3 (by omega) hix (s1.trans s23) (s23 _ _ hp1) hf3 (hfv.mono (TM.same s23)) etk (by omega)
      · cases t with
        | none => exact absurd (hsp.mpr rfl) ex
        | some t' =>
        obtain ⟨e1, e2, ek, etk, hb, hg⟩ := ht1 t' rfl
        have e4 := same_new (o := .tup [.str (kindL x), .str (S x), .int (i : Nat)]) hu
        have hf4 := e4 _ _ hf3
        have M : TM (upd H3 u (.tup [.str (kindL x), .str (S x), .int (i : Nat)])) (upd (upd H3 u (.tup [.str (kindL x), .str (S x), .int (i : Nat)])) f (.lst (fv ++ [.ref u]))) := TM.lst hf4
        have hrow : Tp K (upd H3 u (.tup [.str (kindL x), .str (S x), .int (i : Nat)])) (.ref u) (rowD t') := by
          unfold rowD
          rw [← ek, e1, e2]
          exact tp_new hu (.three (.str _) (.str _) (.int _))
        have hT : TpAll K (upd (upd H3 u (.tup [.str (kindL x), .str (S x), .int (i : Nat)])) f (.lst (fv ++ [.ref u]))) (fv ++ [.ref u]) ((acc ++ [t']).map rowD) := by
          rw [List.map_append]
          exact ((hfv.mono (TM.same (s23.trans e4))).mono M).app (.one (hrow.mono M))
        have sA : Same H (upd (upd H3 u (.tup [.str (kindL x), .str (S x), .int (i : Nat)])) f (.lst (fv ++ [.ref u]))) := fun b o z => by
          rw [upd_ne (ne_of_none z hf0)]
          exact e4 _ _ (s23 _ _ (s1 _ _ z))
        refine ⟨fun z => ?_, fun z => ?_⟩
        · have hbad : t'.w = .bad := by rw [← kind_bad, ← ek]; exact z
          rw [hrt]
          refine k _ f _ sA hf0 upd_same ?_
          rw [etk, hb hbad]
          exact hT
        · have hbad : t'.w ≠ .bad := fun y => z (by rw [ek, y]; rfl)
          have hR := hg hbad
          refine hnx (i + x.length) (acc ++ [t']) (fv ++ [.ref u]) _ _ _ _ (by omega) hix sA (by rw [upd_ne np]; exact e4 _ _ (s23 _ _ hp1)) upd_same hT (by rw [etk, hR]; simp) ?_
          rw [List.length_append]; show fv.length + 1 ≤ _; omega
    refine ⟨_, rfl, _, rfl, _, rfl, _, rfl, _, rfl, _, rfl, by rw [S_len, sizeLine_eq]; omega, ?_⟩
    rw [ecut]
    refine ⟨_, rfl, rfl, _, rfl, ?_⟩
    rw [show ("" : Str) = S [] by decide +kernel, str_beq]
    rw [hd, scan_cons (Nat.le_refl _)] at htk
    have hsubs : ∀ c ∈ l, c < 128 := ht.asc
    have hone : TextOk [l[i]] := ⟨by simp, fun c hc => by rw [List.mem_singleton.mp hc]; exact hsubs _ (List.getElem_mem hlt)⟩
    cases hr2 : isRun l[i] with
    | true =>
      have hp1' : 1 ≤ ((l.drop i).takeWhile isRun).length := by rw [hd]; exact takeWhile_pos hr2
      rw [if_pos hr2, ← hd] at htk
      have hdr := drop_run isRun (l.drop i)
      have hle : ((l.drop i).takeWhile isRun).length ≤ l.length - i := by
        have := dropWhile_len isRun (l.drop i)
        rw [List.length_drop] at this
        omega
      have hall := takeWhile_all isRun (l.drop i)
      have hmem : ∀ c ∈ (l.drop i).takeWhile isRun, c ∈ l := fun c hc => List.mem_of_mem_drop ((List.takeWhile_prefix _).subset hc)
      generalize (l.drop i).takeWhile isRun = run at *
      have hne : run ≠ [] := by intro z; rw [z] at hp1'; simp at hp1'
      refine iteD (fun z => absurd z hne) (fun _ => ?_)
      have hok : TextOk run := ht.sub (by omega) hmem
      have h32 : ¬ run = [32] := fun z => by
        have := hall 32 (by rw [z]; simp)
        exact absurd this (by decide +kernel)
      by_cases hb : wordOf run = .bad
      · rw [if_pos hb] at htk
        exact fin run (some ⟨.bad, run, i⟩) [] H1 b5 b6 hne hok (Same.refl _) ⟨fun z => absurd z h32, fun z => by cases z⟩ (fun t' e => by
          injection e with e
          subst e
          exact ⟨rfl, rfl, by rw [kind_run hne hall, hb], htk, fun _ => rfl, fun z => absurd rfl z⟩) (fun z => by cases z) (by omega)
      · rw [if_neg hb] at htk
        refine fin run (some ⟨wordOf run, run, i⟩) (scan ((l.drop i).dropWhile isRun).length (i + run.length) ((l.drop i).dropWhile isRun)) H1 b5 b6 hne hok (Same.refl _) ⟨fun z => absurd z h32, fun z => by cases z⟩ (fun t' e => ?_) (fun z => by cases z) (by omega)
        injection e with e
        subst e
        refine ⟨rfl, rfl, kind_run hne hall, htk, fun z => absurd z hb, fun _ => ?_⟩
        rw [← hdr, List.drop_drop]
    | false =>
      have hrun : (l.drop i).takeWhile isRun = [] := by rw [hd, List.takeWhile_cons, if_neg (by rw [hr2]; simp)]
      rw [hrun] at fin ⊢
      rw [if_neg (by rw [hr2]; simp)] at htk
      refine iteT ?_
      have ecut2 : cutS (S l) (some (i : Nat)) (some ((i : Int) + 2)) = S ((l[i] :: l.drop (i + 1)).take 2) := by
        have := cut_S (l := l) (i := i) (j := i + 2)
        rw [show i + 2 - i = 2 by omega, hd] at this
        exact this
      refine ⟨_, rfl, _, rfl, _, rfl, _, rfl, _, _, rfl, rfl, _, rfl, _, rfl, by rw [S_len, sizeLine_eq]; omega, rfl, _, rfl, ?_⟩
      rw [ecut2]
      have ed : decide (V.str (S ((l[i] :: l.drop (i + 1)).take 2)) = V.str "->") = decide (l[i] = 45 ∧ (l.drop (i + 1)).head? = some 62) := by
        rw [show ("->" : Str) = S [45, 62] by decide +kernel, str_beq, decide_eq_decide]
        generalize l.drop (i + 1) = r
        cases r with
        | nil => simp
        | cons d r => simp
      rw [ed]
      refine iteD (fun ha => ?_) (fun ha => ?_)
      · rw [if_pos ha] at htk
        have hlt2 : i + 2 ≤ l.length := by
          have h2 := ha.2
          cases e : l.drop (i + 1) with
          | nil => rw [e] at h2; cases h2
          | cons d r =>
            have := congrArg List.length e
            rw [List.length_drop] at this
            simp only [List.length_cons] at this
            omega
        have e45 : ("->" : Str) = S [45, 62] := by decide +kernel
        show tC D [some (.str (S l)), some (.ref p1), some (.ref f), some (.int (i : Nat)), some (.int ((i + ([] : List Nat).length : Nat) : Int)), some (.str "->"), b6] H1
        rw [e45]
        refine fin [45, 62] (some ⟨.mark "->", [45, 62], i⟩) (scan (l.drop (i + 1)).tail.length (i + 2) (l.drop (i + 1)).tail) H1 b5 b6 (by simp) ⟨by simp, by decide⟩ (Same.refl _) ⟨fun z => by simp at z, fun z => by cases z⟩ (fun t' e => ?_) (fun z => by cases z) hlt2
        injection e with e
        subst e
        refine ⟨rfl, rfl, kind_arrow, htk, fun z => (by cases z), fun _ => ?_⟩
        rw [List.tail_drop] <;> rfl
      · rw [if_neg ha] at htk
        refine ⟨_, rfl, _, rfl, _, _, _, rfl, rfl, by rw [S_len, sizeLine_eq]; omega, atI_nat (j := i) hc, ?_⟩
        by_cases hm : isMark l[i] = true
        · rw [if_pos hm] at htk
          have h32 : ¬ [l[i]] = [32] := fun z => by
            injection z with z
            rw [z] at hm
            exact absurd hm (by decide +kernel)
          refine fin [l[i]] (some ⟨.mark (S [l[i]]), [l[i]], i⟩) (scan (l.drop (i + 1)).length (i + 1) (l.drop (i + 1))) H1 b5 b6 (by simp) hone (Same.refl _) ⟨fun z => absurd z h32, fun z => by cases z⟩ (fun t' e => ?_) (fun z => by cases z) (by show i + 1 ≤ _; omega)
          injection e with e
          subst e
          exact ⟨rfl, rfl, kind_mark (markSp_iff.mpr (.inl hm)), htk, fun z => (by cases z), fun _ => rfl⟩
        · rw [if_neg hm] at htk
          by_cases hsp : l[i] = 32
          · rw [if_pos hsp] at htk
            exact fin [l[i]] none [] H1 b5 b6 (by simp) hone (Same.refl _) ⟨fun _ => rfl, fun _ => by rw [hsp]⟩ (fun t' e => by cases e) (fun _ => ⟨kind_mark (markSp_iff.mpr (.inr hsp)), htk⟩) (by show i + 1 ≤ _; omega)
          · rw [if_neg hsp] at htk
            refine fin [l[i]] (some ⟨.bad, [l[i]], i⟩) [] H1 b5 b6 (by simp) hone (Same.refl _) ⟨fun z => absurd (List.head_eq_of_cons_eq z) hsp, fun z => by cases z⟩ (fun t' e => ?_) (fun z => by cases z) (by show i + 1 ≤ _; omega)
            injection e with e
            subst e
            refine ⟨rfl, rfl, kind_none hr2 (fun z => ?_), htk, fun _ => rfl, fun z => absurd rfl z⟩
            rcases markSp_iff.mp z with z | z
            · exact hm z
            · exact hsp z
  have erun : ("abcdefghijklmnopqrstuvwxyz0123456789X" : Str).cps.toList = runL := by decide +kernel
  refine ⟨_, (pss_cons (ps_set (i := 1) sc_l_words.nd rfl (Or.inl rfl) pe_str)
      (pss_cons (ps_set (i := 1) sc_l_words.nd rfl (Or.inl rfl) (pe_op op_add_str (pv 1) pe_str))
      (pss_cons (ps_set (i := 1) sc_l_words.nd rfl (Or.inl rfl) (pe_split (pe_op op_add_str (pv 1) pe_str) pe_str))
      (pss_cons (ps_set (i := 2) sc_l_words.nd rfl (Or.inl rfl) (pe_lst pa_nil))
      (pss_cons (ps_set (i := 3) sc_l_words.nd rfl (Or.inl rfl) pe_int)
      (pss_cons (ps_while po (pt_cmpR op_lt (pv 3) (pe_callB call_len_str (by rfl) T.z_len (by decide +kernel) (pa_cons (pv 0) pa_nil)) (nomark _)) (pss_cons (ps_set (i := 4) sc_l_words.nd rfl (Or.inl rfl) (pv 3)) (pss_cons (ps_while po (PW.pt (pw_and (pt_cmpR op_lt (pv 4) (pe_callB call_len_str (by rfl) T.z_len (by decide +kernel) (pa_cons (pv 0) pa_nil)) (nomark _)) (pw_and1 (pt_cmpR op_in_sign (pe_ix ix_str (pv 0) (pv 4) (fun _ _ => rfl)) pe_str rfl)))) (pss_one (ps_set (i := 4) sc_l_words.nd rfl (Or.inl rfl) (pe_op op_add (pv 4) pe_int)))) hA)))
      (pss_one (ps_ret (pv 2))))))))), ?_⟩
  refine ⟨_, rfl, _, _, rfl, rfl, by decide +kernel, ?_⟩
  refine ⟨_, rfl, _, _, rfl, rfl, by decide +kernel, ⟨_, rfl⟩, toldText, " ", rfl, rfl, by decide +kernel, by decide +kernel, fun p1 hp1 => ?_⟩
  rw [told_split]
  refine ⟨Nat.zero_le _, fun f hf => ?_⟩
  have np : p1 ≠ f := fun z => by rw [← z, upd_same] at hf; cases hf
  have hf0 : H f = none := by rw [upd_ne np.symm] at hf; exact hf
  have s0 := (same_new (o := .lst (toldAll.map V.str)) hp1).trans (same_new (o := .lst []) hf)
  refine ⟨fun n σ H' => ∃ (i : Nat) (acc : List Tok) (fv : List V) (b4 b5 b6 : Option V), σ = [some (.str (S l)), some (.ref p1), some (.ref f), some (.int i), b4, b5, b6] ∧ i ≤ l.length ∧ n = l.length - i ∧ Same H H' ∧ H' p1 = some (.lst (toldAll.map V.str)) ∧ H' f = some (.lst fv) ∧ TpAll K H' fv (acc.map rowD) ∧
      toks l = acc ++ scan (l.drop i).length i (l.drop i) ∧ fv.length ≤ i, ⟨_, 0, [], [], none, none, none, rfl, Nat.zero_le _, rfl, s0, by rw [upd_ne np]; exact upd_same, upd_same, .nil, rfl, Nat.zero_le _⟩, ?_⟩
  rintro n σ H1 ⟨i, acc, fv, b4, b5, b6, rfl, hi, rfl, s1, hp1', hf1, hfv, htk, hfl⟩
  refine ⟨_, rfl, _, rfl, _, rfl, by rw [S_len, sizeLine_eq]; omega, _, _, rfl, rfl, _, rfl, ?_⟩
  rw [S_len]
  refine iteD (c := ((i : Int) < (l.length : Nat))) (fun c => ?_) (fun c => ?_)
  rotate_left
  · have e : l.drop i = [] := List.drop_eq_nil_of_le (by omega)
    rw [e, scan_nil, List.append_nil] at htk
    exact ⟨_, rfl, k H1 f fv s1 hf0 hf1 (by rw [htk]; exact hfv)⟩
  have hlt : i < l.length := by omega
  have hc : l[i]? = some l[i] := List.getElem?_eq_getElem hlt
  have hd : l.drop i = l[i] :: l.drop (i + 1) := List.drop_eq_getElem_cons hlt
  refine ⟨_, fun σ' H' h => h, ?_⟩
  refine ⟨_, rfl, ?_⟩
  refine ⟨fun n σ H' => ∃ j : Nat, σ = [some (.str (S l)), some (.ref p1), some (.ref f), some (.int (i : Nat)), some (.int j), b5, b6] ∧ H' = H1 ∧ i ≤ j ∧ j ≤ l.length ∧ n = l.length - j ∧ i + ((l.drop i).takeWhile isRun).length = j + ((l.drop j).takeWhile isRun).length, ⟨_, i, rfl, rfl, Nat.le_refl _, hi, rfl, rfl⟩, ?_⟩
  rintro n2 σ2 H2 ⟨j, rfl, rfl, hij, hj, rfl, ej⟩
  refine ⟨_, rfl, _, rfl, _, rfl, by rw [S_len, sizeLine_eq]; omega, _, _, rfl, rfl, _, rfl, ?_⟩
  rw [S_len]
  refine iteD (c := ((j : Int) < (l.length : Nat))) (fun cj => ?_) (fun cj => iteF ?_)
  · have hltj : j < l.length := by omega
    have hcj : l[j]? = some l[j] := List.getElem?_eq_getElem hltj
    have hdj : l.drop j = l[j] :: l.drop (j + 1) := List.drop_eq_getElem_cons hltj
    refine ⟨_, rfl, _, rfl, _, _, _, rfl, rfl, by rw [S_len, sizeLine_eq]; omega, atI_nat (j := j) hcj, ?_⟩
    refine ⟨_, _, rfl, rfl, _, rfl, ?_⟩
    rw [erun]
    show if isRun l[j] = true then _ else _
    cases hrj : isRun l[j] with
    | true =>
      have e2 : ((l.drop j).takeWhile isRun).length = ((l.drop (j + 1)).takeWhile isRun).length + 1 := by rw [hdj, List.takeWhile_cons, if_pos hrj]; rfl
      refine iteT ⟨_, fun σ' H' h => h, ?_⟩
      refine ⟨_, rfl, _, _, rfl, rfl, ?_⟩
      exact ⟨_, by omega, j + 1, rfl, rfl, by omega, by omega, rfl, by omega⟩
    | false =>
      have e2 : ((l.drop j).takeWhile isRun).length = 0 := by rw [hdj, List.takeWhile_cons, if_neg (by rw [hrj]; simp)]; rfl
      have ej2 : j = i + ((l.drop i).takeWhile isRun).length := by omega
      rw [ej2]
      exact iteF (qA _ p1 f i b5 b6 _ acc fv hlt np hf0 s1 hp1' hf1 hfv htk hfl rfl fun i' acc' fv' c4 c5 c6 H' h1 h2 h3 h4 h5 h6 h7 h8 => ⟨_, by omega, i', acc', fv', c4, c5, c6, rfl, h2, rfl, h3, h4, h5, h6, h7, h8⟩)
  · have e2 : l.drop j = [] := List.drop_eq_nil_of_le (by omega)
    rw [e2] at ej
    have ej2 : j = i + ((l.drop i).takeWhile isRun).length := by simp at ej; omega
    rw [ej2]
    exact qA _ p1 f i b5 b6 _ acc fv hlt np hf0 s1 hp1' hf1 hfv htk hfl rfl fun i' acc' fv' c4 c5 c6 H' h1 h2 h3 h4 h5 h6 h7 h8 => ⟨_, by omega, i', acc', fv', c4, c5, c6, rfl, h2, rfl, h3, h4, h5, h6, h7, h8⟩
end
end KW

/-! part KKeep -/
set_option maxHeartbeats 4000000
/-! try .. except X as e: suite, where the caught exception stays known behind the suite. -/
namespace KW
open PySem PySem.Spec PyProof.Rows L2 KM SX
/-- at a an exception of the class at C, its dict at d -/
def exk (a C d : Addr) : HO := .ext fun h => ∃ o vs, h.get? a = some o ∧ o.cls = .ref C ∧ o.dict = some d ∧ o.data = .fields vs
theorem exk_ok {P : Program} {w : World} {H : Hp} {h : Heap} {a C d : Addr} {o : Obj} {vs : Array Value} (e : h.get? a = some o) (hc : o.cls = .ref C) (hd : o.dict = some d) (hv : o.data = .fields vs) : ObjOk P w H h a (exk a C d) :=
  ⟨⟨o, vs, e, hc, hd, hv⟩, ⟨o, e⟩, fun h1 h2 ⟨o1, vs1, e1, r⟩ k => ⟨o1, vs1, k _ e1, r⟩⟩
section
variable {X : Cx} {x n : Str} {c : Value} {i : Nat} {body suite : List Stmt} {b₀ : Stmt} {np pos pos' : Pos} {tb : WX → TS} {ts : TS}
/-- every exception of the body is caught, and known from then on -/
def wKeep (K : PySem.W.Frag) (c : Value) (i : Nat) (ts : TS) (D : Ends) : WX := fun cls d σ H => PySem.W.exmOne K cls c = some true ∧ ∃ C dd, cls = .ref C ∧ d = some dd ∧ ∀ a, H a = none →
  ts { nx := fun σ' H' => D.nx (σ'.set i none) H', rt := D.rt, bk := fun σ' H' => D.bk (σ'.set i none) H', ct := fun σ' H' => D.ct (σ'.set i none) H' } (σ.set i (some (.ref a))) (upd H a (exk a C dd))
theorem ps_try_keep (hs : X.stack = X.env :: X.outer) (hf : X.env.frame = some X.env.locals) (hN : X.N.Nodup) (hi : X.N[i]? = some n) (hln : X.env.kindOf n = some .local) (hc : Names X x c)
    (hb : ∀ (W : WX) (pn : List (Addr × Obj)) (xe : Value → Shared → Prop), Takes (X.tr pn xe) W → PassesOwn (model X.prog X.w) X.A X.env xe → PSs (X.tr pn xe) body (tb W))
    (hsu : ∀ (a : Addr) (pn : List (Addr × Obj)), PSs (X.suite a pn) (b₀ :: suite) ts) :
    PS X (.Try body [.ExceptHandler (some (.Name x np)) (some n) (b₀ :: suite) pos'] [] [] pos) (fun D σ H => tb (wKeep X.K c i ts D) D σ H) := by
  refine ⟨fun pins s σ H D I h => ?_⟩
  have ok := I.ok
  have frames : X.A.frames = some (X.env :: X.outer) := by rw [ok.frames, hs]
  refine wpAny_Try_except (wpAny_mono ((hb (wKeep X.K c i ts D) (X.pn ++ pins) (fun e s₁ => wpAny (model X.prog X.w) X.A (noteFrame e X.env) (fun _ s₂ => wpAny (model X.prog X.w) X.A (setFlight e none) (fun _ s₃ =>
    wpAny (model X.prog X.w) X.A (handleBy e X.env [.ExceptHandler (some (.Name x np)) (some n) (b₀ :: suite) pos']) (SP X pins D) X.xe s₃) X.xe s₂) X.xe s₁) (fun u s' air => ?_) PassesOwn.looking).run [] s σ H D (I.toTry _) h) (fun f s1 hsp => ?_) (fun e s1 he => he))
  rotate_left
  · cases f <;> first
      | (obtain ⟨σ', H', J', q⟩ := hsp; exact wpAny_execs_nil ⟨σ', H', J'.ofTry ok, q⟩)
      | (obtain ⟨σ', H', J', q⟩ := hsp; exact ⟨σ', H', J'.ofTry ok, q⟩)
      | (obtain ⟨v, σ', H', J', r, q⟩ := hsp; exact ⟨v, σ', H', J'.ofTry ok, r, q⟩)
  obtain ⟨a, B, sI, pins', σ', H', cls, d, rfl, J', nb, up, sky, na, os, ag, hm, C, dd, rfl, rfl, hyes⟩ := air
  have J : Inv X pins σ' H' sI := J'.ofTry ok
  show wpAny (model X.prog X.w) X.A (noteFrame (.ref a) X.env) _ _ _
  refine Sky.land Zc.steady frames hf (by rw [← hs]; exact sky) fun h3 fl3 up3 => ?_
  obtain ⟨oe3, vs3, he3, hz3, hd3⟩ := fl3.there
  have Ba : B.get? a = none := fl3.2.1
  have offs : a ∉ frs (X.env :: X.outer) := fun hm => by
    obtain ⟨_, o', e', hnf⟩ := fl3.2.2.1.mem hm
    rw [he3] at e'; cases e'
    exact hnf _ hd3
  have nL : a ≠ X.env.locals := fun z => offs (List.mem_filterMap.mpr ⟨X.env, List.mem_cons_self, by rw [hf, z]⟩)
  have nI : sI.heap.get? a = none := by
    cases e : sI.heap.get? a with
    | none => rfl
    | some o =>
      have := nb a o e (by rw [hs]; exact offs)
      rw [Ba] at this; cases this
  -- the exception is known
  have known : ∀ (h4 : Heap) (s4 : Shared), B.StaysIn h4 → s'.heap.UpToSlots h4 → (∃ oe vs, h4.get? a = some oe ∧ Zc (.ref C) (some dd) oe ∧ oe.data = .fields vs) → s4 = { s' with heap := h4 } → Inv (X.suite a (X.pn ++ pins)) [] σ' (upd H' a (exk a C dd)) s4 := by
    intro h4 s4 st u4 ⟨oe, vs, he, hz, hd⟩ e4
    subst e4
    have up4 := up.trans u4
    have nf : ∀ b ∈ frs X.stack, ∀ o, sI.heap.get? b = some o → ∃ sl, h4.get? b = some { o with slots := sl } := fun b hb o e => by
      obtain ⟨_, o', e', hd'⟩ := J.stack.mem hb
      rw [e] at e'; cases e'
      exact up4 b o e hd'
    have ne : ∀ b o, sI.heap.get? b = some o → b ≠ a := fun b o e z => by rw [z, nI] at e; cases e
    have hokB : HOk X.prog X.w (upd H' a (exk a C dd)) h4 := fun b o q => by
      by_cases hb : b = a
      · subst hb
        rw [upd_same] at q
        cases q
        exact exk_ok he hz.1 hz.2 hd
      · rw [upd_ne hb] at q
        exact (((J.inGround nb).kept st) b o q).stay (fun _ _ _ r => r) (fun b2 r => by rw [upd_ne (fun z => by rw [z, na] at r; cases r)]; exact r) (fun b2 xs r => by rw [upd_ne (fun z => by rw [z, na] at r; cases r)]; exact r)
    have K4 : Inv X pins σ' (upd H' a (exk a C dd)) { s' with heap := h4 } := by
      have := J.call (ch := []) (h' := h4) (g' := s'.gens) (t' := s'.toks) (d' := s'.drawn) (H' := upd H' a (exk a C dd))
        ⟨fun b o e _ hb _ => st b o (nb b o e hb), fun b o e _ hb _ => nf b hb o e, fun b o e z _ => by rw [upd_ne (ne b o e)]; exact z, fun b o e _ => by
          by_cases hb : b ∈ frs X.stack
          · obtain ⟨sl, q⟩ := nf b hb o e
            exact ⟨_, q⟩
          · exact ⟨o, st b o (nb b o e hb)⟩, fun b xs e => by rw [upd_ne (fun z => by rw [z, na] at e; cases e)]; exact e, fun b o u e => by rw [upd_ne (fun z => by rw [z, na] at e; cases e)]; exact e,
          fun b ps e => ⟨#[], by rw [upd_ne (fun z => by rw [z, na] at e; cases e), e]; simp⟩⟩ hokB ag (fun _ z => nomatch z)
      have eo : ({ sI with heap := h4, gens := s'.gens, drawn := s'.drawn, toks := s'.toks } : Shared) = { s' with heap := h4 } := by
        obtain ⟨q1, q2, q3, q4, q5⟩ := s'
        have os : q5 = sI.os := os
        subst os
        rfl
      rw [← eo]
      exact this
    exact ⟨K4.ok.suite _ _, K4.os, K4.bare, K4.base, K4.loc, K4.cell, K4.free, K4.freeC, fun p hp => K4.pin p (by rw [List.append_nil] at hp; exact hp), K4.hok, K4.len⟩
  have S3 := known h3 _ fl3.1 up3 ⟨oe3, vs3, he3, hz3, hd3⟩ rfl
  refine wpAny_handleBy_cons (codeAny_handlers_test ?_) (by intro q; cases q)
  have LT : PySem.W.Looks (model X.prog X.w) h3 (typeOf (.ref a)) (.ref C) := fun A Q E s k q => wpAny_typeOf_ref (k _ _ he3) (by rw [hz3.1]; exact q)
  have LM := PySem.W.exm_one (M := model X.prog X.w) (S3.kIn) LT hm
  have test : ∀ {Q : Value → Shared → Prop} {E : Value → Shared → Prop}, Q c { s' with heap := h3 } → wpAny (model X.prog X.w) (X.A.mark (some (.ref a))) (eval (.Name x np) X.env) Q E { s' with heap := h3 } := fun {Q E} q => by
    obtain ⟨hg, hdbg, hm | ⟨hm, hv, hnn⟩⟩ := hc
    · exact ld_glob (X := X.suite a (X.pn ++ pins)) S3 hg hm q hdbg
    · exact ld_blt (X := X.suite a (X.pn ++ pins)) S3 hg hm hv q hnn hdbg
  refine test (LM.here (codeAny_handlers_suite_as (HandSPX.lands_againZ fl3 fun h4 fl4 up4 => ?_)))
  have S4 := known h4 _ fl4.1 (up3.trans up4) fl4.there rfl
  refine store_ok (X := X.suite a (X.pn ++ pins)) (v := .ref a) S4 hN hi (.inl hln) rfl (fun s5 S5 => ?_) (.inr hln)
  refine wpAny_mono ((hsu a (X.pn ++ pins)).run [] s5 _ _ _ S5 (hyes a na)) (fun f s6 hsp => ?_) (fun _ _ z => False.elim z)
  have back : ∀ {σ6 : L2.St} {H6 : Hp}, Inv (X.suite a (X.pn ++ pins)) [] σ6 H6 s6 → Inv X pins σ6 H6 s6 := fun {σ6 H6} I => ⟨ok, I.os, I.bare, I.base, I.loc, I.cell, I.free, I.freeC, fun p hp => I.pin p (List.mem_append_left _ hp), I.hok, I.len⟩
  have gone : ∀ {σ6 : L2.St} {H6 : Hp} {Q : Shared → Prop}, Inv (X.suite a (X.pn ++ pins)) [] σ6 H6 s6 → (∀ s7, Inv X pins (σ6.set i none) H6 s7 → Q s7) → wpAny (model X.prog X.w) X.A (do bindName X.env n .none; unbindBehindTheSuite X.env n pos') (fun _ s7 => Q s7) X.xe s6 :=
    fun {σ6 H6 Q} S6 hq => gone_ok (back S6) hN hi hln hq
  cases f <;> first
    | (obtain ⟨σ6, H6, S6, q6⟩ := hsp; exact gone S6 fun s7 J7 => ⟨_, _, J7, q6⟩)
    | (obtain ⟨v6, σ6, H6, S6, r6, q6⟩ := hsp; exact gone S6 fun s7 J7 => ⟨_, _, _, J7, r6, q6⟩)
end
end KW

/-! part KKeep2 -/
set_option maxHeartbeats 4000000
/-! A known exception read: its field, isinstance; a local that holds a def which may raise. -/
namespace KW
open PySem PySem.Spec PyProof.Rows L2 KM SX
/-- what the written part says of an exception class -/
structure KxC (K : PySem.W.Frag) (C : Addr) : Prop where
  ga : PySem.W.findIn K (.ref C) "__getattribute__" = some (some (.builtin "BaseException.__getattribute__"))
  gg : PySem.W.findIn K (.ref C) "__getattr__" = some none
  exC : PySem.W.subIn K (.ref C) (.type "BaseException") = some true
  hdC : PySem.W.hasDictIn K C = true
  ha : PySem.W.findIn K (.ref C) "__class__" = some (some (.builtin "object.__class__"))
  hn : PySem.W.specialIn K (.builtin "object.__class__") "__get__" = some (some (.builtin "getset_descriptor.__get__"))
  ht : PySem.W.takesIn K (.builtin "object.__class__") = some true
  hm : PySem.W.mroIn K C (.type "object") = some true
  cl : (PySem.W.clsIn K C).isSome = true
section
variable {X : Cx} {C : Addr}
theorem kx_inst {pins : List (Addr × Obj)} {σ : L2.St} {H : Hp} {s : Shared} {a d : Addr} {fs : List (Str × V)} (I : Inv X pins σ H s) (ea : H a = some (exk a C d)) (ed : H d = some (.xd fs)) :
    ∃ (oe od : Obj) (mA : Str → Option Value), PySem.W.InstAt s.heap a oe C (some od) ∧ (∀ n, PySem.W.lookIn n od = some (mA n)) ∧ ∀ f, RelO (fs.lookup f) (mA f) := by
  have hx : ObjOk X.prog X.w H s.heap d (.xd fs) := I.hok d _ ed
  obtain ⟨mA, hns, hr⟩ := hx
  obtain ⟨od, ho, hl⟩ := lookIn_ns hns
  have hk : ObjOk X.prog X.w H s.heap a (exk a C d) := I.hok a _ ea
  obtain ⟨⟨oe, vs, e1, e2, e3, e4⟩, _, _⟩ := hk
  exact ⟨oe, od, mA, ⟨e1, e2, by unfold PySem.W.notCls; rw [e4] <;> rfl, by rw [e3]; exact ho⟩, hl, hr⟩
def tXk (C : Addr) (f : Str) (te : TE) : TE := fun σ H Q => te σ H fun x H1 => ∃ (a d : Addr) (fs : List (Str × V)) (v : V), x = .ref a ∧ H1 a = some (exk a C d) ∧ H1 d = some (.xd fs) ∧ fs.lookup f = some v ∧ Q v H1
theorem pe_xk {e : Expr} {te : TE} {pos : Pos} {n : Str} (T : KxC X.K C) (hno : PySem.W.findIn X.K (.ref C) n = some none) (he : PE X e te) (hb : attributeBase e n X.env (eval e X.env) = eval e X.env := by rfl) : PE X (.Attribute e n pos) (tXk C n te) := by
  refine ⟨fun pins s σ H Q I h => ?_⟩
  refine attr_of hb (thn (he.run pins s σ H _ I h) fun u s1 ⟨x, H1, I1, rx, a, d, fs, v, ex, ea, ed, l, q⟩ => ?_)
  subst ex
  obtain rfl : u = Value.ref a := rx
  obtain ⟨oe, od, mA, J, hl, hr⟩ := kx_inst I1 ea ed
  obtain ⟨u, hu, ru⟩ := RelO.some_of (v := v) (o := mA n) (by rw [← l]; exact hr n)
  exact HandSPX.exc_get I1.kIn J T.ga T.gg T.exC (PySem.W.findObj_own T.hdC hno rfl (by rw [hl, hu])) (handed_of ru) ⟨v, H1, I1.tok _, ru, q⟩
def rIsX (K : PySem.W.Frag) (C : Addr) : List V → Hp → VK → Prop := fun xs H Q => ∃ (a d : Addr) (fs : List (Str × V)) (c : V) (u : Value) (b : Bool), xs = [.ref a, c] ∧ ClsV c u ∧ H a = some (exk a C d) ∧ H d = some (.xd fs) ∧ PySem.W.kitOne K (.ref C) u = some b ∧ Q (.bl b) H
theorem call_isX (T : KxC X.K C) : CallR X (.builtin "isinstance") (rIsX X.K C) := by
  intro pins s σ H xs us Q I r h
  obtain ⟨a, d, fs, c, u, b, rfl, k, ea, ed, e, q⟩ := h
  obtain ⟨u1, u2, rfl, r1, r2⟩ := vals2 r
  have e2 := k.eq r2
  subst e2
  cases (show u1 = Value.ref a from r1)
  obtain ⟨oe, od, mA, J, _, _⟩ := kx_inst I ea ed
  exact PySem.W.kia_one (PySem.W.kitx_exc T.cl T.ga T.gg T.exC T.ha T.hn T.ht T.hm) I.kIn J e (fun z => nomatch z) fun tk => ⟨.bl b, H, I.tok tk, rfl, q⟩
def rIsXT (K : PySem.W.Frag) (C : Addr) : List V → Hp → VK → Prop := fun xs H Q => ∃ (a d tp : Addr) (fs : List (Str × V)) (cs : List V) (us : List Value) (b : Bool), xs = [.ref a, .ref tp] ∧ H tp = some (.tup cs) ∧ Paired ClsV cs us ∧ H a = some (exk a C d) ∧ H d = some (.xd fs) ∧
  PySem.W.kitAny K (.ref C) us = some b ∧ Q (.bl b) H
theorem call_isXT (T : KxC X.K C) : CallR X (.builtin "isinstance") (rIsXT X.K C) := by
  intro pins s σ H xs us Q I r h
  obtain ⟨a, d, tp, fs, cs, ws, b, rfl, hT, k, ea, ed, e, q⟩ := h
  obtain ⟨u1, u2, rfl, r1, r2⟩ := vals2 r
  cases (show u1 = Value.ref a from r1)
  cases (show u2 = Value.ref tp from r2)
  obtain ⟨oe, od, mA, J, _, _⟩ := kx_inst I ea ed
  obtain ⟨_, its, rv, o, h1, h2, n, h3⟩ := (show ObjOk X.prog X.w H s.heap tp (.tup cs) from I.hok tp _ hT)
  have e3 := ClsV.all k rv
  subst e3
  obtain ⟨oc, od2, dt, sl⟩ := o
  simp only at h2 h3
  subst h2 h3
  exact PySem.W.kia_tup (PySem.W.kitx_exc T.cl T.ga T.gg T.exC T.ha T.hn T.ht T.hm) I.kIn J h1 e (fun z => nomatch z) fun tk => ⟨.bl b, H, I.tok tk, rfl, q⟩
end
/-! ### a local that holds a def, what it lets out told by the slots -/
def tCallLS (i : Nat) (f : Addr) (sp : Sp) (E : L2.St → XK) (t : TA) : TE := fun σ H Q => σ[i]? = some (some (.ref f)) ∧ t σ H fun vs H1 => sp vs H1 Q (E σ)
theorem pfL {X : Cx} {k i : Nat} {f : Addr} {ps : List Str} {sp : Sp} {E : L2.St → XK} {x : Str} {p pos : Pos} {e : Expr} {es : List Expr} {t : TA} (G : Good X.prog X.w X.K X.mg X.base k f ps sp) (hr : Room k X.A) (hx : ∀ σ, PassesAt (L2.CX X.prog X.w) X σ (E σ)) (ha : PA X (e :: es) t)
    (hN : X.N[i]? = some x := by rfl) (hv : Vis X.env.scope x := by exact Or.inl rfl) (hdb : (x == ("__debug__" : Str)) = false := by decide) (hcd : (x == ("__classdict__" : Str)) = false := by decide)
    (he : starEach (e :: es) X.env = (false, eval e X.env) :: starEach es X.env := by rfl) (hpl : (backTo pos (starEach es X.env)).any (·.1) = false := by rfl) : PE X (.Call (.Name x p) (e :: es) [] pos) (tCallLS i f sp E t) := by
  obtain ⟨⟨fd, F, B⟩, kp⟩ := G
  refine ⟨fun pins s σ H Q I ⟨hs, ht⟩ => ?_⟩
  refine wpAny_Call_Name_kw (thn ((pe_var (pos := p) hN hv hdb hcd).run pins s σ H (fun v H1 => v = .ref f ∧ H1 = H) I ⟨.ref f, hs, rfl, rfl⟩) fun u s1 ⟨v, H1, I1, r1, q1⟩ => ?_)
  obtain ⟨rfl, rfl⟩ := q1
  cases r1
  refine PySem.W.callWith_K (h₀ := X.base) I.ok.mod.kin kp (thn (ha.run pos pins s1 σ _ _ I1 ht) fun us s2 ⟨vs, H2, I2, r, q⟩ => ⟨I2.kIn, ?_⟩) he hpl
  exact run_fnSD (dvs := []) F hr B .nil (hx σ) I2 r (by rw [List.append_nil]; exact q)
end KW

/-! part KLaw4 -/
set_option maxHeartbeats 4000000
namespace KW
open PySem PySem.Spec PyProof.Rows L2 KM SX
def isName (t : Tok) : Bool := match t.w with
  | .name _ => true
  | _ => false
theorem kd_name {t : Tok} : decide (V.str t.w.kind = V.str "name") = isName t := by
  unfold isName
  cases h : t.w <;> simp [Wd.kind] <;> decide +kernel
def namesAt (rows : List Tok) (i : Nat) : List Tok := (rows.drop i).takeWhile isName
/-- the parts of a row's tuple -/
theorem row_ix {K : PySem.W.Frag} {H : Hp} {v : V} {t : Tok} (h : Tp K H v (rowD t)) : ∃ p, v = .ref p ∧ SqT K H p [.str t.w.kind, .str (S t.src), .int t.pos] := by
  obtain ⟨p, xs, rfl, h1, h2⟩ := h.tup_inv
  obtain ⟨v1, r1, rfl, q1, h3⟩ := h2.cons_inv
  obtain ⟨v2, r2, rfl, q2, h4⟩ := h3.cons_inv
  obtain ⟨v3, r3, rfl, q3, h5⟩ := h4.cons_inv
  cases h5.nil_inv
  cases q1.str_inv
  cases q2.str_inv
  cases q3.int_inv
  exact ⟨p, rfl, h1⟩
theorem rows_get {K : PySem.W.Frag} {H : Hp} {rv : List V} {rows : List Tok} {i : Nat} {t : Tok} (h : TpAll K H rv (rows.map rowD)) (e : rows[i]? = some t) : ∃ p, rv[i]? = some (.ref p) ∧ SqT K H p [.str t.w.kind, .str (S t.src), .int t.pos] := by
  obtain ⟨v, h1, h2⟩ := h.get (i := i) (d := rowD t) (by rw [List.getElem?_map, e]; rfl)
  obtain ⟨p, rfl, h3⟩ := row_ix h2
  exact ⟨p, h1, h3⟩
section
variable {P : Program} {w : World} {K : PySem.W.Frag} {mg : Str → Option Value} {base : Heap}
/-! ### _law_names_from -/
def spNamesF (K : PySem.W.Frag) : Sp := fun vs H Q _ => ∃ (rp i : Nat) (rv : List V) (rows : List Tok), vs = [.ref rp, .int i] ∧ H rp = some (.lst rv) ∧ TpAll K H rv (rows.map rowD) ∧ rows.length ≤ 100000 ∧ (namesAt rows i).length < (rows.drop i).length ∧
  ∀ H' f fv, Same H H' → H f = none → H' f = some (.lst fv) → TpAll K H' fv ((namesAt rows i).map fun t => .str (S t.src)) → Q (.ref f) H'
theorem ok_l_names_from (T : Txt K mg w) : Good P w K mg base 1 (He.ga K "_law_names_from") ["_law_rows", "_law_at"] (spNamesF K) := by
  refine good_of T.f_l_names_from sc_l_names_from (fun _ _ _ _ _ _ us hl => match us, hl with | [_, _], _ => rfl) (fun vs H Q E h => by obtain ⟨_, _, _, _, rfl, _⟩ := h; rfl) (fun cdv A outer s H vs Q E hr h => ?_)
  obtain ⟨rp, i, rv, rows, rfl, hrp, hT, hz, hlt, k⟩ := h
  refine ⟨_, (pss_cons (ps_set (i := 2) sc_l_names_from.nd rfl (Or.inl rfl) (pe_lst pa_nil))
      (pss_cons (ps_while po (pt_cmpR op_eq (pe_ix ix_tup (pe_ix ix_list (pv 0) (pe_op op_add (pv 1) (pe_callB call_len_seq (by rfl) T.z_len (by decide +kernel) (pa_cons (pv 2) pa_nil))) (fun _ _ => rfl)) pe_int (fun _ _ => rfl)) pe_str (nomark _)) (pss_one (ps_expr (pe_bm PySem.F.plainAttrs_list PySem.F.slot_list_append PySem.F.type_list_append mt_append (pv 2) (pa_cons (pe_ix ix_tup (pe_ix ix_list (pv 0) (pe_op op_add (pv 1) (pe_callB call_len_seq (by rfl) T.z_len (by decide +kernel) (pa_cons (pv 2) pa_nil))) (fun _ _ => rfl)) pe_int (fun _ _ => rfl)) pa_nil)))))
      (pss_one (ps_ret (pv 2))))), ?_⟩
  refine ⟨Nat.zero_le _, fun f hf => ?_⟩
  have nrf : rp ≠ f := ne_of_none hrp hf
  refine ⟨fun n σ H' => ∃ (j : Nat) (fv : List V), σ = [some (.ref rp), some (.int (i : Nat)), some (.ref f)] ∧ n = (namesAt rows i).length - j ∧ j ≤ (namesAt rows i).length ∧ Same H H' ∧ H' f = some (.lst fv) ∧ TpAll K H' fv (((namesAt rows i).take j).map fun t => .str (S t.src)),
    ⟨_, 0, [], rfl, rfl, Nat.zero_le _, same_new hf, upd_same, .nil⟩, ?_⟩
  rintro n σ H1 ⟨j, fv, rfl, rfl, hj, s1, hf1, hfv⟩
  have hfl : fv.length = j := by rw [hfv.len, List.length_map, List.length_take]; omega
  have hij : i + j < rows.length := by rw [List.length_drop] at hlt; omega
  have hrow : rows[i + j]? = some rows[i + j] := List.getElem?_eq_getElem hij
  obtain ⟨p, hp, hsq⟩ := rows_get hT hrow
  have hat : (rows.drop i)[j]? = some rows[i + j] := by rw [List.getElem?_drop]; exact hrow
  refine ⟨_, rfl, _, rfl, _, rfl, f, _, rfl, .inl (SqL.of hf1), _, _, rfl, rfl, rp, rv, _, .ref p, rfl, rfl, SqL.of (s1 _ _ hrp), ?_, ?_⟩
  · rw [hfl, show ((i : Int) + (j : Nat)) = ((i + j : Nat) : Int) by omega]
    exact atI_nat hp
  refine ⟨p, _, _, _, rfl, rfl, s1.seqT hsq, atI_nat (j := 0) rfl, rfl, _, rfl, ?_⟩
  rw [kd_name]
  have tw : ∀ {l : List Tok} {m : Nat} {t : Tok}, m ≤ (l.takeWhile isName).length → l[m]? = some t → (isName t = true ↔ m < (l.takeWhile isName).length) := by
    intro l
    induction l with
    | nil => intro m t _ e; simp at e
    | cons a l ih =>
      intro m t hm e
      rw [List.takeWhile_cons] at hm ⊢
      cases ha : isName a with
      | false =>
        rw [ha] at hm
        have : m = 0 := by simpa using hm
        subst this
        simp at e
        subst e
        simp [ha]
      | true =>
        rw [ha] at hm
        simp only [if_true, List.length_cons] at hm ⊢
        cases m with
        | zero =>
          simp at e
          subst e
          simp [ha]
        | succ m =>
          have z := ih (m := m) (by omega) (by simpa using e)
          rw [z]
          omega
  have key := tw (l := rows.drop i) (m := j) hj hat
  cases hn : isName rows[i + j] with
  | true =>
    have hjl : j < (namesAt rows i).length := key.mp hn
    have hel : (namesAt rows i)[j]? = some rows[i + j] := by
      have : (namesAt rows i)[j]? = (rows.drop i)[j]? := by
        unfold namesAt
        have pre : (rows.drop i).takeWhile isName = (rows.drop i).take ((rows.drop i).takeWhile isName).length := by
          generalize rows.drop i = l
          induction l with
          | nil => rfl
          | cons a l ih =>
            rw [List.takeWhile_cons]
            split
            · rw [List.length_cons, List.take_succ_cons, ← ih]
            · rfl
        rw [pre, List.getElem?_take_of_lt (show j < ((rows.drop i).takeWhile isName).length from hjl)]
      rw [this, hat]
    refine iteT ⟨_, fun σ' H' h => h, ?_⟩
    refine ⟨_, rfl, .inl ⟨rfl, _, SqL.of hf1⟩, _, rfl, _, rfl, _, rfl, f, _, rfl, .inl (SqL.of hf1), _, _, rfl, rfl, rp, rv, _, .ref p, rfl, rfl, SqL.of (s1 _ _ hrp), ?_, ?_⟩
    · rw [hfl, show ((i : Int) + (j : Nat)) = ((i + j : Nat) : Int) by omega]
      exact atI_nat hp
    refine ⟨p, _, _, _, rfl, rfl, s1.seqT hsq, atI_nat (j := 1) rfl, f, fv, _, rfl, rfl, hf1, by rw [sizeLine_eq]; omega, ?_⟩
    refine ⟨_, by omega, j + 1, fv ++ [.str (S rows[i + j].src)], rfl, rfl, hjl, fun b o e => by rw [upd_ne (ne_of_none e hf)]; exact s1 _ _ e, upd_same, ?_⟩
    rw [← snoc_take hel, List.map_append]
    exact (hfv.mono (TM.lst hf1)).app (.one (.str _))
  | false =>
    have hjl : j = (namesAt rows i).length := by
      have : ¬ j < (namesAt rows i).length := fun z => by rw [key.mpr z] at hn; cases hn
      omega
    refine iteF ⟨_, rfl, ?_⟩
    rw [hjl, List.take_length] at hfv
    exact k H1 f fv s1 hf hf1 hfv
/-! ### _law_part -/
def partD (first : Nat) : PyData ⊕ Nat → PyData
  | .inl d => .tuple [d, .none]
  | .inr p => .tuple [.none, .int ((first + p : Nat) : Int)]
def spPartL (K : PySem.W.Frag) : Sp := fun vs H Q _ => ∃ (l : List Nat) (first behind : Nat) (many : Int) (f : Addr) (out : List Nat → Int → PyData ⊕ Nat), vs = [.str (S l), .int first, .int behind, .ref f, .int many] ∧ TextOk l ∧ (f = He.ga K "read_statement" ∧ out = stmtOut ∨ f = He.ga K "read_ground" ∧ out = groundOut) ∧
  ∀ H' v, Same H H' → Tp K H' v (partD first (out ((l.drop first).take (behind - first)) many)) → Q v H'
theorem ok_l_part (T : Txt K mg w) (TX : KxC K (CB K)) : Good P w K mg base 14 (He.ga K "_law_part") ["_law_text", "_law_first", "_law_behind", "_law_look", "_law_many"] (spPartL K) := by
  have G1 := ok_read_statement (P := P) (base := base) T
  have G2 := ok_read_ground (P := P) (base := base) T
  refine good_of T.f_l_part sc_l_part (fun _ _ _ _ _ _ us hl => match us, hl with | [_, _, _, _, _], _ => rfl) (fun vs H Q E h => by obtain ⟨_, _, _, _, _, _, rfl, _⟩ := h; rfl) (fun cdv A outer s H vs Q E hr h => ?_)
  obtain ⟨l, first, behind, many, f, out, rfl, ht, hf, k⟩ := h
  have hl := ht.len
  have hsl : ((l.drop first).take (behind - first)).length ≤ 5000 := by rw [List.length_take, List.length_drop]; omega
  rcases hf with ⟨rfl, rfl⟩ | ⟨rfl, rfl⟩
  · refine ⟨_, (pss_cons (ps_set (i := 5) sc_l_part.nd rfl (Or.inl rfl) pe_non)
      (pss_cons (ps_set (i := 6) sc_l_part.nd rfl (Or.inl rfl) pe_non)
      (pss_cons (ps_try_keep (c := .ref (CB K)) rfl rfl sc_l_part.nd (i := 7) rfl rfl ⟨by rfl, by decide, .inl T.g_BadText⟩ (fun W pn xe tk _ => pss_one (ps_set (i := 5) sc_l_part.nd rfl (Or.inl rfl) (pfL (i := 3) G1 (hr.mono (by decide)) (fun σ => passAt tk σ) (pa_cons (pe_slice sl_str (pv 0) (po_some (pv 1)) (po_some (pv 2))) (pa_cons (pv 4) pa_nil))))) (fun a pn => pss_one (ps_set (i := 6) sc_l_part.nd rfl (Or.inl rfl) (pv 7))))
      (pss_one (ps_ret (pe_ifExp (pt_cmpR op_isN (pv 6) pe_non (nomark _)) (pe_tup (pa_cons (pv 5) (pa_cons pe_non pa_nil))) (pe_tup (pa_cons pe_non (pa_cons (pe_op op_add (pv 1) (pe_xk TX (show PySem.W.findIn K (.ref (CB K)) "at" = some none from T.nB) (pv 6) rfl)) pa_nil))))))))), ?_⟩
    refine ⟨rfl, _, rfl, _, rfl, _, rfl, _, rfl, _, rfl, _, rfl, by rw [S_len, sizeLine_eq]; omega, _, rfl, (l.drop first).take (behind - first), many, (by rw [cut_S]), hsl, ?_⟩
    cases e : stmtOut ((l.drop first).take (behind - first)) many with
    | inl d =>
      rw [e] at k
      intro H1 v s1 tv
      refine ⟨_, rfl, rfl, _, rfl, iteT ⟨_, rfl, by show 2 ≤ sizeLine; decide, fun u hu => ?_⟩⟩
      exact k _ _ (s1.trans (same_new hu)) (tp_new hu (.two tv .non))
    | inr p =>
      rw [e] at k
      intro H1 d s1 hd
      refine ⟨T.xB, CB K, d, rfl, rfl, fun a ha => ?_⟩
      have s2 : Same H (upd H1 a (exk a (CB K) d)) := s1.trans (same_new ha)
      refine ⟨_, rfl, ?_⟩
      refine ⟨_, rfl, rfl, _, rfl, iteF ?_⟩
      refine ⟨_, rfl, _, rfl, a, d, _, _, rfl, upd_same, same_new ha _ _ hd, lk_hit, _, _, rfl, rfl, by show 2 ≤ sizeLine; decide, fun u hu => ?_⟩
      refine k _ _ (s2.trans (same_new hu)) (tp_new hu (.two .non ?_))
      show Tp K _ (.int ((first : Int) + (p : Nat))) (.int ((first + p : Nat) : Int))
      rw [show ((first : Int) + (p : Nat)) = ((first + p : Nat) : Int) by omega]
      exact .int _
  · refine ⟨_, (pss_cons (ps_set (i := 5) sc_l_part.nd rfl (Or.inl rfl) pe_non)
      (pss_cons (ps_set (i := 6) sc_l_part.nd rfl (Or.inl rfl) pe_non)
      (pss_cons (ps_try_keep (c := .ref (CB K)) rfl rfl sc_l_part.nd (i := 7) rfl rfl ⟨by rfl, by decide, .inl T.g_BadText⟩ (fun W pn xe tk _ => pss_one (ps_set (i := 5) sc_l_part.nd rfl (Or.inl rfl) (pfL (i := 3) G2 (hr.mono (by decide)) (fun σ => passAt tk σ) (pa_cons (pe_slice sl_str (pv 0) (po_some (pv 1)) (po_some (pv 2))) (pa_cons (pv 4) pa_nil))))) (fun a pn => pss_one (ps_set (i := 6) sc_l_part.nd rfl (Or.inl rfl) (pv 7))))
      (pss_one (ps_ret (pe_ifExp (pt_cmpR op_isN (pv 6) pe_non (nomark _)) (pe_tup (pa_cons (pv 5) (pa_cons pe_non pa_nil))) (pe_tup (pa_cons pe_non (pa_cons (pe_op op_add (pv 1) (pe_xk TX (show PySem.W.findIn K (.ref (CB K)) "at" = some none from T.nB) (pv 6) rfl)) pa_nil))))))))), ?_⟩
    refine ⟨rfl, _, rfl, _, rfl, _, rfl, _, rfl, _, rfl, _, rfl, by rw [S_len, sizeLine_eq]; omega, _, rfl, (l.drop first).take (behind - first), many, (by rw [cut_S]), hsl, ?_⟩
    cases e : groundOut ((l.drop first).take (behind - first)) many with
    | inl d =>
      rw [e] at k
      intro H1 v s1 tv
      refine ⟨_, rfl, rfl, _, rfl, iteT ⟨_, rfl, by show 2 ≤ sizeLine; decide, fun u hu => ?_⟩⟩
      exact k _ _ (s1.trans (same_new hu)) (tp_new hu (.two tv .non))
    | inr p =>
      rw [e] at k
      intro H1 d s1 hd
      refine ⟨T.xB, CB K, d, rfl, rfl, fun a ha => ?_⟩
      have s2 : Same H (upd H1 a (exk a (CB K) d)) := s1.trans (same_new ha)
      refine ⟨_, rfl, ?_⟩
      refine ⟨_, rfl, rfl, _, rfl, iteF ?_⟩
      refine ⟨_, rfl, _, rfl, a, d, _, _, rfl, upd_same, same_new ha _ _ hd, lk_hit, _, _, rfl, rfl, by show 2 ≤ sizeLine; decide, fun u hu => ?_⟩
      refine k _ _ (s2.trans (same_new hu)) (tp_new hu (.two .non ?_))
      show Tp K _ (.int ((first : Int) + (p : Nat))) (.int ((first + p : Nat) : Int))
      rw [show ((first : Int) + (p : Nat)) = ((first + p : Nat) : Int) by omega]
      exact .int _
end
end KW

/-! part KLaw5 -/
set_option maxHeartbeats 4000000
namespace KW
open PySem PySem.Spec PyProof.Rows L2 KM SX
theorem eqDK {X : Cx} (K : PySem.W.Frag) (hu : X.A.units + 64 < cLine) (h : X.K = K := by rfl) : OpR X (compareOp .Eq) (rEqD K) := h ▸ op_eqD hu
theorem slTK {X : Cx} (K : PySem.W.Frag) (h : X.K = K := by rfl) : SlR X (rSlT K) := h ▸ sl_tup
/-- told, or the place of the fault -/
def endD : PyData ⊕ Nat → PyData
  | .inl d => .tuple [.str "told", d]
  | .inr p => .tuple [.str "at", .int (p : Nat)]
def isBy (t : Tok) : Bool := decide (t.w.kind = "told" ∧ S t.src = "by")
def placesL (rows : List Tok) (i : Nat) : List Nat := ((rows.drop i).filter isBy).map Tok.pos
def firstL (rows : List Tok) (i : Nat) : Nat := match rows[i]? with
  | some t => t.pos
  | none => 0
def behindL (l : List Nat) (rows : List Tok) (i : Nat) (word : Str) : Nat := match placesL rows i with
  | p :: _ => if word = "shown" then p else l.length
  | [] => l.length
def toldL2 (l : List Nat) (rows : List Tok) (i : Nat) (word nm : Str) (sorts : List Str) : PyData ⊕ Nat :=
  match stmtOut ((l.drop (firstL rows i)).take (behindL l rows i word - firstL rows i)) (sorts.length : Nat) with
  | .inr p => .inr (firstL rows i + p)
  | .inl a => if word = "mean" then .inl (.tuple [.str word, .str nm, strsD sorts, a]) else if word = "taken" then .inl (.tuple [.str word, .str nm, a]) else
    if placesL rows i = [] then .inr l.length else match groundOut ((l.drop (behindL l rows i word + 2)).take (l.length - (behindL l rows i word + 2))) 0 with
    | .inl g => .inl (.tuple [.str word, .str nm, a, g])
    | .inr p => .inr (behindL l rows i word + 2 + p)
abbrev tBy (K : PySem.W.Frag) : TT := tTest (tOp (rEqD K) (tSl (rSlT K) (tVar 12) tNoPart (tPart (tC (.int 2)))) (tTup (tCons (tC (.str "told")) (tCons (tC (.str "by")) tNil))))
theorem ints_lay (m : List Nat) : PyData.canLayAll0 (m.map fun n => PyData.int (n : Nat)) = true ∧ PyData.depthAll (m.map fun n => PyData.int (n : Nat)) = 0 := by
  induction m with
  | nil => exact ⟨rfl, rfl⟩
  | cons a m ih => simp [PyData.canLayAll0, PyData.depthAll, PyData.canLay0, PyData.depth, ih.1, ih.2]
theorem ints_shaped (m : List Nat) : SeqAt.shaped (.list (m.map fun n => PyData.int (n : Nat))) = true := by
  have h := ints_lay m
  simp [SeqAt.shaped, PyData.canLay0, PyData.depth, h.1, h.2]
section
variable {P : Program} {w : World} {K : PySem.W.Frag} {mg : Str → Option Value} {base : Heap}
def spToldL (K : PySem.W.Frag) : Sp := fun vs H Q _ => ∃ (l : List Nat) (rp i sp : Nat) (rv sv : List V) (rows : List Tok) (word nm : Str) (sorts : List Str), vs = [.str (S l), .ref rp, .int i, .str word, .str nm, .ref sp] ∧ TextOk l ∧ H rp = some (.lst rv) ∧ TpAll K H rv (rows.map rowD) ∧ rows.length ≤ 10000 ∧ i < rows.length ∧
  (∀ t ∈ rows, PyData.strOk (S t.src) = true) ∧ H sp = some (.lst sv) ∧ TpAll K H sv (sorts.map .str) ∧ sorts.length ≤ 10000 ∧ ∀ H' v, Same H H' → Tp K H' v (endD (toldL2 l rows i word nm sorts)) → Q v H'
theorem ok_l_told (T : Txt K mg w) (TX : KxC K (CB K)) : Good P w K mg base 15 (He.ga K "_law_told") ["_law_text", "_law_rows", "_law_at", "_law_word", "_law_name_here", "_law_sorts"] (spToldL K) := by
  have GP := ok_l_part (P := P) (base := base) T TX
  refine good_of T.f_l_told sc_l_told (fun _ _ _ _ _ _ us hl => match us, hl with | [_, _, _, _, _, _], _ => rfl) (fun vs H Q E h => by obtain ⟨_, _, _, _, _, _, _, _, _, _, rfl, _⟩ := h; rfl) (fun cdv A outer s H vs Q E hr h => ?_)
  obtain ⟨l, rp, i, sp, rv, sv, rows, word, nm, sorts, rfl, ht, hrp, hT, hrz, hi, hsok, hsp, hsv, hsz, k⟩ := h
  have hl := ht.len
  obtain ⟨t3, h3, q3⟩ : ∃ tr, PSs (XB P w K mg base N_l_told "_law_told" s_l_told (He.ga K "_law_told") cdv A outer s H E) ((defBody s_l_told).drop 3) tr ∧ ∀ (H1 : Hp) (pp : Addr), Same H H1 → H1 pp = some (.lst ((placesL rows i).map fun n => V.int (n : Nat))) →
      tr { nx := fun _ H' => Q .non H', rt := Q } [some (.str (S l)), some (.ref rp), some (.int (i : Nat)), some (.str word), some (.str nm), some (.ref sp), some (.int (firstL rows i : Nat)), some (.ref pp), some (.int (behindL l rows i word : Nat)), none, none, none, none] H1 := by
    refine ⟨_, (pss_cons (ps_asg (pf GP (hr.mono (by decide)) T.g_l_part px (pa_cons (pv 0) (pa_cons (pv 6) (pa_cons (pv 8) (pa_cons (pg_r T.g_read_statement) (pa_cons (pe_callB call_len_seq (by rfl) T.z_len (by decide +kernel) (pa_cons (pv 5) pa_nil)) pa_nil)))))) (pg_tup rfl (pgs_cons (pg_name (i := 9) sc_l_told.nd rfl (Or.inl rfl)) (pgs_cons (pg_name (i := 10) sc_l_told.nd rfl (Or.inl rfl)) pgs_nil))))
      (pss_cons (ps_if (pt_cmpR op_notN (pv 10) pe_non (nomark _)) (pss_one (ps_ret (pe_tup (pa_cons pe_str (pa_cons (pv 10) pa_nil))))) pss_nil)
      (pss_cons (ps_if (pt_cmpR op_eq (pv 3) pe_str (nomark _)) (pss_one (ps_ret (pe_tup (pa_cons pe_str (pa_cons (pe_tup (pa_cons (pv 3) (pa_cons (pv 4) (pa_cons (pe_callTy call_tuple_of (by rfl) T.z_tuple (by decide +kernel) (pa_cons (pv 5) pa_nil)) (pa_cons (pv 9) pa_nil))))) pa_nil))))) pss_nil)
      (pss_cons (ps_if (pt_cmpR op_eq (pv 3) pe_str (nomark _)) (pss_one (ps_ret (pe_tup (pa_cons pe_str (pa_cons (pe_tup (pa_cons (pv 3) (pa_cons (pv 4) (pa_cons (pv 9) pa_nil)))) pa_nil))))) pss_nil)
      (pss_cons (ps_if (pt_cmpR (op_eqD hr.units) (pv 7) (pe_lst pa_nil) (nomark _)) (pss_one (ps_ret (pe_tup (pa_cons pe_str (pa_cons (pe_callB call_len_str (by rfl) T.z_len (by decide +kernel) (pa_cons (pv 0) pa_nil)) pa_nil))))) pss_nil)
      (pss_cons (ps_asg (pf GP (hr.mono (by decide)) T.g_l_part px (pa_cons (pv 0) (pa_cons (pe_op op_add (pv 8) pe_int) (pa_cons (pe_callB call_len_str (by rfl) T.z_len (by decide +kernel) (pa_cons (pv 0) pa_nil)) (pa_cons (pg_r T.g_read_ground) (pa_cons pe_int pa_nil)))))) (pg_tup rfl (pgs_cons (pg_name (i := 11) sc_l_told.nd rfl (Or.inl rfl)) (pgs_cons (pg_name (i := 10) sc_l_told.nd rfl (Or.inl rfl)) pgs_nil))))
      (pss_one (ps_ret (pe_ifExp (pt_cmpR op_isN (pv 10) pe_non (nomark _)) (pe_tup (pa_cons pe_str (pa_cons (pe_tup (pa_cons (pv 3) (pa_cons (pv 4) (pa_cons (pv 9) (pa_cons (pv 11) pa_nil))))) pa_nil))) (pe_tup (pa_cons pe_str (pa_cons (pv 10) pa_nil)))))))))))), fun H1 pp s1 hpp => ?_⟩
    have hsz2 : sv.length = sorts.length := by have := hsv.len; rw [List.length_map] at this; exact this
    refine ⟨_, rfl, _, rfl, _, rfl, _, rfl, sp, _, rfl, .inl (SqL.of (s1 _ _ hsp)), ?_⟩
    refine ⟨l, firstL rows i, behindL l rows i word, _, _, stmtOut, rfl, ht, .inl ⟨rfl, rfl⟩, fun H2 v s2 tv => ?_⟩
    have sA := s1.trans s2
    cases e : stmtOut ((l.drop (firstL rows i)).take (behindL l rows i word - firstL rows i)) (sv.length : Nat) with
    | inr p =>
      rw [e] at tv
      obtain ⟨a, xs, rfl, hq, h2⟩ := Tp.tup_inv tv
      obtain ⟨v1, r1, rfl, q1, h3⟩ := h2.cons_inv
      obtain ⟨v2, r2, rfl, q2, h4⟩ := h3.cons_inv
      cases h4.nil_inv
      cases q1
      cases q2.int_inv
      refine ⟨a, _, rfl, hq, rfl, _, _, rfl, _, _, rfl, rfl, ?_⟩
      refine ⟨_, rfl, rfl, _, rfl, iteT ⟨_, rfl, by show 2 ≤ sizeLine; decide, fun u hu => ?_⟩⟩
      refine k _ _ (sA.trans (same_new hu)) ?_
      have ek : toldL2 l rows i word nm sorts = .inr (firstL rows i + p) := by unfold toldL2; rw [← hsz2, e]
      rw [ek]
      exact tp_new hu (.two (.str _) (.int _))
    | inl d =>
      rw [e] at tv
      obtain ⟨a, xs, rfl, hq, h2⟩ := Tp.tup_inv tv
      obtain ⟨v1, r1, rfl, q1, h3⟩ := h2.cons_inv
      obtain ⟨v2, r2, rfl, q2, h4⟩ := h3.cons_inv
      cases h4.nil_inv
      cases q2
      refine ⟨a, _, rfl, hq, rfl, _, _, rfl, _, _, rfl, rfl, ?_⟩
      refine ⟨_, rfl, rfl, _, rfl, iteF ?_⟩
      refine ⟨_, rfl, rfl, _, rfl, ?_⟩
      rw [dec_str, Bool.beq_eq_decide_eq]
      have ek : toldL2 l rows i word nm sorts = (if word = "mean" then .inl (.tuple [.str word, .str nm, strsD sorts, d]) else if word = "taken" then .inl (.tuple [.str word, .str nm, d]) else
    if placesL rows i = [] then .inr l.length else match groundOut ((l.drop (behindL l rows i word + 2)).take (l.length - (behindL l rows i word + 2))) 0 with
    | .inl g => .inl (.tuple [.str word, .str nm, d, g])
    | .inr p => .inr (behindL l rows i word + 2 + p)) := by unfold toldL2; rw [← hsz2, e]
      refine iteD (fun cm => ?_) (fun cm => ?_)
      · refine ⟨_, rfl, _, rfl, _, rfl, sp, _, rfl, .inl ⟨SqL.of (sA _ _ hsp), fun u hu => ?_⟩⟩
        refine ⟨_, rfl, by show 4 ≤ sizeLine; decide, fun u2 hu2 => ?_⟩
        refine ⟨by show 2 ≤ sizeLine; decide, fun u3 hu3 => ?_⟩
        rw [ek, if_pos cm] at k
        refine k _ _ (((sA.trans (same_new hu)).trans (same_new hu2)).trans (same_new hu3)) (tp_new hu3 (.two (.str _) (tp_new hu2 (.four (.str _) (.str _) (tp_new hu (hsv.mono (TM.same sA))) ?_))))
        exact q1.mono (TM.same (same_new hu))
      refine ⟨_, rfl, rfl, _, rfl, ?_⟩
      rw [dec_str, Bool.beq_eq_decide_eq]
      rw [ek, if_neg cm] at k
      refine iteD (fun ct => ?_) (fun ct => ?_)
      · refine ⟨_, rfl, _, rfl, _, rfl, by show 3 ≤ sizeLine; decide, fun u2 hu2 => ?_⟩
        refine ⟨by show 2 ≤ sizeLine; decide, fun u3 hu3 => ?_⟩
        rw [if_pos ct] at k
        exact k _ _ ((sA.trans (same_new hu2)).trans (same_new hu3)) (tp_new hu3 (.two (.str _) (tp_new hu2 (.three (.str _) (.str _) q1))))
      rw [if_neg ct] at k
      refine ⟨_, rfl, Nat.zero_le _, fun q5 hq5 => ?_⟩
      have e5 := same_new (o := .lst []) hq5
      have hTp : TpAll K (upd H2 q5 (.lst [])) ((placesL rows i).map fun n => V.int (n : Nat)) ((placesL rows i).map fun n => PyData.int (n : Nat)) := by
        generalize placesL rows i = m
        induction m with
        | nil => exact .nil
        | cons a m ih => exact .cons (.int _) ih
      refine ⟨_, .list [], .lst (SqL.of (e5 _ _ (s2 _ _ hpp))) hTp.dp, .lst (SqL.of upd_same) .nil, ints_shaped _, rfl, _, rfl, ?_⟩
      rw [eqv_nil]
      have sB := sA.trans e5
      cases ep : placesL rows i with
      | nil =>
        rw [ep, if_pos rfl] at k
        refine iteT ⟨_, rfl, _, rfl, by rw [S_len, sizeLine_eq]; omega, ?_⟩
        refine ⟨by show 2 ≤ sizeLine; decide, fun u hu => ?_⟩
        rw [S_len]
        exact k _ _ (sB.trans (same_new hu)) (tp_new hu (.two (.str _) (.int _)))
      | cons a m =>
        rw [if_neg (by rw [ep]; simp)] at k
        refine iteF ?_
        refine ⟨_, rfl, _, rfl, _, _, rfl, rfl, _, rfl, _, rfl, by rw [S_len, sizeLine_eq]; omega, ?_⟩
        refine ⟨l, behindL l rows i word + 2, l.length, _, _, groundOut, by rw [S_len]; rfl, ht, .inr ⟨rfl, rfl⟩, fun H3 v3 s3 tv3 => ?_⟩
        have sC := sB.trans s3
        cases eg : groundOut ((l.drop (behindL l rows i word + 2)).take (l.length - (behindL l rows i word + 2))) 0 with
        | inr p =>
          rw [eg] at tv3 k
          obtain ⟨a', xs', rfl, hq', h2'⟩ := Tp.tup_inv tv3
          obtain ⟨v1', r1', rfl, q1', h3'⟩ := h2'.cons_inv
          obtain ⟨v2', r2', rfl, q2', h4'⟩ := h3'.cons_inv
          cases h4'.nil_inv
          cases q1'
          cases q2'.int_inv
          refine ⟨a', _, rfl, hq', rfl, _, _, rfl, _, _, rfl, rfl, ?_⟩
          refine ⟨_, rfl, rfl, _, rfl, iteF ⟨_, rfl, by show 2 ≤ sizeLine; decide, fun u hu => ?_⟩⟩
          exact k _ _ (sC.trans (same_new hu)) (tp_new hu (.two (.str _) (.int _)))
        | inl g =>
          rw [eg] at tv3 k
          obtain ⟨a', xs', rfl, hq', h2'⟩ := Tp.tup_inv tv3
          obtain ⟨v1', r1', rfl, q1', h3'⟩ := h2'.cons_inv
          obtain ⟨v2', r2', rfl, q2', h4'⟩ := h3'.cons_inv
          cases h4'.nil_inv
          cases q2'
          refine ⟨a', _, rfl, hq', rfl, _, _, rfl, _, _, rfl, rfl, ?_⟩
          refine ⟨_, rfl, rfl, _, rfl, iteT ⟨_, rfl, _, rfl, _, rfl, _, rfl, by show 4 ≤ sizeLine; decide, fun u hu => ?_⟩⟩
          refine ⟨by show 2 ≤ sizeLine; decide, fun u2 hu2 => ?_⟩
          exact k _ _ ((sC.trans (same_new hu)).trans (same_new hu2)) (tp_new hu2 (.two (.str _) (tp_new hu (.four (.str _) (.str _) (q1.mono (TM.same (e5.trans s3))) q1'))))
  refine ⟨_, pss_cons (ps_set (i := 6) sc_l_told.nd rfl (Or.inl rfl) (pe_ix ix_tup (pe_ix ix_list (pv 1) (pv 2) (fun _ _ => rfl)) pe_int (fun _ _ => rfl))) (pss_cons (ps_setLc (i := 7) (own := [("_law_row", 12)]) (g := gName 12) (tt := tBy K) rfl sc_l_told.nd rfl rfl (sw_true rfl rfl rfl rfl) (pi_list (pe_slice sl_list (pv 1) (po_some (pv 2)) po_none)) (blkOk_by (own := [("_law_row", 12)]) (N := N_l_told) (sc := defScope s_l_told) (by decide +kernel)) (fun _ _ _ _ _ => pg_name (i := 12) sc_l_told.nd rfl (Or.inl rfl)) (fun _ _ _ _ _ => pts_one (pt_cmpR (eqDK K hr.units) (pe_slice (slTK K) (pv 12) po_none (po_some pe_int)) (pe_tup (pa_cons pe_str (pa_cons pe_str pa_nil))) (nomark _))) (fun _ _ _ _ _ => pe_ix (ixT K) (pv 12) pe_int (fun _ _ => rfl))) (pss_cons (ps_set (i := 8) sc_l_told.nd rfl (Or.inl rfl) (pe_ifExp (PW.pt (pw_and (pt_cmpR op_eq (pv 3) pe_str (nomark _)) (pw_and1 (pt_cmpR (op_neM hr.units) (pv 7) (pe_lst pa_nil) (nomark _))))) (pe_ix ix_list (pv 7) pe_int (fun _ _ => rfl)) (pe_callB call_len_str (by rfl) T.z_len (by decide +kernel) (pa_cons (pv 0) pa_nil)))) h3)), ?_⟩
  obtain ⟨p0, hp0, hsq0⟩ := rows_get hT (List.getElem?_eq_getElem hi)
  have ef : firstL rows i = rows[i].pos := by unfold firstL; rw [List.getElem?_eq_getElem hi]
  refine ⟨_, rfl, _, rfl, rp, rv, _, .ref p0, rfl, rfl, SqL.of hrp, atI_nat hp0, p0, _, _, _, rfl, rfl, hsq0, atI_nat (j := 2) rfl, ?_⟩
  refine ⟨_, rfl, _, rfl, _, rfl, rp, rv, rfl, SqL.of hrp, fun q hq => ?_⟩
  have hrv : rv.length = rows.length := by have := hT.len; rw [List.length_map] at this; exact this
  rw [cutV_drop (by omega)]
  have s1 := same_new (o := .lst (rv.drop i)) hq
  have hTd : TpAll K (upd H q (.lst (rv.drop i))) (rv.drop i) ((rows.drop i).map rowD) := by
    have := (hT.mono (TM.same s1)).drop i
    rw [← List.map_drop] at this
    exact this
  refine ⟨q, rfl, ⟨_, SqL.of upd_same⟩, fun D hD => lc_it (walk_list (xs := rv.drop i)) (fun j H' => Same (upd H q (.lst (rv.drop i))) H' ∧ H' D = some (.lst ((((rows.drop i).take j).filter isBy).map fun t => V.int (t.pos : Nat)))) ⟨same_new hD, upd_same⟩ (fun j H' _ h => h.1.seq (SqL.of upd_same)) (fun j x H2 H3 hj h hy => ?_) (fun H2 h => ?_)⟩
  · obtain ⟨s2, hD2⟩ := h
    obtain ⟨rfl, hx⟩ := hy
    have hlt : j < (rows.drop i).length := by
      have := hTd.len
      rw [List.length_map] at this
      omega
    obtain ⟨tj, etj⟩ : ∃ t, (rows.drop i)[j]? = some t := ⟨_, List.getElem?_eq_getElem hlt⟩
    obtain ⟨p, hp, hsq⟩ := rows_get hTd etj
    rw [hx] at hp
    cases hp
    have et : (rows.drop i).take (j + 1) = (rows.drop i).take j ++ [tj] := (snoc_take etj).symm
    have hsr : PyData.strOk (S tj.src) = true := hsok _ (List.mem_of_mem_drop (List.mem_of_getElem? etj))
    refine ⟨rfl, _, rfl, _, rfl, p, _, rfl, s2.seqT hsq, not_whole2 rfl, fun q1 hq1 => ?_⟩
    refine ⟨by show 2 ≤ sizeLine; decide, fun q2 hq2 => ?_⟩
    have e1 := same_new (o := .tup (cutV [V.str tj.w.kind, .str (S tj.src), .int (tj.pos : Nat)] none (some 2))) hq1
    have e2 := same_new (o := .tup [.str "told", .str "by"]) hq2
    refine ⟨.tuple [.str tj.w.kind, .str (S tj.src)], .tuple [.str "told", .str "by"], ((tp_new hq1 (.two (.str _) (.str _))).mono (TM.same e2)).dp, (tp_new hq2 (.two (.str _) (.str _))).dp, two_shaped strOk_kind (by simpa only [PyData.canLay0] using hsr) rfl, by decide +kernel, _, rfl, ?_⟩
    have ev : PyData.eqv (.tuple [.str tj.w.kind, .str (S tj.src)]) (.tuple [.str "told", .str "by"]) = isBy tj := by
      rw [Bool.eq_iff_iff]
      simp [PyData.eqv, PyData.eqvAll, isBy]
    rw [ev]
    have s3 := s2.trans (e1.trans e2)
    have hD3 := (e1.trans e2) _ _ hD2
    cases hb : isBy tj with
    | false =>
      refine iteF ⟨s3, ?_⟩
      rw [et, List.filter_append, hD3]
      simp [hb]
    | true =>
      refine iteT ⟨_, rfl, p, _, _, _, rfl, rfl, s3.seqT hsq, atI_nat (j := 2) rfl, _, hD3, ?_, fun b o z => ?_, ?_⟩
      · have h3 := List.length_filter_le isBy ((rows.drop i).take j)
        have h4 : ((rows.drop i).take j).length ≤ rows.length := by rw [List.length_take, List.length_drop]; omega
        rw [sizeLine_eq, List.length_map]; omega
      · rw [upd_ne (ne_of_none z hD)]; exact s3 _ _ z
      · rw [upd_same, et, List.filter_append]
        simp [hb]
  obtain ⟨s2, hD2⟩ := h
  have hrl : (rv.drop i).length = (rows.drop i).length := by have := hTd.len; rw [List.length_map] at this; exact this
  rw [hrl, List.take_length] at hD2
  have hpl : H2 D = some (.lst ((placesL rows i).map fun n => V.int (n : Nat))) := by
    rw [hD2]
    unfold placesL
    rw [List.map_map] <;> rfl
  have sH := s1.trans s2
  rw [← ef]
  refine ⟨_, rfl, rfl, _, rfl, ?_⟩
  rw [dec_str, Bool.beq_eq_decide_eq]
  have lenCase : behindL l rows i word = l.length → ∀ H3, Same H H3 → H3 D = some (.lst ((placesL rows i).map fun n => V.int (n : Nat))) → t3 { nx := fun _ H' => Q .non H', rt := Q } [some (.str (S l)), some (.ref rp), some (.int (i : Nat)), some (.str word), some (.str nm), some (.ref sp), some (.int (firstL rows i : Nat)), some (.ref D), some (.int (l.length : Nat)), none, none, none, none] H3 := by
    intro e H3 s3 h3
    have := q3 H3 D s3 h3
    rw [e] at this
    exact this
  refine iteD (fun cw => ?_) (fun cw => iteF ?_)
  · refine ⟨_, rfl, Nat.zero_le _, fun q5 hq5 => ?_⟩
    have e5 := same_new (o := .lst []) hq5
    have hTp : TpAll K (upd H2 q5 (.lst [])) ((placesL rows i).map fun n => V.int (n : Nat)) ((placesL rows i).map fun n => PyData.int (n : Nat)) := by
      generalize placesL rows i = m
      induction m with
      | nil => exact .nil
      | cons a m ih => exact .cons (.int _) ih
    refine ⟨_, .list [], .lst (SqL.of (e5 _ _ hpl)) hTp.dp, .lst (SqL.of upd_same) .nil, lay_all (fun d hd => by obtain ⟨n, _, rfl⟩ := List.mem_map.mp hd; rfl), rfl, by show min _ 1 ≤ 60; omega, ?_⟩
    rw [eqv_nil]
    cases ep : placesL rows i with
    | nil =>
      refine ⟨_, rfl, iteF ⟨_, rfl, _, rfl, by rw [S_len, sizeLine_eq]; omega, ?_⟩⟩
      rw [S_len]
      exact lenCase (by unfold behindL; rw [ep]) _ (sH.trans e5) (e5 _ _ hpl)
    | cons a m =>
      rw [ep] at hpl
      refine ⟨_, rfl, iteT ⟨_, rfl, D, _, _, _, rfl, rfl, SqL.of (e5 _ _ hpl), atI_nat (j := 0) rfl, ?_⟩⟩
      have := q3 _ D (sH.trans e5) (by rw [ep]; exact e5 _ _ hpl)
      have eb : behindL l rows i word = a := by unfold behindL; rw [ep]; exact if_pos cw
      rw [eb] at this
      exact this
  · refine ⟨_, rfl, _, rfl, by rw [S_len, sizeLine_eq]; omega, ?_⟩
    rw [S_len]
    refine lenCase ?_ H2 sH hpl
    unfold behindL
    cases placesL rows i with
    | nil => rfl
    | cons a m => exact if_neg cw
end
end KW

/-! part KLaw6 -/
set_option maxHeartbeats 4000000
namespace KW
open PySem PySem.Spec PyProof.Rows L2 KM SX
def rw_ (rows : List Tok) (i : Nat) : Tok := (rows[i]?).getD ⟨.fin, [], 0⟩
def listedT (l : List Nat) (rows : List Tok) (word nm : Str) (i : Nat) (sorts : List Str) : PyData ⊕ Nat :=
  if word = "func" then
    if sorts.length = 1 ∧ (rw_ rows i).w.kind = "end" then .inl (.tuple [.str word, .str nm, .tuple [], .str (sorts.headD "")])
    else if S (rw_ rows i).src ≠ "->" then .inr (rw_ rows i).pos
    else if (rw_ rows (i + 1)).w.kind ≠ "name" then .inr (rw_ rows (i + 1)).pos
    else if (rw_ rows (i + 2)).w.kind ≠ "end" then .inr (rw_ rows (i + 2)).pos
    else .inl (.tuple [.str word, .str nm, strsD sorts, .str (S (rw_ rows (i + 1)).src)])
  else if word = "mean" then
    if isBy (rw_ rows i) = false then .inr (rw_ rows i).pos else toldL2 l rows (i + 1) word nm sorts
  else if (rw_ rows i).w.kind = "end" then .inl (.tuple [.str word, .str nm, strsD sorts]) else .inr (rw_ rows i).pos
def listedL (l : List Nat) (rows : List Tok) (word nm : Str) : PyData ⊕ Nat :=
  if S (rw_ rows 2).src = ":" then
    if namesAt rows 3 = [] then .inr (rw_ rows 3).pos else listedT l rows word nm (3 + (namesAt rows 3).length) ((namesAt rows 3).map fun t => S t.src)
  else if word = "func" then .inr (rw_ rows 2).pos else listedT l rows word nm 2 []
def ends3 (len : Nat) : List Tok := List.replicate 3 ⟨.fin, [], len⟩
theorem iteAnd {c1 c2 A B R : Prop} [Decidable c1] [Decidable c2] (hr : c1 → (if decide c2 = true then A else B) → R) (h1 : c1 → c2 → A) (h2 : ¬ (c1 ∧ c2) → B) : if decide c1 = true then R else (if false = true then A else B) :=
  iteD (fun c => hr c (iteD (fun d => h1 c d) (fun d => h2 fun z => d z.2))) (fun c => iteF (h2 fun z => c z.1))
theorem strs_shaped (m : List Tok) (h : ∀ t ∈ m, PyData.strOk (S t.src) = true) : SeqAt.shaped (.list (m.map fun t => .str (S t.src))) = true := by
  have : PyData.canLayAll0 (m.map fun t => .str (S t.src)) = true ∧ PyData.depthAll (m.map fun t => .str (S t.src)) = 0 := by
    induction m with
    | nil => exact ⟨rfl, rfl⟩
    | cons a m ih =>
      have ih := ih fun t ht => h t (List.mem_cons_of_mem _ ht)
      have ha := h a List.mem_cons_self
      simp [PyData.canLayAll0, PyData.depthAll, PyData.canLay0, PyData.depth, ih.1, ih.2, ha]
  simp [SeqAt.shaped, PyData.canLay0, PyData.depth, this.1, this.2]
section
variable {P : Program} {w : World} {K : PySem.W.Frag} {mg : Str → Option Value} {base : Heap}
def spListedL (K : PySem.W.Frag) : Sp := fun vs H Q _ => ∃ (l : List Nat) (rp : Nat) (rv : List V) (ts rows : List Tok) (word nm : Str), vs = [.str (S l), .ref rp, .str word, .str nm] ∧ TextOk l ∧ H rp = some (.lst rv) ∧ TpAll K H rv (rows.map rowD) ∧ rows = ts ++ ends3 l.length ∧ rows.length ≤ 10000 ∧ 2 ≤ ts.length ∧
  (∀ t ∈ rows, PyData.strOk (S t.src) = true) ∧ ∀ H' v, Same H H' → Tp K H' v (endD (listedL l rows word nm)) → Q v H'
theorem names_lt (ts : List Tok) (len i : Nat) (h : i ≤ ts.length) : i + (namesAt (ts ++ ends3 len) i).length ≤ ts.length := by
  unfold namesAt
  rw [List.drop_append_of_le_length h]
  have : ∀ m : List Tok, ((m ++ ends3 len).takeWhile isName).length ≤ m.length := by
    intro m
    induction m with
    | nil => simp [ends3, List.replicate, isName]
    | cons a m ih =>
      rw [List.cons_append, List.takeWhile_cons]
      cases isName a with
      | true => simp; exact ih
      | false => simp
  have := this (ts.drop i)
  rw [List.length_drop] at this
  omega
theorem ok_l_listed (T : Txt K mg w) (TX : KxC K (CB K)) : Good P w K mg base 16 (He.ga K "_law_listed") ["_law_text", "_law_rows", "_law_word", "_law_name_here"] (spListedL K) := by
  have GF := ok_l_names_from (P := P) (base := base) T
  have GT := ok_l_told (P := P) (base := base) T TX
  refine good_of T.f_l_listed sc_l_listed (fun _ _ _ _ _ _ us hl => match us, hl with | [_, _, _, _], _ => rfl) (fun vs H Q E h => by obtain ⟨_, _, _, _, _, _, _, rfl, _⟩ := h; rfl) (fun cdv A outer s H vs Q E hr h => ?_)
  obtain ⟨l, rp, rv, ts, rows, word, nm, rfl, ht, hrp, hT, hrows, hrz, hm, hsok, k⟩ := h
  have hl := ht.len
  have hlen : rows.length = ts.length + 3 := by rw [hrows]; simp [ends3]
  have getR : ∀ i, i < rows.length → ∃ p, rv[i]? = some (.ref p) ∧ SqT K H p [.str (rw_ rows i).w.kind, .str (S (rw_ rows i).src), .int (rw_ rows i).pos] := by
    intro i hi
    have e : rows[i]? = some (rw_ rows i) := by unfold rw_; rw [List.getElem?_eq_getElem hi]; rfl
    exact rows_get hT e
  have row : ∀ (i : Nat), i < rows.length → ∀ {H1 : Hp}, Same H H1 → ∃ p, SqL K H1 rp rv ∧ atI rv (i : Nat) = some (.ref p) ∧ SqT K H1 p [.str (rw_ rows i).w.kind, .str (S (rw_ rows i).src), .int (rw_ rows i).pos] := by
    intro i hi H1 s1
    obtain ⟨p, hp, hsq⟩ := getR i hi
    exact ⟨p, SqL.of (s1 _ _ hrp), atI_nat hp, s1.seqT hsq⟩
  obtain ⟨t3, h3, q3⟩ : ∃ tr, PSs (XB P w K mg base N_l_listed "_law_listed" s_l_listed (He.ga K "_law_listed") cdv A outer s H E) ((defBody s_l_listed).drop 3) tr ∧ ∀ (H1 : Hp) (sp i : Nat) (sv : List V) (sorts : List Str), Same H H1 → H1 sp = some (.lst sv) → TpAll K H1 sv (sorts.map .str) → i ≤ ts.length → sorts.length ≤ 10000 → (∀ H' v, Same H H' → Tp K H' v (endD (listedT l rows word nm i sorts)) → Q v H') →
      tr { nx := fun _ H' => Q .non H', rt := Q } [some (.str (S l)), some (.ref rp), some (.str word), some (.str nm), some (.int (i : Nat)), some (.ref sp)] H1 := by
    refine ⟨_, (pss_cons (ps_if (pt_cmpR op_eq (pv 2) pe_str (nomark _)) (pss_cons (ps_if (PW.pt (pw_and (pt_cmpR op_eq (pe_callB call_len_seq (by rfl) T.z_len (by decide +kernel) (pa_cons (pv 5) pa_nil)) pe_int (nomark _)) (pw_and1 (pt_cmpR op_eq (pe_ix ix_tup (pe_ix ix_list (pv 1) (pv 4) (fun _ _ => rfl)) pe_int (fun _ _ => rfl)) pe_str (nomark _))))) (pss_one (ps_ret (pe_tup (pa_cons pe_str (pa_cons (pe_tup (pa_cons (pv 2) (pa_cons (pv 3) (pa_cons (pe_tup pa_nil) (pa_cons (pe_ix ix_list (pv 5) pe_int (fun _ _ => rfl)) pa_nil))))) pa_nil))))) pss_nil)
      (pss_cons (ps_if (pt_cmpR op_ne (pe_ix ix_tup (pe_ix ix_list (pv 1) (pv 4) (fun _ _ => rfl)) pe_int (fun _ _ => rfl)) pe_str (nomark _)) (pss_one (ps_ret (pe_tup (pa_cons pe_str (pa_cons (pe_ix ix_tup (pe_ix ix_list (pv 1) (pv 4) (fun _ _ => rfl)) pe_int (fun _ _ => rfl)) pa_nil))))) pss_nil)
      (pss_cons (ps_if (pt_cmpR op_ne (pe_ix ix_tup (pe_ix ix_list (pv 1) (pe_op op_add (pv 4) pe_int) (fun _ _ => rfl)) pe_int (fun _ _ => rfl)) pe_str (nomark _)) (pss_one (ps_ret (pe_tup (pa_cons pe_str (pa_cons (pe_ix ix_tup (pe_ix ix_list (pv 1) (pe_op op_add (pv 4) pe_int) (fun _ _ => rfl)) pe_int (fun _ _ => rfl)) pa_nil))))) pss_nil)
      (pss_cons (ps_if (pt_cmpR op_ne (pe_ix ix_tup (pe_ix ix_list (pv 1) (pe_op op_add (pv 4) pe_int) (fun _ _ => rfl)) pe_int (fun _ _ => rfl)) pe_str (nomark _)) (pss_one (ps_ret (pe_tup (pa_cons pe_str (pa_cons (pe_ix ix_tup (pe_ix ix_list (pv 1) (pe_op op_add (pv 4) pe_int) (fun _ _ => rfl)) pe_int (fun _ _ => rfl)) pa_nil))))) pss_nil)
      (pss_one (ps_ret (pe_tup (pa_cons pe_str (pa_cons (pe_tup (pa_cons (pv 2) (pa_cons (pv 3) (pa_cons (pe_callTy call_tuple_of (by rfl) T.z_tuple (by decide +kernel) (pa_cons (pv 5) pa_nil)) (pa_cons (pe_ix ix_tup (pe_ix ix_list (pv 1) (pe_op op_add (pv 4) pe_int) (fun _ _ => rfl)) pe_int (fun _ _ => rfl)) pa_nil))))) pa_nil))))))))) pss_nil)
      (pss_cons (ps_if (pt_cmpR op_eq (pv 2) pe_str (nomark _)) (pss_cons (ps_if (pt_cmpR (op_neD hr.units) (pe_slice sl_tup (pe_ix ix_list (pv 1) (pv 4) (fun _ _ => rfl)) po_none (po_some pe_int)) (pe_tup (pa_cons pe_str (pa_cons pe_str pa_nil))) (nomark _)) (pss_one (ps_ret (pe_tup (pa_cons pe_str (pa_cons (pe_ix ix_tup (pe_ix ix_list (pv 1) (pv 4) (fun _ _ => rfl)) pe_int (fun _ _ => rfl)) pa_nil))))) pss_nil)
      (pss_one (ps_ret (pf GT (hr.mono (by decide)) T.g_l_told px (pa_cons (pv 0) (pa_cons (pv 1) (pa_cons (pe_op op_add (pv 4) pe_int) (pa_cons (pv 2) (pa_cons (pv 3) (pa_cons (pv 5) pa_nil)))))))))) pss_nil)
      (pss_one (ps_ret (pe_ifExp (pt_cmpR op_eq (pe_ix ix_tup (pe_ix ix_list (pv 1) (pv 4) (fun _ _ => rfl)) pe_int (fun _ _ => rfl)) pe_str (nomark _)) (pe_tup (pa_cons pe_str (pa_cons (pe_tup (pa_cons (pv 2) (pa_cons (pv 3) (pa_cons (pe_callTy call_tuple_of (by rfl) T.z_tuple (by decide +kernel) (pa_cons (pv 5) pa_nil)) pa_nil)))) pa_nil))) (pe_tup (pa_cons pe_str (pa_cons (pe_ix ix_tup (pe_ix ix_list (pv 1) (pv 4) (fun _ _ => rfl)) pe_int (fun _ _ => rfl)) pa_nil)))))))), fun H1 sp i sv sorts s1 hsp hsv hi hsz k => ?_⟩
    have hsz2 : sv.length = sorts.length := by have := hsv.len; rw [List.length_map] at this; exact this
    obtain ⟨p0, l0, a0, q0⟩ := row i (by omega) s1
    obtain ⟨p1, l1, a1, q1⟩ := row (i + 1) (by omega) s1
    obtain ⟨p2, l2, a2, q2⟩ := row (i + 2) (by omega) s1
    refine ⟨_, rfl, rfl, _, rfl, ?_⟩
    rw [dec_str, Bool.beq_eq_decide_eq]
    refine iteD (fun cf => ?_) (fun cf => ?_)
    · refine ⟨_, rfl, sp, _, rfl, .inl (SqL.of hsp), rfl, _, rfl, ?_⟩
      have ek : listedT l rows word nm i sorts = (if sorts.length = 1 ∧ (rw_ rows i).w.kind = "end" then .inl (.tuple [.str word, .str nm, .tuple [], .str (sorts.headD "")])
    else if S (rw_ rows i).src ≠ "->" then .inr (rw_ rows i).pos
    else if (rw_ rows (i + 1)).w.kind ≠ "name" then .inr (rw_ rows (i + 1)).pos
    else if (rw_ rows (i + 2)).w.kind ≠ "end" then .inr (rw_ rows (i + 2)).pos
    else .inl (.tuple [.str word, .str nm, strsD sorts, .str (S (rw_ rows (i + 1)).src)])) := by unfold listedT; rw [if_pos cf]
      refine iteAnd (c2 := (rw_ rows i).w.kind = "end") (fun c h => ⟨_, rfl, _, rfl, rp, _, _, .ref p0, rfl, rfl, l0, a0, p0, _, _, _, rfl, rfl, q0, atI_nat (j := 0) rfl, rfl, _, rfl, by rw [dec_str, Bool.beq_eq_decide_eq]; exact h⟩) (fun c c2 => ?_) (fun c => ?_)
      · have c1 : sorts.length = 1 := by
          have : ((sv.length : Nat) : Int) = 1 := V.int.inj c
          omega
        obtain ⟨x, rfl⟩ : ∃ x, sorts = [x] := List.length_eq_one_iff.mp c1
        obtain ⟨v0, r0, rfl, t0, t1⟩ := TpAll.cons_inv hsv
        cases t1.nil_inv
        cases t0.str_inv
        rw [ek, if_pos ⟨rfl, c2⟩] at k
        refine ⟨_, rfl, _, rfl, Nat.zero_le _, fun u0 hu0 => ?_⟩
        have e0 := same_new (o := .tup []) hu0
        refine ⟨_, rfl, sp, _, _, _, rfl, rfl, SqL.of (e0 _ _ hsp), atI_nat (j := 0) rfl, by show 4 ≤ sizeLine; decide, fun u1 hu1 => ?_⟩
        refine ⟨by show 2 ≤ sizeLine; decide, fun u2 hu2 => ?_⟩
        exact k _ _ (((s1.trans e0).trans (same_new hu1)).trans (same_new hu2)) (tp_new hu2 (.two (.str _) (tp_new hu1 (.four (.str _) (.str _) (tp_new hu0 .nil) (.str _)))))
      · have cn : ¬ (sorts.length = 1 ∧ (rw_ rows i).w.kind = "end") := fun z => c ⟨by rw [hsz2, z.1]; rfl, z.2⟩
        rw [if_neg cn] at ek
        refine ⟨_, rfl, _, rfl, rp, _, _, .ref p0, rfl, rfl, l0, a0, p0, _, _, _, rfl, rfl, q0, atI_nat (j := 1) rfl, rfl, _, rfl, ?_⟩
        rw [dec_str, Bool.beq_eq_decide_eq, ← decide_not]
        refine iteD (fun c => ?_) (fun c => ?_)
        · refine ⟨_, rfl, _, rfl, rp, _, _, .ref p0, rfl, rfl, l0, a0, p0, _, _, _, rfl, rfl, q0, atI_nat (j := 2) rfl, by show 2 ≤ sizeLine; decide, fun u hu => ?_⟩
          refine k _ _ (s1.trans (same_new hu)) ?_
          rw [ek, if_pos c]
          exact tp_new hu (.two (.str _) (.int _))
        rw [if_neg c] at ek
        refine ⟨_, rfl, _, rfl, _, _, rfl, rfl, rp, _, _, .ref p1, rfl, rfl, l1, a1, p1, _, _, _, rfl, rfl, q1, atI_nat (j := 0) rfl, rfl, _, rfl, ?_⟩
        rw [dec_str, Bool.beq_eq_decide_eq, ← decide_not]
        refine iteD (fun c => ?_) (fun c => ?_)
        · refine ⟨_, rfl, _, rfl, _, _, rfl, rfl, rp, _, _, .ref p1, rfl, rfl, l1, a1, p1, _, _, _, rfl, rfl, q1, atI_nat (j := 2) rfl, by show 2 ≤ sizeLine; decide, fun u hu => ?_⟩
          refine k _ _ (s1.trans (same_new hu)) ?_
          rw [ek, if_pos c]
          exact tp_new hu (.two (.str _) (.int _))
        rw [if_neg c] at ek
        refine ⟨_, rfl, _, rfl, _, _, rfl, rfl, rp, _, _, .ref p2, rfl, rfl, l2, a2, p2, _, _, _, rfl, rfl, q2, atI_nat (j := 0) rfl, rfl, _, rfl, ?_⟩
        rw [dec_str, Bool.beq_eq_decide_eq, ← decide_not]
        refine iteD (fun c => ?_) (fun c => ?_)
        · refine ⟨_, rfl, _, rfl, _, _, rfl, rfl, rp, _, _, .ref p2, rfl, rfl, l2, a2, p2, _, _, _, rfl, rfl, q2, atI_nat (j := 2) rfl, by show 2 ≤ sizeLine; decide, fun u hu => ?_⟩
          refine k _ _ (s1.trans (same_new hu)) ?_
          rw [ek, if_pos c]
          exact tp_new hu (.two (.str _) (.int _))
        rw [if_neg c] at ek
        rw [ek] at k
        refine ⟨_, rfl, _, rfl, _, rfl, sp, _, rfl, .inl ⟨SqL.of hsp, fun u hu => ?_⟩⟩
        have e1 := same_new (o := .tup sv) hu
        obtain ⟨p3, l3, a3, q3⟩ := row (i + 1) (by omega) (s1.trans e1)
        refine ⟨_, rfl, _, rfl, _, _, rfl, rfl, rp, _, _, .ref p3, rfl, rfl, l3, a3, p3, _, _, _, rfl, rfl, q3, atI_nat (j := 1) rfl, by show 4 ≤ sizeLine; decide, fun u2 hu2 => ?_⟩
        refine ⟨by show 2 ≤ sizeLine; decide, fun u3 hu3 => ?_⟩
        exact k _ _ (((s1.trans e1).trans (same_new hu2)).trans (same_new hu3)) (tp_new hu3 (.two (.str _) (tp_new hu2 (.four (.str _) (.str _) (tp_new hu hsv) (.str _)))))
    refine ⟨_, rfl, rfl, _, rfl, ?_⟩
    rw [dec_str, Bool.beq_eq_decide_eq]
    refine iteD (fun cm => ?_) (fun cm => ?_)
    · have ek : listedT l rows word nm i sorts = (if isBy (rw_ rows i) = false then .inr (rw_ rows i).pos else toldL2 l rows (i + 1) word nm sorts) := by unfold listedT; rw [if_neg cf, if_pos cm]
      refine ⟨_, rfl, _, rfl, rp, _, _, .ref p0, rfl, rfl, l0, a0, _, rfl, p0, _, rfl, q0, not_whole2 rfl, fun u1 hu1 => ?_⟩
      refine ⟨by show 2 ≤ sizeLine; decide, fun u2 hu2 => ?_⟩
      have e1 := same_new (o := .tup (cutV [V.str (rw_ rows i).w.kind, .str (S (rw_ rows i).src), .int ((rw_ rows i).pos : Nat)] none (some 2))) hu1
      have e2 := same_new (o := .tup [.str "told", .str "by"]) hu2
      have hsr : PyData.strOk (S (rw_ rows i).src) = true := by
        have hi2 : i < rows.length := by omega
        have : rw_ rows i = rows[i] := by unfold rw_; rw [List.getElem?_eq_getElem hi2]; rfl
        rw [this]
        exact hsok _ (List.getElem_mem hi2)
      refine ⟨.tuple [.str (rw_ rows i).w.kind, .str (S (rw_ rows i).src)], .tuple [.str "told", .str "by"], ((tp_new hu1 (.two (.str _) (.str _))).mono (TM.same e2)).dp, (tp_new hu2 (.two (.str _) (.str _))).dp, two_shaped strOk_kind (by simpa only [PyData.canLay0] using hsr) rfl, by decide +kernel, _, rfl, ?_⟩
      have ev : PyData.eqv (.tuple [.str (rw_ rows i).w.kind, .str (S (rw_ rows i).src)]) (.tuple [.str "told", .str "by"]) = isBy (rw_ rows i) := by
        rw [Bool.eq_iff_iff]
        simp [PyData.eqv, PyData.eqvAll, isBy]
      rw [ev]
      have s4 := (s1.trans e1).trans e2
      cases hb : isBy (rw_ rows i) with
      | false =>
        rw [ek, if_pos hb] at k
        obtain ⟨p3, l3, a3, q3⟩ := row i (by omega) s4
        refine iteT ⟨_, rfl, _, rfl, rp, _, _, .ref p3, rfl, rfl, l3, a3, p3, _, _, _, rfl, rfl, q3, atI_nat (j := 2) rfl, by show 2 ≤ sizeLine; decide, fun u hu => ?_⟩
        exact k _ _ (s4.trans (same_new hu)) (tp_new hu (.two (.str _) (.int _)))
      | true =>
        rw [ek, if_neg (by rw [hb]; simp)] at k
        refine iteF ?_
        refine ⟨_, rfl, _, rfl, _, rfl, _, _, rfl, rfl, _, rfl, _, rfl, _, rfl, l, rp, i + 1, sp, rv, sv, rows, word, nm, sorts, rfl, ht, s4 _ _ hrp, hT.mono (TM.same s4), hrz, by omega, hsok, e2 _ _ (e1 _ _ hsp), hsv.mono (TM.same (e1.trans e2)), hsz, fun H' v s' t' => k H' v (s4.trans s') t'⟩
    have ek : listedT l rows word nm i sorts = (if (rw_ rows i).w.kind = "end" then .inl (.tuple [.str word, .str nm, strsD sorts]) else .inr (rw_ rows i).pos) := by unfold listedT; rw [if_neg cf, if_neg cm]
    refine ⟨_, rfl, _, rfl, rp, _, _, .ref p0, rfl, rfl, l0, a0, p0, _, _, _, rfl, rfl, q0, atI_nat (j := 0) rfl, rfl, _, rfl, ?_⟩
    rw [dec_str, Bool.beq_eq_decide_eq]
    refine iteD (fun c => ?_) (fun c => ?_)
    · refine ⟨_, rfl, _, rfl, _, rfl, sp, _, rfl, .inl ⟨SqL.of hsp, fun u hu => ?_⟩⟩
      refine ⟨by show 3 ≤ sizeLine; decide, fun u2 hu2 => ?_⟩
      refine ⟨by show 2 ≤ sizeLine; decide, fun u3 hu3 => ?_⟩
      rw [ek, if_pos c] at k
      exact k _ _ (((s1.trans (same_new hu)).trans (same_new hu2)).trans (same_new hu3)) (tp_new hu3 (.two (.str _) (tp_new hu2 (.three (.str _) (.str _) (tp_new hu hsv)))))
    · refine ⟨_, rfl, _, rfl, rp, _, _, .ref p0, rfl, rfl, l0, a0, p0, _, _, _, rfl, rfl, q0, atI_nat (j := 2) rfl, by show 2 ≤ sizeLine; decide, fun u hu => ?_⟩
      rw [ek, if_neg c] at k
      exact k _ _ (s1.trans (same_new hu)) (tp_new hu (.two (.str _) (.int _)))
  refine ⟨_, pss_cons (ps_set (i := 4) sc_l_listed.nd rfl (Or.inl rfl) pe_int) (pss_cons (ps_set (i := 5) sc_l_listed.nd rfl (Or.inl rfl) (pe_lst pa_nil)) (pss_cons (ps_if (PW.pt (pw_or (pt_cmpR op_eq (pe_ix ix_tup (pe_ix ix_list (pv 1) pe_int (fun _ _ => rfl)) pe_int (fun _ _ => rfl)) pe_str (nomark _)) (pw_or1 (pt_cmpR op_eq (pv 2) pe_str (nomark _))))) (pss_cons (ps_set (i := 5) sc_l_listed.nd rfl (Or.inl rfl) (pe_ifExp (pt_cmpR op_eq (pe_ix ix_tup (pe_ix ix_list (pv 1) pe_int (fun _ _ => rfl)) pe_int (fun _ _ => rfl)) pe_str (nomark _)) (pf GF (hr.mono (by decide)) T.g_l_names_from px (pa_cons (pv 1) (pa_cons pe_int pa_nil))) (pe_lst pa_nil)))
      (pss_cons (ps_set (i := 4) sc_l_listed.nd rfl (Or.inl rfl) (pe_op op_add pe_int (pe_callB call_len_seq (by rfl) T.z_len (by decide +kernel) (pa_cons (pv 5) pa_nil))))
      (pss_cons (ps_if (pt_cmpR op_ne (pe_ix ix_tup (pe_ix ix_list (pv 1) pe_int (fun _ _ => rfl)) pe_int (fun _ _ => rfl)) pe_str (nomark _)) (pss_one (ps_ret (pe_tup (pa_cons pe_str (pa_cons (pe_ix ix_tup (pe_ix ix_list (pv 1) pe_int (fun _ _ => rfl)) pe_int (fun _ _ => rfl)) pa_nil))))) pss_nil)
      (pss_one (ps_if (pt_cmpR (op_eqD hr.units) (pv 5) (pe_lst pa_nil) (nomark _)) (pss_one (ps_ret (pe_tup (pa_cons pe_str (pa_cons (pe_ix ix_tup (pe_ix ix_list (pv 1) pe_int (fun _ _ => rfl)) pe_int (fun _ _ => rfl)) pa_nil))))) pss_nil))))) pss_nil) h3)), ?_⟩
  refine ⟨Nat.zero_le _, fun f hf => ?_⟩
  have s1 := same_new (o := .lst []) hf
  obtain ⟨p2, hp2, sq2⟩ := getR 2 (by omega)
  obtain ⟨p2, l2, a2, q2⟩ := row 2 (by omega) s1
  refine ⟨_, rfl, rp, _, _, .ref p2, rfl, rfl, l2, a2, p2, _, _, _, rfl, rfl, q2, atI_nat (j := 1) rfl, rfl, _, rfl, ?_⟩
  rw [dec_str, Bool.beq_eq_decide_eq]
  have hn0 : 3 ≤ ts.length ∨ namesAt rows 3 = [] := by
    by_cases h : 3 ≤ ts.length
    · exact .inl h
    · right
      have e2 : ts.length = 2 := by omega
      match ts, e2 with
      | [a, b], _ => rw [hrows]; rfl
  have nl : 3 ≤ ts.length → 3 + (namesAt rows 3).length ≤ ts.length := fun h => by rw [hrows]; exact names_lt ts l.length 3 h
  refine iteD (fun c => ?_) (fun c => ?_)
  · refine iteT ⟨_, rfl, rp, _, _, .ref p2, rfl, rfl, l2, a2, p2, _, _, _, rfl, rfl, q2, atI_nat (j := 1) rfl, rfl, _, rfl, ?_⟩
    rw [dec_str, Bool.beq_eq_decide_eq, decide_eq_true c]
    refine iteT ⟨_, rfl, rp, 3, rv, rows, rfl, s1 _ _ hrp, hT.mono (TM.same s1), by omega, ?_, fun H2 g fv s2 hg hg2 hfv => ?_⟩
    · rcases hn0 with hn0 | hn0
      · rw [List.length_drop]; have := nl hn0; omega
      · have : namesAt rows 3 = [] := hn0
        rw [this, List.length_drop]; simp; omega
    have s3 := s1.trans s2
    have hfl : fv.length = (namesAt rows 3).length := by have := hfv.len; rw [List.length_map] at this; exact this
    obtain ⟨p3, l3, a3, q3'⟩ := row 2 (by omega) s3
    refine ⟨_, rfl, g, _, rfl, .inl (SqL.of hg2), _, _, rfl, rfl, ?_⟩
    refine ⟨_, rfl, rp, _, _, .ref p3, rfl, rfl, l3, a3, p3, _, _, _, rfl, rfl, q3', atI_nat (j := 1) rfl, rfl, _, rfl, ?_⟩
    rw [dec_str, Bool.beq_eq_decide_eq, decide_eq_true c]
    refine iteF ?_
    refine ⟨_, rfl, Nat.zero_le _, fun q5 hq5 => ?_⟩
    have e5 := same_new (o := .lst []) hq5
    have s4 := s3.trans e5
    refine ⟨_, .list [], .lst (SqL.of (e5 _ _ hg2)) (hfv.mono (TM.same e5)).dp, .lst (SqL.of upd_same) .nil, strs_shaped _ fun t h => ?_, rfl, _, rfl, ?_⟩
    · exact hsok t (List.mem_of_mem_drop ((List.takeWhile_subset _) h))
    rw [eqv_nil]
    cases en : namesAt rows 3 with
    | nil =>
      obtain ⟨p4, l4, a4, q4⟩ := row 3 (by omega) s4
      refine iteT ⟨_, rfl, rp, _, _, .ref p4, rfl, rfl, l4, a4, p4, _, _, _, rfl, rfl, q4, atI_nat (j := 2) rfl, by show 2 ≤ sizeLine; decide, fun u hu => ?_⟩
      refine k _ _ (s4.trans (same_new hu)) ?_
      unfold listedL
      rw [if_pos c, if_pos en]
      exact tp_new hu (.two (.str _) (.int _))
    | cons a m =>
      refine iteF ?_
      have hn3 : 3 ≤ ts.length := hn0.resolve_right (by rw [en]; simp)
      have hb := nl hn3
      have ei : V.int ((3 : Int) + (fv.length : Nat)) = V.int ((3 + (namesAt rows 3).length : Nat)) := by rw [hfl]; exact congrArg V.int (by omega)
      show t3 _ [_, _, _, _, some (V.int ((3 : Int) + (fv.length : Nat))), _] _
      rw [ei]
      refine q3 _ g _ fv ((namesAt rows 3).map fun t => S t.src) s4 (e5 _ _ hg2) ?_ hb (by rw [List.length_map]; omega) (fun H' v s' t' => k H' v s' ?_)
      · rw [List.map_map]; exact hfv.mono (TM.same e5)
      · unfold listedL
        rw [if_pos c, if_neg (by rw [en]; simp)]
        exact t'
  · refine ⟨_, rfl, rfl, _, rfl, ?_⟩
    rw [dec_str, Bool.beq_eq_decide_eq]
    refine iteD (fun cf => ?_) (fun cf => ?_)
    · refine ⟨_, rfl, rp, _, _, .ref p2, rfl, rfl, l2, a2, p2, _, _, _, rfl, rfl, q2, atI_nat (j := 1) rfl, rfl, _, rfl, ?_⟩
      rw [dec_str, Bool.beq_eq_decide_eq, decide_eq_false c]
      refine iteF ⟨Nat.zero_le _, fun g hg => ?_⟩
      have s2 := s1.trans (same_new (o := .lst []) hg)
      obtain ⟨p3, l3, a3, q3'⟩ := row 2 (by omega) s2
      refine ⟨_, rfl, g, _, rfl, .inl (SqL.of upd_same), _, _, rfl, rfl, ?_⟩
      refine ⟨_, rfl, rp, _, _, .ref p3, rfl, rfl, l3, a3, p3, _, _, _, rfl, rfl, q3', atI_nat (j := 1) rfl, rfl, _, rfl, ?_⟩
      rw [dec_str, Bool.beq_eq_decide_eq, decide_eq_false c]
      refine iteT ⟨_, rfl, rp, _, _, .ref p3, rfl, rfl, l3, a3, p3, _, _, _, rfl, rfl, q3', atI_nat (j := 2) rfl, by show 2 ≤ sizeLine; decide, fun u hu => ?_⟩
      refine k _ _ (s2.trans (same_new hu)) ?_
      unfold listedL
      rw [if_neg c, if_pos cf]
      exact tp_new hu (.two (.str _) (.int _))
    · have := q3 _ f 2 [] [] s1 upd_same .nil (by omega) (by simp) (by intro H' v s' t'; refine k H' v s' ?_; unfold listedL; rw [if_neg c, if_neg cf]; exact t')
      exact this
end
end KW

/-! part KLaw7 -/
set_option maxHeartbeats 4000000
namespace KW
open PySem PySem.Spec PyProof.Rows L2 KM SX
theorem scan_src : ∀ (n at' : Nat) (l : List Nat), ∀ t ∈ scan n at' l, ∀ c ∈ t.src, c ∈ l ∨ c = 45 ∨ c = 62
  | 0, _, _, t, h, _, _ => by cases h
  | n + 1, _, [], t, h, _, _ => by cases h
  | n + 1, at', c :: r, t, h, x, hx => by
    have tw : ∀ y, y ∈ (c :: r).takeWhile isRun → y ∈ c :: r := fun y hy => (List.takeWhile_subset _) hy
    have dw : ∀ y, y ∈ (c :: r).dropWhile isRun → y ∈ c :: r := fun y hy => (List.dropWhile_subset _) hy
    unfold scan at h
    split at h
    · split at h
      · cases List.mem_singleton.mp h
        exact .inl (tw _ hx)
      · rcases List.mem_cons.mp h with rfl | h
        · exact .inl (tw _ hx)
        · exact (scan_src n _ _ t h x hx).imp_left (dw _)
    · split at h
      · rcases List.mem_cons.mp h with rfl | h
        · right; simpa using hx
        · exact (scan_src n _ _ t h x hx).imp_left fun z => List.mem_cons_of_mem _ (List.mem_of_mem_tail z)
      · split at h
        · rcases List.mem_cons.mp h with rfl | h
          · left; simp at hx; simp [hx]
          · exact (scan_src n _ _ t h x hx).imp_left fun z => List.mem_cons_of_mem _ z
        · split at h
          · exact (scan_src n _ _ t h x hx).imp_left fun z => List.mem_cons_of_mem _ z
          · cases List.mem_singleton.mp h
            left; simp at hx; simp [hx]
def dueL (l : List Nat) : PyData ⊕ Nat :=
  if S (rw_ (toks l ++ ends3 l.length) 0).src ∉ sortsL then .inr (rw_ (toks l ++ ends3 l.length) 0).pos
  else if (rw_ (toks l ++ ends3 l.length) 1).w.kind ≠ "name" then .inr (rw_ (toks l ++ ends3 l.length) 1).pos
  else if S (rw_ (toks l ++ ends3 l.length) 0).src ∈ (["taken", "shown"] : List Str) then
    if S (rw_ (toks l ++ ends3 l.length) 2).src ≠ ":" then .inr (rw_ (toks l ++ ends3 l.length) 2).pos
    else toldL2 l (toks l ++ ends3 l.length) 3 (S (rw_ (toks l ++ ends3 l.length) 0).src) (S (rw_ (toks l ++ ends3 l.length) 1).src) []
  else listedL l (toks l ++ ends3 l.length) (S (rw_ (toks l ++ ends3 l.length) 0).src) (S (rw_ (toks l ++ ends3 l.length) 1).src)
section
variable {P : Program} {w : World} {K : PySem.W.Frag} {mg : Str → Option Value} {base : Heap}
def spDueL (K : PySem.W.Frag) : Sp := fun vs H Q _ => ∃ (l : List Nat), vs = [.str (S l)] ∧ TextOk l ∧ ∀ H' v, Same H H' → Tp K H' v (endD (dueL l)) → Q v H'
theorem ok_l_due (T : Txt K mg w) (TX : KxC K (CB K)) : Good P w K mg base 17 (He.ga K "_law_due") ["_law_text"] (spDueL K) := by
  have GW := ok_l_words (P := P) (base := base) T
  have GT := ok_l_told (P := P) (base := base) T TX
  have GL := ok_l_listed (P := P) (base := base) T TX
  refine good_of T.f_l_due sc_l_due (fun _ _ _ _ _ _ us hl => match us, hl with | [_], _ => rfl) (fun vs H Q E h => by obtain ⟨_, rfl, _⟩ := h; rfl) (fun cdv A outer s H vs Q E hr h => ?_)
  obtain ⟨l, rfl, ht, k⟩ := h
  have hl := ht.len
  refine ⟨_, (pss_cons (ps_set (i := 1) sc_l_due.nd rfl (Or.inl rfl) (pe_op op_cat (pf GW (hr.mono (by decide)) T.g_l_words px (pa_cons (pv 0) pa_nil)) (pe_op op_rep (pe_lst (pa_cons (pe_tup (pa_cons pe_str (pa_cons pe_str (pa_cons (pe_callB call_len_str (by rfl) T.z_len (by decide +kernel) (pa_cons (pv 0) pa_nil)) pa_nil)))) pa_nil)) pe_int)))
      (pss_cons (ps_set (i := 2) sc_l_due.nd rfl (Or.inl rfl) (pe_ix ix_tup (pe_ix ix_list (pv 1) pe_int (fun _ _ => rfl)) pe_int (fun _ _ => rfl)))
      (pss_cons (ps_if (pt_cmpR op_notIn_seq (pv 2) (pe_tup (pa_cons pe_str (pa_cons pe_str (pa_cons pe_str (pa_cons pe_str (pa_cons pe_str (pa_cons pe_str pa_nil))))))) rfl) (pss_one (ps_ret (pe_tup (pa_cons pe_str (pa_cons (pe_ix ix_tup (pe_ix ix_list (pv 1) pe_int (fun _ _ => rfl)) pe_int (fun _ _ => rfl)) pa_nil))))) pss_nil)
      (pss_cons (ps_if (pt_cmpR op_ne (pe_ix ix_tup (pe_ix ix_list (pv 1) pe_int (fun _ _ => rfl)) pe_int (fun _ _ => rfl)) pe_str (nomark _)) (pss_one (ps_ret (pe_tup (pa_cons pe_str (pa_cons (pe_ix ix_tup (pe_ix ix_list (pv 1) pe_int (fun _ _ => rfl)) pe_int (fun _ _ => rfl)) pa_nil))))) pss_nil)
      (pss_cons (ps_if (pt_cmpR op_in_seq (pv 2) (pe_tup (pa_cons pe_str (pa_cons pe_str pa_nil))) rfl) (pss_cons (ps_if (pt_cmpR op_ne (pe_ix ix_tup (pe_ix ix_list (pv 1) pe_int (fun _ _ => rfl)) pe_int (fun _ _ => rfl)) pe_str (nomark _)) (pss_one (ps_ret (pe_tup (pa_cons pe_str (pa_cons (pe_ix ix_tup (pe_ix ix_list (pv 1) pe_int (fun _ _ => rfl)) pe_int (fun _ _ => rfl)) pa_nil))))) pss_nil)
      (pss_one (ps_ret (pf GT (hr.mono (by decide)) T.g_l_told px (pa_cons (pv 0) (pa_cons (pv 1) (pa_cons pe_int (pa_cons (pv 2) (pa_cons (pe_ix ix_tup (pe_ix ix_list (pv 1) pe_int (fun _ _ => rfl)) pe_int (fun _ _ => rfl)) (pa_cons (pe_lst pa_nil) pa_nil)))))))))) pss_nil)
      (pss_one (ps_ret (pf GL (hr.mono (by decide)) T.g_l_listed px (pa_cons (pv 0) (pa_cons (pv 1) (pa_cons (pv 2) (pa_cons (pe_ix ix_tup (pe_ix ix_list (pv 1) pe_int (fun _ _ => rfl)) pe_int (fun _ _ => rfl)) pa_nil)))))))))))), ?_⟩
  obtain ⟨dl, ek⟩ : ∃ d, dueL l = d := ⟨_, rfl⟩
  rw [ek] at k
  unfold dueL at ek
  generalize er : toks l ++ ends3 l.length = rows at ek
  have hts : (toks l).length ≤ 4000 := by have := scan_len l.length 0 l; unfold toks; omega
  have hlen : rows.length = (toks l).length + 3 := by rw [← er]; simp [ends3]
  have hsok : ∀ t ∈ rows, PyData.strOk (S t.src) = true := by
    intro t h
    rw [← er] at h
    rcases List.mem_append.mp h with h | h
    · exact strOk_S fun c hc => by
        rcases scan_src _ _ _ t h c hc with z | z | z
        · have := ht.asc c z; omega
        · omega
        · omega
    · rw [List.eq_of_mem_replicate h]; exact strOk_S fun c hc => by cases hc
  refine ⟨_, rfl, l, rfl, ht, fun H1 f fv s1 hf hf1 hfv => ?_⟩
  refine ⟨_, rfl, _, rfl, by rw [S_len, sizeLine_eq]; omega, by show 3 ≤ sizeLine; decide, fun u hu => ?_⟩
  refine ⟨by show 1 ≤ sizeLine; decide, fun q hq => ?_⟩
  refine ⟨_, _, _, rfl, rfl, upd_same, by decide, by decide, by show 1 * 3 ≤ sizeLine; decide, fun q2 hq2 => ?_⟩
  have e1 := same_new (o := .tup [.str "end", .str "", .int ((S l).length : Nat)]) hu
  have e2 := same_new (o := .lst [.ref u]) hq
  have e3 := same_new (o := .lst (List.replicate (3 : Int).toNat [V.ref u]).flatten) hq2
  refine ⟨f, q2, fv, _, rfl, rfl, e3 _ _ (e2 _ _ (e1 _ _ hf1)), upd_same, ?_, fun rp hrp0 => ?_⟩
  · have := hfv.len
    rw [List.length_map] at this
    rw [this, sizeLine_eq]
    show (toks l).length + 3 ≤ _
    omega
  have e4 := same_new (o := .lst (fv ++ (List.replicate (3 : Int).toNat [V.ref u]).flatten)) hrp0
  have s5 : Same H _ := (((s1.trans e1).trans e2).trans e3).trans e4
  have hrp : upd (upd (upd (upd H1 u (.tup [.str "end", .str "", .int ((S l).length : Nat)])) q (.lst [.ref u])) q2 (.lst (List.replicate (3 : Int).toNat [V.ref u]).flatten)) rp (.lst (fv ++ (List.replicate (3 : Int).toNat [V.ref u]).flatten)) rp = some (.lst (fv ++ (List.replicate (3 : Int).toNat [V.ref u]).flatten)) := upd_same
  have hT : TpAll K (upd (upd (upd (upd H1 u (.tup [.str "end", .str "", .int ((S l).length : Nat)])) q (.lst [.ref u])) q2 (.lst (List.replicate (3 : Int).toNat [V.ref u]).flatten)) rp (.lst (fv ++ (List.replicate (3 : Int).toNat [V.ref u]).flatten))) (fv ++ (List.replicate (3 : Int).toNat [V.ref u]).flatten) (rows.map rowD) := by
    rw [← er, List.map_append]
    refine (hfv.mono (TM.same (((e1.trans e2).trans e3).trans e4))).app ?_
    have hu' : Tp K (upd H1 u (.tup [.str "end", .str "", .int ((S l).length : Nat)])) (.ref u) (rowD ⟨.fin, [], l.length⟩) := by
      rw [S_len]
      exact tp_new hu (.three (.str _) (.str _) (.int _))
    have h2 := hu'.mono (TM.same ((e2.trans e3).trans e4))
    exact .three h2 h2 h2
  generalize upd (upd (upd (upd H1 u (.tup [.str "end", .str "", .int ((S l).length : Nat)])) q (.lst [.ref u])) q2 (.lst (List.replicate (3 : Int).toNat [V.ref u]).flatten)) rp (.lst (fv ++ (List.replicate (3 : Int).toNat [V.ref u]).flatten)) = H5 at s5 hrp hT ⊢
  generalize fv ++ (List.replicate (3 : Int).toNat [V.ref u]).flatten = rv at hrp hT ⊢
  have row : ∀ (i : Nat), i < rows.length → ∀ {H1 : Hp}, Same H5 H1 → ∃ p, SqL K H1 rp rv ∧ atI rv (i : Nat) = some (.ref p) ∧ SqT K H1 p [.str (rw_ rows i).w.kind, .str (S (rw_ rows i).src), .int (rw_ rows i).pos] := by
    intro i hi H1 s1
    have e : rows[i]? = some (rw_ rows i) := by unfold rw_; rw [List.getElem?_eq_getElem hi]; rfl
    obtain ⟨p, hp, hsq⟩ := rows_get hT e
    exact ⟨p, SqL.of (s1 _ _ hrp), atI_nat hp, s1.seqT hsq⟩
  obtain ⟨p0, l0, a0, q0⟩ := row 0 (by omega) (Same.refl H5)
  obtain ⟨p1, l1, a1, q1⟩ := row 1 (by omega) (Same.refl H5)
  refine ⟨_, rfl, rp, _, _, .ref p0, rfl, rfl, l0, a0, p0, _, _, _, rfl, rfl, q0, atI_nat (j := 1) rfl, ?_⟩
  refine ⟨_, rfl, by show 6 ≤ sizeLine; decide, fun u6 hu6 => ?_⟩
  have e6 := same_new (o := .tup [.str "sort", .str "func", .str "rel", .str "mean", .str "taken", .str "shown"]) hu6
  refine ⟨_, _, rfl, .inr (SqT.of upd_same), rfl, by decide +kernel, _, rfl, ?_⟩
  refine iteInF (b := decide (S (rw_ rows 0).src ∈ sortsL)) (inV_strs (l := sortsL)) (fun c2 => ?_) (fun c2 => ?_)
  · obtain ⟨p2, l2, a2, q2⟩ := row 0 (by omega) e6
    refine ⟨_, rfl, rp, _, _, .ref p2, rfl, rfl, l2, a2, p2, _, _, _, rfl, rfl, q2, atI_nat (j := 2) rfl, by show 2 ≤ sizeLine; decide, fun u hu => ?_⟩
    rw [← ek, if_pos (of_decide_eq_false c2)] at k
    exact k _ _ ((s5.trans e6).trans (same_new hu)) (tp_new hu (.two (.str _) (.int _)))
  rw [if_neg (fun z => z (of_decide_eq_true c2))] at ek
  obtain ⟨p3, l3, a3, q3⟩ := row 1 (by omega) e6
  refine ⟨_, rfl, rp, _, _, .ref p3, rfl, rfl, l3, a3, p3, _, _, _, rfl, rfl, q3, atI_nat (j := 0) rfl, rfl, _, rfl, ?_⟩
  rw [dec_str, Bool.beq_eq_decide_eq, ← decide_not]
  refine iteD (fun c => ?_) (fun c => ?_)
  · refine ⟨_, rfl, rp, _, _, .ref p3, rfl, rfl, l3, a3, p3, _, _, _, rfl, rfl, q3, atI_nat (j := 2) rfl, by show 2 ≤ sizeLine; decide, fun u hu => ?_⟩
    rw [← ek, if_pos c] at k
    exact k _ _ ((s5.trans e6).trans (same_new hu)) (tp_new hu (.two (.str _) (.int _)))
  rw [if_neg c] at ek
  have hm : 2 ≤ (toks l).length := by
    by_cases z : 2 ≤ (toks l).length
    · exact z
    · exfalso
      apply c
      intro hk
      have : rw_ rows 1 = ⟨.fin, [], l.length⟩ := by
        unfold rw_
        rw [← er, List.getElem?_append_right (by omega)]
        unfold ends3
        rw [List.getElem?_replicate, if_pos (by omega)]
        rfl
      rw [this] at hk
      exact absurd hk (show ¬ (Wd.kind .fin = "name") by decide +kernel)
  refine ⟨_, rfl, by show 2 ≤ sizeLine; decide, fun u7 hu7 => ?_⟩
  have e7 := e6.trans (same_new (o := .tup [.str "taken", .str "shown"]) hu7)
  refine ⟨_, _, rfl, .inr (SqT.of upd_same), rfl, by decide +kernel, _, rfl, ?_⟩
  show if inV (.str (S (rw_ rows 0).src)) ((["taken", "shown"] : List Str).map V.str) = true then _ else _
  rw [inV_strs]
  obtain ⟨p4, l4, a4, q4⟩ := row 2 (by omega) e7
  obtain ⟨p5, l5, a5, q5⟩ := row 1 (by omega) e7
  refine iteD (fun c3 => ?_) (fun c3 => ?_)
  · rw [if_pos c3] at ek
    refine ⟨_, rfl, rp, _, _, .ref p4, rfl, rfl, l4, a4, p4, _, _, _, rfl, rfl, q4, atI_nat (j := 1) rfl, rfl, _, rfl, ?_⟩
    rw [dec_str, Bool.beq_eq_decide_eq, ← decide_not]
    refine iteD (fun c => ?_) (fun c => ?_)
    · refine ⟨_, rfl, rp, _, _, .ref p4, rfl, rfl, l4, a4, p4, _, _, _, rfl, rfl, q4, atI_nat (j := 2) rfl, by show 2 ≤ sizeLine; decide, fun u hu => ?_⟩
      rw [← ek, if_pos c] at k
      exact k _ _ ((s5.trans e7).trans (same_new hu)) (tp_new hu (.two (.str _) (.int _)))
    rw [← ek, if_neg c] at k
    refine ⟨_, rfl, _, rfl, _, rfl, _, rfl, rp, _, _, .ref p5, rfl, rfl, l5, a5, p5, _, _, _, rfl, rfl, q5, atI_nat (j := 1) rfl, Nat.zero_le _, fun u8 hu8 => ?_⟩
    have e8 := e7.trans (same_new (o := .lst []) hu8)
    exact ⟨l, rp, 3, u8, rv, [], rows, _, _, [], rfl, ht, e8 _ _ hrp, hT.mono (TM.same e8), by omega, by omega, hsok, upd_same, .nil, by simp, fun H' v s' t' => k H' v (s5.trans (e8.trans s')) t'⟩
  rw [← ek, if_neg c3] at k
  refine ⟨_, rfl, _, rfl, _, rfl, _, rfl, rp, _, _, .ref p5, rfl, rfl, l5, a5, p5, _, _, _, rfl, rfl, q5, atI_nat (j := 1) rfl, ?_⟩
  exact ⟨l, rp, rv, toks l, rows, _, _, rfl, ht, e7 _ _ hrp, hT.mono (TM.same e7), er.symm, by omega, hm, hsok, fun H' v s' t' => k H' v (s5.trans (e7.trans s')) t'⟩
end
end KW

/-! part KLaw8 -/
set_option maxHeartbeats 4000000
namespace KW
open PySem PySem.Spec PyProof.Rows L2 KM SX
/-- facts of the classes that _law_found asks for; the head proves them -/
structure KxF (K : PySem.W.Frag) (mg : Str → Option Value) : Prop where
  self : PySem.W.kitOne K (.ref (CB K)) (.ref (CB K)) = some true
  oth : PySem.W.kitAny K (.ref (CB K)) [.ref (He.ga K "BadGround"), .ref (He.ga K "BadRoom"), .ref (He.ga K "NoStep"), .ref (He.ga K "NotDone"), .ref (He.ga K "NoText"), .ref (He.ga K "TooMany")] = some false
  g1 : mg "BadGround" = some (.ref (He.ga K "BadGround"))
  g2 : mg "BadRoom" = some (.ref (He.ga K "BadRoom"))
  g3 : mg "NoStep" = some (.ref (He.ga K "NoStep"))
  g4 : mg "NotDone" = some (.ref (He.ga K "NotDone"))
  g5 : mg "NoText" = some (.ref (He.ga K "NoText"))
  g6 : mg "TooMany" = some (.ref (He.ga K "TooMany"))
section
variable {P : Program} {w : World} {K : PySem.W.Frag} {mg : Str → Option Value} {base : Heap}
/-- what _law_found makes of a value -/
def okF (Q : VK) : VK := fun v H' => ∀ u, H' u = none → Q (.ref u) (upd H' u (.tup [.str "told", v]))
/-- what it makes of a BadText -/
def badF (K : PySem.W.Frag) (Q : VK) : XK := fun cls d H' => cls = .ref (CB K) ∧ ∃ dd x, d = some dd ∧ H' dd = some (.xd [("at", x)]) ∧ ∀ H2 u, Same H' H2 → H2 u = none → Q (.ref u) (upd H2 u (.tup [.str "at", x]))
theorem Bad.imp {H : Hp} {E E' : XK} {v : V} (h : ∀ c d H', E c d H' → E' c d H') (b : Bad K H E v) : Bad K H E' v := fun H' d s e => h _ _ _ (b H' d s e)
theorem Ends2.imp {H : Hp} {Q Q' : VK} {E E' : XK} {o : PyData ⊕ Nat} (hq : ∀ v H', Q v H' → Q' v H') (h : ∀ c d H', E c d H' → E' c d H') (b : Ends2 K H Q E o) : Ends2 K H Q' E' o := by
  cases o with
  | inl d => exact fun H' v s t => hq _ _ (b H' v s t)
  | inr p => exact Bad.imp h b
theorem spEntryX_imp {most : Int} {x : V} {H : Hp} {Q Q' : VK} {E E' : XK} (hq : ∀ v H', Q v H' → Q' v H') (h : ∀ c d H', E c d H' → E' c d H') (b : spEntryX K most x H Q E) : spEntryX K most x H Q' E' := by
  rcases b with ⟨l, rfl, ⟨a, b, c⟩ | ⟨a, b, c⟩⟩ | ⟨t, a, b, c⟩
  · exact .inl ⟨l, rfl, .inl ⟨a, b, c.imp h⟩⟩
  · exact .inl ⟨l, rfl, .inr ⟨a, b, Ends2.imp hq h c⟩⟩
  · exact .inr ⟨t, a, b, c.imp h⟩
theorem spRoomX_imp {x : V} {H : Hp} {Q Q' : VK} {E E' : XK} (hq : ∀ v H', Q v H' → Q' v H') (h : ∀ c d H', E c d H' → E' c d H') (b : spRoomX K x H Q E) : spRoomX K x H Q' E' := by
  rcases b with ⟨l, rfl, g, ⟨a, c⟩ | ⟨a, b, d, c⟩⟩ | ⟨t, a, b, c⟩
  · exact .inl ⟨l, rfl, g, .inl ⟨a, c.imp h⟩⟩
  · exact .inl ⟨l, rfl, g, .inr ⟨a, b, d, Ends2.imp hq h c⟩⟩
  · exact .inr ⟨t, a, b, c.imp h⟩
def spFoundL (K : PySem.W.Frag) : Sp := fun vs H Q _ => ∃ (f : Addr) (x : V), vs = [.ref f, x] ∧ (f = He.ga K "read_entry" ∧ spEntryX K 20000 x H (okF Q) (badF K Q) ∨ f = He.ga K "read_room" ∧ spRoomX K x H (okF Q) (badF K Q))
theorem ok_l_found (T : Txt K mg w) (TX : KxC K (CB K)) (F : KxF K mg) (nn : ∀ l d, entryOut l = .inl d → d ≠ .none) : Good P w K mg base 19 (He.ga K "_law_found") ["_law_look", "_law_text"] (spFoundL K) := by
  have G1 := ok_read_entry (P := P) (base := base) T
  have G2 := ok_read_room (P := P) (base := base) T nn
  refine good_of T.f_l_found sc_l_found (fun _ _ _ _ _ _ us hl => match us, hl with | [_, _], _ => rfl) (fun vs H Q E h => by obtain ⟨_, _, rfl, _⟩ := h; rfl) (fun cdv A outer s H vs Q E hr h => ?_)
  obtain ⟨f, x, rfl, hf⟩ := h
  rcases hf with ⟨rfl, h⟩ | ⟨rfl, h⟩
  · refine ⟨_, (pss_cons (ps_set (i := 2) sc_l_found.nd rfl (Or.inl rfl) pe_non)
      (pss_cons (ps_set (i := 3) sc_l_found.nd rfl (Or.inl rfl) pe_non)
      (pss_cons (ps_try_keep (c := .ref (He.ga K "GroundError")) rfl rfl sc_l_found.nd (i := 4) rfl rfl ⟨by rfl, by decide, .inl T.g_GroundError⟩ (fun W pn xe tk _ => pss_one (ps_set (i := 2) sc_l_found.nd rfl (Or.inl rfl) (pfL (i := 0) G1 (hr.mono (by decide)) (fun σ => passAt tk σ) (pa_cons (pv 1) pa_nil)))) (fun a pn => pss_one (ps_set (i := 3) sc_l_found.nd rfl (Or.inl rfl) (pv 4))))
      (pss_cons (ps_if (pt_cmpR op_isN (pv 3) pe_non (nomark _)) (pss_one (ps_ret (pe_tup (pa_cons pe_str (pa_cons (pv 2) pa_nil))))) pss_nil)
      (pss_cons (ps_if (PW.pt (pw_or (pt_not (pt_val (pe_callB (call_isX TX) (by rfl) T.z_isinstance (by decide +kernel) (pa_cons (pv 3) (pa_cons (pg_r T.g_BadText) pa_nil))))) (pw_or1 (pt_val (pe_callB (call_isXT TX) (by rfl) T.z_isinstance (by decide +kernel) (pa_cons (pv 3) (pa_cons (pe_tup (pa_cons (pg_r F.g1) (pa_cons (pg_r F.g2) (pa_cons (pg_r F.g3) (pa_cons (pg_r F.g4) (pa_cons (pg_r F.g5) (pa_cons (pg_r F.g6) pa_nil))))))) pa_nil))))))) (pss_one (ps_ret (pe_tup (pa_cons pe_str pa_nil)))) pss_nil)
      (pss_one (ps_ret (pe_tup (pa_cons pe_str (pa_cons (pe_xk TX (show PySem.W.findIn K (.ref (CB K)) "at" = some none from T.nB) (pv 3) rfl) pa_nil)))))))))), ?_⟩
    refine ⟨rfl, _, rfl, x, rfl, spEntryX_imp (fun v H1 q => ?_) (fun c d H1 q => ?_) h⟩
    · exact ⟨_, rfl, rfl, _, rfl, iteT ⟨_, rfl, by show 2 ≤ sizeLine; decide, fun u hu => q u hu⟩⟩
    · obtain ⟨rfl, dd, y, rfl, hdd, kq⟩ := q
      refine ⟨T.xG, CB K, dd, rfl, rfl, fun a ha => ?_⟩
      refine ⟨_, rfl, ?_⟩
      refine ⟨_, rfl, rfl, _, rfl, iteF ?_⟩
      have e1 := same_new (o := exk a (CB K) dd) ha
      refine ⟨_, rfl, a, dd, _, _, _, true, rfl, .own _, upd_same, e1 _ _ hdd, F.self, ?_⟩
      refine ⟨_, rfl, iteF ?_⟩
      refine ⟨_, rfl, by show 6 ≤ sizeLine; decide, fun u6 hu6 => ?_⟩
      have e6 := e1.trans (same_new (o := .tup [.ref (He.ga K "BadGround"), .ref (He.ga K "BadRoom"), .ref (He.ga K "NoStep"), .ref (He.ga K "NotDone"), .ref (He.ga K "NoText"), .ref (He.ga K "TooMany")]) hu6)
      have ea : upd (upd H1 a (exk a (CB K) dd)) u6 (.tup [.ref (He.ga K "BadGround"), .ref (He.ga K "BadRoom"), .ref (He.ga K "NoStep"), .ref (He.ga K "NotDone"), .ref (He.ga K "NoText"), .ref (He.ga K "TooMany")]) a = some (exk a (CB K) dd) := by
        rw [upd_ne (ne_of_none upd_same hu6)]; exact upd_same
      refine ⟨a, dd, u6, _, _, _, false, rfl, upd_same, .cons (.own _) (.cons (.own _) (.cons (.own _) (.cons (.own _) (.cons (.own _) (.cons (.own _) .nil))))), ea, e6 _ _ hdd, F.oth, ?_⟩
      refine ⟨_, rfl, iteF ?_⟩
      refine ⟨_, rfl, a, dd, _, _, rfl, ea, e6 _ _ hdd, lk_hit, by show 2 ≤ sizeLine; decide, fun u hu => ?_⟩
      exact kq _ _ e6 hu
  · refine ⟨_, (pss_cons (ps_set (i := 2) sc_l_found.nd rfl (Or.inl rfl) pe_non)
      (pss_cons (ps_set (i := 3) sc_l_found.nd rfl (Or.inl rfl) pe_non)
      (pss_cons (ps_try_keep (c := .ref (He.ga K "GroundError")) rfl rfl sc_l_found.nd (i := 4) rfl rfl ⟨by rfl, by decide, .inl T.g_GroundError⟩ (fun W pn xe tk _ => pss_one (ps_set (i := 2) sc_l_found.nd rfl (Or.inl rfl) (pfL (i := 0) G2 (hr.mono (by decide)) (fun σ => passAt tk σ) (pa_cons (pv 1) pa_nil)))) (fun a pn => pss_one (ps_set (i := 3) sc_l_found.nd rfl (Or.inl rfl) (pv 4))))
      (pss_cons (ps_if (pt_cmpR op_isN (pv 3) pe_non (nomark _)) (pss_one (ps_ret (pe_tup (pa_cons pe_str (pa_cons (pv 2) pa_nil))))) pss_nil)
      (pss_cons (ps_if (PW.pt (pw_or (pt_not (pt_val (pe_callB (call_isX TX) (by rfl) T.z_isinstance (by decide +kernel) (pa_cons (pv 3) (pa_cons (pg_r T.g_BadText) pa_nil))))) (pw_or1 (pt_val (pe_callB (call_isXT TX) (by rfl) T.z_isinstance (by decide +kernel) (pa_cons (pv 3) (pa_cons (pe_tup (pa_cons (pg_r F.g1) (pa_cons (pg_r F.g2) (pa_cons (pg_r F.g3) (pa_cons (pg_r F.g4) (pa_cons (pg_r F.g5) (pa_cons (pg_r F.g6) pa_nil))))))) pa_nil))))))) (pss_one (ps_ret (pe_tup (pa_cons pe_str pa_nil)))) pss_nil)
      (pss_one (ps_ret (pe_tup (pa_cons pe_str (pa_cons (pe_xk TX (show PySem.W.findIn K (.ref (CB K)) "at" = some none from T.nB) (pv 3) rfl) pa_nil)))))))))), ?_⟩
    refine ⟨rfl, _, rfl, x, rfl, spRoomX_imp (fun v H1 q => ?_) (fun c d H1 q => ?_) h⟩
    · exact ⟨_, rfl, rfl, _, rfl, iteT ⟨_, rfl, by show 2 ≤ sizeLine; decide, fun u hu => q u hu⟩⟩
    · obtain ⟨rfl, dd, y, rfl, hdd, kq⟩ := q
      refine ⟨T.xG, CB K, dd, rfl, rfl, fun a ha => ?_⟩
      refine ⟨_, rfl, ?_⟩
      refine ⟨_, rfl, rfl, _, rfl, iteF ?_⟩
      have e1 := same_new (o := exk a (CB K) dd) ha
      refine ⟨_, rfl, a, dd, _, _, _, true, rfl, .own _, upd_same, e1 _ _ hdd, F.self, ?_⟩
      refine ⟨_, rfl, iteF ?_⟩
      refine ⟨_, rfl, by show 6 ≤ sizeLine; decide, fun u6 hu6 => ?_⟩
      have e6 := e1.trans (same_new (o := .tup [.ref (He.ga K "BadGround"), .ref (He.ga K "BadRoom"), .ref (He.ga K "NoStep"), .ref (He.ga K "NotDone"), .ref (He.ga K "NoText"), .ref (He.ga K "TooMany")]) hu6)
      have ea : upd (upd H1 a (exk a (CB K) dd)) u6 (.tup [.ref (He.ga K "BadGround"), .ref (He.ga K "BadRoom"), .ref (He.ga K "NoStep"), .ref (He.ga K "NotDone"), .ref (He.ga K "NoText"), .ref (He.ga K "TooMany")]) a = some (exk a (CB K) dd) := by
        rw [upd_ne (ne_of_none upd_same hu6)]; exact upd_same
      refine ⟨a, dd, u6, _, _, _, false, rfl, upd_same, .cons (.own _) (.cons (.own _) (.cons (.own _) (.cons (.own _) (.cons (.own _) (.cons (.own _) .nil))))), ea, e6 _ _ hdd, F.oth, ?_⟩
      refine ⟨_, rfl, iteF ?_⟩
      refine ⟨_, rfl, a, dd, _, _, rfl, ea, e6 _ _ hdd, lk_hit, by show 2 ≤ sizeLine; decide, fun u hu => ?_⟩
      exact kq _ _ e6 hu
end
end KW

/-! part KLaw9 -/
set_option maxHeartbeats 4000000
namespace KW
open PySem PySem.Spec PyProof.Rows L2 KM SX
/-- a short text times a number -/
def rMulS : R2 := fun x y H Q => ∃ (a : Str) (k : Int), x = .str a ∧ y = .int k ∧ a.length ≤ 16 ∧ 0 ≤ k ∧ k ≤ 1000000 ∧ Q (.str (Txt.mul a k)) H
theorem op_mulS {X : Cx} : OpR X (binaryOp .Mult) rMulS := by
  intro pins s σ H x y v u Q I rx ry h
  obtain ⟨a, k, rfl, rfl, ha, h0, h1, q⟩ := h
  obtain ⟨t, rfl⟩ := rx
  obtain ⟨t', rfl⟩ := ry
  exact PySem.W.KXi.mul (n := a.length) rfl ha (by omega) (by omega) (fun t' tk _ _ => ⟨.str _, H, I.tok _, ⟨_, rfl⟩, q⟩)
def bendsL : List Str := ["sort", "func ", " by ", ":", "->", "a", "no", "(", ")", " ", "X0", "A", "5", "held(0)", ",", "taken", "\n"]
/-- a line bent once -/
def Bent (l l' : List Nat) : Prop := ∃ (i j : Nat) (m : List Nat), i ≤ l.length ∧ (j = i ∨ j = i + 1) ∧ (m = [] ∨ S m ∈ bendsL) ∧ l' = l.take i ++ m ++ l.drop j
theorem cut_S0 {l : List Nat} {i : Nat} : cutS (S l) none (some (i : Nat)) = S (l.take i) := by
  unfold cutS
  rw [S_len, HT.sIx_nat, HT.sIx_none]
  show S ((l.drop 0).take (min i l.length - 0)) = _
  congr 1
  by_cases h : i ≤ l.length
  · rw [Nat.min_eq_left h]; simp
  · rw [Nat.min_eq_right (by omega), List.take_of_length_le (l := l) (by omega)]; simp
theorem cut_S1 {l : List Nat} {i : Nat} : cutS (S l) (some (i : Nat)) none = S (l.drop i) := by
  unfold cutS
  rw [S_len, HT.sIx_nat, HT.sIx_none]
  show S ((l.drop (min i l.length)).take (l.length - min i l.length)) = _
  congr 1
  rw [List.take_of_length_le (by simp)]
  by_cases h : i ≤ l.length
  · rw [Nat.min_eq_left h]
  · rw [Nat.min_eq_right (by omega), List.drop_eq_nil_of_le (Nat.le_refl _), List.drop_eq_nil_of_le (by omega)]
theorem mul_b {x : Str} (h : x.length ≤ 16) (hx : x ∈ bendsL) (b : Bool) : ∃ m, Txt.mul x (if b = true then 1 else 0) = S m ∧ (m = [] ∨ S m ∈ bendsL) ∧ m.length ≤ 16 := by
  cases b with
  | false => exact ⟨[], rfl, .inl rfl, Nat.zero_le _⟩
  | true =>
    have e : x = S x.cps.toList := rfl
    exact ⟨x.cps.toList, by rw [← e]; rfl, .inr (by rw [← e]; exact hx), h⟩
section
variable {P : Program} {w : World} {K : PySem.W.Frag} {mg : Str → Option Value} {base : Heap}
def spBentL : Sp := fun vs H Q _ => ∃ (l : List Nat) (n : Nat), vs = [.str (S l), .int (n : Nat)] ∧ n < 2147483648 ∧ l.length ≤ 4000 ∧ ∀ H' l', Same H H' → Bent l l' → Q (.str (S l')) H'
theorem ok_l_bent (T : Txt K mg w) : Good P w K mg base 1 (He.ga K "_law_bent") ["_law_text", "_law_n"] spBentL := by
  refine good_of T.f_l_bent sc_l_bent (fun _ _ _ _ _ _ us hl => match us, hl with | [_, _], _ => rfl) (fun vs H Q E h => by obtain ⟨_, _, rfl, _⟩ := h; rfl) (fun cdv A outer s H vs Q E hr h => ?_)
  obtain ⟨l, n, rfl, hn, hl, k⟩ := h
  obtain ⟨t2, h2, q2⟩ : ∃ tr, PSs (XB P w K mg base N_l_bent "_law_bent" s_l_bent (He.ga K "_law_bent") cdv A outer s H E) ((defBody s_l_bent).drop 2) tr ∧ ∀ (f : Addr) (H1 : Hp) (i : Nat), Same H H1 → H1 f = some (.lst (bendsL.map V.str)) → i ≤ l.length →
      tr { nx := fun _ H' => Q .non H', rt := Q } [some (.str (S l)), some (.int (n : Nat)), some (.ref f), some (.int (i : Nat)), none] H1 := by
    refine ⟨_, (pss_cons (ps_set (i := 4) sc_l_bent.nd rfl (Or.inl rfl) (pe_op op_add_str (pe_slice sl_str (pv 0) po_none (po_some (pv 3))) (pe_op op_mulS (pe_ix ix_list (pv 2) (pe_op op_mod (pe_op op_fdiv (pv 1) pe_int) pe_int) (fun _ _ => rfl)) (pe_callTy call_int1 (by rfl) T.z_int (by decide +kernel) (pa_cons (pe_cmpR op_gt (pe_op op_mod (pe_op op_fdiv (pv 1) pe_int) pe_int) pe_int (nomark _)) pa_nil)))))
      (pss_one (ps_ret (pe_op op_add_str (pv 4) (pe_slice sl_str (pv 0) (po_some (pe_op op_add (pv 3) (pe_callTy call_int1 (by rfl) T.z_int (by decide +kernel) (pa_cons (pe_cmpR op_lt (pe_op op_mod (pe_op op_fdiv (pv 1) pe_int) pe_int) pe_int (nomark _)) pa_nil)))) po_none))))), fun f H1 i s1 hf hi => ?_⟩
    obtain ⟨g, hg, eg⟩ := modAt (n / 1009) (n := 17) (by decide)
    obtain ⟨x, hx⟩ : ∃ x, bendsL[g]? = some x := ⟨_, List.getElem?_eq_getElem hg⟩
    have hxv : (bendsL.map V.str)[g]? = some (V.str x) := by rw [List.getElem?_map, hx]; rfl
    have hxl : x.length ≤ 16 := by
      have : ∀ y ∈ bendsL, y.length ≤ 16 := by decide +kernel
      exact this x (List.mem_of_getElem? hx)
    refine ⟨_, rfl, _, rfl, _, rfl, _, rfl, by rw [S_len, sizeLine_eq]; omega, ?_⟩
    refine ⟨_, rfl, _, rfl, _, _, rfl, rfl, ⟨by decide, by decide⟩, _, _, rfl, rfl, (show (0 : Int) < 17 by decide), f, _, _, .str x, rfl, rfl, SqL.of hf, ?_, ?_⟩
    · show atI (bendsL.map V.str) ((n : Int) / 1009 % 17) = _
      rw [show ((n : Int) / 1009 % 17) = ((g : Nat) : Int) by omega]
      exact atI_nat hxv
    refine ⟨_, rfl, _, _, rfl, rfl, ⟨by decide, by decide⟩, _, _, rfl, rfl, (show (0 : Int) < 3 by decide), _, _, rfl, rfl, .inr ⟨_, rfl, ?_⟩⟩
    refine ⟨_, _, rfl, rfl, hxl, ?_, ?_, ?_⟩
    · split <;> decide
    · split <;> decide
    generalize decide ((0 : Int) < (n : Int) / 17153 % 3) = b
    obtain ⟨m, em, hm, hml⟩ := mul_b hxl (List.mem_of_getElem? hx) b
    show ∃ i' j', V.str (cutS (S l) none (some (i : Nat))) = V.str i' ∧ V.str (Txt.mul x (if b = true then 1 else 0)) = V.str j' ∧ _
    rw [em, cut_S0]
    refine ⟨_, _, rfl, rfl, by rw [S_len, S_len, sizeLine_eq, List.length_take]; omega, ?_⟩
    refine ⟨_, rfl, _, rfl, _, rfl, _, rfl, _, _, rfl, rfl, ⟨by decide, by decide⟩, _, _, rfl, rfl, (show (0 : Int) < 3 by decide), _, _, rfl, rfl, .inr ⟨_, rfl, ?_⟩⟩
    generalize decide ((n : Int) / 17153 % 3 < 2) = c
    have ej : ∃ j : Nat, (j = i ∨ j = i + 1) ∧ V.int ((i : Nat) + (if c = true then 1 else 0)) = V.int (j : Nat) := by
      cases c with
      | false => exact ⟨i, .inl rfl, rfl⟩
      | true => exact ⟨i + 1, .inr rfl, rfl⟩
    obtain ⟨j, hj, ej⟩ := ej
    refine ⟨_, _, rfl, rfl, j, ej, ?_⟩
    refine ⟨_, rfl, by rw [S_len, sizeLine_eq]; omega, ?_⟩
    rw [cut_S1]
    refine ⟨_, _, rfl, rfl, ?_, ?_⟩
    · rw [S_cat, S_len, S_len, List.length_append, List.length_take, List.length_drop, sizeLine_eq]; omega
    rw [S_cat, S_cat]
    exact k _ _ s1 ⟨i, j, m, hi, hj, hm, rfl⟩
  refine ⟨_, pss_cons (ps_set (i := 2) sc_l_bent.nd rfl (Or.inl rfl) (pe_lst (pa_cons pe_str (pa_cons pe_str (pa_cons pe_str (pa_cons pe_str (pa_cons pe_str (pa_cons pe_str (pa_cons pe_str (pa_cons pe_str (pa_cons pe_str (pa_cons pe_str (pa_cons pe_str (pa_cons pe_str (pa_cons pe_str (pa_cons pe_str (pa_cons pe_str (pa_cons pe_str (pa_cons pe_str pa_nil))))))))))))))))))) (pss_cons (ps_set (i := 3) sc_l_bent.nd rfl (Or.inl rfl) (pe_op op_mod (pv 1) (pe_op op_add (pe_callB call_len_str (by rfl) T.z_len (by decide +kernel) (pa_cons (pv 0) pa_nil)) pe_int))) h2), ?_⟩
  refine ⟨by show 17 ≤ sizeLine; decide, fun f hf => ?_⟩
  have s1 := same_new (o := .lst (bendsL.map V.str)) hf
  have hlp : (0 : Int) < ((l.length + 1 : Nat) : Int) := by omega
  obtain ⟨i, hi, ei⟩ := modAt n hlp
  refine ⟨_, rfl, _, rfl, _, rfl, by rw [S_len, sizeLine_eq]; omega, _, _, rfl, rfl, _, _, rfl, rfl, by rw [S_len]; omega, ?_⟩
  have ev : V.int (((n : Nat) : Int) % (((S l).length : Nat) + 1)) = V.int (i : Nat) := by
    rw [S_len, ← ei]; exact congrArg V.int (by rw [show ((l.length : Nat) : Int) + 1 = ((l.length + 1 : Nat) : Int) by omega])
  have := q2 f _ i s1 upd_same (by omega)
  rw [← ev] at this
  exact this
end
end KW

/-! part KLaw10 -/
set_option maxHeartbeats 4000000
namespace KW
open PySem PySem.Spec PyProof.Rows L2 KM SX
section
variable {P : Program} {w : World} {K : PySem.W.Frag} {mg : Str → Option Value} {base : Heap}
/-- a text of at most so many signs, of such a weight -/
structure Bd (x : Str) (n w : Nat) : Prop where
  len : x.length ≤ n
  wt : (x.cps.toList.map gBc).sum ≤ w
  asc : ∀ c ∈ x.cps.toList, c < 128 ∧ c ≠ 10
theorem cps_app (a b : Str) : (a ++ b).cps.toList = a.cps.toList ++ b.cps.toList := TL.tl_append a b
theorem sl2 (a b : Str) : (a ++ b).length = a.length + b.length := by
  show (S a.cps.toList ++ S b.cps.toList).length = _
  rw [S_cat, S_len, List.length_append]
  rfl
theorem Bd.app {x y : Str} {n m w v : Nat} (a : Bd x n w) (b : Bd y m v) : Bd (x ++ y) (n + m) (w + v) := by
  refine ⟨by rw [sl2]; have := a.len; have := b.len; omega, ?_, fun c hc => ?_⟩
  · rw [cps_app, List.map_append, List.sum_append]
    have := a.wt; have := b.wt; omega
  · rw [cps_app] at hc
    rcases List.mem_append.mp hc with h | h
    · exact a.asc c h
    · exact b.asc c h
def bdB (x : Str) (n w : Nat) : Bool := decide (x.length ≤ n) && decide ((x.cps.toList.map gBc).sum ≤ w) && x.cps.toList.all fun c => decide (c < 128) && decide (c ≠ 10)
theorem bd_of {x : Str} {n w : Nat} (h : bdB x n w = true) : Bd x n w := by
  unfold bdB at h
  simp only [Bool.and_eq_true, decide_eq_true_eq, List.all_eq_true] at h
  exact ⟨h.1.1, h.1.2, fun c hc => h.2 c hc⟩
theorem bd_mem {xs : List Str} {n w : Nat} (h : (xs.all fun x => bdB x n w) = true) {x : Str} (hx : x ∈ xs) : Bd x n w := bd_of (List.all_eq_true.mp h x hx)
theorem bd_join {n w : Nat} : ∀ {ys : List Str}, (∀ y ∈ ys, Bd y n w) → Bd (Txt.join "" ys) (n * ys.length) (w * ys.length) := by
  intro ys h
  rw [TL.join_eq]
  induction ys with
  | nil => exact ⟨Nat.zero_le _, Nat.zero_le _, fun c hc => by cases hc⟩
  | cons y ys ih =>
    have hy := h y List.mem_cons_self
    have ih := ih fun z hz => h z (List.mem_cons_of_mem _ hz)
    cases ys with
    | nil => 
      show Bd y _ _
      simpa using hy
    | cons z r =>
      have e0 : Bd ("" : Str) 0 0 := bd_of (by decide +kernel)
      have := (hy.app e0).app ih
      show Bd (y ++ "" ++ Str.join "" (z :: r)) _ _
      refine ⟨?_, ?_, this.asc⟩
      · have := this.len; simp only [List.length_cons, Nat.mul_add, Nat.mul_one] at this ⊢; omega
      · have := this.wt; simp only [List.length_cons, Nat.mul_add, Nat.mul_one] at this ⊢; omega
/-- what a line of the draw is, bent so many times -/
structure Gd (k : Nat) (l : List Nat) : Prop where
  len : l.length ≤ 70 + 8 * k
  wt : (l.map gBc).sum ≤ 182 + 30 * k
  asc : ∀ c ∈ l, c < 128
  ten : l.count 10 ≤ k
theorem Bd.gd {x : Str} {n w : Nat} (b : Bd x n w) (hn : n ≤ 70) (hw : w ≤ 182) : Gd 0 x.cps.toList := by
  refine ⟨?_, ?_, fun c hc => (b.asc c hc).1, ?_⟩
  · have := b.len
    have e : x.length = x.cps.toList.length := TL.len_tl x
    omega
  · have := b.wt; omega
  · rw [List.count_eq_zero.mpr fun h => (b.asc 10 h).2 rfl]; exact Nat.zero_le _
theorem getB (u c x y : Str) : atI [V.str y, V.str x] (if decide (V.str u = V.str c) = true then 1 else 0) = some (V.str (if u = c then x else y)) := by
  have e : decide (V.str u = V.str c) = decide (u = c) := by
    rw [decide_eq_decide]; exact ⟨fun z => by injection z, fun z => by rw [z]⟩
  rw [e]
  by_cases h : u = c
  · rw [decide_eq_true h, if_pos h]; rfl
  · rw [decide_eq_false h, if_neg h]; rfl
theorem getN (u c x y : Str) : atI [V.str y, V.str x] (if (!decide (V.str u = V.str c)) = true then 1 else 0) = some (V.str (if u = c then y else x)) := by
  have e : decide (V.str u = V.str c) = decide (u = c) := by
    rw [decide_eq_decide]; exact ⟨fun z => by injection z, fun z => by rw [z]⟩
  rw [e]
  by_cases h : u = c
  · rw [decide_eq_true h, if_pos h]; rfl
  · rw [decide_eq_false h, if_neg h]; rfl
def spLineL (K : PySem.W.Frag) : Sp := fun vs H Q _ => ∃ (c sp k : Nat) (ns : List Int), vs = [.ref c, .ref sp] ∧ (∀ o, SqL K (upd H sp o) c (ns.map V.int)) ∧ ns.length ≤ 63 ∧ H sp = some (.lst [.int (k : Nat)]) ∧ k ≤ 900000 ∧
  ∀ (H' : Hp) (k' : Nat) (l : List Nat), Same (upd H sp (.lst [.int (k' : Nat)])) H' → k' ≤ k + 4 → Gd 0 l → Q (.str (S l)) H'
theorem ok_l_line (T : Txt K mg w) : Good P w K mg base 2 (He.ga K "_law_line") ["_law_cells", "_law_spot"] (spLineL K) := by
  have GC := ok_l_cell (P := P) (base := base) T
  have GN := ok_l_name (P := P) (base := base) T
  refine good_of T.f_l_line sc_l_line (fun _ _ _ _ _ _ us hl => match us, hl with | [_, _], _ => rfl) (fun vs H Q E h => by obtain ⟨_, _, _, _, rfl, _⟩ := h; rfl) (fun cdv A outer s H vs Q E hr h => ?_)
  obtain ⟨c, sp, k, ns, rfl, ncs, hn, hs, hk, q⟩ := h
  refine ⟨_, (pss_cons (ps_set (i := 2) sc_l_line.nd rfl (Or.inl rfl) (pf GC (hr.mono (by decide)) T.g_l_cell px (pa_cons (pv 0) (pa_cons (pv 1) pa_nil))))
      (pss_cons (ps_set (i := 3) sc_l_line.nd rfl (Or.inl rfl) (pe_ix ix_list (pe_lst (pa_cons pe_str (pa_cons pe_str (pa_cons pe_str (pa_cons pe_str (pa_cons pe_str (pa_cons pe_str pa_nil))))))) (pe_op op_mod (pv 2) pe_int) (fun _ _ => rfl)))
      (pss_cons (ps_set (i := 4) sc_l_line.nd rfl (Or.inl rfl) (pe_bm PySem.F.plainAttrs_str PySem.F.slot_str_join PySem.F.type_str_join mt_join pe_str (pa_cons (pe_lcX (W := fun cls d _ H => E cls d H) (E0 := E) (own := [("_law_k", 9)]) (g := gName 9) rfl rfl (takes_of rfl rfl rfl rfl) (fun _ _ _ _ z => z) rfl sc_l_line.nd (pi_range1 (by rfl) T.z_range (pa_cons (pe_op op_mod (pe_op op_fdiv (pv 2) pe_int) pe_int) pa_nil)) (blkOk_by (own := [("_law_k", 9)]) (N := N_l_line) (sc := defScope s_l_line) (by decide +kernel)) (fun _ _ _ _ _ => pg_name (i := 9) sc_l_line.nd rfl (Or.inl rfl)) (fun _ _ _ _ _ _ _ hx => (pe_op op_add_str pe_str (pf GN (hr.mono (by decide)) T.g_l_name hx (pa_cons (pf GC (hr.mono (by decide)) T.g_l_cell hx (pa_cons (pv 0) (pa_cons (pv 1) pa_nil))) pa_nil))))) pa_nil)))
      (pss_cons (ps_set (i := 5) sc_l_line.nd rfl (Or.inl rfl) (pe_op op_add_str (pe_op op_add_str (pv 3) pe_str) (pf GN (hr.mono (by decide)) T.g_l_name px (pa_cons (pe_op op_fdiv (pv 2) pe_int) pa_nil))))
      (pss_cons (ps_set (i := 6) sc_l_line.nd rfl (Or.inl rfl) (pe_ix ix_list (pe_lst (pa_cons pe_str (pa_cons pe_str (pa_cons pe_str (pa_cons pe_str (pa_cons pe_str pa_nil)))))) (pe_op op_mod (pe_op op_fdiv (pv 2) pe_int) pe_int) (fun _ _ => rfl)))
      (pss_cons (ps_if (pt_cmpR op_in_seq (pv 3) (pe_tup (pa_cons pe_str (pa_cons pe_str pa_nil))) rfl) (pss_cons (ps_set (i := 7) sc_l_line.nd rfl (Or.inl rfl) (pe_ix ix_list (pe_lst (pa_cons pe_str (pa_cons pe_str (pa_cons pe_str pa_nil)))) (pe_op op_mod (pe_op op_fdiv (pv 2) pe_int) pe_int) (fun _ _ => rfl)))
      (pss_one (ps_ret (pe_op op_add_str (pe_op op_add_str (pe_op op_add_str (pv 5) pe_str) (pv 6)) (pe_ix ix_list (pe_lst (pa_cons (pe_op op_add_str pe_str (pv 7)) (pa_cons pe_str pa_nil))) (pe_callTy call_int1 (by rfl) T.z_int (by decide +kernel) (pa_cons (pe_cmpR op_eq (pv 3) pe_str (nomark _)) pa_nil)) (fun _ _ => rfl)))))) pss_nil)
      (pss_cons (ps_set (i := 8) sc_l_line.nd rfl (Or.inl rfl) (pe_ix ix_list (pe_lst (pa_cons pe_str (pa_cons pe_str pa_nil))) (pe_callTy call_int1 (by rfl) T.z_int (by decide +kernel) (pa_cons (pe_cmpR op_eq (pv 4) pe_str (nomark _)) pa_nil)) (fun _ _ => rfl)))
      (pss_cons (ps_if (pt_cmpR op_eq (pv 3) pe_str (nomark _)) (pss_one (ps_ret (pe_op op_add_str (pe_op op_add_str (pe_op op_add_str (pe_op op_add_str (pv 5) pe_str) (pv 4)) (pe_ix ix_list (pe_lst (pa_cons pe_str (pa_cons pe_str pa_nil))) (pe_callTy call_int1 (by rfl) T.z_int (by decide +kernel) (pa_cons (pe_cmpR op_eq (pv 4) pe_str (nomark _)) pa_nil)) (fun _ _ => rfl))) (pf GN (hr.mono (by decide)) T.g_l_name px (pa_cons (pe_op op_fdiv (pv 2) pe_int) pa_nil))))) pss_nil)
      (pss_one (ps_ret (pe_op op_add_str (pe_op op_add_str (pe_op op_add_str (pv 5) (pv 8)) (pv 4)) (pe_ix ix_list (pe_lst (pa_cons (pe_op op_add_str pe_str (pv 6)) (pa_cons pe_str pa_nil))) (pe_callTy call_int1 (by rfl) T.z_int (by decide +kernel) (pa_cons (pe_cmpR op_ne (pv 3) pe_str (nomark _)) pa_nil)) (fun _ _ => rfl))))))))))))), ?_⟩
  refine ⟨_, rfl, _, rfl, c, sp, k, ns, rfl, ncs, hn, hs, by omega, fun n hn2 => ?_⟩
  refine ⟨by show 6 ≤ sizeLine; decide, fun f1 hf1 => ?_⟩
  have getL : ∀ (xs : List Str) (m : Nat), 0 < xs.length → ∃ x, x ∈ xs ∧ atI (xs.map V.str) (((m : Nat) : Int) % (xs.length : Nat)) = some (V.str x) := by
    intro xs m h
    obtain ⟨j, hj, ej⟩ := modAt m (n := xs.length) (by omega)
    refine ⟨xs[j], List.getElem_mem hj, ?_⟩
    rw [ej]
    exact atI_nat (by rw [List.getElem?_map, List.getElem?_eq_getElem hj]; rfl)
  obtain ⟨word, hw, ew⟩ := getL sortsL n (by decide)
  refine ⟨_, rfl, _, _, rfl, rfl, (show (0 : Int) < 6 by decide), f1, _, _, .str word, rfl, rfl, SqL.of upd_same, ew, ?_⟩
  have hm4 : ∃ m : Nat, m ≤ 3 ∧ ((n : Nat) : Int) / 6 % 4 = (m : Nat) := ⟨n / 6 % 4, by omega, by omega⟩
  obtain ⟨m, hm, em⟩ := hm4
  refine ⟨rfl, _, rfl, _, _, rfl, rfl, ⟨by decide, by decide⟩, _, _, rfl, rfl, (show (0 : Int) < 4 by decide), ?_⟩
  have s1 : Same (upd H sp (.lst [.int ((k + 1 : Nat) : Int)])) (upd (upd H sp (.lst [.int ((k + 1 : Nat) : Int)])) f1 (.lst (sortsL.map V.str))) := same_new hf1
  refine ⟨_, rfl, by omega, by omega, fun D hD => lc_it walk_range (fun i H' => ∃ ys : List Str, ys.length = i ∧ (∀ y ∈ ys, ∃ x, x ∈ namesT ∧ y = " " ++ x) ∧ Same (upd H sp (.lst [.int ((k + 1 + i : Nat) : Int)])) H' ∧ H' D = some (.lst (ys.map V.str))) ⟨[], rfl, (fun _ h => by cases h), s1.trans (same_new hD), upd_same⟩ (fun _ _ _ _ => trivial) (fun i x H2 H3 hi h hy => ?_) (fun H2 h => ?_)⟩
  · obtain ⟨ys, hl, hys, s2, hD2⟩ := h
    obtain ⟨rfl, rfl⟩ := hy
    have hi3 : i < 4 := by omega
    have nDs : sp ≠ D := ne_of_none (s1 _ _ upd_same) hD
    have hc2 := sq_after s2 ncs
    have hs2 := s2 _ _ (upd_same (H := H) (a := sp) (o := .lst [.int ((k + 1 + i : Nat) : Int)]))
    refine ⟨rfl, ?_⟩
    unfold tYes
    simp only [if_true]
    refine ⟨_, rfl, _, rfl, c, sp, k + 1 + i, ns, rfl, hc2, hn, hs2, by omega, fun n2 hn3 => ⟨n2, rfl, fun H4 x hx s4 => ?_⟩⟩
    have s5 : Same (upd H sp (.lst [.int ((k + 1 + (i + 1) : Nat) : Int)])) H4 := fun b o e => by
      refine s4 _ _ ?_
      by_cases z : b = sp
      · subst z; rw [upd_same] at e ⊢; exact e
      · rw [upd_ne z] at e ⊢; exact s2 _ _ (by rw [upd_ne z]; exact e)
    have hD4 : H4 D = some (.lst (ys.map V.str)) := s4 _ _ (by rw [upd_ne (Ne.symm nDs)]; exact hD2)
    have hxl : x.length ≤ 20 := by
      have : ∀ y ∈ namesT, y.length ≤ 20 := by decide +kernel
      exact this x hx
    refine ⟨_, _, rfl, rfl, ?_, _, hD4, ?_, ys ++ [" " ++ x], ?_, ?_, ?_, ?_⟩
    · rw [sizeLine_eq]; show 1 + x.length ≤ _; omega
    · rw [List.length_map, sizeLine_eq]; omega
    · rw [List.length_append, hl]; rfl
    · intro y hy
      rcases List.mem_append.mp hy with h | h
      · exact hys y h
      · exact ⟨x, hx, List.mem_singleton.mp h⟩
    · intro b o e
      have := s5 _ _ e
      have nb : b ≠ D := by
        intro z
        subst z
        by_cases z : b = sp
        · exact nDs z.symm
        · rw [upd_ne z] at e
          have := s1 _ _ (show upd H sp (.lst [.int ((k + 1 : Nat) : Int)]) b = _ by rw [upd_ne z]; exact e)
          exact nomatch (this.symm.trans hD : some o = none)
      rw [upd_ne nb]
      exact this
    · rw [upd_same, List.map_append]; rfl
  obtain ⟨ys, hl, hys, s2, hD2⟩ := h
  have hsum : (ys.map (·.length)).sum ≤ ys.length * 21 := by
    clear hl hD2
    induction ys with
    | nil => exact Nat.le_refl _
    | cons y ys ih =>
      have := ih fun z hz => hys z (List.mem_cons_of_mem _ hz)
      obtain ⟨x, hx, rfl⟩ := hys y List.mem_cons_self
      have h2 : ∀ z ∈ namesT, (" " ++ z).length ≤ 21 := by decide +kernel
      have := h2 x hx
      simp only [List.map_cons, List.sum_cons, List.length_cons]
      omega
  refine ⟨_, D, ys, rfl, rfl, .inl (SqL.of hD2), ?_, ?_⟩
  · show _ + ys.length * 0 ≤ _
    omega
  have hwl : word.length ≤ 10 := by
    have : ∀ y ∈ sortsL, y.length ≤ 10 := by decide +kernel
    exact this word hw
  have bw : Bd word 6 12 := bd_mem (xs := sortsL) (by decide +kernel) hw
  have bys : ∀ y ∈ ys, Bd y 11 22 := by
    intro y hy
    obtain ⟨x, hx, rfl⟩ := hys y hy
    exact (bd_of (x := " ") (n := 1) (w := 2) (by decide +kernel)).app (bd_mem (xs := namesT) (n := 10) (w := 20) (by decide +kernel) hx)
  have hyl : ys.length ≤ 3 := by rw [hl]; omega
  have bj : Bd (Txt.join "" ys) 33 66 := by
    have := bd_join bys
    exact ⟨by have := this.len; omega, by have := this.wt; omega, this.asc⟩
  generalize Txt.join "" ys = jn at bj
  refine ⟨_, rfl, _, _, rfl, rfl, by rw [sizeLine_eq]; show word.length + 1 ≤ _; omega, _, rfl, _, _, rfl, rfl, ⟨by decide, by decide⟩, n / 24, rfl, fun H3 nm hnm s3 => ?_⟩
  have hnl : nm.length ≤ 20 := by
    have : ∀ y ∈ namesT, y.length ≤ 20 := by decide +kernel
    exact this nm hnm
  refine ⟨_, _, rfl, rfl, by rw [sl2, sizeLine_eq]; show word.length + 1 + nm.length ≤ _; omega, ?_⟩
  refine ⟨by show 5 ≤ sizeLine; decide, fun f2 hf2 => ?_⟩
  obtain ⟨a, ha, ea⟩ := getL ["p", "~q & p(a)", "no", "all X0:a. p(X0)", "a = f(b)"] (n / 240) (by decide)
  refine ⟨_, rfl, _, _, rfl, rfl, ⟨by decide, by decide⟩, _, _, rfl, rfl, (show (0 : Int) < 5 by decide), f2, _, _, .str a, rfl, rfl, SqL.of upd_same, ea, ?_⟩
  refine ⟨_, rfl, by show 2 ≤ sizeLine; decide, fun u7 hu7 => ?_⟩
  refine ⟨_, _, rfl, .inr (SqT.of upd_same), rfl, by decide +kernel, _, rfl, ?_⟩
  show if inV (.str word) ((["taken", "shown"] : List Str).map V.str) = true then _ else _
  rw [inV_strs]
  refine iteD (fun c3 => ?_) (fun c3 => ?_)
  · refine ⟨by show 3 ≤ sizeLine; decide, fun f3 hf3 => ?_⟩
    obtain ⟨g, hg, eg⟩ := getL ["held(0)", "pair(use(p), held(1))", "take([p -> q], held(0))"] (n / 1200) (by decide)
    refine ⟨_, rfl, _, _, rfl, rfl, ⟨by decide, by decide⟩, _, _, rfl, rfl, (show (0 : Int) < 3 by decide), f3, _, _, .str g, rfl, rfl, SqL.of upd_same, eg, ?_⟩
    refine ⟨_, rfl, _, _, rfl, rfl, by rw [sl2, sl2, sizeLine_eq]; show word.length + 1 + nm.length + 2 ≤ _; omega, ?_⟩
    have hal : a.length ≤ 20 := by
      have : ∀ y ∈ (["p", "~q & p(a)", "no", "all X0:a. p(X0)", "a = f(b)"] : List Str), y.length ≤ 20 := by decide +kernel
      exact this a ha
    have hgl : g.length ≤ 30 := by
      have : ∀ y ∈ (["held(0)", "pair(use(p), held(1))", "take([p -> q], held(0))"] : List Str), y.length ≤ 30 := by decide +kernel
      exact this g hg
    refine ⟨_, rfl, _, _, rfl, rfl, by rw [sl2, sl2, sl2, sizeLine_eq]; show word.length + 1 + nm.length + 2 + a.length ≤ _; omega, ?_⟩
    refine ⟨_, rfl, _, _, rfl, rfl, by rw [sizeLine_eq]; show 4 + g.length ≤ _; omega, ?_⟩
    refine ⟨by show 2 ≤ sizeLine; decide, fun f4 hf4 => ?_⟩
    refine ⟨_, rfl, rfl, .inr ⟨_, rfl, ?_⟩⟩
    refine ⟨f4, _, _, .str (if word = "taken" then "" else " by " ++ g : Str), rfl, rfl, SqL.of upd_same, getB _ _ _ _, ?_⟩
    refine ⟨_, _, rfl, rfl, ?_, ?_⟩
    · rw [sl2, sl2, sl2, sl2, sizeLine_eq]
      have : (if word = "taken" then "" else " by " ++ g : Str).length ≤ 40 := by
        split
        · exact Nat.zero_le _
        · rw [sl2]; show 4 + g.length ≤ _; omega
      show word.length + 1 + nm.length + 2 + a.length + _ ≤ _
      omega
    · have bt : Bd (if word = "taken" then "" else " by " ++ g : Str) 27 84 := by
        split
        · exact bd_of (by decide +kernel)
        · exact (bd_of (x := " by ") (n := 4) (w := 8) (by decide +kernel)).app (bd_mem (n := 23) (w := 76) (by decide +kernel) hg)
      have ball := ((((bw.app (bd_of (x := " ") (n := 1) (w := 2) (by decide +kernel))).app (bd_mem (xs := namesT) (n := 10) (w := 20) (by decide +kernel) hnm)).app (bd_of (x := ": ") (n := 2) (w := 14) (by decide +kernel))).app (bd_mem (n := 15) (w := 50) (by decide +kernel) ha)).app bt
      exact q _ (k + 1 + ((n : Int) / 6 % 4).toNat) (word ++ " " ++ nm ++ ": " ++ a ++ (if word = "taken" then "" else " by " ++ g : Str)).cps.toList ((((s2.trans s3).trans (same_new hf2)).trans (same_new hu7)).trans ((same_new hf3).trans (same_new hf4))) (by omega) (ball.gd (by decide) (by decide))
  have hjl : jn.length ≤ 33 := bj.len
  have hal : a.length ≤ 20 := by
    have : ∀ y ∈ (["p", "~q & p(a)", "no", "all X0:a. p(X0)", "a = f(b)"] : List Str), y.length ≤ 20 := by decide +kernel
    exact this a ha
  refine ⟨by show 2 ≤ sizeLine; decide, fun f3 hf3 => ?_⟩
  refine ⟨_, rfl, rfl, .inr ⟨_, rfl, ?_⟩⟩
  refine ⟨f3, _, _, .str (if jn = "" then "" else ":" : Str), rfl, rfl, SqL.of upd_same, getB _ _ _ _, ?_⟩
  have bcol : Bd (if jn = "" then "" else ":" : Str) 1 12 := by split <;> exact bd_of (by decide +kernel)
  have hcl := bcol.len
  refine ⟨_, rfl, rfl, _, rfl, ?_⟩
  refine iteD (fun c4 => ?_) (fun c4 => ?_)
  · refine ⟨_, rfl, _, _, rfl, rfl, by rw [sl2, sl2, sizeLine_eq]; show word.length + 1 + nm.length + 1 ≤ _; omega, ?_⟩
    refine ⟨_, rfl, _, _, rfl, rfl, by rw [sl2, sl2, sl2, sizeLine_eq]; show word.length + 1 + nm.length + 1 + jn.length ≤ _; omega, ?_⟩
    refine ⟨by show 2 ≤ sizeLine; decide, fun f4 hf4 => ?_⟩
    refine ⟨_, rfl, rfl, .inr ⟨_, rfl, ?_⟩⟩
    refine ⟨f4, _, _, .str (if jn = "" then " " else " -> " : Str), rfl, rfl, SqL.of upd_same, getB _ _ _ _, ?_⟩
    have barr : Bd (if jn = "" then " " else " -> " : Str) 4 18 := by split <;> exact bd_of (by decide +kernel)
    have hrl := barr.len
    refine ⟨_, _, rfl, rfl, by rw [sl2, sl2, sl2, sl2, sizeLine_eq]; show word.length + 1 + nm.length + 1 + jn.length + _ ≤ _; omega, ?_⟩
    refine ⟨_, rfl, _, _, rfl, rfl, ⟨by decide, by decide⟩, n / 1200, rfl, fun H4 x hx s4 => ?_⟩
    have bx := bd_mem (xs := namesT) (n := 10) (w := 20) (by decide +kernel) hx
    have hxl := bx.len
    refine ⟨_, _, rfl, rfl, by rw [sl2, sl2, sl2, sl2, sl2, sizeLine_eq]; show word.length + 1 + nm.length + 1 + jn.length + _ + _ ≤ _; omega, ?_⟩
    have ball := (((((bw.app (bd_of (x := " ") (n := 1) (w := 2) (by decide +kernel))).app (bd_mem (xs := namesT) (n := 10) (w := 20) (by decide +kernel) hnm)).app (bd_of (x := ":") (n := 1) (w := 12) (by decide +kernel))).app bj).app barr).app bx
    exact q _ (k + 1 + ((n : Int) / 6 % 4).toNat) (word ++ " " ++ nm ++ ":" ++ jn ++ (if jn = "" then " " else " -> " : Str) ++ x).cps.toList (((((s2.trans s3).trans (same_new hf2)).trans (same_new hu7)).trans ((same_new hf3).trans (same_new hf4))).trans s4) (by omega) (ball.gd (by decide) (by decide))
  refine ⟨_, rfl, _, rfl, _, _, rfl, rfl, by rw [sl2, sl2, sizeLine_eq]; show word.length + 1 + nm.length + _ ≤ _; omega, ?_⟩
  refine ⟨_, rfl, _, _, rfl, rfl, by rw [sl2, sl2, sl2, sizeLine_eq]; show word.length + 1 + nm.length + _ + jn.length ≤ _; omega, ?_⟩
  refine ⟨_, rfl, _, _, rfl, rfl, by rw [sizeLine_eq]; show 4 + a.length ≤ _; omega, ?_⟩
  refine ⟨by show 2 ≤ sizeLine; decide, fun f4 hf4 => ?_⟩
  refine ⟨_, rfl, rfl, .inr ⟨_, rfl, ?_⟩⟩
  refine ⟨f4, _, _, .str (if word = "mean" then " by " ++ a else "" : Str), rfl, rfl, SqL.of upd_same, getN _ _ _ _, ?_⟩
  have bt : Bd (if word = "mean" then " by " ++ a else "" : Str) 19 58 := by
    split
    · exact (bd_of (x := " by ") (n := 4) (w := 8) (by decide +kernel)).app (bd_mem (n := 15) (w := 50) (by decide +kernel) ha)
    · exact bd_of (by decide +kernel)
  have htl := bt.len
  refine ⟨_, _, rfl, rfl, by rw [sl2, sl2, sl2, sl2, sizeLine_eq]; show word.length + 1 + nm.length + _ + jn.length + _ ≤ _; omega, ?_⟩
  have ball := ((((bw.app (bd_of (x := " ") (n := 1) (w := 2) (by decide +kernel))).app (bd_mem (xs := namesT) (n := 10) (w := 20) (by decide +kernel) hnm)).app bcol).app bj).app bt
  exact q _ (k + 1 + ((n : Int) / 6 % 4).toNat) (word ++ " " ++ nm ++ (if jn = "" then "" else ":" : Str) ++ jn ++ (if word = "mean" then " by " ++ a else "" : Str)).cps.toList ((((s2.trans s3).trans (same_new hf2)).trans (same_new hu7)).trans ((same_new hf3).trans (same_new hf4))) (by omega) (ball.gd (by decide) (by decide))
end
end KW

/-! part KPlain1 -/
set_option maxHeartbeats 4000000
/-! What a part of a text tells, within the whole text and alone. Plain Lean. -/
namespace KW
open PySem PySem.Spec PyProof.Rows L2 KM SX
/-- short, and of few signs by which something stands deeper -/
structure Sm (l : List Nat) : Prop where
  len : l.length ≤ 100
  deep : (l.map gBc).sum ≤ 350
theorem sum_sub {g : Nat → Nat} {m l : List Nat} (h : m.Sublist l) : (m.map g).sum ≤ (l.map g).sum := by
  induction h with
  | slnil => exact Nat.le_refl _
  | cons a h ih => simp only [List.map_cons, List.sum_cons]; omega
  | cons_cons a h ih => simp only [List.map_cons, List.sum_cons]; omega
theorem Sm.sub {m l : List Nat} (h : m.Sublist l) (s : Sm l) : Sm m := ⟨Nat.le_trans h.length_le s.len, Nat.le_trans (sum_sub h) s.deep⟩
theorem scan_num (n at' : Nat) (l : List Nat) : ∀ t ∈ scan n at' l, numOk t.w = true := by
  intro t h
  obtain ⟨e, _, _⟩ := scan_word n at' l t h
  rw [e]
  unfold numOk
  split
  · rename_i k q
    have : ∀ x : List Nat, ∀ k, wordL x = .var k → 0 ≤ k := by
      intro x k q
      unfold wordL at q
      split at q
      · cases q
      · split at q
        · unfold wordOf at q
          split at q
          · cases q
          · split at q
            · cases q
            · split at q
              · cases q
              · split at q
                · injection q with q; rw [← q]; omega
                · cases q
        · split at q
          · cases q
          · split at q <;> cases q
    exact decide_eq_true (this _ _ q)
  · rfl
theorem inv_any {p : Wd → Bool} (l : List Nat) (many : Int) {t : Tk} (ht : bL t = 0) (hp : ∀ u ∈ toks l, p u.w = true) : Inv0 p ((psOf l many).add [t]) := by
  refine ⟨(inv_psOf l many ht).ly, fun q hq => ?_⟩
  obtain ⟨u, hu, rfl⟩ := List.mem_map.mp hq
  exact hp u hu
theorem run_keep {p : Wd → Bool} {len : Nat} : ∀ (n : Nat) (S S' : PS), Inv0 p S → runF len n S = .ok S' → Inv0 p S' ∧ S'.todo = []
  | 0, _, _, _, h => by cases h
  | n + 1, S, S', I, h => by
    unfold runF at h
    cases e : S.todo with
    | nil =>
      rw [e] at h
      injection h with h
      subst h
      exact ⟨I, e⟩
    | cons t ts =>
      rw [e] at h
      obtain ⟨S1, h1, h2⟩ := bind_ok h
      exact run_keep n S1 S' (inv_step e I h1).1 h2
theorem phi_ps {f : Wd → Nat} {β : Tk → Nat} {γ : Md → Nat} (l : List Nat) (many : Int) (t : Tk) : phi f β γ ((psOf l many).add [t]) = ((toks l).map fun u => f u.w).sum + β t := by
  unfold phi psOf PS.add
  simp only [List.map_map, List.map_append, List.map_cons, List.map_nil, List.append_nil, List.sum_cons, List.sum_nil, Nat.add_zero]
  rfl
/-- what is read of a short text is small -/
theorem run_small {l : List Nat} (s : Sm l) {many : Int} (h1 : many ≤ 1000) {t : Tk} (ht : bL t = 0) (hB : bB t = 0) (hS : bS t = 0) (hM : bM t ≤ 100) {S' : PS} {d : Md} (h : runOf l many t = .ok S') (e : S'.made = [d]) :
    gB d ≤ 350 ∧ gS d ≤ 2200 := by
  have hlen := s.len
  have m1 := mu_psOf l many t
  have hmany : ((psOf l many).add [t]).many = many := rfl
  obtain ⟨a, b⟩ := run_bnd (len := l.length) _ _ S' (Nat.lt_succ_self _) (inv_any l many ht (scan_num _ _ _)) (by rw [hmany]; omega) h
  rw [phi_ps, hB] at a
  rw [phi_ps, hS] at b
  have c1 := scan_aB l.length 0 l
  have c2 := scan_aS l.length 0 l
  have c3 := s.deep
  unfold toks at a b
  have d1 : gB d ≤ phi aB bB gB S' := by unfold phi; rw [e]; simp only [List.map_cons, List.map_nil, List.sum_cons, List.sum_nil]; omega
  have d2 : gS d ≤ phi aS bS gS S' := by unfold phi; rw [e]; simp only [List.map_cons, List.map_nil, List.sum_cons, List.sum_nil]; omega
  omega
theorem part_slice {len1 sh : Nat} {m : List Nat} {e : List PW} {S : PS} (B : Beh sh len1 m.length e) (hr : S.rest = ((toks m).map (Tok.up sh)).map Tok.pw ++ e) (ht : S.todo = []) (hm : S.made = []) (many : Int) (t : Tk) (ns : runOf m many t ≠ .stuck) :
    runF len1 (mu (partS many t S) + 1) (partS many t S) = mapR sh e (runOf m many t) := by
  have e1 : partS many t S = extS sh e ((psOf m many).add [t]) := by
    obtain ⟨rest, mn, td, md⟩ := S
    simp only at hr ht hm
    subst ht hm hr
    unfold partS extS PS.add psOf
    simp only [List.map_map, List.append_nil, PS.mk.injEq, and_true, true_and, List.append_cancel_right_eq]
    rfl
  rw [e1, ext_run B]
  have h2 : mu ((psOf m many).add [t]) ≤ mu (extS sh e ((psOf m many).add [t])) := by
    unfold mu phi extS
    simp only [List.map_append, List.sum_append, List.map_map]
    have : (List.map ((fun _ => 100) ∘ shW sh) ((psOf m many).add [t]).rest).sum = (List.map (fun _ => 100) ((psOf m many).add [t]).rest).sum := rfl
    omega
  rw [run_fuel (mu ((psOf m many).add [t]) + 1) _ _ (by omega) ns]
  rfl
def nBy (w : Wd) : Bool := !decide (w = .told "by")
theorem stmt_slice {len1 sh : Nat} {m : List Nat} {e : List PW} {S : PS} (B : Beh sh len1 m.length e) (hr : S.rest = ((toks m).map (Tok.up sh)).map Tok.pw ++ e) (ht : S.todo = []) (hm : S.made = []) (many : Int) (h1 : many ≤ 1000) (s : Sm m) :
    (∃ q, stmtE len1 many S = .err (sh + q) ∧ stmtOut m many = .inr q) ∨
    ∃ (S' : PS) (d : PyData), stmtE len1 many S = .ok (d, true) (extS sh e { S' with made := [] }) ∧ S'.todo = [] ∧ sz d ≤ 2200 ∧ ((∀ u ∈ toks m, nBy u.w = true) → ∀ x ∈ S'.rest, nBy x.w = true) ∧ stmtOut m many = if S'.rest = [] then .inl d else .inr (nowW m.length S'.rest).pos := by
  have hf := stmt_fine m many
  have ns : runOf m many .stmt ≠ .stuck := by rcases hf with ⟨q, e⟩ | ⟨S', d, p, q, e, _⟩ <;> rw [e] <;> simp
  have hp := part_slice B hr ht hm many .stmt ns
  rcases hf with ⟨q, e1⟩ | ⟨S', d, p, q, e1, e2⟩
  · left
    refine ⟨q, ?_, ?_⟩
    · unfold stmtE partE; rw [hp, e1]; rfl
    · unfold stmtOut; rw [e1]; rfl
  · right
    obtain ⟨b1, b2⟩ := run_small s h1 (by decide +kernel) rfl rfl (by decide) e1 e2
    have b1 : p.toNat + 10 * (q - 1).toNat ≤ 350 := b1
    have b2 : sz d + 1 ≤ 2200 := b2
    have hp4 : p ≤ 400 := by omega
    have hq4 : q ≤ 40 := by omega
    have hk := run_keep (len := m.length) _ _ S' (inv_any (p := fun _ => true) m many (t := .stmt) (by decide +kernel) (fun _ _ => rfl)) e1
    refine ⟨S', d, ?_, hk.2, by omega, fun hn => ?_, ?_⟩
    · unfold stmtE partE
      rw [hp, e1]
      show Er.bind (match S'.made with | d :: l => Er.ok d { extS sh e S' with made := l } | [] => Er.err 0) _ = _
      rw [e2]
      show Er.ok (d, decide (p ≤ 400) && decide (q ≤ 40)) _ = _
      rw [decide_eq_true hp4, decide_eq_true hq4]
      rfl
    · exact (run_keep (len := m.length) _ _ S' (inv_any m many (t := .stmt) (by decide +kernel) hn) e1).1.wd
    · unfold stmtOut
      rw [e1, outF_made e2]
      by_cases c : S'.rest = []
      · rw [if_pos c, if_pos c]
        show (if p > 400 ∨ q > 40 then _ else _) = _
        rw [if_neg (by omega)]
      · rw [if_neg c, if_neg c]
theorem ground_slice {len1 sh : Nat} {m : List Nat} {e : List PW} {S : PS} (B : Beh sh len1 m.length e) (hr : S.rest = ((toks m).map (Tok.up sh)).map Tok.pw ++ e) (ht : S.todo = []) (hm : S.made = []) (s : Sm m) :
    (∃ q, groundE len1 S = .err (sh + q) ∧ groundOut m 0 = .inr q) ∨
    ∃ (S' : PS) (d : PyData), groundE len1 S = .ok d (extS sh e { S' with made := [] }) ∧ sz d ≤ 2200 ∧ groundOut m 0 = if S'.rest = [] then .inl d else .inr (nowW m.length S'.rest).pos := by
  have hf := ground_fine m 0
  have ns : runOf m 0 .ground ≠ .stuck := by rcases hf with ⟨q, e⟩ | ⟨S', d, p, q, g, e, _⟩ <;> rw [e] <;> simp
  have hp := part_slice B hr ht hm 0 .ground ns
  rcases hf with ⟨q, e1⟩ | ⟨S', d, p, q, g, e1, e2⟩
  · left
    refine ⟨q, ?_, ?_⟩
    · unfold groundE partE; rw [hp, e1]; rfl
    · unfold groundOut; rw [e1]; rfl
  · right
    obtain ⟨b1, b2⟩ := run_small s (by decide) (by decide +kernel) rfl rfl (by decide) e1 e2
    have b1 : p.toNat + 10 * q.toNat + (if g = true then 0 else 1200) ≤ 350 := b1
    have b2 : sz d + 1 ≤ 2200 := b2
    have hg : g = true := by
      cases g with
      | true => rfl
      | false => rw [if_neg (by decide)] at b1; omega
    have hw : ∀ n, wholeG n (.P d p q g) = .inl d := fun n => by
      rw [wholeG_P, if_neg]
      rintro (z | z | z)
      · omega
      · omega
      · rw [hg] at z; cases z
    refine ⟨S', d, ?_, by omega, ?_⟩
    · unfold groundE partE
      rw [hp, e1]
      show Er.bind (match S'.made with | d :: l => Er.ok d { extS sh e S' with made := l } | [] => Er.err 0) _ = _
      rw [e2]
      show (match wholeG len1 (.P d p q g) with | .inl g => Er.ok g _ | .inr p => .err p) = _
      rw [hw]
      rfl
    · unfold groundOut
      rw [e1, outF_made e2]
      by_cases c : S'.rest = []
      · rw [if_pos c, if_pos c]
        show wholeG m.length (.P d p q g) = _
        rw [hw]
      · rw [if_neg c, if_neg c]
end KW

/-! part KPlain2 -/
set_option maxHeartbeats 4000000
/-! Rows of words, and the words that are still to be read. Plain Lean. -/
namespace KW
open PySem PySem.Spec PyProof.Rows L2 KM SX
def RowOk (t : Tok) : Prop := (t.w = wordL t.src ∧ t.src ≠ []) ∨ (t.w = .fin ∧ t.src = [])
theorem toks_row {l : List Nat} : ∀ t ∈ toks l, RowOk t := fun t h => by
  obtain ⟨a, b, _⟩ := scan_word _ _ _ t h
  exact .inl ⟨a, b⟩
theorem row_all {l : List Nat} {n : Nat} : ∀ t ∈ toks l ++ ends3 n, RowOk t := fun t h => by
  rcases List.mem_append.mp h with h | h
  · exact toks_row t h
  · rw [List.eq_of_mem_replicate h]; exact .inr ⟨rfl, rfl⟩
theorem S_of {x : List Nat} {y : Str} (h : S x = y) : x = y.cps.toList := by rw [← h]
/-- a row's text tells its word -/
theorem row_text {t : Tok} (o : RowOk t) {y : Str} (h : S t.src = y) (hy : y.cps.toList ≠ []) : t.w = wordL y.cps.toList := by
  have e := S_of h
  rcases o with ⟨a, _⟩ | ⟨_, b⟩
  · rw [a, e]
  · rw [e] at b; exact absurd b hy
theorem row_back {t : Tok} (o : RowOk t) {y : Str} (h : t.w = .told y ∨ t.w = .name y ∨ t.w = .mark y) : S t.src = y := by
  rcases o with ⟨a, _⟩ | ⟨a, _⟩
  · rw [a] at h; exact (wordL_src h).symm
  · rw [a] at h; rcases h with h | h | h <;> cases h
theorem sorts_word : ∀ y ∈ sortsL, y.cps.toList ≠ [] ∧ wordL y.cps.toList = .told y := by decide +kernel
theorem row_mark {t : Tok} (o : RowOk t) : S t.src = ":" ↔ t.w = .mark ":" :=
  ⟨fun h => by rw [row_text o h (by decide +kernel)]; decide +kernel, fun h => row_back o (.inr (.inr h))⟩
theorem row_arrow {t : Tok} (o : RowOk t) : S t.src = "->" ↔ t.w = .mark "->" :=
  ⟨fun h => by rw [row_text o h (by decide +kernel)]; decide +kernel, fun h => row_back o (.inr (.inr h))⟩
theorem row_by {t : Tok} (o : RowOk t) : isBy t = true ↔ t.w = .told "by" := by
  unfold isBy
  rw [decide_eq_true_iff]
  constructor
  · rintro ⟨_, h⟩
    rw [row_text o h (by decide +kernel)]; decide +kernel
  · intro h
    exact ⟨by rw [h]; rfl, row_back o (.inl h)⟩
theorem row_nby {t : Tok} (o : RowOk t) : isBy t = false ↔ nBy t.w = true := by
  have := row_by o
  unfold nBy
  cases h : isBy t with
  | true => rw [this.mp h]; simp
  | false =>
    simp only [true_iff]
    rw [decide_eq_false (fun z => by rw [this.mpr z] at h; cases h)]
    rfl
theorem row_name {t : Tok} (o : RowOk t) : t.w.kind = "name" ↔ t.w = .name (S t.src) := by
  constructor
  · intro h
    cases e : t.w with
    | name x => rw [row_back o (.inr (.inl e))]
    | told x => rw [e] at h; exact absurd h (by show ¬ (("told" : Str) = "name"); decide +kernel)
    | num x => rw [e] at h; exact absurd h (by show ¬ (("number" : Str) = "name"); decide +kernel)
    | var x => rw [e] at h; exact absurd h (by show ¬ (("var" : Str) = "name"); decide +kernel)
    | mark x => rw [e] at h; exact absurd h (by show ¬ (("mark" : Str) = "name"); decide +kernel)
    | bad => rw [e] at h; exact absurd h (by show ¬ (("none" : Str) = "name"); decide +kernel)
    | fin => rw [e] at h; exact absurd h (by show ¬ (("end" : Str) = "name"); decide +kernel)
  · intro h; rw [h]; rfl
theorem row_end {t : Tok} (o : RowOk t) : t.w.kind = "end" ↔ t.w = .fin := by
  constructor
  · intro h
    cases e : t.w with
    | fin => rfl
    | told x => rw [e] at h; exact absurd h (by show ¬ (("told" : Str) = "end"); decide +kernel)
    | num x => rw [e] at h; exact absurd h (by show ¬ (("number" : Str) = "end"); decide +kernel)
    | var x => rw [e] at h; exact absurd h (by show ¬ (("var" : Str) = "end"); decide +kernel)
    | mark x => rw [e] at h; exact absurd h (by show ¬ (("mark" : Str) = "end"); decide +kernel)
    | bad => rw [e] at h; exact absurd h (by show ¬ (("none" : Str) = "end"); decide +kernel)
    | name x => rw [e] at h; exact absurd h (by show ¬ (("name" : Str) = "end"); decide +kernel)
  · intro h; rw [h]; rfl
theorem wordOf_nofin {x : List Nat} : wordOf x ≠ .fin := by
  unfold wordOf
  split
  · simp
  · split
    · simp
    · split
      · simp
      · split <;> simp
theorem wordL_nofin {x : List Nat} : wordL x ≠ .fin := by
  unfold wordL
  split
  · simp
  · split
    · exact wordOf_nofin
    · split
      · simp
      · split <;> simp
theorem name_w {t : Tok} : isName t = true ↔ ∃ x, t.w = .name x := by
  unfold isName
  split
  · rename_i x e; exact ⟨fun _ => ⟨_, e⟩, fun _ => rfl⟩
  · rename_i h; exact ⟨fun z => (nomatch z), fun ⟨x, e⟩ => absurd e (h x)⟩
section
variable {ts : List Tok} {n : Nat}
/-- the rows behind the last word are ends -/
theorem rw_lt {i : Nat} (h : i < ts.length) : rw_ (ts ++ ends3 n) i = ts[i] := by
  unfold rw_
  rw [List.getElem?_append_left h, List.getElem?_eq_getElem h]; rfl
theorem rw_ge {i : Nat} (h : ts.length ≤ i) (h2 : i ≤ ts.length + 2) : rw_ (ts ++ ends3 n) i = ⟨.fin, [], n⟩ := by
  unfold rw_ ends3
  rw [List.getElem?_append_right h, List.getElem?_replicate, if_pos (by omega)]; rfl
theorem now_row {i : Nat} (h : i ≤ ts.length + 2) : nowW n ((ts.drop i).map Tok.pw) = (rw_ (ts ++ ends3 n) i).pw := by
  by_cases c : i < ts.length
  · rw [rw_lt c, List.drop_eq_getElem_cons c]; rfl
  · rw [rw_ge (by omega) h, List.drop_eq_nil_of_le (by omega)]; rfl
theorem drop_nil {i : Nat} (h : i ≤ ts.length + 2) (hn : ∀ t ∈ ts, t.w ≠ .fin) : (ts.drop i).map Tok.pw = [] ↔ (rw_ (ts ++ ends3 n) i).w = .fin := by
  by_cases c : i < ts.length
  · rw [rw_lt c, List.drop_eq_getElem_cons c]
    exact ⟨fun z => (nomatch z), fun z => absurd z (hn _ (List.getElem_mem c))⟩
  · rw [rw_ge (by omega) h, List.drop_eq_nil_of_le (by omega)]
    exact ⟨fun _ => rfl, fun _ => rfl⟩
theorem row_mem {i : Nat} (h : i ≤ ts.length + 2) : rw_ (ts ++ ends3 n) i ∈ ts ++ ends3 n := by
  by_cases c : i < ts.length
  · rw [rw_lt c]; exact List.mem_append_left _ (List.getElem_mem c)
  · rw [rw_ge (by omega) h]; exact List.mem_append_right _ (by unfold ends3; simp)
theorem first_row {i : Nat} (h : i ≤ ts.length + 2) : firstL (ts ++ ends3 n) i = (rw_ (ts ++ ends3 n) i).pos := by
  unfold firstL rw_
  have : i < (ts ++ ends3 n).length := by unfold ends3; simp; omega
  rw [List.getElem?_eq_getElem this]; rfl
/-- names side by side -/
theorem take_names : ∀ (m : List Tok), (∀ t ∈ m, RowOk t) → takeNames (m.map Tok.pw) = ((m.takeWhile isName).map (fun t => S t.src), (m.dropWhile isName).map Tok.pw)
  | [], _ => rfl
  | t :: m, h => by
    have ih := take_names m fun u hu => h u (List.mem_cons_of_mem _ hu)
    rw [List.takeWhile_cons, List.dropWhile_cons]
    by_cases c : isName t = true
    · obtain ⟨x, e⟩ := name_w.mp c
      have ex := row_back (h t List.mem_cons_self) (.inr (.inl e))
      rw [if_pos c, if_pos c, List.map_cons, List.map_cons]
      have e2 : t.pw = ⟨.name x, t.pos⟩ := by unfold Tok.pw; rw [e]
      rw [e2]
      show ((x :: (takeNames (m.map Tok.pw)).1, (takeNames (m.map Tok.pw)).2) : List Str × List PW) = _
      rw [ih, ex]
    · rw [if_neg c, if_neg c]
      have hne : ∀ x, t.w ≠ .name x := fun x e => c (name_w.mpr ⟨x, e⟩)
      rw [List.map_cons]
      unfold takeNames
      split
      · rename_i x p r e
        injection e with e1 e2
        have : t.w = .name x := by have := congrArg PW.w e1; exact this
        exact absurd this (hne x)
      · rfl
theorem names_take (m : List Tok) : (m ++ ends3 n).takeWhile isName = m.takeWhile isName := by
  induction m with
  | nil => rfl
  | cons a m ih =>
    rw [List.cons_append, List.takeWhile_cons, List.takeWhile_cons, ih]
theorem dropT (p : Tok → Bool) (l : List Tok) : l.dropWhile p = l.drop (l.takeWhile p).length := by
  induction l with
  | nil => rfl
  | cons a l ih =>
    rw [List.takeWhile_cons, List.dropWhile_cons]
    split
    · rw [List.length_cons, List.drop_succ_cons, ih]
    · rfl
theorem namesAt_eq {i : Nat} (h : i ≤ ts.length) : namesAt (ts ++ ends3 n) i = (ts.drop i).takeWhile isName := by
  unfold namesAt
  rw [List.drop_append_of_le_length h, names_take]
theorem namesAt_end {i : Nat} (h : ts.length ≤ i) : namesAt (ts ++ ends3 n) i = [] := by
  unfold namesAt ends3
  rw [List.drop_append, List.drop_eq_nil_of_le h, List.nil_append, List.drop_replicate]
  cases 3 - (i - ts.length) with
  | zero => rfl
  | succ k => rfl
end
/-! ### slices of the rows -/
theorem by_split : ∀ (m : List Tok), (m.filter isBy = [] ∧ ∀ t ∈ m, isBy t = false) ∨ ∃ M b B, m = M ++ b :: B ∧ isBy b = true ∧ (∀ t ∈ M, isBy t = false) ∧ ∃ r, m.filter isBy = b :: r
  | [] => .inl ⟨rfl, fun _ h => by cases h⟩
  | t :: m => by
    by_cases c : isBy t = true
    · exact .inr ⟨[], t, m, rfl, c, (fun _ h => by cases h), m.filter isBy, by rw [List.filter_cons, if_pos c]⟩
    · have c' : isBy t = false := by simpa using c
      rcases by_split m with ⟨h1, h2⟩ | ⟨M, b, B, rfl, h1, h2, r, h3⟩
      · left
        refine ⟨by rw [List.filter_cons, if_neg c]; exact h1, fun u hu => ?_⟩
        rcases List.mem_cons.mp hu with rfl | hu
        · exact c'
        · exact h2 u hu
      · right
        refine ⟨t :: M, b, B, rfl, h1, fun u hu => ?_, r, by rw [List.filter_cons, if_neg c]; exact h3⟩
        rcases List.mem_cons.mp hu with rfl | hu
        · exact c'
        · exact h2 u hu
theorem places_eq {ts : List Tok} {n i : Nat} (h : i ≤ ts.length) : placesL (ts ++ ends3 n) i = ((ts.drop i).filter isBy).map Tok.pos := by
  unfold placesL
  rw [List.drop_append_of_le_length h, List.filter_append]
  have : (ends3 n).filter isBy = [] := rfl
  rw [this, List.append_nil]
theorem scan_end : ∀ (n at' : Nat) (l : List Nat), ∀ t ∈ scan n at' l, t.pos + t.src.length ≤ at' + l.length
  | 0, _, _, t, h => by cases h
  | n + 1, _, [], t, h => by cases h
  | n + 1, at', c :: r, t, h => by
    have hlen := dropWhile_len isRun (c :: r)
    simp only [List.length_cons] at hlen
    unfold scan at h
    simp only [List.length_cons]
    split at h
    · split at h
      · obtain rfl := List.mem_singleton.mp h
        show at' + ((c :: r).takeWhile isRun).length ≤ _
        omega
      · rcases List.mem_cons.mp h with rfl | h
        · show at' + ((c :: r).takeWhile isRun).length ≤ _
          omega
        · have := scan_end n _ _ t h
          omega
    · split at h
      · rename_i ha
        obtain ⟨r2, rfl⟩ : ∃ r2, r = 62 :: r2 := by
          obtain ⟨_, hr⟩ := ha
          cases r with
          | nil => cases hr
          | cons d r2 => exact ⟨r2, by rw [List.head?_cons] at hr; injection hr with hr; rw [hr]⟩
        rcases List.mem_cons.mp h with rfl | h
        · show at' + 2 ≤ _
          simp only [List.length_cons]; omega
        · have := scan_end n _ _ t h
          simp only [List.tail_cons] at this
          simp only [List.length_cons]; omega
      · split at h
        · rcases List.mem_cons.mp h with rfl | h
          · show at' + 1 ≤ _
            omega
          · have := scan_end n _ _ t h
            omega
        · split at h
          · have := scan_end n _ _ t h
            omega
          · obtain rfl := List.mem_singleton.mp h
            show at' + 1 ≤ _
            omega
/-- the slice from a row to the end -/
theorem slice_all {l : List Nat} {i : Nat} (h : i ≤ (toks l).length) : ∃ m : List Nat, m = (l.drop (rw_ (toks l ++ ends3 l.length) i).pos).take (l.length - (rw_ (toks l ++ ends3 l.length) i).pos) ∧
    (toks m).map (Tok.up (rw_ (toks l ++ ends3 l.length) i).pos) = (toks l).drop i ∧ (rw_ (toks l ++ ends3 l.length) i).pos + m.length = l.length ∧ m.Sublist l := by
  refine ⟨_, rfl, ?_⟩
  have hs : ((l.drop (rw_ (toks l ++ ends3 l.length) i).pos).take (l.length - (rw_ (toks l ++ ends3 l.length) i).pos)) = l.drop (rw_ (toks l ++ ends3 l.length) i).pos := List.take_of_length_le (by rw [List.length_drop]; omega)
  rw [hs]
  by_cases c : i < (toks l).length
  · have e : toks l = (toks l).take i ++ (toks l)[i] :: (toks l).drop (i + 1) := by
      rw [← List.drop_eq_getElem_cons c, List.take_append_drop]
    obtain ⟨h1, h2, _, _⟩ := toks_split e
    rw [rw_lt c, h2, List.drop_eq_getElem_cons c]
    exact ⟨rfl, by rw [List.length_drop]; omega, List.drop_sublist _ _⟩
  · rw [rw_ge (by omega) (by omega), List.drop_eq_nil_of_le (Nat.le_refl _), List.drop_eq_nil_of_le (by omega)]
    exact ⟨rfl, rfl, List.nil_sublist _⟩
/-- the slice from a row to a word by, and that behind it -/
theorem slice_by {l : List Nat} {i : Nat} {M B : List Tok} {b : Tok} (h : i ≤ (toks l).length) (e : (toks l).drop i = M ++ b :: B) (hb : isBy b = true) :
    (∃ m : List Nat, m = (l.drop (rw_ (toks l ++ ends3 l.length) i).pos).take (b.pos - (rw_ (toks l ++ ends3 l.length) i).pos) ∧ (toks m).map (Tok.up (rw_ (toks l ++ ends3 l.length) i).pos) = M ∧ (rw_ (toks l ++ ends3 l.length) i).pos + m.length = b.pos ∧ m.Sublist l) ∧
    (∃ m : List Nat, m = (l.drop (b.pos + 2)).take (l.length - (b.pos + 2)) ∧ (toks m).map (Tok.up (b.pos + 2)) = B ∧ b.pos + 2 + m.length = l.length ∧ m.Sublist l) := by
  have e0 : toks l = (toks l).take i ++ (M ++ b :: B) := by rw [← e, List.take_append_drop]
  have c : i < (toks l).length := by
    by_cases c : i < (toks l).length
    · exact c
    · rw [List.drop_eq_nil_of_le (by omega)] at e
      cases M <;> cases e
  have hm : b ∈ toks l := by rw [e0]; simp
  have o := toks_row b hm
  have hw := (row_by o).mp hb
  have hsrc : b.src.length = 2 := by
    have := row_back o (.inl hw)
    rw [S_of this]; rfl
  have hend := scan_end _ _ _ b hm
  rw [hsrc, Nat.zero_add] at hend
  refine ⟨⟨_, rfl, ?_⟩, ⟨_, rfl, ?_⟩⟩
  · have hu : M ++ b :: B = (toks l)[i] :: (toks l).drop (i + 1) := by rw [← e, List.drop_eq_getElem_cons c]
    obtain ⟨h1, h2⟩ := toks_slice e0 hu
    rw [rw_lt c]
    refine ⟨h2, ?_, (List.take_sublist _ _).trans (List.drop_sublist _ _)⟩
    rw [List.length_take, List.length_drop]; omega
  · have e1 : toks l = ((toks l).take i ++ M) ++ b :: B := by rw [List.append_assoc]; exact e0
    obtain ⟨_, _, _, h4⟩ := toks_split e1
    have h5 := h4 (by rw [hw]; simp)
    rw [hsrc] at h5
    have hs : (l.drop (b.pos + 2)).take (l.length - (b.pos + 2)) = l.drop (b.pos + 2) := List.take_of_length_le (by rw [List.length_drop]; omega)
    rw [hs]
    exact ⟨h5, by rw [List.length_drop]; omega, List.drop_sublist _ _⟩
end KW

/-! part KPlain3 -/
set_option maxHeartbeats 4000000
/-! What the program tells of a line is what the law reads. Plain Lean. -/
namespace KW
open PySem PySem.Spec PyProof.Rows L2 KM SX
def finE (len : Nat) : Er (PyData × Bool) → PyData ⊕ Nat
  | .err p => .inr p
  | .ok a S => if S.rest = [] then (if a.2 = true then .inl a.1 else .inr len) else .inr (nowW len S.rest).pos
theorem entryOf_fin {len : Nat} {S : PS} : entryOf len S = finE len (entryE len S) := by
  unfold entryOf finE
  cases entryE len S <;> rfl
/-- a state that stands ahead of the i-th word -/
structure At (ts : List Tok) (i : Nat) (S : PS) : Prop where
  rest : S.rest = (ts.drop i).map Tok.pw
  todo : S.todo = []
  made : S.made = []
section
variable {ts : List Tok} {n i : Nat} {S : PS}
theorem At.adv (a : At ts i S) : At ts (i + 1) S.adv := by
  refine ⟨?_, a.todo, a.made⟩
  show S.rest.tail = _
  rw [a.rest, ← List.map_tail, List.tail_drop]
theorem At.now (a : At ts i S) (h : i ≤ ts.length + 2) : nowW n S.rest = (rw_ (ts ++ ends3 n) i).pw := by rw [a.rest]; exact now_row h
theorem At.nw (a : At ts i S) (h : i ≤ ts.length + 2) : nw n S = (rw_ (ts ++ ends3 n) i).w := by
  show (nowW n S.rest).w = _
  rw [a.now h]; rfl
theorem At.pos (a : At ts i S) (h : i ≤ ts.length + 2) : (nowW n S.rest).pos = (rw_ (ts ++ ends3 n) i).pos := by rw [a.now h]; rfl
theorem At.wrong {α : Type} (a : At ts i S) (h : i ≤ ts.length + 2) : wrongE (α := α) n S = .err (rw_ (ts ++ ends3 n) i).pos := by
  unfold wrongE; rw [a.pos h]
theorem At.lt (h2 : i ≤ ts.length + 2) (h : (rw_ (ts ++ ends3 n) i).w ≠ .fin) : i < ts.length := by
  by_cases c : i < ts.length
  · exact c
  · rw [rw_ge (by omega) h2] at h; exact absurd rfl h
theorem At.nil (a : At ts i S) (h : i ≤ ts.length + 2) (hn : ∀ t ∈ ts, t.w ≠ .fin) : S.rest = [] ↔ (rw_ (ts ++ ends3 n) i).w = .fin := by rw [a.rest]; exact drop_nil h hn
theorem At.fin (a : At ts i S) (h : i ≤ ts.length + 2) (hn : ∀ t ∈ ts, t.w ≠ .fin) (d : PyData) : finE n (.ok (d, true) S) = if (rw_ (ts ++ ends3 n) i).w = .fin then .inl d else .inr (rw_ (ts ++ ends3 n) i).pos := by
  unfold finE
  by_cases c : S.rest = []
  · rw [if_pos ((a.nil h hn).mp c)]
    simp only
    rw [if_pos c, if_pos trivial]
  · rw [if_neg (fun z => c ((a.nil h hn).mpr z))]
    simp only
    rw [if_neg c, a.pos h]
theorem At.need (a : At ts i S) (h : i ≤ ts.length + 2) (w : Wd) : needE n w S = if (rw_ (ts ++ ends3 n) i).w = w then .ok () S.adv else .err (rw_ (ts ++ ends3 n) i).pos := by
  unfold needE
  rw [a.nw h, a.wrong h]
end
theorem toks_nofin {l : List Nat} : ∀ t ∈ toks l, t.w ≠ .fin := fun t h => by
  obtain ⟨e, _⟩ := scan_word _ _ _ t h
  rw [e]; exact wordL_nofin
theorem ext_nil {sh : Nat} {e : List PW} {S : PS} {ms : List Md} : (extS sh e { S with made := ms }).rest = S.rest.map (shW sh) ++ e := rfl
section
variable {l : List Nat} {i : Nat} {S : PS}
/-- a statement up to the end -/
theorem told_all (s : Sm l) (hi : i ≤ (toks l).length) (a : At (toks l) i S) (many : Nat) (hm : many ≤ 1000) (mk : PyData → PyData) :
    finE l.length ((stmtE l.length many S).bind fun a S => .ok (mk a.1, a.2) S) = match stmtOut ((l.drop (rw_ (toks l ++ ends3 l.length) i).pos).take (l.length - (rw_ (toks l ++ ends3 l.length) i).pos)) many with
      | .inr p => .inr ((rw_ (toks l ++ ends3 l.length) i).pos + p)
      | .inl a => .inl (mk a) := by
  obtain ⟨m, em, hmt, hpos, hsub⟩ := slice_all hi
  rw [← em]
  have B : Beh (rw_ (toks l ++ ends3 l.length) i).pos l.length m.length [] := ⟨.inl rfl, hpos.symm⟩
  rcases stmt_slice B (by rw [a.rest, hmt, List.append_nil]) a.todo a.made many (by omega) (s.sub hsub) with ⟨q, e1, e2⟩ | ⟨S', d, e1, ht, _, _, e2⟩
  · rw [e1, e2]; rfl
  · rw [e1, e2]
    show finE l.length (.ok (mk d, true) _) = _
    unfold finE
    simp only
    by_cases c : S'.rest = []
    · rw [if_pos c, if_pos (by rw [ext_nil, c]; rfl)]
      simp only
      rw [if_pos trivial]
    · rw [if_neg c, if_neg (by rw [ext_nil]; simpa using c), ext_pos B]
theorem told_shown (s : Sm l) (hi : i ≤ (toks l).length) (a : At (toks l) i S) (x : Str) :
    finE l.length ((stmtE l.length 0 S).bind fun a S => (needE l.length (.told "by") S).bind fun _ S => (groundE l.length S).bind fun g S => .ok (.tuple [.str "shown", .str x, a.1, g], a.2) S) =
      toldL2 l (toks l ++ ends3 l.length) i "shown" x [] := by
  unfold toldL2 behindL
  rw [first_row (by omega), places_eq hi]
  rcases by_split ((toks l).drop i) with ⟨h1, h2⟩ | ⟨M, b, C, hM, hb, h2, r, h3⟩
  · rw [h1]
    simp only [List.map_nil]
    obtain ⟨m, em, hmt, hpos, hsub⟩ := slice_all hi
    rw [← em]
    have B : Beh (rw_ (toks l ++ ends3 l.length) i).pos l.length m.length [] := ⟨.inl rfl, hpos.symm⟩
    have hnb : ∀ u ∈ toks m, nBy u.w = true := by
      intro u hu
      have hu2 : u.up (rw_ (toks l ++ ends3 l.length) i).pos ∈ (toks l).drop i := by rw [← hmt]; exact List.mem_map_of_mem hu
      have := (row_nby (toks_row _ (List.mem_of_mem_drop hu2))).mp (h2 _ hu2)
      exact this
    show _ = (match stmtOut m 0 with | .inr p => _ | .inl a => _)
    rcases stmt_slice B (by rw [a.rest, hmt, List.append_nil]) a.todo a.made 0 (by decide) (s.sub hsub) with ⟨q, e1, e2⟩ | ⟨S', d, e1, ht, _, hr, e2⟩
    · rw [e1, e2]; rfl
    · rw [e1, e2]
      show finE l.length ((needE l.length (.told "by") _).bind _) = _
      have hw : nw l.length (extS (rw_ (toks l ++ ends3 l.length) i).pos [] { S' with made := [] }) ≠ .told "by" := by
        intro z
        rcases ext_cases B { S' with made := [] } with ⟨q1, _⟩ | ⟨_, q2⟩
        · rw [q1] at z
          obtain ⟨p, r, er, ew⟩ := nw_cons z (by simp)
          have := hr hnb p (by rw [show S'.rest = p :: r from er]; exact List.mem_cons_self)
          rw [ew] at this
          revert this; decide +kernel
        · by_cases c : S'.rest = []
          · have : nw l.length (extS (rw_ (toks l ++ ends3 l.length) i).pos [] { S' with made := [] }) = .fin := by
              show (nowW l.length (S'.rest.map _ ++ [])).w = _
              rw [c]; rfl
            rw [this] at z; cases z
          · obtain ⟨p, r, er⟩ := List.exists_cons_of_ne_nil c
            have : nw l.length (extS (rw_ (toks l ++ ends3 l.length) i).pos [] { S' with made := [] }) = p.w := by
              show (nowW l.length (S'.rest.map _ ++ [])).w = _
              rw [er]; rfl
            rw [this] at z
            have := hr hnb p (by rw [er]; exact List.mem_cons_self)
            rw [z] at this
            revert this; decide +kernel
      unfold needE
      rw [if_neg hw]
      show Sum.inr (nowW l.length (extS _ _ _).rest).pos = _
      rw [ext_pos B]
      by_cases c : S'.rest = []
      · rw [if_pos c]
        have q1 : ¬ ("shown" : Str) = "mean" := by decide
        have q2 : ¬ ("shown" : Str) = "taken" := by decide
        simp only [q1, q2, if_false, if_true, c]
        show Sum.inr (_ + m.length) = _
        rw [hpos]
      · rw [if_neg c]
  · rw [h3]
    simp only [List.map_cons]
    rw [if_pos trivial]
    obtain ⟨⟨m, em, hmt, hpos, hsub⟩, ⟨m2, em2, hmt2, hpos2, hsub2⟩⟩ := slice_by hi hM hb
    rw [← em]
    have hbm : b ∈ toks l := List.mem_of_mem_drop (i := i) (by rw [hM]; simp)
    have hbw := (row_by (toks_row b hbm)).mp hb
    have B : Beh (rw_ (toks l ++ ends3 l.length) i).pos l.length m.length ((b :: C).map Tok.pw) := ⟨.inr hbw, by rw [hpos]; rfl⟩
    have hnb : ∀ u ∈ toks m, nBy u.w = true := by
      intro u hu
      have hu2 : u.up (rw_ (toks l ++ ends3 l.length) i).pos ∈ M := by rw [← hmt]; exact List.mem_map_of_mem hu
      have := (row_nby (toks_row _ (List.mem_of_mem_drop (i := i) (by rw [hM]; exact List.mem_append_left _ hu2)))).mp (h2 _ hu2)
      exact this
    show _ = (match stmtOut m 0 with | .inr p => _ | .inl a => _)
    rcases stmt_slice B (by rw [a.rest, hM, hmt, List.map_append]) a.todo a.made 0 (by decide) (s.sub hsub) with ⟨q, e1, e2⟩ | ⟨S', d, e1, ht, _, hr, e2⟩
    · rw [e1, e2]; rfl
    · rw [e1, e2]
      show finE l.length ((needE l.length (.told "by") _).bind _) = _
      unfold needE
      by_cases c : S'.rest = []
      · have hw : nw l.length (extS (rw_ (toks l ++ ends3 l.length) i).pos ((b :: C).map Tok.pw) { S' with made := [] }) = .told "by" := by
          show (nowW l.length (S'.rest.map _ ++ (b :: C).map Tok.pw)).w = _
          rw [c]; exact hbw
        rw [if_pos hw, if_pos c]
        show finE l.length ((groundE l.length _).bind _) = (if ("shown" : Str) = "mean" then _ else if ("shown" : Str) = "taken" then _ else if b.pos :: r.map Tok.pos = [] then _ else _)
        rw [if_neg (by decide), if_neg (by decide), if_neg (by simp), ← em2]
        have B2 : Beh (b.pos + 2) l.length m2.length [] := ⟨.inl rfl, hpos2.symm⟩
        have hrest : (extS (rw_ (toks l ++ ends3 l.length) i).pos ((b :: C).map Tok.pw) { S' with made := [] }).adv.rest = ((toks m2).map (Tok.up (b.pos + 2))).map Tok.pw ++ [] := by
          show (S'.rest.map _ ++ (b :: C).map Tok.pw).tail = _
          rw [c, hmt2, List.append_nil]; rfl
        rcases ground_slice B2 hrest ht rfl (s.sub hsub2) with ⟨q, f1, f2⟩ | ⟨S2, g, f1, _, f2⟩
        · rw [f1, f2]; rfl
        · rw [f1, f2]
          show finE l.length (.ok (_, true) _) = _
          unfold finE
          simp only
          by_cases c2 : S2.rest = []
          · rw [if_pos c2, if_pos (by rw [ext_nil, c2]; rfl)]
            simp only
            rw [if_pos trivial]
          · rw [if_neg c2, if_neg (by rw [ext_nil]; simpa using c2), ext_pos B2]
      · obtain ⟨p, r, er⟩ := List.exists_cons_of_ne_nil c
        have hw : nw l.length (extS (rw_ (toks l ++ ends3 l.length) i).pos ((b :: C).map Tok.pw) { S' with made := [] }) ≠ .told "by" := by
          intro z
          have e : nw l.length (extS (rw_ (toks l ++ ends3 l.length) i).pos ((b :: C).map Tok.pw) { S' with made := [] }) = p.w := by
            show (nowW l.length (S'.rest.map _ ++ (b :: C).map Tok.pw)).w = _
            rw [er]; rfl
          rw [e] at z
          have := hr hnb p (by rw [er]; exact List.mem_cons_self)
          rw [z] at this
          revert this; decide +kernel
        rw [if_neg hw, if_neg c]
        show Sum.inr (nowW l.length (extS _ _ _).rest).pos = _
        rw [ext_pos B]
/-- names behind a colon -/
theorem names_ok (h3 : 3 ≤ (toks l).length) (a : At (toks l) 3 S) : namesE l.length S = if namesAt (toks l ++ ends3 l.length) 3 = [] then .err (rw_ (toks l ++ ends3 l.length) 3).pos
    else .ok ((namesAt (toks l ++ ends3 l.length) 3).map fun t => SX.S t.src) { S with rest := ((toks l).drop (3 + (namesAt (toks l ++ ends3 l.length) 3).length)).map Tok.pw } := by
  rw [namesAt_eq h3]
  unfold namesE nameE
  rw [a.nw (by omega)]
  by_cases c : 3 < (toks l).length
  · rw [rw_lt c, List.drop_eq_getElem_cons c, List.takeWhile_cons]
    have o := toks_row (l := l) _ (List.getElem_mem c)
    by_cases hn : isName (toks l)[3] = true
    · obtain ⟨x, e⟩ := name_w.mp hn
      have ex := row_back o (.inr (.inl e))
      rw [if_pos hn, if_neg (by simp), e]
      show Er.ok (x :: (takeNames S.adv.rest).1) { S.adv with rest := (takeNames S.adv.rest).2 } = _
      have ha := a.adv.rest
      rw [ha, take_names _ (fun t ht => toks_row t (List.mem_of_mem_drop ht)), List.map_cons, ex]
      have e2 : ((toks l).drop (3 + 1)).dropWhile isName = (toks l).drop (3 + ((toks l)[3] :: ((toks l).drop (3 + 1)).takeWhile isName).length) := by
        rw [dropT, List.drop_drop]
        congr 1
        simp only [List.length_cons]; omega
      rw [e2]
      rfl
    · rw [if_neg hn, if_pos rfl]
      have hne : ∀ x, (toks l)[3].w ≠ .name x := fun x e => hn (name_w.mpr ⟨x, e⟩)
      have hp := a.wrong (n := l.length) (α := Str) (by omega)
      rw [rw_lt c] at hp
      cases e : (toks l)[3].w with
      | name x => exact absurd e (hne x)
      | _ => show Er.bind (wrongE l.length S) _ = _; rw [hp]; rfl
  · have hp := a.wrong (n := l.length) (α := Str) (by omega)
    rw [rw_ge (by omega) (by omega), List.drop_eq_nil_of_le (by omega)]
    rw [rw_ge (by omega) (by omega)] at hp
    show Er.bind (wrongE l.length S) _ = _
    rw [hp]; rfl
end
end KW

/-! part KPlain4 -/
set_option maxHeartbeats 4000000
/-! entryOut is dueL. Plain Lean. -/
namespace KW
open PySem PySem.Spec PyProof.Rows L2 KM SX
section
variable {l : List Nat} {S : PS}
theorem name_at {i : Nat} (a : At (toks l) i S) (h : i ≤ (toks l).length + 2) : nameE l.length S = if (rw_ (toks l ++ ends3 l.length) i).w.kind = "name" then .ok (SX.S (rw_ (toks l ++ ends3 l.length) i).src) S.adv else .err (rw_ (toks l ++ ends3 l.length) i).pos := by
  have o := row_all (l := l) (n := l.length) _ (row_mem h)
  unfold nameE
  rw [a.nw h, a.wrong h]
  by_cases c : (rw_ (toks l ++ ends3 l.length) i).w.kind = "name"
  · rw [if_pos c, (row_name o).mp c]
  · rw [if_neg c]
    have hne : ∀ x, (rw_ (toks l ++ ends3 l.length) i).w ≠ .name x := fun x e => c (by rw [e]; rfl)
    cases e : (rw_ (toks l ++ ends3 l.length) i).w with
    | name x => exact absurd e (hne x)
    | _ => rfl
theorem At.row {i : Nat} (h : i ≤ (toks l).length + 2) : RowOk (rw_ (toks l ++ ends3 l.length) i) := row_all _ (row_mem h)
theorem fin_at {i : Nat} (a : At (toks l) i S) (h : i ≤ (toks l).length + 2) (d : PyData) : finE l.length (.ok (d, true) S) = if (rw_ (toks l ++ ends3 l.length) i).w.kind = "end" then .inl d else .inr (rw_ (toks l ++ ends3 l.length) i).pos := by
  rw [a.fin h toks_nofin]
  have := row_end (At.row (l := l) h)
  by_cases c : (rw_ (toks l ++ ends3 l.length) i).w = .fin
  · rw [if_pos c, if_pos (this.mpr c)]
  · rw [if_neg c, if_neg (fun z => c (this.mp z))]
theorem behind_not {rows : List Tok} {i : Nat} {word : Str} (h : word ≠ "shown") : behindL l rows i word = l.length := by
  unfold behindL
  split
  · rw [if_neg h]
  · rfl
/-- what stands behind the names -/
theorem listed_at (s : Sm l) {i : Nat} (hi : i ≤ (toks l).length) (a : At (toks l) i S) (word x : Str) (sorts : List Str) (hs : sorts.length ≤ 1000) (hw : word = "sort" ∨ word = "rel" ∨ word = "mean") :
    (if word = "mean" then finE l.length ((needE l.length (.told "by") S).bind fun _ S => (stmtE l.length sorts.length S).bind fun a S => .ok (.tuple [.str "mean", .str x, strsD sorts, a.1], a.2) S)
      else finE l.length (.ok (.tuple [.str word, .str x, strsD sorts], true) S)) = listedT l (toks l ++ ends3 l.length) word x i sorts := by
  have o := At.row (l := l) (i := i) (by omega)
  unfold listedT
  have hf : word ≠ "func" := by rcases hw with rfl | rfl | rfl <;> decide +kernel
  rw [if_neg hf]
  by_cases c : word = "mean"
  · rw [if_pos c, if_pos c, a.need (by omega)]
    subst c
    by_cases cb : isBy (rw_ (toks l ++ ends3 l.length) i) = false
    · rw [if_pos cb, if_neg (fun z => by rw [(row_by o).mpr z] at cb; cases cb)]
      rfl
    · have hb := (row_by o).mp (by simpa using cb)
      rw [if_neg cb, if_pos hb]
      have hlt : i < (toks l).length := At.lt (by omega) (by rw [hb]; simp)
      have := told_all s (i := i + 1) (by omega) a.adv sorts.length hs (fun d => .tuple [.str "mean", .str x, strsD sorts, d])
      refine Eq.trans this ?_
      unfold toldL2
      rw [first_row (by omega), behind_not (by decide)]
      cases stmtOut ((l.drop (rw_ (toks l ++ ends3 l.length) (i + 1)).pos).take (l.length - (rw_ (toks l ++ ends3 l.length) (i + 1)).pos)) sorts.length with
      | inr p => rfl
      | inl d => simp only [if_true]
  · rw [if_neg c, if_neg c]
    exact fin_at a (by omega) _
theorem func_at (s : Sm l) {i : Nat} (hi : i ≤ (toks l).length) (a : At (toks l) i S) (x : Str) (sorts : List Str) (h1 : sorts ≠ []) :
    finE l.length ((funcE2 l.length x sorts S).bind fun d S => .ok (d, true) S) = listedT l (toks l ++ ends3 l.length) "func" x i sorts := by
  have o := At.row (l := l) (i := i) (by omega)
  unfold listedT funcE2
  rw [if_pos rfl, a.nw (by omega)]
  have hlen : 1 ≤ sorts.length := by cases sorts with
    | nil => exact absurd rfl h1
    | cons y r => simp
  by_cases c : (rw_ (toks l ++ ends3 l.length) i).w = .mark "->"
  · have hlt : i < (toks l).length := At.lt (by omega) (by rw [c]; simp)
    rw [if_pos (.inr c), if_neg (by rintro ⟨_, z⟩; rw [c] at z; exact absurd z (by show ¬ (("mark" : Str) = "end"); decide +kernel)), if_neg (fun z => z ((row_arrow o).mpr c)), a.need (by omega), if_pos c]
    show finE l.length (((nameE l.length S.adv).bind _).bind _) = _
    rw [name_at a.adv (by omega)]
    by_cases c2 : (rw_ (toks l ++ ends3 l.length) (i + 1)).w.kind = "name"
    · rw [if_pos c2, if_neg (fun z => z c2)]
      refine (fin_at a.adv.adv (by omega) _).trans ?_
      by_cases c3 : (rw_ (toks l ++ ends3 l.length) (i + 1 + 1)).w.kind = "end"
      · rw [if_pos c3, if_neg (fun z => z c3)]
      · rw [if_neg c3, if_pos c3]
    · rw [if_neg c2, if_pos c2]; rfl
  · have c' : SX.S (rw_ (toks l ++ ends3 l.length) i).src ≠ "->" := fun z => c ((row_arrow o).mp z)
    by_cases c1 : 1 < sorts.length
    · rw [if_pos (.inl (decide_eq_true c1)), if_neg (by rintro ⟨z, _⟩; omega), if_pos c', a.need (by omega), if_neg c]
      rfl
    · rw [if_neg (by rintro (z | z); exact c1 (of_decide_eq_true z); exact c z)]
      refine (fin_at a (by omega) _).trans ?_
      by_cases c3 : (rw_ (toks l ++ ends3 l.length) i).w.kind = "end"
      · rw [if_pos c3, if_pos ⟨by omega, c3⟩]
      · rw [if_neg c3, if_neg (fun z => c3 z.2), if_pos c']
end
end KW

/-! part KPlain5 -/
set_option maxHeartbeats 4000000
/-! entryOut is dueL, the end. Plain Lean. -/
namespace KW
open PySem PySem.Spec PyProof.Rows L2 KM SX
section
variable {l : List Nat} {S : PS}
/-- names behind a colon, if there is one; what follows -/
theorem behind_at (s : Sm l) (h2 : 2 ≤ (toks l).length) (a : At (toks l) 2 S) (f : List Str → PS → Er (PyData × Bool)) (word x : Str) (hf : word ≠ "func")
    (k : ∀ i ns S', i ≤ (toks l).length → At (toks l) i S' → ns.length ≤ 1000 → finE l.length (f ns S') = listedT l (toks l ++ ends3 l.length) word x i ns) :
    finE l.length ((namesBehind l.length S).bind f) = listedL l (toks l ++ ends3 l.length) word x := by
  have o := At.row (l := l) (i := 2) (by omega)
  unfold namesBehind listedL
  rw [a.nw (by omega)]
  by_cases c : (rw_ (toks l ++ ends3 l.length) 2).w = .mark ":"
  · have h3 : 3 ≤ (toks l).length := At.lt (n := l.length) (by omega) (by rw [c]; simp)
    rw [if_pos c, if_pos ((row_mark o).mpr c), names_ok h3 a.adv]
    by_cases c2 : namesAt (toks l ++ ends3 l.length) 3 = []
    · rw [if_pos c2, if_pos c2]; rfl
    · rw [if_neg c2, if_neg c2]
      have hle : 3 + (namesAt (toks l ++ ends3 l.length) 3).length ≤ (toks l).length := names_lt _ _ _ h3
      have hsl := scan_len l.length 0 l
      have hs := s.len
      have ht : (toks l).length ≤ 200 := by unfold toks; omega
      exact k _ _ _ hle ⟨rfl, a.todo, a.made⟩ (by rw [List.length_map]; omega)
  · rw [if_neg c, if_neg (fun z => c ((row_mark o).mp z)), if_neg hf]
    exact k 2 [] S h2 a (by simp)
theorem entry_due (s : Sm l) : entryOut l = dueL l := by
  unfold entryOut
  rw [entryOf_fin]
  have a0 : At (toks l) 0 (psOf l 0) := ⟨rfl, rfl, rfl⟩
  have o0 := At.row (l := l) (i := 0) (by omega)
  unfold entryE dueL
  rw [a0.nw (by omega)]
  by_cases c0 : SX.S (rw_ (toks l ++ ends3 l.length) 0).src ∈ sortsL
  · have hw0 := row_text o0 (y := SX.S (rw_ (toks l ++ ends3 l.length) 0).src) rfl (sorts_word _ c0).1
    rw [(sorts_word _ c0).2] at hw0
    rw [if_neg (fun z => z c0), hw0]
    show finE l.length (if _ then _ else _) = _
    rw [if_pos c0]
    have h1 : 1 ≤ (toks l).length := At.lt (ts := toks l) (n := l.length) (i := 0) (by omega) (by rw [hw0]; simp)
    rw [name_at a0.adv (by omega)]
    by_cases c1 : (rw_ (toks l ++ ends3 l.length) (0 + 1)).w.kind = "name"
    · rw [if_pos c1, if_neg (fun z => z c1)]
      have h2 : 2 ≤ (toks l).length := At.lt (ts := toks l) (n := l.length) (i := 1) (by omega) (by rw [(row_name (At.row (l := l) (i := 1) (by omega))).mp c1]; simp)
      have a2 := a0.adv.adv
      have o2 := At.row (l := l) (i := 2) (by omega)
      show finE l.length (entryE2 l.length _ _ _) = _
      generalize SX.S (rw_ (toks l ++ ends3 l.length) (0 + 1)).src = x
      generalize SX.S (rw_ (toks l ++ ends3 l.length) 0).src = word at c0 ⊢
      clear hw0 c1
      have told : ∀ w : Str, w = "taken" ∨ w = "shown" → finE l.length (toldE l.length w x (psOf l 0).adv.adv) = if SX.S (rw_ (toks l ++ ends3 l.length) 2).src ≠ ":" then .inr (rw_ (toks l ++ ends3 l.length) 2).pos else toldL2 l (toks l ++ ends3 l.length) 3 w x [] := by
        intro w hw
        unfold toldE
        rw [if_neg (by rcases hw with rfl | rfl <;> decide +kernel), a2.need (by omega)]
        by_cases c : (rw_ (toks l ++ ends3 l.length) 2).w = .mark ":"
        · have h3 : 3 ≤ (toks l).length := At.lt (ts := toks l) (n := l.length) (i := 2) (by omega) (by rw [c]; simp)
          rw [if_pos c, if_neg (fun z => z ((row_mark o2).mpr c))]
          rcases hw with rfl | rfl
          · show finE l.length ((stmtE l.length 0 _).bind fun a S => if ("taken" : Str) = "taken" then _ else _) = _
            simp only [if_true]
            refine (told_all s h3 a2.adv 0 (by decide) (fun d => .tuple [.str "taken", .str x, d])).trans ?_
            unfold toldL2
            rw [first_row (by omega), behind_not (by decide)]
            have q1 : ¬ ("taken" : Str) = "mean" := by decide
            simp only [q1, if_false, if_true]
            rfl
          · show finE l.length ((stmtE l.length 0 _).bind fun a S => if ("shown" : Str) = "taken" then _ else _) = _
            have q1 : ¬ ("shown" : Str) = "taken" := by decide
            simp only [q1, if_false]
            exact told_shown s h3 a2.adv x
        · rw [if_neg c, if_pos (fun z => c ((row_mark o2).mp z))]; rfl
      have lst : ∀ w : Str, w = "sort" ∨ w = "rel" → finE l.length ((namesBehind l.length (psOf l 0).adv.adv).bind fun ns S => .ok (.tuple [.str w, .str x, strsD ns], true) S) = listedL l (toks l ++ ends3 l.length) w x := by
        intro w hw
        refine behind_at s h2 a2 _ w x (by rcases hw with rfl | rfl <;> decide +kernel) (fun i ns S' hi a hn => ?_)
        have := listed_at s hi a w x ns hn (by rcases hw with rfl | rfl; exact .inl rfl; exact .inr (.inl rfl))
        rw [if_neg (by rcases hw with rfl | rfl <;> decide +kernel)] at this
        exact this
      have hm : ∀ w : Str, w = "sort" ∨ w = "rel" ∨ w = "func" ∨ w = "mean" → ¬ w ∈ (["taken", "shown"] : List Str) := by
        rintro w (rfl | rfl | rfl | rfl) <;> decide +kernel
      have cases6 : word = "sort" ∨ word = "func" ∨ word = "rel" ∨ word = "mean" ∨ word = "taken" ∨ word = "shown" := by
        simpa [sortsL] using c0
      rcases cases6 with rfl | rfl | rfl | rfl | rfl | rfl
      · rw [if_neg (hm _ (.inl rfl))]
        unfold entryE2
        rw [if_neg (by decide), if_pos (.inl rfl)]
        exact lst _ (.inl rfl)
      · rw [if_neg (hm _ (.inr (.inr (.inl rfl))))]
        unfold entryE2
        rw [if_pos rfl]
        unfold funcE listedL
        rw [a2.need (by omega)]
        by_cases c : (rw_ (toks l ++ ends3 l.length) 2).w = .mark ":"
        · have h3 : 3 ≤ (toks l).length := At.lt (ts := toks l) (n := l.length) (i := 2) (by omega) (by rw [c]; simp)
          have e2 : rw_ (toks l ++ ends3 l.length) (0 + 1 + 1) = rw_ (toks l ++ ends3 l.length) 2 := rfl
          rw [e2, if_pos c, if_pos ((row_mark o2).mpr c)]
          show finE l.length (((namesE l.length _).bind _).bind _) = _
          rw [names_ok h3 a2.adv]
          by_cases c2 : namesAt (toks l ++ ends3 l.length) 3 = []
          · rw [if_pos c2, if_pos c2]; rfl
          · rw [if_neg c2, if_neg c2]
            have hle : 3 + (namesAt (toks l ++ ends3 l.length) 3).length ≤ (toks l).length := names_lt _ _ _ h3
            exact func_at (S := { (psOf l 0).adv.adv.adv with rest := ((toks l).drop (3 + (namesAt (toks l ++ ends3 l.length) 3).length)).map Tok.pw }) s hle ⟨rfl, a2.todo, a2.made⟩ x ((namesAt (toks l ++ ends3 l.length) 3).map fun t => SX.S t.src) (by simpa using c2)
        · have e2 : rw_ (toks l ++ ends3 l.length) (0 + 1 + 1) = rw_ (toks l ++ ends3 l.length) 2 := rfl
          rw [e2, if_neg c, if_neg (fun z => c ((row_mark o2).mp z)), if_pos rfl]
          rfl
      · rw [if_neg (hm _ (.inr (.inl rfl)))]
        unfold entryE2
        rw [if_neg (by decide), if_pos (.inr rfl)]
        exact lst _ (.inr rfl)
      · rw [if_neg (hm _ (.inr (.inr (.inr rfl))))]
        unfold entryE2
        rw [if_neg (by decide), if_neg (by rintro (z | z) <;> exact absurd z (by decide +kernel))]
        unfold toldE
        rw [if_pos rfl]
        refine behind_at s h2 a2 _ "mean" x (by decide +kernel) (fun i ns S' hi a hn => ?_)
        have := listed_at s hi a "mean" x ns hn (.inr (.inr rfl))
        rw [if_pos rfl] at this
        exact this
      · rw [if_pos (by decide +kernel)]
        unfold entryE2
        rw [if_neg (by decide), if_neg (by rintro (z | z) <;> exact absurd z (by decide +kernel))]
        exact told _ (.inl rfl)
      · rw [if_pos (by decide +kernel)]
        unfold entryE2
        rw [if_neg (by decide), if_neg (by rintro (z | z) <;> exact absurd z (by decide +kernel))]
        exact told _ (.inr rfl)
    · rw [if_neg c1, if_pos c1]; rfl
  · rw [if_pos c0]
    have hp := a0.wrong (n := l.length) (α := PyData × Bool) (by omega)
    cases e : (rw_ (toks l ++ ends3 l.length) 0).w with
    | told y =>
      have := row_back o0 (.inl e)
      show finE l.length (if y ∈ sortsL then _ else _) = _
      rw [if_neg (by rw [← this]; exact c0), hp]; rfl
    | _ => show finE l.length (wrongE l.length (psOf l 0)) = _; rw [hp]; rfl
end
end KW

/-! part KPlain6 -/
set_option maxHeartbeats 4000000
/-! Entries are tuples, of a size that is told; rooms. Plain Lean. -/
namespace KW
open PySem PySem.Spec PyProof.Rows L2 KM SX
/-! ### an entry is a tuple -/
theorem er_ok {α β : Type} {x : Er α} {f : α → PS → Er β} {b : β} {S' : PS} (h : x.bind f = .ok b S') : ∃ a S1, x = .ok a S1 ∧ f a S1 = .ok b S' := by
  cases x with
  | err p => cases h
  | ok a S1 => exact ⟨a, S1, rfl, h⟩
theorem fin_inl {n : Nat} {x : Er (PyData × Bool)} {d : PyData} (h : finE n x = .inl d) : ∃ b S, x = .ok (d, b) S := by
  unfold finE at h
  split at h
  · cases h
  · rename_i a S
    split at h
    · split at h
      · injection h with h
        exact ⟨a.2, S, by rw [← h]⟩
      · cases h
    · cases h
def isTup (d : PyData) : Prop := ∃ xs, d = .tuple xs
theorem told_tup {n : Nat} {word x : Str} {S S' : PS} {a : PyData × Bool} (h : toldE n word x S = .ok a S') : isTup a.1 := by
  unfold toldE at h
  split at h
  · obtain ⟨ns, S1, _, h⟩ := er_ok h
    obtain ⟨_, S2, _, h⟩ := er_ok h
    obtain ⟨b, S3, _, h⟩ := er_ok h
    injection h with h1 h2
    subst h1
    exact ⟨_, rfl⟩
  · obtain ⟨_, S1, _, h⟩ := er_ok h
    obtain ⟨b, S2, _, h⟩ := er_ok h
    split at h
    · injection h with h1 h2
      subst h1
      exact ⟨_, rfl⟩
    · obtain ⟨_, S3, _, h⟩ := er_ok h
      obtain ⟨g, S4, _, h⟩ := er_ok h
      injection h with h1 h2
      subst h1
      exact ⟨_, rfl⟩
theorem entry_tup {l : List Nat} {d : PyData} (h : entryOut l = .inl d) : isTup d := by
  unfold entryOut at h
  rw [entryOf_fin] at h
  obtain ⟨b, S, h⟩ := fin_inl h
  unfold entryE at h
  split at h
  · split at h
    · obtain ⟨x, S1, _, h⟩ := er_ok h
      unfold entryE2 at h
      split at h
      · obtain ⟨e, S2, h1, h2⟩ := er_ok h
        injection h2 with h2 h3
        injection h2 with h2 h4
        subst h2
        unfold funcE at h1
        obtain ⟨_, S3, _, h1⟩ := er_ok h1
        obtain ⟨ns, S4, _, h1⟩ := er_ok h1
        unfold funcE2 at h1
        split at h1
        · obtain ⟨_, S5, _, h1⟩ := er_ok h1
          obtain ⟨y, S6, _, h1⟩ := er_ok h1
          injection h1 with h1 _
          exact ⟨_, h1.symm⟩
        · injection h1 with h1 _
          exact ⟨_, h1.symm⟩
      · split at h
        · obtain ⟨ns, S2, _, h2⟩ := er_ok h
          injection h2 with h2 h3
          injection h2 with h2 h4
          exact ⟨_, h2.symm⟩
        · exact told_tup h
    · cases h
  · cases h
theorem entry_nn (l : List Nat) (d : PyData) (h : entryOut l = .inl d) : d ≠ .none := by
  obtain ⟨xs, rfl⟩ := entry_tup h
  simp
/-! ### its size -/
theorem tok_sz {l : List Nat} (s : Sm l) {t : Tok} (h : t ∈ toks l) (hk : t.w.kind = "name" ∨ t.w.kind = "told") : szS (SX.S t.src) ≤ 2200 := by
  have h1 := scan_aS l.length 0 l
  have h2 : aS t.w ≤ ((scan l.length 0 l).map fun t => aS t.w).sum := by
    have : ∀ m : List Tok, t ∈ m → aS t.w ≤ (m.map fun t => aS t.w).sum := by
      intro m
      induction m with
      | nil => intro z; cases z
      | cons a m ih =>
        intro z
        simp only [List.map_cons, List.sum_cons]
        rcases List.mem_cons.mp z with rfl | z
        · omega
        · have := ih z; omega
    exact this _ h
  have o := toks_row t h
  have hl := s.len
  cases e : t.w with
  | name x =>
    rw [row_back o (.inr (.inl e))]
    rw [e] at h2
    have : aS (.name x) = sz (.str x) + 20 := rfl
    rw [sz_str] at this
    omega
  | told x =>
    rw [row_back o (.inl e)]
    rw [e] at h2
    have : aS (.told x) = sz (.str x) + 20 := rfl
    rw [sz_str] at this
    omega
  | num x => rw [e] at hk; rcases hk with z | z <;> exact absurd z (by show ¬ (("number" : Str) = _); decide +kernel)
  | var x => rw [e] at hk; rcases hk with z | z <;> exact absurd z (by show ¬ (("var" : Str) = _); decide +kernel)
  | mark x => rw [e] at hk; rcases hk with z | z <;> exact absurd z (by show ¬ (("mark" : Str) = _); decide +kernel)
  | bad => rw [e] at hk; rcases hk with z | z <;> exact absurd z (by show ¬ (("none" : Str) = _); decide +kernel)
  | fin => rw [e] at hk; rcases hk with z | z <;> exact absurd z (by show ¬ (("end" : Str) = _); decide +kernel)
theorem names_sz {l : List Nat} (s : Sm l) (i : Nat) : szAll (((namesAt (toks l ++ ends3 l.length) i).map fun t => SX.S t.src).map .str) ≤ 2200 := by
  have h1 := scan_aS l.length 0 l
  have hl := s.len
  have key : ∀ m : List Tok, (∀ t ∈ m, RowOk t) → szAll (((m.takeWhile isName).map fun t => SX.S t.src).map .str) ≤ (m.map fun t => aS t.w).sum := by
    intro m
    induction m with
    | nil => intro _; simp [szAll]
    | cons a m ih =>
      intro o
      have ih := ih fun t ht => o t (List.mem_cons_of_mem _ ht)
      rw [List.takeWhile_cons]
      split
      · rename_i c
        obtain ⟨x, e⟩ := name_w.mp c
        have hx := row_back (o a List.mem_cons_self) (.inr (.inl e))
        simp only [List.map_cons, List.sum_cons, szAll_cons, sz_str, hx]
        rw [e]
        have : aS (.name x) = sz (.str x) + 20 := rfl
        rw [sz_str] at this
        omega
      · simp [szAll]
  have dropS : ∀ (m : List Tok) (i : Nat), ((m.drop i).map fun t => aS t.w).sum ≤ (m.map fun t => aS t.w).sum := by
    intro m
    induction m with
    | nil => intro i; simp
    | cons a m ih =>
      intro i
      cases i with
      | zero => simp
      | succ i => have := ih i; simp only [List.drop_succ_cons, List.map_cons, List.sum_cons]; omega
  by_cases c : i ≤ (toks l).length
  · rw [namesAt_eq c]
    have h2 := key ((toks l).drop i) (fun t ht => toks_row t (List.mem_of_mem_drop ht))
    have h3 := dropS (toks l) i
    have h4 : ((toks l).map fun t => aS t.w).sum ≤ 22 * l.length := h1
    omega
  · rw [namesAt_end (by omega)]
    simp [szAll]
theorem stmt_sz {l : List Nat} (s : Sm l) {many : Int} (hm : many ≤ 1000) {d : PyData} (h : stmtOut l many = .inl d) : sz d ≤ 2200 := by
  rcases stmt_fine l many with ⟨q, e⟩ | ⟨S', d', p, q, e, e2⟩
  · unfold stmtOut at h
    rw [e] at h
    cases h
  · obtain ⟨_, b⟩ := run_small s hm (by decide +kernel) rfl rfl (by decide) e e2
    unfold stmtOut at h
    rw [e, outF_made e2] at h
    by_cases c : S'.rest = []
    · rw [if_pos c] at h
      simp only at h
      split at h
      · cases h
      · injection h with h
        subst h
        have b : sz d' + 1 ≤ 2200 := b
        omega
    · rw [if_neg c] at h
      cases h
theorem ground_sz {l : List Nat} (s : Sm l) {d : PyData} (h : groundOut l 0 = .inl d) : sz d ≤ 2200 := by
  rcases ground_fine l 0 with ⟨q, e⟩ | ⟨S', d', p, q, g, e, e2⟩
  · unfold groundOut at h
    rw [e] at h
    cases h
  · obtain ⟨_, b⟩ := run_small s (by decide) (by decide +kernel) rfl rfl (by decide) e e2
    unfold groundOut at h
    rw [e, outF_made e2] at h
    by_cases c : S'.rest = []
    · rw [if_pos c] at h
      simp only at h
      rw [wholeG_P] at h
      split at h
      · cases h
      · injection h with h
        subst h
        have b : sz d' + 1 ≤ 2200 := b
        omega
    · rw [if_neg c] at h
      cases h
theorem told_sz {l : List Nat} (s : Sm l) {i : Nat} {word x : Str} {sorts : List Str} {d : PyData} (hw : szS word ≤ 10) (hx : szS x ≤ 2200) (hs : szAll (sorts.map .str) ≤ 2200) (hn : sorts.length ≤ 1000) (h : toldL2 l (toks l ++ ends3 l.length) i word x sorts = .inl d) : sz d ≤ 9000 := by
  have sub : ∀ a b : Nat, Sm ((l.drop a).take b) := fun a b => s.sub ((List.take_sublist _ _).trans (List.drop_sublist _ _))
  unfold toldL2 at h
  split at h
  · cases h
  · rename_i a ha
    have z := stmt_sz (sub _ _) (by omega) ha
    split at h
    · injection h with h; subst h
      simp only [sz_tup, szAll_cons, szAll_nil, sz_str, strsD]; omega
    · split at h
      · injection h with h; subst h
        simp only [sz_tup, szAll_cons, szAll_nil, sz_str]; omega
      · split at h
        · cases h
        · split at h
          · rename_i g hg
            have z2 := ground_sz (sub _ _) hg
            injection h with h; subst h
            simp only [sz_tup, szAll_cons, szAll_nil, sz_str]; omega
          · cases h
theorem row_szS {l : List Nat} (s : Sm l) {i : Nat} (h : (rw_ (toks l ++ ends3 l.length) i).w.kind = "name") (h2 : i ≤ (toks l).length + 2) : szS (SX.S (rw_ (toks l ++ ends3 l.length) i).src) ≤ 2200 := by
  have hlt : i < (toks l).length := At.lt (n := l.length) h2 (fun z => by rw [z] at h; exact absurd h (by show ¬ (("end" : Str) = _); decide +kernel))
  rw [rw_lt hlt] at h ⊢
  exact tok_sz s (List.getElem_mem hlt) (.inl h)
theorem head_sz {l : List Nat} (s : Sm l) : szS ((((namesAt (toks l ++ ends3 l.length) 3).map fun t => SX.S t.src)).headD "") ≤ 2200 := by
  have := names_sz s 3
  cases e : ((namesAt (toks l ++ ends3 l.length) 3).map fun t => SX.S t.src) with
  | nil => show szS "" ≤ 2200; decide +kernel
  | cons y r =>
    rw [e] at this
    simp only [List.map_cons, szAll_cons, sz_str] at this
    show szS y ≤ 2200
    omega
theorem listedT_sz {l : List Nat} (s : Sm l) {i : Nat} (hi : i ≤ (toks l).length) {word x : Str} {sorts : List Str} {d : PyData} (hw : szS word ≤ 10) (hx : szS x ≤ 2200) (hs : szAll (sorts.map .str) ≤ 2200) (hh : szS (sorts.headD "") ≤ 2200) (hn : sorts.length ≤ 1000) (h : listedT l (toks l ++ ends3 l.length) word x i sorts = .inl d) : sz d ≤ 9000 := by
  unfold listedT at h
  split at h
  · split at h
    · injection h with h; subst h
      simp only [sz_tup, szAll_cons, szAll_nil, sz_str]; omega
    · split at h
      · cases h
      · rename_i hne
        split at h
        · cases h
        · rename_i hna
          split at h
          · cases h
          · injection h with h; subst h
            have hr : szS (SX.S (rw_ (toks l ++ ends3 l.length) (i + 1)).src) ≤ 2200 := row_szS s (Decidable.not_not.mp hna) (by omega)
            simp only [sz_tup, szAll_cons, szAll_nil, sz_str, strsD]; omega
  · split at h
    · split at h
      · cases h
      · exact told_sz s hw hx hs hn h
    · split at h
      · injection h with h; subst h
        simp only [sz_tup, szAll_cons, szAll_nil, sz_str, strsD]; omega
      · cases h
theorem due_sz {l : List Nat} (s : Sm l) {d : PyData} (h : dueL l = .inl d) : sz d ≤ 9000 := by
  unfold dueL at h
  split at h
  · cases h
  · rename_i c0
    have c0 := Decidable.not_not.mp c0
    have hw : szS (SX.S (rw_ (toks l ++ ends3 l.length) 0).src) ≤ 10 := by
      have : ∀ y ∈ sortsL, szS y ≤ 10 := by decide +kernel
      exact this _ c0
    split at h
    · cases h
    · rename_i c1
      have hx : szS (SX.S (rw_ (toks l ++ ends3 l.length) 1).src) ≤ 2200 := row_szS s (Decidable.not_not.mp c1) (by omega)
      split at h
      · split at h
        · cases h
        · exact told_sz s hw hx (by simp [szAll]) (by simp) h
      · unfold listedL at h
        have hsl := scan_len l.length 0 l
        have hl := s.len
        have ht : (toks l).length ≤ 100 := by unfold toks; omega
        split at h
        · rename_i c2
          have o2 := At.row (l := l) (i := 2) (by omega)
          have h3 : 3 ≤ (toks l).length := At.lt (n := l.length) (i := 2) (by omega) (by rw [(row_mark o2).mp c2]; simp)
          split at h
          · cases h
          · have hle := names_lt (toks l) l.length 3 h3
            exact listedT_sz s hle hw hx (names_sz s 3) (head_sz s) (by rw [List.length_map]; omega) h
        · split at h
          · cases h
          · have h2 : 2 ≤ (toks l).length := At.lt (ts := toks l) (n := l.length) (i := 1) (by omega) (fun z => by
              have c1 := Decidable.not_not.mp c1
              rw [z] at c1; exact absurd c1 (by show ¬ (("end" : Str) = _); decide +kernel))
            exact listedT_sz s h2 hw hx (by simp [szAll]) (by show szS "" ≤ 2200; decide +kernel) (by simp) h
end KW

/-! part KPlain7 -/
set_option maxHeartbeats 4000000
/-! Rooms: lines joined and cut again. Plain Lean. -/
namespace KW
open PySem PySem.Spec PyProof.Rows L2 KM SX
/-! ### what the law makes of the rows -/
def isAt : PyData ⊕ Nat → Bool
  | .inl _ => false
  | .inr _ => true
/-- the numbers of the rows that are no entry -/
def wrongIx : Nat → List (PyData ⊕ Nat) → List Nat
  | _, [] => []
  | i, .inr _ :: r => i :: wrongIx (i + 1) r
  | i, .inl _ :: r => wrongIx (i + 1) r
def val1 : PyData ⊕ Nat → PyData
  | .inl d => d
  | .inr p => .int (p : Nat)
def wholeL (rs : List (PyData ⊕ Nat)) : PyData ⊕ Nat := match wrongIx 0 rs with
  | [] => .inl (.tuple (rs.map val1))
  | i :: _ => .inr i
theorem go_due : ∀ (ys : List (List Nat)) (i : Nat), (∀ y ∈ ys, Sm y) → roomGo ys i = match wrongIx i (ys.map dueL) with
    | [] => .inl ((ys.map dueL).map val1)
    | j :: _ => .inr j
  | [], _, _ => rfl
  | y :: ys, i, h => by
    have ih := go_due ys (i + 1) fun z hz => h z (List.mem_cons_of_mem _ hz)
    have e := entry_due (h y List.mem_cons_self)
    rw [roomGo_cons, e, List.map_cons]
    cases q : dueL y with
    | inr p => rfl
    | inl d =>
      simp only
      rw [ih]
      show _ = match wrongIx (i + 1) (ys.map dueL) with
        | [] => Sum.inl (d :: (ys.map dueL).map val1)
        | j :: _ => .inr j
      cases wrongIx (i + 1) (ys.map dueL) <;> rfl
def linesL (l : List Nat) : List (List Nat) := TL.spl [10] 0 [] l
theorem room_due {l : List Nat} (h : ∀ y ∈ linesL l, Sm y) : roomOut l = if l = [] then .inl (.tuple []) else wholeL ((linesL l).map dueL) := by
  unfold roomOut linesOf
  by_cases c : l = []
  · rw [if_pos c, if_pos c]; rfl
  · rw [if_neg c, if_neg c]
    show (match roomGo (linesL l) 0 with | .inl ds => Sum.inl (PyData.tuple ds) | .inr p => .inr p) = _
    rw [go_due _ 0 h]
    unfold wholeL
    cases wrongIx 0 ((linesL l).map dueL) <;> rfl
/-! ### sizes -/
theorem szAll_map {α : Type} {f : α → PyData} {k : Nat} : ∀ {xs : List α}, (∀ x ∈ xs, sz (f x) ≤ k) → szAll (xs.map f) ≤ (k + 1) * xs.length
  | [], _ => by simp [szAll]
  | x :: xs, h => by
    have h1 := h x List.mem_cons_self
    have h2 := szAll_map (xs := xs) fun y hy => h y (List.mem_cons_of_mem _ hy)
    rw [List.map_cons, szAll_cons, List.length_cons, Nat.mul_add]
    omega
theorem depth_map {α : Type} {f : α → PyData} {k : Nat} : ∀ {xs : List α}, (∀ x ∈ xs, (f x).depth ≤ k) → PyData.depthAll (xs.map f) ≤ k
  | [], _ => by simp [PyData.depthAll]
  | x :: xs, h => by
    have h1 := h x List.mem_cons_self
    have h2 := depth_map (xs := xs) fun y hy => h y (List.mem_cons_of_mem _ hy)
    rw [List.map_cons]
    simp only [PyData.depthAll]
    omega
/-- what may be shown: not too great, not too deep -/
structure ShOk (d : PyData) : Prop where
  sz : sz d ≤ 480000
  deep : d.depth ≤ 9010
theorem int_sz {n : Nat} (h : n < 100000) : sz (.int (n : Nat)) = 0 := z_ok (by omega) (by omega)
theorem end_sh {o : PyData ⊕ Nat} (h : ∀ d, o = .inl d → KM.sz d ≤ 479000 ∧ d.depth ≤ 9009) (h2 : ∀ p, o = .inr p → p < 100000) : ShOk (endD o) := by
  cases o with
  | inl d =>
    obtain ⟨a, b⟩ := h d rfl
    have : szS "told" = 4 := by decide +kernel
    refine ⟨?_, ?_⟩
    · show KM.sz (.tuple [.str "told", d]) ≤ _
      simp only [sz_tup, szAll_cons, szAll_nil, sz_str]; omega
    · show PyData.depth (.tuple [.str "told", d]) ≤ _
      simp only [PyData.depth, PyData.depthAll]; omega
  | inr p =>
    have a := int_sz (h2 p rfl)
    have : szS "at" = 2 := by decide +kernel
    refine ⟨?_, ?_⟩
    · show KM.sz (.tuple [.str "at", .int (p : Nat)]) ≤ _
      simp only [sz_tup, szAll_cons, szAll_nil, sz_str]; omega
    · show PyData.depth (.tuple [.str "at", .int (p : Nat)]) ≤ _
      simp only [PyData.depth, PyData.depthAll]; omega
theorem scan_pos {n at' : Nat} {l : List Nat} {t : Tok} (h : t ∈ scan n at' l) : t.pos ≤ at' + l.length := by have := scan_end _ _ _ t h; omega
theorem row_pos {l : List Nat} (i : Nat) : (rw_ (toks l ++ ends3 l.length) i).pos ≤ l.length := by
  by_cases c : i < (toks l ++ ends3 l.length).length
  · have hm : rw_ (toks l ++ ends3 l.length) i ∈ toks l ++ ends3 l.length := by
      unfold rw_; rw [List.getElem?_eq_getElem c]; exact List.getElem_mem c
    rcases List.mem_append.mp hm with h | h
    · have := scan_pos h; omega
    · rw [List.eq_of_mem_replicate h]; exact Nat.le_refl _
  · unfold rw_; rw [List.getElem?_eq_none (by omega)]; exact Nat.zero_le _
/-! ### places of faults -/
def GP (M : Nat) (S : PS) : Prop := ∀ x ∈ S.rest, x.pos ≤ M
def RsP (M : Nat) : Rs → Prop
  | .err p => p ≤ M
  | .ok S => GP M S
  | .stuck => True
section
variable {M len : Nat} (hM : len ≤ M)
theorem gp_adv {S : PS} (h : GP M S) : GP M S.adv := fun x hx => h x (List.mem_of_mem_tail hx)
include hM
theorem gp_now {S : PS} (h : GP M S) : (nowW len S.rest).pos ≤ M := by
  obtain ⟨rest, many, todo, made⟩ := S
  cases rest with
  | nil => exact hM
  | cons p r => exact h p List.mem_cons_self
theorem rs_wrong {S : PS} (h : GP M S) : RsP M (wrongM len S) := gp_now hM h
omit hM in
theorem rs_bind {r : Rs} {f : PS → Rs} (h : RsP M r) (hf : ∀ S, GP M S → RsP M (f S)) : RsP M (r.bind f) := by
  cases r with
  | err p => exact h
  | ok S => exact hf S h
  | stuck => trivial
theorem rs_need {x : Str} {S : PS} (h : GP M S) : RsP M (needMark len x S) := by
  unfold needMark
  split
  · exact gp_adv h
  · exact rs_wrong hM h
theorem rs_var {S : PS} (h : GP M S) : RsP M (doVariable len S) := by
  unfold doVariable
  split
  · split
    · exact gp_adv h
    · exact rs_wrong hM h
  · exact rs_wrong hM h
theorem rs_same {S : PS} (h : GP M S) : RsP M (doSame len S) := by
  unfold doSame
  split
  · exact gp_adv h
  · exact rs_wrong hM h
omit hM in
theorem rs_call {word x : Str} {n : Nat} {S : PS} (h : GP M S) : RsP M (makeCall word x n S) := by
  unfold makeCall
  split
  · exact h
  · trivial
theorem rs_step (t : Tk) {S : PS} (h : GP M S) : RsP M (stepT len t S) := by
  have a := gp_adv h
  have w := rs_wrong hM h
  cases t with
  | term =>
    show RsP M (doTerm len S)
    unfold doTerm
    split
    · exact rs_var hM h
    · exact a
    · exact w
  | args =>
    show RsP M (doArgs len S)
    unfold doArgs
    split
    · exact a
    · exact h
  | more k =>
    show RsP M (doMore len k S)
    unfold doMore
    split
    · exact a
    · split
      · exact a
      · exact w
  | call x =>
    show RsP M (doCall x S)
    unfold doCall
    split
    · exact rs_call h
    · trivial
  | rel x =>
    show RsP M (doRel len x S)
    unfold doRel
    split
    · split
      · exact rs_bind (rs_call h) (fun S hS => rs_same hM hS)
      · exact rs_call h
    · trivial
  | stmt =>
    show RsP M (doStmt len S)
    have bd : ∀ w, RsP M (doBound len w S.adv) := by
      intro w
      unfold doBound
      split
      · refine rs_bind (rs_need hM (gp_adv a)) (fun S2 h2 => ?_)
        unfold doBound2
        split
        · unfold doBound3
          exact rs_bind (rs_need hM (gp_adv h2)) (fun S3 h3 => h3)
        · exact rs_wrong hM h2
      · exact rs_wrong hM a
    unfold doStmt
    split
    · exact bd _
    · split
      · exact bd _
      · exact h
  | level k =>
    show RsP M (doLevel len k S)
    unfold doLevel
    split
    · unfold doNot
      split
      · split
        · exact a
        · split
          · exact a
          · exact w
      · split
        · exact a
        · exact w
      · exact rs_bind (rs_var hM h) (fun S hS => rs_same hM hS)
      · exact a
      · exact w
    · exact h
  | rest k =>
    show RsP M (doRest len k S)
    unfold doRest
    split
    · split
      · exact a
      · exact h
    · trivial
  | make x =>
    show RsP M (doMake x S)
    unfold doMake
    split
    · split
      · exact h
      · trivial
    · trivial
  | mknot =>
    show RsP M (doMknot S)
    unfold doMknot
    split
    · split
      · exact h
      · trivial
    · trivial
  | bound x s =>
    show RsP M (doBnd x s S)
    unfold doBnd
    split
    · split
      · exact h
      · trivial
    · trivial
  | take x => exact rs_need hM h
  | ground =>
    show RsP M (doGround len S)
    unfold doGround
    split
    · unfold doGround1
      split
      · exact rs_bind (rs_need hM a) (fun S hS => hS)
      · exact w
    · exact w
  | piece c =>
    show RsP M (doPiece len c S)
    unfold doPiece
    cases c with
    | f =>
      show RsP M (match nw len S with | .name x => Rs.ok (S.adv.add [.args, .call x, .small]) | _ => wrongM len S)
      split
      · exact a
      · exact w
    | n =>
      show RsP M (match nw len S with | .num n => Rs.ok (S.adv.push (.P (.int n) 0 0 true)) | _ => wrongM len S)
      split
      · exact a
      · exact w
    | w =>
      show RsP M (match nw len S with | .name x => Rs.ok (S.adv.push (.P (.str x) 0 0 true)) | _ => wrongM len S)
      split
      · exact a
      · exact w
    | _ => exact h
  | small =>
    show RsP M (doSmall S)
    unfold doSmall
    split
    · exact h
    · trivial
  | members =>
    show RsP M (doMembers len S)
    unfold doMembers
    split
    · exact a
    · split
      · split
        · exact h
        · trivial
      · trivial
  | less => exact h
  | ended x =>
    show RsP M (doEnded x S)
    unfold doEnded
    split
    · split
      · split
        · exact h
        · trivial
      · trivial
    · trivial
theorem rs_run : ∀ (n : Nat) {S : PS}, GP M S → RsP M (runF len n S)
  | 0, _, _ => trivial
  | n + 1, S, h => by
    unfold runF
    cases e : S.todo with
    | nil => exact h
    | cons t ts => exact rs_bind (rs_step hM t h) (fun S1 h1 => rs_run n h1)
end
theorem gp_ps (l : List Nat) (many : Int) (t : Tk) : GP l.length ((psOf l many).add [t]) := fun x hx => by
  obtain ⟨u, hu, rfl⟩ := List.mem_map.mp hx
  have := scan_pos hu
  show u.pos ≤ _
  omega
theorem out_pos {l : List Nat} {many : Int} {t : Tk} {p : Nat} (h : outF l.length (runOf l many t) = .inr p) : p ≤ l.length := by
  have k : RsP l.length (runOf l many t) := rs_run (Nat.le_refl _) _ (gp_ps l many t)
  cases e : runOf l many t with
  | err q =>
    rw [e] at h k
    injection h with h
    subst h
    exact k
  | stuck => rw [e] at h; injection h with h; omega
  | ok S =>
    rw [e] at h k
    unfold outF at h
    simp only at h
    split at h
    · split at h
      · cases h
      · injection h with h; omega
    · injection h with h
      subst h
      exact gp_now (Nat.le_refl _) k
theorem stmt_pos {l : List Nat} {many : Int} {p : Nat} (h : stmtOut l many = .inr p) : p ≤ l.length := by
  unfold stmtOut at h
  split at h
  · split at h
    · injection h with h; omega
    · cases h
  · injection h with h; omega
  · rename_i q hq
    injection h with h
    subst h
    exact out_pos hq
theorem ground_pos {l : List Nat} {many : Int} {p : Nat} (h : groundOut l many = .inr p) : p ≤ l.length := by
  unfold groundOut at h
  split at h
  · unfold wholeG at h
    split at h
    · split at h
      · injection h with h; omega
      · cases h
    · injection h with h; omega
  · rename_i q hq
    injection h with h
    subst h
    exact out_pos hq
theorem told_pos {l : List Nat} {i : Nat} {word x : Str} {sorts : List Str} {p : Nat} (h : toldL2 l (toks l ++ ends3 l.length) i word x sorts = .inr p) : p ≤ 3 * l.length + 10 := by
  have hf : firstL (toks l ++ ends3 l.length) i ≤ l.length := by
    by_cases c : i < (toks l ++ ends3 l.length).length
    · have := row_pos (l := l) i
      have e : firstL (toks l ++ ends3 l.length) i = (rw_ (toks l ++ ends3 l.length) i).pos := by
        unfold firstL rw_; rw [List.getElem?_eq_getElem c]; rfl
      omega
    · unfold firstL; rw [List.getElem?_eq_none (by omega)]; exact Nat.zero_le _
  have hb : behindL l (toks l ++ ends3 l.length) i word ≤ l.length := by
    unfold behindL
    split
    · rename_i q r e
      split
      · have hm : q ∈ placesL (toks l ++ ends3 l.length) i := by rw [e]; exact List.mem_cons_self
        unfold placesL at hm
        obtain ⟨t, ht, rfl⟩ := List.mem_map.mp hm
        have ht := List.mem_of_mem_drop (List.mem_filter.mp ht).1
        rcases List.mem_append.mp ht with h | h
        · have := scan_pos h; omega
        · rw [List.eq_of_mem_replicate h]; exact Nat.le_refl _
      · exact Nat.le_refl _
    · exact Nat.le_refl _
  have hl : ∀ a b : Nat, ((l.drop a).take b).length ≤ l.length := fun a b => by rw [List.length_take, List.length_drop]; omega
  unfold toldL2 at h
  split at h
  · rename_i q hq
    have := stmt_pos hq
    have := hl (firstL (toks l ++ ends3 l.length) i) (behindL l (toks l ++ ends3 l.length) i word - firstL (toks l ++ ends3 l.length) i)
    injection h with h
    omega
  · split at h
    · cases h
    · split at h
      · cases h
      · split at h
        · injection h with h; omega
        · split at h
          · cases h
          · rename_i q hq
            have := ground_pos hq
            have := hl (behindL l (toks l ++ ends3 l.length) i word + 2) (l.length - (behindL l (toks l ++ ends3 l.length) i word + 2))
            injection h with h
            omega
theorem due_pos {l : List Nat} {p : Nat} (h : dueL l = .inr p) : p ≤ 3 * l.length + 10 := by
  have r := row_pos (l := l)
  unfold dueL at h
  split at h
  · injection h with h; have := r 0; omega
  · split at h
    · injection h with h; have := r 1; omega
    · split at h
      · split at h
        · injection h with h; have := r 2; omega
        · exact told_pos h
      · unfold listedL at h
        have lt : ∀ {word x : Str} {i : Nat} {sorts : List Str}, listedT l (toks l ++ ends3 l.length) word x i sorts = .inr p → p ≤ 3 * l.length + 10 := by
          intro word x i sorts h
          unfold listedT at h
          split at h
          · split at h
            · cases h
            · split at h
              · injection h with h; have := r i; omega
              · split at h
                · injection h with h; have := r (i + 1); omega
                · split at h
                  · injection h with h; have := r (i + 2); omega
                  · cases h
          · split at h
            · split at h
              · injection h with h; have := r i; omega
              · exact told_pos h
            · split at h
              · cases h
              · injection h with h; have := r i; omega
        split at h
        · split at h
          · injection h with h; have := r 3; omega
          · exact lt h
        · split at h
          · injection h with h; have := r 2; omega
          · exact lt h
theorem due_sh {l : List Nat} (s : Sm l) : ShOk (endD (dueL l)) := end_sh (fun d h => by
  have a := due_sz s h
  have b := (sz_ok d (by omega)).2.2.2.2.2
  exact ⟨by omega, by omega⟩) (fun p h => by have := due_pos h; have := s.len; omega)
theorem wrong_lt : ∀ (rs : List (PyData ⊕ Nat)) (i : Nat), ∀ j ∈ wrongIx i rs, j < i + rs.length
  | [], _, j, h => by cases h
  | .inr p :: r, i, j, h => by
    rw [List.length_cons]
    rcases List.mem_cons.mp h with rfl | h
    · omega
    · have := wrong_lt r (i + 1) j h; omega
  | .inl d :: r, i, j, h => by
    rw [List.length_cons]
    have := wrong_lt r (i + 1) j h; omega
theorem whole_sh {ys : List (List Nat)} (h : ∀ y ∈ ys, Sm y) (hn : ys.length ≤ 53) : ShOk (endD (wholeL (ys.map dueL))) := by
  have hv : ∀ y ∈ ys, KM.sz (val1 (dueL y)) ≤ 9000 ∧ (val1 (dueL y)).depth ≤ 9001 := by
    intro y hy
    cases e : dueL y with
    | inl d =>
      have a := due_sz (h y hy) e
      have b := (sz_ok d (by omega)).2.2.2.2.2
      exact ⟨a, by show d.depth ≤ _; omega⟩
    | inr p =>
      have a := due_pos e
      have s := (h y hy).len
      have z := int_sz (n := p) (by omega)
      exact ⟨by show KM.sz (.int (p : Nat)) ≤ _; omega, by show PyData.depth (.int (p : Nat)) ≤ _; simp only [PyData.depth]; omega⟩
  refine end_sh (fun d e => ?_) (fun p e => ?_)
  · unfold wholeL at e
    split at e
    · injection e with e
      subst e
      rw [List.map_map]
      have a := szAll_map (f := val1 ∘ dueL) (k := 9000) (xs := ys) fun y hy => (hv y hy).1
      have b := depth_map (f := val1 ∘ dueL) (k := 9001) (xs := ys) fun y hy => (hv y hy).2
      refine ⟨?_, ?_⟩
      · rw [sz_tup]; omega
      · simp only [PyData.depth]; omega
    · cases e
  · unfold wholeL at e
    split at e
    · cases e
    · rename_i j r q
      injection e with e
      have := wrong_lt (ys.map dueL) 0 j (by rw [q]; exact List.mem_cons_self)
      rw [List.length_map] at this
      omega
/-! ### lines joined and cut -/
theorem pre10 {c : Nat} {r : List Nat} : TL.pre [10] (c :: r) = decide (c = 10) := by
  unfold TL.pre
  show ([c] == [10]) = _
  by_cases h : c = 10
  · subst h; rfl
  · rw [decide_eq_false h]; simpa using h
theorem spl_app (b : List Nat) : ∀ (a acc : List Nat), TL.spl [10] 0 acc (a ++ 10 :: b) = TL.spl [10] 0 acc a ++ TL.spl [10] 0 [] b
  | [], acc => by
    rw [List.nil_append, TL.spl_hit (by rw [pre10]; rfl), TL.spl_nil]; rfl
  | c :: a, acc => by
    rw [List.cons_append]
    by_cases h : c = 10
    · subst h
      rw [TL.spl_hit (by rw [pre10]; rfl), TL.spl_hit (by rw [pre10]; rfl)]
      show acc :: TL.spl [10] 0 [] (a ++ 10 :: b) = (acc :: TL.spl [10] 0 [] a) ++ _
      rw [spl_app b a []]; rfl
    · rw [TL.spl_miss (by rw [pre10, decide_eq_false h]), TL.spl_miss (by rw [pre10, decide_eq_false h]), spl_app b a]
theorem spl_sub : ∀ (a acc : List Nat), ∀ y ∈ TL.spl [10] 0 acc a, y.Sublist (acc ++ a)
  | [], acc, y, h => by
    rw [TL.spl_nil] at h
    rw [List.mem_singleton.mp h, List.append_nil]
    exact List.Sublist.refl _
  | c :: a, acc, y, h => by
    by_cases e : c = 10
    · rw [TL.spl_hit (by rw [pre10, e]; rfl)] at h
      rcases List.mem_cons.mp h with rfl | h
      · exact List.sublist_append_left _ _
      · have := spl_sub a [] y h
        exact this.trans ((List.sublist_cons_self c a).trans (List.sublist_append_right _ _))
    · rw [TL.spl_miss (by rw [pre10, decide_eq_false e])] at h
      have := spl_sub a (acc ++ [c]) y h
      rw [List.append_assoc] at this
      exact this
theorem spl_count : ∀ (a acc : List Nat), (TL.spl [10] 0 acc a).length = 1 + a.count 10
  | [], acc => by rw [TL.spl_nil]; rfl
  | c :: a, acc => by
    by_cases e : c = 10
    · rw [TL.spl_hit (by rw [pre10, e]; rfl), List.length_cons]
      show (TL.spl [10] 0 [] a).length + 1 = _
      rw [spl_count a [], e, List.count_cons_self]; omega
    · rw [TL.spl_miss (by rw [pre10, decide_eq_false e]), spl_count a, List.count_cons_of_ne (fun z => e z)]
theorem join_pieces {Pr : List Nat → Prop} (hsub : ∀ y l : List Nat, y.Sublist l → Pr l → Pr y) (h0 : Pr []) : ∀ (ls : List (List Nat)), (∀ l ∈ ls, Pr l) → ∀ y ∈ linesL (TL.joinL [10] ls), Pr y
  | [], _, y, h => by
    have : y = [] := by simpa [linesL, TL.joinL, TL.spl_nil] using h
    rw [this]; exact h0
  | [l], hl, y, h => by
    have := spl_sub l [] y h
    exact hsub y l this (hl l List.mem_cons_self)
  | l :: m :: r, hl, y, h => by
    have e : TL.joinL [10] (l :: m :: r) = l ++ 10 :: TL.joinL [10] (m :: r) := rfl
    unfold linesL at h
    rw [e, spl_app] at h
    rcases List.mem_append.mp h with h | h
    · exact hsub y l (spl_sub l [] y h) (hl l List.mem_cons_self)
    · exact join_pieces hsub h0 (m :: r) (fun z hz => hl z (List.mem_cons_of_mem _ hz)) y h
theorem join_len {k : Nat} : ∀ (ls : List (List Nat)), (∀ l ∈ ls, l.length ≤ k) → (TL.joinL [10] ls).length ≤ (k + 1) * ls.length
  | [], _ => by simp [TL.joinL]
  | [l], hl => by
    have := hl l List.mem_cons_self
    show l.length ≤ _
    simp only [List.length_singleton, Nat.mul_one]; omega
  | l :: m :: r, hl => by
    have h1 := hl l List.mem_cons_self
    have h2 := join_len (m :: r) (fun z hz => hl z (List.mem_cons_of_mem _ hz))
    show (l ++ 10 :: TL.joinL [10] (m :: r)).length ≤ _
    rw [List.length_append, List.length_cons]
    simp only [List.length_cons, Nat.mul_add, Nat.mul_one] at h2 ⊢
    omega
theorem join_count {k : Nat} : ∀ (ls : List (List Nat)), (∀ l ∈ ls, l.count 10 ≤ k) → (linesL (TL.joinL [10] ls)).length ≤ 1 + (k + 1) * ls.length
  | [], _ => by simp [linesL, TL.joinL, TL.spl_nil]
  | [l], hl => by
    have := hl l List.mem_cons_self
    show (TL.spl [10] 0 [] l).length ≤ _
    rw [spl_count]
    simp only [List.length_singleton, Nat.mul_one]; omega
  | l :: m :: r, hl => by
    have h1 := hl l List.mem_cons_self
    have h2 := join_count (m :: r) (fun z hz => hl z (List.mem_cons_of_mem _ hz))
    have e : linesL (TL.joinL [10] (l :: m :: r)) = TL.spl [10] 0 [] l ++ linesL (TL.joinL [10] (m :: r)) := by
      show TL.spl [10] 0 [] (l ++ 10 :: TL.joinL [10] (m :: r)) = _
      rw [spl_app]; rfl
    rw [e, List.length_append, spl_count]
    simp only [List.length_cons, Nat.mul_add, Nat.mul_one] at h2 ⊢
    omega
end KW

/-! part KEnd -/
set_option maxHeartbeats 4000000
/-! The law's own call, at the caller alone (so that what repr guards is known); repr of data. -/
namespace KW
open PySem PySem.Spec PyProof.Rows L2 KM SX
/-! ### repr of data -/
theorem shown_fit {d : PyData} (h : ShOk d) : d.shown.length ≤ sizeLine := by
  have h0 := h.sz
  obtain ⟨_, h1, _, _, h2, _⟩ := sz_ok d (by omega)
  have h3 := PyData.shown_le_bulk 32 (by decide) d h1
  rw [sizeLine_eq]
  omega
def rReprD (K : PySem.W.Frag) : List V → Hp → VK → Prop := fun xs H Q => ∃ (a : Addr) (d : PyData), xs = [.ref a] ∧ Tp K H (.ref a) d ∧ ShOk d ∧ Q (.str d.shown) H
theorem call_reprD {X : Cx} (hg : X.A.guards = some []) (hu : X.A.units + 9100 < cLine) : CallR X (.builtin "repr") (rReprD X.K) := by
  intro pins s σ H xs us Q I r h
  obtain ⟨a, d, rfl, ht, hd, q⟩ := h
  obtain ⟨u, rfl, ru⟩ := vals1 r
  have eu : u = .ref a := ru
  subst eu
  obtain ⟨as, rd⟩ := Dp.reads I d (.ref a) (.ref a) ht.dp ru
  have h0 := hd.sz
  have h9 := hd.deep
  obtain ⟨_, _, h1, h2, _, _⟩ := sz_ok d (by omega)
  exact repr_of_reads' rd h1 (fun z => by rw [h2] at z; cases z) hg (by omega) (fun _ _ e => e) (fun h' u tk hk => ⟨.str d.shown, H, I.kept hk, ⟨_, rfl⟩, q⟩) (shown_fit hd)
/-! ### the call -/
section
variable {P : Program} {w : World} {K : PySem.W.Frag} {mg mb : Str → Option Value} {s : Shared} {a : Addr} {vs : List Value} {ns : List Int}
/-- what a program's objects are not: the script -/
theorem env_start {H : Hp} (KX : K.In s.heap) (hns : s.heap.Ns mainGlobals mg) (hb : s.heap.Ns builtinsNs mb) (hbb : ∀ x : Str, x ≠ "__name__" → mb x = bootBuiltins x) (hlim : s.heap.NoLimit) (hg : s.gens = #[])
    (ha : s.heap.get? a = some { cls := .type "list", data := .seq vs.toArray }) (hok : HOk P w H s.heap) (hA : ∀ b, H b ≠ none → b = a ∧ K.lookup a = none) : Env0 P w K mg (hidT s.heap H) callerA [] s H := by
  have un : ∀ {b : Addr}, (b = a → K.lookup a ≠ none ∨ False) → H b = none := fun {b} h => by
    by_cases z : H b = none
    · exact z
    · obtain ⟨e1, e2⟩ := hA b z
      rcases h e1 with h | h
      · exact absurd e2 h
      · exact h.elim
  have dict : ∀ {b : Addr} {o : Obj} {es : Array DictEntry} {n : Nat}, s.heap.get? b = some o → o.data = .dict es n → H b = none := fun {b o es n} e d => by
    by_cases z : H b = none
    · exact z
    · obtain ⟨rfl, _⟩ := hA b z
      have := Option.some.inj (ha.symm.trans e)
      rw [← this] at d
      exact Data.noConfusion d
  have ns' : ∀ {b : Addr} {m : Str → Option Value}, s.heap.Ns b m → (hidT s.heap H).Ns b m := by
    rintro b m ⟨o, es, n, e, d, r⟩
    exact ⟨o, es, n, hidT_get e (dict e d), d, r⟩
  obtain ⟨mc, l1, l2⟩ := hlim
  refine ⟨rfl, ⟨fun b o e => hidT_get (KX b o e) (un fun z => .inl (by rw [← z, e]; simp)), ns' hns, ⟨mb, ns' hb, hbb⟩, ⟨mc, ns' l1, l2⟩⟩, fun b o e => of_hidT e, Nat.le_of_eq (hidT_size _ _), trivial, fun b z => ?_, hok, .of_eq hg⟩
  have z : b ∈ ([] : List Addr) := z
  cases z
theorem law_at {fa : Addr} (KX : K.In s.heap) (hns : s.heap.Ns mainGlobals mg) (hb : s.heap.Ns builtinsNs mb) (hbb : ∀ x : Str, x ≠ "__name__" → mb x = bootBuiltins x) (hlim : s.heap.NoLimit) (hg : s.gens = #[])
    (ha : s.heap.get? a = some { cls := .type "list", data := .seq vs.toArray }) (hi : IntsAre vs ns) (hl : ns.length ≤ sizeLine)
    (F : ∀ (base : Heap) (H : Hp), Only H → SqL K H a (ns.map V.int) → Env0 P w K mg base callerA [] s H → codeAny (model P w) callerA (.call (.ref fa) ⟨[.ref a], []⟩) (L2.CR (L2.CX P w) [] P w H s (fun v _ => v = .bl true) fun _ _ _ => False) s) :
    codeAny (model P w) callerA (.call (.ref fa) ⟨[.ref a], []⟩) (fun r s' => r = .ok (.ret (.bool true)) ∧ OldK s.heap s'.heap ∧ s'.os = s.os ∧ AllBare s'.gens) s := by
  have rv := vals_ints hi
  have hlen := hi.length
  have go : ∀ H : Hp, Only H → SqL K H a (ns.map V.int) → HOk P w H s.heap → (∀ b, H b ≠ none → b = a ∧ K.lookup a = none) →
      codeAny (model P w) callerA (.call (.ref fa) ⟨[.ref a], []⟩) (fun r s' => r = .ok (.ret (.bool true)) ∧ OldK s.heap s'.heap ∧ s'.os = s.os ∧ AllBare s'.gens) s := by
    intro H hO hS hok hA
    refine codeAny_mono (F _ H hO hS (env_start KX hns hb hbb hlim hg ha hok hA)) ?_
    rintro (e | fl) s' h
    · obtain ⟨_, _, _, _, _, _, _, _, _, _, _, _, z⟩ := h
      exact z.elim
    · cases fl with
      | ret u =>
        obtain ⟨v, H', os, bare, un, hok', r', q⟩ := h
        subst q
        have eu : u = Value.bool true := r'
        subst eu
        refine ⟨rfl, OldK.of_keep fun b o e => ?_, os, bare⟩
        rcases hO b with q | ⟨ob, xs, q⟩
        · exact un.keep b o e q (fun z => by have z : b ∈ ([] : List Addr) := z; cases z) (by simp)
        · have e1 := (hok b _ q).1
          have e2 := (hok' b _ (un.frzs b ob _ q)).1
          exact e2.trans (e1.symm.trans e)
      | _ => exact False.elim h
  cases hk : K.lookup a with
  | some o =>
    have e := Option.some.inj (ha.symm.trans (KX a o hk))
    subst e
    exact go (fun _ => none) (fun _ => .inl rfl) (.inr ⟨_, vs.toArray, _, hk, rfl, rfl, rfl, by rw [List.size_toArray, hlen]; exact hl, by simpa using rv⟩) (fun b u z => by have z : (none : Option HO) = some u := z; cases z) (fun b z => absurd rfl z)
  | none =>
    have at' : ∀ b : Addr, (if b = a then some (HO.frz { cls := .type "list", data := .seq vs.toArray } (.lst (ns.map V.int))) else none) = none ∨ b = a := fun b => by
      by_cases h : b = a
      · exact .inr h
      · exact .inl (if_neg h)
    refine go (fun b => if b = a then some (.frz { cls := .type "list", data := .seq vs.toArray } (.lst (ns.map V.int))) else none) (fun b => ?_) (.inl (.inr ⟨{ cls := .type "list", data := .seq vs.toArray }, if_pos rfl⟩)) (fun b u z => ?_) (fun b z => ?_)
    · rcases at' b with h | h
      · exact .inl h
      · exact .inr ⟨_, _, if_pos h⟩
    · rcases at' b with h | h
      · exact nomatch (h.symm.trans z : (none : Option HO) = some u)
      · subst h
        have z := (if_pos rfl).symm.trans z
        cases z
        exact ⟨ha, by rw [List.length_map]; exact hl, vs, _, rv, ha⟩
    · rcases at' b with h | h
      · exact absurd h z
      · exact ⟨h, hk⟩
end
end KW

/-! part KEnd2 -/
set_option maxHeartbeats 4000000
/-! The law's def, called by the caller alone. -/
namespace KW
open PySem PySem.Spec PyProof.Rows L2 KM SX
section
variable {P : Program} {w : World} {K : PySem.W.Frag} {mg : Str → Option Value} {base : Heap} {s : Shared} {H : Hp}
theorem law_fn {f a : Addr} (F : Fn K "law" "law" s_law f) (e0 : Env0 P w K mg base callerA [] s H) (Q : VK) (E : XK)
    (body : ∀ cdv : Value, ∃ t, PSs (XB P w K mg base N_law "law" s_law f cdv callerA [] s H E) (defBody s_law) t ∧ t { nx := fun _ H' => Q .non H', rt := Q } (start N_law [.ref a]) H) :
    codeAny (model P w) callerA (.call (.ref f) ⟨[.ref a], []⟩) (L2.CR (L2.CX P w) [] P w H s Q E) s := by
  obtain ⟨fd, D⟩ := F
  have b := FunD.bindsA (ps := ["_law_script"]) D fun _ _ _ _ _ _ us hl => match us, hl with | [_], _ => rfl
  obtain ⟨oc, od, dV, kV, doc, pm, an, cdv, ct, osl, rfl, lk, hcd, _, _⟩ := D.ex
  have KX : K.In s.heap := e0.mod.kin.keeps fun b o e => (e0.bs b o e).1
  have lim : s.heap.NoLimit := e0.mod.nolimit.keeps fun b o e => (e0.bs b o e).1
  have S := sc_law
  obtain ⟨t, ht, hq⟩ := body cdv
  refine codeAny_call_function (show callerA.depth < recursionLimit by decide) (KX _ _ lk) rfl S.co S.gen rfl (PySem.W.codeRec_of KX hcd) (b s [.ref a] rfl _ _ _ _ ?_)
  refine wpAny_newFunctionEnv_cells S.kind (fun y hy => ?_) fun env he s1 x => ?_
  · have hy : y ∈ [(("_law_script" : Str), Value.ref a)] := hy
    rw [List.mem_singleton.mp hy]
    rcases S.par _ (List.mem_singleton.mpr rfl) with q | q
    · exact .inl q
    · exact .inr ⟨q, PySem.W.cellsFrom_some _ _ _ (.inl q)⟩
  · subst he
    have I := inv_start (CX := L2.CX P w) (f := f) (cd := cdv) (E := E) (us := [.ref a]) (vs := [.ref a]) S (show callerA.handled = none from rfl) e0 rfl (.cons rfl .nil) x
    refine ⟨lim.keeps x.toInCall.keep, codeAny_func (wpAny_mono (ht.run [] s1 (start N_law [.ref a]) H _ I hq) ?_ fun _ _ z => z)⟩
    have done : ∀ {σ' : L2.St} {H' : Hp} {v : V} {u : Value} {s' : Shared}, Inv (XB P w K mg base N_law "law" s_law f cdv callerA [] s H E) [] σ' H' s' → RelV v u → Q v H' → CE [] P w H s Q u s' :=
      fun J r q => ⟨_, _, J.os, J.bare, J.base, J.hok, r, q⟩
    rintro (_ | _ | _ | u) s' h
    · obtain ⟨_, _, J, q⟩ := h
      exact done (v := .non) (u := .none) J rfl q
    · obtain ⟨_, _, _, q⟩ := h
      exact False.elim q
    · obtain ⟨_, _, _, q⟩ := h
      exact False.elim q
    · obtain ⟨_, _, _, J, r, q⟩ := h
      exact done J r q
end
end KW

/-! part KLaw11 -/
set_option maxHeartbeats 4000000
/-! The law's body, from behind. -/
namespace KW
open PySem PySem.Spec PyProof.Rows L2 KM SX
theorem pnone {P : Program} {w : World} {X : Cx} : Passes (L2.CX P w) X (fun _ _ _ => False) := fun _ _ _ _ _ _ _ h => by
  obtain ⟨_, _, _, _, _, _, _, _, _, _, _, _, z⟩ := h
  exact z.elim
abbrev noE : XK := fun _ _ _ => False
theorem fold_size (a : Array Nat) : ∀ (n : Nat) (acc : Array Nat), ((List.replicate n a).foldl (· ++ ·) acc).size = acc.size + n * a.size
  | 0, acc => by simp
  | n + 1, acc => by
    rw [List.replicate_succ, List.foldl_cons, fold_size a n, Array.size_append, Nat.add_mul]
    omega
theorem mul_len {x : Str} {n : Nat} (hn : 1 < n) (hx : x.length ≠ 0) : (Txt.mul x (n : Nat)).length = n * x.length := by
  unfold Txt.mul
  rw [if_neg (by omega), if_neg (by simp; exact ⟨by omega, hx⟩)]
  show ((List.replicate _ x.cps).foldl (· ++ ·) #[]).size = _
  rw [fold_size]
  show 0 + n * x.length = _
  omega
section
variable {P : Program} {w : World} {K : PySem.W.Frag} {mg : Str → Option Value} {base : Heap}
/-- what is no text -/
inductive Odd (H : Hp) : V → Prop
  | non : Odd H .non
  | int (i : Int) : Odd H (.int i)
  | bl (b : Bool) : Odd H (.bl b)
  | lst {a : Addr} {xs : List V} (e : H a = some (.lst xs)) : Odd H (.ref a)
  | dK {a : Addr} {kvs : List (Key × V)} (e : H a = some (.dK kvs)) : Odd H (.ref a)
theorem Odd.same {H H' : Hp} {v : V} (h : Odd H v) (s : Same H H') : Odd H' v := by
  cases h with
  | non => exact .non
  | int i => exact .int i
  | bl b => exact .bl b
  | lst e => exact .lst (s _ _ e)
  | dK e => exact .dK (s _ _ e)
theorem Odd.ty {H : Hp} {v : V} (h : Odd H v) : ∃ t, TyX K H v t ∧ PySem.W.kitOne K t (.type "str") = some false := by
  cases h with
  | non => exact ⟨_, .base .non, kit_ty (by decide +kernel)⟩
  | int i => exact ⟨_, .base (.int i), kit_ty (by decide +kernel)⟩
  | bl b => exact ⟨_, .base (.bl b), kit_ty (by decide +kernel)⟩
  | lst e => exact ⟨_, .base (.lst e), kit_ty (by decide +kernel)⟩
  | dK e => exact ⟨_, .base (.dK e), kit_ty (by decide +kernel)⟩
/-- the script: it may be read whatever is written at two other places -/
structure Scr (K : PySem.W.Frag) (H : Hp) (c sp ls : Addr) (xs : List V) : Prop where
  is : (Rd H c (.lst xs) ∧ c ≠ sp ∧ c ≠ ls) ∨ ∀ H', SqL K H' c xs
theorem Scr.sq {H : Hp} {c sp ls : Addr} {xs : List V} (h : Scr K H c sp ls xs) : SqL K H c xs := by
  rcases h.is with ⟨a, _⟩ | a
  · exact .inl a
  · exact a _
theorem rd_ne {H : Hp} {c b : Addr} {o u : HO} (h : Rd H c u) (n : c ≠ b) : Rd (upd H b o) c u := by
  rcases h with h | ⟨x, h⟩
  · exact .inl (by rw [upd_ne n]; exact h)
  · exact .inr ⟨x, by rw [upd_ne n]; exact h⟩
theorem Scr.sp {H : Hp} {c sp ls : Addr} {xs : List V} (h : Scr K H c sp ls xs) (o : HO) : Scr K (upd H sp o) c sp ls xs := by
  rcases h.is with ⟨a, n1, n2⟩ | a
  · exact ⟨.inl ⟨rd_ne a n1, n1, n2⟩⟩
  · exact ⟨.inr a⟩
theorem Scr.ls {H : Hp} {c sp ls : Addr} {xs : List V} (h : Scr K H c sp ls xs) (o : HO) : Scr K (upd H ls o) c sp ls xs := by
  rcases h.is with ⟨a, n1, n2⟩ | a
  · exact ⟨.inl ⟨rd_ne a n2, n1, n2⟩⟩
  · exact ⟨.inr a⟩
theorem Scr.same {H H' : Hp} {c sp ls : Addr} {xs : List V} (h : Scr K H c sp ls xs) (s : Same H H') : Scr K H' c sp ls xs := by
  rcases h.is with ⟨a, n⟩ | a
  · refine ⟨.inl ⟨?_, n⟩⟩
    rcases a with a | ⟨x, a⟩
    · exact .inl (s _ _ a)
    · exact .inr ⟨x, s _ _ a⟩
  · exact ⟨.inr a⟩
theorem found_e {l : List Nat} {H : Hp} {Q : VK} {E : XK} (hl : l.length ≤ 5000) (k : ∀ H' a, Same H H' → Tp K H' (.ref a) (endD (entryOut l)) → Q (.ref a) H') : spFoundL K [.ref (He.ga K "read_entry"), .str (S l)] H Q E := by
  refine ⟨_, _, rfl, .inl ⟨rfl, .inl ⟨l, rfl, .inr ⟨by omega, hl, ?_⟩⟩⟩⟩
  cases e : entryOut l with
  | inl d => rw [e] at k; exact fun H' v s t u hu => k _ u (s.trans (same_new hu)) (tp_new hu (.two (.str _) t))
  | inr p => rw [e] at k; exact fun H' d s e => ⟨rfl, d, _, rfl, e, fun H2 u s2 hu => k _ u ((s.trans s2).trans (same_new hu)) (tp_new hu (.two (.str _) (.int _)))⟩
theorem found_r {l : List Nat} {H : Hp} {Q : VK} {E : XK} (hl : l.length ≤ 100000) (h5 : ∀ y ∈ linesOf l, y.length ≤ 5000) (hn : (linesOf l).length ≤ 1000000) (k : ∀ H' a, Same H H' → Tp K H' (.ref a) (endD (roomOut l)) → Q (.ref a) H') :
    spFoundL K [.ref (He.ga K "read_room"), .str (S l)] H Q E := by
  refine ⟨_, _, rfl, .inr ⟨rfl, .inl ⟨l, rfl, by omega, .inr ⟨hl, h5, hn, ?_⟩⟩⟩⟩
  cases e : roomOut l with
  | inl d => rw [e] at k; exact fun H' v s t u hu => k _ u (s.trans (same_new hu)) (tp_new hu (.two (.str _) t))
  | inr p => rw [e] at k; exact fun H' d s e => ⟨rfl, d, _, rfl, e, fun H2 u s2 hu => k _ u ((s.trans s2).trans (same_new hu)) (tp_new hu (.two (.str _) (.int _)))⟩
def atNone : PyData := .tuple [.str "at", .none]
theorem bad_none {H : Hp} {Q : VK} (k : ∀ H' a, Same H H' → Tp K H' (.ref a) atNone → Q (.ref a) H') : Bad K H (badF K Q) .non :=
  fun H' d s e => ⟨rfl, d, _, rfl, e, fun H2 u s2 hu => k _ u ((s.trans s2).trans (same_new hu)) (tp_new hu (.two (.str _) .non))⟩
theorem found_long {l : List Nat} {H : Hp} {Q : VK} {E : XK} (h1 : 20000 < l.length) (h2 : l.length ≤ 1000000) (k : ∀ H' a, Same H H' → Tp K H' (.ref a) atNone → Q (.ref a) H') : spFoundL K [.ref (He.ga K "read_entry"), .str (S l)] H Q E :=
  ⟨_, _, rfl, .inl ⟨rfl, .inl ⟨l, rfl, .inl ⟨by omega, h2, bad_none k⟩⟩⟩⟩
theorem found_longR {l : List Nat} {H : Hp} {Q : VK} {E : XK} (h1 : 100000 < l.length) (h2 : l.length ≤ 1000000) (k : ∀ H' a, Same H H' → Tp K H' (.ref a) atNone → Q (.ref a) H') : spFoundL K [.ref (He.ga K "read_room"), .str (S l)] H Q E :=
  ⟨_, _, rfl, .inr ⟨rfl, .inl ⟨l, rfl, h2, .inl ⟨h1, bad_none k⟩⟩⟩⟩
theorem found_odd {x : V} {t : Value} {H : Hp} {Q : VK} {E : XK} (f : Addr) (hf : f = He.ga K "read_entry" ∨ f = He.ga K "read_room") (ht : TyX K H x t) (hk : PySem.W.kitOne K t (.type "str") = some false) (k : ∀ H' a, Same H H' → Tp K H' (.ref a) atNone → Q (.ref a) H') : spFoundL K [.ref f, x] H Q E := by
  rcases hf with rfl | rfl
  · exact ⟨_, _, rfl, .inl ⟨rfl, .inr ⟨t, ht, hk, bad_none k⟩⟩⟩
  · exact ⟨_, _, rfl, .inr ⟨rfl, .inr ⟨t, ht, hk, bad_none k⟩⟩⟩
abbrev XL (P : Program) (w : World) (K : PySem.W.Frag) (mg : Str → Option Value) (base : Heap) (cdv : Value) (s : Shared) (H : Hp) : Cx := XB P w K mg base N_law "law" s_law (He.ga K "law") cdv callerA [] s H noE
theorem roomL (s : Shared) (cdv : Value) : Room 20 (callerA.deeper (envOfC "law" (defScope s_law) s.heap.objs.size (He.ga K "law") cdv)) := ⟨rfl, by show callerA.depth + 1 + 3 * 20 + 5 < recursionLimit; decide, by show callerA.units + 3 + 16 * 20 + 200 < cLine; decide⟩
abbrev DL : Ends := { nx := fun _ _ => V.non = V.bl true, rt := fun v _ => v = .bl true }
theorem law_tail (T : Txt K mg w) (TX : KxC K (CB K)) (Fx : KxF K mg) (cdv : Value) (s : Shared) (H : Hp) : ∃ tr, PSs (XL P w K mg base cdv s H) ((defBody s_law).drop 8) tr ∧
    ∀ (c sp ls k : Nat) (ns : List Int) (H1 : Hp) (x2 x3 x4 x5 x6 x7 x8 x9 x10 : Option V), Scr K H1 c sp ls (ns.map V.int) → ns.length ≤ 63 → H1 sp = some (.lst [.int (k : Nat)]) → k ≤ 900000 →
      tr DL [some (.ref c), some (.ref sp), x2, x3, x4, x5, x6, x7, x8, x9, x10, none, none, none, none] H1 := by
  have hr := roomL (K := K) s cdv
  have GC := ok_l_cell (P := P) (base := base) T
  have GF := ok_l_found (P := P) (base := base) T TX Fx entry_nn
  refine ⟨_, (pss_cons (ps_set (i := 4) sc_law.nd rfl (Or.inl rfl) (pf GC (hr.mono (by decide)) T.g_l_cell pnone (pa_cons (pv 0) (pa_cons (pv 1) pa_nil))))
      (pss_cons (ps_set (i := 11) sc_law.nd rfl (Or.inl rfl) (pe_ix ix_list (pe_lst (pa_cons pe_non (pa_cons pe_int (pa_cons pe_bl (pa_cons (pe_lst (pa_cons pe_str pa_nil)) (pa_cons pe_dnewK pa_nil)))))) (pe_op op_mod (pv 4) pe_int) (fun _ _ => rfl)))
      (pss_cons (ps_set (i := 12) sc_law.nd rfl (Or.inl rfl) (pe_lst (pa_cons (pf GF (hr.mono (by decide)) T.g_l_found pnone (pa_cons (pg_r T.g_read_entry) (pa_cons (pe_op op_add_str pe_str (pe_op op_mulS pe_str pe_int)) pa_nil))) (pa_cons (pf GF (hr.mono (by decide)) T.g_l_found pnone (pa_cons (pg_r T.g_read_room) (pa_cons (pe_op op_add_str pe_str (pe_op op_mulS pe_str pe_int)) pa_nil))) pa_nil))))
      (pss_cons (ps_if (PW.pt (pw_or (pt_cmpR (op_neM hr.units) (pv 12) (pe_lst (pa_cons (pe_tup (pa_cons pe_str (pa_cons pe_non pa_nil))) (pa_cons (pe_tup (pa_cons pe_str (pa_cons pe_non pa_nil))) pa_nil))) (nomark _)) (pw_or1 (pt_cmpR (op_neM hr.units) (pf GF (hr.mono (by decide)) T.g_l_found pnone (pa_cons (pg_r T.g_read_room) (pa_cons pe_str pa_nil))) (pe_tup (pa_cons pe_str (pa_cons (pe_tup pa_nil) pa_nil))) (nomark _))))) (pss_one (ps_ret pe_bl)) pss_nil)
      (pss_one (ps_ret (pe_and (pe_cmpR (op_eqD hr.units) (pf GF (hr.mono (by decide)) T.g_l_found pnone (pa_cons (pg_r T.g_read_entry) (pa_cons (pv 11) pa_nil))) (pe_tup (pa_cons pe_str (pa_cons pe_non pa_nil))) (nomark _)) (pe_one (pe_cmpR (op_eqD hr.units) (pf GF (hr.mono (by decide)) T.g_l_found pnone (pa_cons (pg_r T.g_read_room) (pa_cons (pv 11) pa_nil))) (pe_tup (pa_cons pe_str (pa_cons pe_non pa_nil))) (nomark _)))))))))), ?_⟩
  intro c sp ls k ns H1 x2 x3 x4 x5 x6 x7 x8 x9 x10 scr hn hsp hk
  refine ⟨_, rfl, _, rfl, c, sp, k, ns, rfl, fun o => (scr.sp o).sq, hn, hsp, by omega, fun n hn2 => ?_⟩
  have scr1 := scr.sp (.lst [.int ((k + 1 : Nat) : Int)])
  generalize upd H1 sp (.lst [.int ((k + 1 : Nat) : Int)]) = H2 at scr1 ⊢
  refine ⟨by show 1 ≤ sizeLine; decide, fun f hf => ?_⟩
  have s1 := same_new (o := .lst [.str "sort a"]) hf
  refine fun p hp => ?_
  have s2 := same_new (o := .dK []) hp
  refine ⟨by show 5 ≤ sizeLine; decide, fun q hq => ?_⟩
  have s3 := same_new (o := .lst [.non, .int 5, .bl true, .ref f, .ref p]) hq
  have hv : ∃ v, atI [V.non, .int 5, .bl true, .ref f, .ref p] ((n : Int) % 5) = some v ∧ Odd (upd (upd (upd H2 f (.lst [.str "sort a"])) p (.dK [])) q (.lst [.non, .int 5, .bl true, .ref f, .ref p])) v := by
    obtain ⟨j, hj, ej⟩ := modAt n (n := 5) (by decide)
    have ej : (n : Int) % 5 = (j : Nat) := ej
    rw [ej]
    match j, hj with
    | 0, _ => exact ⟨_, atI_nat (j := 0) rfl, .non⟩
    | 1, _ => exact ⟨_, atI_nat (j := 1) rfl, .int 5⟩
    | 2, _ => exact ⟨_, atI_nat (j := 2) rfl, .bl true⟩
    | 3, _ => exact ⟨_, atI_nat (j := 3) rfl, .lst ((s2.trans s3) _ _ upd_same)⟩
    | 4, _ => exact ⟨_, atI_nat (j := 4) rfl, .dK (s3 _ _ upd_same)⟩
    | m + 5, h => omega
  obtain ⟨v, hat, odd⟩ := hv
  refine ⟨_, rfl, _, _, rfl, rfl, (show (0 : Int) < 5 by decide), q, _, _, v, rfl, rfl, SqL.of upd_same, hat, ?_⟩
  generalize upd (upd (upd H2 f (.lst [.str "sort a"])) p (.dK [])) q (.lst [.non, .int 5, .bl true, .ref f, .ref p]) = H3 at odd ⊢
  obtain ⟨z1, ez1, hz1⟩ : ∃ z, Txt.mul " " (20000 : Int) = z ∧ z.length = 20000 := ⟨_, rfl, mul_len (x := " ") (n := 20000) (by decide) (by decide)⟩
  obtain ⟨z2, ez2, hz2⟩ : ∃ z, Txt.mul "\n" (100000 : Int) = z ∧ z.length = 100000 := ⟨_, rfl, mul_len (x := "\n") (n := 100000) (by decide) (by decide)⟩
  refine ⟨_, _, rfl, rfl, by decide, by decide, by decide, ?_⟩
  rw [ez1]
  refine ⟨_, _, rfl, rfl, by rw [hz1, sizeLine_eq]; decide, ?_⟩
  have l1 : ("sort a" ++ z1 : Str).cps.toList.length = 20006 := by rw [← TL.len_tl, sl2, hz1]; rfl
  refine found_long (E := noE) (l := ("sort a" ++ z1 : Str).cps.toList) (by omega) (by omega) (fun H4 a1 s4 t1 => ?_)
  refine ⟨_, _, rfl, rfl, by decide, by decide, by decide, ?_⟩
  rw [ez2]
  refine ⟨_, _, rfl, rfl, by rw [hz2, sizeLine_eq]; decide, ?_⟩
  have l2 : ("sort a" ++ z2 : Str).cps.toList.length = 100006 := by rw [← TL.len_tl, sl2, hz2]; rfl
  refine found_longR (E := noE) (l := ("sort a" ++ z2 : Str).cps.toList) (by omega) (by omega) (fun H5 a2 s5 t2 => ?_)
  refine ⟨by show 2 ≤ sizeLine; decide, fun q2 hq2 => ?_⟩
  have odd2 := ((odd.same s4).same s5).same (same_new (o := .lst [.ref a1, .ref a2]) hq2)
  have t1' := (t1.mono (TM.same s5)).mono (TM.same (same_new (o := .lst [.ref a1, .ref a2]) hq2))
  have t2' := t2.mono (TM.same (same_new (o := .lst [.ref a1, .ref a2]) hq2))
  have eq2 : (upd H5 q2 (.lst [.ref a1, .ref a2])) q2 = some (.lst [.ref a1, .ref a2]) := upd_same
  generalize upd H5 q2 (.lst [.ref a1, .ref a2]) = H6 at odd2 t1' t2' eq2 ⊢
  refine ⟨_, rfl, by show 2 ≤ sizeLine; decide, fun u1 hu1 => ?_⟩
  have e1 := same_new (o := .tup [.str "at", .non]) hu1
  refine ⟨by show 2 ≤ sizeLine; decide, fun u2 hu2 => ?_⟩
  have e2 := same_new (o := .tup [.str "at", .non]) hu2
  refine ⟨by show 2 ≤ sizeLine; decide, fun u3 hu3 => ?_⟩
  have e3 := same_new (o := .lst [.ref u1, .ref u2]) hu3
  have e13 := (e1.trans e2).trans e3
  have n1 : Tp K (upd (upd (upd H6 u1 (.tup [.str "at", .non])) u2 (.tup [.str "at", .non])) u3 (.lst [.ref u1, .ref u2])) (.ref u1) atNone := (tp_new hu1 (.two (.str _) .non)).mono (TM.same (e2.trans e3))
  have n2 : Tp K (upd (upd (upd H6 u1 (.tup [.str "at", .non])) u2 (.tup [.str "at", .non])) u3 (.lst [.ref u1, .ref u2])) (.ref u2) atNone := (tp_new hu2 (.two (.str _) .non)).mono (TM.same e3)
  refine ⟨.list [atNone, atNone], .list [atNone, atNone], .lst (SqL.of (e13 _ _ eq2)) (.cons (t1'.mono (TM.same e13)).dp (.cons (t2'.mono (TM.same e13)).dp .nil)), .lst (SqL.of upd_same) (.cons n1.dp (.cons n2.dp .nil)), by decide +kernel, by decide +kernel, by decide +kernel, _, rfl, ?_⟩
  rw [show PyData.eqv (.list [atNone, atNone]) (.list [atNone, atNone]) = true by decide +kernel]
  refine iteF ?_
  have odd3 := odd2.same e13
  generalize upd (upd (upd H6 u1 (.tup [.str "at", .non])) u2 (.tup [.str "at", .non])) u3 (.lst [.ref u1, .ref u2]) = H7 at odd3 ⊢
  refine found_r (E := noE) (l := []) (by simp) (fun y hy => by cases hy) (by simp [linesOf]) (fun H8 a3 s6 t3 => ?_)
  refine ⟨Nat.zero_le _, fun u4 hu4 => ?_⟩
  refine ⟨by show 2 ≤ sizeLine; decide, fun u5 hu5 => ?_⟩
  have e4 := same_new (o := .tup []) hu4
  have e5 := same_new (o := .tup [.str "told", .ref u4]) hu5
  have n3 : Tp K (upd (upd H8 u4 (.tup [])) u5 (.tup [.str "told", .ref u4])) (.ref u5) (.tuple [.str "told", .tuple []]) := tp_new hu5 (.two (.str _) (tp_new hu4 .nil))
  refine ⟨.tuple [.str "told", .tuple []], .tuple [.str "told", .tuple []], (t3.mono (TM.same (e4.trans e5))).dp, n3.dp, by decide +kernel, by decide +kernel, by decide +kernel, _, rfl, ?_⟩
  rw [show PyData.eqv (.tuple [.str "told", .tuple []]) (.tuple [.str "told", .tuple []]) = true by decide +kernel]
  refine iteF ?_
  have odd4 := odd3.same (s6.trans (e4.trans e5))
  generalize upd (upd H8 u4 (.tup [])) u5 (.tup [.str "told", .ref u4]) = H9 at odd4 ⊢
  obtain ⟨ty, hty, hki⟩ := odd4.ty
  refine ⟨_, rfl, ?_⟩
  refine found_odd (E := noE) _ (.inl rfl) hty hki (fun H10 a4 s7 t4 => ?_)
  refine ⟨by show 2 ≤ sizeLine; decide, fun u6 hu6 => ?_⟩
  have e6 := same_new (o := .tup [.str "at", .non]) hu6
  refine ⟨atNone, atNone, (t4.mono (TM.same e6)).dp, (tp_new hu6 (.two (.str _) .non)).dp, by decide +kernel, by decide +kernel, _, rfl, ?_⟩
  rw [show PyData.eqv atNone atNone = true by decide +kernel]
  refine iteT ?_
  have odd5 := odd4.same (s7.trans e6)
  obtain ⟨ty2, hty2, hki2⟩ := odd5.ty
  refine ⟨_, rfl, ?_⟩
  refine found_odd (E := noE) _ (.inr rfl) hty2 hki2 (fun H11 a5 s8 t5 => ?_)
  refine ⟨by show 2 ≤ sizeLine; decide, fun u7 hu7 => ?_⟩
  have e7 := same_new (o := .tup [.str "at", .non]) hu7
  refine ⟨atNone, atNone, (t5.mono (TM.same e7)).dp, (tp_new hu7 (.two (.str _) .non)).dp, by decide +kernel, by decide +kernel, ?_⟩
  rw [show PyData.eqv atNone atNone = true by decide +kernel]
end
end KW

/-! part KLaw12 -/
set_option maxHeartbeats 4000000
/-! The law's body: the room. -/
namespace KW
open PySem PySem.Spec PyProof.Rows L2 KM SX
abbrev tAt (K : PySem.W.Frag) : TT := tTest (tOp rEq (tOp (rIxT K) (tVar 14) (tC (.int 0))) (tC (.str "at")))
theorem wrong_app : ∀ (a b : List (PyData ⊕ Nat)) (i : Nat), wrongIx i (a ++ b) = wrongIx i a ++ wrongIx (i + a.length) b
  | [], b, i => by simp [wrongIx]
  | .inl d :: a, b, i => by
    show wrongIx (i + 1) (a ++ b) = wrongIx (i + 1) a ++ wrongIx (i + (a.length + 1)) b
    rw [wrong_app a b (i + 1)]
    congr 2
    omega
  | .inr p :: a, b, i => by
    show i :: wrongIx (i + 1) (a ++ b) = i :: (wrongIx (i + 1) a) ++ wrongIx (i + (a.length + 1)) b
    rw [wrong_app a b (i + 1)]
    show i :: (wrongIx (i + 1) a ++ _) = i :: (wrongIx (i + 1) a ++ _)
    congr 3
    omega
/-- a room's text, of lines -/
structure RmOk (l : List Nat) : Prop where
  len : l.length ≤ 100000
  sm : ∀ y ∈ linesL l, Sm y ∧ TextOk y
  cnt : (linesL l).length ≤ 53
theorem RmOk.lines {l : List Nat} (h : RmOk l) : (∀ y ∈ linesOf l, y.length ≤ 5000) ∧ (linesOf l).length ≤ 1000000 := by
  unfold linesOf
  by_cases c : l = []
  · rw [if_pos c]; exact ⟨fun y hy => (nomatch hy), Nat.zero_le _⟩
  · rw [if_neg c]
    refine ⟨fun y hy => ?_, ?_⟩
    · have := (h.sm y hy).1.len; omega
    · have := h.cnt; unfold linesL at this; omega
theorem room_end {l : List Nat} (h : RmOk l) : endD (roomOut l) = if l = [] then .tuple [.str "told", .tuple []] else endD (wholeL ((linesL l).map dueL)) := by
  rw [room_due fun y hy => (h.sm y hy).1]
  by_cases c : l = []
  · rw [if_pos c, if_pos c]; rfl
  · rw [if_neg c, if_neg c]
theorem sh_empty : ShOk (.tuple [.str "told", .tuple []]) := ⟨by decide +kernel, by decide +kernel⟩
section
variable {P : Program} {w : World} {K : PySem.W.Frag} {mg : Str → Option Value} {base : Heap}
theorem law_mid (T : Txt K mg w) (TX : KxC K (CB K)) (Fx : KxF K mg) (cdv : Value) (s : Shared) (H : Hp) : ∃ tr, PSs (XL P w K mg base cdv s H) ((defBody s_law).drop 7) tr ∧
    ∀ (c sp ls k v : Nat) (ns : List Int) (l : List Nat) (H1 : Hp) (x2 x3 x4 x5 x6 x8 x9 : Option V), Scr K H1 c sp ls (ns.map V.int) → ns.length ≤ 63 → H1 sp = some (.lst [.int (k : Nat)]) → k ≤ 900000 → RmOk l → Tp K H1 (.ref v) (endD (wholeL ((linesL l).map dueL))) →
      tr DL [some (.ref c), some (.ref sp), x2, x3, x4, x5, x6, some (.str (S l)), x8, x9, some (.ref v), none, none, none, none] H1 := by
  have hr := roomL (K := K) s cdv
  have GF := ok_l_found (P := P) (base := base) T TX Fx entry_nn
  obtain ⟨t8, h8, q8⟩ := law_tail (P := P) (base := base) T TX Fx cdv s H
  refine ⟨_, (pss_cons (ps_if (pt_cmpR op_ne (pe_callB (call_reprD rfl (by show callerA.units + 3 + 9100 < cLine; decide)) (by rfl) T.z_repr (by decide +kernel) (pa_cons (pf GF (hr.mono (by decide)) T.g_l_found pnone (pa_cons (pg_r T.g_read_room) (pa_cons (pv 7) pa_nil))) pa_nil)) (pe_callB (call_reprD rfl (by show callerA.units + 3 + 9100 < cLine; decide)) (by rfl) T.z_repr (by decide +kernel) (pa_cons (pe_ifExp (pt_cmpR op_ne (pv 7) pe_str (nomark _)) (pv 10) (pe_tup (pa_cons pe_str (pa_cons (pe_tup pa_nil) pa_nil)))) pa_nil)) (nomark _)) (pss_one (ps_ret pe_bl)) pss_nil) h8), ?_⟩
  intro c sp ls k v ns l H1 x2 x3 x4 x5 x6 x8 x9 scr hn hsp hk rm tv
  have sh1 : ShOk (endD (roomOut l)) := by
    rw [room_end rm]
    split
    · exact sh_empty
    · exact whole_sh (fun y hy => (rm.sm y hy).1) rm.cnt
  refine ⟨_, rfl, ?_⟩
  refine found_r (E := noE) rm.len rm.lines.1 rm.lines.2 (fun H2 a1 s1 t1 => ?_)
  refine ⟨a1, _, rfl, t1, sh1, ?_⟩
  refine ⟨_, rfl, rfl, _, rfl, ?_⟩
  have fin : ∀ H3, Same H1 H3 → t8 DL [some (.ref c), some (.ref sp), x2, x3, x4, x5, x6, some (.str (S l)), x8, x9, some (.ref v), none, none, none, none] H3 := fun H3 s3 => q8 c sp ls k ns H3 _ _ _ _ _ _ _ _ _ (scr.same s3) hn (s3 _ _ hsp) hk
  have ed : decide (V.str (S l) = V.str "") = decide (l = []) := by
    rw [decide_eq_decide]
    constructor
    · intro z
      injection z with z
      have z2 : S l = S [] := z
      exact S_inj z2
    · rintro rfl; rfl
  rw [ed]
  by_cases c0 : l = []
  · rw [decide_eq_true c0]
    refine iteF ?_
    refine ⟨Nat.zero_le _, fun u4 hu4 => ?_⟩
    refine ⟨by show 2 ≤ sizeLine; decide, fun u5 hu5 => ?_⟩
    have e4 := same_new (o := .tup []) hu4
    have e5 := same_new (o := .tup [.str "told", .ref u4]) hu5
    have er := room_end rm
    rw [if_pos c0] at er
    refine ⟨u5, .tuple [.str "told", .tuple []], rfl, tp_new hu5 (.two (.str _) (tp_new hu4 .nil)), sh_empty, rfl, _, rfl, ?_⟩
    rw [er, decide_eq_true rfl]
    refine iteF ?_
    exact fin _ ((s1.trans e4).trans e5)
  · rw [decide_eq_false c0]
    refine iteT ?_
    have er := room_end rm
    rw [if_neg c0] at er
    refine ⟨_, rfl, v, _, rfl, tv.mono (TM.same s1), by rw [← er]; exact sh1, rfl, _, rfl, ?_⟩
    rw [er, decide_eq_true rfl]
    refine iteF ?_
    exact fin _ s1
end
end KW

/-! part KLaw13 -/
set_option maxHeartbeats 4000000
/-! The law's body: the rows of a room. -/
namespace KW
open PySem PySem.Spec PyProof.Rows L2 KM SX
section
variable {P : Program} {w : World} {K : PySem.W.Frag} {mg : Str → Option Value} {base : Heap}
theorem end_inv {H : Hp} {v : V} {o : PyData ⊕ Nat} (h : Tp K H v (endD o)) : ∃ a x, v = .ref a ∧ SqT K H a [.str (if isAt o = true then "at" else "told"), x] ∧ Tp K H x (val1 o) := by
  cases o with
  | inl d =>
    obtain ⟨a, xs, rfl, hq, h2⟩ := Tp.tup_inv h
    obtain ⟨v1, r1, rfl, q1, h3⟩ := h2.cons_inv
    obtain ⟨v2, r2, rfl, q2, h4⟩ := h3.cons_inv
    cases h4.nil_inv
    cases q1
    exact ⟨a, _, rfl, hq, q2⟩
  | inr p =>
    obtain ⟨a, xs, rfl, hq, h2⟩ := Tp.tup_inv h
    obtain ⟨v1, r1, rfl, q1, h3⟩ := h2.cons_inv
    obtain ⟨v2, r2, rfl, q2, h4⟩ := h3.cons_inv
    cases h4.nil_inv
    cases q1
    exact ⟨a, _, rfl, hq, q2⟩
theorem law_rows (T : Txt K mg w) (TX : KxC K (CB K)) (Fx : KxF K mg) (cdv : Value) (s : Shared) (H : Hp) : ∃ tr, PSs (XL P w K mg base cdv s H) ((defBody s_law).drop 4) tr ∧
    ∀ (c sp ls k : Nat) (ns : List Int) (l : List Nat) (H1 : Hp) (x2 x3 x4 x5 x6 : Option V), Scr K H1 c sp ls (ns.map V.int) → ns.length ≤ 63 → H1 sp = some (.lst [.int (k : Nat)]) → k ≤ 900000 → RmOk l →
      tr DL [some (.ref c), some (.ref sp), x2, x3, x4, x5, x6, some (.str (S l)), none, none, none, none, none, none, none] H1 := by
  have hr := roomL (K := K) s cdv
  have GD := ok_l_due (P := P) (base := base) T TX
  obtain ⟨t7, h7, q7⟩ := law_mid (P := P) (base := base) T TX Fx cdv s H
  refine ⟨_, (pss_cons (ps_setLc (i := 8) (own := [("_law_line_here", 5)]) (g := gName 5) (tt := tYes) rfl sc_law.nd rfl rfl (sw_true rfl rfl rfl rfl) (pi_list (pe_split (pv 7) pe_str)) (blkOk_by (own := [("_law_line_here", 5)]) (N := N_law) (sc := defScope s_law) (by decide +kernel)) (fun _ _ _ _ _ => pg_name (i := 5) sc_law.nd rfl (Or.inl rfl)) (fun _ _ _ _ _ => pts_nil) (fun _ _ _ _ _ => (pf GD (hr.mono (by decide)) T.g_l_due pnone (pa_cons (pv 5) pa_nil)))) (pss_cons (ps_setLc (i := 9) (own := [("_law_at", 13), ("_law_row", 14)]) (g := gTup K 2 (gCons (gName 13) (gCons (gName 14) gNil))) (tt := tAt K) rfl sc_law.nd rfl rfl (sw_true rfl rfl rfl rfl) (pi_enum (by rfl) T.z_enumerate (pa_cons (pv 8) pa_nil)) (blkOk_by (own := [("_law_at", 13), ("_law_row", 14)]) (N := N_law) (sc := defScope s_law) (by decide +kernel)) (fun _ _ _ _ _ => pg_tup rfl (pgs_cons (pg_name (i := 13) sc_law.nd rfl (Or.inl rfl)) (pgs_cons (pg_name (i := 14) sc_law.nd rfl (Or.inl rfl)) pgs_nil))) (fun _ _ _ _ _ => pts_one (pt_cmpR op_eq (pe_ix (ixT K) (pv 14) pe_int (fun _ _ => rfl)) pe_str (nomark _))) (fun _ _ _ _ _ => pv 13)) (pss_cons (ps_set (i := 10) sc_law.nd rfl (Or.inl rfl) (pe_ifExp (pt_cmpR (op_eqD hr.units) (pv 9) (pe_lst pa_nil) (nomark _)) (pe_tup (pa_cons pe_str (pa_cons (pe_callTy call_tuple_of (by rfl) T.z_tuple (by decide +kernel) (pa_cons (pe_lcX (W := fun cls d _ H => False) (E0 := fun _ _ _ => False) (own := [("_law_row", 14)]) (g := gName 14) rfl rfl (takes_of rfl rfl rfl rfl) (fun _ _ _ _ z => z) rfl sc_law.nd (pi_list (pv 8)) (blkOk_by (own := [("_law_row", 14)]) (N := N_law) (sc := defScope s_law) (by decide +kernel)) (fun _ _ _ _ _ => pg_name (i := 14) sc_law.nd rfl (Or.inl rfl)) (fun _ _ _ _ _ _ _ hx => pe_ix (ixT K) (pv 14) pe_int (fun _ _ => rfl))) pa_nil)) pa_nil))) (pe_tup (pa_cons pe_str (pa_cons (pe_ix ix_list (pv 9) pe_int (fun _ _ => rfl)) pa_nil))))) h7))), ?_⟩
  intro c sp ls k ns l H1 x2 x3 x4 x5 x6 scr hn hsp hk rm
  refine ⟨_, rfl, ⟨_, rfl⟩, S l, "\n", rfl, rfl, by decide +kernel, by rw [S_len, sizeLine_eq]; have := rm.len; omega, fun p hp => ?_⟩
  have e0 : Txt.split (S l) ("\n" : Str) = (linesL l).map S := split_S (a := l) (b := [10]) (by simp) (by decide)
  rw [e0, List.map_map]
  have s0 := same_new (o := .lst ((linesL l).map (V.str ∘ S))) hp
  have hpl : (upd H1 p (.lst ((linesL l).map (V.str ∘ S)))) p = some (.lst ((linesL l).map (V.str ∘ S))) := upd_same
  have scr0 := scr.same s0
  have hsp0 := s0 _ _ hsp
  generalize upd H1 p (.lst ((linesL l).map (V.str ∘ S))) = H2 at hpl scr0 hsp0 ⊢
  refine ⟨p, rfl, ⟨_, SqL.of hpl⟩, fun D hD => lc_it (walk_list (xs := (linesL l).map (V.str ∘ S))) (fun i H' => Same H2 H' ∧ ∃ rv, H' D = some (.lst rv) ∧ TpAll K H' rv (((linesL l).take i).map fun y => endD (dueL y))) ⟨same_new hD, [], upd_same, .nil⟩ (fun j H' _ h => h.1.seq (SqL.of hpl)) (fun i x H3 H4 hi h hy => ?_) (fun H3 h => ?_)⟩
  · obtain ⟨s2, rv, hD2, hT⟩ := h
    obtain ⟨rfl, hx⟩ := hy
    rw [List.getElem?_map] at hx
    obtain ⟨y, hy, rfl⟩ := Option.map_eq_some_iff.mp hx
    have hlt : i < (linesL l).length := by simpa using hi
    have et : (linesL l).take (i + 1) = (linesL l).take i ++ [y] := (snoc_take hy).symm
    refine ⟨rfl, ?_⟩
    unfold tYes
    simp only [if_true]
    refine ⟨_, rfl, y, rfl, (rm.sm y (List.mem_of_getElem? hy)).2, fun H5 v s3 tv => ?_⟩
    have M : TM H5 (upd H5 D (.lst (rv ++ [v]))) := TM.lst (s3 _ _ hD2)
    refine ⟨rv, s3 _ _ hD2, ?_, fun b o e => ?_, rv ++ [v], upd_same, ?_⟩
    · have h1 := hT.len
      rw [List.length_map, List.length_take] at h1
      have := rm.cnt
      rw [sizeLine_eq]; omega
    · rw [upd_ne (ne_of_none e hD)]; exact s3 _ _ (s2 _ _ e)
    · rw [et, List.map_append]
      exact ((hT.mono (TM.same s3)).mono M).app (.one (tv.mono M))
  obtain ⟨s2, rv, hD2, hT⟩ := h
  rw [List.length_map, List.take_length] at hT
  have hcnt := rm.cnt
  have hrl : rv.length = (linesL l).length := by have := hT.len; rw [List.length_map] at this; exact this
  have hT : TpAll K H3 rv (((linesL l).map dueL).map endD) := by rw [List.map_map]; exact hT
  have hrl2 : ((linesL l).map dueL).length = rv.length := by rw [List.length_map, hrl]
  have scr1 := scr0.same s2
  have hsp1 := s2 _ _ hsp0
  have key : ∀ v, RmOk l → (∀ H', Same H3 H' → Tp K H' (.ref v) (endD (wholeL ((linesL l).map dueL))) → ∀ x9, t7 DL [some (.ref c), some (.ref sp), x2, x3, x4, x5, x6, some (.str (S l)), some (.ref D), x9, some (.ref v), none, none, none, none] H') := fun v _ H' s3 tv x9 =>
    q7 c sp ls k v ns l H' x2 x3 x4 x5 x6 _ x9 (scr1.same s3) hn (s3 _ _ hsp1) hk rm tv
  generalize (linesL l).map dueL = rs at hT hrl2 key
  refine ⟨_, rfl, D, rv, rfl, SqL.of hD2, fun D2 hD22 => lc_it (walk_enum (xs := rv)) (fun i H' => Same H3 H' ∧ H' D2 = some (.lst ((wrongIx 0 (rs.take i)).map fun n => V.int (n : Nat)))) ⟨same_new hD22, upd_same⟩ (fun j H' _ h => h.1.seq (SqL.of hD2)) (fun i x H4 H5 hi h hy => ?_) (fun H4 h => ?_)⟩
  · obtain ⟨s3, hD3⟩ := h
    obtain ⟨u, y1, y2, rfl, hu, rfl, e1, e2⟩ := hy
    cases e1
    obtain ⟨o, ho⟩ : ∃ o, rs[i]? = some o := ⟨rs[i]'(by omega), List.getElem?_eq_getElem (by omega)⟩
    obtain ⟨v, hv, tv⟩ := hT.get (i := i) (d := endD o) (by rw [List.getElem?_map, ho]; rfl)
    have ev : v = y2 := Option.some.inj (hv.symm.trans e2)
    subst ev
    obtain ⟨a, z, rfl, hq, _⟩ := end_inv tv
    have et : rs.take (i + 1) = rs.take i ++ [o] := (snoc_take ho).symm
    have hlen : (rs.take i).length = i := by rw [List.length_take]; omega
    have s4 : Same H3 (upd H4 u (.tup [.int (i : Nat), .ref a])) := s3.trans (same_new hu)
    have hD4 := same_new (o := .tup [.int (i : Nat), .ref a]) hu _ _ hD3
    refine ⟨u, _, rfl, SqT.of upd_same, rfl, _, _, rfl, _, _, rfl, rfl, rfl, ?_⟩
    refine ⟨_, rfl, a, _, _, _, rfl, rfl, s4.seqT hq, atI_nat (j := 0) rfl, rfl, _, rfl, ?_⟩
    cases o with
    | inl d =>
      refine iteF ⟨s4, ?_⟩
      rw [et, wrong_app, hD4]
      simp [wrongIx]
    | inr p =>
      refine iteT ⟨_, rfl, _, hD4, ?_, fun b o e => ?_, ?_⟩
      · rw [List.length_map, sizeLine_eq]
        have h1 : ∀ (m : List (PyData ⊕ Nat)) (j : Nat), (wrongIx j m).length ≤ m.length := by
          intro m
          induction m with
          | nil => intro j; exact Nat.le_refl _
          | cons a m ih => intro j; cases a with
            | inl d => have := ih (j + 1); show (wrongIx (j + 1) m).length ≤ m.length + 1; omega
            | inr p => have := ih (j + 1); show (wrongIx (j + 1) m).length + 1 ≤ m.length + 1; omega
        have := h1 (rs.take i) 0
        rw [hlen] at this
        omega
      · rw [upd_ne (ne_of_none e hD22)]; exact s4 _ _ e
      · rw [upd_same, et, wrong_app, hlen]
        simp [wrongIx]
  obtain ⟨s3, hD3⟩ := h
  rw [← hrl2, List.take_length] at hD3
  refine ⟨_, rfl, Nat.zero_le _, fun q5 hq5 => ?_⟩
  have e5 := same_new (o := .lst []) hq5
  have hTp : TpAll K (upd H4 q5 (.lst [])) ((wrongIx 0 rs).map fun n => V.int (n : Nat)) ((wrongIx 0 rs).map fun n => PyData.int (n : Nat)) := by
    generalize wrongIx 0 rs = m
    induction m with
    | nil => exact .nil
    | cons a m ih => exact .cons (.int _) ih
  refine ⟨_, .list [], .lst (SqL.of (e5 _ _ hD3)) hTp.dp, .lst (SqL.of upd_same) .nil, ints_shaped _, rfl, _, rfl, ?_⟩
  rw [eqv_nil]
  have s5 := s3.trans e5
  have hT5 := hT.mono (TM.same s5)
  have hD5 := e5 _ _ hD3
  have hrv5 := s5 _ _ hD2
  cases ew : wrongIx 0 rs with
  | nil =>
    refine iteT ?_
    refine ⟨_, rfl, D, rfl, ⟨_, SqL.of hrv5⟩, fun D6 hD6 => lc_it (walk_list (xs := rv)) (fun i H' => Same (upd H4 q5 (.lst [])) H' ∧ ∃ zv, H' D6 = some (.lst zv) ∧ TpAll K H' zv ((rs.take i).map val1)) ⟨same_new hD6, [], upd_same, .nil⟩ (fun j H' _ h => h.1.seq (SqL.of hrv5)) (fun i x H6 H7 hi h hy => ?_) (fun H6 h => ?_)⟩
    · obtain ⟨s6, zv, hz, hzT⟩ := h
      obtain ⟨rfl, hx⟩ := hy
      obtain ⟨o, ho⟩ : ∃ o, rs[i]? = some o := ⟨rs[i]'(by omega), List.getElem?_eq_getElem (by omega)⟩
      obtain ⟨v, hv, tv⟩ := (hT5.mono (TM.same s6)).get (i := i) (d := endD o) (by rw [List.getElem?_map, ho]; rfl)
      have ev : v = x := Option.some.inj (hv.symm.trans hx)
      subst ev
      obtain ⟨a, z, rfl, hq, tz⟩ := end_inv tv
      have et : rs.take (i + 1) = rs.take i ++ [o] := (snoc_take ho).symm
      have hlen : (rs.take i).length = i := by rw [List.length_take]; omega
      refine ⟨rfl, ?_⟩
      unfold tYes
      simp only [if_true]
      have M : TM H7 (upd H7 D6 (.lst (zv ++ [z]))) := TM.lst hz
      refine ⟨_, rfl, a, _, _, _, rfl, rfl, hq, atI_nat (j := 1) rfl, zv, hz, ?_, fun b o e => ?_, zv ++ [z], upd_same, ?_⟩
      · have h1 := hzT.len
        rw [List.length_map, hlen] at h1
        rw [sizeLine_eq]; omega
      · rw [upd_ne (ne_of_none e hD6)]; exact s6 _ _ e
      · rw [et, List.map_append]
        exact (hzT.mono M).app (.one (tz.mono M))
    obtain ⟨s6, zv, hz, hzT⟩ := h
    rw [← hrl2, List.take_length] at hzT
    refine ⟨D6, zv, rfl, .inl ⟨SqL.of hz, fun u hu => ?_⟩⟩
    refine ⟨by show 2 ≤ sizeLine; decide, fun u2 hu2 => ?_⟩
    refine key u2 rm _ (((s5.trans s6).trans (same_new hu)).trans (same_new hu2)) ?_ _
    have ewh : wholeL rs = .inl (.tuple (rs.map val1)) := by unfold wholeL; rw [ew]
    rw [ewh]
    exact tp_new hu2 (.two (.str _) (tp_new hu hzT))
  | cons j r =>
    refine iteF ?_
    rw [ew] at hD5
    refine ⟨_, rfl, D2, _, _, _, rfl, rfl, SqL.of hD5, atI_nat (j := 0) rfl, ?_⟩
    refine ⟨by show 2 ≤ sizeLine; decide, fun u2 hu2 => ?_⟩
    refine key u2 rm _ (s5.trans (same_new hu2)) ?_ _
    have ewh : wholeL rs = .inr j := by unfold wholeL; rw [ew]
    rw [ewh]
    exact tp_new hu2 (.two (.str _) (.int _))
end
end KW

/-! part KLaw14 -/
set_option maxHeartbeats 4000000
/-! The law's body: the loop. -/
namespace KW
open PySem PySem.Spec PyProof.Rows L2 KM SX
theorem Gd.mono {j k : Nat} {l : List Nat} (h : Gd j l) (hj : j ≤ k) : Gd k l := ⟨by have := h.len; omega, by have := h.wt; omega, h.asc, by have := h.ten; omega⟩
theorem Gd.sm {l : List Nat} (h : Gd 3 l) : Sm l := ⟨by have := h.len; omega, by have := h.wt; omega⟩
theorem Gd.ok {l : List Nat} (h : Gd 3 l) : TextOk l := ⟨by have := h.len; omega, h.asc⟩
theorem gd_nil : Gd 0 [] := ⟨by decide, by decide, fun c h => (nomatch h), by decide⟩
theorem take_drop_sum {g : Nat → Nat} (l : List Nat) {i j : Nat} (h : i ≤ j) : ((l.take i).map g).sum + ((l.drop j).map g).sum ≤ (l.map g).sum := by
  have e : (l.map g).sum = ((l.take i).map g).sum + ((l.drop i).map g).sum := by
    conv => lhs; rw [← List.take_append_drop i l]
    rw [List.map_append, List.sum_append]
  have h2 : (l.drop j).Sublist (l.drop i) := by
    obtain ⟨d, rfl⟩ : ∃ d, j = i + d := ⟨j - i, by omega⟩
    rw [← List.drop_drop]
    exact List.drop_sublist _ _
  have := sum_sub (g := g) h2
  omega
theorem take_drop_count (l : List Nat) {i j : Nat} (h : i ≤ j) : (l.take i).count 10 + (l.drop j).count 10 ≤ l.count 10 := by
  have e : l.count 10 = (l.take i).count 10 + (l.drop i).count 10 := by
    conv => lhs; rw [← List.take_append_drop i l]
    rw [List.count_append]
  have h2 : (l.drop j).Sublist (l.drop i) := by
    obtain ⟨d, rfl⟩ : ∃ d, j = i + d := ⟨j - i, by omega⟩
    rw [← List.drop_drop]
    exact List.drop_sublist _ _
  have := h2.count_le 10
  omega
theorem bent_gd {k : Nat} {l l' : List Nat} (h : Gd k l) (b : Bent l l') : Gd (k + 1) l' := by
  obtain ⟨i, j, m, hi, hj, hm, rfl⟩ := b
  have hij : i ≤ j := by omega
  have mm : m.length ≤ 8 ∧ (m.map gBc).sum ≤ 30 ∧ (∀ c ∈ m, c < 128) ∧ m.count 10 ≤ 1 := by
    rcases hm with rfl | hm
    · exact ⟨by decide, by decide, fun c h => (nomatch h), by decide⟩
    · have : ∀ y ∈ bendsL, y.cps.toList.length ≤ 8 ∧ (y.cps.toList.map gBc).sum ≤ 30 ∧ (∀ c ∈ y.cps.toList, c < 128) ∧ y.cps.toList.count 10 ≤ 1 := by decide +kernel
      exact this (S m) hm
  obtain ⟨m1, m2, m3, m4⟩ := mm
  have t1 := take_drop_sum (g := gBc) l hij
  have t2 := take_drop_count l hij
  refine ⟨?_, ?_, fun c hc => ?_, ?_⟩
  · have := h.len
    rw [List.length_append, List.length_append, List.length_take, List.length_drop]; omega
  · have := h.wt
    rw [List.map_append, List.map_append, List.sum_append, List.sum_append]; omega
  · rcases List.mem_append.mp hc with hc | hc
    · rcases List.mem_append.mp hc with hc | hc
      · exact h.asc c (List.mem_of_mem_take hc)
      · exact m3 c hc
    · exact h.asc c (List.mem_of_mem_drop hc)
  · have := h.ten
    rw [List.count_append, List.count_append]; omega
theorem rm_join {ls : List (List Nat)} (h : ∀ l ∈ ls, Gd 3 l) (hn : ls.length ≤ 13) : RmOk (TL.joinL [10] ls) := by
  refine ⟨?_, fun y hy => ?_, ?_⟩
  · have := join_len (k := 94) ls (fun l hl => (h l hl).len)
    omega
  · exact join_pieces (Pr := fun y => Sm y ∧ TextOk y) (fun y l hs ⟨a, b⟩ => ⟨a.sub hs, b.sub hs.length_le fun c hc => hs.subset hc⟩) ⟨⟨by simp, by simp⟩, ⟨by simp, fun c hc => (nomatch hc)⟩⟩ ls (fun l hl => ⟨(h l hl).sm, (h l hl).ok⟩) y hy
  · have := join_count (k := 3) ls (fun l hl => (h l hl).ten)
    omega
abbrev bodyLaw : List Stmt := match (defBody s_law).drop 2 with
  | .For (body := b) .. :: _ => b
  | _ => []
section
variable {P : Program} {w : World} {K : PySem.W.Frag} {mg : Str → Option Value} {base : Heap}
theorem law_bend (T : Txt K mg w) (TX : KxC K (CB K)) (Fx : KxF K mg) (cdv : Value) (s : Shared) (H : Hp) : ∃ tr, PSs (XL P w K mg base cdv s H) (bodyLaw.drop 2) tr ∧
    ∀ (D : Ends) (c sp ls k n : Nat) (ns : List Int) (l : List Nat) (lines : List (List Nat)) (H1 : Hp) (x3 x6 : Option V), Scr K H1 c sp ls (ns.map V.int) → ns.length ≤ 63 → H1 sp = some (.lst [.int (k : Nat)]) → k ≤ 800000 → n < 2147483648 → ls ≠ sp → Gd 0 l →
      H1 ls = some (.lst (lines.map (V.str ∘ S))) → lines.length ≤ 100 →
      (∀ (H' : Hp) (k' : Nat) (l' : List Nat) (lines' : List (List Nat)) (x6' : Option V), Scr K H' c sp ls (ns.map V.int) → H' sp = some (.lst [.int (k' : Nat)]) → k' ≤ k + 3 → Gd 3 l' → H' ls = some (.lst (lines'.map (V.str ∘ S))) → (lines' = lines ∨ lines' = lines ++ [l']) →
        D.nx [some (.ref c), some (.ref sp), some (.ref ls), x3, some (.int (n : Nat)), some (.str (S l')), x6', none, none, none, none, none, none, none, none] H') →
      tr D [some (.ref c), some (.ref sp), some (.ref ls), x3, some (.int (n : Nat)), some (.str (S l)), x6, none, none, none, none, none, none, none, none] H1 := by
  have hr := roomL (K := K) s cdv
  have GC := ok_l_cell (P := P) (base := base) T
  have GB := ok_l_bent (P := P) (base := base) T
  have GD := ok_l_due (P := P) (base := base) T TX
  have GF := ok_l_found (P := P) (base := base) T TX Fx entry_nn
  refine ⟨_, (pss_cons (ps_for po rfl (pi_range1 (by rfl) T.z_range (pa_cons (pe_op op_mod (pe_op op_fdiv (pv 4) pe_int) pe_int) pa_nil)) (pg_name (i := 6) sc_law.nd rfl (Or.inl rfl)) (pss_one (ps_set (i := 5) sc_law.nd rfl (Or.inl rfl) (pf GB (hr.mono (by decide)) T.g_l_bent pnone (pa_cons (pv 5) (pa_cons (pf GC (hr.mono (by decide)) T.g_l_cell pnone (pa_cons (pv 0) (pa_cons (pv 1) pa_nil))) pa_nil))))))
      (pss_cons (ps_if (pt_cmpR op_ne (pe_callB (call_reprD rfl (by show callerA.units + 3 + 9100 < cLine; decide)) (by rfl) T.z_repr (by decide +kernel) (pa_cons (pf GF (hr.mono (by decide)) T.g_l_found pnone (pa_cons (pg_r T.g_read_entry) (pa_cons (pv 5) pa_nil))) pa_nil)) (pe_callB (call_reprD rfl (by show callerA.units + 3 + 9100 < cLine; decide)) (by rfl) T.z_repr (by decide +kernel) (pa_cons (pf GD (hr.mono (by decide)) T.g_l_due pnone (pa_cons (pv 5) pa_nil)) pa_nil)) (nomark _)) (pss_one (ps_ret pe_bl)) pss_nil)
      (pss_one (ps_if (PW.pt (pw_or (pt_cmpR op_gt (pe_op op_mod (pe_op op_fdiv (pv 4) pe_int) pe_int) pe_int (nomark _)) (pw_or1 (pt_cmpR op_eq (pe_ix ix_tup (pf GD (hr.mono (by decide)) T.g_l_due pnone (pa_cons (pv 5) pa_nil)) pe_int (fun _ _ => rfl)) pe_str (nomark _))))) (pss_one (ps_expr (pe_bm PySem.F.plainAttrs_list PySem.F.slot_list_append PySem.F.type_list_append mt_append (pv 2) (pa_cons (pv 5) pa_nil)))) pss_nil)))), ?_⟩
  intro D c sp ls k n ns l lines H1 x3 x6 scr hn hsp hk hn2 nls hl hls hlz cont
  have hm4 : ∃ m : Nat, m ≤ 3 ∧ ((n : Nat) : Int) / 9 % 4 = (m : Nat) := ⟨n / 9 % 4, by omega, by omega⟩
  obtain ⟨m, hm, em⟩ := hm4
  refine ⟨_, rfl, _, _, rfl, rfl, ⟨by decide, by decide⟩, _, _, rfl, rfl, (show (0 : Int) < 4 by decide), _, rfl, by omega, by omega, ?_⟩
  refine for_it walk_range (fun i σ H' => ∃ (l' : List Nat) (x6' : Option V), σ = [some (.ref c), some (.ref sp), some (.ref ls), x3, some (.int (n : Nat)), some (.str (S l')), x6', none, none, none, none, none, none, none, none] ∧ Gd i l' ∧ Scr K H' c sp ls (ns.map V.int) ∧ H' sp = some (.lst [.int ((k + i : Nat) : Int)]) ∧ H' ls = some (.lst (lines.map (V.str ∘ S)))) ⟨l, x6, rfl, hl, scr, hsp, hls⟩ (fun _ _ _ _ _ => trivial) ?_ ?_
  · rintro i x σ H2 H3 hi ⟨l', x6', rfl, hl', scr2, hsp2, hls2⟩ ⟨rfl, rfl⟩
    have hi3 : i < 3 := by omega
    refine ⟨_, rfl, _, rfl, _, rfl, c, sp, k + i, ns, rfl, fun o => (scr2.sp o).sq, hn, hsp2, by omega, fun q hq => ?_⟩
    refine ⟨l', q, rfl, hq, by have := hl'.len; omega, fun H4 l2 s4 hb => ?_⟩
    exact ⟨l2, _, rfl, bent_gd hl' hb, (scr2.sp _).same s4, s4 _ _ upd_same, s4 _ _ (by rw [upd_ne nls]; exact hls2)⟩
  rintro σ H2 ⟨l', x6', rfl, hl', scr2, hsp2, hls2⟩
  have hG : Gd 3 l' := hl'.mono (by omega)
  have sm := hG.sm
  have sh := due_sh sm
  refine ⟨_, rfl, ?_⟩
  refine found_e (E := noE) (by have := sm.len; omega) (fun H3 a1 s3 t1 => ?_)
  rw [entry_due sm] at t1
  refine ⟨a1, _, rfl, t1, sh, ?_⟩
  refine ⟨_, rfl, l', rfl, hG.ok, fun H4 v s4 t2 => ?_⟩
  obtain ⟨a2, z2, rfl, hq2, _⟩ := end_inv t2
  refine ⟨a2, _, rfl, t2, sh, rfl, _, rfl, ?_⟩
  rw [decide_eq_true rfl]
  refine iteF ?_
  have s34 := s3.trans s4
  have scr3 := scr2.same s34
  have hsp3 := s34 _ _ hsp2
  have hls3 := s34 _ _ hls2
  have no : ∀ H5, Same H4 H5 → D.nx [some (.ref c), some (.ref sp), some (.ref ls), x3, some (.int (n : Nat)), some (.str (S l')), x6', none, none, none, none, none, none, none, none] H5 := fun H5 s5 =>
    cont H5 _ l' lines x6' (scr3.same s5) (s5 _ _ hsp3) (by omega) hG (s5 _ _ hls3) (.inl rfl)
  have yes : ∀ H5, Same H4 H5 → D.nx [some (.ref c), some (.ref sp), some (.ref ls), x3, some (.int (n : Nat)), some (.str (S l')), x6', none, none, none, none, none, none, none, none] (upd H5 ls (.lst (lines.map (V.str ∘ S) ++ [.str (S l')]))) := fun H5 s5 =>
    cont _ _ l' (lines ++ [l']) x6' ((scr3.same s5).ls _) (by rw [upd_ne nls.symm]; exact s5 _ _ hsp3) (by omega) hG (by rw [upd_same, List.map_append]; rfl) (.inr rfl)
  have hz : (lines.map (V.str ∘ S)).length < sizeLine := by rw [List.length_map, sizeLine_eq]; omega
  refine ⟨_, rfl, _, _, rfl, rfl, ⟨by decide, by decide⟩, _, _, rfl, rfl, (show (0 : Int) < 3 by decide), _, _, rfl, rfl, _, rfl, ?_⟩
  refine iteD (fun c1 => ?_) (fun c1 => ?_)
  · refine iteT ?_
    exact ⟨_, rfl, .inl ⟨rfl, _, .inl (.inl hls3)⟩, _, rfl, ls, _, _, rfl, rfl, hls3, hz, yes _ (Same.refl _)⟩
  refine ⟨_, rfl, l', rfl, hG.ok, fun H5 v s5 t5 => ?_⟩
  obtain ⟨a5, z5, rfl, hq5, _⟩ := end_inv t5
  refine ⟨a5, _, _, _, rfl, rfl, hq5, atI_nat (j := 0) rfl, rfl, _, rfl, ?_⟩
  cases dueL l' with
  | inl d =>
    refine iteT ?_
    exact ⟨_, rfl, .inl ⟨rfl, _, .inl (.inl (s5 _ _ hls3))⟩, _, rfl, ls, _, _, rfl, rfl, s5 _ _ hls3, hz, yes _ s5⟩
  | inr p =>
    refine iteF ?_
    exact no _ s5
end
end KW

/-! part KLaw15 -/
set_option maxHeartbeats 4000000
/-! The law's body, whole. -/
namespace KW
open PySem PySem.Spec PyProof.Rows L2 KM SX
section
variable {P : Program} {w : World} {K : PySem.W.Frag} {mg : Str → Option Value} {base : Heap}
abbrev Inv2 (K : PySem.W.Frag) (c sp ls : Addr) (ns : List Int) (i : Nat) : L2.St → Hp → Prop := fun σ H' => ∃ (k : Nat) (lines : List (List Nat)) (x3 x4 x5 x6 : Option V), σ = [some (.ref c), some (.ref sp), some (.ref ls), x3, x4, x5, x6, none, none, none, none, none, none, none, none] ∧ Scr K H' c sp ls (ns.map V.int) ∧ H' sp = some (.lst [.int (k : Nat)]) ∧ k ≤ 8 * i ∧
  H' ls = some (.lst (lines.map (V.str ∘ S))) ∧ lines.length ≤ i ∧ ∀ l ∈ lines, Gd 3 l
theorem law_body (T : Txt K mg w) (TX : KxC K (CB K)) (Fx : KxF K mg) (cdv : Value) (s : Shared) (H : Hp) {c : Addr} {ns : List Int} (hc : Rd H c (.lst (ns.map V.int)) ∨ ∀ H', SqL K H' c (ns.map V.int)) (hn : ns.length ≤ 63) :
    ∃ tr, PSs (XL P w K mg base cdv s H) (defBody s_law) tr ∧ tr DL (start N_law [.ref c]) H := by
  have hr := roomL (K := K) s cdv
  have GC := ok_l_cell (P := P) (base := base) T
  have GL := ok_l_line (P := P) (base := base) T
  obtain ⟨tb, hb, qb⟩ := law_bend (P := P) (base := base) T TX Fx cdv s H
  obtain ⟨t4, h4, q4⟩ := law_rows (P := P) (base := base) T TX Fx cdv s H
  refine ⟨_, (pss_cons (ps_set (i := 1) sc_law.nd rfl (Or.inl rfl) (pe_lst (pa_cons pe_int pa_nil))) (pss_cons (ps_set (i := 2) sc_law.nd rfl (Or.inl rfl) (pe_lst pa_nil)) (pss_cons (ps_for po rfl (pi_range1 (by rfl) T.z_range (pa_cons (pe_op op_add pe_int (pe_op op_fdiv (pe_callB call_len_seq (by rfl) T.z_len (by decide +kernel) (pa_cons (pv 0) pa_nil)) pe_int)) pa_nil)) (pg_name (i := 3) sc_law.nd rfl (Or.inl rfl)) (pss_cons (ps_set (i := 4) sc_law.nd rfl (Or.inl rfl) (pf GC (hr.mono (by decide)) T.g_l_cell pnone (pa_cons (pv 0) (pa_cons (pv 1) pa_nil)))) (pss_cons (ps_set (i := 5) sc_law.nd rfl (Or.inl rfl) (pe_ifExp (pt_cmpR op_gt (pe_op op_mod (pv 4) pe_int) pe_int (nomark _)) (pf GL (hr.mono (by decide)) T.g_l_line pnone (pa_cons (pv 0) (pa_cons (pv 1) pa_nil))) pe_str)) hb))) (pss_cons (ps_set (i := 7) sc_law.nd rfl (Or.inl rfl) (pe_bm PySem.F.plainAttrs_str PySem.F.slot_str_join PySem.F.type_str_join mt_join pe_str (pa_cons (pv 2) pa_nil))) h4)))), ?_⟩
  refine ⟨by show 1 ≤ sizeLine; decide, fun sp hsp => ?_⟩
  refine ⟨Nat.zero_le _, fun ls hls => ?_⟩
  have e1 := same_new (o := .lst [.int 0]) hsp
  have e2 := same_new (o := .lst []) hls
  have nls : ls ≠ sp := (ne_of_none upd_same hls).symm
  have scr : Scr K (upd (upd H sp (.lst [.int 0])) ls (.lst [])) c sp ls (ns.map V.int) := by
    rcases hc with h | h
    · have h1 : c ≠ sp := by rcases h with h | ⟨o, h⟩ <;> exact ne_of_none h hsp
      have h2 : c ≠ ls := by
        rcases h with h | ⟨o, h⟩
        · exact ne_of_none (e1 _ _ h) hls
        · exact ne_of_none (e1 _ _ h) hls
      exact ⟨.inl ⟨rd_ne (rd_ne h h1) h2, h1, h2⟩⟩
    · exact ⟨.inr h⟩
  have hsp1 : (upd (upd H sp (.lst [.int 0])) ls (.lst [])) sp = some (.lst [.int ((0 : Nat) : Int)]) := e2 _ _ upd_same
  have hls1 : (upd (upd H sp (.lst [.int 0])) ls (.lst [])) ls = some (.lst (([] : List (List Nat)).map (V.str ∘ S))) := upd_same
  generalize upd (upd H sp (.lst [.int 0])) ls (.lst []) = H1 at scr hsp1 hls1 ⊢
  refine ⟨_, rfl, c, _, rfl, .inl scr.sq, _, _, rfl, rfl, ⟨by decide, by decide⟩, _, _, rfl, rfl, ?_⟩
  rw [List.length_map]
  have hm : ∃ m : Nat, m ≤ 12 ∧ (2 : Int) + (ns.length : Nat) / 6 = (m : Nat) := ⟨2 + ns.length / 6, by omega, by omega⟩
  obtain ⟨m, hm, em⟩ := hm
  refine ⟨_, rfl, by omega, by omega, ?_⟩
  refine for_it walk_range (Inv2 K c sp ls ns) ⟨0, [], none, none, none, none, rfl, scr, hsp1, by omega, hls1, by simp, fun l h => (nomatch h)⟩ (fun _ _ _ _ _ => trivial) ?_ ?_
  · rintro i x σ H2 H3 hi ⟨k, lines, x3, x4, x5, x6, rfl, scr2, hsp2, hk, hls2, hlz, hG⟩ ⟨rfl, rfl⟩
    have hi12 : i < 12 := by omega
    refine ⟨_, rfl, _, rfl, c, sp, k, ns, rfl, fun o => (scr2.sp o).sq, hn, hsp2, by omega, fun n hn2 => ?_⟩
    have scr3 := scr2.sp (.lst [.int ((k + 1 : Nat) : Int)])
    have hsp3 : (upd H3 sp (.lst [.int ((k + 1 : Nat) : Int)])) sp = some (.lst [.int ((k + 1 : Nat) : Int)]) := upd_same
    have hls3 : (upd H3 sp (.lst [.int ((k + 1 : Nat) : Int)])) ls = some (.lst (lines.map (V.str ∘ S))) := by rw [upd_ne nls]; exact hls2
    generalize upd H3 sp (.lst [.int ((k + 1 : Nat) : Int)]) = H4 at scr3 hsp3 hls3 ⊢
    have cont : ∀ (k5 : Nat), k5 ≤ k + 5 → ∀ (H6 : Hp) (k6 : Nat) (l6 : List Nat) (lines6 : List (List Nat)) (x66 : Option V), Scr K H6 c sp ls (ns.map V.int) → H6 sp = some (.lst [.int (k6 : Nat)]) → k6 ≤ k5 + 3 → Gd 3 l6 → H6 ls = some (.lst (lines6.map (V.str ∘ S))) → (lines6 = lines ∨ lines6 = lines ++ [l6]) →
        Inv2 K c sp ls ns (i + 1) [some (.ref c), some (.ref sp), some (.ref ls), some (.int (0 + (i : Nat))), some (.int (n : Nat)), some (.str (S l6)), x66, none, none, none, none, none, none, none, none] H6 := by
      intro k5 hk5 H6 k6 l6 lines6 x66 scr6 hsp6 hk6 hG6 hls6 hl6
      refine ⟨k6, lines6, _, _, _, _, rfl, scr6, hsp6, by omega, hls6, ?_, ?_⟩
      · rcases hl6 with rfl | rfl
        · omega
        · rw [List.length_append, List.length_singleton]; omega
      · rcases hl6 with rfl | rfl
        · exact hG
        · intro z hz
          rcases List.mem_append.mp hz with hz | hz
          · exact hG z hz
          · rw [List.mem_singleton.mp hz]; exact hG6
    refine ⟨_, rfl, _, _, rfl, rfl, (show (0 : Int) < 9 by decide), _, _, rfl, rfl, _, rfl, ?_⟩
    refine iteD (fun c1 => ?_) (fun c1 => ?_)
    · refine ⟨_, rfl, _, rfl, c, sp, k + 1, ns, rfl, fun o => (scr3.sp o).sq, hn, hsp3, by omega, fun H5 k5 l s5 hk5 hl => ?_⟩
      exact qb _ c sp ls k5 n ns l lines H5 _ x6 ((scr3.sp _).same s5) hn (s5 _ _ upd_same) (by omega) hn2 nls hl (s5 _ _ (by rw [upd_ne nls]; exact hls3)) (by omega) (cont k5 (by omega))
    · exact qb _ c sp ls (k + 1) n ns [] lines H4 _ x6 scr3 hn hsp3 (by omega) hn2 nls gd_nil hls3 (by omega) (cont (k + 1) (by omega))
  rintro σ H2 ⟨k, lines, x3, x4, x5, x6, rfl, scr2, hsp2, hk, hls2, hlz, hG⟩
  have rm : RmOk (TL.joinL [10] lines) := rm_join hG (by omega)
  have els : H2 ls = some (.lst ((lines.map S).map V.str)) := by rw [List.map_map]; exact hls2
  refine ⟨rfl, _, rfl, _, ls, lines.map S, rfl, rfl, .inl (SqL.of els), ?_, ?_⟩
  · have hs : ∀ m : List (List Nat), (∀ l ∈ m, Gd 3 l) → ((m.map S).map fun x : Str => x.length).sum ≤ 94 * m.length := by
      intro m
      induction m with
      | nil => intro _; simp
      | cons a m ih =>
        intro h
        have h1 := ih fun l hl => h l (List.mem_cons_of_mem _ hl)
        have h2 := (h a List.mem_cons_self).len
        simp only [List.map_cons, List.sum_cons, List.length_cons, S_len] at h1 ⊢
        omega
    have h1 := hs lines hG
    rw [List.length_map]
    show _ + lines.length * 1 ≤ 16777216
    omega
  have ej : Txt.join ("\n" : Str) (lines.map S) = S (TL.joinL [10] lines) := join_S [10] lines
  rw [ej]
  exact q4 c sp ls k ns _ H2 _ x3 x4 x5 x6 scr2 hn hsp2 (by omega) rm
end
end KW

/-! part KHead3 -/
set_option maxHeartbeats 4000000
namespace KW
open PySem PySem.Spec PyProof.Rows L2 KM SX
section
variable {K : PySem.W.Frag} {h : Heap} {mg : Str → Option Value} {w : World}
theorem txt_of (X : K.In h) (G : h.Ns mainGlobals mg) (c : Says w K) : Txt K mg w where
  f_now := c.t.d.def_ 0 (d := ⟨("Reader", some "now"), "now", "Stack.now", defArgs s_now, defBody s_now, defScope s_now, [], []⟩) rfl
  m_now := He.meth_ok (c.t.d.fact 0 (f := .meth "Reader" "now") rfl)
  f_wrong := c.t.d.def_ 1 (d := ⟨("Reader", some "wrong"), "wrong", "Stack.wrong", defArgs s_wrong, defBody s_wrong, defScope s_wrong, [], []⟩) rfl
  m_wrong := He.meth_ok (c.t.d.fact 1 (f := .meth "Reader" "wrong") rfl)
  f_is_mark := c.t.d.def_ 2 (d := ⟨("Reader", some "is_mark"), "is_mark", "Stack.is_mark", defArgs s_is_mark, defBody s_is_mark, defScope s_is_mark, [], []⟩) rfl
  m_is_mark := He.meth_ok (c.t.d.fact 2 (f := .meth "Reader" "is_mark") rfl)
  f_is_told := c.t.d.def_ 3 (d := ⟨("Reader", some "is_told"), "is_told", "Stack.is_told", defArgs s_is_told, defBody s_is_told, defScope s_is_told, [], []⟩) rfl
  m_is_told := He.meth_ok (c.t.d.fact 3 (f := .meth "Reader" "is_told") rfl)
  f_go_on := c.t.d.def_ 4 (d := ⟨("Reader", some "go_on"), "go_on", "Stack.go_on", defArgs s_go_on, defBody s_go_on, defScope s_go_on, [], []⟩) rfl
  m_go_on := He.meth_ok (c.t.d.fact 4 (f := .meth "Reader" "go_on") rfl)
  f_need_word := c.t.d.def_ 5 (d := ⟨("Reader", some "need_word"), "need_word", "Stack.need_word", defArgs s_need_word, defBody s_need_word, defScope s_need_word, [], []⟩) rfl
  m_need_word := He.meth_ok (c.t.d.fact 5 (f := .meth "Reader" "need_word") rfl)
  f_need_kind := c.t.d.def_ 6 (d := ⟨("Reader", some "need_kind"), "need_kind", "Stack.need_kind", defArgs s_need_kind, defBody s_need_kind, defScope s_need_kind, [], []⟩) rfl
  m_need_kind := He.meth_ok (c.t.d.fact 6 (f := .meth "Reader" "need_kind") rfl)
  f_plan := c.t.d.def_ 7 (d := ⟨("Reader", some "plan"), "plan", "Stack.plan", defArgs s_plan, defBody s_plan, defScope s_plan, [], []⟩) rfl
  m_plan := He.meth_ok (c.t.d.fact 7 (f := .meth "Reader" "plan") rfl)
  f_pop_many := c.t.d.def_ 8 (d := ⟨("Reader", some "pop_many"), "pop_many", "Stack.pop_many", defArgs s_pop_many, defBody s_pop_many, defScope s_pop_many, [], []⟩) rfl
  m_pop_many := He.meth_ok (c.t.d.fact 8 (f := .meth "Reader" "pop_many") rfl)
  f_make := c.t.d.def_ 9 (d := ⟨("Reader", some "make"), "make", "Stack.make", defArgs s_make, defBody s_make, defScope s_make, [], []⟩) rfl
  m_make := He.meth_ok (c.t.d.fact 9 (f := .meth "Reader" "make") rfl)
  f_make_call := c.t.d.def_ 10 (d := ⟨("Reader", some "make_call"), "make_call", "Stack.make_call", defArgs s_make_call, defBody s_make_call, defScope s_make_call, [], []⟩) rfl
  m_make_call := He.meth_ok (c.t.d.fact 10 (f := .meth "Reader" "make_call") rfl)
  f_make_bound := c.t.d.def_ 11 (d := ⟨("Reader", some "make_bound"), "make_bound", "Stack.make_bound", defArgs s_make_bound, defBody s_make_bound, defScope s_make_bound, [], []⟩) rfl
  m_make_bound := He.meth_ok (c.t.d.fact 11 (f := .meth "Reader" "make_bound") rfl)
  f_make_not := c.t.d.def_ 12 (d := ⟨("Reader", some "make_not"), "make_not", "Stack.make_not", defArgs s_make_not, defBody s_make_not, defScope s_make_not, [], []⟩) rfl
  m_make_not := He.meth_ok (c.t.d.fact 12 (f := .meth "Reader" "make_not") rfl)
  f_do_term := c.t.d.def_ 13 (d := ⟨("Reader", some "do_term"), "do_term", "Parser.do_term", defArgs s_do_term, defBody s_do_term, defScope s_do_term, [], []⟩) rfl
  m_do_term := He.meth_ok (c.t.d.fact 13 (f := .meth "Reader" "do_term") rfl)
  f_do_variable := c.t.d.def_ 14 (d := ⟨("Reader", some "do_variable"), "do_variable", "Parser.do_variable", defArgs s_do_variable, defBody s_do_variable, defScope s_do_variable, [], []⟩) rfl
  m_do_variable := He.meth_ok (c.t.d.fact 14 (f := .meth "Reader" "do_variable") rfl)
  f_do_args := c.t.d.def_ 15 (d := ⟨("Reader", some "do_args"), "do_args", "Parser.do_args", defArgs s_do_args, defBody s_do_args, defScope s_do_args, [], []⟩) rfl
  m_do_args := He.meth_ok (c.t.d.fact 15 (f := .meth "Reader" "do_args") rfl)
  f_do_more := c.t.d.def_ 16 (d := ⟨("Reader", some "do_more"), "do_more", "Parser.do_more", defArgs s_do_more, defBody s_do_more, defScope s_do_more, [], []⟩) rfl
  m_do_more := He.meth_ok (c.t.d.fact 16 (f := .meth "Reader" "do_more") rfl)
  f_do_call := c.t.d.def_ 17 (d := ⟨("Reader", some "do_call"), "do_call", "Parser.do_call", defArgs s_do_call, defBody s_do_call, defScope s_do_call, [], []⟩) rfl
  m_do_call := He.meth_ok (c.t.d.fact 17 (f := .meth "Reader" "do_call") rfl)
  f_do_rel := c.t.d.def_ 18 (d := ⟨("Reader", some "do_rel"), "do_rel", "Parser.do_rel", defArgs s_do_rel, defBody s_do_rel, defScope s_do_rel, [], []⟩) rfl
  m_do_rel := He.meth_ok (c.t.d.fact 18 (f := .meth "Reader" "do_rel") rfl)
  f_do_same := c.t.d.def_ 19 (d := ⟨("Reader", some "do_same"), "do_same", "Parser.do_same", defArgs s_do_same, defBody s_do_same, defScope s_do_same, [], []⟩) rfl
  m_do_same := He.meth_ok (c.t.d.fact 19 (f := .meth "Reader" "do_same") rfl)
  f_do_statement := c.t.d.def_ 20 (d := ⟨("Reader", some "do_statement"), "do_statement", "Parser.do_statement", defArgs s_do_statement, defBody s_do_statement, defScope s_do_statement, [], []⟩) rfl
  m_do_statement := He.meth_ok (c.t.d.fact 20 (f := .meth "Reader" "do_statement") rfl)
  f_do_bound := c.t.d.def_ 21 (d := ⟨("Reader", some "do_bound"), "do_bound", "Parser.do_bound", defArgs s_do_bound, defBody s_do_bound, defScope s_do_bound, [], []⟩) rfl
  m_do_bound := He.meth_ok (c.t.d.fact 21 (f := .meth "Reader" "do_bound") rfl)
  f_do_level := c.t.d.def_ 22 (d := ⟨("Reader", some "do_level"), "do_level", "Parser.do_level", defArgs s_do_level, defBody s_do_level, defScope s_do_level, [], []⟩) rfl
  m_do_level := He.meth_ok (c.t.d.fact 22 (f := .meth "Reader" "do_level") rfl)
  f_do_rest := c.t.d.def_ 23 (d := ⟨("Reader", some "do_rest"), "do_rest", "Parser.do_rest", defArgs s_do_rest, defBody s_do_rest, defScope s_do_rest, [], []⟩) rfl
  m_do_rest := He.meth_ok (c.t.d.fact 23 (f := .meth "Reader" "do_rest") rfl)
  f_do_not := c.t.d.def_ 24 (d := ⟨("Reader", some "do_not"), "do_not", "Parser.do_not", defArgs s_do_not, defBody s_do_not, defScope s_do_not, [], []⟩) rfl
  m_do_not := He.meth_ok (c.t.d.fact 24 (f := .meth "Reader" "do_not") rfl)
  f_work_plain := c.t.d.def_ 25 (d := ⟨("Reader", some "work_plain"), "work_plain", "Parser.work_plain", defArgs s_work_plain, defBody s_work_plain, defScope s_work_plain, [], []⟩) rfl
  m_work_plain := He.meth_ok (c.t.d.fact 25 (f := .meth "Reader" "work_plain") rfl)
  f_work_made := c.t.d.def_ 26 (d := ⟨("Reader", some "work_made"), "work_made", "Parser.work_made", defArgs s_work_made, defBody s_work_made, defScope s_work_made, [], []⟩) rfl
  m_work_made := He.meth_ok (c.t.d.fact 26 (f := .meth "Reader" "work_made") rfl)
  f_run := c.t.d.def_ 27 (d := ⟨("Reader", some "run"), "run", "Parser.run", defArgs s_run, defBody s_run, defScope s_run, [], []⟩) rfl
  m_run := He.meth_ok (c.t.d.fact 27 (f := .meth "Reader" "run") rfl)
  f_do_ground := c.t.d.def_ 28 (d := ⟨("Reader", some "do_ground"), "do_ground", "Reader.do_ground", defArgs s_do_ground, defBody s_do_ground, defScope s_do_ground, [], []⟩) rfl
  m_do_ground := He.meth_ok (c.t.d.fact 28 (f := .meth "Reader" "do_ground") rfl)
  f_do_piece := c.t.d.def_ 29 (d := ⟨("Reader", some "do_piece"), "do_piece", "Reader.do_piece", defArgs s_do_piece, defBody s_do_piece, defScope s_do_piece, [], []⟩) rfl
  m_do_piece := He.meth_ok (c.t.d.fact 29 (f := .meth "Reader" "do_piece") rfl)
  f_under := c.t.d.def_ 30 (d := ⟨("Reader", some "under"), "under", "Reader.under", defArgs s_under, defBody s_under, defScope s_under, [], []⟩) rfl
  m_under := He.meth_ok (c.t.d.fact 30 (f := .meth "Reader" "under") rfl)
  f_do_small := c.t.d.def_ 31 (d := ⟨("Reader", some "do_small"), "do_small", "Reader.do_small", defArgs s_do_small, defBody s_do_small, defScope s_do_small, [], []⟩) rfl
  m_do_small := He.meth_ok (c.t.d.fact 31 (f := .meth "Reader" "do_small") rfl)
  f_do_members := c.t.d.def_ 32 (d := ⟨("Reader", some "do_members"), "do_members", "Reader.do_members", defArgs s_do_members, defBody s_do_members, defScope s_do_members, [], []⟩) rfl
  m_do_members := He.meth_ok (c.t.d.fact 32 (f := .meth "Reader" "do_members") rfl)
  f_since := c.t.d.def_ 33 (d := ⟨("Reader", some "since"), "since", "Reader.since", defArgs s_since, defBody s_since, defScope s_since, [], []⟩) rfl
  m_since := He.meth_ok (c.t.d.fact 33 (f := .meth "Reader" "since") rfl)
  f_deepest := c.t.d.def_ 34 (d := ⟨("Reader", some "deepest"), "deepest", "Reader.deepest", defArgs s_deepest, defBody s_deepest, defScope s_deepest, [], []⟩) rfl
  m_deepest := He.meth_ok (c.t.d.fact 34 (f := .meth "Reader" "deepest") rfl)
  f_all_good := c.t.d.def_ 35 (d := ⟨("Reader", some "all_good"), "all_good", "Reader.all_good", defArgs s_all_good, defBody s_all_good, defScope s_all_good, [], []⟩) rfl
  m_all_good := He.meth_ok (c.t.d.fact 35 (f := .meth "Reader" "all_good") rfl)
  f_do_ended := c.t.d.def_ 36 (d := ⟨("Reader", some "do_ended"), "do_ended", "Reader.do_ended", defArgs s_do_ended, defBody s_do_ended, defScope s_do_ended, [], []⟩) rfl
  m_do_ended := He.meth_ok (c.t.d.fact 36 (f := .meth "Reader" "do_ended") rfl)
  f_work := c.t.d.def_ 37 (d := ⟨("Reader", some "work"), "work", "Reader.work", defArgs s_work, defBody s_work, defScope s_work, [], []⟩) rfl
  m_work := He.meth_ok (c.t.d.fact 37 (f := .meth "Reader" "work") rfl)
  f_joined := c.t.d.def_ 38 (d := ⟨("joined", none), "joined", "joined", defArgs s_joined, defBody s_joined, defScope s_joined, [], []⟩) rfl
  g_joined := He.glo_ok X G (c.t.d.fact 38 (f := .glo "joined") rfl)
  f_is_called := c.t.d.def_ 39 (d := ⟨("is_called", none), "is_called", "is_called", defArgs s_is_called, defBody s_is_called, defScope s_is_called, [], []⟩) rfl
  g_is_called := He.glo_ok X G (c.t.d.fact 39 (f := .glo "is_called") rfl)
  f_number_of := c.t.d.def_ 40 (d := ⟨("number_of", none), "number_of", "number_of", defArgs s_number_of, defBody s_number_of, defScope s_number_of, [], []⟩) rfl
  g_number_of := He.glo_ok X G (c.t.d.fact 40 (f := .glo "number_of") rfl)
  f_run_at := c.t.d.def_ 41 (d := ⟨("run_at", none), "run_at", "run_at", defArgs s_run_at, defBody s_run_at, defScope s_run_at, [], []⟩) rfl
  g_run_at := He.glo_ok X G (c.t.d.fact 41 (f := .glo "run_at") rfl)
  f_run_word := c.t.d.def_ 42 (d := ⟨("run_word", none), "run_word", "run_word", defArgs s_run_word, defBody s_run_word, defScope s_run_word, [], []⟩) rfl
  g_run_word := He.glo_ok X G (c.t.d.fact 42 (f := .glo "run_word") rfl)
  f_words_of := c.t.d.def_ 43 (d := ⟨("words_of", none), "words_of", "words_of", defArgs s_words_of, defBody s_words_of, defScope s_words_of, [], []⟩) rfl
  g_words_of := He.glo_ok X G (c.t.d.fact 43 (f := .glo "words_of") rfl)
  f_reader_of := c.t.d.def_ 44 (d := ⟨("reader_of", none), "reader_of", "reader_of", defArgs s_reader_of, defBody s_reader_of, defScope s_reader_of, [], []⟩) rfl
  g_reader_of := He.glo_ok X G (c.t.d.fact 44 (f := .glo "reader_of") rfl)
  f_small_one := c.t.d.def_ 45 (d := ⟨("small_one", none), "small_one", "small_one", defArgs s_small_one, defBody s_small_one, defScope s_small_one, [], []⟩) rfl
  g_small_one := He.glo_ok X G (c.t.d.fact 45 (f := .glo "small_one") rfl)
  f_read_statement := c.t.d.def_ 46 (d := ⟨("read_statement", none), "read_statement", "read_statement", defArgs s_read_statement, defBody s_read_statement, defScope s_read_statement, [], []⟩) rfl
  g_read_statement := He.glo_ok X G (c.t.d.fact 46 (f := .glo "read_statement") rfl)
  f_whole_ground := c.t.d.def_ 47 (d := ⟨("whole_ground", none), "whole_ground", "whole_ground", defArgs s_whole_ground, defBody s_whole_ground, defScope s_whole_ground, [], []⟩) rfl
  g_whole_ground := He.glo_ok X G (c.t.d.fact 47 (f := .glo "whole_ground") rfl)
  f_read_ground := c.t.d.def_ 48 (d := ⟨("read_ground", none), "read_ground", "read_ground", defArgs s_read_ground, defBody s_read_ground, defScope s_read_ground, [], []⟩) rfl
  g_read_ground := He.glo_ok X G (c.t.d.fact 48 (f := .glo "read_ground") rfl)
  f_names_behind := c.t.d.def_ 49 (d := ⟨("names_behind", none), "names_behind", "names_behind", defArgs s_names_behind, defBody s_names_behind, defScope s_names_behind, [], []⟩) rfl
  g_names_behind := He.glo_ok X G (c.t.d.fact 49 (f := .glo "names_behind") rfl)
  f_func_entry := c.t.d.def_ 50 (d := ⟨("func_entry", none), "func_entry", "func_entry", defArgs s_func_entry, defBody s_func_entry, defScope s_func_entry, [], []⟩) rfl
  g_func_entry := He.glo_ok X G (c.t.d.fact 50 (f := .glo "func_entry") rfl)
  f_part_of := c.t.d.def_ 51 (d := ⟨("part_of", none), "part_of", "part_of", defArgs s_part_of, defBody s_part_of, defScope s_part_of, [], []⟩) rfl
  g_part_of := He.glo_ok X G (c.t.d.fact 51 (f := .glo "part_of") rfl)
  f_statement_in := c.t.d.def_ 52 (d := ⟨("statement_in", none), "statement_in", "statement_in", defArgs s_statement_in, defBody s_statement_in, defScope s_statement_in, [], []⟩) rfl
  g_statement_in := He.glo_ok X G (c.t.d.fact 52 (f := .glo "statement_in") rfl)
  f_told_entry := c.t.d.def_ 53 (d := ⟨("told_entry", none), "told_entry", "told_entry", defArgs s_told_entry, defBody s_told_entry, defScope s_told_entry, [], []⟩) rfl
  g_told_entry := He.glo_ok X G (c.t.d.fact 53 (f := .glo "told_entry") rfl)
  f_entry_in := c.t.d.def_ 54 (d := ⟨("entry_in", none), "entry_in", "entry_in", defArgs s_entry_in, defBody s_entry_in, defScope s_entry_in, [], []⟩) rfl
  g_entry_in := He.glo_ok X G (c.t.d.fact 54 (f := .glo "entry_in") rfl)
  f_entry_of := c.t.d.def_ 55 (d := ⟨("entry_of", none), "entry_of", "entry_of", defArgs s_entry_of, defBody s_entry_of, defScope s_entry_of, [], []⟩) rfl
  g_entry_of := He.glo_ok X G (c.t.d.fact 55 (f := .glo "entry_of") rfl)
  f_read_entry := c.t.d.def_ 56 (d := ⟨("read_entry", none), "read_entry", "read_entry", defArgs s_read_entry, defBody s_read_entry, defScope s_read_entry, [], []⟩) rfl
  g_read_entry := He.glo_ok X G (c.t.d.fact 56 (f := .glo "read_entry") rfl)
  f_line_entry := c.t.d.def_ 57 (d := ⟨("line_entry", none), "line_entry", "line_entry", defArgs s_line_entry, defBody s_line_entry, defScope s_line_entry, [], []⟩) rfl
  g_line_entry := He.glo_ok X G (c.t.d.fact 57 (f := .glo "line_entry") rfl)
  f_read_room := c.t.d.def_ 58 (d := ⟨("read_room", none), "read_room", "read_room", defArgs s_read_room, defBody s_read_room, defScope s_read_room, [], []⟩) rfl
  g_read_room := He.glo_ok X G (c.t.d.fact 58 (f := .glo "read_room") rfl)
  f_l_cell := c.t.d.def_ 59 (d := ⟨("_law_cell", none), "_law_cell", "_law_cell", defArgs s_l_cell, defBody s_l_cell, defScope s_l_cell, [], []⟩) rfl
  g_l_cell := He.glo_ok X G (c.t.d.fact 59 (f := .glo "_law_cell") rfl)
  f_l_name := c.t.d.def_ 60 (d := ⟨("_law_name", none), "_law_name", "_law_name", defArgs s_l_name, defBody s_l_name, defScope s_l_name, [], []⟩) rfl
  g_l_name := He.glo_ok X G (c.t.d.fact 60 (f := .glo "_law_name") rfl)
  f_l_line := c.t.d.def_ 61 (d := ⟨("_law_line", none), "_law_line", "_law_line", defArgs s_l_line, defBody s_l_line, defScope s_l_line, [], []⟩) rfl
  g_l_line := He.glo_ok X G (c.t.d.fact 61 (f := .glo "_law_line") rfl)
  f_l_words := c.t.d.def_ 62 (d := ⟨("_law_words", none), "_law_words", "_law_words", defArgs s_l_words, defBody s_l_words, defScope s_l_words, [], []⟩) rfl
  g_l_words := He.glo_ok X G (c.t.d.fact 62 (f := .glo "_law_words") rfl)
  f_l_is_number := c.t.d.def_ 63 (d := ⟨("_law_is_number", none), "_law_is_number", "_law_is_number", defArgs s_l_is_number, defBody s_l_is_number, defScope s_l_is_number, [], []⟩) rfl
  g_l_is_number := He.glo_ok X G (c.t.d.fact 63 (f := .glo "_law_is_number") rfl)
  f_l_part := c.t.d.def_ 64 (d := ⟨("_law_part", none), "_law_part", "_law_part", defArgs s_l_part, defBody s_l_part, defScope s_l_part, [], []⟩) rfl
  g_l_part := He.glo_ok X G (c.t.d.fact 64 (f := .glo "_law_part") rfl)
  f_l_names_from := c.t.d.def_ 65 (d := ⟨("_law_names_from", none), "_law_names_from", "_law_names_from", defArgs s_l_names_from, defBody s_l_names_from, defScope s_l_names_from, [], []⟩) rfl
  g_l_names_from := He.glo_ok X G (c.t.d.fact 65 (f := .glo "_law_names_from") rfl)
  f_l_told := c.t.d.def_ 66 (d := ⟨("_law_told", none), "_law_told", "_law_told", defArgs s_l_told, defBody s_l_told, defScope s_l_told, [], []⟩) rfl
  g_l_told := He.glo_ok X G (c.t.d.fact 66 (f := .glo "_law_told") rfl)
  f_l_listed := c.t.d.def_ 67 (d := ⟨("_law_listed", none), "_law_listed", "_law_listed", defArgs s_l_listed, defBody s_l_listed, defScope s_l_listed, [], []⟩) rfl
  g_l_listed := He.glo_ok X G (c.t.d.fact 67 (f := .glo "_law_listed") rfl)
  f_l_due := c.t.d.def_ 68 (d := ⟨("_law_due", none), "_law_due", "_law_due", defArgs s_l_due, defBody s_l_due, defScope s_l_due, [], []⟩) rfl
  g_l_due := He.glo_ok X G (c.t.d.fact 68 (f := .glo "_law_due") rfl)
  f_l_found := c.t.d.def_ 69 (d := ⟨("_law_found", none), "_law_found", "_law_found", defArgs s_l_found, defBody s_l_found, defScope s_l_found, [], []⟩) rfl
  g_l_found := He.glo_ok X G (c.t.d.fact 69 (f := .glo "_law_found") rfl)
  f_l_bent := c.t.d.def_ 70 (d := ⟨("_law_bent", none), "_law_bent", "_law_bent", defArgs s_l_bent, defBody s_l_bent, defScope s_l_bent, [], []⟩) rfl
  g_l_bent := He.glo_ok X G (c.t.d.fact 70 (f := .glo "_law_bent") rfl)
  f_law := c.t.d.def_ 71 (d := ⟨("law", none), "law", "law", defArgs s_law, defBody s_law, defScope s_law, [], []⟩) rfl
  g_law := He.glo_ok X G (c.t.d.fact 71 (f := .glo "law") rfl)
  f_init := c.t.d.def_ 72 (d := ⟨("Reader", some "__init__"), "__init__", "Stack.__init__", defArgs s_init, defBody s_init, defScope s_init, [], []⟩) rfl
  f_binit := c.t.d.def_ 73 (d := ⟨("BadText", some "__init__"), "__init__", "BadText.__init__", defArgs s_binit, defBody s_binit, defScope s_binit, [], []⟩) rfl
  c_NOT_LEVEL := He.int_ok X G (c.t.d.fact 72 (f := .int "NOT_LEVEL" 3) rfl)
  c_MOST_LETTERS := He.int_ok X G (c.t.d.fact 73 (f := .int "MOST_LETTERS" 10) rfl)
  c_MOST_FIGURES := He.int_ok X G (c.t.d.fact 74 (f := .int "MOST_FIGURES" 30) rfl)
  c_MOST_SIGNS := He.int_ok X G (c.t.d.fact 75 (f := .int "MOST_SIGNS" 20000) rfl)
  c_MOST_ROOM := He.int_ok X G (c.t.d.fact 76 (f := .int "MOST_ROOM" 100000) rfl)
  c_MOST_PARTS := He.int_ok X G (c.t.d.fact 77 (f := .int "MOST_PARTS" 400) rfl)
  c_MOST_DEEP := He.int_ok X G (c.t.d.fact 78 (f := .int "MOST_DEEP" 40) rfl)
  c_GREAT_PARTS := He.int_ok X G (c.t.d.fact 79 (f := .int "GREAT_PARTS" 4000) rfl)
  c_GREAT_DEEP := He.int_ok X G (c.t.d.fact 80 (f := .int "GREAT_DEEP" 120) rfl)
  c_MOST_GROUNDS := He.int_ok X G (c.t.d.fact 81 (f := .int "MOST_GROUNDS" 4000) rfl)
  c_MOST_WITHIN := He.int_ok X G (c.t.d.fact 82 (f := .int "MOST_WITHIN" 150) rfl)
  c_SMALL := He.str_ok X G (c.t.d.fact 83 (f := .str "SMALL" "abcdefghijklmnopqrstuvwxyz") rfl)
  c_FIGURES := He.str_ok X G (c.t.d.fact 84 (f := .str "FIGURES" "0123456789") rfl)
  c_MARKS := He.str_ok X G (c.t.d.fact 85 (f := .str "MARKS" "()[],.:=&|~") rfl)
  g_NO := He.glo_ok X G (c.t.d.fact 86 (f := .glo "NO") rfl)
  c_NO := fun H => He.tupB_ok (x := "NO") (vs := [.str "no"]) (exAt c.more 0 rfl) H
  g_SIGNS := He.glo_ok X G (c.t.d.fact 87 (f := .glo "SIGNS") rfl)
  c_SIGNS := fun H => He.tupB_ok (x := "SIGNS") (vs := [.str "->", .str "|", .str "&"]) (exAt c.more 1 rfl) H
  g_KINDS := He.glo_ok X G (c.t.d.fact 88 (f := .glo "KINDS") rfl)
  c_KINDS := fun H => He.tupB_ok (x := "KINDS") (vs := [.str "if", .str "or", .str "and"]) (exAt c.more 2 rfl) H
  g_TOLD := He.glo_ok X G (c.t.d.fact 89 (f := .glo "TOLD") rfl)
  c_TOLD := fun H => He.tupB_ok (x := "TOLD") (vs := [.str "no", .str "same", .str "all", .str "some", .str "sort", .str "func", .str "rel", .str "mean", .str "taken", .str "shown", .str "by"]) (exAt c.more 3 rfl) H
  g_FORMS := He.glo_ok X G (c.t.d.fact 90 (f := .glo "FORMS") rfl)
  c_FORMS := fun H => He.tupB_ok (x := "FORMS") (vs := [.str "held", .str "use", .str "pair", .str "first", .str "second", .str "either", .str "other", .str "cases", .str "take", .str "give", .str "void", .str "twice", .str "each", .str "at", .str "open", .str "alike", .str "swap", .str "members", .str "unlike", .str "fold", .str "unfold"]) (exAt c.more 4 rfl) H
  g_PIECES := He.glo_ok X G (c.t.d.fact 91 (f := .glo "PIECES") rfl)
  d_PIECES := c.t.tab 0 (t := tabP) rfl
  v_PIECES := pieces_ok (exAt c.more 5 rfl)
  g_Reader := He.glo_ok X G (c.t.d.fact 92 (f := .glo "Reader") rfl)
  cl := He.cls_ok (c.t.d.fact 93 (f := .cls "Reader") rfl)
  mkR := He.mkr_ok (c.t.d.fact 94 (f := .mkr "Reader") rfl)
  n_words := He.noat_ok (c.t.d.fact 95 (f := .noat "Reader" "words") rfl)
  n_at := He.noat_ok (c.t.d.fact 96 (f := .noat "Reader" "at") rfl)
  n_length := He.noat_ok (c.t.d.fact 97 (f := .noat "Reader" "length") rfl)
  n_todo := He.noat_ok (c.t.d.fact 98 (f := .noat "Reader" "todo") rfl)
  n_made := He.noat_ok (c.t.d.fact 99 (f := .noat "Reader" "made") rfl)
  n_many := He.noat_ok (c.t.d.fact 100 (f := .noat "Reader" "many") rfl)
  z_len := He.free_ok X G (c.t.d.fact 101 (f := .free "len") rfl)
  z_sum := He.free_ok X G (c.t.d.fact 102 (f := .free "sum") rfl)
  z_max := He.free_ok X G (c.t.d.fact 103 (f := .free "max") rfl)
  z_tuple := He.free_ok X G (c.t.d.fact 104 (f := .free "tuple") rfl)
  z_all := He.free_ok X G (c.t.d.fact 105 (f := .free "all") rfl)
  z_isinstance := He.free_ok X G (c.t.d.fact 106 (f := .free "isinstance") rfl)
  z_enumerate := He.free_ok X G (c.t.d.fact 107 (f := .free "enumerate") rfl)
  z_int := He.free_ok X G (c.t.d.fact 108 (f := .free "int") rfl)
  z_str := He.free_ok X G (c.t.d.fact 109 (f := .free "str") rfl)
  z_range := He.free_ok X G (c.t.d.fact 110 (f := .free "range") rfl)
  z_repr := He.free_ok X G (c.t.d.fact 111 (f := .free "repr") rfl)
  z_ValueError := He.free_ok X G (c.t.d.fact 112 (f := .free "ValueError") rfl)
  g_BadText := He.glo_ok X G (c.t.d.fact 113 (f := .glo "BadText") rfl)
  oB := oex_ok (exAt c.more 6 rfl) (exAt c.more 7 rfl) (exAt c.more 8 rfl) (exAt c.more 9 rfl) (exAt c.more 10 rfl)
  iB := He.eqO_ok (exAt c.more 11 rfl)
  tB := of_decide_eq_true (exAt c.more 12 rfl)
  nB := He.eqO_ok (exAt c.more 13 rfl)
  xB := of_decide_eq_true (exAt c.more 14 rfl)
  xG := of_decide_eq_true (exAt c.more 15 rfl)
  g_GroundError := He.glo_ok X G (c.t.d.fact 114 (f := .glo "GroundError") rfl)
theorem kxc_of (c : Says w K) : KxC K (CB K) where
  ga := He.eqO_ok (exAt c.more 16 rfl)
  gg := He.eqO_ok (exAt c.more 17 rfl)
  exC := of_decide_eq_true (exAt c.more 18 rfl)
  hdC := (exAt c.more 19 rfl)
  ha := He.eqO_ok (exAt c.more 20 rfl)
  hn := He.eqO_ok (exAt c.more 21 rfl)
  ht := of_decide_eq_true (exAt c.more 22 rfl)
  hm := of_decide_eq_true (exAt c.more 23 rfl)
  cl := (exAt c.more 24 rfl)
theorem kxf_of (X : K.In h) (G : h.Ns mainGlobals mg) (c : Says w K) : KxF K mg where
  self := of_decide_eq_true (exAt c.more 25 rfl)
  oth := of_decide_eq_true (exAt c.more 26 rfl)
  g1 := He.glo_ok X G (c.t.d.fact 115 (f := .glo "BadGround") rfl)
  g2 := He.glo_ok X G (c.t.d.fact 116 (f := .glo "BadRoom") rfl)
  g3 := He.glo_ok X G (c.t.d.fact 117 (f := .glo "NoStep") rfl)
  g4 := He.glo_ok X G (c.t.d.fact 118 (f := .glo "NotDone") rfl)
  g5 := He.glo_ok X G (c.t.d.fact 119 (f := .glo "NoText") rfl)
  g6 := He.glo_ok X G (c.t.d.fact 120 (f := .glo "TooMany") rfl)
end
end KW

/-! part KFinal -/
set_option maxHeartbeats 0
namespace KW
open PySem PySem.Spec PyProof.Rows L2 KM SX
theorem walk : PySem.W.WalkO KH.qv KH.names (PySem.W.XL KH.qv []) KH.hk.says KH.R.toRowW (HandSHeadRun.topDef KH.R.prog 72) [] (fun f vs => PySem.call f vs) := by
  refine Att.attach_call (l := PySem.Challenge.rw_groundroom_k32_whole_room_text) (n := 63) rfl (by kernel_rfl) fun w s₀ s₁ mg mb fa o pm cd doc a vs ns G Y ho hd hcd hmg hobj hints hlen hg => ?_
  obtain ⟨K, KX, c⟩ := Y
  have T : Txt K mg w := txt_of KX G.T.g c
  have TX : KxC K (CB K) := kxc_of c
  have Fx : KxF K mg := kxf_of KX G.T.g c
  have e : (HandSHeadRun.topDef KH.R.prog 72).name = ("law" : PySem.Str) := by kernel_rfl
  have hm : mg ("law" : PySem.Str) = some (.ref fa) := by rw [← e]; exact hmg
  have efa : He.ga K "law" = fa := by
    have := T.g_law.symm.trans hm
    injection this with this
    injection this
  subst efa
  refine law_at KX G.T.g G.T.b G.T.builtins G.T.nolimit hg hobj hints (Nat.le_trans hlen (by decide)) fun base H hO hS e0 => ?_
  refine law_fn T.f_law e0 _ _ fun cdv => ?_
  exact law_body (base := base) T TX Fx cdv s₁ H (hS.imp id fun h H' => .inr h) hlen
end KW
open PySem PySem.W PySem.Calls PyProof.Rows
theorem PySem.Challenge.cw_groundroom_k32_whole_room_text_holds : PySem.Challenge.rw_groundroom_k32_whole_room_text.Holds := by
  w_on; o_law
  refine HandSHeadRun.head_any (r := KH.R) (q := KH.qv) (H := KH.hk) (ob := KH.ob) (M := 6000) (loose := KH.names) (d := HandSHeadRun.topDef KH.R.prog 72) (kwd := []) KH.ob_eq
    (by kernel_rfl) (fun s => by kernel_rfl) KH.run (by kernel_rfl) (by kernel_rfl) (by kernel_rfl) (by rfl) (by first | assumption | decide +kernel) (by decide +kernel) ⟨rfl, rfl, rfl, rfl, rfl, by decide +kernel⟩ ?hw ?hc
  case hw => w_witness2
  case hc => exact KW.walk
