import PyProof.Rows.All
import Wide.All
import OpenK.AllK
import Wide.FinOn
import HandS.ForMost
import KE.KStateDown
import Lean
import HandS.Defaults
import HandS.Codes
import HandS.IsInst
import HandS.Property
import HandS.ClsMeth
import HandS.Nested
import HandS.NestedK
import HandS.Lambda
import HandS.EndTab
import HandS.Head0
import HandS.Head1
import HandS.Head2
import HandS.HeadEnd
import HandS.HeadHook1
import HandS.HeadHook2
import HandS.HeadHook3
import HandS.HeadHook4
import HandS.HeadNt
import HandS.HeadWalk
import KE.SortData
import PyProof.TupleOfSeq
import KE.LtData
import PyProof.EnumMake
import OpenK.KMeth
import HandS.More
import KE.GoesEnum
import PyProof.Draws
import HandS.Walk
import HandS.Star
import KE.KLam
import HandS.Words
import HandS.Zip
import HandS.AnyAll
import HandS.Flow
import HandS.Style
import KE.SortLaws
import KE.SortKeyed
import HandS.TupAny
import HandS.TryOnly
import HandS.FStr
import HandS.Wide
import HandS.TupMul
import PyProof.P3Eq
import HandS.Dict
import PySem.Challenge.RW_centbook_k13_whole_renamed
set_option Elab.async false
set_option linter.all false
set_option maxRecDepth 100000
/-! ## CbText -/
set_option maxHeartbeats 4000000
/-! The text by places (printed by gen_text.py). -/
namespace Cb
open PySem PySem.Spec PyProof.Rows L2
def topS (i : Nat) : Stmt := PySem.Challenge.pw_centbook_k13_whole_renamed.main.body.getD i (.Pass ⟨0, 0, 0, 0⟩)
abbrev s_is_integer : Stmt := topS 13
abbrev N_is_integer : List Str := ["thing"]
theorem sc_is_integer : FnScope N_is_integer ["thing"] (defScope s_is_integer) := ⟨rfl, rfl, rfl, by decide +kernel, rfl, by decide +kernel, by decide +kernel⟩
abbrev s_is_name : Stmt := topS 14
abbrev N_is_name : List Str := ["thing", "char"]
theorem sc_is_name : FnScope N_is_name ["thing"] (defScope s_is_name) := ⟨rfl, rfl, rfl, by decide +kernel, rfl, by decide +kernel, by decide +kernel⟩
abbrev s_is_bool : Stmt := topS 15
abbrev N_is_bool : List Str := ["thing"]
theorem sc_is_bool : FnScope N_is_bool ["thing"] (defScope s_is_bool) := ⟨rfl, rfl, rfl, by decide +kernel, rfl, by decide +kernel, by decide +kernel⟩
abbrev s_common_divisor : Stmt := topS 16
abbrev N_common_divisor : List Str := ["one", "other"]
theorem sc_common_divisor : FnScope N_common_divisor ["one", "other"] (defScope s_common_divisor) := ⟨rfl, rfl, rfl, by decide +kernel, rfl, by decide +kernel, by decide +kernel⟩
abbrev s_is_row : Stmt := topS 17
abbrev N_is_row : List Str := ["thing", "checks", "check", "item"]
theorem sc_is_row : FnScope N_is_row ["thing", "checks"] (defScope s_is_row) := ⟨rfl, rfl, rfl, by decide +kernel, rfl, by decide +kernel, by decide +kernel⟩
abbrev s_is_list_of : Stmt := topS 18
abbrev N_is_list_of : List Str := ["thing", "check", "item"]
theorem sc_is_list_of : FnScope N_is_list_of ["thing", "check"] (defScope s_is_list_of) := ⟨rfl, rfl, rfl, by decide +kernel, rfl, by decide +kernel, by decide +kernel⟩
abbrev s_is_fraction : Stmt := topS 19
abbrev N_is_fraction : List Str := ["thing", "over", "under"]
theorem sc_is_fraction : FnScope N_is_fraction ["thing"] (defScope s_is_fraction) := ⟨rfl, rfl, rfl, by decide +kernel, rfl, by decide +kernel, by decide +kernel⟩
abbrev s_is_line_shape : Stmt := topS 20
abbrev N_is_line_shape : List Str := ["thing"]
theorem sc_is_line_shape : FnScope N_is_line_shape ["thing"] (defScope s_is_line_shape) := ⟨rfl, rfl, rfl, by decide +kernel, rfl, by decide +kernel, by decide +kernel⟩
abbrev s_is_section_shape : Stmt := topS 21
abbrev N_is_section_shape : List Str := ["thing"]
theorem sc_is_section_shape : FnScope N_is_section_shape ["thing"] (defScope s_is_section_shape) := ⟨rfl, rfl, rfl, by decide +kernel, rfl, by decide +kernel, by decide +kernel⟩
abbrev s_is_day_shape : Stmt := topS 22
abbrev N_is_day_shape : List Str := ["thing"]
theorem sc_is_day_shape : FnScope N_is_day_shape ["thing"] (defScope s_is_day_shape) := ⟨rfl, rfl, rfl, by decide +kernel, rfl, by decide +kernel, by decide +kernel⟩
abbrev s_is_sheet_shape : Stmt := topS 23
abbrev N_is_sheet_shape : List Str := ["thing", "lines", "sections", "days"]
theorem sc_is_sheet_shape : FnScope N_is_sheet_shape ["thing"] (defScope s_is_sheet_shape) := ⟨rfl, rfl, rfl, by decide +kernel, rfl, by decide +kernel, by decide +kernel⟩
abbrev s_require : Stmt := topS 24
abbrev N_require : List Str := ["condition", "word", "at"]
theorem sc_require : FnScope N_require ["condition", "word", "at"] (defScope s_require) := ⟨rfl, rfl, rfl, by decide +kernel, rfl, by decide +kernel, by decide +kernel⟩
abbrev s_check_lines : Stmt := topS 25
abbrev N_check_lines : List Str := ["lines", "k", "line"]
theorem sc_check_lines : FnScope N_check_lines ["lines"] (defScope s_check_lines) := ⟨rfl, rfl, rfl, by decide +kernel, rfl, by decide +kernel, by decide +kernel⟩
abbrev s_is_ascending : Stmt := topS 26
abbrev N_is_ascending : List Str := ["items", "one", "other"]
theorem sc_is_ascending : FnScope N_is_ascending ["items"] (defScope s_is_ascending) := ⟨rfl, rfl, rfl, by decide +kernel, rfl, by decide +kernel, by decide +kernel⟩
abbrev s_crosses : Stmt := topS 27
abbrev N_crosses : List Str := ["one", "other", "common", "name"]
theorem sc_crosses : FnScope N_crosses ["one", "other"] (defScope s_crosses) := ⟨rfl, rfl, rfl, by decide +kernel, rfl, by decide +kernel, by decide +kernel⟩
abbrev s_check_section : Stmt := topS 28
abbrev N_check_section : List Str := ["names", "sections", "at", "section", "rising", "name", "earlier"]
theorem sc_check_section : FnScope N_check_section ["names", "sections", "at"] (defScope s_check_section) := ⟨rfl, rfl, rfl, by decide +kernel, rfl, by decide +kernel, by decide +kernel⟩
abbrev s_check_day : Stmt := topS 29
abbrev N_check_day : List Str := ["lines", "charges", "at", "i", "charge"]
theorem sc_check_day : FnScope N_check_day ["lines", "charges", "at"] (defScope s_check_day) := ⟨rfl, rfl, rfl, by decide +kernel, rfl, by decide +kernel, by decide +kernel⟩
abbrev s_check_sheet : Stmt := topS 30
abbrev N_check_sheet : List Str := ["thing", "lines", "sections", "days", "names", "s", "d", "charges", "line"]
theorem sc_check_sheet : FnScope N_check_sheet ["thing"] (defScope s_check_sheet) := ⟨rfl, rfl, rfl, by decide +kernel, rfl, by decide +kernel, by decide +kernel⟩
abbrev s_is_sheet : Stmt := topS 31
abbrev N_is_sheet : List Str := ["thing"]
theorem sc_is_sheet : FnScope N_is_sheet ["thing"] (defScope s_is_sheet) := ⟨rfl, rfl, rfl, by decide +kernel, rfl, by decide +kernel, by decide +kernel⟩
abbrev s_number_or_none : Stmt := topS 36
abbrev N_number_or_none : List Str := ["word", "char"]
theorem sc_number_or_none : FnScope N_number_or_none ["word"] (defScope s_number_or_none) := ⟨rfl, rfl, rfl, by decide +kernel, rfl, by decide +kernel, by decide +kernel⟩
abbrev s_integer_or_none : Stmt := topS 37
abbrev N_integer_or_none : List Str := ["word", "found"]
theorem sc_integer_or_none : FnScope N_integer_or_none ["word"] (defScope s_integer_or_none) := ⟨rfl, rfl, rfl, by decide +kernel, rfl, by decide +kernel, by decide +kernel⟩
abbrev s_fraction_or_none : Stmt := topS 38
abbrev N_fraction_or_none : List Str := ["word", "first", "slash", "rest", "over", "under", "found"]
theorem sc_fraction_or_none : FnScope N_fraction_or_none ["word"] (defScope s_fraction_or_none) := ⟨rfl, rfl, rfl, by decide +kernel, rfl, by decide +kernel, by decide +kernel⟩
abbrev s_charge_or_none : Stmt := topS 39
abbrev N_charge_or_none : List Str := ["word", "found"]
theorem sc_charge_or_none : FnScope N_charge_or_none ["word"] (defScope s_charge_or_none) := ⟨rfl, rfl, rfl, by decide +kernel, rfl, by decide +kernel, by decide +kernel⟩
abbrev s_RowReader_init : Stmt := inClass (topS 41) 0
abbrev N_RowReader_init : List Str := ["self", "row", "words"]
theorem sc_RowReader_init : FnScope N_RowReader_init ["self", "row", "words"] (defScope s_RowReader_init) := ⟨rfl, rfl, rfl, by decide +kernel, rfl, by decide +kernel, by decide +kernel⟩
abbrev s_RowReader_require : Stmt := inClass (topS 41) 1
abbrev N_RowReader_require : List Str := ["self", "condition"]
theorem sc_RowReader_require : FnScope N_RowReader_require ["self", "condition"] (defScope s_RowReader_require) := ⟨rfl, rfl, rfl, by decide +kernel, rfl, by decide +kernel, by decide +kernel⟩
abbrev s_RowReader_has_more : Stmt := inClass (topS 41) 2
abbrev N_RowReader_has_more : List Str := ["self"]
theorem sc_RowReader_has_more : FnScope N_RowReader_has_more ["self"] (defScope s_RowReader_has_more) := ⟨rfl, rfl, rfl, by decide +kernel, rfl, by decide +kernel, by decide +kernel⟩
abbrev s_RowReader_next_word : Stmt := inClass (topS 41) 3
abbrev N_RowReader_next_word : List Str := ["self", "parse", "found"]
theorem sc_RowReader_next_word : FnScope N_RowReader_next_word ["self", "parse"] (defScope s_RowReader_next_word) := ⟨rfl, rfl, rfl, by decide +kernel, rfl, by decide +kernel, by decide +kernel⟩
abbrev s_RowReader_finish : Stmt := inClass (topS 41) 4
abbrev N_RowReader_finish : List Str := ["self"]
theorem sc_RowReader_finish : FnScope N_RowReader_finish ["self"] (defScope s_RowReader_finish) := ⟨rfl, rfl, rfl, by decide +kernel, rfl, by decide +kernel, by decide +kernel⟩
abbrev s_name_after : Stmt := topS 42
abbrev N_name_after : List Str := ["names", "parse"]
theorem sc_name_after : FnScope N_name_after ["names"] (defScope s_name_after) := ⟨rfl, rfl, rfl, by decide +kernel, rfl, by decide +kernel, by decide +kernel⟩
abbrev s_line_read : Stmt := topS 43
abbrev N_line_read : List Str := ["reader", "lines", "goes_on", "name", "exact", "cents", "line"]
theorem sc_line_read : FnScope N_line_read ["reader", "lines", "goes_on"] (defScope s_line_read) := ⟨rfl, rfl, rfl, by decide +kernel, rfl, by decide +kernel, by decide +kernel⟩
abbrev s_section_read : Stmt := topS 44
abbrev N_section_read : List Str := ["reader", "lines", "sections", "names", "found", "after", "section", "line", "earlier"]
theorem sc_section_read : FnScope N_section_read ["reader", "lines", "sections"] (defScope s_section_read) := ⟨rfl, rfl, rfl, by decide +kernel, rfl, by decide +kernel, by decide +kernel⟩
abbrev s_day_read : Stmt := topS 45
abbrev N_day_read : List Str := ["reader", "lines", "found", "line", "charge"]
theorem sc_day_read : FnScope N_day_read ["reader", "lines"] (defScope s_day_read) := ⟨rfl, rfl, rfl, by decide +kernel, rfl, by decide +kernel, by decide +kernel⟩
abbrev s_sheet_read : Stmt := topS 46
abbrev N_sheet_read : List Str := ["text", "lines", "sections", "days", "rank", "row", "content", "reader", "word"]
theorem sc_sheet_read : FnScope N_sheet_read ["text"] (defScope s_sheet_read) := ⟨rfl, rfl, rfl, by decide +kernel, rfl, by decide +kernel, by decide +kernel⟩
abbrev s_integer_text : Stmt := topS 49
abbrev N_integer_text : List Str := ["number", "base", "text"]
theorem sc_integer_text : FnScope N_integer_text ["number"] (defScope s_integer_text) := ⟨rfl, rfl, rfl, by decide +kernel, rfl, by decide +kernel, by decide +kernel⟩
abbrev s_fraction_text : Stmt := topS 50
abbrev N_fraction_text : List Str := ["fraction", "over", "under"]
theorem sc_fraction_text : FnScope N_fraction_text ["fraction"] (defScope s_fraction_text) := ⟨rfl, rfl, rfl, by decide +kernel, rfl, by decide +kernel, by decide +kernel⟩
abbrev s_line_text : Stmt := topS 51
abbrev N_line_text : List Str := ["line", "name", "exact", "cents", "goes_on", "word"]
theorem sc_line_text : FnScope N_line_text ["line"] (defScope s_line_text) := ⟨rfl, rfl, rfl, by decide +kernel, rfl, by decide +kernel, by decide +kernel⟩
abbrev s_sheet_text : Stmt := topS 52
abbrev N_sheet_text : List Str := ["sheet", "lines", "sections", "days", "rows", "line", "section", "charges", "charge"]
theorem sc_sheet_text : FnScope N_sheet_text ["sheet"] (defScope s_sheet_text) := ⟨rfl, rfl, rfl, by decide +kernel, rfl, by decide +kernel, by decide +kernel⟩
abbrev s_Amount_init : Stmt := inClass (topS 54) 1
abbrev N_Amount_init : List Str := ["self", "over", "under", "divisor", "sign"]
theorem sc_Amount_init : FnScope N_Amount_init ["self", "over", "under"] (defScope s_Amount_init) := ⟨rfl, rfl, rfl, by decide +kernel, rfl, by decide +kernel, by decide +kernel⟩
abbrev s_Amount_pair : Stmt := inClass (topS 54) 3
abbrev N_Amount_pair : List Str := ["self"]
theorem sc_Amount_pair : FnScope N_Amount_pair ["self"] (defScope s_Amount_pair) := ⟨rfl, rfl, rfl, by decide +kernel, rfl, by decide +kernel, by decide +kernel⟩
abbrev s_Amount_add : Stmt := inClass (topS 54) 7
abbrev N_Amount_add : List Str := ["self", "other", "found", "over"]
theorem sc_Amount_add : FnScope N_Amount_add ["self", "other"] (defScope s_Amount_add) := ⟨rfl, rfl, rfl, by decide +kernel, rfl, by decide +kernel, by decide +kernel⟩
abbrev s_as_amount : Stmt := topS 55
abbrev N_as_amount : List Str := ["value"]
theorem sc_as_amount : FnScope N_as_amount ["value"] (defScope s_as_amount) := ⟨rfl, rfl, rfl, by decide +kernel, rfl, by decide +kernel, by decide +kernel⟩
abbrev s_fresh : Stmt := topS 57
abbrev N_fresh : List Str := ["lines", "name"]
theorem sc_fresh : FnScope N_fresh ["lines"] (defScope s_fresh) := ⟨rfl, rfl, rfl, by decide +kernel, rfl, by decide +kernel, by decide +kernel⟩
abbrev s_exact_after : Stmt := topS 58
abbrev N_exact_after : List Str := ["exact", "charges", "found", "charge"]
theorem sc_exact_after : FnScope N_exact_after ["exact", "charges"] (defScope s_exact_after) := ⟨rfl, rfl, rfl, by decide +kernel, rfl, by decide +kernel, by decide +kernel⟩
abbrev s_state_after : Stmt := topS 59
abbrev N_state_after : List Str := ["sheet", "booking", "lines", "sections", "days", "found", "i", "name", "exact", "cents", "goes_on", "booked", "numbers", "charges"]
theorem sc_state_after : FnScope N_state_after ["sheet", "booking"] (defScope s_state_after) := ⟨rfl, rfl, rfl, by decide +kernel, rfl, by decide +kernel, by decide +kernel⟩
abbrev s_part : Stmt := topS 60
abbrev N_part : List Str := ["sheet", "first", "count", "lines", "sections", "days"]
theorem sc_part : FnScope N_part ["sheet", "first", "count"] (defScope s_part) := ⟨rfl, rfl, rfl, by decide +kernel, rfl, by decide +kernel, by decide +kernel⟩
abbrev s_lets_sheet : Stmt := topS 62
abbrev N_lets_sheet : List Str := ["thing"]
theorem sc_lets_sheet : FnScope N_lets_sheet ["thing"] (defScope s_lets_sheet) := ⟨rfl, rfl, rfl, by decide +kernel, rfl, by decide +kernel, by decide +kernel⟩
abbrev s_L_reader : Stmt := topS 64
abbrev N_L_reader : List Str := ["_law_script"]
theorem sc_L_reader : FnScope N_L_reader ["_law_script"] (defScope s_L_reader) := ⟨rfl, rfl, rfl, by decide +kernel, rfl, by decide +kernel, by decide +kernel⟩
abbrev s_L_draw : Stmt := topS 65
abbrev N_L_draw : List Str := ["_law_reader_here", "_law_many", "_law_digit", "_law_spot", "_law_cell", "_law_mixed"]
theorem sc_L_draw : FnScope N_L_draw ["_law_reader_here", "_law_many"] (defScope s_L_draw) := ⟨rfl, rfl, rfl, by decide +kernel, rfl, by decide +kernel, by decide +kernel⟩
abbrev s_L_divisor : Stmt := topS 66
abbrev N_L_divisor : List Str := ["_law_one", "_law_other"]
theorem sc_L_divisor : FnScope N_L_divisor ["_law_one", "_law_other"] (defScope s_L_divisor) := ⟨rfl, rfl, rfl, by decide +kernel, rfl, by decide +kernel, by decide +kernel⟩
abbrev s_L_lowest : Stmt := topS 67
abbrev N_L_lowest : List Str := ["_law_over", "_law_under", "_law_both"]
theorem sc_L_lowest : FnScope N_L_lowest ["_law_over", "_law_under"] (defScope s_L_lowest) := ⟨rfl, rfl, rfl, by decide +kernel, rfl, by decide +kernel, by decide +kernel⟩
abbrev s_L_floor : Stmt := topS 68
abbrev N_L_floor : List Str := ["_law_ratio"]
theorem sc_L_floor : FnScope N_L_floor ["_law_ratio"] (defScope s_L_floor) := ⟨rfl, rfl, rfl, by decide +kernel, rfl, by decide +kernel, by decide +kernel⟩
abbrev s_L_some_ratio : Stmt := topS 69
abbrev N_L_some_ratio : List Str := ["_law_reader_here", "_law_most", "_law_low"]
theorem sc_L_some_ratio : FnScope N_L_some_ratio ["_law_reader_here", "_law_most"] (defScope s_L_some_ratio) := ⟨rfl, rfl, rfl, by decide +kernel, rfl, by decide +kernel, by decide +kernel⟩
abbrev s_L_crosses : Stmt := topS 70
abbrev N_L_crosses : List Str := ["_law_one", "_law_other", "_law_both", "_law_head"]
theorem sc_L_crosses : FnScope N_L_crosses ["_law_one", "_law_other"] (defScope s_L_crosses) := ⟨rfl, rfl, rfl, by decide +kernel, rfl, by decide +kernel, by decide +kernel⟩
abbrev s_L_heads : Stmt := topS 71
abbrev N_L_heads : List Str := ["_law_reader_here", "_law_many", "_law_pool", "_law_found", "_law_k"]
theorem sc_L_heads : FnScope N_L_heads ["_law_reader_here", "_law_many"] (defScope s_L_heads) := ⟨rfl, rfl, rfl, by decide +kernel, rfl, by decide +kernel, by decide +kernel⟩
abbrev s_L_random_state : Stmt := topS 72
abbrev N_L_random_state : List Str := ["_law_reader_here", "_law_most", "_law_found", "_law_head", "_law_ratio", "_law_booked"]
theorem sc_L_random_state : FnScope N_L_random_state ["_law_reader_here", "_law_most"] (defScope s_L_random_state) := ⟨rfl, rfl, rfl, by decide +kernel, rfl, by decide +kernel, by decide +kernel⟩
abbrev s_L_random_sections : Stmt := topS 73
abbrev N_L_random_sections : List Str := ["_law_reader_here", "_law_heads_here", "_law_most", "_law_found", "_law_k", "_law_base", "_law_piece", "_law_taken", "_law_one", "_law_head"]
theorem sc_L_random_sections : FnScope N_L_random_sections ["_law_reader_here", "_law_heads_here", "_law_most"] (defScope s_L_random_sections) := ⟨rfl, rfl, rfl, by decide +kernel, rfl, by decide +kernel, by decide +kernel⟩
abbrev s_L_random_days : Stmt := topS 74
abbrev N_L_random_days : List Str := ["_law_reader_here", "_law_rows", "_law_many", "_law_found", "_law_k", "_law_charges", "_law_entry", "_law_ratio"]
theorem sc_L_random_days : FnScope N_L_random_days ["_law_reader_here", "_law_rows", "_law_many"] (defScope s_L_random_days) := ⟨rfl, rfl, rfl, by decide +kernel, rfl, by decide +kernel, by decide +kernel⟩
abbrev s_L_random_sheet : Stmt := topS 75
abbrev N_L_random_sheet : List Str := ["_law_reader_here", "_law_most", "_law_days_most", "_law_rows", "_law_parts", "_law_entry"]
theorem sc_L_random_sheet : FnScope N_L_random_sheet ["_law_reader_here", "_law_most", "_law_days_most"] (defScope s_L_random_sheet) := ⟨rfl, rfl, rfl, by decide +kernel, rfl, by decide +kernel, by decide +kernel⟩
abbrev s_L_fixed_sheets : Stmt := topS 76
abbrev N_L_fixed_sheets : List Str := ["_law_two", "_law_heads_here", "_law_six", "_law_far", "_law_found", "_law_k", "_law_head"]
theorem sc_L_fixed_sheets : FnScope N_L_fixed_sheets [] (defScope s_L_fixed_sheets) := ⟨rfl, rfl, rfl, by decide +kernel, rfl, by decide +kernel, by decide +kernel⟩
abbrev s_L_random_booking : Stmt := topS 77
abbrev N_L_random_booking : List Str := ["_law_reader_here", "_law_good", "_law_rows", "_law_parts", "_law_days_now", "_law_found", "_law_one", "_law_ratio"]
theorem sc_L_random_booking : FnScope N_L_random_booking ["_law_reader_here", "_law_good"] (defScope s_L_random_booking) := ⟨rfl, rfl, rfl, by decide +kernel, rfl, by decide +kernel, by decide +kernel⟩
abbrev s_L_fresh_of : Stmt := topS 78
abbrev N_L_fresh_of : List Str := ["_law_heads_here", "_law_a", "_law_b", "_law_c", "_law_d", "_law_e", "_law_f"]
theorem sc_L_fresh_of : FnScope N_L_fresh_of ["_law_heads_here"] (defScope s_L_fresh_of) := ⟨rfl, rfl, rfl, by decide +kernel, rfl, by decide +kernel, by decide +kernel⟩
abbrev s_L_moved : Stmt := topS 79
abbrev N_L_moved : List Str := ["_law_good", "_law_names", "_law_rows", "_law_places", "_law_pieces", "_law_days_now", "_law_entry", "_law_head", "_law_k", "_law_one", "_law_piece"]
theorem sc_L_moved : FnScope N_L_moved ["_law_good", "_law_names"] (defScope s_L_moved) := ⟨rfl, rfl, rfl, by decide +kernel, rfl, by decide +kernel, by decide +kernel⟩
abbrev s_L_check_moved : Stmt := topS 80
abbrev N_L_check_moved : List Str := ["_law_good", "_law_names", "_law_booked", "_law_other", "_law_places", "_law_moved_here", "_law_last", "_law_d", "_law_heads_here", "_law_made", "_law_entry", "_law_one", "_law_head", "_law_k"]
theorem sc_L_check_moved : FnScope N_L_check_moved ["_law_good", "_law_names", "_law_booked"] (defScope s_L_check_moved) := ⟨rfl, rfl, rfl, by decide +kernel, rfl, by decide +kernel, by decide +kernel⟩
abbrev s_L_check_text : Stmt := topS 81
abbrev N_L_check_text : List Str := ["_law_good", "_law_names", "_law_other", "_law_lines", "_law_row_now", "_law_words", "_law_head"]
theorem sc_L_check_text : FnScope N_L_check_text ["_law_good", "_law_names"] (defScope s_L_check_text) := ⟨rfl, rfl, rfl, by decide +kernel, rfl, by decide +kernel, by decide +kernel⟩
abbrev s_law : Stmt := topS 82
abbrev N_law : List Str := ["_law_script", "_law_reader_here", "_law_cases", "_law_k", "_law_good", "_law_heads_here", "_law_rising", "_law_pool", "_law_mixed", "_law_head", "_law_booked", "_law_entry"]
theorem sc_law : FnScope N_law ["_law_script"] (defScope s_law) := ⟨rfl, rfl, rfl, by decide +kernel, rfl, by decide +kernel, by decide +kernel⟩
end Cb
/-! ## CbHead -/
set_option maxHeartbeats 0
/-! The head: what the top has written, read by a Hook. -/
namespace Cb
open PySem PySem.Spec PyProof.Rows L2
/-- the getter of a property of a class -/
def getterAt (C f : Str) (K : PySem.W.Frag) : Addr := match PySem.W.recIn K (He.ma K (He.ga K C) f) "property" with
  | some (.ref g :: _) => g
  | _ => 0
def zeroAt (K : PySem.W.Frag) : Addr := match PySem.W.findCls K (.ref (He.ga K "Amount")) (.type "type") "ZERO" with
  | some (.val (.ref a)) => a
  | _ => 0
def d_is_integer : He5.DefA := ⟨fun K => He.ga K "is_integer", "is_integer", "is_integer", defArgs s_is_integer, defBody s_is_integer, defScope s_is_integer, [], []⟩
def d_is_name : He5.DefA := ⟨fun K => He.ga K "is_name", "is_name", "is_name", defArgs s_is_name, defBody s_is_name, defScope s_is_name, [], []⟩
def d_is_bool : He5.DefA := ⟨fun K => He.ga K "is_bool", "is_bool", "is_bool", defArgs s_is_bool, defBody s_is_bool, defScope s_is_bool, [], []⟩
def d_common_divisor : He5.DefA := ⟨fun K => He.ga K "common_divisor", "common_divisor", "common_divisor", defArgs s_common_divisor, defBody s_common_divisor, defScope s_common_divisor, [], []⟩
def d_is_row : He5.DefA := ⟨fun K => He.ga K "is_row", "is_row", "is_row", defArgs s_is_row, defBody s_is_row, defScope s_is_row, [], []⟩
def d_is_list_of : He5.DefA := ⟨fun K => He.ga K "is_list_of", "is_list_of", "is_list_of", defArgs s_is_list_of, defBody s_is_list_of, defScope s_is_list_of, [], []⟩
def d_is_fraction : He5.DefA := ⟨fun K => He.ga K "is_fraction", "is_fraction", "is_fraction", defArgs s_is_fraction, defBody s_is_fraction, defScope s_is_fraction, [], []⟩
def d_is_line_shape : He5.DefA := ⟨fun K => He.ga K "is_line_shape", "is_line_shape", "is_line_shape", defArgs s_is_line_shape, defBody s_is_line_shape, defScope s_is_line_shape, [], []⟩
def d_is_section_shape : He5.DefA := ⟨fun K => He.ga K "is_section_shape", "is_section_shape", "is_section_shape", defArgs s_is_section_shape, defBody s_is_section_shape, defScope s_is_section_shape, [], []⟩
def d_is_day_shape : He5.DefA := ⟨fun K => He.ga K "is_day_shape", "is_day_shape", "is_day_shape", defArgs s_is_day_shape, defBody s_is_day_shape, defScope s_is_day_shape, [], []⟩
def d_is_sheet_shape : He5.DefA := ⟨fun K => He.ga K "is_sheet_shape", "is_sheet_shape", "is_sheet_shape", defArgs s_is_sheet_shape, defBody s_is_sheet_shape, defScope s_is_sheet_shape, [], []⟩
def d_require : He5.DefA := ⟨fun K => He.ga K "require", "require", "require", defArgs s_require, defBody s_require, defScope s_require, [], []⟩
def d_check_lines : He5.DefA := ⟨fun K => He.ga K "check_lines", "check_lines", "check_lines", defArgs s_check_lines, defBody s_check_lines, defScope s_check_lines, [], []⟩
def d_is_ascending : He5.DefA := ⟨fun K => He.ga K "is_ascending", "is_ascending", "is_ascending", defArgs s_is_ascending, defBody s_is_ascending, defScope s_is_ascending, [], []⟩
def d_crosses : He5.DefA := ⟨fun K => He.ga K "crosses", "crosses", "crosses", defArgs s_crosses, defBody s_crosses, defScope s_crosses, [], []⟩
def d_check_section : He5.DefA := ⟨fun K => He.ga K "check_section", "check_section", "check_section", defArgs s_check_section, defBody s_check_section, defScope s_check_section, [], []⟩
def d_check_day : He5.DefA := ⟨fun K => He.ga K "check_day", "check_day", "check_day", defArgs s_check_day, defBody s_check_day, defScope s_check_day, [], []⟩
def d_check_sheet : He5.DefA := ⟨fun K => He.ga K "check_sheet", "check_sheet", "check_sheet", defArgs s_check_sheet, defBody s_check_sheet, defScope s_check_sheet, [], []⟩
def d_is_sheet : He5.DefA := ⟨fun K => He.ga K "is_sheet", "is_sheet", "is_sheet", defArgs s_is_sheet, defBody s_is_sheet, defScope s_is_sheet, [], []⟩
def d_number_or_none : He5.DefA := ⟨fun K => He.ga K "number_or_none", "number_or_none", "number_or_none", defArgs s_number_or_none, defBody s_number_or_none, defScope s_number_or_none, [], []⟩
def d_integer_or_none : He5.DefA := ⟨fun K => He.ga K "integer_or_none", "integer_or_none", "integer_or_none", defArgs s_integer_or_none, defBody s_integer_or_none, defScope s_integer_or_none, [], []⟩
def d_fraction_or_none : He5.DefA := ⟨fun K => He.ga K "fraction_or_none", "fraction_or_none", "fraction_or_none", defArgs s_fraction_or_none, defBody s_fraction_or_none, defScope s_fraction_or_none, [], []⟩
def d_charge_or_none : He5.DefA := ⟨fun K => He.ga K "charge_or_none", "charge_or_none", "charge_or_none", defArgs s_charge_or_none, defBody s_charge_or_none, defScope s_charge_or_none, [], []⟩
def d_RowReader_init : He5.DefA := ⟨fun K => He.ma K (He.ga K "RowReader") "__init__", "__init__", "RowReader.__init__", defArgs s_RowReader_init, defBody s_RowReader_init, defScope s_RowReader_init, [], []⟩
def d_RowReader_require : He5.DefA := ⟨fun K => He.ma K (He.ga K "RowReader") "require", "require", "RowReader.require", defArgs s_RowReader_require, defBody s_RowReader_require, defScope s_RowReader_require, [], []⟩
def d_RowReader_has_more : He5.DefA := ⟨fun K => He.ma K (He.ga K "RowReader") "has_more", "has_more", "RowReader.has_more", defArgs s_RowReader_has_more, defBody s_RowReader_has_more, defScope s_RowReader_has_more, [], []⟩
def d_RowReader_next_word : He5.DefA := ⟨fun K => He.ma K (He.ga K "RowReader") "next_word", "next_word", "RowReader.next_word", defArgs s_RowReader_next_word, defBody s_RowReader_next_word, defScope s_RowReader_next_word, [], []⟩
def d_RowReader_finish : He5.DefA := ⟨fun K => He.ma K (He.ga K "RowReader") "finish", "finish", "RowReader.finish", defArgs s_RowReader_finish, defBody s_RowReader_finish, defScope s_RowReader_finish, [], []⟩
def d_name_after : He5.DefA := ⟨fun K => He.ga K "name_after", "name_after", "name_after", defArgs s_name_after, defBody s_name_after, defScope s_name_after, [], []⟩
def d_line_read : He5.DefA := ⟨fun K => He.ga K "line_read", "line_read", "line_read", defArgs s_line_read, defBody s_line_read, defScope s_line_read, [], []⟩
def d_section_read : He5.DefA := ⟨fun K => He.ga K "section_read", "section_read", "section_read", defArgs s_section_read, defBody s_section_read, defScope s_section_read, [], []⟩
def d_day_read : He5.DefA := ⟨fun K => He.ga K "day_read", "day_read", "day_read", defArgs s_day_read, defBody s_day_read, defScope s_day_read, [], []⟩
def d_sheet_read : He5.DefA := ⟨fun K => He.ga K "sheet_read", "sheet_read", "sheet_read", defArgs s_sheet_read, defBody s_sheet_read, defScope s_sheet_read, [], []⟩
def d_integer_text : He5.DefA := ⟨fun K => He.ga K "integer_text", "integer_text", "integer_text", defArgs s_integer_text, defBody s_integer_text, defScope s_integer_text, [], []⟩
def d_fraction_text : He5.DefA := ⟨fun K => He.ga K "fraction_text", "fraction_text", "fraction_text", defArgs s_fraction_text, defBody s_fraction_text, defScope s_fraction_text, [], []⟩
def d_line_text : He5.DefA := ⟨fun K => He.ga K "line_text", "line_text", "line_text", defArgs s_line_text, defBody s_line_text, defScope s_line_text, [], []⟩
def d_sheet_text : He5.DefA := ⟨fun K => He.ga K "sheet_text", "sheet_text", "sheet_text", defArgs s_sheet_text, defBody s_sheet_text, defScope s_sheet_text, [], []⟩
def d_Amount_init : He5.DefA := ⟨fun K => He.ma K (He.ga K "Amount") "__init__", "__init__", "Amount.__init__", defArgs s_Amount_init, defBody s_Amount_init, defScope s_Amount_init, [.int 1], []⟩
def d_Amount_pair : He5.DefA := ⟨getterAt "Amount" "pair", "pair", "Amount.pair", defArgs s_Amount_pair, defBody s_Amount_pair, defScope s_Amount_pair, [], []⟩
def d_Amount_add : He5.DefA := ⟨fun K => He.ma K (He.ga K "Amount") "__add__", "__add__", "Amount.__add__", defArgs s_Amount_add, defBody s_Amount_add, defScope s_Amount_add, [], []⟩
def d_as_amount : He5.DefA := ⟨fun K => He.ga K "as_amount", "as_amount", "as_amount", defArgs s_as_amount, defBody s_as_amount, defScope s_as_amount, [], []⟩
def d_fresh : He5.DefA := ⟨fun K => He.ga K "fresh", "fresh", "fresh", defArgs s_fresh, defBody s_fresh, defScope s_fresh, [], []⟩
def d_exact_after : He5.DefA := ⟨fun K => He.ga K "exact_after", "exact_after", "exact_after", defArgs s_exact_after, defBody s_exact_after, defScope s_exact_after, [], []⟩
def d_state_after : He5.DefA := ⟨fun K => He.ga K "state_after", "state_after", "state_after", defArgs s_state_after, defBody s_state_after, defScope s_state_after, [], []⟩
def d_part : He5.DefA := ⟨fun K => He.ga K "part", "part", "part", defArgs s_part, defBody s_part, defScope s_part, [], []⟩
def d_lets_sheet : He5.DefA := ⟨fun K => He.ga K "lets_sheet", "lets_sheet", "lets_sheet", defArgs s_lets_sheet, defBody s_lets_sheet, defScope s_lets_sheet, [], []⟩
def d_L_reader : He5.DefA := ⟨fun K => He.ga K "_law_reader", "_law_reader", "_law_reader", defArgs s_L_reader, defBody s_L_reader, defScope s_L_reader, [], []⟩
def d_L_draw : He5.DefA := ⟨fun K => He.ga K "_law_draw", "_law_draw", "_law_draw", defArgs s_L_draw, defBody s_L_draw, defScope s_L_draw, [], []⟩
def d_L_divisor : He5.DefA := ⟨fun K => He.ga K "_law_divisor", "_law_divisor", "_law_divisor", defArgs s_L_divisor, defBody s_L_divisor, defScope s_L_divisor, [], []⟩
def d_L_lowest : He5.DefA := ⟨fun K => He.ga K "_law_lowest", "_law_lowest", "_law_lowest", defArgs s_L_lowest, defBody s_L_lowest, defScope s_L_lowest, [], []⟩
def d_L_floor : He5.DefA := ⟨fun K => He.ga K "_law_floor", "_law_floor", "_law_floor", defArgs s_L_floor, defBody s_L_floor, defScope s_L_floor, [], []⟩
def d_L_some_ratio : He5.DefA := ⟨fun K => He.ga K "_law_some_ratio", "_law_some_ratio", "_law_some_ratio", defArgs s_L_some_ratio, defBody s_L_some_ratio, defScope s_L_some_ratio, [], []⟩
def d_L_crosses : He5.DefA := ⟨fun K => He.ga K "_law_crosses", "_law_crosses", "_law_crosses", defArgs s_L_crosses, defBody s_L_crosses, defScope s_L_crosses, [], []⟩
def d_L_heads : He5.DefA := ⟨fun K => He.ga K "_law_heads", "_law_heads", "_law_heads", defArgs s_L_heads, defBody s_L_heads, defScope s_L_heads, [], []⟩
def d_L_random_state : He5.DefA := ⟨fun K => He.ga K "_law_random_state", "_law_random_state", "_law_random_state", defArgs s_L_random_state, defBody s_L_random_state, defScope s_L_random_state, [], []⟩
def d_L_random_sections : He5.DefA := ⟨fun K => He.ga K "_law_random_sections", "_law_random_sections", "_law_random_sections", defArgs s_L_random_sections, defBody s_L_random_sections, defScope s_L_random_sections, [], []⟩
def d_L_random_days : He5.DefA := ⟨fun K => He.ga K "_law_random_days", "_law_random_days", "_law_random_days", defArgs s_L_random_days, defBody s_L_random_days, defScope s_L_random_days, [], []⟩
def d_L_random_sheet : He5.DefA := ⟨fun K => He.ga K "_law_random_sheet", "_law_random_sheet", "_law_random_sheet", defArgs s_L_random_sheet, defBody s_L_random_sheet, defScope s_L_random_sheet, [], []⟩
def d_L_fixed_sheets : He5.DefA := ⟨fun K => He.ga K "_law_fixed_sheets", "_law_fixed_sheets", "_law_fixed_sheets", defArgs s_L_fixed_sheets, defBody s_L_fixed_sheets, defScope s_L_fixed_sheets, [], []⟩
def d_L_random_booking : He5.DefA := ⟨fun K => He.ga K "_law_random_booking", "_law_random_booking", "_law_random_booking", defArgs s_L_random_booking, defBody s_L_random_booking, defScope s_L_random_booking, [], []⟩
def d_L_fresh_of : He5.DefA := ⟨fun K => He.ga K "_law_fresh_of", "_law_fresh_of", "_law_fresh_of", defArgs s_L_fresh_of, defBody s_L_fresh_of, defScope s_L_fresh_of, [], []⟩
def d_L_moved : He5.DefA := ⟨fun K => He.ga K "_law_moved", "_law_moved", "_law_moved", defArgs s_L_moved, defBody s_L_moved, defScope s_L_moved, [], []⟩
def d_L_check_moved : He5.DefA := ⟨fun K => He.ga K "_law_check_moved", "_law_check_moved", "_law_check_moved", defArgs s_L_check_moved, defBody s_L_check_moved, defScope s_L_check_moved, [], []⟩
def d_L_check_text : He5.DefA := ⟨fun K => He.ga K "_law_check_text", "_law_check_text", "_law_check_text", defArgs s_L_check_text, defBody s_L_check_text, defScope s_L_check_text, [], []⟩
def d_law : He5.DefA := ⟨fun K => He.ga K "law", "law", "law", defArgs s_law, defBody s_law, defScope s_law, [], []⟩
def fn : List He5.DefA := [d_is_integer, d_is_name, d_is_bool, d_common_divisor, d_is_row, d_is_list_of, d_is_fraction, d_is_line_shape, d_is_section_shape, d_is_day_shape, d_is_sheet_shape, d_require, d_check_lines, d_is_ascending, d_crosses, d_check_section, d_check_day, d_check_sheet, d_is_sheet, d_number_or_none, d_integer_or_none, d_fraction_or_none, d_charge_or_none, d_RowReader_init, d_RowReader_require, d_RowReader_has_more, d_RowReader_next_word, d_RowReader_finish, d_name_after, d_line_read, d_section_read, d_day_read, d_sheet_read, d_integer_text, d_fraction_text, d_line_text, d_sheet_text, d_Amount_init, d_Amount_pair, d_Amount_add, d_as_amount, d_fresh, d_exact_after, d_state_after, d_part, d_lets_sheet, d_L_reader, d_L_draw, d_L_divisor, d_L_lowest, d_L_floor, d_L_some_ratio, d_L_crosses, d_L_heads, d_L_random_state, d_L_random_sections, d_L_random_days, d_L_random_sheet, d_L_fixed_sheets, d_L_random_booking, d_L_fresh_of, d_L_moved, d_L_check_moved, d_L_check_text, d_law]
def loose0 : List PySem.Str := ["_wall", "CentError", "PaperError", "BookError", "TextError", "InvalidPaper", "InvalidAmount", "InvalidText", "LETTERS", "LONGEST_NAME", "LEAST_SECTION", "is_integer", "is_name", "is_bool", "common_divisor", "is_row", "is_list_of", "is_fraction", "is_line_shape", "is_section_shape", "is_day_shape", "is_sheet_shape", "require", "check_lines", "is_ascending", "crosses", "check_section", "check_day", "check_sheet", "is_sheet"]
def loose1 : List PySem.Str := ["DIGITS", "MOST_DIGITS", "RANKS", "number_or_none", "integer_or_none", "fraction_or_none", "charge_or_none", "fraction_read", "RowReader", "name_after", "line_read", "section_read", "day_read", "sheet_read", "PIECE_DIGITS", "integer_text", "fraction_text", "line_text", "sheet_text", "Amount", "as_amount", "fresh", "exact_after", "state_after", "part", "lets_sheet", "_law_reader", "_law_draw", "_law_divisor", "_law_lowest"]
def loose2 : List PySem.Str := ["_law_floor", "_law_some_ratio", "_law_crosses", "_law_heads", "_law_random_state", "_law_random_sections", "_law_random_days", "_law_random_sheet", "_law_fixed_sheets", "_law_random_booking", "_law_fresh_of", "_law_moved", "_law_check_moved", "_law_check_text"]
def loose : List PySem.Str := loose0 ++ loose1 ++ loose2
def faGlo : List He.Fa := [.glo "is_integer", .glo "is_name", .glo "is_bool", .glo "common_divisor", .glo "is_row", .glo "is_list_of", .glo "is_fraction", .glo "is_line_shape", .glo "is_section_shape", .glo "is_day_shape", .glo "is_sheet_shape", .glo "require", .glo "check_lines", .glo "is_ascending", .glo "crosses", .glo "check_section", .glo "check_day", .glo "check_sheet", .glo "is_sheet", .glo "number_or_none", .glo "integer_or_none", .glo "fraction_or_none", .glo "charge_or_none", .glo "name_after", .glo "line_read", .glo "section_read", .glo "day_read", .glo "sheet_read", .glo "integer_text", .glo "fraction_text", .glo "line_text", .glo "sheet_text", .glo "as_amount", .glo "fresh", .glo "exact_after"] ++ [.glo "state_after", .glo "part", .glo "lets_sheet", .glo "_law_reader", .glo "_law_draw", .glo "_law_divisor", .glo "_law_lowest", .glo "_law_floor", .glo "_law_some_ratio", .glo "_law_crosses", .glo "_law_heads", .glo "_law_random_state", .glo "_law_random_sections", .glo "_law_random_days", .glo "_law_random_sheet", .glo "_law_fixed_sheets", .glo "_law_random_booking", .glo "_law_fresh_of", .glo "_law_moved", .glo "_law_check_moved", .glo "_law_check_text", .glo "law", .glo "RowReader", .glo "Amount", .glo "InvalidPaper", .glo "RANKS"]
def faMore : List He.Fa := [.free "isinstance", .free "int", .free "bool", .free "str", .free "tuple", .free "len", .free "all", .free "any", .free "abs", .free "zip", .free "enumerate", .free "range", .free "min", .free "sorted", .free "sum", .free "list", .free "dict",
  .str "LETTERS" "abcdefghijklmnopqrstuvwxyz", .str "DIGITS" "0123456789", .int "LONGEST_NAME" 8, .int "LEAST_SECTION" 2, .int "MOST_DIGITS" 60, .int "PIECE_DIGITS" 60,
  .cls "RowReader", .cls "Amount", .noat "RowReader" "row_held", .noat "RowReader" "words", .noat "RowReader" "place", .noat "Amount" "over_held", .noat "Amount" "under_held",
  .meth "RowReader" "require", .meth "RowReader" "has_more", .meth "RowReader" "next_word", .meth "RowReader" "finish", .meth "Amount" "__add__", .mkr "RowReader", .mkr "Amount"]
def fa : List He.Fa := faGlo ++ faMore
def tf : List He.Defn := [("name_after", none), ("section_read", none)]
def ts : List He.Tab := [(fun K => He.ga K "RANKS", ["line", "ended", "section", "day"])]
/-- further facts -/
def ex (K : PySem.W.Frag) : Bool :=
  He.valsB K (He.ga K "RANKS") [("line", .int 0), ("ended", .int 0), ("section", .int 1), ("day", .int 2)] &&
  (decide (PySem.W.findIn K (.ref (He.ga K "Amount")) "__class__" = some (some (.builtin "object.__class__"))) &&
  (decide (PySem.W.specialIn K (.builtin "object.__class__") "__get__" = some (some (.builtin "getset_descriptor.__get__"))) &&
  (decide (PySem.W.takesIn K (.builtin "object.__class__") = some true) &&
  (decide (PySem.W.mroIn K (He.ga K "Amount") (.type "object") = some true) &&
  (decide (PySem.W.kitOne K (.ref (He.ga K "Amount")) (.ref (He.ga K "Amount")) = some true) &&
  (PySem.W.selfFirst K (He.ga K "Amount") &&
  (decide (PySem.W.findIn K (.ref (He.ga K "Amount")) "pair" = some (some (.ref (He.ma K (He.ga K "Amount") "pair")))) &&
  (decide (PySem.W.specialIn K (.ref (He.ma K (He.ga K "Amount") "pair")) "__get__" = some (some (.builtin "property.__get__"))) &&
  (decide (PySem.W.takesIn K (.ref (He.ma K (He.ga K "Amount") "pair")) = some true) &&
  ((match PySem.W.recIn K (He.ma K (He.ga K "Amount") "pair") "property" with
    | some (.ref g :: _) => decide (g = getterAt "Amount" "pair" K)
    | _ => false) &&
  (PySem.W.readsIn K (He.ga K "Amount") (.type "type") &&
  ((match PySem.W.findCls K (.ref (He.ga K "Amount")) (.type "type") "ZERO" with
    | some (.val (.ref a)) => decide (a = zeroAt K)
    | _ => false) &&
  (match K.lookup (zeroAt K) with
    | some ⟨.type c, _, .seq its _, _⟩ => decide (c = "tuple") && (decide (its.size ≤ sizeLine) && He.relAll [V.int 0, V.int 1] its.toList)
    | _ => false)))))))))))))
/-- what an object names, as far as these facts ask -/
def refsC (o : Obj) : List Addr := match o.data with
  | .dict es _ => es.toList.flatMap fun e => He.refV e.val
  | .func fd => He.refV fd.code ++ He.refV fd.defaults
  | .cls cd => [cd.ns]
  | .fields vs => (match o.cls with
    | .type "property" => vs.toList.flatMap He.refV
    | _ => He.refV (vs.getD 11 .none))
  | _ => []
def growC (g : Addr → Option Obj) (as : List Addr) : List Addr := as.flatMap fun a => match g a with
  | some o => refsC o
  | none => []
/-- the addresses by layers: what the last layer names -/
def asC (g : Addr → Option Obj) : Nat → List Addr → List Addr
  | 0, l => l
  | n + 1, l => l ++ asC g n (growC g l)
abbrev R : PySem.W.OpenRow := PySem.W.OpenLaw.row PySem.Challenge.rw_centbook_k13_whole_renamed
abbrev AlZ : Type := (He.AlD × List (Option (List (Option (Str × Int))))) × Bool
def obsZ (n : Nat) (g : Addr → Option Obj) : AlZ :=
  let K := He.frT g (asC g n [mainGlobals] ++ [cStatics])
  ((He5.obsA fa fn K, ts.map fun t => He.dicW K (t.1 K)), ex K && He.tabsB g tf K)
def valZ (w : World) : AlZ := ((He5.valA fn, ts.map fun t => some (He.keysIn w.params t.2)), true)
structure SaysZ (w : World) (h : Heap) (K : PySem.W.Frag) : Prop where
  d : He5.SaysA fa fn K
  tab : ts.map (fun t => He.dicW K (t.1 K)) = ts.map fun t => some (He.keysIn w.params t.2)
  more : ex K = true
  hd : ∀ p ∈ tf, PySem.W.codeHdIn K (He.cT K p).1 (He.cT K p).2 = true
  out : ∀ p ∈ tf, K.lookup (He.cT K p).2 = none
  empty : ∀ p ∈ tf, h.get? (He.cT K p).2 = some { cls := .none, data := .fields #[] }
theorem saysZ_of {n : Nat} {w : World} {h : Heap} (e : obsZ n h.get? = valZ w) : SaysZ w h (He.frT h.get? (asC h.get? n [mainGlobals] ++ [cStatics])) := by
  have e0 : (He5.obsA fa fn (He.frT h.get? (asC h.get? n [mainGlobals] ++ [cStatics])), ts.map fun t => He.dicW (He.frT h.get? (asC h.get? n [mainGlobals] ++ [cStatics])) (t.1 (He.frT h.get? (asC h.get? n [mainGlobals] ++ [cStatics])))) = (He5.valA fn, ts.map fun t => some (He.keysIn w.params t.2)) := congrArg (fun z : AlZ => z.1) e
  have e2 : (ex (He.frT h.get? (asC h.get? n [mainGlobals] ++ [cStatics])) && He.tabsB h.get? tf (He.frT h.get? (asC h.get? n [mainGlobals] ++ [cStatics]))) = true := congrArg (fun z : AlZ => z.2) e
  obtain ⟨h1, h2⟩ := He.ba e2
  obtain ⟨a1, a2⟩ := Prod.mk.inj e0
  have key : ∀ p ∈ tf, PySem.W.codeHdIn (He.frT h.get? (asC h.get? n [mainGlobals] ++ [cStatics])) (He.cT (He.frT h.get? (asC h.get? n [mainGlobals] ++ [cStatics])) p).1 (He.cT (He.frT h.get? (asC h.get? n [mainGlobals] ++ [cStatics])) p).2 = true ∧ ∃ o, h.get? (He.cT (He.frT h.get? (asC h.get? n [mainGlobals] ++ [cStatics])) p).2 = some o ∧ He.emptyTab o = true := fun p hp => by
    obtain ⟨h3, h4⟩ := He.ba (List.all_eq_true.mp h2 p hp)
    refine ⟨h3, ?_⟩
    cases q : h.get? (He.cT (He.frT h.get? (asC h.get? n [mainGlobals] ++ [cStatics])) p).2 with
    | none =>
      rw [q] at h4
      cases h4
    | some o =>
      rw [q] at h4
      exact ⟨o, rfl, h4⟩
  exact ⟨a1, a2, h1, fun p hp => (key p hp).1, fun p hp => by
    obtain ⟨_, o, q, z⟩ := key p hp
    exact He.frT_none q z, fun p hp => by
    obtain ⟨_, o, q, z⟩ := key p hp
    rw [q, He.emptyTab_eq z]⟩
def hookZ (n : Nat) : PySem.W.Hook where
  α := AlZ
  obs := fun s => obsZ n s.heap.get?
  val := fun w => valZ w
  says := fun w h => ∃ K : PySem.W.Frag, K.In h ∧ SaysZ w h K
  of := fun _ _ e => ⟨_, He.frT_in, saysZ_of e⟩
  keeps := fun _ _ _ ⟨K, hK, c⟩ k => ⟨K, PySem.W.Frag.In.keeps hK k, ⟨c.d, c.tab, c.more, c.hd, c.out, fun p hp => k _ _ (c.empty p hp)⟩⟩
theorem obsZ_eq {n : Nat} {g : Addr → Option Obj} {s : Shared} (h : ∀ a, g a = s.heap.get? a) : obsZ n g = (hookZ n).obs s := by
  have e : g = s.heap.get? := funext h
  rw [e] <;> rfl
def hk : PySem.W.Hook := hookZ 5
def ob (s : PySem.W.SharedT) : hk.α := obsZ 5 (HandSHeadRun.getT s)
theorem ob_eq (s : PySem.W.SharedT) : ob s = hk.obs s.abs := obsZ_eq (HandSHeadRun.getT_eq s)
theorem run (w : World) : HandSHeadRun.RunEq R (PySem.W.view R.prog [82]) hk ob 40000 loose w :=
  PySem.W.byRow2 "special-get-raises" (P := fun w => HandSHeadRun.RunEq R (PySem.W.view R.prog [82]) hk ob 40000 loose w) (fun w => by intro os; kernel_rfl) (fun w => by intro os; kernel_rfl) w
end Cb
/-! ## CbA -/
set_option maxHeartbeats 4000000
/-! What stands, what may change; data that never changes; further rules by values. -/
namespace Cb
open PySem PySem.Spec PyProof.Rows L2
open NdefX (NTab TabN TabsN)
/-! ### a heap behind a heap: all but what stands at m is kept (tables grow) -/
structure Go (T : List NTab) (m : List Addr) (H H' : Hp) : Prop where
  keep : ∀ b o, b ∉ m → H b = some o → (∀ ps, o ≠ .tbl ps) → H' b = some o
  there : ∀ b, H' b = none → H b = none
  tups : ∀ b xs, H b = some (.tup xs) → H' b = some (.tup xs)
  frzs : ∀ b o u, H b = some (.frz o u) → H' b = some (.frz o u)
  tabs : TabsN T H → TabsN T H'
section
variable {T : List NTab} {m m' : List Addr} {H H1 H2 : Hp}
theorem Go.refl : Go T m H H := ⟨fun _ _ _ h _ => h, fun _ h => h, fun _ _ h => h, fun _ _ _ h => h, fun h => h⟩
theorem Go.trans (a : Go T m H H1) (b : Go T m H1 H2) : Go T m H H2 :=
  ⟨fun c o hc h n => b.keep c o hc (a.keep c o hc h n) n, fun c h => a.there c (b.there c h), fun c xs h => b.tups c xs (a.tups c xs h), fun c o u h => b.frzs c o u (a.frzs c o u h), fun h => b.tabs (a.tabs h)⟩
theorem Go.mono (a : Go T m H H1) (h : ∀ b ∈ m, b ∈ m') : Go T m' H H1 := ⟨fun c o hc e n => a.keep c o (fun z => hc (h c z)) e n, a.there, a.tups, a.frzs, a.tabs⟩
theorem Go.any (a : Go T [] H H1) : Go T m H H1 := a.mono fun _ h => absurd h (by simp)
/-- what changes at addresses that H does not know is nothing for H -/
theorem Go.cut (a : Go T m H H1) (h : ∀ b ∈ m, b ∈ m' ∨ H b = none) : Go T m' H H1 :=
  ⟨fun c o hc e n => a.keep c o (fun z => by
    rcases h c z with q | q
    · exact hc q
    · rw [e] at q
      cases q) e n, a.there, a.tups, a.frzs, a.tabs⟩
theorem Go.new {p : Addr} {o : HO} (g : Go T m H H1) (hp : H1 p = none) : Go T m H (upd H1 p o) := by
  have k : ∀ b u, H1 b = some u → upd H1 p o b = some u := fun b u e => by
    rw [upd_ne (ne_of_none e hp)]
    exact e
  refine ⟨fun c u hc e n => k c u (g.keep c u hc e n), fun c e => ?_, fun c xs e => k c _ (g.tups c xs e), fun c u v e => k c _ (g.frzs c u v e), fun h => (g.tabs h).ext k⟩
  by_cases h : c = p
  · rw [h, upd_same] at e
    cases e
  · rw [upd_ne h] at e
    exact g.there c e
/-- what may be written in place -/
def Mt : HO → Bool
  | .lst _ => true
  | .dK _ => true
  | .ins _ _ _ => true
  | _ => false
theorem Go.put {p : Addr} {o o1 : HO} (g : Go T m H H1) (hp : p ∈ m ∨ H p = none) (h1 : H1 p = some o1) (hm : Mt o1 = true) : Go T m H (upd H1 p o) := by
  have k : ∀ b u, H1 b = some u → Mt u = false → upd H1 p o b = some u := fun b u e n => by
    have hb : b ≠ p := fun z => by
      rw [z, h1] at e
      rw [← Option.some.inj e, hm] at n
      cases n
    rw [upd_ne hb]
    exact e
  refine ⟨fun c u hc e n => ?_, fun c e => ?_, fun c xs e => k c _ (g.tups c xs e) rfl, fun c u v e => k c _ (g.frzs c u v e) rfl, fun h => ?_⟩
  · have hb : c ≠ p := fun z => by
      rw [z] at hc e
      rcases hp with q | q
      · exact hc q
      · rw [q] at e
        cases e
    rw [upd_ne hb]
    exact g.keep c u hc e n
  · by_cases h : c = p
    · rw [h, upd_same] at e
      cases e
    · rw [upd_ne h] at e
      exact g.there c e
  · intro q hq
    obtain ⟨ps, a1, a2, a3⟩ := g.tabs h q hq
    refine ⟨ps, k _ _ a1 rfl, a2, fun pos cv hc => ?_⟩
    obtain ⟨c, e1, e2⟩ := a3 pos cv hc
    exact ⟨c, e1, k _ _ e2 rfl⟩
theorem Go.free (g : Go T m H H1) {p : Addr} (h : H1 p = none) : H p = none := g.there p h
theorem Go.of (e : Same H H1) : Go T m H H1 := by
  refine ⟨fun b o _ h _ => e b o h, fun b h => ?_, fun b xs h => e b _ h, fun b o u h => e b _ h, fun h => h.ext e⟩
  cases q : H b with
  | none => rfl
  | some o =>
    rw [e b o q] at h
    cases h
theorem rd_go {a : Addr} {xs : List V} (g : Go T m H H1) (h : Rd H a (.tup xs)) : Rd H1 a (.tup xs) := by
  rcases h with h | ⟨o, h⟩
  · exact .inl (g.tups _ _ h)
  · exact .inr ⟨o, g.frzs _ _ _ h⟩
theorem sqT_go {K : PySem.W.Frag} {a : Addr} {xs : List V} (g : Go T m H H1) (h : SqT K H a xs) : SqT K H1 a xs := by
  rcases h with h | h
  · exact .inl (rd_go g h)
  · exact .inr h
theorem sqL_go {K : PySem.W.Frag} {a : Addr} {xs : List V} (g : Go T m H H1) (ha : a ∉ m) (h : SqL K H a xs) : SqL K H1 a xs := by
  rcases h with (h | ⟨o, h⟩) | h
  · exact .inl (.inl (g.keep _ _ ha h fun ps z => by cases z))
  · exact .inl (.inr ⟨o, g.frzs _ _ _ h⟩)
  · exact .inr h
end

/-! ### data that never changes: nothing but texts, ints, bools, None and tuples of these -/
mutual
def fz : PyData → Bool
  | .none => true
  | .bool _ => true
  | .int _ => true
  | .str _ => true
  | .tuple ds => fzAll ds
  | .list _ => false
  | .dict _ => false
def fzAll : List PyData → Bool
  | [] => true
  | d :: ds => fz d && fzAll ds
end
theorem fzAll_of {ds : List PyData} (h : ∀ d ∈ ds, fz d = true) : fzAll ds = true := by
  induction ds with
  | nil => simp [fzAll]
  | cons d ds ih =>
    rw [fzAll, h d List.mem_cons_self, ih fun e he => h e (List.mem_cons_of_mem _ he)]
    rfl
theorem fzAll_mem : ∀ {ds : List PyData}, fzAll ds = true → ∀ d ∈ ds, fz d = true
  | [], _, d, hd => absurd hd (by simp)
  | e :: ds, h, d, hd => by
    rw [fzAll, Bool.and_eq_true] at h
    rcases List.mem_cons.mp hd with q | q
    · rw [q]
      exact h.1
    · exact fzAll_mem h.2 d q
section
variable {T : List NTab} {m : List Addr} {K : PySem.W.Frag} {H H1 : Hp}
mutual
theorem Dp.go (g : Go T m H H1) : ∀ (d : PyData) (v : V), fz d = true → Dp K H v d → Dp K H1 v d
  | .none, _, _, h => by
    cases h
    exact .non
  | .bool _, _, _, h => by
    cases h
    exact .bl _
  | .int _, _, _, h => by
    cases h
    exact .int _
  | .str _, _, _, h => by
    cases h
    exact .str _
  | .tuple ds, _, hf, h => by
    cases h with
    | tup hs ha => exact .tup (sqT_go g hs) (DpAll.go g ds _ (by simpa [fz] using hf) ha)
  | .list _, _, hf, _ => by simp [fz] at hf
  | .dict _, _, hf, _ => by simp [fz] at hf
theorem DpAll.go (g : Go T m H H1) : ∀ (ds : List PyData) (vs : List V), fzAll ds = true → DpAll K H vs ds → DpAll K H1 vs ds
  | [], _, _, h => by
    cases h
    exact .nil
  | d :: ds, _, hf, h => by
    rw [fzAll, Bool.and_eq_true] at hf
    cases h with
    | cons h1 h2 => exact .cons (Dp.go g d _ hf.1 h1) (DpAll.go g ds _ hf.2 h2)
end
theorem DpAll.len : ∀ {vs : List V} {ds : List PyData}, DpAll K H vs ds → vs.length = ds.length
  | _, [], h => by
    cases h
    rfl
  | _, d :: ds, h => by
    cases h with
    | cons h1 h2 => exact congrArg Nat.succ (DpAll.len h2)
theorem DpAll.at : ∀ {vs : List V} {ds : List PyData} {i : Nat} {v : V}, DpAll K H vs ds → vs[i]? = some v → ∃ d, ds[i]? = some d ∧ Dp K H v d
  | _, [], i, v, h, e => by
    cases h
    simp at e
  | _, d :: ds, 0, v, h, e => by
    cases h with
    | cons h1 h2 =>
      simp at e
      subst e
      exact ⟨d, rfl, h1⟩
  | _, d :: ds, i + 1, v, h, e => by
    cases h with
    | cons h1 h2 => exact DpAll.at (i := i) h2 (by simpa using e)
theorem DpAll.at' : ∀ {vs : List V} {ds : List PyData} {i : Nat} {d : PyData}, DpAll K H vs ds → ds[i]? = some d → ∃ v, vs[i]? = some v ∧ Dp K H v d
  | _, [], i, d, h, e => by simp at e
  | _, d :: ds, 0, e', h, e => by
    cases h with
    | cons h1 h2 =>
      simp at e
      subst e
      exact ⟨_, rfl, h1⟩
  | _, d :: ds, i + 1, e', h, e => by
    cases h with
    | cons h1 h2 => exact DpAll.at' (i := i) h2 (by simpa using e)
theorem DpAll.snoc : ∀ {vs : List V} {ds : List PyData} {v : V} {d : PyData}, DpAll K H vs ds → Dp K H v d → DpAll K H (vs ++ [v]) (ds ++ [d])
  | _, [], v, d, h, e => by
    cases h
    exact .cons e .nil
  | _, d :: ds, v, d', h, e => by
    cases h with
    | cons h1 h2 => exact .cons h1 (DpAll.snoc h2 e)
theorem DpAll.app : ∀ {vs ws : List V} {ds es : List PyData}, DpAll K H vs ds → DpAll K H ws es → DpAll K H (vs ++ ws) (ds ++ es)
  | _, _, [], _, h, e => by
    cases h
    exact e
  | _, _, d :: ds, _, h, e => by
    cases h with
    | cons h1 h2 => exact .cons h1 (DpAll.app h2 e)
theorem DpAll.drop : ∀ {vs : List V} {ds : List PyData} (n : Nat), DpAll K H vs ds → DpAll K H (vs.drop n) (ds.drop n)
  | _, _, 0, h => h
  | _, [], n + 1, h => by
    cases h
    exact .nil
  | _, d :: ds, n + 1, h => by
    cases h with
    | cons h1 h2 => exact DpAll.drop n h2
theorem DpAll.take : ∀ {vs : List V} {ds : List PyData} (n : Nat), DpAll K H vs ds → DpAll K H (vs.take n) (ds.take n)
  | _, _, 0, h => .nil
  | _, [], n + 1, h => by
    cases h
    exact .nil
  | _, d :: ds, n + 1, h => by
    cases h with
    | cons h1 h2 => exact .cons h1 (DpAll.take n h2)
theorem DpAll.of_at : ∀ {vs : List V} {ds : List PyData}, vs.length = ds.length → (∀ (i : Nat) v d, vs[i]? = some v → ds[i]? = some d → Dp K H v d) → DpAll K H vs ds
  | [], [], _, _ => .nil
  | [], _ :: _, e, _ => by simp at e
  | _ :: _, [], e, _ => by simp at e
  | v :: vs, d :: ds, e, h => .cons (h 0 v d rfl rfl) (DpAll.of_at (by simpa using e) fun i v' d' h1 h2 => h (i + 1) v' d' (by simpa using h1) (by simpa using h2))
theorem dpAll_ints : ∀ (ns : List Int), DpAll K H (ns.map V.int) (ns.map PyData.int)
  | [] => .nil
  | n :: ns => .cons (.int n) (dpAll_ints ns)
theorem dpAll_strs : ∀ (ns : List Str), DpAll K H (ns.map V.str) (ns.map PyData.str)
  | [] => .nil
  | n :: ns => .cons (.str n) (dpAll_strs ns)
theorem dp_int {v : V} {i : Int} (h : Dp K H v (.int i)) : v = .int i := by
  cases h
  rfl
theorem dp_str {v : V} {x : Str} (h : Dp K H v (.str x)) : v = .str x := by
  cases h
  rfl
theorem dp_bl {v : V} {b : Bool} (h : Dp K H v (.bool b)) : v = .bl b := by
  cases h
  rfl
theorem dp_tup {v : V} {ds : List PyData} (h : Dp K H v (.tuple ds)) : ∃ a xs, v = .ref a ∧ SqT K H a xs ∧ DpAll K H xs ds := by
  cases h with
  | tup hs ha => exact ⟨_, _, rfl, hs, ha⟩
theorem dp_lst {v : V} {ds : List PyData} (h : Dp K H v (.list ds)) : ∃ a xs, v = .ref a ∧ SqL K H a xs ∧ DpAll K H xs ds := by
  cases h with
  | lst hs ha => exact ⟨_, _, rfl, hs, ha⟩
theorem dpAll_nil {vs : List V} (h : DpAll K H vs []) : vs = [] := by
  cases h
  rfl
theorem dpAll_cons {vs : List V} {d : PyData} {ds : List PyData} (h : DpAll K H vs (d :: ds)) : ∃ v ws, vs = v :: ws ∧ Dp K H v d ∧ DpAll K H ws ds := by
  cases h with
  | cons h1 h2 => exact ⟨_, _, rfl, h1, h2⟩
theorem dpAll_strs_inv : ∀ {ns : List Str} {vs : List V}, DpAll K H vs (ns.map PyData.str) → vs = ns.map V.str
  | [], _, h => by
    have h' : DpAll K H _ [] := h
    exact dpAll_nil h'
  | n :: ns, _, h => by
    have h' : DpAll K H _ (PyData.str n :: ns.map PyData.str) := h
    obtain ⟨v, ws, rfl, h1, h2⟩ := dpAll_cons h'
    rw [dp_str h1, dpAll_strs_inv h2]
    rfl
theorem dpAll_ints_inv : ∀ {ns : List Int} {vs : List V}, DpAll K H vs (ns.map PyData.int) → vs = ns.map V.int
  | [], _, h => by
    have h' : DpAll K H _ [] := h
    exact dpAll_nil h'
  | n :: ns, _, h => by
    have h' : DpAll K H _ (PyData.int n :: ns.map PyData.int) := h
    obtain ⟨v, ws, rfl, h1, h2⟩ := dpAll_cons h'
    rw [dp_int h1, dpAll_ints_inv h2]
    rfl
end
end Cb
/-! ## CbB -/
set_option maxHeartbeats 4000000
/-! Further rules: sorted of data, < of data, enumerate of a tuple, an own +. -/
namespace Cb
open PySem PySem.Spec PyProof.Rows L2
open PySem.W (dataLe dataLt AllAlike Sortable alike alikeAll EachIs dataKind sortingHeap SortsAt)
/-! ### sorted, a list or a tuple of alike data -/
section
variable {prog : Program} {w : World} {A : Around} {E : Value → Shared → Prop} {s : Shared} {β : Type} {vs : List Value} {bs : List β} {enc : β → PyData} {R : Value → β → Prop}
theorem sorted_seq {a : Addr} {T : String} {o : Obj} {n : Nat} {Q : Value → Shared → Prop} (hT : T = "list" ∨ T = "tuple") (ho : s.heap.get? a = some o) (hc : o.cls = .type T) (hd : o.data = .seq vs.toArray n)
    (e : EachIs R vs bs) (er : EachIs (fun v b => ∃ as, Reads s.heap v (enc b) as) vs bs) (hal : AllAlike (bs.map enc)) (hk : Sortable (bs.map enc)) (hL : bs.length ≤ sizeLine) (hu : ∀ b, b ∈ bs → A.units + 2 + (enc b).depth < cLine)
    (h : ∀ (h1 h2 : Heap) (out : List Value) (c : Nat), (∀ b u, s.heap.get? b = some u → h1.get? b = some u) → (∀ b u, h1.get? b = some u → h2.get? b = some u) → h2.get? h1.objs.size = some (seqObj "list" out.toArray c) → out.length = bs.length → EachIs R out (bs.mergeSort (dataLe false enc)) → Q (.ref h1.objs.size) { s with heap := h2 }) :
    wpAny (model prog w) A (call (.builtin "sorted") [.ref a]) Q E s := by
  have hl : vs.length ≤ sizeLine := by
    rw [e.length]
    exact hL
  refine call_function_entry_kw kind_sorted plain_sorted entry_sorted (args_sorted1 _) ?_
  unfold Builtin.«sorted»
  refine wpAny_bind (m := checkCount "sorted" 1 1 _) (wpAny_pure ?_)
  refine wpAny_bind (wpAny_collect_seq a hT ho hc hd (fun h1 k1 => ?_) (by rw [List.size_toArray]; exact hl))
  have el : vs.toArray.toList = vs := by simp
  rw [el]
  refine wpAny_bind (wpAny_newList ?_ hl)
  have hD : (h1.push { cls := .type "list", data := .seq vs.toArray }).get? h1.objs.size = some (seqObj "list" vs.toArray 0) := Heap.get?_push_size _ rfl
  have k2 : ∀ b u, h1.get? b = some u → (sortingHeap (h1.push { cls := .type "list", data := .seq vs.toArray }) h1.objs.size vs).get? b = some u := fun b u q =>
    PySem.W.sortingHeap_old (Nat.ne_of_lt (Heap.lt_size q)) (Heap.get?_push_of_some _ q)
  have er' : EachIs (fun v b => ∃ as, Reads (sortingHeap (h1.push { cls := .type "list", data := .seq vs.toArray }) h1.objs.size vs) v (enc b) as) vs bs := er.mono fun _ _ ⟨as, r⟩ => ⟨as, PyProof.Rows.Reads.keeps (fun b u q => k2 b u (k1 b u q)) r⟩
  refine wpAny_bind (wpAny_holding (wpAny_call_entry_kw slot_list_sort ⟨_, hD, rfl⟩ entry_list_sort ?body (args_list_sort _)))
  refine PySem.W.list_sort_vals (s := { s with heap := h1.push { cls := .type "list", data := .seq vs.toArray } }) (κ := dataKind (sortingHeap (h1.push { cls := .type "list", data := .seq vs.toArray }) h1.objs.size vs) (bs.map enc)) hD
    (SortsAt.data (s := { s with heap := sortingHeap (h1.push { cls := .type "list", data := .seq vs.toArray }) h1.objs.size vs }) (PySem.W.each_map (R := fun v d => ∃ as, Reads (sortingHeap (h1.push { cls := .type "list", data := .seq vs.toArray }) h1.objs.size vs) v d as) enc er') hal hk (PySem.W.bound_map (A := A.in1.in1) hu)) hl ⟨_, rfl, ?_⟩
  refine wpAny_pure ⟨_, rfl, ?_⟩
  obtain ⟨c, hc2⟩ := sortedHeap_at (vs := vs) (out := (PySem.W.sortVals (dataKind (sortingHeap (h1.push { cls := .type "list", data := .seq vs.toArray }) h1.objs.size vs) (bs.map enc)) false vs vs).toArray) hD
  refine h h1 _ _ c k1 (fun b u q => ?_) hc2 (by rw [PySem.W.sortVals_length false rfl]; exact e.length) (PySem.W.sortVals_data false e er' hal)
  rw [sortedHeap_old (Nat.ne_of_lt (Heap.lt_size q)) (Heap.lt_size (Heap.get?_push_of_some _ q))]
  exact Heap.get?_push_of_some _ q
end
section
variable {X : Cx}
theorem each_pairs {I : Prop} {h : Heap} : ∀ {bs : List (V × PyData)} {us : List Value}, Vals (bs.map (·.1)) us → EachIs (fun v b => RelV b.1 v) us bs
  | [], _, r => by
    cases r
    exact .nil
  | b :: bs, _, r => by
    cases r with
    | cons r1 r2 => exact .cons r1 (each_pairs (I := I) (h := h) r2)
theorem vals_each : ∀ {bs : List (V × PyData)} {us : List Value}, EachIs (fun v b => RelV b.1 v) us bs → Vals (bs.map (·.1)) us
  | _, _, .nil => .nil
  | _, _, .cons r1 r2 => .cons r1 (vals_each r2)
/-- sorted(x): x a list or a tuple whose items are told with their data -/
def rSortedD (K : PySem.W.Frag) : List V → Hp → VK → Prop := fun vs H Q => ∃ (a : Addr) (bs : List (V × PyData)), vs = [V.ref a] ∧ (SqL K H a (bs.map (·.1)) ∨ SqT K H a (bs.map (·.1))) ∧ (∀ b ∈ bs, Dp K H b.1 b.2) ∧ AllAlike (bs.map (·.2)) ∧ Sortable (bs.map (·.2)) ∧ (∀ b ∈ bs, b.2.depth ≤ 16) ∧
  ∀ p, H p = none → Q (.ref p) (upd H p (.lst ((bs.mergeSort (dataLe false (·.2))).map (·.1))))
theorem cr_sortedD (hu : X.A.units + 64 < cLine) : CallR X (.builtin "sorted") (rSortedD X.K) := by
  intro pins s σ H vs us Q I r h
  obtain ⟨a, bs, rfl, hs, hd, hal, hk, hdp, q⟩ := h
  rw [Vals.ref1 r]
  have main : ∀ {T : String} {o : Obj} {its : List Value} {n : Nat}, T = "list" ∨ T = "tuple" → s.heap.get? a = some o → o.cls = .type T → o.data = .seq its.toArray n → Vals (bs.map (·.1)) its → bs.length ≤ sizeLine →
      wpAny (model X.prog X.w) X.A (call (.builtin "sorted") [.ref a]) (EP X pins σ Q) X.xe s := fun {T o its n} hT ho hc hdd rv hL => by
    have e := each_pairs (I := True) (h := s.heap) rv
    have er : EachIs (fun v b => ∃ as, Reads s.heap v b.2 as) its bs := by
      have em : ∀ {us : List Value} {bs : List (V × PyData)}, EachIs (fun v b => RelV b.1 v) us bs → (∀ b ∈ bs, Dp X.K H b.1 b.2) → EachIs (fun v b => ∃ as, Reads s.heap v b.2 as) us bs := by
        intro us bs z
        induction z with
        | nil => exact fun _ => .nil
        | cons r1 _ ih => exact fun hz => .cons (Dp.reads I _ _ _ (hz _ List.mem_cons_self) r1) (ih fun b hb => hz b (List.mem_cons_of_mem _ hb))
      exact em e hd
    refine sorted_seq hT ho hc hdd e er hal hk hL (fun b hb => by have := hdp b hb; omega) fun h1 h2 out c k1 k2 hD ho2 eo => ?_
    have I1 : Inv X pins σ H { s with heap := h1 } := I.kept (t' := s.toks) k1
    have rv2 : Vals ((bs.mergeSort (dataLe false (·.2))).map (·.1)) out := vals_each eo
    have hz : ((bs.mergeSort (dataLe false (·.2))).map (·.1)).length ≤ sizeLine := by
      rw [List.length_map, List.length_mergeSort]
      exact hL
    exact ⟨.ref h1.objs.size, _, I1.laid (s := { s with heap := h1 }) (o := .lst ((bs.mergeSort (dataLe false (·.2))).map (·.1))) (t' := s.toks) k2 (Nat.le_refl _) ⟨hz, out, c, rv2, hD⟩, rfl, q _ (I1.hok.fresh (Nat.le_refl _))⟩
  rcases hs with hs | hs
  · obtain ⟨its, rv, ⟨o, n, ho, hc, _, hdd⟩, hz⟩ := I.list hs
    exact main (.inl rfl) ho hc hdd rv (by rw [List.length_map] at hz; exact hz)
  · obtain ⟨its, rv, ⟨o, ho, hc, n, hdd⟩, hz⟩ := I.tuple hs
    exact main (.inr rfl) ho hc hdd rv (by rw [List.length_map] at hz; exact hz)
/-- x < y of alike data (not None) -/
def rLtD (K : PySem.W.Frag) : R2 := fun x y H Q => ∃ d e, Dp K H x d ∧ Dp K H y e ∧ alike d e = true ∧ d ≠ .none ∧ d.depth ≤ 16 ∧ Q (.bl (dataLt d e)) H
theorem op_ltD (hu : X.A.units + 64 < cLine) : OpR X (compareOp .Lt) (rLtD X.K) := by
  intro pins s σ H x y v u Q I rx ry h
  obtain ⟨d, e, hd, he, ha, hn, hdp, q⟩ := h
  obtain ⟨as, r1⟩ := Dp.reads I d x v hd rx
  obtain ⟨bs, r2⟩ := Dp.reads I e y u he ry
  exact PySem.W.rcLt_alike d e X.A s v u as bs r1 r2 ha hn (by have : min d.depth e.depth ≤ d.depth := Nat.min_le_left _ _; omega) X.prog X.w X.xe _ ⟨.bl _, H, I, rfl, q⟩
end
end Cb
/-! ## CbC -/
set_option maxHeartbeats 4000000
/-! Further rules: enumerate of a tuple. -/
namespace Cb
open PySem PySem.Spec PyProof.Rows L2
theorem enum_meets {v : Value} {o : Obj} {G : Heap → Prop} (B : Begins v o G) :
    Meets (Builtin.«enumerate.__new__» ⟨[.type "enumerate", v], []⟩) (fun _ R s => G s.heap ∧
      R (.ok (.ret (.ref (s.heap.push o).objs.size))) { s with heap := (s.heap.push o).push { cls := .type "enumerate", data := .fields #[.none, .bool false, .ref s.heap.objs.size, rawInt 0, .none, .none] } }) :=
  .of_wp fun prog w A R s h => by
    obtain ⟨hp, g, d, tk, os⟩ := s
    obtain ⟨h1, h⟩ := h
    have hsub := sub_enumerate
    have q1 : ∀ {A' : Around} {E : Value → Shared → Prop} {Q : Value → Shared → Prop}, Q (.ref hp.objs.size) ⟨hp.push o, g, d, tk, os⟩ → wpAny (model prog w) A' (pyIter v) Q E ⟨hp, g, d, tk, os⟩ :=
      fun q => B.iter prog w _ _ ⟨hp, g, d, tk, os⟩ _ h1 q
    wp_walk using q1
    refine wpAny_stack_any fun st => wpAny_pure ?_
    split
    · rename_i c _ _ _ _ _
      cases (c == Value.type "enumerate")
      · wp_walk using q1
        exact ⟨_, rfl, h⟩
      · wp_walk using q1
        exact ⟨_, rfl, h⟩
    · wp_walk using q1
      exact ⟨_, rfl, h⟩
theorem enum_call {prog : Program} {w : World} {A : Around} {E : Value → Shared → Prop} {s : Shared} {v : Value} {o : Obj} {G : Heap → Prop} {Q : Value → Shared → Prop} (B : Begins v o G) (h1 : G s.heap)
    (h : ∀ h', IsEnum h' (s.heap.objs.size + 1) s.heap.objs.size 0 .none → h'.get? s.heap.objs.size = some o → h'.objs.size = s.heap.objs.size + 2 → (∀ b u, s.heap.get? b = some u → h'.get? b = some u) → Q (.ref (s.heap.objs.size + 1)) { s with heap := h' }) :
    wpAny (model prog w) A (call (.type "enumerate") [v]) Q E s := by
  refine callType_new F.called_enumerate (by decide) (F.typeCall_enumerate_1 _) (F.newCall_enumerate_1 _) (fun obj => F.args_object_init_2 obj _) F.entry_enumerate_new (enum_meets B) ⟨h1, ?_⟩
  have hz : (s.heap.push o).objs.size = s.heap.objs.size + 1 := Heap.size_push ..
  show _ ∧ _
  rw [hz]
  have he : IsEnum ((s.heap.push o).push { cls := .type "enumerate", data := .fields #[.none, .bool false, .ref s.heap.objs.size, rawInt 0, .none, .none] }) (s.heap.objs.size + 1) s.heap.objs.size 0 .none := by
    have z := Heap.get?_push_size (s.heap.push o) (o := { cls := .type "enumerate", data := .fields #[.none, .bool false, .ref s.heap.objs.size, rawInt 0, .none, .none] }) rfl
    rw [hz] at z
    exact z
  exact ⟨⟨_, he, rfl⟩, h _ he (Heap.get?_push_of_some _ (Heap.get?_push_size _ B.free)) (by rw [Heap.size_push, hz]) fun b u x => Heap.get?_push_of_some _ (Heap.get?_push_of_some _ x)⟩
/-- the tuple at a, item by item, with its number, in new pairs -/
def IteT (K : PySem.W.Frag) (a : Addr) : It :=
  ⟨fun i H => ∃ (xs : List V) (x : V), SqT K H a xs ∧ xs[i]? = some x, fun i H v H' => ∃ T x, v = .ref T ∧ H T = none ∧ H' = upd H T (.tup [.int (i : Nat), x]) ∧ ∀ xs, SqT K H a xs → xs[i]? = some x, fun i H => ∃ xs : List V, SqT K H a xs ∧ xs.length = i⟩
theorem turn_enumT {P : Program} {w : World} {K : PySem.W.Frag} {elts : List Expr} {kk : Nat} {tpos : Pos} (a e it : Addr) :
    Turn P w K (.Tuple elts kk tpos) (IteT K a) [e, it] e (fun i h => (∃ old, IsEnum h e it ((i : Nat) : Int) old) ∧ h.IsTupleIter it a i ∧ e ≠ it) where
  mem := by simp
  obj := fun i h st b hb => by
    obtain ⟨⟨old, he⟩, ⟨o, ho, hc, hd⟩, _⟩ := st
    have e' : b = e ∨ b = it := by simpa using hb
    rcases e' with z | z
    · rw [z]
      exact ⟨_, he, fun v q => nomatch q⟩
    · rw [z]
      exact ⟨o, ho, fun v q => by
        rw [hd] at q
        cases q⟩
  keep := fun i h h' st k => let ⟨⟨old, he⟩, hi, hne⟩ := st; ⟨⟨old, k e (by simp) _ he⟩, hi.at fun o q => k it (by simp) o q, hne⟩
  item := by
    intro X hP hw hK hc i pins s σ H E I hf st hg
    subst hP hw hK
    obtain ⟨⟨old, he⟩, hit, hne⟩ := st
    obtain ⟨xs, x, hq, hx⟩ := hg
    obtain ⟨its, rv, p, hz⟩ := I.tuple hq
    obtain ⟨u, hu, ru⟩ := rv.get hx
    have hel : e < s.heap.objs.size := Heap.lt_size he
    have hil : it < s.heap.objs.size := by
      obtain ⟨_, q, _⟩ := hit
      exact Heap.lt_size q
    have nai : a ≠ it := fun z => by
      obtain ⟨o1, q1, c1, _⟩ := id p
      obtain ⟨o2, q2, c2, _⟩ := id hit
      rw [z, q2] at q1
      rw [← Option.some.inj q1, c2] at c1
      injection c1 with c1
      exact absurd c1 (by decide)
    have nea : e ≠ a := fun z => by
      obtain ⟨o1, q1, c1, _⟩ := id p
      rw [← z] at q1
      rw [show s.heap.get? e = some _ from he] at q1
      rw [← Option.some.inj q1] at c1
      injection c1 with c1
      exact absurd c1 (by decide)
    have hi : i < its.toArray.size := by
      rw [List.size_toArray]
      exact (List.getElem?_eq_some_iff.mp hu).1
    refine wpAny_pyNext_enum_itemD (Draws.tuple (prog := X.prog) (w := X.w) (A := X.A.in1) (I.ok.hd hc) it a nai its.toArray) he ⟨hit, p⟩ hi hne (by simp [hne, nea]) fun y h' tk hy ho st' hT hsz hk => ?_
    have ey : y = u := by
      have q : its.toArray[i]? = some y := hy
      rw [List.getElem?_toArray, hu] at q
      exact (Option.some.inj q).symm
    subst ey
    refine ⟨_, rfl, wpAny_letOwnedTupleGo_enum (s := { s with heap := h', toks := tk + 1 }) ho fun h'' he' sb => ?_⟩
    have hT2 : h''.get? s.heap.objs.size = some { cls := .type "tuple", data := .seq #[.int i tk, y] } := (sb.2 _ (Nat.ne_of_gt hel)).trans hT
    have new : ObjOk X.prog X.w (upd H s.heap.objs.size (.tup [.int (i : Nat), x])) h'' s.heap.objs.size (.tup [.int (i : Nat), x]) :=
      ⟨by show 2 ≤ sizeLine; decide, [.int i tk, y], .cons ⟨_, rfl⟩ (.cons ru .nil), ⟨_, hT2, rfl, _, rfl⟩⟩
    have I1 : Inv X pins σ (upd H s.heap.objs.size (.tup [.int (i : Nat), x])) { s with heap := h'', toks := tk + 1 } :=
      I.turnedNew (ch := [e, it]) (fun b ob hb q => (sb.2 b (fun z => hb (by simp [z]))).trans (hk b ob (fun z => hb (by simp [z])) (fun z => hb (by simp [z])) q)) hf (Nat.le_refl _) new
    refine ⟨.ref s.heap.objs.size, _, I1, rfl, ⟨_, x, rfl, I.hok.fresh (Nat.le_refl _), rfl, fun ys hy => by rw [I.tuple_inj hy hq]; exact hx⟩, ⟨⟨y, ?_⟩, st'.1.at fun o q => (sb.2 it (Ne.symm hne)).trans q, hne⟩, fun b hb => ?_⟩
    · have e1 : ((i + 1 : Nat) : Int) = (i : Int) + 1 := by omega
      rw [e1]
      exact he'
    · have hb' : b < s.heap.objs.size := by
        have e' : b = e ∨ b = it := by simpa using hb
        rcases e' with z | z
        · rw [z]
          exact hel
        · rw [z]
          exact hil
      rw [upd_ne (Nat.ne_of_lt hb')]
      exact (hf b hb).1
  done := by
    intro X hP hw hK hc i pins s σ H E I hf st hg
    subst hP hw hK
    obtain ⟨⟨old, he⟩, hit, hne⟩ := st
    obtain ⟨xs, hq, hx⟩ := hg
    obtain ⟨its, rv, p, hz⟩ := I.tuple hq
    have nai : a ≠ it := fun z => by
      obtain ⟨o1, q1, c1, _⟩ := id p
      obtain ⟨o2, q2, c2, _⟩ := id hit
      rw [z, q2] at q1
      rw [← Option.some.inj q1, c2] at c1
      injection c1 with c1
      exact absurd c1 (by decide)
    have hl := rv.length
    obtain ⟨f0, f1, f2, f3, f4, f5⟩ := hf it (by simp)
    have st2 : s.heap.IsTupleIter it a its.toArray.size := by
      rw [List.size_toArray, ← hl, hx]
      exact hit
    exact wpAny_pyNext_enum_endD (Draws.tuple (prog := X.prog) (w := X.w) (A := X.A.in1) (I.ok.hd hc) it a nai its.toArray) he ⟨st2, p⟩ fun h' eb => ⟨rfl, I.turned (t' := s.toks) (fun b o hb q => eb b o hb q) f0 f1 f3 f4 f5⟩
  self := fun A i s Q E st h => let ⟨⟨_, he⟩, _⟩ := st; wpAny_pyIter_enum he h
def iEnumT (K : PySem.W.Frag) (ta : TA) : TI := fun σ H R => ta σ H fun vs H1 => ∃ a xs, vs = [.ref a] ∧ SqT K H1 a xs ∧ R (IteT K a) H1
theorem pi_enumT {X : Cx} {e : Expr} {ta : TA} {p pos tpos : Pos} {elts : List Expr} {kk : Nat} (hg : Gl X "enumerate") (hm : X.mg "enumerate" = none) (ha : PA X [e] ta) (hs : starEach [e] X.env = [(false, eval e X.env)] := by rfl) :
    PI X (.Tuple elts kk tpos) (.Call (.Name "enumerate" p) [e] [] pos) (iEnumT X.K ta) := by
  refine ⟨fun pins s σ H R I h => ?_⟩
  refine Call_ (ld_blt I hg hm boot_enumerate (PyProof.Rows.callWith_type1 (thn (ha.run pos pins s σ H _ I h) fun us s1 ⟨vs, H1, I1, r1, q1⟩ => ?_) hs rfl))
  obtain ⟨a, xs, ex, hq, q⟩ := q1
  subst ex
  cases r1 with
  | cons r rr =>
    cases rr
    cases r
    obtain ⟨its, rv, p', hz⟩ := I1.tuple hq
    refine enum_call (begins_tuple a its.toArray) p' fun h' he hit hsz hk => wpAny_pyIter_enum he ?_
    have I2 : Inv X pins σ H1 { s1 with heap := h' } := I1.kept (t' := s1.toks) hk
    refine ⟨s1.heap.objs.size + 1, [s1.heap.objs.size + 1, s1.heap.objs.size], _, _, H1, rfl, I2, turn_enumT a (s1.heap.objs.size + 1) s1.heap.objs.size, ⟨⟨.none, he⟩, ⟨_, hit, rfl, rfl⟩, Nat.succ_ne_self _⟩, fun b hb => ?_, q⟩
    have e' : b = s1.heap.objs.size + 1 ∨ b = s1.heap.objs.size := by simpa using hb
    have hle : s1.heap.objs.size ≤ b := by
      rcases e' with z | z
      · rw [z]
        exact Nat.le_add_right _ _
      · rw [z]
        exact Nat.le_refl _
    exact I1.fpOk hle (I1.hok.fresh hle)
theorem walk_enumT {K : PySem.W.Frag} {a : Addr} {xs : List V} : Walk (IteT K a) xs.length (fun H => SqT K H a xs) (YPair (fun i => some (.int (i : Nat))) (fun i => xs[i]?)) := by
  refine ⟨fun i _ hi q => ⟨xs, xs[i], q, by simp [hi]⟩, fun _ q => ⟨xs, q, rfl⟩, fun i H v H' _ q y => ?_⟩
  obtain ⟨T, x, h1, h2, h3, h4⟩ := y
  exact ⟨T, .int (i : Nat), x, h1, h2, h3, rfl, h4 xs q⟩
end Cb
/-! ## CbD -/
set_option maxHeartbeats 4000000
/-! Further rules: an own +, a call of what a name holds. -/
namespace Cb
open PySem PySem.Spec PyProof.Rows L2
/-- the object at a is just o -/
def PinO (_ : Addr) (o : Obj) : HO := .frz o (.own 0)
theorem pinO_at {P : Program} {w : World} {H : Hp} {h : Heap} {a : Addr} {o : Obj} (hok : HOk P w H h) (e : H a = some (PinO a o)) : h.get? a = some o := by
  obtain ⟨z, _⟩ := hok a _ e
  exact z
theorem pinO_ok {P : Program} {w : World} {H : Hp} {h : Heap} {a : Addr} {o : Obj} (e : h.get? a = some o) : ObjOk P w H h a (PinO a o) := ⟨e, o, e⟩
section
variable {X : Cx} {CX : CXT} {k : Nat} {C f : Addr} {sp : Sp}
/-- x + y, instances of the class at C that defines + -/
def rAddO (C : Addr) (sp : Sp) : R2 := fun x y H Q => ∃ a b dx dy fs gs, x = .ref a ∧ y = .ref b ∧ H a = some (.ins C dx fs) ∧ H b = some (.ins C dy gs) ∧ sp [.ref a, .ref b] H Q E0
theorem op_addO (F : FnR X.prog X.w X.K X.mg X.base CX k f sp) (hr : Room k X.A) (hx : Passes CX X E0) (hs : PySem.W.findIn X.K (.ref C) "__add__" = some (some (.ref f))) (hf : PySem.W.isFn X.K (.ref f) = true) (hc : PySem.W.selfFirst X.K C = true) :
    OpR X (binaryOp .Add) (rAddO C sp) := by
  intro pins s σ H x y v u Q I rx ry h
  obtain ⟨a, b, dx, dy, fs, gs, rfl, rfl, ha, hb', q⟩ := h
  cases rx
  cases ry
  obtain ⟨mA, J, _⟩ := ins_get I.hok ha
  obtain ⟨mB, J', _⟩ := ins_get I.hok hb'
  obtain ⟨od, J, _⟩ := J.look
  obtain ⟨od', J', _⟩ := J'.look
  obtain ⟨m, hF⟩ := I.fr
  refine PySem.W.binop_K (op := .Add) hF I.ok.mod.kin J J'.type hc hs hf ?_
  have go := run_fnR (us := [.ref a, .ref b]) (vs := [.ref a, .ref b]) F hr hx I (.cons rfl (.cons rfl .nil)) q
  refine wpAny_call (codeAny_mono go fun r s' hq => ?_)
  cases r with
  | error e => exact hq
  | ok fl =>
    cases fl with
    | ret u =>
      obtain ⟨z, H', I', rz, q⟩ := hq
      cases z with
      | non => cases rz; exact ⟨.non, H', I', rfl, q⟩
      | bl _ => cases rz; exact ⟨.bl _, H', I', rfl, q⟩
      | int _ => obtain ⟨t, rfl⟩ := rz; exact ⟨.int _, H', I', ⟨t, rfl⟩, q⟩
      | str _ => obtain ⟨t, rfl⟩ := rz; exact ⟨.str _, H', I', ⟨t, rfl⟩, q⟩
      | byt _ => obtain ⟨t, rfl⟩ := rz; exact ⟨.byt _, H', I', ⟨t, rfl⟩, q⟩
      | flt _ => obtain ⟨t, rfl⟩ := rz; exact ⟨.flt _, H', I', ⟨t, rfl⟩, q⟩
      | ref _ => cases rz; exact ⟨.ref _, H', I', rfl, q⟩
      | ty _ => cases rz; exact ⟨.ty _, H', I', rfl, q⟩
    | next => exact False.elim hq
    | brk => exact False.elim hq
    | cont => exact False.elim hq
end
/-- a function stands at f: one of the written part, or one that was made -/
def FnMade (H : Hp) (f : Addr) : Prop := ∃ φ : Heap → Prop, H f = some (.ext φ) ∧ ∀ h, φ h → PySem.W.FnAt f h
def FnIs (K : PySem.W.Frag) (H : Hp) (f : Addr) : Prop := PySem.W.keepIn K (.ref f) = true ∨ FnMade H f
/-- x(e, ..), the name x holds a function of some promise -/
def tCallF (P : Program) (w : World) (K : PySem.W.Frag) (mg : Str → Option Value) (base : Heap) (k i : Nat) (t : TA) : TE := fun σ H Q => ∃ f sp, σ[i]? = some (some (.ref f)) ∧ FnR P w K mg base CX0 k f sp ∧ FnIs K H f ∧ t σ H fun vs H1 => FnIs K H1 f ∧ sp vs H1 Q E0
section
variable {X : Cx} {k i : Nat} {x : Str} {p pos : Pos} {e : Expr} {es : List Expr} {t : TA}
theorem pe_callF (hr : Room k X.A) (hN : X.N[i]? = some x) (hv : Vis X.env.scope x) (ha : PA X (e :: es) t) (hdb : (x == ("__debug__" : Str)) = false := by decide) (hcd : (x == ("__classdict__" : Str)) = false := by decide)
    (he : starEach (e :: es) X.env = (false, eval e X.env) :: starEach es X.env := by rfl) (hpl : (backTo pos (starEach es X.env)).any (·.1) = false := by rfl) :
    PE X (.Call (.Name x p) (e :: es) [] pos) (tCallF X.prog X.w X.K X.mg X.base k i t) := by
  refine ⟨fun pins s σ H Q I h => ?_⟩
  obtain ⟨f, sp, hs, F, hf, ht⟩ := h
  refine wpAny_Call_Name_kw (thn ((pe_var (pos := p) hN hv hdb hcd).run pins s σ H (fun v H1 => v = .ref f ∧ H1 = H) I ⟨.ref f, hs, rfl, rfl⟩) fun u s1 ⟨v, H1, I1, r1, q1⟩ => ?_)
  obtain ⟨ev, eH⟩ := q1
  subst ev
  rw [eH] at I1
  obtain rfl : u = Value.ref f := r1
  have fin : ∀ {us : List Value} {s2 : Shared} {vs : List V} {H2 : Hp}, Inv X pins σ H2 s2 → Vals vs us → sp vs H2 Q E0 → wpAny (model X.prog X.w) X.A (call (.ref f) us) (EP X pins σ Q) X.xe s2 := fun {us s2 vs H2} I2 r q => by
    refine wpAny_call (codeAny_mono (run_fnR F hr pass0 I2 r q) fun r s' hq => ?_)
    cases r with
    | error e => exact hq
    | ok fl =>
      cases fl with
      | ret u => exact hq
      | next => exact False.elim hq
      | brk => exact False.elim hq
      | cont => exact False.elim hq
  have here : ∀ {H2 : Hp} {s2 : Shared}, Inv X pins σ H2 s2 → FnMade H2 f → PySem.W.FnAt f s2.heap := fun {H2 s2} I2 ⟨φ, q, hφ⟩ => by
    obtain ⟨z, _, _⟩ := I2.hok f _ q
    exact hφ _ z
  by_cases hk : PySem.W.keepIn X.K (.ref f) = true
  · exact PySem.W.callWith_K (h₀ := X.base) I1.ok.mod.kin hk (thn (ha.run pos pins s1 σ _ _ I1 ht) fun us s2 ⟨vs, H2, I2, r, _, q⟩ => ⟨I2.kIn, fin I2 r q⟩) he hpl
  · have h1 : FnMade H f := hf.resolve_left hk
    exact PySem.W.callWith_F (first := []) (here I1 h1) (thn (ha.run pos pins s1 σ _ _ I1 ht) fun us s2 ⟨vs, H2, I2, r, z, q⟩ => ⟨here I2 (z.resolve_left hk), fin I2 r q⟩) he hpl
end
end Cb
/-! ## CbE -/
set_option maxHeartbeats 4000000
/-! Closures that leave their maker; a lambda handed to a method. -/
namespace Cb
open PySem PySem.Spec PyProof.Rows L2 LamX NdefX
/-! ### pinned objects: laid over a heap, hidden from it -/
def layP (l : List (Addr × Obj)) (H : Hp) : Hp := fun b => match l.lookup b with
  | some o => some (PinO b o)
  | none => H b
def hid (l : List (Addr × Obj)) (H : Hp) : Hp := fun b => match l.lookup b with
  | some _ => none
  | none => H b
/-- each object of l is pinned in H -/
def PinnedIn (l : List (Addr × Obj)) (H : Hp) : Prop := ∀ c o, l.lookup c = some o → H c = some (PinO c o)
section
variable {l : List (Addr × Obj)} {H H' : Hp} {b : Addr} {o : Obj} {u : HO}
theorem layP_at (h : l.lookup b = some o) : layP l H b = some (PinO b o) := by
  unfold layP
  rw [h]
theorem layP_out (h : l.lookup b = none) : layP l H b = H b := by
  unfold layP
  rw [h]
theorem hid_at (h : l.lookup b = some o) : hid l H b = none := by
  unfold hid
  rw [h]
theorem hid_out (h : l.lookup b = none) : hid l H b = H b := by
  unfold hid
  rw [h]
theorem layP_pinned : PinnedIn l (layP l H) := fun _ _ h => layP_at h
theorem hid_none (h : H b = none) : hid l H b = none := by
  unfold hid
  cases l.lookup b with
  | none => exact h
  | some _ => rfl
theorem hid_some (h : hid l H b = some u) : H b = some u ∧ l.lookup b = none := by
  cases e : l.lookup b with
  | none =>
    rw [hid_out e] at h
    exact ⟨h, rfl⟩
  | some o =>
    rw [hid_at e] at h
    cases h
/-- no pinned object is of another kind -/
theorem pinned_out (hp : PinnedIn l H) (h : H b = some u) (n : ∀ o v, u ≠ .frz o v) : l.lookup b = none := by
  cases e : l.lookup b with
  | none => rfl
  | some o =>
    rw [hp b o e] at h
    exact absurd (Option.some.inj h).symm (n _ _)
theorem free_out (hp : ∀ c o, l.lookup c = some o → H c = none) (h : H b = some u) : l.lookup b = none := by
  cases e : l.lookup b with
  | none => rfl
  | some o =>
    rw [hp b o e] at h
    cases h
/-- hiding what is pinned, laying it again -/
theorem layP_hid (hp : PinnedIn l H) : layP l (hid l H) = H := by
  funext b
  cases e : l.lookup b with
  | none => rw [layP_out e, hid_out e]
  | some o => rw [layP_at e, hp b o e]
theorem hid_layP (hp : ∀ c o, l.lookup c = some o → H c = none) : hid l (layP l H) = H := by
  funext b
  cases e : l.lookup b with
  | none => rw [hid_out e, layP_out e]
  | some o => rw [hid_at e, hp b o e]
end
section
variable {P : Program} {w : World} {K : PySem.W.Frag} {mg : Str → Option Value} {base : Heap} {A : Around} {outer : List Env} {s s' : Shared} {H : Hp} {l : List (Addr × Obj)} {Q : VK} {u : Value}
theorem env0_hid (e0 : Env0 P w K mg base A outer s H) (hp : PinnedIn l H) : Env0 P w K mg base A outer s (hid l H) := by
  refine ⟨e0.frames, e0.mod, fun b o e => ⟨(e0.bs b o e).1, hid_none (e0.bs b o e).2⟩, e0.bsz, e0.funs, fun b hb => hid_none (e0.frf b hb), fun a o e => ?_, e0.bare⟩
  obtain ⟨e1, _⟩ := hid_some e
  refine (e0.hok a o e1).stay (fun b u _ q => q) (fun b q => ?_) fun b xs q => ?_
  · rw [hid_out (pinned_out hp q fun o v z => by cases z)]
    exact q
  · rw [hid_out (pinned_out hp q fun o v z => by cases z)]
    exact q
/-- what ran beside the pinned objects left them -/
theorem ce_lay (e0 : Env0 P w K mg base A outer s H) (hp : PinnedIn l H) (h : CE outer P w (hid l H) s (fun v H1 => (∀ c o, l.lookup c = some o → H1 c = none) → Q v (layP l H1)) u s') : CE outer P w H s Q u s' := by
  obtain ⟨v, H1, h1, h2, un, hok, rv, q⟩ := h
  have out : ∀ {b}, H b = none → l.lookup b = none := fun {b} n => by
    cases e : l.lookup b with
    | none => rfl
    | some o =>
      rw [hp b o e] at n
      cases n
  have outs : ∀ {b u}, H b = some u → (∀ o v, u ≠ .frz o v) → l.lookup b = none := fun {b u} n z => pinned_out hp n z
  have at0 : ∀ {c o}, l.lookup c = some o → s.heap.get? c = some o := fun {c o} e => pinO_at e0.hok (hp c o e)
  have nfr : ∀ {c o}, l.lookup c = some o → c ∉ frs outer := fun {c o} e z => by
    have q1 := e0.frf c z
    rw [hp c o e] at q1
    cases q1
  have at1 : ∀ {c o}, l.lookup c = some o → s'.heap.get? c = some o := fun {c o} e => un.keep c o (at0 e) (hid_at e) (nfr e) (by simp)
  have fr1 : ∀ {c o}, l.lookup c = some o → H1 c = none := fun {c o} e => un.free c o (at0 e) (hid_at e) (by simp)
  refine ⟨v, layP l H1, h1, h2, ⟨fun b o e n hb hx => un.keep b o e (hid_none n) hb hx, fun b o e n hb hx => un.slot b o e (hid_none n) hb hx, fun b o e n hx => ?_, un.there, fun b xs e => ?_, fun b o v e => ?_, fun b ps e => ?_⟩, fun a o e => ?_, rv, q fun c o e => fr1 e⟩
  · rw [layP_out (out n)]
    exact un.free b o e (hid_none n) hx
  · have z := outs e fun o v z => by cases z
    rw [layP_out z]
    exact un.tups b xs (by rw [hid_out z]; exact e)
  · cases z : l.lookup b with
    | none =>
      rw [layP_out z]
      exact un.frzs b o v (by rw [hid_out z]; exact e)
    | some ob =>
      rw [layP_at z, ← hp b ob z]
      exact e
  · have z := outs e fun o v z => by cases z
    rw [layP_out z]
    exact un.tbls b ps (by rw [hid_out z]; exact e)
  · cases e1 : l.lookup a with
    | some ob =>
      rw [layP_at e1] at e
      rw [← Option.some.inj e]
      exact pinO_ok (at1 e1)
    | none =>
      rw [layP_out e1] at e
      have keep : ∀ {b x}, H1 b = some x → layP l H1 b = some x := fun {b x} q => by
        cases e2 : l.lookup b with
        | none =>
          rw [layP_out e2]
          exact q
        | some ob =>
          rw [fr1 e2] at q
          cases q
      exact (hok a o e).stay (fun b u _ q => q) (fun b q => keep q) fun b xs q => keep q
/-- cells and other untracked objects that may be pinned for a call -/
structure LayOk (base : Heap) (outer : List Env) (s : Shared) (H : Hp) (l : List (Addr × Obj)) : Prop where
  at_ : ∀ c o, l.lookup c = some o → s.heap.get? c = some o
  free : ∀ c o, l.lookup c = some o → H c = none
  nfr : ∀ c o, l.lookup c = some o → c ∉ frs outer
  out : ∀ c o, l.lookup c = some o → base.get? c = none
theorem lay_keep {b : Addr} {u : HO} (hf : ∀ c o, l.lookup c = some o → H c = none) (h : H b = some u) : layP l H b = some u := by
  rw [layP_out (free_out hf h)]
  exact h
theorem env0_lay (e0 : Env0 P w K mg base A outer s H) (L : LayOk base outer s H l) : Env0 P w K mg base A outer s (layP l H) := by
  have none_ : ∀ {b}, H b = none → l.lookup b = none → layP l H b = none := fun {b} h1 h2 => by
    rw [layP_out h2]
    exact h1
  refine ⟨e0.frames, e0.mod, fun b o e => ⟨(e0.bs b o e).1, none_ (e0.bs b o e).2 ?_⟩, e0.bsz, e0.funs, fun b hb => none_ (e0.frf b hb) ?_, fun a o e => ?_, e0.bare⟩
  · cases q : l.lookup b with
    | none => rfl
    | some ob =>
      rw [L.out b ob q] at e
      cases e
  · cases q : l.lookup b with
    | none => rfl
    | some ob => exact absurd hb (L.nfr b ob q)
  · cases e1 : l.lookup a with
    | some ob =>
      rw [layP_at e1] at e
      rw [← Option.some.inj e]
      exact pinO_ok (L.at_ a ob e1)
    | none =>
      rw [layP_out e1] at e
      exact (e0.hok a o e).stay (fun b u _ q => q) (fun b q => lay_keep L.free q) fun b xs q => lay_keep L.free q
/-- behind the call they are as before -/
theorem ce_hid (L : LayOk base outer s H l) (h : CE outer P w (layP l H) s (fun v H1 => PinnedIn l H1 ∧ Q v (hid l H1)) u s') : CE outer P w H s Q u s' := by
  obtain ⟨v, H1, h1, h2, un, hok, rv, hp, q⟩ := h
  have at1 : ∀ {c o}, l.lookup c = some o → s'.heap.get? c = some o := fun {c o} e => pinO_at hok (hp c o e)
  have none_ : ∀ {b}, H b = none → l.lookup b = none → layP l H b = none := fun {b} h1 h2 => by
    rw [layP_out h2]
    exact h1
  have out : ∀ {b u}, H1 b = some u → (∀ o v, u ≠ .frz o v) → hid l H1 b = some u := fun {b u} e n => by
    rw [hid_out (pinned_out hp e n)]
    exact e
  refine ⟨v, hid l H1, h1, h2, ⟨fun b o e n hb hx => ?_, fun b o e n hb hx => ?_, fun b o e n hx => ?_, un.there, fun b xs e => ?_, fun b o v e => ?_, fun b ps e => ?_⟩, fun a o e => ?_, rv, q⟩
  · cases e1 : l.lookup b with
    | some ob =>
      have e2 := L.at_ b ob e1
      rw [e] at e2
      rw [Option.some.inj e2]
      exact at1 e1
    | none => exact un.keep b o e (none_ n e1) hb hx
  · cases e1 : l.lookup b with
    | some ob => exact absurd hb (L.nfr b ob e1)
    | none => exact un.slot b o e (none_ n e1) hb hx
  · cases e1 : l.lookup b with
    | some ob => exact hid_at e1
    | none =>
      rw [hid_out e1]
      exact un.free b o e (none_ n e1) hx
  · exact out (un.tups b xs (lay_keep L.free e)) fun o v z => by cases z
  · rw [hid_out (free_out L.free e)]
    exact un.frzs b o v (lay_keep L.free e)
  · obtain ⟨more, q1⟩ := un.tbls b ps (lay_keep L.free e)
    exact ⟨more, out q1 fun o v z => by cases z⟩
  · obtain ⟨e1, _⟩ := hid_some e
    exact (hok a o e1).stay (fun b u _ q => q) (fun b q => out q fun o v z => by cases z) fun b xs q => out q fun o v z => by cases z
end
/-! ### the heaps that are kept -/
section
variable {T : List NTab} {m : List Addr} {H H' : Hp} {l : List (Addr × Obj)}
theorem tabsN_hid (hp : PinnedIn l H) (t : TabsN T H) : TabsN T (hid l H) := fun p h => by
  obtain ⟨ps, a1, a2, a3⟩ := t p h
  refine ⟨ps, ?_, a2, fun pos cv h => ?_⟩
  · rw [hid_out (pinned_out hp a1 fun o v z => by cases z)]
    exact a1
  · obtain ⟨c, e1, e2⟩ := a3 pos cv h
    refine ⟨c, e1, ?_⟩
    rw [hid_out (pinned_out hp e2 fun o v z => by cases z)]
    exact e2
theorem tabsN_lay (hf : ∀ c o, l.lookup c = some o → H c = none) (t : TabsN T H) : TabsN T (layP l H) := fun p h => by
  obtain ⟨ps, a1, a2, a3⟩ := t p h
  refine ⟨ps, lay_keep hf a1, a2, fun pos cv h => ?_⟩
  obtain ⟨c, e1, e2⟩ := a3 pos cv h
  exact ⟨c, e1, lay_keep hf e2⟩
theorem go_lay (hp : PinnedIn l H) (g : Go T m (hid l H) H') (hf : ∀ c o, l.lookup c = some o → H' c = none) : Go T m H (layP l H') := by
  refine ⟨fun b o hb e n => ?_, fun b e => ?_, fun b xs e => ?_, fun b o u e => ?_, fun t => tabsN_lay hf (g.tabs (tabsN_hid hp t))⟩
  · cases z : l.lookup b with
    | some ob => rw [layP_at z, ← hp b ob z, e]
    | none =>
      rw [layP_out z]
      exact g.keep b o hb (by rw [hid_out z]; exact e) n
  · cases z : l.lookup b with
    | some ob =>
      rw [layP_at z] at e
      cases e
    | none =>
      rw [layP_out z] at e
      have q := g.there b e
      rw [hid_out z] at q
      exact q
  · have z := pinned_out hp e fun o v z => by cases z
    rw [layP_out z]
    exact g.tups b xs (by rw [hid_out z]; exact e)
  · cases z : l.lookup b with
    | some ob => rw [layP_at z, ← hp b ob z, e]
    | none =>
      rw [layP_out z]
      exact g.frzs b o u (by rw [hid_out z]; exact e)
theorem sqL_hid {K : PySem.W.Frag} {a : Addr} {xs : List V} (hp : PinnedIn l H) (h : SqL K H a xs) : SqL K (hid l H) a xs := by
  have key : ∀ {u : HO}, H a = some u → (∀ ob, u ≠ PinO a ob) → hid l H a = some u := fun {u} e n => by
    cases z : l.lookup a with
    | some ob =>
      rw [hp a ob z] at e
      exact absurd (Option.some.inj e).symm (n ob)
    | none =>
      rw [hid_out z]
      exact e
  rcases h with (h | ⟨o, h⟩) | h
  · exact .inl (.inl (key h fun ob z => by cases z))
  · exact .inl (.inr ⟨o, key h fun ob z => by cases z⟩)
  · exact .inr h
/-- a heap with more pins -/
theorem go_pin (hf : ∀ c o, l.lookup c = some o → H c = none) : Go T m H (layP l H) := by
  refine ⟨fun b o _ e _ => lay_keep hf e, fun b e => ?_, fun b xs e => lay_keep hf e, fun b o u e => lay_keep hf e, fun t => tabsN_lay hf t⟩
  cases z : l.lookup b with
  | some ob =>
    rw [layP_at z] at e
    cases e
  | none =>
    rw [layP_out z] at e
    exact e
/-- behind a call for which l was pinned -/
theorem go_hid (hf : ∀ c o, l.lookup c = some o → H c = none) (g : Go T m (layP l H) H') (hp : PinnedIn l H') : Go T m H (hid l H') := by
  have out : ∀ {b u}, H b = some u → hid l H' b = H' b := fun {b u} e => hid_out (free_out hf e)
  refine ⟨fun b o hb e n => ?_, fun b e => ?_, fun b xs e => ?_, fun b o u e => ?_, fun t => tabsN_hid hp (g.tabs (tabsN_lay hf t))⟩
  · rw [out e]
    exact g.keep b o hb (lay_keep hf e) n
  · cases z : l.lookup b with
    | some ob => exact hf b ob z
    | none =>
      rw [hid_out z] at e
      have q := g.there b e
      rw [layP_out z] at q
      exact q
  · rw [out e]
    exact g.tups b xs (lay_keep hf e)
  · rw [out e]
    exact g.frzs b o u (lay_keep hf e)
end
/-! ### a nested def's function, called by anybody -/
/-- what the pinned objects say of the captured cells -/
structure CellsL (cl : List (Str × Addr)) (fr : List Str) (ws : List (Option V)) (l : List (Addr × Obj)) : Prop where
  len : ws.length = fr.length
  all : ∀ y c, cl.lookup y = some c → ∃ o v, l.lookup c = some o ∧ o.data = .cell v
  inj : ∀ x y c, cl.lookup x = some c → cl.lookup y = some c → x = y
  has : ∀ (i : Nat) (y : Str), fr[i]? = some y → ∃ c o, cl.lookup y = some c ∧ l.lookup c = some o ∧ ∀ v, ws[i]? = some (some v) → ∃ u, L2.RelV v u ∧ o.data = .cell (some u)
section
variable {P : Program} {w : World} {K : PySem.W.Frag} {mg : Str → Option Value} {base : Heap} {k : Nat} {f : Addr} {F : NF} {N ps fr : List Str} {sp : List (Option V) → Sp}
theorem CellsL.at_ {cl : List (Str × Addr)} {ws : List (Option V)} {l : List (Addr × Obj)} {H : Hp} {h : Heap} (C : CellsL cl fr ws l) (hl : ∀ c o, l.lookup c = some o → h.get? c = some o) : CellsAt cl fr ws h (hid l H) := by
  refine ⟨C.len, fun y c e => ?_, C.inj, fun i y e => ?_⟩
  · obtain ⟨o, v, e1, e2⟩ := C.all y c e
    exact ⟨hid_at e1, v, o, hl c o e1, e2⟩
  · obtain ⟨c, o, e1, e2, e3⟩ := C.has i y e
    refine ⟨c, e1, fun v hv => ?_⟩
    obtain ⟨u, r, d⟩ := e3 v hv
    exact ⟨u, r, o, hl c o e2, d⟩
/-- the promise of a function with captured cells, its cells pinned -/
def spClo (obj : Addr → HO) (f : Addr) (F : NF) (fr : List Str) (sp : List (Option V) → Sp) : Sp := fun vs H Q E => ∃ l ws, H f = some (obj f) ∧ H F.c = some (CodeO F.c F.qual) ∧ PinnedIn l H ∧ l.lookup f = none ∧ l.lookup F.c = none ∧ CellsL F.cl fr ws l ∧
  sp ws vs (hid l H) (fun v H' => (∀ c o, l.lookup c = some o → H' c = none) → Q v (layP l H')) E
theorem nok_fnR (o : NOk P w K mg base L2.CX0 k f F ps fr sp) : FnR P w K mg base L2.CX0 k f (spClo (fun f => FnO f F) f F fr sp) := by
  intro A outer s H us vs Q E hr e0 rv h
  obtain ⟨l, ws, h1, h2, hp, n1, n2, C, hq⟩ := h
  have z := o.run A outer s (hid l H) us vs ws (fun v H' => (∀ c o, l.lookup c = some o → H' c = none) → Q v (layP l H')) E hr (env0_hid e0 hp) (by rw [hid_out n1]; exact h1) (by rw [hid_out n2]; exact h2) (C.at_ fun c o e => pinO_at e0.hok (hp c o e)) rv hq
  refine codeAny_mono z fun r s' hz => ?_
  cases r with
  | error e => exact hz
  | ok fl =>
    cases fl with
    | ret u => exact ce_lay e0 hp hz
    | next => exact hz
    | brk => exact hz
    | cont => exact hz
/-! ### a lambda's function -/
/-- the object at f is the lambda of the words F and the body b -/
def LamO (F : NF) (b : Expr) (f : Addr) : HO := .ext fun h => ∃ (pm ctv : Value), h.get? f = some (PySem.W.kla_obj F.name F.qual F.params b F.scope F.cl pm F.c ctv)
theorem lamO_at {H : Hp} {h : Heap} {b : Expr} (hok : HOk P w H h) (e : H f = some (LamO F b f)) : ∃ (pm ctv : Value), h.get? f = some (PySem.W.kla_obj F.name F.qual F.params b F.scope F.cl pm F.c ctv) := by
  obtain ⟨z, _, _⟩ := hok f _ e
  exact z
theorem lam_fnR {b : Expr} {sp : List (Option V) → Sp} (S : NScope N ps fr F.scope) (hb : ∀ (pm ctv : Value) (us : List Value), us.length = ps.length → bindArgs (PySem.W.kla_fn F.name F.qual F.params b F.scope F.cl pm (.ref F.c) ctv) ⟨us, []⟩ = pure (ps.zip us)) (len : ∀ ws vs H Q E, sp ws vs H Q E → vs.length = ps.length)
    (hbody : ∀ (A : Around) (outer : List Env) (s : Shared) (H : Hp) (vs : List V) (ws : List (Option V)) (Q : VK) (E : XK), Room k (A.deeper (envF F f s.heap.objs.size)) → sp ws vs H Q E → ∃ t, PE (ncx L2.CX0 P w K mg base N F f A outer s H E) b t ∧ t (startF N vs ws) H Q) :
    FnR P w K mg base L2.CX0 (k + 1) f (spClo (LamO F b) f F fr sp) := by
  intro A outer s H us vs Q E hr e0 rv h
  obtain ⟨l, ws, h1, h2, hp, n1, n2, C, hq⟩ := h
  have hl := len _ _ _ _ _ hq
  have lim : s.heap.NoLimit := e0.mod.nolimit.keeps fun b o e => (e0.bs b o e).1
  obtain ⟨pm, ctv, ho⟩ := lamO_at e0.hok h1
  have z : codeAny (model P w) A (.call (.ref f) ⟨us, []⟩) (CR L2.CX0 outer P w (hid l H) s (fun v H' => (∀ c o, l.lookup c = some o → H' c = none) → Q v (layP l H')) E) s := by
    refine PySem.W.kla_callFunE hr.depth ho rfl S.co S.gen rfl (codeO_at e0.hok h2) ?_
    rw [hb pm ctv us (by rw [← rv.length]; exact hl)]
    refine wpAny_pure (wpAny_newFunctionEnv S.nocell (fun ⟨n, _⟩ hy => S.par n (List.of_mem_zip hy).1) (fun h₁ hns hsb => ⟨lim.fresh _ hsb, ?_⟩) S.kind)
    show codeAny _ _ (.expr b (envF F f s.heap.objs.size)) _ _
    have kp : ∀ b o, s.heap.get? b = some o → h₁.get? b = some o := fun b o e => hsb.extBut b o (Nat.ne_of_lt (Heap.lt_size e)) (Heap.get?_push_of_some _ e)
    obtain ⟨t, ht, hq2⟩ := hbody A outer s (hid l H) vs ws _ E (hr.deeper _) hq
    have I : Inv (ncx L2.CX0 P w K mg base N F f A outer s (hid l H) E) [] (startF N vs ws) (hid l H) { s with heap := h₁, toks := s.toks + (ps.zip us).length } :=
      inv_startN S hr.hd (env0_hid e0 hp) hl rv (C.at_ fun c o e => pinO_at e0.hok (hp c o e)) hns kp
    refine PySem.W.kla_codeExpr (wpAny_mono (ht.run [] _ _ _ _ I hq2) (fun v s' hv => ?_) fun e s' hs => hs)
    obtain ⟨w', H', J', rv', q'⟩ := hv
    exact ⟨w', H', J'.os, J'.bare, J'.base, J'.hok, rv', q'⟩
  refine codeAny_mono z fun r s' hz => ?_
  cases r with
  | error e => exact hz
  | ok fl =>
    cases fl with
    | ret u => exact ce_lay e0 hp hz
    | next => exact hz
    | brk => exact hz
    | cont => exact hz
end
end Cb
/-! ## CbF -/
set_option maxHeartbeats 4000000
/-! Closures, further: a def that makes one and hands it on; a lambda handed to a method. -/
namespace Cb
open PySem PySem.Spec PyProof.Rows L2 LamX NdefX
section
variable {T : List NTab} {m : List Addr} {H H1 : Hp}
theorem Go.ofExt (e : ExtN H H1) (n : ∀ b, H1 b = none → H b = none) (t : TabsN T H1) : Go T m H H1 :=
  ⟨fun b o _ h z => e b o h z, n, fun b xs h => e b _ h fun ps z => (by cases z), fun b o u h => e b _ h fun ps z => (by cases z), fun _ => t⟩
end
/-! ### the running frame's cells, pinned -/
def pinsOf (cl : List (Str × Addr)) (h : Heap) : List (Addr × Obj) := cl.filterMap fun p => (h.get? p.2).map fun o => (p.2, o)
theorem pinsOf_look {h : Heap} {c : Addr} {o : Obj} : ∀ {cl : List (Str × Addr)}, (pinsOf cl h).lookup c = some o → h.get? c = some o ∧ ∃ y, (y, c) ∈ cl
  | [], e => by
    simp [pinsOf] at e
  | (y, d) :: cl, e => by
    unfold pinsOf at e
    cases q : h.get? d with
    | none =>
      rw [List.filterMap_cons] at e
      simp only [q, Option.map_none] at e
      obtain ⟨a, z, b⟩ := pinsOf_look (cl := cl) e
      exact ⟨a, z, List.mem_cons_of_mem _ b⟩
    | some od =>
      rw [List.filterMap_cons] at e
      simp only [q, Option.map_some] at e
      rw [List.lookup_cons] at e
      split at e
      · rename_i hb
        have hb := beq_iff_eq.mp hb
        rw [hb, q]
        exact ⟨e, y, List.mem_cons_self⟩
      · obtain ⟨a, z, b⟩ := pinsOf_look (cl := cl) e
        exact ⟨a, z, List.mem_cons_of_mem _ b⟩
theorem pinsOf_has {h : Heap} {c : Addr} {o : Obj} {y : Str} : ∀ {cl : List (Str × Addr)}, (y, c) ∈ cl → h.get? c = some o → (pinsOf cl h).lookup c = some o
  | [], e, _ => by simp at e
  | (z, d) :: cl, e, ho => by
    unfold pinsOf
    rw [List.filterMap_cons]
    by_cases hd : c = d
    · subst hd
      simp only [ho, Option.map_some]
      rw [List.lookup_cons]
      simp
    · have e' : (y, c) ∈ cl := by
        rcases List.mem_cons.mp e with q | q
        · exact absurd (Prod.mk.inj q).2 hd
        · exact q
      have ih := pinsOf_has (cl := cl) e' ho
      cases q : h.get? d with
      | none =>
        simp only [Option.map_none]
        exact ih
      | some od =>
        simp only [Option.map_some]
        rw [List.lookup_cons]
        have : (c == d) = false := by simpa using hd
        rw [this]
        exact ih
section
variable {X : Cx} {pins : List (Addr × Obj)} {σ : L2.St} {H : Hp} {s : Shared} {scope : Scope} {fr : List Str} {js : List Nat}
/-- what a running frame's captured cells are good for -/
theorem cells_lay (I : Inv X pins σ H s) (hfree : ∀ y ∈ scope.names, y.2 = .free → X.env.scope.names.lookup y.1 = some .cell ∨ X.env.scope.names.lookup y.1 = some .free) (hfn : ∀ y ∈ scope.names, y.2 = .free → X.fn y.1 = true) :
    ∀ c o, (pinsOf (cloFrom X.env.cells scope.names []) s.heap).lookup c = some o → s.heap.get? c = some o ∧ H c = none ∧ X.s_0.heap.objs.size ≤ c ∧ c ≠ X.env.locals := fun c o e => by
  obtain ⟨h1, y, h2⟩ := pinsOf_look e
  rcases cloFrom_mem h2 with z | ⟨z1, z2⟩
  · cases z
  · have hl : ∃ c1, X.env.cells.lookup y = some c1 := (hfree _ z1 rfl).elim (fun z => I.ok.has _ (.inl z)) fun z => I.ok.has _ (.inr z)
    obtain ⟨c1, hc⟩ := hl
    have e2 : c = c1 := by
      rw [z2, hc] <;> rfl
    subst e2
    exact ⟨h1, I.freeC y c hc, I.ok.cab y c (hfn _ z1 rfl) hc, I.cne y c hc⟩
theorem cells_layOk (I : Inv X pins σ H s) (hfree : ∀ y ∈ scope.names, y.2 = .free → X.env.scope.names.lookup y.1 = some .cell ∨ X.env.scope.names.lookup y.1 = some .free) (hfn : ∀ y ∈ scope.names, y.2 = .free → X.fn y.1 = true) :
    LayOk X.base X.stack s H (pinsOf (cloFrom X.env.cells scope.names []) s.heap) := by
  have q := cells_lay I hfree hfn
  refine ⟨fun c o e => (q c o e).1, fun c o e => (q c o e).2.1, fun c o e z => ?_, fun c o e => Heap.get?_none_of_le (Nat.le_trans I.ok.bsz (q c o e).2.2.1)⟩
  rcases List.mem_cons.mp (I.stkSub c z) with e1 | e1
  · exact (q c o e).2.2.2 e1
  · obtain ⟨_, od, ho, _⟩ := I.ok.funs.mem e1
    exact absurd (Nat.lt_of_lt_of_le (Heap.lt_size ho) (q c o e).2.2.1) (Nat.lt_irrefl _)
theorem cells_L (I : Inv X pins σ H s) (hfree : ∀ y ∈ scope.names, y.2 = .free → X.env.scope.names.lookup y.1 = some .cell ∨ X.env.scope.names.lookup y.1 = some .free)
    (hfr : ∀ y ∈ fr, (y, NameKind.free) ∈ scope.names) (hjs : js.map (fun j => X.N[j]?) = fr.map some) :
    CellsL (cloFrom X.env.cells scope.names []) fr (js.map (slotAt σ)) (pinsOf (cloFrom X.env.cells scope.names []) s.heap) := by
  have C := cells_of I (Caps.made I.ok hfree hfr hjs)
  have at_ : ∀ y c, (cloFrom X.env.cells scope.names []).lookup y = some c → ∃ o v, s.heap.get? c = some o ∧ (pinsOf (cloFrom X.env.cells scope.names []) s.heap).lookup c = some o ∧ o.data = .cell v := fun y c e => by
    obtain ⟨_, v, o, ho, hd⟩ := C.all y c e
    exact ⟨o, v, ho, pinsOf_has (PySem.mem_of_lookup e) ho, hd⟩
  refine ⟨C.len, fun y c e => ?_, C.inj, fun i y e => ?_⟩
  · obtain ⟨o, v, _, h2, h3⟩ := at_ y c e
    exact ⟨o, v, h2, h3⟩
  · obtain ⟨c, hc, hv⟩ := C.has i y e
    obtain ⟨o, v, h1, h2, h3⟩ := at_ y c hc
    refine ⟨c, o, hc, h2, fun v hw => ?_⟩
    obtain ⟨u, r, ob, h4, h5⟩ := hv v hw
    rw [h1] at h4
    exact ⟨u, r, by rw [Option.some.inj h4]; exact h5⟩
end
/-! ### a lambda with captured names is made -/
def LF (qual : Str) (params : Arguments) (scope : Scope) (cl : List (Str × Addr)) (c : Addr) : NF := ⟨"<lambda>", qual, params, [], scope, cl, c⟩
section
variable {X : Cx} {pins : List (Addr × Obj)} {σ : L2.St} {H : Hp} {s : Shared}
theorem inv_lam {F : NF} {b : Expr} {pm ctv : Value} {t' : Nat} (I : Inv X pins σ H s) :
    Inv X pins σ (upd H s.heap.objs.size (LamO F b s.heap.objs.size)) { s with heap := s.heap.push (PySem.W.kla_obj F.name F.qual F.params b F.scope F.cl pm F.c ctv), toks := t' } := by
  refine I.laid (a := s.heap.objs.size) (fun b u e => Heap.get?_push_of_some _ e) (Nat.le_refl _) ?_
  have e : (s.heap.push (PySem.W.kla_obj F.name F.qual F.params b F.scope F.cl pm F.c ctv)).get? s.heap.objs.size = some (PySem.W.kla_obj F.name F.qual F.params b F.scope F.cl pm F.c ctv) := Heap.get?_push_size _ rfl
  exact ⟨⟨pm, ctv, e⟩, ⟨_, e⟩, fun h1 h2 ⟨p, t, z⟩ st => ⟨p, t, st _ z⟩⟩
theorem lam_new {T : List NTab} {nm : Nat → Nat → Str} {c P : Addr} {params : Arguments} {body : Expr} {scope : Scope} {pos : Pos} {E : Value → Shared → Prop} {Q : Value → Shared → Prop} (I : Inv X pins σ H s) (B : TabB X.base X.mg c P) (hcode : X.env.code = .ref c)
    (hm : (P, nm) ∈ T) (hn : nm pos.line pos.col = X.env.qual ++ "<lambda>") (hu : ∀ p ∈ T, p.1 = P → p.2 = nm) (hT : TabsN T H) (hdef : defaultsOf params X.env = ([], [])) (hfree : ∀ y ∈ scope.names, y.2 = .free → ∃ c, X.env.cells.lookup y.1 = some c)
    (h : ∀ (f c' : Addr) (H1 : Hp) (s' : Shared), Inv X pins σ H1 s' → ExtN H H1 → (∀ b, H1 b = none → H b = none) → TabsN T H1 → H f = none → H1 f = some (LamO (LF (X.env.qual ++ "<lambda>") params scope (cloFrom X.env.cells scope.names []) c') body f) →
      H1 c' = some (CodeO c' (X.env.qual ++ "<lambda>")) → Q (.ref f) s') :
    wpAny (model X.prog X.w) X.A (eval (.Lambda params body scope pos) X.env) Q E s := by
  obtain ⟨ps, hP, ht, hall⟩ := (show TabN H P nm from hT _ hm)
  have gotP : s.heap.get? P = some { cls := .none, data := .fields ps } := I.hok P _ hP
  refine PySem.W.kla_eval hdef ?_
  have fin : ∀ {h' : Heap} {t' : Nat} {ctv : Value} {H1 : Hp} {c' : Addr}, Inv X pins σ H1 { s with heap := h', toks := t' } → ExtN H H1 → (∀ b, H1 b = none → H b = none) → TabsN T H1 → s.heap.objs.size ≤ h'.objs.size → H1 c' = some (CodeO c' (X.env.qual ++ "<lambda>")) →
      Q (.ref h'.objs.size) { s with heap := h'.push (PySem.W.kla_obj "<lambda>" (X.env.qual ++ "<lambda>") params body scope (cloFrom X.env.cells scope.names []) ((X.mg "__name__").getD .none) c' ctv), toks := t' } := fun {h' t' ctv H1 c'} J e n t hz hc => by
    have nF : H1 h'.objs.size = none := J.hok.fresh (Nat.le_refl _)
    have J2 := inv_lam (F := LF (X.env.qual ++ "<lambda>") params scope (cloFrom X.env.cells scope.names []) c') (b := body) (pm := (X.mg "__name__").getD .none) (ctv := ctv) (t' := t') J
    refine h h'.objs.size c' _ _ J2 (fun b o q z => ?_) (fun b q => n b (upd_none q)) (t.ext fun b o q => ?_) (I.hok.fresh hz) upd_same ?_
    · have q2 := e b o q z
      exact (upd_ne (ne_of_none q2 nF)).trans q2
    · exact (upd_ne (ne_of_none q nF)).trans q
    · exact (upd_ne (ne_of_none hc nF)).trans hc
  cases hcv : codeAmong pos ps.toList with
  | some cv =>
    obtain ⟨c', e, hco⟩ := hall pos cv hcv
    subst e
    rw [hn] at hco
    refine PySem.W.kla_makeFunctionHit (mg := X.mg) (c := c) (P := P) (ps := ps) (closure_ok hfree) I.ok.glob (I.mod.glob.keeps I.bk) hcode (B.code.keeps I.bk) gotP ht hcv (B.bm.keeps I.bk) fun ctv h' tk hx hz => ?_
    have J : Inv X pins σ H { s with heap := h', toks := tk } := I.kept hx
    exact fin J (ExtN.refl H) (fun _ q => q) hT hz hco
  | none =>
    refine PySem.W.kla_makeFunction (mg := X.mg) (c := c) (P := P) (ps := ps) (closure_ok hfree) I.ok.glob (I.mod.glob.keeps I.bk) hcode (B.code.keeps I.bk) gotP ht hcv B.gP (B.bm.keeps I.bk) fun c' ctv h' tk hx hge hlt hrec htb => ?_
    obtain ⟨c2, oc, vs, t, e2, hoc, hd, hv⟩ := hrec
    cases e2
    have nC : H c' = none := I.hok.fresh hge
    have J := inv_table (t' := tk) (more := #[rawInt pos.line, rawInt pos.col, .ref c']) (h' := h') I hP (fun b o hb e => hx b o hb e) htb hge ⟨oc, vs, t, hoc, hd, hv⟩
    have hE : ExtN H (upd (upd H P (.tbl (ps ++ #[rawInt pos.line, rawInt pos.col, .ref c']))) c' (CodeO c' (X.env.qual ++ "<lambda>"))) := fun b o e n => by
      have b1 : b ≠ P := fun z => n ps (by
        rw [z, hP] at e
        exact (Option.some.inj e).symm)
      rw [upd_ne (ne_of_none e nC), upd_ne b1]
      exact e
    refine fin J hE (fun b q => upd_none (upd_none q)) (fun p hp => ?_) (Nat.le_trans hge (Nat.le_of_lt hlt)) upd_same
    have eL : (ps ++ #[rawInt pos.line, rawInt pos.col, .ref c']).toList = ps.toList ++ [rawInt pos.line, rawInt pos.col, .ref c'] := by simp
    by_cases hb : p.1 = P
    · rw [hu p hp hb, hb]
      refine ⟨_, by rw [upd_ne (ne_of_none hP nC), upd_same], by rw [eL]; exact PySem.TriplesOk_snoc _ _ _ _ ht, fun p' cv hcv => ?_⟩
      rw [eL] at hcv
      rcases among_app2 _ ht hcv with z | ⟨z, z1, z2⟩
      · obtain ⟨c0, e1, e2⟩ := hall p' cv z
        exact ⟨c0, e1, hE _ _ e2 codeO_ne⟩
      · refine ⟨c', z, ?_⟩
        rw [← z1, ← z2, hn]
        exact upd_same
    · obtain ⟨qs, a1, a2, a3⟩ := hT p hp
      refine ⟨qs, by rw [upd_ne (ne_of_none a1 nC), upd_ne hb]; exact a1, a2, fun p' cv hcv => ?_⟩
      obtain ⟨c0, e1, e2⟩ := a3 p' cv hcv
      exact ⟨c0, e1, hE _ _ e2 codeO_ne⟩
end
/-! ### o.m(lambda ..: ..) -/
/-- the reading: the lambda's function f is new, its cells are pinned at l while the method runs -/
def tMethL (T : List NTab) (C : Addr) (m : Str) (sp : Sp) (mk : Addr → NF) (body : Expr) (fr : List Str) (js : List Nat) (ta : TE) : TE := fun σ H Q => ta σ H fun x H1 => ∃ a dx fs, x = .ref a ∧ H1 a = some (.ins C dx fs) ∧ fs.lookup m = none ∧ TabsN T H1 ∧
  ∀ (f c' : Addr) (H2 : Hp) (l : List (Addr × Obj)), Go T [] H1 H2 → H1 f = none → H2 f = some (LamO (mk c') body f) → H2 c' = some (CodeO c' (mk c').qual) → CellsL (mk c').cl fr (js.map (slotAt σ)) l → (∀ c o, l.lookup c = some o → H2 c = none) →
    sp [.ref a, .ref f] (layP l H2) (fun v H3 => PinnedIn l H3 ∧ Q v (hid l H3)) L2.E0
section
variable {X : Cx} {k : Nat} {T : List NTab} {nm : Nat → Nat → Str} {C f c P : Addr} {m : Str} {sp : Sp} {o : Expr} {ta : TE} {params : Arguments} {body : Expr} {scope : Scope} {lpos apos pos : Pos} {fr : List Str} {js : List Nat}
theorem pe_methL {pl : Sem Bool} (he : PE X o ta) (cl : Cls X.K C) (hm : Meth X.K C m f) (F : FnR X.prog X.w X.K X.mg X.base L2.CX0 k f sp) (hr : Room k X.A)
    (B : TabB X.base X.mg c P) (hcode : X.env.code = .ref c) (hmT : (P, nm) ∈ T) (hn : nm lpos.line lpos.col = X.env.qual ++ "<lambda>") (hu : ∀ p ∈ T, p.1 = P → p.2 = nm) (hdef : defaultsOf params X.env = ([], []))
    (hfree : ∀ y ∈ scope.names, y.2 = .free → X.env.scope.names.lookup y.1 = some .cell ∨ X.env.scope.names.lookup y.1 = some .free) (hfn : ∀ y ∈ scope.names, y.2 = .free → X.fn y.1 = true) (hfr : ∀ y ∈ fr, (y, NameKind.free) ∈ scope.names) (hjs : js.map (fun j => X.N[j]?) = fr.map some)
    (ht : eval (.Call (.Attribute o m apos) [.Lambda params body scope lpos] [] pos) X.env = (do
      let ov ← eval o X.env
      standAt apos.atName
      let (f, first) ← holding [ov] (getMethod ov m pl)
      callWith pos f first (backTo pos (starEach [.Lambda params body scope lpos] X.env)) (backToKw pos (keywordEach [] X.env))) := by rfl) :
    PE X (.Call (.Attribute o m apos) [.Lambda params body scope lpos] [] pos) (tMethL T C m sp (LF (X.env.qual ++ "<lambda>") params scope (cloFrom X.env.cells scope.names [])) body fr js ta) := by
  refine ⟨fun pins s σ H Q I h => ?_⟩
  refine PySem.W.methodCall_KW (pl := pl) (thn (he.run pins s σ H _ I h) fun u s1 ⟨x, H1, I1, rx, a, dx, fs, ex, ea, l, hT, q⟩ => ?_) ht
  subst ex
  obtain rfl : u = Value.ref a := rx
  refine getmeth_ok I1 ea cl hm l ?_
  refine PySem.W.callWith_K (first := [.ref a]) (h₀ := X.base) I.ok.mod.kin hm.kp ?_ (by rfl) (by rfl)
  show wpAny _ _ (spliced ((false, eval (.Lambda params body scope lpos) X.env) :: backTo pos (starEach [] X.env))) _ _ s1
  have hfr2 : ∀ y ∈ scope.names, y.2 = .free → ∃ c, X.env.cells.lookup y.1 = some c := fun y hy e => (hfree y hy e).elim (fun z => I.ok.has _ (.inl z)) fun z => I.ok.has _ (.inr z)
  refine Calls.spliced_cons (lam_new I1 B hcode hmT hn hu hT hdef hfr2 fun g c' H2 s2 I2 e2 n2 t2 f0 hf hc => ?_)
  refine Calls.spliced_nil ⟨I2.kIn, ?_⟩
  have L := cells_layOk I2 hfree hfn
  have hq := q g c' H2 (pinsOf (cloFrom X.env.cells scope.names []) s2.heap) (Go.ofExt e2 n2 t2) f0 hf hc (cells_L I2 hfree hfr hjs) L.free
  refine wpAny_call (codeAny_mono (F X.A X.stack s2 _ [.ref a, .ref g] [.ref a, .ref g] _ _ hr (env0_lay I2.env0 L) (.cons rfl (.cons rfl .nil)) hq) fun r s' hz => ?_)
  cases r with
  | error e => exact hz.elim
  | ok fl =>
    cases fl with
    | ret u => exact I2.after (ce_hid L hz)
    | next => exact hz.elim
    | brk => exact hz.elim
    | cont => exact hz.elim
end
end Cb
/-! ## CbG -/
set_option maxHeartbeats 4000000
/-! A def that makes one nested def and returns it. -/
namespace Cb
open PySem PySem.Spec PyProof.Rows L2 LamX NdefX
/-- the promise: the made function g, its captured cells pinned at l -/
def spMaker (T : List NTab) (np : Nat) (mk : List (Str × Addr) → Addr → NF) (fr : List Str) (js : List Nat) : Sp := fun vs H Q _ => vs.length = np ∧ TabsN T H ∧
  ∀ (g c' : Addr) (H1 : Hp) (l : List (Addr × Obj)) (cl : List (Str × Addr)), Go T [] H H1 → H g = none → H1 g = some (FnO g (mk cl c')) → H1 c' = some (CodeO c' (mk cl c').qual) → CellsL cl fr (js.map fun j => vs[j]?) l → (∀ c o, l.lookup c = some o → H1 c = none) →
    Q (.ref g) (layP l H1)
section
variable {P : Program} {w : World} {K : PySem.W.Frag} {mg : Str → Option Value} {base : Heap} {k : Nat} {f c Pt : Addr} {name qual nname : Str} {params nparams : Arguments} {nbody : List Stmt} {scope nscope : Scope} {dV kV doc pm cdv ct oc : Value} {an od : Option Addr} {osl : Array (Option Value)} {N ps fr : List Str}
  {npos p1 p2 : Pos} {T : List NTab} {nm : Nat → Nat → Str} {i : Nat} {js : List Nat}
theorem start_at {N : List Str} {vs : List V} {j : Nat} {v : V} (h : vs[j]? = some v) : (L2.start N vs)[j]? = some (some v) := by
  have hj : j < vs.length := (List.getElem?_eq_some_iff.mp h).1
  unfold L2.start
  rw [List.getElem?_append_left (by rw [List.length_map]; exact hj), List.getElem?_map, h]
  rfl
theorem maker_ok (lk : K.lookup f = some ⟨oc, od, .func (PySem.W.fnOf name qual params [.FunctionDef nname nparams nbody [] none [] nscope none nname npos, .Return (some (.Name nname p1)) p2] scope dV kV doc pm an cdv ct), osl⟩) (hcd : PySem.W.codeIn K cdv qual = true) (S : FnScope N ps scope)
    (B : TabB base mg c Pt) (hc : cdv = .ref c) (hmT : (Pt, nm) ∈ T) (hn : nm npos.line npos.col = (qual ++ ".<locals>.") ++ nname) (hu : ∀ p ∈ T, p.1 = Pt → p.2 = nm)
    (hfree : ∀ y ∈ nscope.names, y.2 = .free → scope.names.lookup y.1 = some .cell ∨ scope.names.lookup y.1 = some .free) (hfr : ∀ y ∈ fr, (y, NameKind.free) ∈ nscope.names) (hjs : js.map (fun j => N[j]?) = fr.map some) (hji : ∀ j ∈ js, j < ps.length)
    (hd0 : nparams.defaults = []) (hk0 : nparams.kw_defaults = []) (ha : ∀ env : Env, annTrees nparams none env = []) (hi : N[i]? = some nname) (hip : ps.length ≤ i) (hx : scope.names.lookup nname = some .local) (hdb : (nname == ("__debug__" : Str)) = false) (hcb : (nname == ("__classdict__" : Str)) = false) :
    FnOk P w K mg base L2.CX0 (k + 1) f (PySem.W.fnOf name qual params [.FunctionDef nname nparams nbody [] none [] nscope none nname npos, .Return (some (.Name nname p1)) p2] scope dV kV doc pm an cdv ct) ps
      (spMaker T ps.length (fun cl c' => ⟨nname, (qual ++ ".<locals>.") ++ nname, nparams, nbody, nscope, cl, c'⟩) fr js) := by
  refine ⟨fun vs H Q E q => q.1, fun A outer s H args us vs Q E hr e0 hb r hsp => ?_⟩
  obtain ⟨hl, hT, hq⟩ := hsp
  have KX : K.In s.heap := e0.mod.kin.keeps fun b o e => (e0.bs b o e).1
  have lim : s.heap.NoLimit := e0.mod.nolimit.keeps fun b o e => (e0.bs b o e).1
  refine codeAny_call_function hr.depth (KX _ _ lk) rfl S.co S.gen rfl (PySem.W.codeRec_of KX hcd) (hb _ _ _ _ ?_)
  refine wpAny_newFunctionEnv_cells S.kind (fun ⟨n, v⟩ hy => ?_) fun env he s1 x => ?_
  · rcases S.par n (List.of_mem_zip hy).1 with q | q
    · exact .inl q
    · exact .inr ⟨q, PySem.W.cellsFrom_some _ _ _ (.inl q)⟩
  subst he
  refine ⟨lim.keeps x.toInCall.keep, codeAny_func ?_⟩
  have I : Inv (cxOf L2.CX0 P w K mg base N qual scope f cdv A outer s H E) [] (L2.start N vs) H s1 := inv_start S hr.hd e0 hl r x
  have hfree' : ∀ y ∈ nscope.names, y.2 = .free → (cxOf L2.CX0 P w K mg base N qual scope f cdv A outer s H E).env.scope.names.lookup y.1 = some .cell ∨ (cxOf L2.CX0 P w K mg base N qual scope f cdv A outer s H E).env.scope.names.lookup y.1 = some .free := hfree
  have st1 := ps_ndefM (X := cxOf L2.CX0 P w K mg base N qual scope f cdv A outer s H E) (T := T) (nm := nm) (c := c) (P := Pt) (name := nname) (params := nparams) (body := nbody) (scope := nscope) (pos := npos) (i := i) B hc hmT hn hu hfree' hd0 hk0 (ha _) S.nd hi (.inl hx) (.inr hx)
  refine wpAny_execs_cons (wpAny_mono (st1.run [] s1 (L2.start N vs) H ⟨fun σ' H1 => ∃ g c', σ' = (L2.start N vs).set i (some (.ref g)) ∧ Go T [] H H1 ∧ H g = none ∧ H1 g = some (FnO g ⟨nname, (qual ++ ".<locals>.") ++ nname, nparams, nbody, nscope, cloFrom (cxOf L2.CX0 P w K mg base N qual scope f cdv A outer s H E).env.cells nscope.names [], c'⟩) ∧ H1 c' = some (CodeO c' ((qual ++ ".<locals>.") ++ nname)), fun _ _ => False, fun _ _ => False, fun _ _ => False⟩ I ⟨hT, fun g c' H1 e n t f0 f1 c1 => ⟨g, c', rfl, Go.ofExt e n t, f0, f1, c1⟩⟩) (fun fl s2 h2 => ?_) fun e s' h => ?_)
  · cases fl with
    | ret u =>
      obtain ⟨_, _, _, _, _, z⟩ := h2
      exact z.elim
    | brk =>
      obtain ⟨_, _, _, z⟩ := h2
      exact z.elim
    | cont =>
      obtain ⟨_, _, _, z⟩ := h2
      exact z.elim
    | next =>
      obtain ⟨σ', H1, J, g, c', eσ, go, g0, g1, gc⟩ := h2
      have hiN : i < (L2.start N vs).length := by
        rw [I.len]
        exact (List.getElem?_eq_some_iff.mp hi).1
      have at_ : σ'[i]? = some (some (.ref g)) := by
        rw [eσ, List.getElem?_set_self hiN]
      refine wpAny_execs_cons (wpAny_Return_some (wpAny_mono ((pe_var (pos := p1) hi (.inl hx) hdb hcb).run [] s2 σ' H1 (fun v H2 => v = .ref g ∧ H2 = H1) J ⟨_, at_, rfl, rfl⟩) (fun u s3 h3 => ?_) fun e s' h => h))
      obtain ⟨v, H2, J2, rv, ev, eH⟩ := h3
      subst ev
      subst eH
      obtain rfl : u = Value.ref g := rv
      have hfn : ∀ y ∈ nscope.names, y.2 = .free → (cxOf L2.CX0 P w K mg base N qual scope f cdv A outer s H E).fn y.1 = true := fun _ _ _ => rfl
      have cL := cells_lay J2 hfree' hfn
      have L := cells_layOk J2 hfree' hfn
      have CL := cells_L J2 hfree' hfr hjs
      have ej : js.map (slotAt σ') = js.map fun j => vs[j]? := by
        refine List.map_congr_left fun j hj => ?_
        have hjp := hji j hj
        have ej2 : vs[j]? = some (vs[j]'(by rw [hl]; exact hjp)) := List.getElem?_eq_getElem _
        rw [ej2]
        refine slotAt_of ?_
        rw [eσ, List.getElem?_set_ne (by omega)]
        exact start_at ej2
      rw [ej] at CL
      refine ⟨.ref g, _, J2.os, J2.bare, ⟨fun b o e n hb hx => J2.base.keep b o e n hb hx, fun b o e n hb hx => J2.base.slot b o e n hb hx, fun b o e n hx => ?_, J2.base.there, fun b xs e => ?_, fun b o v e => ?_, fun b qs e => ?_⟩, fun a o e => ?_, rfl, hq g c' H2 _ _ go g0 g1 gc CL L.free⟩
      · have hb : (pinsOf (cloFrom (cxOf L2.CX0 P w K mg base N qual scope f cdv A outer s H E).env.cells nscope.names []) s3.heap).lookup b = none := by
          cases q : (pinsOf (cloFrom (cxOf L2.CX0 P w K mg base N qual scope f cdv A outer s H E).env.cells nscope.names []) s3.heap).lookup b with
          | none => rfl
          | some ob =>
            have z : s.heap.objs.size ≤ b := (cL b ob q).2.2.1
            exact absurd (Nat.lt_of_lt_of_le (Heap.lt_size e) z) (Nat.lt_irrefl _)
        rw [layP_out hb]
        exact J2.base.free b o e n hx
      · exact lay_keep L.free (J2.base.tups b xs e)
      · exact lay_keep L.free (J2.base.frzs b o v e)
      · obtain ⟨more, q1⟩ := J2.base.tbls b qs e
        exact ⟨more, lay_keep L.free q1⟩
      · cases e1 : (pinsOf (cloFrom (cxOf L2.CX0 P w K mg base N qual scope f cdv A outer s H E).env.cells nscope.names []) s3.heap).lookup a with
        | some ob =>
          rw [layP_at e1] at e
          rw [← Option.some.inj e]
          exact pinO_ok (L.at_ a ob e1)
        | none =>
          rw [layP_out e1] at e
          exact (J2.hok a o e).stay (fun b u _ q => q) (fun b q => lay_keep L.free q) fun b xs q => lay_keep L.free q
  · exact h
end
end Cb
/-! ## CbBs -/
set_option maxHeartbeats 4000000
/-! What the walks ask of the written part (printed by gen_bs.py). -/
namespace Cb
open PySem PySem.Spec PyProof.Rows L2
/-- a def of the module -/
structure Df (K : PySem.W.Frag) (mg : Str → Option Value) (x : Str) (st : Stmt) : Prop where
  ex : ∃ (f : Addr) (fd : FuncData), L2.Fun K x x st f fd ∧ mg x = some (.ref f)
/-- a method of the class at C -/
structure Dm (K : PySem.W.Frag) (C : Addr) (m qual : Str) (st : Stmt) : Prop where
  cls : Cls K C
  ex : ∃ (f : Addr) (fd : FuncData), Meth K C m f ∧ L2.Fun K m qual st f fd
structure Bs (K : PySem.W.Frag) (mg : Str → Option Value) (CR CA : Addr) : Prop where
  b_isinstance : mg "isinstance" = none
  b_int : mg "int" = none
  b_bool : mg "bool" = none
  b_str : mg "str" = none
  b_tuple : mg "tuple" = none
  b_len : mg "len" = none
  b_all : mg "all" = none
  b_any : mg "any" = none
  b_abs : mg "abs" = none
  b_zip : mg "zip" = none
  b_enumerate : mg "enumerate" = none
  b_range : mg "range" = none
  b_min : mg "min" = none
  b_sorted : mg "sorted" = none
  b_sum : mg "sum" = none
  b_list : mg "list" = none
  b_dict : mg "dict" = none
  s_LETTERS : ∃ t, mg "LETTERS" = some (.str "abcdefghijklmnopqrstuvwxyz" t)
  s_DIGITS : ∃ t, mg "DIGITS" = some (.str "0123456789" t)
  i_LONGEST_NAME : ∃ t, mg "LONGEST_NAME" = some (.int 8 t)
  i_LEAST_SECTION : ∃ t, mg "LEAST_SECTION" = some (.int 2 t)
  i_MOST_DIGITS : ∃ t, mg "MOST_DIGITS" = some (.int 60 t)
  i_PIECE_DIGITS : ∃ t, mg "PIECE_DIGITS" = some (.int 60 t)
  f_is_integer : Df K mg "is_integer" s_is_integer
  f_is_name : Df K mg "is_name" s_is_name
  f_is_bool : Df K mg "is_bool" s_is_bool
  f_common_divisor : Df K mg "common_divisor" s_common_divisor
  f_is_row : Df K mg "is_row" s_is_row
  f_is_list_of : Df K mg "is_list_of" s_is_list_of
  f_is_fraction : Df K mg "is_fraction" s_is_fraction
  f_is_line_shape : Df K mg "is_line_shape" s_is_line_shape
  f_is_section_shape : Df K mg "is_section_shape" s_is_section_shape
  f_is_day_shape : Df K mg "is_day_shape" s_is_day_shape
  f_is_sheet_shape : Df K mg "is_sheet_shape" s_is_sheet_shape
  f_require : Df K mg "require" s_require
  f_check_lines : Df K mg "check_lines" s_check_lines
  f_is_ascending : Df K mg "is_ascending" s_is_ascending
  f_crosses : Df K mg "crosses" s_crosses
  f_check_section : Df K mg "check_section" s_check_section
  f_check_day : Df K mg "check_day" s_check_day
  f_check_sheet : Df K mg "check_sheet" s_check_sheet
  f_is_sheet : Df K mg "is_sheet" s_is_sheet
  f_number_or_none : Df K mg "number_or_none" s_number_or_none
  f_integer_or_none : Df K mg "integer_or_none" s_integer_or_none
  f_fraction_or_none : Df K mg "fraction_or_none" s_fraction_or_none
  f_charge_or_none : Df K mg "charge_or_none" s_charge_or_none
  m_RowReader_require : Dm K CR "require" "RowReader.require" s_RowReader_require
  m_RowReader_has_more : Dm K CR "has_more" "RowReader.has_more" s_RowReader_has_more
  m_RowReader_next_word : Dm K CR "next_word" "RowReader.next_word" s_RowReader_next_word
  m_RowReader_finish : Dm K CR "finish" "RowReader.finish" s_RowReader_finish
  f_name_after : Df K mg "name_after" s_name_after
  f_line_read : Df K mg "line_read" s_line_read
  f_section_read : Df K mg "section_read" s_section_read
  f_day_read : Df K mg "day_read" s_day_read
  f_sheet_read : Df K mg "sheet_read" s_sheet_read
  f_integer_text : Df K mg "integer_text" s_integer_text
  f_fraction_text : Df K mg "fraction_text" s_fraction_text
  f_line_text : Df K mg "line_text" s_line_text
  f_sheet_text : Df K mg "sheet_text" s_sheet_text
  f_as_amount : Df K mg "as_amount" s_as_amount
  f_fresh : Df K mg "fresh" s_fresh
  f_exact_after : Df K mg "exact_after" s_exact_after
  f_state_after : Df K mg "state_after" s_state_after
  f_part : Df K mg "part" s_part
  f_lets_sheet : Df K mg "lets_sheet" s_lets_sheet
  f_L_reader : Df K mg "_law_reader" s_L_reader
  f_L_draw : Df K mg "_law_draw" s_L_draw
  f_L_divisor : Df K mg "_law_divisor" s_L_divisor
  f_L_lowest : Df K mg "_law_lowest" s_L_lowest
  f_L_floor : Df K mg "_law_floor" s_L_floor
  f_L_some_ratio : Df K mg "_law_some_ratio" s_L_some_ratio
  f_L_crosses : Df K mg "_law_crosses" s_L_crosses
  f_L_heads : Df K mg "_law_heads" s_L_heads
  f_L_random_state : Df K mg "_law_random_state" s_L_random_state
  f_L_random_sections : Df K mg "_law_random_sections" s_L_random_sections
  f_L_random_days : Df K mg "_law_random_days" s_L_random_days
  f_L_random_sheet : Df K mg "_law_random_sheet" s_L_random_sheet
  f_L_fixed_sheets : Df K mg "_law_fixed_sheets" s_L_fixed_sheets
  f_L_random_booking : Df K mg "_law_random_booking" s_L_random_booking
  f_L_fresh_of : Df K mg "_law_fresh_of" s_L_fresh_of
  f_L_moved : Df K mg "_law_moved" s_L_moved
  f_L_check_moved : Df K mg "_law_check_moved" s_L_check_moved
  f_L_check_text : Df K mg "_law_check_text" s_L_check_text
  f_law : Df K mg "law" s_law
  g_InvalidPaper : ∃ C : Addr, mg "InvalidPaper" = some (.ref C)
  g_RowReader : mg "RowReader" = some (.ref CR)
  c_RowReader : Cls K CR
  n_row_held : NoAttr K CR "row_held"
  n_words : NoAttr K CR "words"
  n_place : NoAttr K CR "place"
  i_RowReader : ∃ (f : Addr) (fd : FuncData), Mk K CR f ∧ L2.Fun K "__init__" "RowReader.__init__" s_RowReader_init f fd
section
variable {P : Program} {w : World} {K : PySem.W.Frag} {mg : Str → Option Value} {base : Heap} {x m qual : Str} {C : Addr} {st : Stmt} {N ps : List Str} {k : Nat} {sp : Sp}
theorem Df.cal (D : Df K mg x st) (S : FnScope N ps (defScope st))
    (hb : ∀ (kV doc pm : Value) (an : Option Addr) (cdv ct : Value) (us : List Value), us.length = ps.length → bindArgs (PySem.W.fnOf x x (defArgs st) (defBody st) (defScope st) .none kV doc pm an cdv ct) ⟨us, []⟩ = pure (ps.zip us))
    (len : ∀ vs H Q E, sp vs H Q E → vs.length = ps.length)
    (hbody : ∀ (f : Addr) (cdv : Value) (A : Around) (outer : List Env) (s : Shared) (H : Hp) (vs : List V) (Q : VK) (E : XK), Room k (A.deeper (envOfC x (defScope st) s.heap.objs.size f cdv)) → sp vs H Q E →
      ∃ t, PSs (cxOf L2.CX0 P w K mg base N x (defScope st) f cdv A outer s H E).nox (defBody st) t ∧ t { nx := fun _ H' => Q .non H', rt := Q } (L2.start N vs) H) : C8.Cal P w K mg base (k + 1) x sp [] := by
  obtain ⟨f, fd, F, hm⟩ := D.ex
  exact ⟨f, fd, ps, [], F.ok S len fun cdv => hbody f cdv, hm, F.kp, F.binds hb, .nil⟩
theorem Dm.met (D : Dm K C m qual st) (S : FnScope N ps (defScope st))
    (hb : ∀ (kV doc pm : Value) (an : Option Addr) (cdv ct : Value) (us : List Value), us.length = ps.length → bindArgs (PySem.W.fnOf m qual (defArgs st) (defBody st) (defScope st) .none kV doc pm an cdv ct) ⟨us, []⟩ = pure (ps.zip us))
    (len : ∀ vs H Q E, sp vs H Q E → vs.length = ps.length)
    (hbody : ∀ (f : Addr) (cdv : Value) (A : Around) (outer : List Env) (s : Shared) (H : Hp) (vs : List V) (Q : VK) (E : XK), Room k (A.deeper (envOfC qual (defScope st) s.heap.objs.size f cdv)) → sp vs H Q E →
      ∃ t, PSs (cxOf L2.CX0 P w K mg base N qual (defScope st) f cdv A outer s H E).nox (defBody st) t ∧ t { nx := fun _ H' => Q .non H', rt := Q } (L2.start N vs) H) : C8.Met P w K mg base (k + 1) C m sp [] := by
  obtain ⟨f, fd, me, F⟩ := D.ex
  exact ⟨f, fd, ps, [], D.cls, me, F.ok S len fun cdv => hbody f cdv, F.binds hb, .nil⟩
/-- a def as a value -/
theorem Cal.at_ (c : C8.Cal P w K mg base k x sp []) : ∃ f : Addr, mg x = some (.ref f) ∧ PySem.W.keepIn K (.ref f) = true ∧ FnR P w K mg base L2.CX0 k f sp := by
  obtain ⟨f, fd, ps, ds, F, hm, kp, b, d⟩ := c.ex
  refine ⟨f, hm, kp, ?_⟩
  have q := F.raw b d
  refine q.imp fun vs H Q E h => ?_
  rw [List.append_nil]
  exact h
end
end Cb
/-! ## CbU -/
set_option maxHeartbeats 4000000
/-! Comprehensions over walks, told once. -/
namespace Cb
open PySem PySem.Spec PyProof.Rows L2
open NdefX (NTab TabN TabsN)
/-- an expression whose ways meet again -/
def tM (t : TE) : TE := fun σ H Q => ∃ Q0 : VK, t σ H Q0 ∧ ∀ x H1, Q0 x H1 → Q x H1
theorem pe_m {X : Cx} {e : Expr} {t : TE} (h : PE X e t) : PE X e (tM t) := by
  refine ⟨fun pins s σ H Q I hw => ?_⟩
  obtain ⟨Q0, h0, hq⟩ := hw
  exact thn (h.run pins s σ H Q0 I h0) fun u s1 ⟨x, H1, I1, r, q⟩ => ⟨x, H1, I1, r, hq x H1 q⟩
/-- a statement whose ways meet again -/
def tMS (t : TS) : TS := fun D σ H => ∃ N0 : L2.St → Hp → Prop, t { D with nx := N0 } σ H ∧ ∀ σ' H', N0 σ' H' → D.nx σ' H'
theorem ps_m {X : Cx} {st : Stmt} {t : TS} (h : PS X st t) : PS X st (tMS t) := by
  refine ⟨fun pins s σ H D I hw => ?_⟩
  obtain ⟨N0, h0, hq⟩ := hw
  refine thn (h.run pins s σ H _ I h0) fun f s1 q => ?_
  cases f with
  | next =>
    obtain ⟨σ', H', I', q⟩ := q
    exact ⟨σ', H', I', hq _ _ q⟩
  | ret v => exact q
  | brk => exact q
  | cont => exact q
/-- pe_callF, the written part by its name -/
theorem pe_callG {X : Cx} {k i : Nat} {x : Str} {p pos : Pos} {e : Expr} {es : List Expr} {t : TA} (P : Program) (w : World) (K : PySem.W.Frag) (mg : Str → Option Value) (base : Heap) (e1 : X.prog = P) (e2 : X.w = w) (e3 : X.K = K) (e4 : X.mg = mg) (e5 : X.base = base)
    (hr : Room k X.A) (hN : X.N[i]? = some x) (hv : Vis X.env.scope x) (ha : PA X (e :: es) t) (hdb : (x == ("__debug__" : Str)) = false := by decide) (hcd : (x == ("__classdict__" : Str)) = false := by decide)
    (he : starEach (e :: es) X.env = (false, eval e X.env) :: starEach es X.env := by rfl) (hpl : (backTo pos (starEach es X.env)).any (·.1) = false := by rfl) :
    PE X (.Call (.Name x p) (e :: es) [] pos) (tCallF P w K mg base k i t) := by
  subst e1 e2 e3 e4 e5
  exact pe_callF hr hN hv ha hdb hcd he hpl
theorem iteNF {c A B : Prop} [Decidable c] (hc : ¬ c) (h : A) : if (!decide c) = true then A else B := by
  rw [decide_eq_false hc]
  exact iteT h
theorem iteD {c A B : Prop} [Decidable c] (hc : c) (h : A) : if decide c = true then A else B := by
  rw [decide_eq_true hc]
  exact iteT h
theorem iteDF {c A B : Prop} [Decidable c] (hc : ¬ c) (h : B) : if decide c = true then A else B := by
  rw [decide_eq_false hc]
  exact iteF h
section
variable {T : List NTab} {m : List Addr} {K : PySem.W.Frag} {J : It} {n : Nat} {G : Hp → Prop} {Y : Nat → Hp → V → Hp → Prop} {g : TG} {tt : TT} {te : TE} {vs : List Nat} {σ : L2.St} {H1 : Hp} {D : Addr} {Qd : Hp → Prop}
theorem lc_gen (wk : Walk J n G Y) (hD : H1 D = none) (hm : ∀ a ∈ m, H1 a ≠ none) (hn : n ≤ sizeLine) (R : Nat → List V → Hp → Prop) (h0 : R 0 [] H1) (hR : ∀ i acc H H', Go T [D] H H' → R i acc H → R i acc H') (hG : ∀ H, Go T m H1 H → G H)
    (hs : ∀ i x H H' acc, i < n → Go T m H1 H → H D = some (.lst acc) → R i acc H → Y i H x H' → ∀ (F : V → Hp → Prop) (Z : Hp → Prop), (∀ y H4, Go T m H H4 → R (i + 1) (acc ++ [y]) H4 → F y H4) → (∀ H4, Go T m H H4 → R (i + 1) acc H4 → Z H4) →
      g x (wipe σ vs) H' fun σ2 H2 => wipe σ2 vs = wipe σ vs ∧ tt σ2 H2 fun b H3 => if b = true then te σ2 H3 F else Z H3)
    (hd : ∀ H acc, Go T m H1 H → H D = some (.lst acc) → R n acc H → Qd H) :
    ∃ W : Nat → Nat → Hp → Prop, (∃ m, W 0 m (upd H1 D (.lst []))) ∧ ∀ i m H, W i m H →
      (J.stop i H ∧ Qd H) ∨ (J.go i H ∧ ∃ Nx : Hp → Prop, (∀ H', Nx H' → ∃ m', m' < m ∧ W (i + 1) m' H') ∧ ∀ x H', J.yld i H x H' → g x (wipe σ vs) H' fun σ2 H2 => wipe σ2 vs = wipe σ vs ∧ tt σ2 H2 fun b H3 =>
        if b = true then te σ2 H3 fun y H4 => ∃ acc, H4 D = some (.lst acc) ∧ acc.length < sizeLine ∧ Nx (upd H4 D (.lst (acc ++ [y]))) else Nx H3) := by
  have hDm : D ∉ m := fun z => hm D z hD
  have keepD : ∀ {H H4 : Hp} {acc : List V}, Go T m H H4 → H D = some (.lst acc) → H4 D = some (.lst acc) := fun {H H4 acc} gg e => gg.keep D _ hDm e fun ps z => by cases z
  have up : ∀ {H4 : Hp} {acc acc' : List V}, H4 D = some (.lst acc) → Go T [D] H4 (upd H4 D (.lst acc')) := fun {H4 acc acc'} e => Go.put (o1 := .lst acc) Go.refl (.inl (by simp)) e rfl
  refine lc_it wk (fun i H => Go T m H1 H ∧ ∃ acc, H D = some (.lst acc) ∧ acc.length ≤ i ∧ R i acc H) ⟨Go.new Go.refl hD, [], upd_same, Nat.le_refl _, hR 0 [] H1 _ (Go.new Go.refl hD) h0⟩ (fun i H _ h => hG H h.1) (fun i x H H' hi h y => ?_) fun H h => ?_
  · obtain ⟨g1, acc, e1, e2, e3⟩ := h
    refine hs i x H H' acc hi g1 e1 e3 y _ _ (fun v H4 g2 r => ?_) fun H4 g2 r => ?_
    · have e4 := keepD g2 e1
      refine ⟨acc, e4, by omega, (g1.trans g2).put (.inr hD) e4 rfl, _, upd_same, by simp; omega, hR _ _ _ _ (up e4) r⟩
    · exact ⟨g1.trans g2, acc, keepD g2 e1, by omega, r⟩
  · obtain ⟨g1, acc, e1, e2, e3⟩ := h
    exact hd H acc g1 e1 e3
/-- each turn makes data -/
theorem lc_dp (wk : Walk J n G Y) (hD : H1 D = none) (hm : ∀ a ∈ m, H1 a ≠ none) (hn : n ≤ sizeLine) (ds : List PyData) (hl : ds.length = n) (hf : fzAll ds = true) (hG : ∀ H, Go T m H1 H → G H)
    (hs : ∀ i x H H' d, ds[i]? = some d → Go T m H1 H → Y i H x H' → ∀ (F : V → Hp → Prop) (Z : Hp → Prop), (∀ y H4, Go T m H H4 → Dp K H4 y d → F y H4) →
      g x (wipe σ vs) H' fun σ2 H2 => wipe σ2 vs = wipe σ vs ∧ tt σ2 H2 fun b H3 => if b = true then te σ2 H3 F else Z H3)
    (hd : ∀ H acc, Go T m H1 H → H D = some (.lst acc) → DpAll K H acc ds → Qd H) :
    ∃ W : Nat → Nat → Hp → Prop, (∃ m, W 0 m (upd H1 D (.lst []))) ∧ ∀ i m H, W i m H →
      (J.stop i H ∧ Qd H) ∨ (J.go i H ∧ ∃ Nx : Hp → Prop, (∀ H', Nx H' → ∃ m', m' < m ∧ W (i + 1) m' H') ∧ ∀ x H', J.yld i H x H' → g x (wipe σ vs) H' fun σ2 H2 => wipe σ2 vs = wipe σ vs ∧ tt σ2 H2 fun b H3 =>
        if b = true then te σ2 H3 fun y H4 => ∃ acc, H4 D = some (.lst acc) ∧ acc.length < sizeLine ∧ Nx (upd H4 D (.lst (acc ++ [y]))) else Nx H3) := by
  have ft : ∀ i, fzAll (ds.take i) = true := fun i => fzAll_of fun d hd => fzAll_mem hf d (List.mem_of_mem_take hd)
  refine lc_gen (T := T) (m := m) wk hD hm hn (fun i acc H => DpAll K H acc (ds.take i)) (by simpa using DpAll.nil) (fun i acc H H' gg r => DpAll.go gg _ _ (ft i) r) hG (fun i x H H' acc hi g1 e1 r y F Z hF _ => ?_) fun H acc g1 e1 r => ?_
  · have hi' : i < ds.length := by omega
    refine hs i x H H' _ (List.getElem?_eq_getElem hi') g1 y F Z fun v H4 g2 dv => hF v H4 g2 ?_
    have e : ds.take (i + 1) = ds.take i ++ [ds[i]] := by rw [List.take_add_one, List.getElem?_eq_getElem hi'] <;> rfl
    rw [e]
    exact DpAll.snoc (DpAll.go g2 _ _ (ft i) r) dv
  · rw [← hl, List.take_length] at r
    exact hd H acc g1 e1 r
/-- each turn says True -/
theorem lc_true (wk : Walk J n G Y) (hD : H1 D = none) (hm : ∀ a ∈ m, H1 a ≠ none) (hn : n ≤ sizeLine) (hG : ∀ H, Go T m H1 H → G H)
    (hs : ∀ i x H H', i < n → Go T m H1 H → Y i H x H' → ∀ (F : V → Hp → Prop) (Z : Hp → Prop), (∀ H4, Go T m H H4 → F (.bl true) H4) →
      g x (wipe σ vs) H' fun σ2 H2 => wipe σ2 vs = wipe σ vs ∧ tt σ2 H2 fun b H3 => if b = true then te σ2 H3 F else Z H3)
    (hd : ∀ H, Go T m H1 H → H D = some (.lst ((List.replicate n true).map V.bl)) → Qd H) :
    ∃ W : Nat → Nat → Hp → Prop, (∃ m, W 0 m (upd H1 D (.lst []))) ∧ ∀ i m H, W i m H →
      (J.stop i H ∧ Qd H) ∨ (J.go i H ∧ ∃ Nx : Hp → Prop, (∀ H', Nx H' → ∃ m', m' < m ∧ W (i + 1) m' H') ∧ ∀ x H', J.yld i H x H' → g x (wipe σ vs) H' fun σ2 H2 => wipe σ2 vs = wipe σ vs ∧ tt σ2 H2 fun b H3 =>
        if b = true then te σ2 H3 fun y H4 => ∃ acc, H4 D = some (.lst acc) ∧ acc.length < sizeLine ∧ Nx (upd H4 D (.lst (acc ++ [y]))) else Nx H3) := by
  refine lc_gen (T := T) (m := m) wk hD hm hn (fun i acc H => acc = (List.replicate i true).map V.bl) rfl (fun i acc H H' gg r => r) hG (fun i x H H' acc hi g1 e1 r y F Z hF _ => ?_) fun H acc g1 e1 r => ?_
  · refine hs i x H H' hi g1 y F Z fun H4 g2 => hF _ H4 g2 ?_
    rw [r, List.replicate_succ', List.map_append]
    rfl
  · exact hd H g1 (by rw [e1, r])
theorem all_true (n : Nat) : (List.replicate n true).all id = true := by
  rw [List.all_eq_true]
  intro x hx
  rw [(List.mem_replicate.mp hx).2]
  rfl
theorem any_false (n : Nat) : (List.replicate n false).any id = false := by
  rw [List.any_eq_false]
  intro x hx
  rw [(List.mem_replicate.mp hx).2]
  simp
/-- each turn says False -/
theorem lc_false (wk : Walk J n G Y) (hD : H1 D = none) (hm : ∀ a ∈ m, H1 a ≠ none) (hn : n ≤ sizeLine) (hG : ∀ H, Go T m H1 H → G H)
    (hs : ∀ i x H H', i < n → Go T m H1 H → Y i H x H' → ∀ (F : V → Hp → Prop) (Z : Hp → Prop), (∀ H4, Go T m H H4 → F (.bl false) H4) →
      g x (wipe σ vs) H' fun σ2 H2 => wipe σ2 vs = wipe σ vs ∧ tt σ2 H2 fun b H3 => if b = true then te σ2 H3 F else Z H3)
    (hd : ∀ H, Go T m H1 H → H D = some (.lst ((List.replicate n false).map V.bl)) → Qd H) :
    ∃ W : Nat → Nat → Hp → Prop, (∃ m, W 0 m (upd H1 D (.lst []))) ∧ ∀ i m H, W i m H →
      (J.stop i H ∧ Qd H) ∨ (J.go i H ∧ ∃ Nx : Hp → Prop, (∀ H', Nx H' → ∃ m', m' < m ∧ W (i + 1) m' H') ∧ ∀ x H', J.yld i H x H' → g x (wipe σ vs) H' fun σ2 H2 => wipe σ2 vs = wipe σ vs ∧ tt σ2 H2 fun b H3 =>
        if b = true then te σ2 H3 fun y H4 => ∃ acc, H4 D = some (.lst acc) ∧ acc.length < sizeLine ∧ Nx (upd H4 D (.lst (acc ++ [y]))) else Nx H3) := by
  refine lc_gen (T := T) (m := m) wk hD hm hn (fun i acc H => acc = (List.replicate i false).map V.bl) rfl (fun i acc H H' gg r => r) hG (fun i x H H' acc hi g1 e1 r y F Z hF _ => ?_) fun H acc g1 e1 r => ?_
  · refine hs i x H H' hi g1 y F Z fun H4 g2 => hF _ H4 g2 ?_
    rw [r, List.replicate_succ', List.map_append]
    rfl
  · exact hd H g1 (by rw [e1, r])
end
end Cb
/-! ## CbW1 -/
set_option maxHeartbeats 4000000
/-! kinds.py: the small checks. -/
namespace Cb
open PySem PySem.Spec PyProof.Rows L2
variable {P : Program} {w : World} {K : PySem.W.Frag} {mg : Str → Option Value} {base : Heap} {CR CA : Addr}
def spIsInteger : Sp := fun vs H Q _ => ∃ i : Int, vs = [.int i] ∧ Q (.bl true) H
theorem c_is_integer (B : Bs K mg CR CA) : C8.Cal P w K mg base 1 "is_integer" spIsInteger [] := by
  refine B.f_is_integer.cal sc_is_integer (fun _ _ _ _ _ _ us hl => match us, hl with | [_], _ => rfl) (fun vs H Q E h => ?_) fun f cdv A outer s H vs Q E hr h => ?_
  · obtain ⟨i, rfl, _⟩ := h
    rfl
  obtain ⟨i, rfl, hQ⟩ := h
  refine ⟨_, pss_one (ps_ret (pe_and (pe_callB call_isi (by rfl) B.b_isinstance (by decide +kernel) (pa_cons (pv 0) (pa_cons (pe_bltn (v := .ty "int") (by rfl) B.b_int (by decide +kernel) rfl) pa_nil)))
    (pe_one (pe_not (pe_callB call_isi (by rfl) B.b_isinstance (by decide +kernel) (pa_cons (pv 0) (pa_cons (pe_bltn (v := .ty "bool") (by rfl) B.b_bool (by decide +kernel) rfl) pa_nil))))))), ?_⟩
  refine ⟨_, rfl, .int i, .ty "int", .type "int", .type "int", true, rfl, .ty _, .base (.int i), kit_ty (by decide +kernel), true, rfl, iteT ?_⟩
  exact ⟨_, rfl, .int i, .ty "bool", .type "int", .type "bool", false, rfl, .ty _, .base (.int i), kit_ty (by decide +kernel), false, rfl, hQ⟩
def spIsBool : Sp := fun vs H Q _ => ∃ b : Bool, vs = [.bl b] ∧ Q (.bl true) H
theorem c_is_bool (B : Bs K mg CR CA) : C8.Cal P w K mg base 1 "is_bool" spIsBool [] := by
  refine B.f_is_bool.cal sc_is_bool (fun _ _ _ _ _ _ us hl => match us, hl with | [_], _ => rfl) (fun vs H Q E h => ?_) fun f cdv A outer s H vs Q E hr h => ?_
  · obtain ⟨i, rfl, _⟩ := h
    rfl
  obtain ⟨i, rfl, hQ⟩ := h
  refine ⟨_, pss_one (ps_ret (pe_callB call_isi (by rfl) B.b_isinstance (by decide +kernel) (pa_cons (pv 0) (pa_cons (pe_bltn (v := .ty "bool") (by rfl) B.b_bool (by decide +kernel) rfl) pa_nil)))), ?_⟩
  exact ⟨_, rfl, .bl i, .ty "bool", .type "bool", .type "bool", true, rfl, .ty _, .base (.bl i), kit_ty (by decide +kernel), hQ⟩
def spCommonDivisor : Sp := fun vs H Q _ => ∃ a b : Int, vs = [.int a, .int b] ∧ 0 ≤ a ∧ 0 ≤ b ∧ Q (.int (Int.gcd a b)) H
theorem gcd_step {a b : Int} : Int.gcd b (a % b) = Int.gcd a b := by
  have h := Int.gcd_add_mul_right_right b a (-(a / b))
  have e : a + -(a / b) * b = a % b := by
    rw [Int.emod_def]
    have : b * (a / b) = a / b * b := Int.mul_comm _ _
    rw [Int.neg_mul]
    omega
  rw [e] at h
  rw [h, Int.gcd_comm]
theorem c_common_divisor (B : Bs K mg CR CA) : C8.Cal P w K mg base 1 "common_divisor" spCommonDivisor [] := by
  refine B.f_common_divisor.cal sc_common_divisor (fun _ _ _ _ _ _ us hl => match us, hl with | [_, _], _ => rfl) (fun vs H Q E h => ?_) fun f cdv A outer s H vs Q E hr h => ?_
  · obtain ⟨a, b, rfl, _⟩ := h
    rfl
  obtain ⟨a, b, rfl, ha, hb, hQ⟩ := h
  refine ⟨_, pss_cons (ps_while PassesOwn.never (pt_cmp (pc_neI (pv 1) pe_int)) (pss_one (ps_par (i := 0) (j := 1) rfl sc_common_divisor.nd rfl rfl (by decide) rfl rfl (pa_cons (pv 1) (pa_cons (pe_op op_mod (pv 0) (pv 1)) pa_nil)) (by rfl))))
    (pss_one (ps_ret (pe_callB call_abs (by rfl) B.b_abs (by decide +kernel) (pa_cons (pv 0) pa_nil)))), ?_⟩
  refine while_by (fun σ H' => H' = H ∧ ∃ x y : Int, σ = [some (.int x), some (.int y)] ∧ 0 ≤ x ∧ 0 ≤ y ∧ Int.gcd x y = Int.gcd a b) (fun σ _ => match σ with | [_, some (.int y)] => y.toNat | _ => 0) ⟨rfl, a, b, rfl, ha, hb, rfl⟩ ?_ ?_
  · rintro σ H' ⟨rfl, x, y, rfl, hx, hy, hg⟩
    refine ⟨_, rfl, _, _, rfl, rfl, _, rfl, ?_⟩
    by_cases h0 : y = 0
    · subst h0
      refine iteNS (by simp) ?_
      refine ⟨_, rfl, _, rfl, ?_⟩
      have e : (if x < 0 then -x else x) = ((Int.gcd a b : Nat) : Int) := by
        rw [if_neg (by omega), ← hg, Int.gcd_zero_right]
        omega
      rw [e]
      exact hQ
    · refine iteNF h0 ?_
      refine ⟨_, rfl, _, rfl, _, rfl, _, _, rfl, rfl, by omega, _, _, rfl, ⟨rfl, y, x % y, rfl, hy, Int.emod_nonneg _ h0, by rw [gcd_step, hg]⟩, ?_⟩
      have h1 := Int.emod_lt_of_pos x (show 0 < y by omega)
      have h2 := Int.emod_nonneg x h0
      show (x % y).toNat < y.toNat
      omega
  · rintro σ H' Q1 Q2 himp ⟨v, h1, i, j, h2, h3, b, h4, h5⟩
    exact ⟨v, h1, i, j, h2, h3, b, h4, himp _ _ h5⟩
end Cb
/-! ## CbP1 -/
set_option maxHeartbeats 4000000
/-! The plain things: fractions, lines, sections, days, sheets; no program. -/
namespace Cb
open PySem PySem.Spec PyProof.Rows L2
open PySem.W (dataLe dataLt alike alikeAll)
abbrev Fr := Int × Int
abbrev Ln := Str × Fr × Int × Bool
structure Sheet where
  ls : List Ln
  ss : List (List Str)
  ds : List (List Fr)
def eF (q : Fr) : PyData := .tuple [.int q.1, .int q.2]
def eL (l : Ln) : PyData := .tuple [.str l.1, eF l.2.1, .int l.2.2.1, .bool l.2.2.2]
def eS (s : List Str) : PyData := .tuple (s.map PyData.str)
def eD (d : List Fr) : PyData := .tuple (d.map eF)
def eSh (x : Sheet) : PyData := .tuple [.tuple (x.ls.map eL), .tuple (x.ss.map eS), .tuple (x.ds.map eD)]
def letters : Str := "abcdefghijklmnopqrstuvwxyz"
structure NameOk (x : Str) : Prop where
  one : 1 ≤ x.length
  most : x.length ≤ 8
  low : ∀ c ∈ x.cps.toList, c ∈ letters.cps.toList
structure FrOk (q : Fr) : Prop where
  pos : 0 < q.2
  gcd : Int.gcd q.1 q.2 = 1
  low : 0 ≤ q.1
  b1 : q.1 < 10 ^ 15
  b2 : q.2 < 10 ^ 15
def ltS (a b : Str) : Prop := a.cps.toList < b.cps.toList
def ltL (a b : List Str) : Prop := dataLt (eS a) (eS b) = true
/-- two sections overlap, none in the other (as the program tells it) -/
def Crs (a b : List Str) : Prop := (a.filter fun n => decide (n ∈ b)) ≠ [] ∧ (a.filter fun n => decide (n ∈ b)).length < min a.length b.length
instance {a b : List Str} : Decidable (Crs a b) := by
  unfold Crs
  infer_instance
structure LinesOk (ls : List Ln) : Prop where
  ne : ls ≠ []
  most : ls.length ≤ 6
  names : ∀ l ∈ ls, NameOk l.1
  asc : (ls.map (·.1)).Pairwise ltS
  fr : ∀ l ∈ ls, FrOk l.2.1
  cents : ∀ l ∈ ls, l.2.2.1.natAbs < 10 ^ 15
structure SecsOk (ns : List Str) (ss : List (List Str)) : Prop where
  most : ss.length ≤ 3
  len : ∀ s ∈ ss, 2 ≤ s.length ∧ s.length ≤ 6
  asc : ∀ s ∈ ss, s.Pairwise ltS
  sub : ∀ s ∈ ss, ∀ n ∈ s, n ∈ ns
  rise : ss.Pairwise ltL
  nocr : ss.Pairwise fun a b => ¬ Crs b a
structure DayOk (ls : List Ln) (d : List Fr) : Prop where
  len : d.length = ls.length
  fr : ∀ q ∈ d, FrOk q
  none : ∀ (i : Nat) l q, ls[i]? = some l → d[i]? = some q → l.2.2.2 = false → q.1 = 0
structure Good (x : Sheet) : Prop where
  ls : LinesOk x.ls
  ss : SecsOk (x.ls.map (·.1)) x.ss
  dn : x.ds.length ≤ 10
  ds : ∀ d ∈ x.ds, DayOk x.ls d
/-! ### the data never changes -/
theorem fz_eF (q : Fr) : fz (eF q) = true := by simp [eF, fz, fzAll]
theorem fz_eL (l : Ln) : fz (eL l) = true := by simp [eL, fz, fzAll, fz_eF]
theorem fz_map {α : Type} (f : α → PyData) (h : ∀ a, fz (f a) = true) (l : List α) : fzAll (l.map f) = true := fzAll_of fun d hd => by
  obtain ⟨a, _, rfl⟩ := List.mem_map.mp hd
  exact h a
theorem fz_eS (s : List Str) : fz (eS s) = true := by
  unfold eS fz
  exact fz_map _ (fun a => by simp [fz]) s
theorem fz_eD (d : List Fr) : fz (eD d) = true := by
  unfold eD fz
  exact fz_map _ fz_eF d
theorem fz_eSh (x : Sheet) : fz (eSh x) = true := by
  have h1 : fz (.tuple (x.ls.map eL)) = true := fz_map _ fz_eL _
  have h2 : fz (.tuple (x.ss.map eS)) = true := fz_map _ fz_eS _
  have h3 : fz (.tuple (x.ds.map eD)) = true := fz_map _ fz_eD _
  simp [eSh, fz, fzAll] at h1 h2 h3 ⊢
  exact ⟨h1, h2, h3⟩
/-! ### data of a heap, taken apart -/
section
variable {K : PySem.W.Frag} {H : Hp}
theorem dp_eF {v : V} {q : Fr} (h : Dp K H v (eF q)) : ∃ a, v = .ref a ∧ SqT K H a [.int q.1, .int q.2] := by
  obtain ⟨a, xs, rfl, hs, hd⟩ := dp_tup h
  obtain ⟨v1, r1, rfl, h1, hd⟩ := dpAll_cons hd
  obtain ⟨v2, r2, rfl, h2, hd⟩ := dpAll_cons hd
  cases dpAll_nil hd
  cases dp_int h1
  cases dp_int h2
  exact ⟨a, rfl, hs⟩
theorem dp_eL {v : V} {l : Ln} (h : Dp K H v (eL l)) : ∃ a w, v = .ref a ∧ SqT K H a [.str l.1, w, .int l.2.2.1, .bl l.2.2.2] ∧ Dp K H w (eF l.2.1) := by
  obtain ⟨a, xs, rfl, hs, hd⟩ := dp_tup h
  obtain ⟨v1, r1, rfl, h1, hd⟩ := dpAll_cons hd
  obtain ⟨v2, r2, rfl, h2, hd⟩ := dpAll_cons hd
  obtain ⟨v3, r3, rfl, h3, hd⟩ := dpAll_cons hd
  obtain ⟨v4, r4, rfl, h4, hd⟩ := dpAll_cons hd
  cases dpAll_nil hd
  cases dp_str h1
  cases dp_int h3
  cases dp_bl h4
  exact ⟨a, v2, rfl, hs, h2⟩
theorem dp_eS {v : V} {s : List Str} (h : Dp K H v (eS s)) : ∃ a, v = .ref a ∧ SqT K H a (s.map V.str) := by
  obtain ⟨a, xs, rfl, hs, hd⟩ := dp_tup h
  rw [dpAll_strs_inv hd] at hs
  exact ⟨a, rfl, hs⟩
theorem dp_eD {v : V} {d : List Fr} (h : Dp K H v (eD d)) : ∃ a xs, v = .ref a ∧ SqT K H a xs ∧ DpAll K H xs (d.map eF) := dp_tup h
theorem dp_eSh {v : V} {x : Sheet} (h : Dp K H v (eSh x)) : ∃ a b c d ls ss ds, v = .ref a ∧ SqT K H a [.ref b, .ref c, .ref d] ∧ SqT K H b ls ∧ DpAll K H ls (x.ls.map eL) ∧ SqT K H c ss ∧ DpAll K H ss (x.ss.map eS) ∧ SqT K H d ds ∧ DpAll K H ds (x.ds.map eD) := by
  obtain ⟨a, xs, rfl, hs, hd⟩ := dp_tup h
  obtain ⟨v1, r1, rfl, h1, hd⟩ := dpAll_cons hd
  obtain ⟨v2, r2, rfl, h2, hd⟩ := dpAll_cons hd
  obtain ⟨v3, r3, rfl, h3, hd⟩ := dpAll_cons hd
  cases dpAll_nil hd
  obtain ⟨b, ls, rfl, s1, d1⟩ := dp_tup h1
  obtain ⟨c, ss, rfl, s2, d2⟩ := dp_tup h2
  obtain ⟨d, ds, rfl, s3, d3⟩ := dp_tup h3
  exact ⟨a, b, c, d, ls, ss, ds, rfl, hs, s1, d1, s2, d2, s3, d3⟩
theorem mk_eF {a : Addr} {q : Fr} (h : SqT K H a [.int q.1, .int q.2]) : Dp K H (.ref a) (eF q) := .tup h (.cons (.int _) (.cons (.int _) .nil))
theorem mk_eL {a : Addr} {l : Ln} {w : V} (h : SqT K H a [.str l.1, w, .int l.2.2.1, .bl l.2.2.2]) (hw : Dp K H w (eF l.2.1)) : Dp K H (.ref a) (eL l) := .tup h (.cons (.str _) (.cons hw (.cons (.int _) (.cons (.bl _) .nil))))
theorem mk_eS {a : Addr} {s : List Str} (h : SqT K H a (s.map V.str)) : Dp K H (.ref a) (eS s) := .tup h (dpAll_strs s)
theorem DpAll.map_at {α : Type} {f : α → PyData} {xs : List V} {l : List α} {i : Nat} {v : V} (h : DpAll K H xs (l.map f)) (e : xs[i]? = some v) : ∃ a, l[i]? = some a ∧ Dp K H v (f a) := by
  obtain ⟨d, e1, h1⟩ := DpAll.at h e
  rw [List.getElem?_map] at e1
  cases q : l[i]? with
  | none =>
    rw [q] at e1
    cases e1
  | some a =>
    rw [q] at e1
    cases e1
    exact ⟨a, rfl, h1⟩
theorem DpAll.map_at' {α : Type} {f : α → PyData} {xs : List V} {l : List α} {i : Nat} {a : α} (h : DpAll K H xs (l.map f)) (e : l[i]? = some a) : ∃ v, xs[i]? = some v ∧ Dp K H v (f a) := DpAll.at' h (by rw [List.getElem?_map, e] <;> rfl)
theorem DpAll.map_len {α : Type} {f : α → PyData} {xs : List V} {l : List α} (h : DpAll K H xs (l.map f)) : xs.length = l.length := by
  rw [DpAll.len h, List.length_map]
end
end Cb
/-! ## CbP2 -/
set_option maxHeartbeats 4000000
/-! Data that may be compared. -/
namespace Cb
open PySem PySem.Spec PyProof.Rows L2
open PySem.W (dataLe dataLt alike alikeAll)
theorem low_small : ∀ c ∈ letters.cps.toList, c < 0x110000 := by decide +kernel
theorem strOk_name {x : Str} (h : NameOk x) : PySem.PyData.canLay0 (.str x) = true := by
  show PyData.strOk x = true
  unfold PyData.strOk
  rw [Array.all_eq_true']
  intro c hc
  exact decide_eq_true (low_small c (h.low c (Array.mem_toList_iff.mpr hc)))
theorem canLayAll_of {ds : List PyData} (h : ∀ d ∈ ds, PyData.canLay0 d = true) : PyData.canLayAll0 ds = true := by
  induction ds with
  | nil => simp [PyData.canLayAll0]
  | cons d ds ih =>
    rw [PyData.canLayAll0, h d List.mem_cons_self, ih fun e he => h e (List.mem_cons_of_mem _ he)]
    rfl
theorem canLay_map {α : Type} {f : α → PyData} {l : List α} (h : ∀ a ∈ l, PyData.canLay0 (f a) = true) : PyData.canLayAll0 (l.map f) = true := canLayAll_of fun d hd => by
  obtain ⟨a, ha, rfl⟩ := List.mem_map.mp hd
  exact h a ha
theorem canLay_eF (q : Fr) : PyData.canLay0 (eF q) = true := by simp [eF, PyData.canLay0, PyData.canLayAll0]
theorem canLay_eL {l : Ln} (h : NameOk l.1) : PyData.canLay0 (eL l) = true := by
  have := strOk_name h
  simp [eL, PyData.canLay0, PyData.canLayAll0, canLay_eF] at this ⊢
  exact this
theorem canLay_eS {s : List Str} (h : ∀ n ∈ s, NameOk n) : PyData.canLay0 (eS s) = true := by
  unfold eS PyData.canLay0
  exact canLay_map fun a ha => strOk_name (h a ha)
theorem canLay_eD (d : List Fr) : PyData.canLay0 (eD d) = true := by
  unfold eD PyData.canLay0
  exact canLay_map fun a _ => canLay_eF a
theorem canLay_eSh {x : Sheet} (h1 : ∀ l ∈ x.ls, NameOk l.1) (h2 : ∀ s ∈ x.ss, ∀ n ∈ s, NameOk n) : PyData.canLay0 (eSh x) = true := by
  have a1 : PyData.canLayAll0 (x.ls.map eL) = true := canLay_map fun a ha => canLay_eL (h1 a ha)
  have a2 : PyData.canLayAll0 (x.ss.map eS) = true := canLay_map fun a ha => canLay_eS (h2 a ha)
  have a3 : PyData.canLayAll0 (x.ds.map eD) = true := canLay_map fun a _ => canLay_eD a
  simp [eSh, PyData.canLay0, PyData.canLayAll0, a1, a2, a3]
theorem depthAll_le {n : Nat} {ds : List PyData} (h : ∀ d ∈ ds, d.depth ≤ n) : PyData.depthAll ds ≤ n := by
  induction ds with
  | nil => simp [PyData.depthAll]
  | cons d ds ih =>
    rw [PyData.depthAll]
    exact Nat.max_le.mpr ⟨h d List.mem_cons_self, ih fun e he => h e (List.mem_cons_of_mem _ he)⟩
theorem depth_map {α : Type} {f : α → PyData} {l : List α} {n : Nat} (h : ∀ a, (f a).depth ≤ n) : PyData.depthAll (l.map f) ≤ n := depthAll_le fun d hd => by
  obtain ⟨a, _, rfl⟩ := List.mem_map.mp hd
  exact h a
theorem depth_tup {ds : List PyData} {n : Nat} (h : PyData.depthAll ds ≤ n) : (PyData.tuple ds).depth ≤ n + 1 := by
  rw [PyData.depth]
  omega
theorem depth_eF (q : Fr) : (eF q).depth ≤ 1 := depth_tup (n := 0) (by simp [PyData.depthAll, PyData.depth])
theorem depth_eL (l : Ln) : (eL l).depth ≤ 2 := depth_tup (n := 1) (by
  have := depth_eF l.2.1
  simp [PyData.depthAll, PyData.depth]
  exact this)
theorem depth_eS (s : List Str) : (eS s).depth ≤ 1 := depth_tup (n := 0) (depth_map fun a => by simp [PyData.depth])
theorem depth_eD (d : List Fr) : (eD d).depth ≤ 2 := depth_tup (n := 1) (depth_map depth_eF)
theorem depth_eSh (x : Sheet) : (eSh x).depth ≤ 4 := depth_tup (n := 3) (depthAll_le fun d hd => by
  simp only [List.mem_cons, List.not_mem_nil, or_false] at hd
  rcases hd with rfl | rfl | rfl
  · exact depth_tup (depth_map depth_eL)
  · exact Nat.le_trans (depth_tup (depth_map depth_eS)) (by decide)
  · exact depth_tup (depth_map depth_eD))
theorem shaped_of {d : PyData} {n : Nat} (h : PyData.canLay0 d = true) (hd : d.depth ≤ n) (hn : n ≤ 64 := by decide) : SeqAt.shaped d = true := by
  unfold SeqAt.shaped
  rw [h, decide_eq_true (Nat.le_trans hd hn)]
  rfl
theorem shaped_tupOf {α : Type} {f : α → PyData} {l : List α} {n : Nat} (h : ∀ a ∈ l, PyData.canLay0 (f a) = true) (hd : ∀ a, (f a).depth ≤ n) (hn : n + 1 ≤ 64 := by decide) : SeqAt.shaped (.tuple (l.map f)) = true :=
  shaped_of (n := n + 1) (by rw [PyData.canLay0]; exact canLay_map h) (depth_tup (depth_map hd)) hn
theorem shaped_nil : SeqAt.shaped (.tuple []) = true := shaped_of (n := 1) (by rw [PyData.canLay0, PyData.canLayAll0]) (depth_tup (by simp [PyData.depthAll]))
theorem shaped_lnil : SeqAt.shaped (.list []) = true := shaped_of (n := 1) (by rw [PyData.canLay0, PyData.canLayAll0]) (by simp [PyData.depth, PyData.depthAll])
theorem shaped_lstOf {α : Type} {f : α → PyData} {l : List α} {n : Nat} (h : ∀ a ∈ l, PyData.canLay0 (f a) = true) (hd : ∀ a, (f a).depth ≤ n) (hn : n + 1 ≤ 64 := by decide) : SeqAt.shaped (.list (l.map f)) = true :=
  shaped_of (n := n + 1) (by rw [PyData.canLay0]; exact canLay_map h) (by have := depth_map (l := l) hd; rw [PyData.depth]; omega) hn
theorem eqv_tup_nil (ds : List PyData) : PyData.eqv (.tuple ds) (.tuple []) = ds.isEmpty := by
  cases ds with
  | nil => decide
  | cons d ds => simp [PyData.eqv, PyData.eqvAll]
theorem eqv_lst_nil (ds : List PyData) : PyData.eqv (.list ds) (.list []) = ds.isEmpty := by
  cases ds with
  | nil => decide
  | cons d ds => simp [PyData.eqv, PyData.eqvAll]
theorem alike_map {α : Type} {f : α → PyData} (h : ∀ a b, alike (f a) (f b) = true) : ∀ l m : List α, alikeAll (l.map f) (m.map f) = true
  | [], _ => by simp [alikeAll]
  | _ :: _, [] => by simp [alikeAll]
  | a :: l, b :: m => by
    rw [List.map_cons, List.map_cons, alikeAll, h a b, alike_map h l m]
    rfl
theorem alike_eS (a b : List Str) : alike (eS a) (eS b) = true := by
  unfold eS
  rw [alike]
  exact alike_map (fun a b => by simp [alike]) a b
end Cb
/-! ## CbP3 -/
set_option maxHeartbeats 4000000
/-! Texts of the plain things, as lists of code points. -/
namespace Cb
open PySem PySem.Spec PyProof.Rows L2
open SX (S)
/-- the signs of a text -/
abbrev sg (x : Str) : List Nat := x.cps.toList
theorem S_sg (x : Str) : S (sg x) = x := SX.S_tl x
theorem sg_inj {x y : Str} (h : sg x = sg y) : x = y := by rw [← S_sg x, ← S_sg y, h]
theorem S_eq {a : List Nat} {x : Str} (h : sg x = a) : S a = x := by rw [← h, S_sg]
def intL (i : Int) : List Nat := if i < 0 then 45 :: TL.numL i.natAbs else TL.numL i.natAbs
def frL (q : Fr) : List Nat := if q.2 = 1 then intL q.1 else intL q.1 ++ (47 :: intL q.2)
def wLine : List Nat := [108, 105, 110, 101]
def wEnded : List Nat := [101, 110, 100, 101, 100]
def wSection : List Nat := [115, 101, 99, 116, 105, 111, 110]
def wDay : List Nat := [100, 97, 121]
def wordsL (l : Ln) : List (List Nat) := [if l.2.2.2 = true then wLine else wEnded, sg l.1, frL l.2.1, intL l.2.2.1]
def wordsS (s : List Str) : List (List Nat) := wSection :: s.map sg
def wordsD (d : List Fr) : List (List Nat) := wDay :: d.map frL
def rowsOf (x : Sheet) : List (List (List Nat)) := x.ls.map wordsL ++ (x.ss.map wordsS ++ x.ds.map wordsD)
def rowL (ws : List (List Nat)) : List Nat := TL.joinL [32] ws
def textL (x : Sheet) : List Nat := TL.joinL [10] ((rowsOf x).map rowL)
/-! ### lengths -/
theorem intL_len {i : Int} (h : i.natAbs < 10 ^ 15) : (intL i).length ≤ 16 := by
  have q := TL.numL_len (n := i.natAbs) (k := 15) (by decide) h
  unfold intL
  split
  · rw [List.length_cons]
    omega
  · omega
theorem frL_len {q : Fr} (ok : FrOk q) : (frL q).length ≤ 33 := by
  have h1 := ok.low
  have h2 := ok.pos
  have b1 := ok.b1
  have b2 := ok.b2
  have q1 := intL_len (i := q.1) (by omega)
  have q2 := intL_len (i := q.2) (by omega)
  unfold frL
  split
  · omega
  · rw [List.length_append, List.length_cons]
    omega
theorem joinL_len (s : List Nat) : ∀ ps : List (List Nat), (TL.joinL s ps).length ≤ (ps.map List.length).sum + ps.length * s.length
  | [] => by simp [TL.joinL]
  | [p] => by simp [TL.joinL]
  | p :: q :: r => by
    have ih := joinL_len s (q :: r)
    rw [TL.joinL, List.length_append, List.length_append, List.map_cons, List.sum_cons, List.length_cons (a := p), Nat.succ_mul]
    omega
theorem sum_le {n : Nat} : ∀ {l : List Nat}, (∀ x ∈ l, x ≤ n) → l.sum ≤ l.length * n
  | [], _ => by simp
  | x :: l, h => by
    have := sum_le (l := l) fun y hy => h y (List.mem_cons_of_mem _ hy)
    have := h x List.mem_cons_self
    rw [List.sum_cons, List.length_cons, Nat.succ_mul]
    omega
theorem join_le {s : List Nat} {ps : List (List Nat)} {n : Nat} (h : ∀ p ∈ ps, p.length ≤ n) : (ps.map List.length).sum + ps.length * s.length ≤ ps.length * (n + s.length) := by
  have := sum_le (l := ps.map List.length) (n := n) fun x hx => by
    obtain ⟨p, hp, rfl⟩ := List.mem_map.mp hx
    exact h p hp
  rw [List.length_map] at this
  rw [Nat.mul_add]
  omega
theorem word_len (b : Bool) : (if b = true then wLine else wEnded).length ≤ 33 := by
  cases b <;> decide
theorem wordsL_len {l : Ln} (hn : NameOk l.1) (hf : FrOk l.2.1) (hc : l.2.2.1.natAbs < 10 ^ 15) : ∀ p ∈ wordsL l, p.length ≤ 33 := fun p hp => by
  unfold wordsL at hp
  simp only [List.mem_cons, List.not_mem_nil, or_false] at hp
  rcases hp with rfl | rfl | rfl | rfl
  · exact word_len _
  · have := hn.most
    show (sg l.1).length ≤ 33
    have e : (sg l.1).length = l.1.length := by simp [Str.length]
    omega
  · exact frL_len hf
  · have := intL_len hc
    omega
/-! ### numbers back -/
theorem numL_head : ∀ (n : Nat) (r : List Nat), TL.numL n = 48 :: r → n = 0 := by
  intro n
  induction n using Nat.strongRecOn with
  | _ n ih =>
    intro r h
    by_cases h1 : n < 10
    · rw [TL.numL_lt h1] at h
      injection h with h2 h3
      omega
    · rw [TL.numL_step (by omega)] at h
      cases e : TL.numL (n / 10) with
      | nil => exact absurd e (TL.numL_ne _)
      | cons c r' =>
        rw [e] at h
        injection h with h2 h3
        rw [h2] at e
        have := ih (n / 10) (by omega) r' e
        omega
end Cb
/-! ## CbP4 -/
set_option maxHeartbeats 4000000
/-! Texts taken apart again. -/
namespace Cb
open PySem PySem.Spec PyProof.Rows L2
open SX (S)
/-- neither a line's end nor a blank -/
def Clean (p : List Nat) : Prop := 10 ∉ p ∧ 32 ∉ p
theorem clean_num (n : Nat) : Clean (TL.numL n) := ⟨TL.numL_free (by decide), TL.numL_free (by decide)⟩
theorem clean_cons {c : Nat} {p : List Nat} (h : Clean p) (h1 : c ≠ 10) (h2 : c ≠ 32) : Clean (c :: p) := by
  refine ⟨fun z => ?_, fun z => ?_⟩
  · rcases List.mem_cons.mp z with z | z
    · exact h1 z.symm
    · exact h.1 z
  · rcases List.mem_cons.mp z with z | z
    · exact h2 z.symm
    · exact h.2 z
theorem clean_app {p q : List Nat} (h : Clean p) (k : Clean q) : Clean (p ++ q) :=
  ⟨fun z => (List.mem_append.mp z).elim h.1 k.1, fun z => (List.mem_append.mp z).elim h.2 k.2⟩
theorem clean_int (i : Int) : Clean (intL i) := by
  unfold intL
  split
  · exact clean_cons (clean_num _) (by decide) (by decide)
  · exact clean_num _
theorem clean_fr (q : Fr) : Clean (frL q) := by
  unfold frL
  split
  · exact clean_int _
  · exact clean_app (clean_int _) (clean_cons (clean_int _) (by decide) (by decide))
theorem clean_name {x : Str} (h : NameOk x) : Clean (sg x) := ⟨fun z => absurd (h.low _ z) (by decide +kernel), fun z => absurd (h.low _ z) (by decide +kernel)⟩
theorem clean_word (b : Bool) : Clean (if b = true then wLine else wEnded) := by
  cases b
  · exact ⟨by decide, by decide⟩
  · exact ⟨by decide, by decide⟩
theorem clean_wordsL {l : Ln} (h : NameOk l.1) : ∀ p ∈ wordsL l, Clean p := fun p hp => by
  unfold wordsL at hp
  simp only [List.mem_cons, List.not_mem_nil, or_false] at hp
  rcases hp with rfl | rfl | rfl | rfl
  · exact clean_word _
  · exact clean_name h
  · exact clean_fr _
  · exact clean_int _
theorem clean_wordsS {s : List Str} (h : ∀ n ∈ s, NameOk n) : ∀ p ∈ wordsS s, Clean p := fun p hp => by
  unfold wordsS at hp
  rcases List.mem_cons.mp hp with rfl | hp
  · exact ⟨by decide, by decide⟩
  · obtain ⟨n, hn, rfl⟩ := List.mem_map.mp hp
    exact clean_name (h n hn)
theorem clean_wordsD (d : List Fr) : ∀ p ∈ wordsD d, Clean p := fun p hp => by
  unfold wordsD at hp
  rcases List.mem_cons.mp hp with rfl | hp
  · exact ⟨by decide, by decide⟩
  · obtain ⟨q, _, rfl⟩ := List.mem_map.mp hp
    exact clean_fr q
theorem mem_joinL {c : Nat} {s : List Nat} : ∀ {ps : List (List Nat)}, c ∈ TL.joinL s ps → c ∈ s ∨ ∃ p ∈ ps, c ∈ p
  | [], h => by simp [TL.joinL] at h
  | [p], h => .inr ⟨p, List.mem_cons_self, by simpa [TL.joinL] using h⟩
  | p :: q :: r, h => by
    rw [TL.joinL] at h
    rcases List.mem_append.mp h with h | h
    · exact .inr ⟨p, List.mem_cons_self, h⟩
    rcases List.mem_append.mp h with h | h
    · exact .inl h
    · rcases mem_joinL (ps := q :: r) h with z | ⟨u, hu, z⟩
      · exact .inl z
      · exact .inr ⟨u, List.mem_cons_of_mem _ hu, z⟩
theorem row_no10 {ws : List (List Nat)} (h : ∀ p ∈ ws, Clean p) : 10 ∉ rowL ws := fun z => by
  rcases mem_joinL z with z | ⟨p, hp, z⟩
  · simp at z
  · exact (h p hp).1 z
theorem words_split {ws : List (List Nat)} (hne : ws ≠ []) (h : ∀ p ∈ ws, Clean p) : Txt.split (S (rowL ws)) (S [32]) = ws.map S := by
  rw [SX.split_S (by simp) (by decide)]
  unfold rowL
  rw [SX.spl_join (c := 32) (sep := []) hne fun p hp => (h p hp).2]
theorem rows_split {rs : List (List (List Nat))} (hne : rs ≠ []) (h : ∀ ws ∈ rs, ∀ p ∈ ws, Clean p) : Txt.split (S (TL.joinL [10] (rs.map rowL))) (S [10]) = (rs.map rowL).map S := by
  rw [SX.split_S (by simp) (by decide)]
  rw [SX.spl_join (c := 10) (sep := []) (by simpa using hne) fun p hp => ?_]
  obtain ⟨ws, hw, rfl⟩ := List.mem_map.mp hp
  exact row_no10 (h ws hw)
theorem Good.secNames {x : Sheet} (g : Good x) : ∀ s ∈ x.ss, ∀ n ∈ s, NameOk n := fun s hs n hn => by
  obtain ⟨l, hl, rfl⟩ := List.mem_map.mp (g.ss.sub s hs n hn)
  exact g.ls.names l hl
theorem rows_clean {x : Sheet} (g : Good x) : ∀ ws ∈ rowsOf x, ws ≠ [] ∧ ∀ p ∈ ws, Clean p := fun ws hw => by
  unfold rowsOf at hw
  rcases List.mem_append.mp hw with hw | hw
  · obtain ⟨l, hl, rfl⟩ := List.mem_map.mp hw
    exact ⟨by simp [wordsL], clean_wordsL (g.ls.names l hl)⟩
  rcases List.mem_append.mp hw with hw | hw
  · obtain ⟨s, hs, rfl⟩ := List.mem_map.mp hw
    exact ⟨by simp [wordsS], clean_wordsS (g.secNames s hs)⟩
  · obtain ⟨d, hd, rfl⟩ := List.mem_map.mp hw
    exact ⟨by simp [wordsD], clean_wordsD d⟩
theorem rows_ne {x : Sheet} (g : Good x) : rowsOf x ≠ [] := fun z => by
  unfold rowsOf at z
  have := List.append_eq_nil_iff.mp z
  exact g.ls.ne (List.map_eq_nil_iff.mp this.1)
theorem text_split {x : Sheet} (g : Good x) : Txt.split (S (textL x)) (S [10]) = ((rowsOf x).map rowL).map S := rows_split (rows_ne g) fun ws hw => (rows_clean g ws hw).2
/-- the words of each row are short -/
theorem rows_len {x : Sheet} (g : Good x) : ∀ ws ∈ rowsOf x, (rowL ws).length ≤ 3400 := fun ws hw => by
  have wl : ∀ {ws : List (List Nat)}, (∀ p ∈ ws, p.length ≤ 33) → ws.length ≤ 100 → (rowL ws).length ≤ 3400 := fun {ws} h hl => by
    have h1 := joinL_len [32] ws
    have h2 := join_le (s := [32]) h
    have h3 : ws.length * (33 + [32].length) ≤ 100 * 34 := Nat.mul_le_mul hl (by decide)
    unfold rowL
    omega
  have m := g.ls.most
  unfold rowsOf at hw
  rcases List.mem_append.mp hw with hw | hw
  · obtain ⟨l, hl, rfl⟩ := List.mem_map.mp hw
    exact wl (wordsL_len (g.ls.names l hl) (g.ls.fr l hl) (g.ls.cents l hl)) (by simp [wordsL])
  rcases List.mem_append.mp hw with hw | hw
  · obtain ⟨s, hs, rfl⟩ := List.mem_map.mp hw
    have := (g.ss.len s hs).2
    refine wl (fun p hp => ?_) (by simp [wordsS]; omega)
    rcases List.mem_cons.mp hp with rfl | hp
    · decide
    · obtain ⟨n, hn, rfl⟩ := List.mem_map.mp hp
      have := (g.secNames s hs n hn).most
      have e : (sg n).length = n.length := by simp [Str.length]
      omega
  · obtain ⟨d, hd, rfl⟩ := List.mem_map.mp hw
    have := (g.ds d hd).len
    refine wl (fun p hp => ?_) (by simp [wordsD]; omega)
    rcases List.mem_cons.mp hp with rfl | hp
    · decide
    · obtain ⟨q, hq, rfl⟩ := List.mem_map.mp hp
      exact frL_len ((g.ds d hd).fr q hq)
theorem rows_count {x : Sheet} (g : Good x) : (rowsOf x).length ≤ 19 := by
  have h1 := g.ls.most
  have h2 := g.ss.most
  have h3 := g.dn
  unfold rowsOf
  simp
  omega
theorem text_len {x : Sheet} (g : Good x) : (textL x).length ≤ 90000 := by
  have h1 := joinL_len [10] ((rowsOf x).map rowL)
  have h2 := join_le (s := [10]) (ps := (rowsOf x).map rowL) (n := 3400) fun p hp => by
    obtain ⟨ws, hw, rfl⟩ := List.mem_map.mp hp
    exact rows_len g ws hw
  have h3 := rows_count g
  rw [List.length_map] at h2
  have h4 : (rowsOf x).length * (3400 + [10].length) ≤ 19 * 3401 := Nat.mul_le_mul h3 (by decide)
  unfold textL
  rw [List.length_map] at h1
  omega
end Cb
/-! ## CbP5 -/
set_option maxHeartbeats 4000000
/-! Sorted things; no program. -/
namespace Cb
open PySem PySem.Spec PyProof.Rows L2
open PySem.W (dataLe dataLt alike alikeAll keyToks keyToksAll TotalLe sort_pairwise sort_maps sortLe sortLe_total)
section
variable {β : Type} {k : β → PyData}
theorem le_total (k : β → PyData) : TotalLe (dataLe false k) := sortLe_total _ _ _
theorem le_def {a b : β} : dataLe false k a b = !dataLt (k b) (k a) := rfl
theorem lt_strict {x y : PyData} (h : dataLt y x = false) (hne : keyToks x ≠ keyToks y) : dataLt x y = true := by
  cases q : dataLt x y with
  | true => rfl
  | false => exact absurd ((listOrd itemOrd).total _ _ q h) hne
theorem lt_asymm {x y : PyData} (h : dataLt x y = true) : dataLt y x = false := by
  cases q : dataLt y x with
  | false => rfl
  | true =>
    have t := (listOrd itemOrd).trans _ _ _ h q
    rw [(listOrd itemOrd).irrefl] at t
    cases t
theorem lt_trans' {x y z : PyData} (h : dataLt x y = true) (h2 : dataLt y z = true) : dataLt x z = true := (listOrd itemOrd).trans _ _ _ h h2
theorem lt_irrefl' {x : PyData} (h : dataLt x x = true) : False := by
  rw [show dataLt x x = false from (listOrd itemOrd).irrefl _] at h
  cases h
theorem sort_strict (k : β → PyData) {l : List β} (inj : ∀ a ∈ l, ∀ b ∈ l, keyToks (k a) = keyToks (k b) → a = b) (nd : l.Nodup) : (l.mergeSort (dataLe false k)).Pairwise fun a b => dataLt (k a) (k b) = true := by
  have p := sort_pairwise (le_total k) l
  have hp := List.mergeSort_perm l (dataLe false k)
  have nd2 : (l.mergeSort (dataLe false k)).Nodup := hp.nodup_iff.mpr nd
  have both := List.Pairwise.and p nd2
  refine both.imp_of_mem fun {a b} ha hb h => ?_
  rw [le_def] at h
  refine lt_strict (by simpa using h.1) fun e => h.2 (inj a (hp.mem_iff.mp ha) b (hp.mem_iff.mp hb) e)
theorem sort_self {l : List β} (h : l.Pairwise fun a b => dataLt (k a) (k b) = true) : l.mergeSort (dataLe false k) = l := by
  refine List.mergeSort_of_pairwise (h.imp fun {a b} q => ?_)
  rw [le_def, lt_asymm q]
  rfl
/-- two strictly rising lists of the same items -/
theorem strict_unique : ∀ {l m : List β}, l.Pairwise (fun a b => dataLt (k a) (k b) = true) → m.Pairwise (fun a b => dataLt (k a) (k b) = true) → l.Perm m → l = m := fun {l m} hl hm hp => by
  have e : l.mergeSort (dataLe false k) = l := sort_self hl
  have e2 : m.mergeSort (dataLe false k) = m := sort_self hm
  refine List.Perm.eq_of_pairwise (le := fun a b => dataLt (k a) (k b) = true) (fun a b _ _ h1 h2 => ?_) hl hm hp
  exact (lt_irrefl' (lt_trans' h1 h2)).elim
end
theorem toks_str {a b : Str} (h : keyToks (.str a) = keyToks (.str b)) : a = b := by
  simp only [keyToks] at h
  injection h with h
  injection h with h
  exact sg_inj h
theorem toks_strs : ∀ {a b : List Str}, keyToksAll (a.map PyData.str) = keyToksAll (b.map PyData.str) → a = b
  | [], [], _ => rfl
  | [], x :: b, h => by simp [keyToksAll] at h
  | x :: a, [], h => by simp [keyToksAll] at h
  | x :: a, y :: b, h => by
    simp only [List.map_cons, keyToksAll, keyToks, List.cons_append, List.nil_append] at h
    injection h with _ h
    injection h with h1 h2
    injection h1 with h1
    rw [sg_inj h1, toks_strs h2]
theorem toks_eS {a b : List Str} (h : keyToks (eS a) = keyToks (eS b)) : a = b := toks_strs (by simpa [eS, keyToks] using h)
theorem ltS_iff {a b : Str} : ltS a b ↔ dataLt (.str a) (.str b) = true := by
  unfold ltS
  rw [PySem.W.dataLt_str, decide_eq_true_iff]
def sortS (ns : List Str) : List Str := ns.mergeSort (dataLe false PyData.str)
theorem sortS_perm (ns : List Str) : (sortS ns).Perm ns := List.mergeSort_perm _ _
theorem sortS_len (ns : List Str) : (sortS ns).length = ns.length := List.length_mergeSort ..
theorem sortS_asc {ns : List Str} (h : ns.Nodup) : (sortS ns).Pairwise ltS := (sort_strict PyData.str (fun a _ b _ e => toks_str e) h).imp fun {a b} q => ltS_iff.mpr q
theorem sortS_self {ns : List Str} (h : ns.Pairwise ltS) : sortS ns = ns := sort_self (k := PyData.str) (h.imp fun {a b} q => ltS_iff.mp q)
theorem ltS_irrefl {a : Str} (h : ltS a a) : False := lt_irrefl' (ltS_iff.mp h)
theorem asc_nodup {ns : List Str} (h : ns.Pairwise ltS) : ns.Nodup := h.imp fun {a b} q z => by
  rw [z] at q
  exact ltS_irrefl q
theorem asc_unique {l m : List Str} (hl : l.Pairwise ltS) (hm : m.Pairwise ltS) (hp : l.Perm m) : l = m := strict_unique (k := PyData.str) (hl.imp fun {a b} q => ltS_iff.mp q) (hm.imp fun {a b} q => ltS_iff.mp q) hp
/-! ### names that are good -/
def nameB (x : Str) : Bool := decide (1 ≤ x.length) && (decide (x.length ≤ 8) && x.cps.toList.all fun c => decide (c ∈ letters.cps.toList))
theorem name_by {x : Str} (h : nameB x = true) : NameOk x := by
  unfold nameB at h
  simp only [Bool.and_eq_true, decide_eq_true_eq, List.all_eq_true] at h
  exact ⟨h.1, h.2.1, h.2.2⟩
def pool9 : List Str := ["a", "ab", "day", "ended", "fax", "line", "section", "tel", "zzzzzzzz"]
def pool6 : List Str := ["b", "c", "dd", "e", "f", "gaaaaaaa"]
theorem pool9_ok : ∀ n ∈ pool9, NameOk n := fun n hn => name_by (List.all_eq_true.mp (by decide +kernel : pool9.all nameB = true) n hn)
theorem pool6_ok : ∀ n ∈ pool6, NameOk n := fun n hn => name_by (List.all_eq_true.mp (by decide +kernel : pool6.all nameB = true) n hn)
theorem pool9_nd : pool9.Nodup := by decide +kernel
theorem pool6_nd : pool6.Nodup := by decide +kernel
theorem pool6_asc : pool6.Pairwise ltS := by
  unfold ltS
  decide +kernel
theorem perm_erase {α : Type} : ∀ {l : List α} {i : Nat} (h : i < l.length), (l[i] :: l.eraseIdx i).Perm l
  | a :: l, 0, _ => List.Perm.refl _
  | a :: l, i + 1, h => by
    have ih := perm_erase (l := l) (i := i) (by simpa using h)
    exact (List.Perm.swap a (l[i]'(by simpa using h)) (l.eraseIdx i)).trans (ih.cons a)
/-- one taken out of the pool -/
theorem pop_perm {α : Type} {fs ps all : List α} {i : Nat} (hi : i < ps.length) (h : (fs ++ ps).Perm all) : ((fs ++ [ps[i]]) ++ ps.eraseIdx i).Perm all := by
  refine List.Perm.trans ?_ h
  rw [List.append_assoc]
  exact List.Perm.append_left fs (perm_erase hi)
end Cb
/-! ## CbP6 -/
set_option maxHeartbeats 4000000
/-! Sections, sorted; renamed; no program. -/
namespace Cb
open PySem PySem.Spec PyProof.Rows L2
open PySem.W (dataLe dataLt alike alikeAll keyToks keyToksAll TotalLe sort_pairwise sort_maps sortLe sortLe_total)
theorem both_len {a b : List Str} (ha : a.Nodup) (hb : b.Nodup) : (a.filter fun n => decide (n ∈ b)).length = (b.filter fun n => decide (n ∈ a)).length := by
  refine List.Perm.length_eq ((List.perm_ext_iff_of_nodup (ha.filter _) (hb.filter _)).mpr fun n => ?_)
  simp only [List.mem_filter, decide_eq_true_eq]
  exact And.comm
theorem Crs.symm {a b : List Str} (ha : a.Nodup) (hb : b.Nodup) (h : Crs a b) : Crs b a := by
  obtain ⟨h1, h2⟩ := h
  have e := both_len ha hb
  refine ⟨fun z => ?_, by rw [← e, Nat.min_comm]; exact h2⟩
  have : (a.filter fun n => decide (n ∈ b)).length = 0 := by rw [e, z]; rfl
  exact h1 (List.length_eq_zero_iff.mp this)
/-- sections as they are found -/
structure FsOk (hs : List Str) (fs : List (List Str)) : Prop where
  most : fs.length ≤ 3
  each : ∀ s ∈ fs, 2 ≤ s.length ∧ s.Sublist hs
  apart : fs.Pairwise fun a b => a ≠ b ∧ ¬ Crs a b
theorem secs_of {hs : List Str} {fs : List (List Str)} (h6 : hs.length ≤ 6) (asc : hs.Pairwise ltS) (h : FsOk hs fs) : SecsOk hs (fs.mergeSort (dataLe false eS)) := by
  have hp := List.mergeSort_perm fs (dataLe false eS)
  have mem : ∀ {s}, s ∈ fs.mergeSort (dataLe false eS) → s ∈ fs := fun {s} hs => hp.mem_iff.mp hs
  have nds : ∀ s ∈ fs, s.Nodup := fun s hs => asc_nodup (asc.sublist (h.each s hs).2)
  have nd : fs.Nodup := h.apart.imp fun {a b} q => q.1
  refine ⟨by rw [List.length_mergeSort]; exact h.most, fun s hs => ⟨(h.each s (mem hs)).1, Nat.le_trans (h.each s (mem hs)).2.length_le h6⟩, fun s hs => asc.sublist (h.each s (mem hs)).2, fun s hs n hn => (h.each s (mem hs)).2.subset hn, ?_, ?_⟩
  · exact sort_strict eS (fun a _ b _ e => toks_eS e) nd
  · have p1 : fs.Pairwise fun a b => ¬ Crs a b ∧ ¬ Crs b a := by
      refine h.apart.imp_of_mem fun {a b} ha hb q => ⟨q.2, fun z => q.2 (z.symm (nds b hb) (nds a ha))⟩
    have p2 : (fs.mergeSort (dataLe false eS)).Pairwise fun a b => ¬ Crs a b ∧ ¬ Crs b a := hp.symm.pairwise p1 (fun {a b} q => ⟨q.2, q.1⟩)
    exact p2.imp fun {a b} q => q.2
theorem eqv_strs : ∀ a b : List Str, PyData.eqvAll (a.map PyData.str) (b.map PyData.str) = decide (a = b)
  | [], [] => by simp [PyData.eqvAll]
  | [], y :: b => by simp [PyData.eqvAll]
  | x :: a, [] => by simp [PyData.eqvAll]
  | x :: a, y :: b => by
    rw [List.map_cons, List.map_cons, PyData.eqvAll, eqv_strs a b, PyData.eqv]
    by_cases h : x = y
    · subst h
      simp
    · simp [h]
theorem eqv_eS (a b : List Str) : PyData.eqv (eS a) (eS b) = decide (a = b) := by
  unfold eS
  rw [PyData.eqv]
  exact eqv_strs a b
end Cb
/-! ## CbP7 -/
set_option maxHeartbeats 4000000
/-! The five fixed sheets are good. -/
namespace Cb
open PySem PySem.Spec PyProof.Rows L2
open PySem.W (dataLe dataLt alike alikeAll AllAlike Sortable)
instance {x : Str} : Decidable (NameOk x) := decidable_of_iff (1 ≤ x.length ∧ x.length ≤ 8 ∧ ∀ c ∈ x.cps.toList, c ∈ letters.cps.toList) ⟨fun ⟨a, b, c⟩ => ⟨a, b, c⟩, fun ⟨a, b, c⟩ => ⟨a, b, c⟩⟩
instance {q : Fr} : Decidable (FrOk q) := decidable_of_iff (0 < q.2 ∧ Int.gcd q.1 q.2 = 1 ∧ 0 ≤ q.1 ∧ q.1 < 10 ^ 15 ∧ q.2 < 10 ^ 15) ⟨fun ⟨a, b, c, d, e⟩ => ⟨a, b, c, d, e⟩, fun ⟨a, b, c, d, e⟩ => ⟨a, b, c, d, e⟩⟩
instance {a b : Str} : Decidable (ltS a b) := by
  unfold ltS
  infer_instance
instance {a b : List Str} : Decidable (ltL a b) := by
  unfold ltL
  infer_instance
instance {ls : List Ln} : Decidable (LinesOk ls) := decidable_of_iff (ls ≠ [] ∧ ls.length ≤ 6 ∧ (∀ l ∈ ls, NameOk l.1) ∧ (ls.map (·.1)).Pairwise ltS ∧ (∀ l ∈ ls, FrOk l.2.1) ∧ ∀ l ∈ ls, l.2.2.1.natAbs < 10 ^ 15)
  ⟨fun ⟨a, b, c, d, e, f⟩ => ⟨a, b, c, d, e, f⟩, fun ⟨a, b, c, d, e, f⟩ => ⟨a, b, c, d, e, f⟩⟩
instance {ns : List Str} {ss : List (List Str)} : Decidable (SecsOk ns ss) := decidable_of_iff (ss.length ≤ 3 ∧ (∀ s ∈ ss, 2 ≤ s.length ∧ s.length ≤ 6) ∧ (∀ s ∈ ss, s.Pairwise ltS) ∧ (∀ s ∈ ss, ∀ n ∈ s, n ∈ ns) ∧ ss.Pairwise ltL ∧ ss.Pairwise fun a b => ¬ Crs b a)
  ⟨fun ⟨a, b, c, d, e, f⟩ => ⟨a, b, c, d, e, f⟩, fun ⟨a, b, c, d, e, f⟩ => ⟨a, b, c, d, e, f⟩⟩
theorem dayOk_zip {ls : List Ln} {d : List Fr} (h : d.length = ls.length ∧ (∀ q ∈ d, FrOk q) ∧ ∀ p ∈ ls.zip d, p.1.2.2.2 = false → p.2.1 = 0) : DayOk ls d :=
  ⟨h.1, h.2.1, fun i l q hl hq => h.2.2 (l, q) (List.mem_of_getElem? (i := i) (by rw [List.getElem?_zip_eq_some]; exact ⟨hl, hq⟩))⟩
theorem good_by {x : Sheet} (h : LinesOk x.ls ∧ SecsOk (x.ls.map (·.1)) x.ss ∧ x.ds.length ≤ 10 ∧ ∀ d ∈ x.ds, d.length = x.ls.length ∧ (∀ q ∈ d, FrOk q) ∧ ∀ p ∈ x.ls.zip d, p.1.2.2.2 = false → p.2.1 = 0) : Good x :=
  ⟨h.1, h.2.1, h.2.2.1, fun d hd => dayOk_zip (h.2.2.2 d hd)⟩
def twoL : List Ln := [("fax", (1, 2), 1, true), ("tel", (3, 4), 0, true)]
def headsF : List Str := ["a", "ab", "day", "ended", "line", "section"]
def sixL : List Ln := [("a", (999999, 10000), 100, true), ("ab", (999999, 10000), 99, true), ("day", (999999, 10000), 98, false), ("ended", (999999, 10000), 97, true), ("line", (999999, 10000), 96, true), ("section", (999999, 10000), 95, true)]
def farD : List Fr := [(0, 1), (1000, 7), (0, 1), (3000, 7), (4000, 7), (5000, 7)]
def fixed1 : Sheet := ⟨[("a", (0, 1), 0, true)], [], []⟩
def fixed2 : Sheet := ⟨twoL, [["fax", "tel"]], [[(1, 3), (1, 2)], [(0, 1), (5, 4)]]⟩
def fixed3 : Sheet := ⟨sixL, [["a", "ab"], ["a", "ab", "day", "ended"], ["line", "section"]], List.replicate 10 farD⟩
def fixed4 : Sheet := ⟨[("b", (7, 2), -4, false)], [], List.replicate 3 [(0, 1)]⟩
def fixed5 : Sheet := ⟨twoL, [], []⟩
theorem good1 : Good fixed1 := good_by (by decide +kernel)
theorem good2 : Good fixed2 := good_by (by decide +kernel)
theorem good3 : Good fixed3 := good_by (by decide +kernel)
theorem good4 : Good fixed4 := good_by (by decide +kernel)
theorem good5 : Good fixed5 := good_by (by decide +kernel)
end Cb
/-! ## CbW2 -/
set_option maxHeartbeats 4000000
/-! kinds.py: names, rows, lists of checked things. -/
namespace Cb
open PySem PySem.Spec PyProof.Rows L2
open NdefX (NTab TabN TabsN)
variable {P : Program} {w : World} {K : PySem.W.Frag} {mg : Str → Option Value} {base : Heap} {CR CA : Addr} {T : List NTab}
theorem small {n : Nat} (h : n ≤ 100000) : n ≤ sizeLine := Nat.le_trans h (by decide)
def spIsName (T : List NTab) : Sp := fun vs H Q _ => ∃ x : Str, vs = [.str x] ∧ NameOk x ∧ ∀ H', Go T [] H H' → Q (.bl true) H'
theorem c_is_name (B : Bs K mg CR CA) : C8.Cal P w K mg base 1 "is_name" (spIsName T) [] := by
  obtain ⟨tL, hL⟩ := B.s_LETTERS
  obtain ⟨tN, hN⟩ := B.i_LONGEST_NAME
  refine B.f_is_name.cal sc_is_name (fun _ _ _ _ _ _ us hl => match us, hl with | [_], _ => rfl) (fun vs H Q E h => ?_) fun f cdv A outer s H vs Q E hr h => ?_
  · obtain ⟨i, rfl, _⟩ := h
    rfl
  obtain ⟨x, rfl, ok, hQ⟩ := h
  have l1 := ok.one
  have l2 := ok.most
  refine ⟨_, pss_cons (ps_if (PW.pt (pw_or (pt_not (pt_val (pe_callB call_isi (by rfl) B.b_isinstance (by decide +kernel) (pa_cons (pv 0) (pa_cons (pe_bltn (v := .ty "str") (by rfl) B.b_str (by decide +kernel) rfl) pa_nil)))))
      (pw_or1 (pt_not (pt_chain op_le op_le pe_int (pe_callB call_len_str (by rfl) B.b_len (by decide +kernel) (pa_cons (pv 0) pa_nil)) (pe_glob (v := .int 8) (by rfl) hN ⟨_, rfl⟩)))))) (pss_one (ps_ret pe_bl)) pss_nil)
    (pss_one (ps_ret (pe_callB (cr_all rfl) (by rfl) B.b_all (by decide +kernel) (pa_cons (pe_lc (own := [("char", 1)]) (g := gName 1) (by rfl) sc_is_name.nd (pi_str (pv 0)) (blkOk_by (own := [("char", 1)]) (N := N_is_name) (sc := defScope s_is_name) (by decide +kernel))
      (fun _ _ _ _ _ => pg_name (i := 1) sc_is_name.nd rfl (Or.inl rfl)) (fun _ _ _ _ _ => pts_nil) (fun _ _ _ _ _ => pe_cmpR op_in_sign (pv 1) (pe_glob (v := .str letters) (by rfl) hL ⟨_, rfl⟩) (by rfl))) pa_nil)))), ?_⟩
  refine ⟨_, rfl, .str x, .ty "str", .type "str", .type "str", true, rfl, .ty _, .base (.str x), kit_ty (by decide +kernel), true, rfl, ?_⟩
  refine iteF ?_
  refine ⟨_, rfl, x, rfl, small (by omega), ?_⟩
  refine ⟨_, _, rfl, rfl, _, rfl, ?_⟩
  refine iteD (by omega) ?_
  refine ⟨_, _, rfl, rfl, _, rfl, ?_⟩
  rw [show decide (((x.length : Nat) : Int) ≤ 8) = true from decide_eq_true (by omega)]
  refine iteF ?_
  refine ⟨_, rfl, x, rfl, fun D hD => ?_⟩
  refine lc_true (T := T) (m := []) walk_str hD (fun a ha => absurd ha (by simp)) (small (by have : x.cps.size = x.length := rfl; omega)) (fun _ _ => True.intro) (fun i v H1 H2 hi g y F Z hF => ?_) fun H1 g e => ?_
  · obtain ⟨rfl, c, hc, rfl⟩ := y
    refine ⟨rfl, _, rfl, c, letters, rfl, rfl, ?_⟩
    rw [show decide (c ∈ letters.cps.toList) = true from decide_eq_true (ok.low c (Array.mem_toList_iff.mpr (Array.mem_of_getElem? hc)))]
    exact hF _ Go.refl
  · refine ⟨_, _, rfl, SqL.of e, ?_⟩
    rw [all_true]
    exact hQ H1 g
theorem tyx_tup {H : Hp} {a : Addr} {xs : List V} (h : SqT K H a xs) : TyX K H (.ref a) (.type "tuple") := by
  rcases h with (h | ⟨o, h⟩) | h
  · exact .base (.tup h)
  · exact .fTuple h
  · obtain ⟨o, its, n, l, c, _⟩ := h
    exact .kTuple l c
/-- f says True of v, now and later -/
def Chk (P : Program) (w : World) (K : PySem.W.Frag) (mg : Str → Option Value) (base : Heap) (k : Nat) (T : List NTab) (H : Hp) (f : Addr) (v : V) : Prop :=
  ∃ sp, FnR P w K mg base L2.CX0 k f sp ∧ PySem.W.keepIn K (.ref f) = true ∧ ∀ H1, Go T [] H H1 → ∀ Q : VK, (∀ H2, Go T [] H1 H2 → Q (.bl true) H2) → sp [v] H1 Q L2.E0
def spIsListOf (P : Program) (w : World) (K : PySem.W.Frag) (mg : Str → Option Value) (base : Heap) (k : Nat) (T : List NTab) : Sp := fun vs H Q _ => ∃ (a f : Addr) (xs : List V), vs = [.ref a, .ref f] ∧ SqT K H a xs ∧ xs.length ≤ 1000 ∧ (∀ v ∈ xs, Chk P w K mg base k T H f v) ∧ ∀ H', Go T [] H H' → Q (.bl true) H'
theorem c_is_list_of (B : Bs K mg CR CA) (k : Nat) : C8.Cal P w K mg base (k + 1) "is_list_of" (spIsListOf P w K mg base k T) [] := by
  refine B.f_is_list_of.cal sc_is_list_of (fun _ _ _ _ _ _ us hl => match us, hl with | [_, _], _ => rfl) (fun vs H Q E h => ?_) fun f cdv A outer s H vs Q E hr h => ?_
  · obtain ⟨a, f, xs, rfl, _⟩ := h
    rfl
  obtain ⟨a, f, xs, rfl, hx, hz, hc, hQ⟩ := h
  refine ⟨_, pss_one (ps_ret (pe_and (pe_callB call_isi (by rfl) B.b_isinstance (by decide +kernel) (pa_cons (pv 0) (pa_cons (pe_bltn (v := .ty "tuple") (by rfl) B.b_tuple (by decide +kernel) rfl) pa_nil)))
    (pe_one (pe_callB (cr_all rfl) (by rfl) B.b_all (by decide +kernel) (pa_cons (pe_lc (own := [("item", 2)]) (g := gName 2) (by rfl) sc_is_list_of.nd (pi_tup (pv 0)) (blkOk_by (own := [("item", 2)]) (N := N_is_list_of) (sc := defScope s_is_list_of) (by decide +kernel))
      (fun _ _ _ _ _ => pg_name (i := 2) sc_is_list_of.nd rfl (Or.inl rfl)) (fun _ _ _ _ _ => pts_nil) (fun _ _ _ _ _ => pe_callG (k := k) (i := 1) P w K mg base rfl rfl rfl rfl rfl hr rfl (by first | exact Or.inl rfl | exact Or.inr (Or.inl rfl) | exact Or.inr (Or.inr rfl)) (pa_cons (pv 2) pa_nil))) pa_nil))))), ?_⟩
  refine ⟨_, rfl, .ref a, .ty "tuple", .type "tuple", .type "tuple", true, rfl, .ty _, tyx_tup hx, kit_ty (by decide +kernel), true, rfl, iteT ?_⟩
  refine ⟨_, rfl, a, rfl, ⟨_, hx⟩, fun D hD => ?_⟩
  refine lc_true (T := T) (m := []) (walk_tup (xs := xs)) hD (fun a ha => absurd ha (by simp)) (small (by omega)) (fun H1 g => sqT_go g hx) (fun i v H1 H2 hi g y F Z hF => ?_) fun H1 g e => ?_
  · obtain ⟨rfl, hv⟩ := y
    obtain ⟨sp, F1, kp, hsp⟩ := hc v (List.mem_of_getElem? hv)
    refine ⟨rfl, f, sp, rfl, F1, .inl kp, ⟨_, rfl, .inl kp, ?_⟩⟩
    exact hsp _ g _ fun H4 g4 => hF H4 g4
  · refine ⟨_, _, rfl, SqL.of e, ?_⟩
    rw [all_true]
    exact hQ H1 g
theorem walk_zipT {a b : Addr} {xs ys : List V} {n : Nat} (hn : n = min xs.length ys.length) : Walk (RZ.ItzT K a b) n (fun H => SqT K H a xs ∧ SqT K H b ys) (YPair (fun i => xs[i]?) (fun i => ys[i]?)) := by
  subst hn
  refine ⟨fun i _ hi q => ?_, fun _ q => ⟨xs, ys, q.1, q.2, by omega⟩, fun i H v H' _ q y => ?_⟩
  · have h1 : i < xs.length := by omega
    have h2 : i < ys.length := by omega
    exact ⟨xs, ys, xs[i], ys[i], q.1, q.2, by simp [h1], by simp [h2]⟩
  · obtain ⟨T, x, z, h1, h2, h3, h4, h5⟩ := y
    exact ⟨T, x, z, h1, h2, h3, h4 xs q.1, h5 ys q.2⟩
def spIsRow (P : Program) (w : World) (K : PySem.W.Frag) (mg : Str → Option Value) (base : Heap) (k : Nat) (T : List NTab) : Sp := fun vs H Q _ => ∃ (a b : Addr) (xs : List V) (fs : List Addr), vs = [.ref a, .ref b] ∧ SqT K H a xs ∧ SqT K H b (fs.map V.ref) ∧ xs.length = fs.length ∧ xs.length ≤ 1000 ∧
  (∀ (i : Nat) v f, xs[i]? = some v → fs[i]? = some f → Chk P w K mg base k T H f v) ∧ ∀ H', Go T [] H H' → Q (.bl true) H'
theorem c_is_row (B : Bs K mg CR CA) (k : Nat) : C8.Cal P w K mg base (k + 1) "is_row" (spIsRow P w K mg base k T) [] := by
  refine B.f_is_row.cal sc_is_row (fun _ _ _ _ _ _ us hl => match us, hl with | [_, _], _ => rfl) (fun vs H Q E h => ?_) fun f cdv A outer s H vs Q E hr h => ?_
  · obtain ⟨a, b, xs, fs, rfl, _⟩ := h
    rfl
  obtain ⟨a, b, xs, fs, rfl, hx, hf, hl, hz, hc, hQ⟩ := h
  refine ⟨_, pss_cons (ps_if (PW.pt (pw_or (pt_not (pt_val (pe_callB call_isi (by rfl) B.b_isinstance (by decide +kernel) (pa_cons (pv 0) (pa_cons (pe_bltn (v := .ty "tuple") (by rfl) B.b_tuple (by decide +kernel) rfl) pa_nil)))))
      (pw_or1 (pt_cmp (pc_neI (pe_callB call_len_seq (by rfl) B.b_len (by decide +kernel) (pa_cons (pv 0) pa_nil)) (pe_callB call_len_seq (by rfl) B.b_len (by decide +kernel) (pa_cons (pv 1) pa_nil))))))) (pss_one (ps_ret pe_bl)) pss_nil)
    (pss_one (ps_ret (pe_callB (cr_all rfl) (by rfl) B.b_all (by decide +kernel) (pa_cons (pe_lc (own := [("check", 2), ("item", 3)]) (g := gTup K 2 (gCons (gName 2) (gCons (gName 3) gNil))) (by rfl) sc_is_row.nd (RZ.pi_zipA (by rfl) B.b_zip (pa_cons (pv 1) (pa_cons (pv 0) pa_nil))) (blkOk_by (own := [("check", 2), ("item", 3)]) (N := N_is_row) (sc := defScope s_is_row) (by decide +kernel))
      (fun _ _ _ _ _ => pg_tup (by rfl) (pgs_cons (pg_name (i := 2) sc_is_row.nd rfl (Or.inl rfl)) (pgs_cons (pg_name (i := 3) sc_is_row.nd rfl (Or.inl rfl)) pgs_nil))) (fun _ _ _ _ _ => pts_nil) (fun _ _ _ _ _ => pe_callG (k := k) (i := 2) P w K mg base rfl rfl rfl rfl rfl hr rfl (Or.inl rfl) (pa_cons (pv 3) pa_nil))) pa_nil)))), ?_⟩
  refine ⟨_, rfl, .ref a, .ty "tuple", .type "tuple", .type "tuple", true, rfl, .ty _, tyx_tup hx, kit_ty (by decide +kernel), true, rfl, iteF ?_⟩
  refine ⟨_, rfl, a, xs, rfl, .inr hx, _, rfl, b, _, rfl, .inr hf, _, _, rfl, rfl, _, rfl, ?_⟩
  refine iteNS (by rw [List.length_map, hl]) ?_
  refine ⟨_, rfl, _, rfl, b, a, _, xs, rfl, .inr ⟨hf, hx, fun D hD => ?_⟩⟩
  refine lc_true (T := T) (m := []) (walk_zipT (n := xs.length) (xs := fs.map V.ref) (ys := xs) (by rw [List.length_map]; omega)) hD (fun a ha => absurd ha (by simp)) (small (by omega)) (fun H1 g => ⟨sqT_go g hf, sqT_go g hx⟩) (fun i v H1 H2 hi g y F Z hF => ?_) fun H1 g e => ?_
  · obtain ⟨p, x, z, rfl, np, rfl, e1, e2⟩ := y
    have hi2 : i < fs.length := by omega
    have e1 : (fs.map V.ref)[i]? = some x := e1
    rw [List.getElem?_map, List.getElem?_eq_getElem hi2] at e1
    cases e1
    obtain ⟨sp, F1, kp, hsp⟩ := hc i z fs[i] e2 (List.getElem?_eq_getElem hi2)
    have gn := g.new (o := .tup [V.ref fs[i], z]) np
    refine ⟨p, _, rfl, .inl (.inl upd_same), rfl, _, _, rfl, _, _, rfl, ?_⟩
    refine ⟨rfl, rfl, fs[i], sp, rfl, F1, .inl kp, ⟨_, rfl, .inl kp, ?_⟩⟩
    exact hsp _ gn _ fun H4 g4 => hF H4 (Go.new Go.refl np |>.trans g4)
  · refine ⟨_, _, rfl, SqL.of e, ?_⟩
    rw [all_true]
    exact hQ H1 g
end Cb
/-! ## CbW3 -/
set_option maxHeartbeats 4000000
/-! kinds.py: the shapes. -/
namespace Cb
open PySem PySem.Spec PyProof.Rows L2
open NdefX (NTab TabN TabsN)
open C8 (pe_c pe_mt pe_mt0 pe_mk)
variable {P : Program} {w : World} {K : PySem.W.Frag} {mg : Str → Option Value} {base : Heap} {CR CA : Addr} {T : List NTab}
/-- True of each value that is told as data that Good says -/
def spOk (T : List NTab) (K : PySem.W.Frag) (α : Type) (enc : α → PyData) (ok : α → Prop) : Sp := fun vs H Q _ => ∃ v a, vs = [v] ∧ Dp K H v (enc a) ∧ ok a ∧ ∀ H', Go T [] H H' → Q (.bl true) H'
theorem chk_ok {k : Nat} {x : Str} {α : Type} {enc : α → PyData} {ok : α → Prop} {H : Hp} {v : V} {a : α} (hz : ∀ a, fz (enc a) = true) (c : C8.Cal P w K mg base k x (spOk T K α enc ok) []) (hv : Dp K H v (enc a)) (ha : ok a) : ∃ f, mg x = some (.ref f) ∧ Chk P w K mg base k T H f v := by
  obtain ⟨f, hm, kp, F⟩ := Cal.at_ c
  exact ⟨f, hm, _, F, kp, fun H1 g Q hQ => ⟨v, a, rfl, Dp.go g _ _ (hz a) hv, ha, hQ⟩⟩
theorem c_is_fraction (B : Bs K mg CR CA) : C8.Cal P w K mg base 3 "is_fraction" (spOk T K Fr eF FrOk) [] := by
  obtain ⟨fi, gi, ki, Fi⟩ := Cal.at_ (c_is_integer (P := P) (w := w) (base := base) B)
  refine B.f_is_fraction.cal sc_is_fraction (fun _ _ _ _ _ _ us hl => match us, hl with | [_], _ => rfl) (fun vs H Q E h => ?_) fun f cdv A outer s H vs Q E hr h => ?_
  · obtain ⟨v, q, rfl, _⟩ := h
    rfl
  obtain ⟨v, q, rfl, hv, ok, hQ⟩ := h
  obtain ⟨a, rfl, ha⟩ := dp_eF hv
  refine ⟨_, pss_cons (ps_if (pt_not (pt_val (pe_c (c_is_row (T := T) B 1) hr (by decide) (by rfl) (pa_cons (pv 0) (pa_cons (pe_tup (pa_cons (pe_glob (v := .ref fi) (by rfl) gi rfl) (pa_cons (pe_glob (v := .ref fi) (by rfl) gi rfl) pa_nil))) pa_nil))))) (pss_one (ps_ret pe_bl)) pss_nil)
    (pss_cons (ps_asg (pv 0) (pg_tup (by rfl) (pgs_cons (pg_name (i := 1) sc_is_fraction.nd rfl (Or.inl rfl)) (pgs_cons (pg_name (i := 2) sc_is_fraction.nd rfl (Or.inl rfl)) pgs_nil))))
    (pss_one (ps_ret (pe_and (pe_cmp (pc_gt (pv 2) pe_int) rfl) (pe_one (pe_cmp (pc_eqI (pe_c (c_common_divisor B) hr (by decide) (by rfl) (pa_cons (pv 1) (pa_cons (pv 2) pa_nil))) pe_int) rfl)))))), ?_⟩
  refine ⟨_, rfl, (by show 2 ≤ sizeLine; decide), fun p np => ⟨a, p, _, [fi, fi], rfl, sqT_go (Go.new (T := T) (m := []) Go.refl np) ha, .inl (.inl upd_same), rfl, (by show 2 ≤ 1000; decide), fun i v f e1 e2 => ?_, fun H1 g1 => ?_⟩⟩
  · have hf : f = fi := by
      rcases i with _ | _ | i <;> simp at e2 <;> exact e2.symm
    subst hf
    refine ⟨_, Fi, ki, fun H1 g Q hQ => ?_⟩
    rcases i with _ | _ | i
    · simp at e1
      exact ⟨_, by rw [← e1], hQ H1 Go.refl⟩
    · simp at e1
      exact ⟨_, by rw [← e1], hQ H1 Go.refl⟩
    · simp at e1
  · refine ⟨true, rfl, iteF ?_⟩
    have g2 : Go T [] H H1 := (Go.new Go.refl np).trans g1
    refine ⟨_, rfl, a, _, rfl, sqT_go g2 ha, rfl, _, _, rfl, _, _, rfl, rfl, ?_⟩
    refine ⟨_, rfl, _, _, rfl, rfl, _, rfl, ?_⟩
    refine iteD ok.pos ?_
    refine ⟨_, rfl, _, rfl, q.1, q.2, rfl, ok.low, by have := ok.pos; omega, _, _, rfl, rfl, ?_⟩
    rw [ok.gcd]
    exact hQ H1 g2
theorem Chk.of {j k : Nat} {H : Hp} {f : Addr} {v : V} {sp : Sp} (F : FnR P w K mg base L2.CX0 j f sp) (h : j ≤ k) (kp : PySem.W.keepIn K (.ref f) = true) (hsp : ∀ H1, Go T [] H H1 → ∀ Q : VK, (∀ H2, Go T [] H1 H2 → Q (.bl true) H2) → sp [v] H1 Q L2.E0) : Chk P w K mg base k T H f v :=
  ⟨sp, F.mono h, kp, hsp⟩
structure LnOk (l : Ln) : Prop where
  name : NameOk l.1
  fr : FrOk l.2.1
theorem c_is_line_shape (B : Bs K mg CR CA) : C8.Cal P w K mg base 5 "is_line_shape" (spOk T K Ln eL LnOk) [] := by
  obtain ⟨fi, gi, ki, Fi⟩ := Cal.at_ (c_is_integer (P := P) (w := w) (base := base) B)
  obtain ⟨fn, gn, kn, Fn⟩ := Cal.at_ (c_is_name (P := P) (w := w) (base := base) (T := T) B)
  obtain ⟨fb, gb, kb, Fb⟩ := Cal.at_ (c_is_bool (P := P) (w := w) (base := base) B)
  obtain ⟨ff, gf, kf, Ff⟩ := Cal.at_ (c_is_fraction (P := P) (w := w) (base := base) (T := T) B)
  refine B.f_is_line_shape.cal sc_is_line_shape (fun _ _ _ _ _ _ us hl => match us, hl with | [_], _ => rfl) (fun vs H Q E h => ?_) fun f cdv A outer s H vs Q E hr h => ?_
  · obtain ⟨v, q, rfl, _⟩ := h
    rfl
  obtain ⟨v, l, rfl, hv, ok, hQ⟩ := h
  obtain ⟨a, wf, rfl, ha, hf⟩ := dp_eL hv
  refine ⟨_, pss_one (ps_ret (pe_c (c_is_row (T := T) B 3) hr (by decide) (by rfl) (pa_cons (pv 0) (pa_cons (pe_tup (pa_cons (pe_glob (v := .ref fn) (by rfl) gn rfl) (pa_cons (pe_glob (v := .ref ff) (by rfl) gf rfl) (pa_cons (pe_glob (v := .ref fi) (by rfl) gi rfl) (pa_cons (pe_glob (v := .ref fb) (by rfl) gb rfl) pa_nil))))) pa_nil)))), ?_⟩
  refine ⟨_, rfl, (by show 4 ≤ sizeLine; decide), fun p np => ?_⟩
  have g0 : Go T [] H (upd H p (.tup [.ref fn, .ref ff, .ref fi, .ref fb])) := Go.new Go.refl np
  refine ⟨a, p, _, [fn, ff, fi, fb], rfl, sqT_go g0 ha, .inl (.inl upd_same), rfl, (by show 4 ≤ 1000; decide), fun i v f e1 e2 => ?_, fun H1 g1 => hQ H1 (g0.trans g1)⟩
  rcases i with _ | _ | _ | _ | i
  · simp at e1 e2
    subst e1 e2
    exact Chk.of Fn (by decide) kn fun H1 g Q hQ => ⟨_, rfl, ok.name, hQ⟩
  · simp at e1 e2
    subst e1 e2
    exact Chk.of Ff (by decide) kf fun H1 g Q hQ => ⟨_, _, rfl, Dp.go (g0.trans g) _ _ (fz_eF _) hf, ok.fr, hQ⟩
  · simp at e1 e2
    subst e1 e2
    exact Chk.of Fi (by decide) ki fun H1 g Q hQ => ⟨_, rfl, hQ H1 Go.refl⟩
  · simp at e1 e2
    subst e1 e2
    exact Chk.of Fb (by decide) kb fun H1 g Q hQ => ⟨_, rfl, hQ H1 Go.refl⟩
  · simp at e1
theorem c_is_section_shape (B : Bs K mg CR CA) : C8.Cal P w K mg base 3 "is_section_shape" (spOk T K (List Str) eS fun s => s.length ≤ 1000 ∧ ∀ n ∈ s, NameOk n) [] := by
  obtain ⟨fn, gn, kn, Fn⟩ := Cal.at_ (c_is_name (P := P) (w := w) (base := base) (T := T) B)
  refine B.f_is_section_shape.cal sc_is_section_shape (fun _ _ _ _ _ _ us hl => match us, hl with | [_], _ => rfl) (fun vs H Q E h => ?_) fun f cdv A outer s H vs Q E hr h => ?_
  · obtain ⟨v, q, rfl, _⟩ := h
    rfl
  obtain ⟨v, x, rfl, hv, ok, hQ⟩ := h
  obtain ⟨a, rfl, ha⟩ := dp_eS hv
  refine ⟨_, pss_one (ps_ret (pe_c (c_is_list_of (T := T) B 1) hr (by decide) (by rfl) (pa_cons (pv 0) (pa_cons (pe_glob (v := .ref fn) (by rfl) gn rfl) pa_nil)))), ?_⟩
  refine ⟨_, rfl, a, fn, _, rfl, ha, by rw [List.length_map]; exact ok.1, fun v hv => ?_, hQ⟩
  obtain ⟨n, hn, rfl⟩ := List.mem_map.mp hv
  exact Chk.of Fn (by decide) kn fun H1 g Q hQ => ⟨_, rfl, ok.2 n hn, hQ⟩
theorem mem_dp {H : Hp} {α : Type} {f : α → PyData} {xs : List V} {l : List α} {v : V} (h : DpAll K H xs (l.map f)) (hv : v ∈ xs) : ∃ a ∈ l, Dp K H v (f a) := by
  obtain ⟨i, hi⟩ := List.mem_iff_getElem?.mp hv
  obtain ⟨a, e, d⟩ := DpAll.map_at h hi
  exact ⟨a, List.mem_of_getElem? e, d⟩
theorem c_is_day_shape (B : Bs K mg CR CA) : C8.Cal P w K mg base 5 "is_day_shape" (spOk T K (List Fr) eD fun s => s.length ≤ 1000 ∧ ∀ n ∈ s, FrOk n) [] := by
  obtain ⟨fn, gn, kn, Fn⟩ := Cal.at_ (c_is_fraction (P := P) (w := w) (base := base) (T := T) B)
  refine B.f_is_day_shape.cal sc_is_day_shape (fun _ _ _ _ _ _ us hl => match us, hl with | [_], _ => rfl) (fun vs H Q E h => ?_) fun f cdv A outer s H vs Q E hr h => ?_
  · obtain ⟨v, q, rfl, _⟩ := h
    rfl
  obtain ⟨v, x, rfl, hv, ok, hQ⟩ := h
  obtain ⟨a, xs, rfl, ha, hd⟩ := dp_eD hv
  refine ⟨_, pss_one (ps_ret (pe_c (c_is_list_of (T := T) B 3) hr (by decide) (by rfl) (pa_cons (pv 0) (pa_cons (pe_glob (v := .ref fn) (by rfl) gn rfl) pa_nil)))), ?_⟩
  refine ⟨_, rfl, a, fn, _, rfl, ha, by rw [DpAll.map_len hd]; exact ok.1, fun v hv => ?_, hQ⟩
  obtain ⟨q, hq, dq⟩ := mem_dp hd hv
  exact Chk.of Fn (by decide) kn fun H1 g Q hQ => ⟨_, _, rfl, Dp.go g _ _ (fz_eF _) dq, ok.2 q hq, hQ⟩
structure ShapeOk (x : Sheet) : Prop where
  l : x.ls.length ≤ 1000 ∧ ∀ l ∈ x.ls, LnOk l
  s : x.ss.length ≤ 1000 ∧ ∀ s ∈ x.ss, s.length ≤ 1000 ∧ ∀ n ∈ s, NameOk n
  d : x.ds.length ≤ 1000 ∧ ∀ d ∈ x.ds, d.length ≤ 1000 ∧ ∀ q ∈ d, FrOk q
theorem c_is_sheet_shape (B : Bs K mg CR CA) : C8.Cal P w K mg base 7 "is_sheet_shape" (spOk T K Sheet eSh ShapeOk) [] := by
  obtain ⟨f1, g1, k1, F1⟩ := Cal.at_ (c_is_line_shape (P := P) (w := w) (base := base) (T := T) B)
  obtain ⟨f2, g2, k2, F2⟩ := Cal.at_ (c_is_section_shape (P := P) (w := w) (base := base) (T := T) B)
  obtain ⟨f3, g3, k3, F3⟩ := Cal.at_ (c_is_day_shape (P := P) (w := w) (base := base) (T := T) B)
  refine B.f_is_sheet_shape.cal sc_is_sheet_shape (fun _ _ _ _ _ _ us hl => match us, hl with | [_], _ => rfl) (fun vs H Q E h => ?_) fun f cdv A outer s H vs Q E hr h => ?_
  · obtain ⟨v, q, rfl, _⟩ := h
    rfl
  obtain ⟨v, x, rfl, hv, ok, hQ⟩ := h
  obtain ⟨a, b, c, d, ls, ss, ds, rfl, ha, hb, db, hc, dc, hd, dd⟩ := dp_eSh hv
  refine ⟨_, pss_cons (ps_if (PW.pt (pw_or (pt_not (pt_val (pe_callB call_isi (by rfl) B.b_isinstance (by decide +kernel) (pa_cons (pv 0) (pa_cons (pe_bltn (v := .ty "tuple") (by rfl) B.b_tuple (by decide +kernel) rfl) pa_nil)))))
      (pw_or1 (pt_cmp (pc_neI (pe_callB call_len_seq (by rfl) B.b_len (by decide +kernel) (pa_cons (pv 0) pa_nil)) pe_int))))) (pss_one (ps_ret pe_bl)) pss_nil)
    (pss_cons (ps_asg (pv 0) (pg_tup (by rfl) (pgs_cons (pg_name (i := 1) sc_is_sheet_shape.nd rfl (Or.inl rfl)) (pgs_cons (pg_name (i := 2) sc_is_sheet_shape.nd rfl (Or.inl rfl)) (pgs_cons (pg_name (i := 3) sc_is_sheet_shape.nd rfl (Or.inl rfl)) pgs_nil)))))
    (pss_cons (ps_if (PW.pt (pw_or (pt_not (pt_val (pe_c (c_is_list_of (T := T) B 5) hr (by decide) (by rfl) (pa_cons (pv 1) (pa_cons (pe_glob (v := .ref f1) (by rfl) g1 rfl) pa_nil)))))
      (pw_or1 (pt_not (pt_val (pe_c (c_is_list_of (T := T) B 3) hr (by decide) (by rfl) (pa_cons (pv 2) (pa_cons (pe_glob (v := .ref f2) (by rfl) g2 rfl) pa_nil)))))))) (pss_one (ps_ret pe_bl)) pss_nil)
    (pss_one (ps_ret (pe_c (c_is_list_of (T := T) B 5) hr (by decide) (by rfl) (pa_cons (pv 3) (pa_cons (pe_glob (v := .ref f3) (by rfl) g3 rfl) pa_nil))))))), ?_⟩
  refine ⟨_, rfl, .ref a, .ty "tuple", .type "tuple", .type "tuple", true, rfl, .ty _, tyx_tup ha, kit_ty (by decide +kernel), true, rfl, iteF ?_⟩
  refine ⟨_, rfl, a, _, rfl, .inr ha, _, _, rfl, rfl, _, rfl, ?_⟩
  refine iteNS (by rfl) ?_
  refine ⟨_, rfl, a, _, rfl, ha, rfl, _, _, rfl, _, _, rfl, _, _, rfl, rfl, ?_⟩
  refine ⟨_, rfl, b, f1, _, rfl, hb, by rw [DpAll.map_len db]; exact ok.l.1, fun v hv => ?_, fun H1 g => ?_⟩
  · obtain ⟨q, hq, dq⟩ := mem_dp db hv
    exact Chk.of F1 (by decide) k1 fun H1 g Q hQ => ⟨_, _, rfl, Dp.go g _ _ (fz_eL _) dq, ok.l.2 q hq, hQ⟩
  refine ⟨_, rfl, iteF ?_⟩
  have dc' := DpAll.go g _ _ (fz_map _ fz_eS _) dc
  refine ⟨_, rfl, c, f2, _, rfl, sqT_go g hc, by rw [DpAll.map_len dc]; exact ok.s.1, fun v hv => ?_, fun H2 g' => ?_⟩
  · obtain ⟨q, hq, dq⟩ := mem_dp dc' hv
    exact Chk.of F2 (by decide) k2 fun H1 g Q hQ => ⟨_, _, rfl, Dp.go g _ _ (fz_eS _) dq, ok.s.2 q hq, hQ⟩
  refine ⟨_, rfl, iteF ?_⟩
  have dd' := DpAll.go (g.trans g') _ _ (fz_map _ fz_eD _) dd
  refine ⟨_, rfl, d, f3, _, rfl, sqT_go (g.trans g') hd, by rw [DpAll.map_len dd]; exact ok.d.1, fun v hv => ?_, fun H3 g3 => hQ H3 ((g.trans g').trans g3)⟩
  obtain ⟨q, hq, dq⟩ := mem_dp dd' hv
  exact Chk.of F3 (by decide) k3 fun H1 g Q hQ => ⟨_, _, rfl, Dp.go g _ _ (fz_eD _) dq, ok.d.2 q hq, hQ⟩
end Cb
/-! ## CbW4 -/
set_option maxHeartbeats 4000000
/-! correctionchecker.py: lines, ascending, crossing. -/
namespace Cb
open PySem PySem.Spec PyProof.Rows L2
open NdefX (NTab TabN TabsN)
open C8 (pe_c pe_mt pe_mt0 pe_mk)
open PySem.W (dataLe dataLt alike alikeAll)
variable {P : Program} {w : World} {K : PySem.W.Frag} {mg : Str → Option Value} {base : Heap} {CR CA : Addr} {T : List NTab}
theorem atI_at {α : Type} {xs : List α} {i : Int} {j : Nat} {v : α} (h : xs[j]? = some v) (e : i = (j : Int) := by rfl) : atI xs i = some v := by
  rw [e]
  exact atI_nat h
theorem hu64 {k : Nat} {A : Around} (hr : Room k A) : A.units + 64 < cLine := hr.units
def spRequire : Sp := fun vs H Q _ => ∃ b x y, vs = [.bl b, x, y] ∧ b = true ∧ Q .non H
theorem c_require (B : Bs K mg CR CA) : C8.Cal P w K mg base 1 "require" spRequire [] := by
  refine B.f_require.cal sc_require (fun _ _ _ _ _ _ us hl => match us, hl with | [_, _, _], _ => rfl) (fun vs H Q E h => ?_) fun f cdv A outer s H vs Q E hr h => ?_
  · obtain ⟨b, x, y, rfl, _⟩ := h
    rfl
  obtain ⟨b, x, y, rfl, rfl, hQ⟩ := h
  refine ⟨_, pss_one (ps_if (pt_not (pt_val (pv 0))) pss_never pss_nil), ?_⟩
  exact ⟨_, rfl, true, rfl, iteF hQ⟩
def spCheckLines (T : List NTab) (K : PySem.W.Frag) : Sp := fun vs H Q _ => ∃ a xs ls, vs = [.ref a] ∧ SqT K H a xs ∧ DpAll K H xs (ls.map eL) ∧ LinesOk ls ∧ ∀ H', Go T [] H H' → Q .non H'
theorem asc_at {ls : List Ln} (h : (ls.map (·.1)).Pairwise ltS) {i : Nat} {a b : Ln} (h1 : ls[i]? = some a) (h2 : ls[i + 1]? = some b) : ltS a.1 b.1 := by
  have hi : i + 1 < ls.length := (List.getElem?_eq_some_iff.mp h2).1
  have q := List.pairwise_iff_getElem.mp h i (i + 1) (by rw [List.length_map]; omega) (by rw [List.length_map]; omega) (by omega)
  rw [List.getElem_map, List.getElem_map] at q
  have e1 := (List.getElem?_eq_some_iff.mp h1).2
  have e2 := (List.getElem?_eq_some_iff.mp h2).2
  rw [e1, e2] at q
  exact q
theorem c_check_lines (B : Bs K mg CR CA) : C8.Cal P w K mg base 2 "check_lines" (spCheckLines T K) [] := by
  refine B.f_check_lines.cal sc_check_lines (fun _ _ _ _ _ _ us hl => match us, hl with | [_], _ => rfl) (fun vs H Q E h => ?_) fun f cdv A outer s H vs Q E hr h => ?_
  · obtain ⟨a, xs, ls, rfl, _⟩ := h
    rfl
  obtain ⟨a, xs, ls, rfl, ha, hd, ok, hQ⟩ := h
  refine ⟨_, pss_cons (ps_expr (pe_c (c_require B) hr (by decide) (by rfl) (pa_cons (pe_cmpR (op_neD (hu64 hr)) (pv 0) (pe_tup pa_nil) (nomark _)) (pa_cons pe_str (pa_cons (pe_un un_neg pe_int) pa_nil)))))
    (pss_one (ps_for PassesOwn.never rfl (pi_enumT (by rfl) B.b_enumerate (pa_cons (pv 0) pa_nil)) (pg_tup (by rfl) (pgs_cons (pg_name (i := 1) sc_check_lines.nd rfl (Or.inl rfl)) (pgs_cons (pg_name (i := 2) sc_check_lines.nd rfl (Or.inl rfl)) pgs_nil)))
      (pss_cons (ps_expr (pe_c (c_require B) hr (by decide) (by rfl) (pa_cons (pe_or (pe_cmp (pc_eqI (pv 1) pe_int) rfl) (pe_one (pe_cmpR op_lt_str (pe_ix ix_tup (pe_ix ix_tup (pv 0) (pe_op op_sub (pv 1) pe_int) (fun _ _ => rfl)) pe_int (fun _ _ => rfl)) (pe_ix ix_tup (pv 2) pe_int (fun _ _ => rfl)) (nomark _)))) (pa_cons pe_str (pa_cons (pv 1) pa_nil)))))
      (pss_one (ps_expr (pe_c (c_require B) hr (by decide) (by rfl) (pa_cons (pe_cmp (pc_ge (pe_ix ix_tup (pe_ix ix_tup (pv 2) pe_int (fun _ _ => rfl)) pe_int (fun _ _ => rfl)) pe_int) rfl) (pa_cons pe_str (pa_cons (pv 1) pa_nil))))))))), ?_⟩
  refine ⟨_, rfl, (by show 0 ≤ sizeLine; decide), fun p np => ?_⟩
  have g0 : Go T [] H (upd H p (.tup [])) := Go.new Go.refl np
  refine ⟨_, _, .tup (sqT_go g0 ha) (DpAll.go g0 _ _ (fz_map _ fz_eL _) hd), .tup (.inl (.inl upd_same)) .nil, shaped_tupOf (fun l hl => canLay_eL (ok.names l hl)) depth_eL, shaped_nil, ?_⟩
  refine ⟨1, rfl, ⟨_, _, _, rfl, by rw [eqv_tup_nil, List.isEmpty_map, show ls.isEmpty = false from (by simpa using ok.ne)] <;> rfl, ?_⟩⟩
  refine ⟨_, rfl, a, xs, rfl, sqT_go g0 ha, ?_⟩
  have hlen := DpAll.map_len hd
  refine for_it walk_enumT (fun i σ H' => Go T [] H H' ∧ ∃ x y, σ = [some (.ref a), x, y]) ⟨g0, _, _, rfl⟩ (fun i σ H' hi h => sqT_go h.1 ha) (fun i v σ H1 H2 hi h y => ?_) fun σ H' h => hQ H' h.1
  obtain ⟨g1, s1, s2, rfl⟩ := h
  obtain ⟨p1, u, z, rfl, np1, rfl, e1, e2⟩ := y
  cases Option.some.inj (show some (V.int (i : Nat)) = some u from e1)
  have e2 : xs[i]? = some z := e2
  have g2 : Go T [] H (upd H1 p1 (.tup [.int (i : Nat), z])) := g1.new np1
  obtain ⟨l, el, dl⟩ := DpAll.map_at (DpAll.go g2 _ _ (fz_map _ fz_eL _) hd) e2
  obtain ⟨b, wf, rfl, hb, hf⟩ := dp_eL dl
  obtain ⟨c, rfl, hc⟩ := dp_eF hf
  have hl := List.mem_of_getElem? el
  refine ⟨p1, _, rfl, .inl (.inl upd_same), rfl, _, _, rfl, _, _, rfl, rfl, ?_⟩
  have fin : Go T [] H (upd H1 p1 (.tup [.int (i : Nat), .ref b])) ∧ ∃ x y : Option V, [some (V.ref a), some (V.int (i : Nat)), some (V.ref b)] = [some (.ref a), x, y] := ⟨g2, _, _, rfl⟩
  refine ⟨_, rfl, _, _, rfl, rfl, _, rfl, ?_⟩
  have hx : (i = 0 ∨ ∃ l0, i ≠ 0 ∧ ls[i - 1]? = some l0 ∧ ltS l0.1 l.1) := by
    rcases i with _ | i
    · exact .inl rfl
    · have hi1 : i < ls.length := by omega
      exact .inr ⟨ls[i], by omega, by simp [hi1], asc_at ok.asc (List.getElem?_eq_getElem hi1) el⟩
  rcases hx with h0 | ⟨l0, h0, el0, lt0⟩
  · refine iteD (by omega) ?_
    refine ⟨_, rfl, _, _, _, rfl, rfl, ?_⟩
    refine ⟨_, rfl, b, _, _, _, rfl, rfl, hb, atI_at (j := 1) rfl, c, _, _, _, rfl, rfl, hc, atI_at (j := 0) rfl, _, _, rfl, rfl, ?_⟩
    exact ⟨_, rfl, _, _, _, rfl, decide_eq_true (ok.fr l hl).low, fin⟩
  · refine iteDF (by omega) ?_
    obtain ⟨w0, ew0, dw0⟩ := DpAll.map_at' (DpAll.go g2 _ _ (fz_map _ fz_eL _) hd) el0
    obtain ⟨b0, wf0, rfl, hb0, _⟩ := dp_eL dw0
    refine ⟨_, rfl, _, rfl, _, _, rfl, rfl, a, _, _, _, rfl, rfl, sqT_go g2 ha, atI_at (j := i - 1) ew0 (by omega), b0, _, _, _, rfl, rfl, hb0, atI_at (j := 0) rfl, _, rfl, b, _, _, _, rfl, rfl, hb, atI_at (j := 0) rfl, _, _, rfl, rfl, ?_⟩
    refine ⟨_, rfl, _, _, _, rfl, decide_eq_true lt0, ?_⟩
    refine ⟨_, rfl, b, _, _, _, rfl, rfl, hb, atI_at (j := 1) rfl, c, _, _, _, rfl, rfl, hc, atI_at (j := 0) rfl, _, _, rfl, rfl, ?_⟩
    exact ⟨_, rfl, _, _, _, rfl, decide_eq_true (ok.fr l hl).low, fin⟩
end Cb
/-! ## CbW5 -/
set_option maxHeartbeats 4000000
/-! correctionchecker.py: ascending, crossing, sections. -/
namespace Cb
open PySem PySem.Spec PyProof.Rows L2
open NdefX (NTab TabN TabsN)
open C8 (pe_c pe_mt pe_mt0 pe_mk)
open PySem.W (dataLe dataLt alike alikeAll)
variable {P : Program} {w : World} {K : PySem.W.Frag} {mg : Str → Option Value} {base : Heap} {CR CA : Addr} {T : List NTab}
theorem sIx_0 (n : Nat) : HT.sIx n 0 none = 0 := rfl
theorem sIx_n (n : Nat) : HT.sIx n n none = n := rfl
theorem cut_from {xs : List V} {k : Nat} (h : k ≤ xs.length) : cutV xs (some ((k : Nat) : Int)) none = xs.drop k := by
  unfold cutV
  rw [HT.sIx_nat, HT.sIx_none, Nat.min_eq_left h, List.take_of_length_le (by rw [List.length_drop]; omega)]
theorem cut_to {xs : List V} {k : Nat} (h : k ≤ xs.length) : cutV xs none (some ((k : Nat) : Int)) = xs.take k := by
  unfold cutV
  rw [HT.sIx_nat, HT.sIx_none, Nat.min_eq_left h, List.drop_zero, Nat.sub_zero]
theorem inV_str (n : Str) (s : List Str) : inV (.str n) (s.map V.str) = decide (n ∈ s) := by
  induction s with
  | nil => rfl
  | cons a s ih =>
    unfold inV at ih ⊢
    rw [List.map_cons, List.any_cons, ih]
    have e : eqV (.str a) (.str n) = decide (n = a) := by
      unfold eqV
      by_cases h : n = a
      · subst h
        simp
      · rw [decide_eq_false h]
        simp [show ¬ a = n from fun z => h z.symm]
    rw [e]
    by_cases h : n = a <;> by_cases h2 : n ∈ s <;> simp [h, h2]
theorem flat_strs (s : List Str) : (s.map V.str).all flatV = true := by
  rw [List.all_eq_true]
  intro x hx
  obtain ⟨n, _, rfl⟩ := List.mem_map.mp hx
  rfl
def spIsAscending (T : List NTab) (K : PySem.W.Frag) : Sp := fun vs H Q _ => ∃ (a : Addr) (s : List Str), vs = [.ref a] ∧ SqT K H a (s.map V.str) ∧ 1 ≤ s.length ∧ s.length ≤ 1000 ∧ s.Pairwise ltS ∧ ∀ H', Go T [] H H' → Q (.bl true) H'
theorem c_is_ascending (B : Bs K mg CR CA) : C8.Cal P w K mg base 1 "is_ascending" (spIsAscending T K) [] := by
  refine B.f_is_ascending.cal sc_is_ascending (fun _ _ _ _ _ _ us hl => match us, hl with | [_], _ => rfl) (fun vs H Q E h => ?_) fun f cdv A outer s H vs Q E hr h => ?_
  · obtain ⟨a, s, rfl, _⟩ := h
    rfl
  obtain ⟨a, ns, rfl, ha, h1, h2, hp, hQ⟩ := h
  refine ⟨_, pss_one (ps_ret (pe_callB (cr_all rfl) (by rfl) B.b_all (by decide +kernel) (pa_cons (pe_lc (own := [("one", 1), ("other", 2)]) (g := gTup K 2 (gCons (gName 1) (gCons (gName 2) gNil))) (by rfl) sc_is_ascending.nd (RZ.pi_zipA (by rfl) B.b_zip (pa_cons (pv 0) (pa_cons (pe_slice sl_tup (pv 0) (po_some pe_int) po_none) pa_nil))) (blkOk_by (own := [("one", 1), ("other", 2)]) (N := N_is_ascending) (sc := defScope s_is_ascending) (by decide +kernel))
      (fun _ _ _ _ _ => pg_tup (by rfl) (pgs_cons (pg_name (i := 1) sc_is_ascending.nd rfl (Or.inl rfl)) (pgs_cons (pg_name (i := 2) sc_is_ascending.nd rfl (Or.inl rfl)) pgs_nil))) (fun _ _ _ _ _ => pts_nil) (fun _ _ _ _ _ => pe_cmpR op_lt_str (pv 1) (pv 2) (nomark _))) pa_nil))), ?_⟩
  refine ⟨_, rfl, _, rfl, 1, rfl, a, _, rfl, ha, ?_, fun p np => ?_⟩
  · rw [List.length_map, show (1 : Int) = ((1 : Nat) : Int) from rfl, HT.sIx_nat]
    omega
  have g0 : Go T [] H (upd H p (.tup (cutV (ns.map V.str) (some 1) none))) := Go.new Go.refl np
  have e0 : cutV (ns.map V.str) (some 1) none = (ns.map V.str).drop 1 := cut_from (k := 1) (by rw [List.length_map]; exact h1)
  rw [e0] at g0 ⊢
  have hp0 : SqT K (upd H p (.tup ((ns.map V.str).drop 1))) p ((ns.map V.str).drop 1) := .inl (.inl upd_same)
  refine ⟨a, p, _, _, rfl, .inr ⟨sqT_go g0 ha, hp0, fun D hD => ?_⟩⟩
  refine lc_true (T := T) (m := []) (walk_zipT (n := ns.length - 1) (xs := ns.map V.str) (ys := (ns.map V.str).drop 1) (by rw [List.length_drop, List.length_map]; omega)) hD (fun a ha => absurd ha (by simp)) (small (by omega)) (fun H1 g => ⟨sqT_go (g0.trans g) ha, sqT_go g hp0⟩) (fun i v H1 H2 hi g y F Z hF => ?_) fun H1 g e => ?_
  · obtain ⟨p1, x, z, rfl, np1, rfl, e1, e2⟩ := y
    have e1 : (ns.map V.str)[i]? = some x := e1
    have e2 : ((ns.map V.str).drop 1)[i]? = some z := e2
    have i1 : i < ns.length := by omega
    have i2 : i + 1 < ns.length := by omega
    rw [List.getElem?_map, List.getElem?_eq_getElem i1] at e1
    rw [List.getElem?_drop, Nat.add_comm 1 i, List.getElem?_map, List.getElem?_eq_getElem i2] at e2
    cases e1
    cases e2
    refine ⟨p1, _, rfl, .inl (.inl upd_same), rfl, _, _, rfl, _, _, rfl, rfl, ?_⟩
    refine ⟨rfl, _, rfl, _, rfl, _, _, rfl, rfl, ?_⟩
    rw [show decide (ns[i].cps.toList < ns[i + 1].cps.toList) = true from decide_eq_true (List.pairwise_iff_getElem.mp hp i (i + 1) i1 i2 (by omega))]
    exact hF _ (Go.new Go.refl np1)
  · refine ⟨_, _, rfl, SqL.of e, ?_⟩
    rw [all_true]
    exact hQ H1 (g0.trans g)
def spCrosses (T : List NTab) (K : PySem.W.Frag) : Sp := fun vs H Q _ => ∃ (a b : Addr) (s t : List Str), vs = [.ref a, .ref b] ∧ SqT K H a (s.map V.str) ∧ SqT K H b (t.map V.str) ∧ s.length ≤ 1000 ∧ (∀ n ∈ s, NameOk n) ∧ ∀ H', Go T [] H H' → Q (.bl (decide (Crs s t))) H'
theorem c_crosses (B : Bs K mg CR CA) : C8.Cal P w K mg base 1 "crosses" (spCrosses T K) [] := by
  refine B.f_crosses.cal sc_crosses (fun _ _ _ _ _ _ us hl => match us, hl with | [_, _], _ => rfl) (fun vs H Q E h => ?_) fun f cdv A outer s H vs Q E hr h => ?_
  · obtain ⟨a, b, s, t, rfl, _⟩ := h
    rfl
  obtain ⟨a, b, s, t, rfl, ha, hb, hz, hn, hQ⟩ := h
  refine ⟨_, pss_cons (ps_setLc (i := 2) (own := [("name", 3)]) (g := gName 3) (tt := tTest (tOp (rIn K false) (tVar 3) (tVar 1))) (by rfl) sc_crosses.nd rfl rfl (sw_true rfl rfl rfl (by decide +kernel)) (pi_tup (pv 0)) (blkOk_by (own := [("name", 3)]) (N := N_crosses) (sc := defScope s_crosses) (by decide +kernel))
      (fun _ _ _ _ _ => pg_name (i := 3) sc_crosses.nd rfl (Or.inl rfl)) (fun _ _ _ _ _ => pts_one (pt_cmpR op_in_seq (pv 3) (pv 1) (by rfl))) (fun _ _ _ _ _ => pv 3))
    (pss_one (ps_ret (pe_and (pe_cmpR (op_neD (hu64 hr)) (pv 2) (pe_lst pa_nil) (nomark _)) (pe_one (pe_cmp (pc_lt (pe_callB call_len_seq (by rfl) B.b_len (by decide +kernel) (pa_cons (pv 2) pa_nil))
      (pe_callB (call_min2 rfl) (by rfl) B.b_min (by decide +kernel) (pa_cons (pe_callB call_len_seq (by rfl) B.b_len (by decide +kernel) (pa_cons (pv 0) pa_nil)) (pa_cons (pe_callB call_len_seq (by rfl) B.b_len (by decide +kernel) (pa_cons (pv 1) pa_nil)) pa_nil)))) rfl))))), ?_⟩
  refine ⟨_, rfl, a, rfl, ⟨_, ha⟩, fun D hD => ?_⟩
  refine lc_gen (T := T) (m := []) (walk_tup (xs := s.map V.str)) hD (fun a ha => absurd ha (by simp)) (small (by rw [List.length_map]; omega)) (fun i acc H => acc = ((s.take i).filter fun n => decide (n ∈ t)).map V.str) (by simp) (fun i acc H H' g r => r) (fun H1 g => sqT_go g ha) (fun i v H1 H2 acc hi g e r y F Z hF hZ => ?_) fun H1 acc g e r => ?_
  · obtain ⟨rfl, hv⟩ := y
    rw [List.length_map] at hi
    rw [List.getElem?_map, List.getElem?_eq_getElem hi] at hv
    cases hv
    have et : s.take (i + 1) = s.take i ++ [s[i]] := by rw [List.take_add_one, List.getElem?_eq_getElem hi] <;> rfl
    refine ⟨rfl, _, rfl, _, rfl, b, _, rfl, .inr (sqT_go g hb), rfl, flat_strs t, _, rfl, ?_⟩
    rw [if_neg (by decide), inV_str]
    by_cases hm : s[i] ∈ t
    · rw [decide_eq_true hm]
      refine iteT ⟨_, rfl, hF _ _ Go.refl ?_⟩
      show acc ++ [V.str s[i]] = _
      rw [r, et, List.filter_append, List.map_append, List.filter_cons_of_pos (by exact decide_eq_true hm)]
      rfl
    · rw [decide_eq_false hm]
      refine iteF (hZ _ Go.refl ?_)
      rw [r, et, List.filter_append, List.map_append, List.filter_cons_of_neg (by simp [hm])]
      simp
  · rw [List.length_map, List.take_length] at r
    subst r
    have hc : ((s.filter fun n => decide (n ∈ t)).map V.str) = ((s.filter fun n => decide (n ∈ t)).map V.str) := rfl
    refine ⟨_, rfl, (by show 0 ≤ sizeLine; decide), fun p np => ?_⟩
    have g1 : Go T [] H1 (upd H1 p (.lst [])) := Go.new Go.refl np
    have eD : upd H1 p (.lst []) D = some (.lst ((s.filter fun n => decide (n ∈ t)).map V.str)) := by
      rw [upd_ne (ne_of_none e np)]
      exact e
    refine ⟨.list ((s.filter fun n => decide (n ∈ t)).map PyData.str), .list [], .lst (SqL.of eD) (dpAll_strs _), .lst (SqL.of upd_same) .nil, shaped_lstOf (n := 0) (fun n h => strOk_name (hn n (List.mem_filter.mp h).1)) (fun a => by simp [PyData.depth]), shaped_lnil, ?_⟩
    rw [eqv_lst_nil, List.isEmpty_map]
    refine ⟨_, rfl, ?_⟩
    have q := hQ _ (g.trans g1)
    by_cases he : (s.filter fun n => decide (n ∈ t)) = []
    · rw [show decide (Crs s t) = false from decide_eq_false fun z => z.1 he] at q
      rw [he]
      exact iteF q
    · have ef : (s.filter fun n => decide (n ∈ t)).isEmpty = false := by simpa using he
      rw [ef]
      refine iteT ?_
      refine ⟨_, rfl, D, _, rfl, .inl (SqL.of eD), ?_⟩
      refine ⟨_, rfl, a, _, rfl, .inr (sqT_go (g.trans g1) ha), ?_⟩
      refine ⟨_, rfl, b, _, rfl, .inr (sqT_go (g.trans g1) hb), ?_⟩
      refine ⟨_, _, rfl, _, _, rfl, rfl, ?_⟩
      have em : decide (Crs s t) = decide ((((s.filter fun n => decide (n ∈ t)).map V.str).length : Int) < (if (((t.map V.str).length : Nat) : Int) < (((s.map V.str).length : Nat) : Int) then (((t.map V.str).length : Nat) : Int) else (((s.map V.str).length : Nat) : Int))) := by
        refine decide_eq_decide.mpr ?_
        unfold Crs
        rw [List.length_map, List.length_map, List.length_map]
        constructor
        · rintro ⟨_, h⟩
          split <;> omega
        · intro h
          refine ⟨he, ?_⟩
          split at h <;> omega
      rw [em] at q
      exact q
end Cb
/-! ## CbW6 -/
set_option maxHeartbeats 4000000
/-! correctionchecker.py: a section. -/
namespace Cb
open PySem PySem.Spec PyProof.Rows L2
open NdefX (NTab TabN TabsN)
open C8 (pe_c pe_mt pe_mt0 pe_mk)
open PySem.W (dataLe dataLt alike alikeAll)
variable {P : Program} {w : World} {K : PySem.W.Frag} {mg : Str → Option Value} {base : Heap} {CR CA : Addr} {T : List NTab}
theorem op_ltD' {X : Cx} {k : Nat} {A : Around} (hr : Room k A) (e : X.A = A) : OpR X (compareOp .Lt) (rLtD X.K) := op_ltD (by rw [e]; exact hr.units)
def spCheckSection (T : List NTab) (K : PySem.W.Frag) : Sp := fun vs H Q _ => ∃ (n c : Addr) (i : Nat) (ns : List Str) (xs : List V) (ss : List (List Str)), vs = [.ref n, .ref c, .int (i : Nat)] ∧ SqL K H n (ns.map V.str) ∧ SqT K H c xs ∧ DpAll K H xs (ss.map eS) ∧ SecsOk ns ss ∧ (∀ s ∈ ss, ∀ n ∈ s, NameOk n) ∧ i < ss.length ∧ ∀ H', Go T [] H H' → Q .non H'
theorem c_check_section (B : Bs K mg CR CA) : C8.Cal P w K mg base 2 "check_section" (spCheckSection T K) [] := by
  obtain ⟨tl, hL⟩ := B.i_LEAST_SECTION
  refine B.f_check_section.cal sc_check_section (fun _ _ _ _ _ _ us hl => match us, hl with | [_, _, _], _ => rfl) (fun vs H Q E h => ?_) fun f cdv A outer s H vs Q E hr h => ?_
  · obtain ⟨n, c, i, ns, xs, ss, rfl, _⟩ := h
    rfl
  obtain ⟨n, c, i, ns, xs, ss, rfl, hn, hc, hd, ok, nm, hi, hQ⟩ := h
  refine ⟨_, pss_cons (ps_set (i := 3) sc_check_section.nd rfl (Or.inr rfl) (pe_ix ix_tup (pv 1) (pv 2) (fun _ _ => rfl)))
    (pss_cons (ps_set (i := 4) sc_check_section.nd rfl (Or.inl rfl) (pe_m (pe_or (pe_cmp (pc_eqI (pv 2) pe_int) rfl) (pe_one (pe_cmpR (op_ltD (hu64 hr)) (pe_ix ix_tup (pv 1) (pe_op op_sub (pv 2) pe_int) (fun _ _ => rfl)) (pv 3) (nomark _))))))
    (pss_cons (ps_expr (pe_c (c_require B) hr (by decide) (by rfl) (pa_cons (pe_and (pv 4) (pe_and (pe_cmp (pc_ge (pe_callB call_len_seq (by rfl) B.b_len (by decide +kernel) (pa_cons (pv 3) pa_nil)) (pe_glob (v := .int 2) (by rfl) hL ⟨_, rfl⟩)) rfl) (pe_one (pe_c (c_is_ascending (T := T) B) hr (by decide) (by rfl) (pa_cons (pv 3) pa_nil))))) (pa_cons pe_str (pa_cons (pv 2) pa_nil)))))
    (pss_cons (ps_expr (pe_c (c_require B) hr (by decide) (by rfl) (pa_cons (pe_callB (cr_all rfl) (by rfl) B.b_all (by decide +kernel) (pa_cons (pe_lc (own := [("name", 5)]) (g := gName 5) (te := tOp (rIn K false) (tVar 5) (tVar 0)) (by rfl) sc_check_section.nd (pi_tup (pv 3)) (blkOk_by (own := [("name", 5)]) (N := N_check_section) (sc := defScope s_check_section) (by decide +kernel))
        (fun _ _ _ _ _ => pg_name (i := 5) sc_check_section.nd rfl (Or.inl rfl)) (fun _ _ _ _ _ => pts_nil) (fun _ _ _ _ _ => pe_cmpR op_in_seq (pv 5) (pv 0) (by rfl))) pa_nil)) (pa_cons pe_str (pa_cons (pv 2) pa_nil)))))
    (pss_one (ps_expr (pe_c (c_require B) hr (by decide) (by rfl) (pa_cons (pe_not (pe_callB (cr_any rfl) (by rfl) B.b_any (by decide +kernel) (pa_cons (pe_lc (own := [("earlier", 6)]) (g := gName 6) (by rfl) sc_check_section.nd (pi_tup (pe_slice sl_tup (pv 1) po_none (po_some (pv 2)))) (blkOk_by (own := [("earlier", 6)]) (N := N_check_section) (sc := defScope s_check_section) (by decide +kernel))
        (fun _ _ _ _ _ => pg_name (i := 6) sc_check_section.nd rfl (Or.inl rfl)) (fun _ _ _ _ _ => pts_nil) (fun _ _ _ _ _ => pe_c (c_crosses (T := T) B) hr (by decide) (by rfl) (pa_cons (pv 3) (pa_cons (pv 6) pa_nil)))) pa_nil))) (pa_cons pe_str (pa_cons (pv 2) pa_nil))))))))), ?_⟩
  have hlen := DpAll.map_len hd
  have ei : ss[i]? = some ss[i] := List.getElem?_eq_getElem hi
  obtain ⟨v, ev, dv⟩ := DpAll.map_at' hd ei
  obtain ⟨b, rfl, hb⟩ := dp_eS dv
  have hm : ss[i] ∈ ss := List.getElem_mem hi
  have l2 := ok.len _ hm
  refine ⟨_, rfl, _, rfl, c, _, _, _, rfl, rfl, hc, atI_at (j := i) ev, ?_⟩
  refine ⟨fun x H1 => x = .bl true ∧ H1 = H, ⟨_, rfl, _, _, rfl, rfl, _, rfl, ?_⟩, ?_⟩
  · by_cases h0 : i = 0
    · exact iteD (by omega) ⟨rfl, rfl⟩
    · refine iteDF (by omega) ?_
      have hi1 : i - 1 < ss.length := by omega
      obtain ⟨v0, ev0, dv0⟩ := DpAll.map_at' hd (List.getElem?_eq_getElem hi1)
      refine ⟨_, rfl, _, rfl, _, _, rfl, rfl, c, _, _, _, rfl, rfl, hc, atI_at (j := i - 1) ev0 (by omega), _, rfl, _, _, dv0, dv, alike_eS _ _, (fun z => by cases z), Nat.le_trans (depth_eS _) (by decide), ?_⟩
      have lt : dataLt (eS ss[i - 1]) (eS ss[i]) = true := List.pairwise_iff_getElem.mp ok.rise (i - 1) i hi1 hi (by omega)
      rw [lt]
      exact ⟨rfl, rfl⟩
  rintro _ _ ⟨rfl, rfl⟩
  refine ⟨_, rfl, true, rfl, iteT ?_⟩
  refine ⟨_, rfl, b, _, rfl, .inr hb, _, _, rfl, rfl, _, rfl, ?_⟩
  refine iteD (by rw [List.length_map]; omega) ?_
  refine ⟨_, rfl, b, _, rfl, hb, by omega, by omega, ok.asc _ hm, fun H1 g1 => ?_⟩
  refine ⟨_, rfl, _, _, _, rfl, rfl, ?_⟩
  refine ⟨_, rfl, b, rfl, ⟨_, sqT_go g1 hb⟩, fun D hD => ?_⟩
  refine lc_true (T := T) (m := []) (walk_tup (xs := ss[i].map V.str)) hD (fun a ha => absurd ha (by simp)) (small (by rw [List.length_map]; omega)) (fun H2 g => sqT_go (g1.trans g) hb) (fun j v H2 H3 hj g y F Z hF => ?_) fun H2 g2 e2 => ?_
  · obtain ⟨rfl, hv⟩ := y
    rw [List.length_map] at hj
    rw [List.getElem?_map, List.getElem?_eq_getElem hj] at hv
    cases hv
    refine ⟨rfl, _, rfl, _, rfl, n, _, rfl, .inl (sqL_go (g1.trans g) (by simp) hn), rfl, flat_strs ns, ?_⟩
    rw [if_neg (by decide), inV_str, show decide (ss[i][j] ∈ ns) = true from decide_eq_true (ok.sub _ hm _ (List.getElem_mem hj))]
    exact hF _ Go.refl
  refine ⟨_, _, rfl, SqL.of e2, _, rfl, _, _, _, rfl, all_true _, ?_⟩
  have g3 := g1.trans g2
  refine ⟨_, rfl, _, rfl, _, rfl, c, xs, rfl, sqT_go g3 hc, ?_, fun p np => ?_⟩
  · rw [HT.sIx_nat]
    omega
  have g4 : Go T [] H2 (upd H2 p (.tup (cutV xs none (some (i : Nat))))) := Go.new Go.refl np
  rw [cut_to (k := i) (by omega)] at g4 ⊢
  have hp0 : SqT K (upd H2 p (.tup (xs.take i))) p (xs.take i) := .inl (.inl upd_same)
  have g5 := g3.trans g4
  refine ⟨p, rfl, ⟨_, hp0⟩, fun D2 hD2 => ?_⟩
  refine lc_false (T := T) (m := []) (walk_tup (xs := xs.take i)) hD2 (fun a ha => absurd ha (by simp)) (small (by rw [List.length_take]; have := ok.most; omega)) (fun H3 g => sqT_go g hp0) (fun j v H3 H4 hj g y F Z hF => ?_) fun H3 g6 e3 => ?_
  · obtain ⟨rfl, hv⟩ := y
    rw [List.length_take] at hj
    have hji : j < i := by omega
    have hjs : j < ss.length := by omega
    rw [List.getElem?_take_of_lt hji] at hv
    have g7 := g5.trans g
    obtain ⟨sj, esj, dj⟩ := DpAll.map_at (DpAll.go g7 _ _ (fz_map _ fz_eS _) hd) hv
    obtain ⟨bj, rfl, hbj⟩ := dp_eS dj
    rw [List.getElem?_eq_getElem hjs] at esj
    cases esj
    refine ⟨rfl, _, rfl, _, rfl, b, bj, _, _, rfl, sqT_go g7 hb, hbj, by omega, nm _ hm, fun H5 g8 => ?_⟩
    rw [show decide (Crs ss[i] ss[j]) = false from decide_eq_false (List.pairwise_iff_getElem.mp ok.nocr j i hjs hi hji)]
    exact hF _ g8
  refine ⟨_, _, rfl, SqL.of e3, _, rfl, _, rfl, _, _, _, rfl, by rw [any_false]; rfl, hQ _ (g5.trans g6)⟩
end Cb
/-! ## CbW7 -/
set_option maxHeartbeats 4000000
/-! correctionchecker.py: days, the sheet; sheetchecker.py. -/
namespace Cb
open PySem PySem.Spec PyProof.Rows L2
open NdefX (NTab TabN TabsN)
open C8 (pe_c pe_mt pe_mt0 pe_mk)
open PySem.W (dataLe dataLt alike alikeAll)
variable {P : Program} {w : World} {K : PySem.W.Frag} {mg : Str → Option Value} {base : Heap} {CR CA : Addr} {T : List NTab}
def spCheckDay (T : List NTab) (K : PySem.W.Frag) : Sp := fun vs H Q _ => ∃ (a b : Addr) (x : V) (xs ys : List V) (ls : List Ln) (d : List Fr), vs = [.ref a, .ref b, x] ∧ SqT K H a xs ∧ DpAll K H xs (ls.map eL) ∧ SqT K H b ys ∧ DpAll K H ys (d.map eF) ∧ DayOk ls d ∧ ls.length ≤ 1000 ∧ ∀ H', Go T [] H H' → Q .non H'
theorem c_check_day (B : Bs K mg CR CA) : C8.Cal P w K mg base 2 "check_day" (spCheckDay T K) [] := by
  refine B.f_check_day.cal sc_check_day (fun _ _ _ _ _ _ us hl => match us, hl with | [_, _, _], _ => rfl) (fun vs H Q E h => ?_) fun f cdv A outer s H vs Q E hr h => ?_
  · obtain ⟨a, b, x, xs, ys, ls, d, rfl, _⟩ := h
    rfl
  obtain ⟨a, b, x, xs, ys, ls, d, rfl, ha, da, hb, db, ok, hz, hQ⟩ := h
  refine ⟨_, pss_cons (ps_expr (pe_c (c_require B) hr (by decide) (by rfl) (pa_cons (pe_cmp (pc_eqI (pe_callB call_len_seq (by rfl) B.b_len (by decide +kernel) (pa_cons (pv 1) pa_nil)) (pe_callB call_len_seq (by rfl) B.b_len (by decide +kernel) (pa_cons (pv 0) pa_nil))) rfl) (pa_cons pe_str (pa_cons (pv 2) pa_nil)))))
    (pss_one (ps_for PassesOwn.never rfl (pi_enumT (by rfl) B.b_enumerate (pa_cons (pv 1) pa_nil)) (pg_tup (by rfl) (pgs_cons (pg_name (i := 3) sc_check_day.nd rfl (Or.inl rfl)) (pgs_cons (pg_name (i := 4) sc_check_day.nd rfl (Or.inl rfl)) pgs_nil)))
      (pss_one (ps_expr (pe_c (c_require B) hr (by decide) (by rfl) (pa_cons (pe_and (pe_cmp (pc_ge (pe_ix ix_tup (pv 4) pe_int (fun _ _ => rfl)) pe_int) rfl) (pe_one (pe_or (pe_ix ix_tup (pe_ix ix_tup (pv 0) (pv 3) (fun _ _ => rfl)) pe_int (fun _ _ => rfl)) (pe_one (pe_cmp (pc_eqI (pe_ix ix_tup (pv 4) pe_int (fun _ _ => rfl)) pe_int) rfl))))) (pa_cons pe_str (pa_cons (pe_tup (pa_cons (pv 2) (pa_cons (pv 3) pa_nil))) pa_nil)))))))), ?_⟩
  have la := DpAll.map_len da
  have lb := DpAll.map_len db
  have ll := ok.len
  refine ⟨_, rfl, b, _, rfl, .inr hb, _, rfl, a, _, rfl, .inr ha, _, _, rfl, rfl, _, rfl, _, _, _, rfl, decide_eq_true (by omega), ?_⟩
  refine ⟨_, rfl, b, ys, rfl, hb, ?_⟩
  refine for_it walk_enumT (fun i σ H' => Go T [] H H' ∧ ∃ y z, σ = [some (.ref a), some (.ref b), some x, y, z]) ⟨Go.refl, _, _, rfl⟩ (fun i σ H' hi h => sqT_go h.1 hb) (fun i v σ H1 H2 hi h y => ?_) fun σ H' h => hQ H' h.1
  obtain ⟨g1, s1, s2, rfl⟩ := h
  obtain ⟨p1, u, z, rfl, np1, rfl, e1, e2⟩ := y
  cases Option.some.inj (show some (V.int (i : Nat)) = some u from e1)
  have e2 : ys[i]? = some z := e2
  have g2 : Go T [] H (upd H1 p1 (.tup [.int (i : Nat), z])) := g1.new np1
  obtain ⟨q, eq, dq⟩ := DpAll.map_at (DpAll.go g2 _ _ (fz_map _ fz_eF _) db) e2
  obtain ⟨c, rfl, hc⟩ := dp_eF dq
  have hi2 : i < ls.length := by omega
  obtain ⟨v, ev, dv⟩ := DpAll.map_at' (DpAll.go g2 _ _ (fz_map _ fz_eL _) da) (List.getElem?_eq_getElem hi2)
  obtain ⟨l, wl, rfl, hl, _⟩ := dp_eL dv
  have fq := ok.fr q (List.mem_of_getElem? eq)
  refine ⟨p1, _, rfl, .inl (.inl upd_same), rfl, _, _, rfl, _, _, rfl, rfl, ?_⟩
  refine ⟨_, rfl, c, _, _, _, rfl, rfl, hc, atI_at (j := 0) rfl, _, _, rfl, rfl, _, rfl, ?_⟩
  refine iteD fq.low ?_
  refine ⟨_, rfl, _, rfl, a, _, _, _, rfl, rfl, sqT_go g2 ha, atI_at (j := i) ev, l, _, _, _, rfl, rfl, hl, atI_at (j := 3) rfl, ?_⟩
  refine ⟨_, rfl, ?_⟩
  have fin : ∀ bb : Bool, bb = true → ∃ v, [some (V.ref a), some (.ref b), some x, some (.int (i : Nat)), some (.ref c)][2]? = some (some v) ∧ True := fun _ _ => ⟨_, rfl, True.intro⟩
  by_cases hg : ls[i].2.2.2 = true
  · rw [hg]
    refine iteT ?_
    refine ⟨_, rfl, _, rfl, (by show 2 ≤ sizeLine; decide), fun p np => ⟨_, _, _, rfl, rfl, ⟨g2.new np, _, _, rfl⟩⟩⟩
  · rw [show ls[i].2.2.2 = false from by simpa using hg]
    refine iteF ?_
    have q0 := ok.none i _ _ (List.getElem?_eq_getElem hi2) eq (by simpa using hg)
    refine ⟨_, rfl, c, _, _, _, rfl, rfl, hc, atI_at (j := 0) rfl, _, _, rfl, rfl, ?_⟩
    refine ⟨_, rfl, _, rfl, (by show 2 ≤ sizeLine; decide), fun p np => ⟨_, _, _, rfl, decide_eq_true q0, ⟨g2.new np, _, _, rfl⟩⟩⟩
def spCheckSheet (T : List NTab) (K : PySem.W.Frag) : Sp := fun vs H Q _ => ∃ v x, vs = [v] ∧ Dp K H v (eSh x) ∧ Good x ∧ ∀ H', Go T [] H H' → Q .non H'
theorem Good.shape {x : Sheet} (g : Good x) : ShapeOk x := by
  have hm := g.ls.most
  refine ⟨⟨by omega, fun l hl => ⟨g.ls.names l hl, g.ls.fr l hl⟩⟩, ⟨by have := g.ss.most; omega, fun s hs => ⟨by have := (g.ss.len s hs).2; omega, fun n hn => ?_⟩⟩, ⟨by have := g.dn; omega, fun d hd => ⟨by rw [(g.ds d hd).len]; omega, (g.ds d hd).fr⟩⟩⟩
  obtain ⟨l, hl, rfl⟩ := List.mem_map.mp (g.ss.sub s hs n hn)
  exact g.ls.names l hl
theorem c_check_sheet (B : Bs K mg CR CA) : C8.Cal P w K mg base 8 "check_sheet" (spCheckSheet T K) [] := by
  refine B.f_check_sheet.cal sc_check_sheet (fun _ _ _ _ _ _ us hl => match us, hl with | [_], _ => rfl) (fun vs H Q E h => ?_) fun f cdv A outer s H vs Q E hr h => ?_
  · obtain ⟨v, x, rfl, _⟩ := h
    rfl
  obtain ⟨v, x, rfl, hv, ok, hQ⟩ := h
  obtain ⟨a, b, c, d, ls, ss, ds, rfl, ha, hb, db, hc, dc, hd, dd⟩ := dp_eSh hv
  refine ⟨_, pss_cons (ps_expr (pe_c (c_require B) hr (by decide) (by rfl) (pa_cons (pe_c (c_is_sheet_shape (T := T) B) hr (by decide) (by rfl) (pa_cons (pv 0) pa_nil)) (pa_cons pe_str (pa_cons (pe_un un_neg pe_int) pa_nil)))))
    (pss_cons (ps_asg (pv 0) (pg_tup (by rfl) (pgs_cons (pg_name (i := 1) sc_check_sheet.nd rfl (Or.inl rfl)) (pgs_cons (pg_name (i := 2) sc_check_sheet.nd rfl (Or.inl rfl)) (pgs_cons (pg_name (i := 3) sc_check_sheet.nd rfl (Or.inl rfl)) pgs_nil)))))
    (pss_cons (ps_expr (pe_c (c_check_lines (T := T) B) hr (by decide) (by rfl) (pa_cons (pv 1) pa_nil)))
    (pss_cons (ps_setLc (i := 4) (own := [("line", 8)]) (g := gName 8) (te := tOp (rIxT K) (tVar 8) (tC (.int 0))) (by rfl) sc_check_sheet.nd rfl rfl (sw_true rfl rfl rfl (by decide +kernel)) (pi_tup (pv 1)) (blkOk_by (own := [("line", 8)]) (N := N_check_sheet) (sc := defScope s_check_sheet) (by decide +kernel))
      (fun _ _ _ _ _ => pg_name (i := 8) sc_check_sheet.nd rfl (Or.inl rfl)) (fun _ _ _ _ _ => pts_nil) (fun _ _ _ _ _ => pe_ix ix_tup (pv 8) pe_int (fun _ _ => rfl)))
    (pss_cons (ps_for PassesOwn.never rfl (pi_range1 (by rfl) B.b_range (pa_cons (pe_callB call_len_seq (by rfl) B.b_len (by decide +kernel) (pa_cons (pv 2) pa_nil)) pa_nil)) (pg_name (i := 5) sc_check_sheet.nd rfl (Or.inl rfl))
      (pss_one (ps_expr (pe_c (c_check_section (T := T) B) hr (by decide) (by rfl) (pa_cons (pv 4) (pa_cons (pv 2) (pa_cons (pv 5) pa_nil)))))))
    (pss_one (ps_for PassesOwn.never rfl (pi_enumT (by rfl) B.b_enumerate (pa_cons (pv 3) pa_nil)) (pg_tup (by rfl) (pgs_cons (pg_name (i := 6) sc_check_sheet.nd rfl (Or.inl rfl)) (pgs_cons (pg_name (i := 7) sc_check_sheet.nd rfl (Or.inl rfl)) pgs_nil)))
      (pss_one (ps_expr (pe_c (c_check_day (T := T) B) hr (by decide) (by rfl) (pa_cons (pv 1) (pa_cons (pv 7) (pa_cons (pv 6) pa_nil)))))))))))), ?_⟩
  refine ⟨_, rfl, .ref a, x, rfl, hv, ok.shape, fun H1 g1 => ?_⟩
  refine ⟨1, rfl, _, _, _, rfl, rfl, ?_⟩
  refine ⟨_, rfl, a, _, rfl, sqT_go g1 ha, rfl, _, _, rfl, _, _, rfl, _, _, rfl, rfl, ?_⟩
  refine ⟨_, rfl, b, ls, x.ls, rfl, sqT_go g1 hb, DpAll.go g1 _ _ (fz_map _ fz_eL _) db, ok.ls, fun H2 g2' => ?_⟩
  have g2 := g1.trans g2'
  refine ⟨_, rfl, b, rfl, ⟨_, sqT_go g2 hb⟩, fun D hD => ?_⟩
  have lb := DpAll.map_len db
  have lc := DpAll.map_len dc
  have ld := DpAll.map_len dd
  have lm := ok.ls.most
  refine lc_dp (K := K) (T := T) (m := []) (walk_tup (xs := ls)) hD (fun a ha => absurd ha (by simp)) (small (by omega)) ((x.ls.map (·.1)).map PyData.str) (by simp; omega) (fz_map _ (fun a => by simp [fz]) _) (fun H3 g => sqT_go (g2.trans g) hb) (fun i v H3 H4 dn hdn g y F Z hF => ?_) fun H3 acc g3' e3 d3 => ?_
  · obtain ⟨rfl, hv⟩ := y
    have g3 := g2.trans g
    obtain ⟨l, el, dl⟩ := DpAll.map_at (DpAll.go g3 _ _ (fz_map _ fz_eL _) db) hv
    obtain ⟨q, wl, rfl, hl, _⟩ := dp_eL dl
    rw [List.getElem?_map, List.getElem?_map, el] at hdn
    cases hdn
    exact ⟨rfl, _, rfl, q, _, _, _, rfl, rfl, hl, atI_at (j := 0) rfl, hF _ _ Go.refl (.str _)⟩
  have ea := dpAll_strs_inv d3
  subst ea
  have g3 := g2.trans g3'
  refine ⟨_, rfl, c, ss, rfl, .inr (sqT_go g3 hc), ?_⟩
  have sm := ok.ss.most
  have dn := ok.dn
  refine ⟨_, rfl, by omega, by omega, ?_⟩
  have eD : ∀ Hx, Go T [] H3 Hx → SqL K Hx D ((x.ls.map (·.1)).map V.str) := fun Hx g => sqL_go g (by simp) (SqL.of e3)
  have nm : ∀ s ∈ x.ss, ∀ n ∈ s, NameOk n := fun s hs => (ok.shape.s.2 s hs).2
  refine for_range (n := (((ss.length : Nat) : Int)).toNat) (fun i σ H' => Go T [] H3 H' ∧ ∃ y, σ = [some (.ref a), some (.ref b), some (.ref c), some (.ref d), some (.ref D), y, none, none, none]) ⟨Go.refl, _, rfl⟩ (fun i σ H' hi h => ?_) fun σ H' h => ?_
  · obtain ⟨g, y, rfl⟩ := h
    have g4 := g3.trans g
    refine ⟨_, rfl, _, rfl, _, rfl, D, c, i, List.map (fun l : Ln => l.1) x.ls, ss, x.ss, by simp, eD _ g, sqT_go g4 hc, DpAll.go g4 _ _ (fz_map _ fz_eS _) dc, ok.ss, nm, by omega, fun H5 g5 => ⟨g.trans g5, _, rfl⟩⟩
  obtain ⟨g, y, rfl⟩ := h
  have g4 := g3.trans g
  refine ⟨_, rfl, d, ds, rfl, sqT_go g4 hd, ?_⟩
  refine for_it walk_enumT (fun i σ H5 => Go T [] H' H5 ∧ ∃ y1 y2 y3, σ = [some (.ref a), some (.ref b), some (.ref c), some (.ref d), some (.ref D), y1, y2, y3, none]) ⟨Go.refl, _, _, _, rfl⟩ (fun i σ H5 hi h => sqT_go (g4.trans h.1) hd) (fun i v σ H5 H6 hi h y => ?_) fun σ H5 h => hQ H5 (g4.trans h.1)
  obtain ⟨g5, y1, y2, y3, rfl⟩ := h
  obtain ⟨p1, u, z, rfl, np1, rfl, e1, e2⟩ := y
  cases Option.some.inj (show some (V.int (i : Nat)) = some u from e1)
  have e2 : ds[i]? = some z := e2
  have g6 : Go T [] H' (upd H5 p1 (.tup [.int (i : Nat), z])) := g5.new np1
  have g7 := g4.trans g6
  obtain ⟨q, eq, dq⟩ := DpAll.map_at (DpAll.go g7 _ _ (fz_map _ fz_eD _) dd) e2
  obtain ⟨e, ys, rfl, he, dy⟩ := dp_eD dq
  refine ⟨p1, _, rfl, .inl (.inl upd_same), rfl, _, _, rfl, _, _, rfl, rfl, ?_⟩
  exact ⟨_, rfl, _, rfl, _, rfl, b, e, _, ls, ys, x.ls, q, rfl, sqT_go g7 hb, DpAll.go g7 _ _ (fz_map _ fz_eL _) db, he, dy, ok.ds q (List.mem_of_getElem? eq), by omega, fun H7 g8 => ⟨g6.trans g8, _, _, _, rfl⟩⟩
def spIsSheet (T : List NTab) (K : PySem.W.Frag) : Sp := fun vs H Q _ => ∃ v x, vs = [v] ∧ Dp K H v (eSh x) ∧ Good x ∧ ∀ H', Go T [] H H' → Q (.bl true) H'
theorem c_is_sheet (B : Bs K mg CR CA) : C8.Cal P w K mg base 9 "is_sheet" (spIsSheet T K) [] := by
  obtain ⟨C, gP⟩ := B.g_InvalidPaper
  refine B.f_is_sheet.cal sc_is_sheet (fun _ _ _ _ _ _ us hl => match us, hl with | [_], _ => rfl) (fun vs H Q E h => ?_) fun f cdv A outer s H vs Q E hr h => ?_
  · obtain ⟨v, x, rfl, _⟩ := h
    rfl
  obtain ⟨v, x, rfl, hv, ok, hQ⟩ := h
  refine ⟨_, pss_cons (ps_try_only rfl rfl ⟨rfl, by decide, .inl gP⟩ LamX.takes0 (fun W pn xe tk _ => pss_one (ps_expr (pe_c (c_check_sheet (T := T) B) hr (by decide) (by rfl) (pa_cons (pv 0) pa_nil)))) (fun a oe cls d pn _ _ => pss_one (ps_ret pe_bl))) (pss_one (ps_ret pe_bl)), ?_⟩
  exact ⟨_, rfl, v, x, rfl, hv, ok, fun H1 g1 => hQ H1 g1⟩
def spLetsSheet (T : List NTab) (K : PySem.W.Frag) : Sp := fun vs H Q _ => ∃ v x, vs = [v] ∧ Dp K H v (eSh x) ∧ Good x ∧ ∀ H' p, Go T [] H H' → Dp K H' p (eF ((x.ls.length : Nat), (x.ds.length : Nat))) → Q p H'
theorem c_lets_sheet (B : Bs K mg CR CA) : C8.Cal P w K mg base 9 "lets_sheet" (spLetsSheet T K) [] := by
  refine B.f_lets_sheet.cal sc_lets_sheet (fun _ _ _ _ _ _ us hl => match us, hl with | [_], _ => rfl) (fun vs H Q E h => ?_) fun f cdv A outer s H vs Q E hr h => ?_
  · obtain ⟨v, x, rfl, _⟩ := h
    rfl
  obtain ⟨v, x, rfl, hv, ok, hQ⟩ := h
  obtain ⟨a, b, c, d, ls, ss, ds, rfl, ha, hb, db, hc, dc, hd, dd⟩ := dp_eSh hv
  refine ⟨_, pss_cons (ps_expr (pe_c (c_check_sheet (T := T) B) hr (by decide) (by rfl) (pa_cons (pv 0) pa_nil)))
    (pss_one (ps_ret (pe_tup (pa_cons (pe_callB call_len_seq (by rfl) B.b_len (by decide +kernel) (pa_cons (pe_ix ix_tup (pv 0) pe_int (fun _ _ => rfl)) pa_nil)) (pa_cons (pe_callB call_len_seq (by rfl) B.b_len (by decide +kernel) (pa_cons (pe_ix ix_tup (pv 0) pe_int (fun _ _ => rfl)) pa_nil)) pa_nil))))), ?_⟩
  refine ⟨_, rfl, .ref a, x, rfl, hv, ok, fun H1 g => ?_⟩
  refine ⟨_, rfl, a, _, _, _, rfl, rfl, sqT_go g ha, atI_at (j := 0) rfl, b, _, rfl, .inr (sqT_go g hb), ?_⟩
  refine ⟨_, rfl, a, _, _, _, rfl, rfl, sqT_go g ha, atI_at (j := 2) rfl, d, _, rfl, .inr (sqT_go g hd), (by show 2 ≤ sizeLine; decide), fun p np => ?_⟩
  refine hQ _ _ (g.new np) (mk_eF ?_)
  rw [DpAll.map_len db, DpAll.map_len dd]
  exact .inl (.inl upd_same)
end Cb
/-! ## CbW8 -/
set_option maxHeartbeats 4000000
/-! sheettexts.py. -/
namespace Cb
open PySem PySem.Spec PyProof.Rows L2
open NdefX (NTab TabN TabsN)
open C8 (pe_c pe_mt pe_mt0 pe_mk)
open SX (S)
variable {P : Program} {w : World} {K : PySem.W.Frag} {mg : Str → Option Value} {base : Heap} {CR CA : Addr} {T : List NTab}
theorem tos {i : Int} (h : 0 ≤ i) : Str.ofString (toString i) = S (intL i) := by
  obtain ⟨n, rfl⟩ := Int.eq_ofNat_of_zero_le h
  unfold intL
  rw [if_neg (by omega), Int.natAbs_natCast]
  exact SX.num_S n
theorem log_small {i : Int} (h : i.natAbs < 10 ^ 15) : i.natAbs.log2 < 1920 := Nat.lt_of_lt_of_le (PySem.Flt.log2_lt_of (k := 50) (by decide) (Nat.lt_of_lt_of_le h (by decide))) (by decide)
def spIntText0 : Sp := fun vs H Q _ => ∃ i : Int, vs = [.int i] ∧ 0 ≤ i ∧ i < 10 ^ 15 ∧ Q (.str (S (intL i))) H
theorem c_integer_text0 (B : Bs K mg CR CA) : C8.Cal P w K mg base 1 "integer_text" spIntText0 [] := by
  refine B.f_integer_text.cal sc_integer_text (fun _ _ _ _ _ _ us hl => match us, hl with | [_], _ => rfl) (fun vs H Q E h => ?_) fun f cdv A outer s H vs Q E hr h => ?_
  · obtain ⟨i, rfl, _⟩ := h
    rfl
  obtain ⟨i, rfl, h0, hb, hQ⟩ := h
  refine ⟨_, pss_cons (ps_if (pt_cmp (pc_lt (pv 0) pe_int)) pss_never pss_nil)
    (pss_cons (ps_set (i := 1) sc_integer_text.nd rfl (Or.inl rfl) (pe_op op_pow pe_int pe_int))
    (pss_cons (ps_set (i := 2) sc_integer_text.nd rfl (Or.inl rfl) pe_str)
    (pss_cons (ps_while PassesOwn.never (pt_cmp (pc_ge (pv 0) (pv 1))) pss_never)
    (pss_one (ps_ret (pe_joined (PJ.cons (pe_fmt (pv 0)) (PJ.cons (pe_fmt (pv 2)) PJ.nil)))))))), ?_⟩
  refine ⟨_, rfl, _, _, rfl, rfl, _, rfl, ?_⟩
  refine iteDF (by omega) ?_
  refine ⟨_, _, rfl, rfl, ⟨by decide, by decide, by decide⟩, ?_⟩
  · refine while_by (fun σ H' => H' = H ∧ σ = [some (.int i), some (.int (10 ^ 60)), some (.str "")]) (fun _ _ => 0) ⟨rfl, rfl⟩ ?_ ?_
    · rintro σ H' ⟨rfl, rfl⟩
      refine ⟨_, rfl, _, rfl, _, _, rfl, rfl, _, rfl, ?_⟩
      refine iteDF (by omega) ?_
      refine ⟨_, rfl, .inr ⟨i, rfl, log_small (by omega), _, rfl, ?_⟩⟩
      have hl := intL_len (i := i) (by omega)
      rw [tos h0, show Str.empty ++ S (intL i) = S (intL i) from SX.S_cat [] _]
      refine ⟨by rw [SX.S_len]; exact small (by omega), _, rfl, .inl ⟨_, rfl, by decide, _, rfl, ?_⟩⟩
      rw [show S (intL i) ++ ("" : Str) = S (intL i) from (SX.S_cat _ []).trans (by rw [List.append_nil])]
      exact ⟨by rw [SX.S_len]; exact small (by omega), hQ⟩
    · rintro σ H' Q1 Q2 himp ⟨v, h1, v2, h2, i, j, h3, h4, b, h5, h6⟩
      exact ⟨v, h1, v2, h2, i, j, h3, h4, b, h5, himp _ _ h6⟩
def spIntText : Sp := fun vs H Q _ => ∃ i : Int, vs = [.int i] ∧ i.natAbs < 10 ^ 15 ∧ Q (.str (S (intL i))) H
theorem c_integer_text (B : Bs K mg CR CA) : C8.Cal P w K mg base 2 "integer_text" spIntText [] := by
  refine B.f_integer_text.cal sc_integer_text (fun _ _ _ _ _ _ us hl => match us, hl with | [_], _ => rfl) (fun vs H Q E h => ?_) fun f cdv A outer s H vs Q E hr h => ?_
  · obtain ⟨i, rfl, _⟩ := h
    rfl
  obtain ⟨i, rfl, hb, hQ⟩ := h
  refine ⟨_, pss_cons (ps_if (pt_cmp (pc_lt (pv 0) pe_int)) (pss_one (ps_ret (pe_joined (PJ.cons pe_str (PJ.cons (pe_fmt (pe_c (c_integer_text0 B) hr (by decide) (by rfl) (pa_cons (pe_op op_sub pe_int (pv 0)) pa_nil))) PJ.nil))))) pss_nil)
    (pss_cons (ps_set (i := 1) sc_integer_text.nd rfl (Or.inl rfl) (pe_op op_pow pe_int pe_int))
    (pss_cons (ps_set (i := 2) sc_integer_text.nd rfl (Or.inl rfl) pe_str)
    (pss_cons (ps_while PassesOwn.never (pt_cmp (pc_ge (pv 0) (pv 1))) pss_never)
    (pss_one (ps_ret (pe_joined (PJ.cons (pe_fmt (pv 0)) (PJ.cons (pe_fmt (pv 2)) PJ.nil)))))))), ?_⟩
  refine ⟨_, rfl, _, _, rfl, rfl, _, rfl, ?_⟩
  by_cases h0 : i < 0
  · refine iteD h0 ?_
    refine ⟨_, rfl, by decide, _, rfl, _, _, rfl, rfl, 0 - i, rfl, by omega, by omega, .inl ⟨_, rfl, ?_, _, rfl, ?_⟩⟩
    · have hl := intL_len (i := 0 - i) (by omega)
      rw [SX.S_len]
      exact small (by omega)
    have hl := intL_len (i := i) hb
    have e : (Str.empty ++ ("-" : Str)) ++ S (intL (0 - i)) = S (intL i) := by
      have e1 : Str.empty ++ ("-" : Str) = S [45] := SX.S_cat [] [45]
      rw [e1, SX.S_cat]
      unfold intL
      rw [if_pos h0, if_neg (by omega), show (0 - i).natAbs = i.natAbs by omega]
      rfl
    rw [e]
    exact ⟨by rw [SX.S_len]; exact small (by omega), hQ⟩
  have h0 : 0 ≤ i := by omega
  refine iteDF (by omega) ?_
  refine ⟨_, _, rfl, rfl, ⟨by decide, by decide, by decide⟩, ?_⟩
  · refine while_by (fun σ H' => H' = H ∧ σ = [some (.int i), some (.int (10 ^ 60)), some (.str "")]) (fun _ _ => 0) ⟨rfl, rfl⟩ ?_ ?_
    · rintro σ H' ⟨rfl, rfl⟩
      refine ⟨_, rfl, _, rfl, _, _, rfl, rfl, _, rfl, ?_⟩
      refine iteDF (by omega) ?_
      refine ⟨_, rfl, .inr ⟨i, rfl, log_small (by omega), _, rfl, ?_⟩⟩
      have hl := intL_len (i := i) (by omega)
      rw [tos h0, show Str.empty ++ S (intL i) = S (intL i) from SX.S_cat [] _]
      refine ⟨by rw [SX.S_len]; exact small (by omega), _, rfl, .inl ⟨_, rfl, by decide, _, rfl, ?_⟩⟩
      rw [show S (intL i) ++ ("" : Str) = S (intL i) from (SX.S_cat _ []).trans (by rw [List.append_nil])]
      exact ⟨by rw [SX.S_len]; exact small (by omega), hQ⟩
    · rintro σ H' Q1 Q2 himp ⟨v, h1, v2, h2, i, j, h3, h4, b, h5, h6⟩
      exact ⟨v, h1, v2, h2, i, j, h3, h4, b, h5, himp _ _ h6⟩
def spFractionText (K : PySem.W.Frag) : Sp := fun vs H Q _ => ∃ (v : V) (q : Fr), vs = [v] ∧ Dp K H v (eF q) ∧ FrOk q ∧ Q (.str (S (frL q))) H
theorem c_fraction_text (B : Bs K mg CR CA) : C8.Cal P w K mg base 3 "fraction_text" (spFractionText K) [] := by
  refine B.f_fraction_text.cal sc_fraction_text (fun _ _ _ _ _ _ us hl => match us, hl with | [_], _ => rfl) (fun vs H Q E h => ?_) fun f cdv A outer s H vs Q E hr h => ?_
  · obtain ⟨v, q, rfl, _⟩ := h
    rfl
  obtain ⟨v, q, rfl, hv, ok, hQ⟩ := h
  obtain ⟨a, rfl, ha⟩ := dp_eF hv
  refine ⟨_, pss_cons (ps_asg (pv 0) (pg_tup (by rfl) (pgs_cons (pg_name (i := 1) sc_fraction_text.nd rfl (Or.inl rfl)) (pgs_cons (pg_name (i := 2) sc_fraction_text.nd rfl (Or.inl rfl)) pgs_nil))))
    (pss_one (ps_ret (pe_ifExp (pt_cmp (pc_eqI (pv 2) pe_int)) (pe_c (c_integer_text B) hr (by decide) (by rfl) (pa_cons (pv 1) pa_nil))
      (pe_joined (PJ.cons (pe_fmt (pe_c (c_integer_text B) hr (by decide) (by rfl) (pa_cons (pv 1) pa_nil))) (PJ.cons pe_str (PJ.cons (pe_fmt (pe_c (c_integer_text B) hr (by decide) (by rfl) (pa_cons (pv 2) pa_nil))) PJ.nil))))))), ?_⟩
  have p := ok.pos
  have l := ok.low
  have b1 := ok.b1
  have b2 := ok.b2
  refine ⟨_, rfl, a, _, rfl, ha, rfl, _, _, rfl, _, _, rfl, rfl, ?_⟩
  refine ⟨_, rfl, _, _, rfl, rfl, _, rfl, ?_⟩
  by_cases h1 : q.2 = 1
  · refine iteD h1 ?_
    refine ⟨_, rfl, q.1, rfl, by omega, ?_⟩
    unfold frL at hQ
    rw [if_pos h1] at hQ
    exact hQ
  · refine iteDF h1 ?_
    have l1 := intL_len (i := q.1) (by omega)
    have l2 := intL_len (i := q.2) (by omega)
    refine ⟨_, rfl, q.1, rfl, by omega, .inl ⟨_, rfl, by rw [SX.S_len]; exact small (by omega), _, rfl, ?_⟩⟩
    rw [show Str.empty ++ S (intL q.1) = S (intL q.1) from SX.S_cat [] _]
    refine ⟨by rw [SX.S_len]; exact small (by omega), _, rfl, ?_⟩
    rw [show S (intL q.1) ++ ("/" : Str) = S (intL q.1 ++ [47]) from SX.S_cat _ [47]]
    refine ⟨by rw [SX.S_len, List.length_append]; exact small (by simp; omega), _, rfl, q.2, rfl, by omega, .inl ⟨_, rfl, by rw [SX.S_len]; exact small (by omega), _, rfl, ?_⟩⟩
    unfold frL at hQ
    rw [if_neg h1] at hQ
    rw [SX.S_cat, List.append_assoc]
    exact ⟨by rw [SX.S_len, List.length_append, List.length_append]; exact small (by simp; omega), hQ⟩
end Cb
/-! ## CbW9 -/
set_option maxHeartbeats 4000000
/-! sheettexts.py: lines, the sheet. -/
namespace Cb
open PySem PySem.Spec PyProof.Rows L2
open NdefX (NTab TabN TabsN)
open C8 (pe_c pe_mt pe_mt0 pe_mk)
open SX (S)
variable {P : Program} {w : World} {K : PySem.W.Frag} {mg : Str → Option Value} {base : Heap} {CR CA : Addr} {T : List NTab}
theorem js_at {acc y z : List Nat} {ts : List TE} {σ : L2.St} {H : Hp} {Q : Str → Hp → Prop} (e : acc ++ y = z) (hz : z.length ≤ 10000) (h : tJs ts (S z) σ H Q) : ∃ x : Str, V.str (S y) = .str x ∧ (S acc ++ x).length ≤ sizeLine ∧ tJs ts (S acc ++ x) σ H Q := by
  subst e
  refine ⟨S y, rfl, ?_⟩
  rw [SX.S_cat]
  exact ⟨by rw [SX.S_len]; exact small (by omega), h⟩
theorem fmt_at {y : List Nat} {te : TE} {σ : L2.St} {H : Hp} {Q : VK} (hz : y.length ≤ 10000) (h : te σ H fun x H1 => x = .str (S y) ∧ Q x H1) (mono : ∀ Q1 Q2 : VK, (∀ x H1, Q1 x H1 → Q2 x H1) → te σ H Q1 → te σ H Q2) : tFmt te σ H Q := by
  refine mono _ _ (fun x H1 hx => ?_) h
  obtain ⟨rfl, q⟩ := hx
  exact .inl ⟨_, rfl, by rw [SX.S_len]; exact small (by omega), q⟩
def spLineText (K : PySem.W.Frag) : Sp := fun vs H Q _ => ∃ (v : V) (l : Ln), vs = [v] ∧ Dp K H v (eL l) ∧ NameOk l.1 ∧ FrOk l.2.1 ∧ l.2.2.1.natAbs < 10 ^ 15 ∧ Q (.str (S (rowL (wordsL l)))) H
theorem c_line_text (B : Bs K mg CR CA) : C8.Cal P w K mg base 4 "line_text" (spLineText K) [] := by
  refine B.f_line_text.cal sc_line_text (fun _ _ _ _ _ _ us hl => match us, hl with | [_], _ => rfl) (fun vs H Q E h => ?_) fun f cdv A outer s H vs Q E hr h => ?_
  · obtain ⟨v, q, rfl, _⟩ := h
    rfl
  obtain ⟨v, l, rfl, hv, hn, hf, hc, hQ⟩ := h
  obtain ⟨a, wf, rfl, ha, df⟩ := dp_eL hv
  refine ⟨_, pss_cons (ps_asg (pv 0) (pg_tup (by rfl) (pgs_cons (pg_name (i := 1) sc_line_text.nd rfl (Or.inl rfl)) (pgs_cons (pg_name (i := 2) sc_line_text.nd rfl (Or.inl rfl)) (pgs_cons (pg_name (i := 3) sc_line_text.nd rfl (Or.inl rfl)) (pgs_cons (pg_name (i := 4) sc_line_text.nd rfl (Or.inl rfl)) pgs_nil))))))
    (pss_cons (ps_set (i := 5) sc_line_text.nd rfl (Or.inl rfl) (pe_m (pe_ifExp (pt_val (pv 4)) pe_str pe_str)))
    (pss_one (ps_ret (pe_joined (PJ.cons (pe_fmt (pv 5)) (PJ.cons pe_str (PJ.cons (pe_fmt (pv 1)) (PJ.cons pe_str (PJ.cons (pe_fmt (pe_c (c_fraction_text B) hr (by decide) (by rfl) (pa_cons (pv 2) pa_nil)))
      (PJ.cons pe_str (PJ.cons (pe_fmt (pe_c (c_integer_text B) hr (by decide) (by rfl) (pa_cons (pv 3) pa_nil))) PJ.nil))))))))))), ?_⟩
  refine ⟨_, rfl, a, _, rfl, ha, rfl, _, _, rfl, _, _, rfl, _, _, rfl, _, _, rfl, rfl, ?_⟩
  refine ⟨fun x H1 => x = .str (S (if l.2.2.2 = true then wLine else wEnded)) ∧ H1 = H, ⟨_, rfl, _, rfl, ?_⟩, ?_⟩
  · by_cases h : l.2.2.2 = true
    · rw [h]
      exact iteT ⟨rfl, rfl⟩
    · rw [show l.2.2.2 = false by simpa using h]
      exact iteF ⟨rfl, rfl⟩
  rintro _ _ ⟨rfl, rfl⟩
  have l1 := word_len l.2.2.2
  have l2 := hn.most
  have l3 := frL_len hf
  have l4 := intL_len hc
  have e2 : (sg l.1).length = l.1.length := by simp [Str.length]
  generalize hw : (if l.2.2.2 = true then wLine else wEnded) = wd at *
  refine ⟨_, rfl, .inl ⟨_, rfl, by rw [SX.S_len]; exact small (by omega), ?_⟩⟩
  refine js_at (acc := []) (z := wd) rfl (by omega) ?_
  refine js_at (y := [32]) rfl (by simp only [List.length_append, List.length_cons, List.length_nil]; omega) ?_
  refine ⟨_, rfl, .inl ⟨l.1, rfl, small (by omega), ?_⟩⟩
  rw [← S_sg l.1]
  refine js_at rfl (by simp only [List.length_append, List.length_cons, List.length_nil]; omega) ?_
  refine js_at (y := [32]) rfl (by simp only [List.length_append, List.length_cons, List.length_nil]; omega) ?_
  refine ⟨_, rfl, _, l.2.1, rfl, df, hf, .inl ⟨_, rfl, by rw [SX.S_len]; exact small (by omega), ?_⟩⟩
  refine js_at rfl (by simp only [List.length_append, List.length_cons, List.length_nil]; omega) ?_
  refine js_at (y := [32]) rfl (by simp only [List.length_append, List.length_cons, List.length_nil]; omega) ?_
  refine ⟨_, rfl, l.2.2.1, rfl, hc, .inl ⟨_, rfl, by rw [SX.S_len]; exact small (by omega), ?_⟩⟩
  refine js_at (z := rowL (wordsL l)) ?_ ?_ hQ
  · unfold rowL wordsL
    rw [hw]
    simp [TL.joinL, List.append_assoc]
  · unfold rowL wordsL
    rw [hw]
    simp only [TL.joinL, List.length_append, List.length_cons, List.length_nil]
    omega
end Cb
/-! ## CbW10 -/
set_option maxHeartbeats 4000000
/-! sheettexts.py: the sheet. -/
namespace Cb
open PySem PySem.Spec PyProof.Rows L2
open NdefX (NTab TabN TabsN)
open C8 (pe_c pe_mt pe_mt0 pe_mk)
open SX (S)
variable {P : Program} {w : World} {K : PySem.W.Frag} {mg : Str → Option Value} {base : Heap} {CR CA : Addr} {T : List NTab}
def rJ (K : PySem.W.Frag) : V → List V → Hp → VK → Prop := fun x xs H Q => ∃ a p, ∃ ys : List Str, x = .str a ∧ xs = [.ref p] ∧ (SqL K H p (ys.map V.str) ∨ SqT K H p (ys.map V.str)) ∧ (ys.map (·.length)).sum + ys.length * a.length ≤ 16777216 ∧ Q (.str (Txt.join a ys)) H
/-- join of short parts -/
theorem rj_at {s : List Nat} {ps : List (List Nat)} {p : Addr} {H : Hp} {Q : VK} {n : Nat} (hp : SqL K H p ((ps.map S).map V.str)) (h : ∀ q ∈ ps, q.length ≤ n) (hz : ps.length * (n + s.length) ≤ 16777216) (q : Q (.str (S (TL.joinL s ps))) H) : rJ K (.str (S s)) [.ref p] H Q := by
  refine ⟨_, p, ps.map S, rfl, rfl, .inl hp, ?_, ?_⟩
  · rw [SX.lens, List.length_map, SX.S_len]
    exact Nat.le_trans (join_le h) hz
  · rw [SX.join_S]
    exact q
theorem wordsS_len {s : List Str} (h : ∀ n ∈ s, NameOk n) : ∀ p ∈ wordsS s, p.length ≤ 33 := fun p hp => by
  unfold wordsS at hp
  rcases List.mem_cons.mp hp with rfl | hp
  · decide
  · obtain ⟨n, hn, rfl⟩ := List.mem_map.mp hp
    have := (h n hn).most
    have e : (sg n).length = n.length := by simp [Str.length]
    omega
theorem wordsD_len {d : List Fr} (h : ∀ q ∈ d, FrOk q) : ∀ p ∈ wordsD d, p.length ≤ 33 := fun p hp => by
  unfold wordsD at hp
  rcases List.mem_cons.mp hp with rfl | hp
  · decide
  · obtain ⟨q, hq, rfl⟩ := List.mem_map.mp hp
    exact frL_len (h q hq)
theorem rowL_len {ws : List (List Nat)} (h : ∀ p ∈ ws, p.length ≤ 33) (hl : ws.length ≤ 100) : (rowL ws).length ≤ 3400 := by
  have h1 := joinL_len [32] ws
  have h2 := join_le (s := [32]) h
  have h3 : ws.length * (33 + [32].length) ≤ 100 * 34 := Nat.mul_le_mul hl (by decide)
  unfold rowL
  omega
theorem map_sg (s : List Str) : (s.map sg).map S = s := by
  rw [List.map_map]
  conv => rhs; rw [← List.map_id s]
  exact List.map_congr_left fun n _ => S_sg n
def spSheetText (T : List NTab) (K : PySem.W.Frag) : Sp := fun vs H Q _ => ∃ (v : V) (x : Sheet), vs = [v] ∧ Dp K H v (eSh x) ∧ Good x ∧ ∀ H', Go T [] H H' → Q (.str (S (textL x))) H'
theorem c_sheet_text (B : Bs K mg CR CA) : C8.Cal P w K mg base 5 "sheet_text" (spSheetText T K) [] := by
  refine B.f_sheet_text.cal sc_sheet_text (fun _ _ _ _ _ _ us hl => match us, hl with | [_], _ => rfl) (fun vs H Q E h => ?_) fun f cdv A outer s H vs Q E hr h => ?_
  · obtain ⟨v, q, rfl, _⟩ := h
    rfl
  obtain ⟨v, x, rfl, hv, ok, hQ⟩ := h
  obtain ⟨a, b, c, d, ls, ss, ds, rfl, ha, hb, db, hc, dc, hd, dd⟩ := dp_eSh hv
  refine ⟨_, pss_cons (ps_asg (pv 0) (pg_tup (by rfl) (pgs_cons (pg_name (i := 1) sc_sheet_text.nd rfl (Or.inl rfl)) (pgs_cons (pg_name (i := 2) sc_sheet_text.nd rfl (Or.inl rfl)) (pgs_cons (pg_name (i := 3) sc_sheet_text.nd rfl (Or.inl rfl)) pgs_nil)))))
    (pss_cons (ps_setLc (i := 4) (own := [("line", 5)]) (g := gName 5) (te := tCall (spLineText K) [] C8.E0 (tCons (tVar 5) tNil)) (by rfl) sc_sheet_text.nd rfl rfl (sw_true rfl rfl rfl (by decide +kernel)) (pi_tup (pv 1)) (blkOk_by (own := [("line", 5)]) (N := N_sheet_text) (sc := defScope s_sheet_text) (by decide +kernel))
      (fun _ _ _ _ _ => pg_name (i := 5) sc_sheet_text.nd rfl (Or.inl rfl)) (fun _ _ _ _ _ => pts_nil) (fun _ _ _ _ _ => pe_c (c_line_text B) hr (by decide) (by rfl) (pa_cons (pv 5) pa_nil)))
    (pss_cons (ps_expr (pe_bm PySem.F.plainAttrs_list PySem.F.slot_list_extend PySem.F.type_list_extend mt_extend (pv 4) (pa_cons (pe_lc (own := [("section", 6)]) (g := gName 6) (te := tM1 (rJ K) (tC (.str " ")) (tLst (tCons (tC (.str "section")) (StX.tStar K (tVar 6) tNil)))) (by rfl) sc_sheet_text.nd (pi_tup (pv 2)) (blkOk_by (own := [("section", 6)]) (N := N_sheet_text) (sc := defScope s_sheet_text) (by decide +kernel))
      (fun _ _ _ _ _ => pg_name (i := 6) sc_sheet_text.nd rfl (Or.inl rfl)) (fun _ _ _ _ _ => pts_nil) (fun _ _ _ _ _ => pe_join pe_str (pe_lst (pa_cons pe_str (StX.pa_star (pv 6) pa_nil))))) pa_nil)))
    (pss_cons (ps_expr (pe_bm PySem.F.plainAttrs_list PySem.F.slot_list_extend PySem.F.type_list_extend mt_extend (pv 4) (pa_cons (pe_lc (own := [("charges", 7)]) (g := gName 7) (te := tM1 (rJ K) (tC (.str " ")) (tLst (tCons (tC (.str "day")) (StX.tStar K (tLc (iTup K (tVar 7)) (gName 8) tYes (tCall (spFractionText K) [] C8.E0 (tCons (tVar 8) tNil)) [8]) tNil)))) (by rfl) sc_sheet_text.nd (pi_tup (pv 3)) (blkOk_by (own := [("charges", 7)]) (N := N_sheet_text) (sc := defScope s_sheet_text) (by decide +kernel))
      (fun _ _ _ _ _ => pg_name (i := 7) sc_sheet_text.nd rfl (Or.inl rfl)) (fun _ _ _ _ _ => pts_nil) (fun _ _ _ _ _ => pe_join pe_str (pe_lst (pa_cons pe_str (StX.pa_star (pe_lc (own := [("charge", 8)]) (g := gName 8) (te := tCall (spFractionText K) [] C8.E0 (tCons (tVar 8) tNil)) (by rfl) sc_sheet_text.nd (pi_tup (pv 7)) (blkOk_by (own := [("charge", 8)]) (N := N_sheet_text) (sc := relS _ (defScope s_sheet_text)) (by decide +kernel))
        (fun _ _ _ _ _ => pg_name (i := 8) sc_sheet_text.nd rfl (Or.inl rfl)) (fun _ _ _ _ _ => pts_nil) (fun _ _ _ _ _ => pe_c (c_fraction_text B) hr (by decide) (by rfl) (pa_cons (pv 8) pa_nil))) pa_nil))))) pa_nil)))
    (pss_one (ps_ret (pe_join pe_str (pv 4))))))), ?_⟩
  have lb := DpAll.map_len db
  have lc := DpAll.map_len dc
  have ld := DpAll.map_len dd
  have m1 := ok.ls.most
  have m2 := ok.ss.most
  have m3 := ok.dn
  have nm : ∀ s ∈ x.ss, ∀ n ∈ s, NameOk n := fun s hs n hn => by
    obtain ⟨l, hl, rfl⟩ := List.mem_map.mp (ok.ss.sub s hs n hn)
    exact ok.ls.names l hl
  refine ⟨_, rfl, a, _, rfl, ha, rfl, _, _, rfl, _, _, rfl, _, _, rfl, rfl, ?_⟩
  refine ⟨_, rfl, b, rfl, ⟨_, hb⟩, fun D hD => ?_⟩
  refine lc_dp (K := K) (T := T) (m := []) (walk_tup (xs := ls)) hD (fun a ha => absurd ha (by simp)) (small (by omega)) ((((x.ls.map wordsL).map rowL).map S).map PyData.str) (by simp; omega) (fz_map _ (fun a => by simp [fz]) _) (fun H3 g => sqT_go g hb) (fun i v H3 H4 dn hdn g y F Z hF => ?_) fun H1 acc g1 e1 d1 => ?_
  · obtain ⟨rfl, hv⟩ := y
    obtain ⟨l, el, dl⟩ := DpAll.map_at (DpAll.go g _ _ (fz_map _ fz_eL _) db) hv
    simp only [List.getElem?_map, el, Option.map_some] at hdn
    cases hdn
    have hl := List.mem_of_getElem? el
    exact ⟨rfl, _, rfl, v, l, rfl, dl, ok.ls.names l hl, ok.ls.fr l hl, ok.ls.cents l hl, hF _ _ Go.refl (.str _)⟩
  have ea := dpAll_strs_inv d1
  subst ea
  refine ⟨_, rfl, .inl ⟨rfl, _, SqL.of e1⟩, ?_⟩
  refine ⟨_, rfl, c, rfl, ⟨_, sqT_go g1 hc⟩, fun D2 hD2 => ?_⟩
  refine lc_dp (K := K) (T := T) (m := []) (walk_tup (xs := ss)) hD2 (fun a ha => absurd ha (by simp)) (small (by omega)) ((((x.ss.map wordsS).map rowL).map S).map PyData.str) (by simp; omega) (fz_map _ (fun a => by simp [fz]) _) (fun H3 g => sqT_go (g1.trans g) hc) (fun i v H3 H4 dn hdn g y F Z hF => ?_) fun H2 acc g2 e2 d2 => ?_
  · obtain ⟨rfl, hv⟩ := y
    obtain ⟨s, es, dl⟩ := DpAll.map_at (DpAll.go (g1.trans g) _ _ (fz_map _ fz_eS _) dc) hv
    simp only [List.getElem?_map, es, Option.map_some] at hdn
    cases hdn
    obtain ⟨p, rfl, hp⟩ := dp_eS dl
    have hs := List.mem_of_getElem? es
    have hsl := (ok.ss.len s hs).2
    refine ⟨rfl, ⟨_, rfl⟩, _, rfl, p, _, rfl, .inl hp, small (by simp; omega), fun q nq => ?_⟩
    refine rj_at (s := [32]) (ps := wordsS s) (n := 33) (p := q) ?_ (wordsS_len (nm s hs)) (by unfold wordsS; simp; omega) (hF _ _ (Go.new Go.refl nq) (.str _))
    refine SqL.of ?_
    rw [upd_same]
    unfold wordsS
    rw [List.map_cons, map_sg, List.map_cons, List.append_nil]
    rfl
  have ea := dpAll_strs_inv d2
  subst ea
  have e1' : H2 D = _ := g2.keep D _ (by simp) e1 fun ps z => by cases z
  refine ⟨D, D2, _, _, rfl, rfl, e1', e2, small (by simp; omega), ?_⟩
  have g12 := g1.trans g2
  have g3 : Go T [] H (upd H2 D (.lst (((((x.ls.map wordsL).map rowL).map S).map V.str) ++ ((((x.ss.map wordsS).map rowL).map S).map V.str)))) := g12.put (.inr hD) e1' rfl
  refine ⟨_, rfl, .inl ⟨rfl, _, SqL.of upd_same⟩, ?_⟩
  refine ⟨_, rfl, d, rfl, ⟨_, sqT_go g3 hd⟩, fun D3 hD3 => ?_⟩
  refine lc_dp (K := K) (T := T) (m := []) (walk_tup (xs := ds)) hD3 (fun a ha => absurd ha (by simp)) (small (by omega)) ((((x.ds.map wordsD).map rowL).map S).map PyData.str) (by simp; omega) (fz_map _ (fun a => by simp [fz]) _) (fun H3 g => sqT_go (g3.trans g) hd) (fun i v H3 H4 dn hdn g y F Z hF => ?_) fun H4 acc g4 e4 d4 => ?_
  · obtain ⟨rfl, hv⟩ := y
    have g5 := g3.trans g
    obtain ⟨s, es, dl⟩ := DpAll.map_at (DpAll.go g5 _ _ (fz_map _ fz_eD _) dd) hv
    simp only [List.getElem?_map, es, Option.map_some] at hdn
    cases hdn
    obtain ⟨p, ys, rfl, hp, dy⟩ := dp_eD dl
    have hs := List.mem_of_getElem? es
    have hsl := (ok.ds s hs).len
    have ly := DpAll.map_len dy
    refine ⟨rfl, ⟨_, rfl⟩, _, rfl, p, rfl, ⟨_, hp⟩, fun D5 hD5 => ?_⟩
    refine lc_dp (K := K) (T := T) (m := []) (walk_tup (xs := ys)) hD5 (fun a ha => absurd ha (by simp)) (small (by omega)) (((s.map frL).map S).map PyData.str) (by simp; omega) (fz_map _ (fun a => by simp [fz]) _) (fun H3 g => sqT_go g hp) (fun j v H6 H7 dn hdn g6 y F' Z' hF' => ?_) fun H6 acc g6 e6 d6 => ?_
    · obtain ⟨rfl, hv⟩ := y
      obtain ⟨q, eq, dq⟩ := DpAll.map_at (DpAll.go g6 _ _ (fz_map _ fz_eF _) dy) hv
      simp only [List.getElem?_map, eq, Option.map_some] at hdn
      cases hdn
      exact ⟨rfl, _, rfl, v, q, rfl, dq, (ok.ds s hs).fr q (List.mem_of_getElem? eq), hF' _ _ Go.refl (.str _)⟩
    have ea := dpAll_strs_inv d6
    subst ea
    refine ⟨D5, _, rfl, .inr (SqL.of e6), small (by simp; omega), fun q nq => ?_⟩
    refine rj_at (s := [32]) (ps := wordsD s) (n := 33) (p := q) ?_ (wordsD_len (ok.ds s hs).fr) (by unfold wordsD; simp; omega) (hF _ _ (g6.trans (Go.new Go.refl nq)) (.str _))
    refine SqL.of ?_
    rw [upd_same, List.append_nil]
    unfold wordsD
    rw [List.map_cons, List.map_cons]
    rfl
  have ea := dpAll_strs_inv d4
  subst ea
  have e5 : H4 D = _ := g4.keep D _ (by simp) upd_same fun ps z => by cases z
  refine ⟨D, D3, _, _, rfl, rfl, e5, e4, small (by simp; omega), ?_⟩
  have g6 := (g3.trans g4).put (o := .lst ((((((x.ls.map wordsL).map rowL).map S).map V.str) ++ ((((x.ss.map wordsS).map rowL).map S).map V.str)) ++ ((((x.ds.map wordsD).map rowL).map S).map V.str))) (.inr hD) e5 rfl
  refine ⟨⟨_, rfl⟩, _, rfl, ?_⟩
  refine rj_at (s := [10]) (ps := (rowsOf x).map rowL) (n := 3400) (p := D) ?_ (fun q hq => ?_) ?_ (hQ _ g6)
  · refine SqL.of ?_
    rw [upd_same]
    unfold rowsOf
    simp only [List.map_append, List.append_assoc]
  · obtain ⟨ws, hw, rfl⟩ := List.mem_map.mp hq
    unfold rowsOf at hw
    rcases List.mem_append.mp hw with hw | hw
    · obtain ⟨l, hl, rfl⟩ := List.mem_map.mp hw
      exact rowL_len (wordsL_len (ok.ls.names l hl) (ok.ls.fr l hl) (ok.ls.cents l hl)) (by unfold wordsL; simp)
    rcases List.mem_append.mp hw with hw | hw
    · obtain ⟨s, hs, rfl⟩ := List.mem_map.mp hw
      have := (ok.ss.len s hs).2
      exact rowL_len (wordsS_len (nm s hs)) (by unfold wordsS; simp; omega)
    · obtain ⟨s, hs, rfl⟩ := List.mem_map.mp hw
      have := (ok.ds s hs).len
      exact rowL_len (wordsD_len (ok.ds s hs).fr) (by unfold wordsD; simp; omega)
  · unfold rowsOf
    simp
    omega
end Cb
/-! ## CbW11 -/
set_option maxHeartbeats 4000000
/-! sheetreadings.py: numbers. -/
namespace Cb
open PySem PySem.Spec PyProof.Rows L2
open NdefX (NTab TabN TabsN)
open C8 (pe_c pe_mt pe_mt0 pe_mk)
open SX (S)
variable {P : Program} {w : World} {K : PySem.W.Frag} {mg : Str → Option Value} {base : Heap} {CR CA : Addr} {T : List NTab}
def digits : Str := "0123456789"
theorem dig_in {c : Nat} (h : 48 ≤ c ∧ c ≤ 57) : c ∈ digits.cps.toList := by
  have e : digits.cps.toList = [48, 49, 50, 51, 52, 53, 54, 55, 56, 57] := by rfl
  rw [e]
  simp only [List.mem_cons, List.not_mem_nil, or_false]
  omega
theorem str_ne {a : List Nat} {x : Str} (h : sg x ≠ a) : decide (V.str (S a) = V.str x) = false := decide_eq_false fun z => h (by
  injection z with z
  rw [← z])
def spNumber (T : List NTab) : Sp := fun vs H Q _ => ∃ n : Nat, vs = [.str (S (TL.numL n))] ∧ n < 10 ^ 15 ∧ ∀ H', Go T [] H H' → Q (.int n) H'
theorem c_number_or_none (B : Bs K mg CR CA) : C8.Cal P w K mg base 1 "number_or_none" (spNumber T) [] := by
  obtain ⟨tD, hD⟩ := B.s_DIGITS
  obtain ⟨tM, hM⟩ := B.i_MOST_DIGITS
  refine B.f_number_or_none.cal sc_number_or_none (fun _ _ _ _ _ _ us hl => match us, hl with | [_], _ => rfl) (fun vs H Q E h => ?_) fun f cdv A outer s H vs Q E hr h => ?_
  · obtain ⟨i, rfl, _⟩ := h
    rfl
  obtain ⟨n, rfl, hb, hQ⟩ := h
  refine ⟨_, pss_cons (ps_if (PW.pt (pw_or (pt_not (pt_chain op_le op_le pe_int (pe_callB call_len_str (by rfl) B.b_len (by decide +kernel) (pa_cons (pv 0) pa_nil)) (pe_glob (v := .int 60) (by rfl) hM ⟨_, rfl⟩)))
      (pw_or1 (pt_not (pt_val (pe_callB (cr_all rfl) (by rfl) B.b_all (by decide +kernel) (pa_cons (pe_lc (own := [("char", 1)]) (g := gName 1) (by rfl) sc_number_or_none.nd (pi_str (pv 0)) (blkOk_by (own := [("char", 1)]) (N := N_number_or_none) (sc := defScope s_number_or_none) (by decide +kernel))
        (fun _ _ _ _ _ => pg_name (i := 1) sc_number_or_none.nd rfl (Or.inl rfl)) (fun _ _ _ _ _ => pts_nil) (fun _ _ _ _ _ => pe_cmpR op_in_sign (pv 1) (pe_glob (v := .str digits) (by rfl) hD ⟨_, rfl⟩) (by rfl))) pa_nil))))))) (pss_one (ps_ret pe_non)) pss_nil)
    (pss_one (ps_ret (pe_ifExp (PW.pt (pw_or (pt_cmpR op_eq (pv 0) pe_str (nomark _)) (pw_or1 (pt_cmpR op_ne (pe_ix ix_str (pv 0) pe_int (fun _ _ => rfl)) pe_str (nomark _)))))
      (pe_callTy call_int_str (by rfl) B.b_int (by decide +kernel) (pa_cons (pv 0) pa_nil)) pe_non))), ?_⟩
  have l1 := TL.numL_len (n := n) (k := 15) (by decide) hb
  have l0 : 0 < (TL.numL n).length := List.length_pos_iff.mpr (TL.numL_ne n)
  have hv : PySem.intText? (S (TL.numL n)) = some (n : Int) := by
    rw [← SX.num_S]
    exact TL.int_num (by omega)
  refine ⟨_, rfl, _, rfl, by rw [SX.S_len]; exact small (by omega), ?_⟩
  rw [SX.S_len]
  refine ⟨_, _, rfl, rfl, _, rfl, ?_⟩
  refine iteD (by omega) ?_
  refine ⟨_, _, rfl, rfl, _, rfl, ?_⟩
  rw [show decide ((((TL.numL n).length : Nat) : Int) ≤ 60) = true from decide_eq_true (by omega)]
  refine iteF ?_
  refine ⟨_, rfl, _, rfl, fun D hD' => ?_⟩
  refine lc_true (T := T) (m := []) walk_str hD' (fun a ha => absurd ha (by simp)) (small (by simp; omega)) (fun _ _ => True.intro) (fun i v H1 H2 hi g y F Z hF => ?_) fun H1 g e => ?_
  · obtain ⟨rfl, c, hc, rfl⟩ := y
    refine ⟨rfl, _, rfl, c, digits, rfl, rfl, ?_⟩
    have hc2 : c ∈ TL.numL n := by
      have := Array.mem_of_getElem? hc
      simpa using this
    rw [show decide (c ∈ digits.cps.toList) = true from decide_eq_true (dig_in (TL.numL_digits n c hc2))]
    exact hF _ Go.refl
  · refine ⟨_, _, rfl, SqL.of e, true, by rw [all_true], iteF ?_⟩
    have fin : ∃ v : V, [some (V.str (S (TL.numL n))), none][0]? = some (some v) ∧ ∃ a m, [v] = [V.str a] ∧ PySem.intText? a = some m ∧ a.length ≤ 640 ∧ Q (.int m) H1 := ⟨_, rfl, _, _, rfl, hv, by rw [SX.S_len]; omega, hQ H1 g⟩
    refine ⟨_, rfl, rfl, _, rfl, ?_⟩
    by_cases h0 : n = 0
    · subst h0
      have e0 : S (TL.numL 0) = ("0" : Str) := by
        rw [TL.numL_lt (by decide)]
        rfl
      rw [decide_eq_true (by rw [e0])]
      exact iteT (iteT fin)
    · have hne : sg ("0" : Str) ≠ TL.numL n := fun z => h0 (numL_head n [] (by rw [← z]; rfl))
      rw [str_ne hne]
      refine iteF ?_
      obtain ⟨c, r, er⟩ : ∃ c r, TL.numL n = c :: r := by
        cases q : TL.numL n with
        | nil => exact absurd q (TL.numL_ne n)
        | cons c r => exact ⟨c, r, rfl⟩
      refine ⟨_, rfl, _, 0, c, rfl, rfl, by rw [SX.S_len]; exact small (by omega), atI_at (j := 0) (by simp [er]), rfl, _, rfl, ?_⟩
      have hc : c ≠ 48 := fun z => h0 (numL_head n r (by rw [er, z]))
      rw [show decide (V.str ⟨#[c]⟩ = V.str ("0" : Str)) = false from str_ne (a := [c]) (fun z => hc (by
        have z' : [48] = [c] := z
        injection z' with z1
        exact z1.symm))]
      exact iteT fin
end Cb
/-! ## CbW12 -/
set_option maxHeartbeats 4000000
/-! sheetreadings.py: whole numbers, fractions. -/
namespace Cb
open PySem PySem.Spec PyProof.Rows L2
open NdefX (NTab TabN TabsN)
open C8 (pe_c pe_mt pe_mt0 pe_mk)
open SX (S)
variable {P : Program} {w : World} {K : PySem.W.Frag} {mg : Str → Option Value} {base : Heap} {CR CA : Addr} {T : List NTab}
theorem cutS_to {a : List Nat} {i : Int} (h : 0 ≤ i) : cutS (S a) none (some i) = S (a.take i.toNat) := (C8.cutS_slice _ _ _).trans (SX.slice_to h)
theorem cutS_from {a : List Nat} {i : Int} (h : 0 ≤ i) : cutS (S a) (some i) none = S (a.drop i.toNat) := (C8.cutS_slice _ _ _).trans (SX.slice_from h)
def spInteger (T : List NTab) : Sp := fun vs H Q _ => ∃ i : Int, vs = [.str (S (intL i))] ∧ i.natAbs < 10 ^ 15 ∧ ∀ H', Go T [] H H' → Q (.int i) H'
theorem numL_pos {n : Nat} : ∃ c r, TL.numL n = c :: r ∧ c ≠ 45 := by
  cases q : TL.numL n with
  | nil => exact absurd q (TL.numL_ne n)
  | cons c r => exact ⟨c, r, rfl, fun z => by
      have := TL.numL_digits n c (by rw [q]; exact List.mem_cons_self)
      omega⟩
theorem c_integer_or_none (B : Bs K mg CR CA) : C8.Cal P w K mg base 2 "integer_or_none" (spInteger T) [] := by
  refine B.f_integer_or_none.cal sc_integer_or_none (fun _ _ _ _ _ _ us hl => match us, hl with | [_], _ => rfl) (fun vs H Q E h => ?_) fun f cdv A outer s H vs Q E hr h => ?_
  · obtain ⟨i, rfl, _⟩ := h
    rfl
  obtain ⟨i, rfl, hb, hQ⟩ := h
  refine ⟨_, pss_cons (ps_if (pt_cmpR op_ne (pe_slice sl_str (pv 0) po_none (po_some pe_int)) pe_str (nomark _)) (pss_one (ps_ret (pe_c (c_number_or_none (T := T) B) hr (by decide) (by rfl) (pa_cons (pv 0) pa_nil)))) pss_nil)
    (pss_cons (ps_set (i := 1) sc_integer_or_none.nd rfl (Or.inl rfl) (pe_c (c_number_or_none (T := T) B) hr (by decide) (by rfl) (pa_cons (pe_slice sl_str (pv 0) (po_some pe_int) po_none) pa_nil)))
    (pss_one (ps_ret (pe_ifExp (PW.pt (pw_or (pt_cmp (pc_isN (pv 1))) (pw_or1 (pt_cmp (pc_eqI (pv 1) pe_int))))) pe_non (pe_un un_neg (pv 1)))))), ?_⟩
  have hl := intL_len hb
  refine ⟨_, rfl, 1, rfl, _, rfl, by rw [SX.S_len]; exact small (by omega), ?_⟩
  rw [cutS_to (by decide)]
  refine ⟨rfl, _, rfl, ?_⟩
  by_cases h0 : i < 0
  · have ei : intL i = 45 :: TL.numL i.natAbs := by
      unfold intL
      rw [if_pos h0]
    rw [ei]
    have e1 : S ((45 :: TL.numL i.natAbs).take (1 : Int).toNat) = ("-" : Str) := rfl
    rw [e1]
    refine iteNS rfl ?_
    refine ⟨_, rfl, 1, rfl, _, rfl, by rw [← ei, SX.S_len]; exact small (by omega), ?_⟩
    rw [cutS_from (by decide)]
    refine ⟨i.natAbs, rfl, hb, fun H1 g => ?_⟩
    refine ⟨_, rfl, _, rfl, iteDF (by simp) ?_⟩
    refine ⟨_, rfl, _, _, rfl, rfl, _, rfl, iteDF (by omega) ?_⟩
    refine ⟨_, rfl, _, rfl, ?_⟩
    have e2 : -((i.natAbs : Nat) : Int) = i := by omega
    show Q (.int (-((i.natAbs : Nat) : Int))) H1
    rw [e2]
    exact hQ H1 g
  · have ei : intL i = TL.numL i.toNat := by
      unfold intL
      rw [if_neg h0, show i.natAbs = i.toNat by omega]
    rw [ei]
    obtain ⟨c, r, er, hc⟩ := numL_pos (n := i.toNat)
    have e1 : (TL.numL i.toNat).take (1 : Int).toNat = [c] := by rw [er]; rfl
    rw [e1]
    refine iteNF (fun z => hc ?_) ?_
    · injection z with z
      have z' : sg (S [c]) = [45] := congrArg sg z
      injection z' with z2
    refine ⟨_, rfl, i.toNat, rfl, by omega, fun H1 g => ?_⟩
    rw [show ((i.toNat : Nat) : Int) = i by omega]
    exact hQ H1 g
def spFraction (T : List NTab) (K : PySem.W.Frag) : Sp := fun vs H Q _ => ∃ q : Fr, vs = [.str (S (frL q))] ∧ FrOk q ∧ ∀ H' v, Go T [] H H' → Dp K H' v (eF q) → Q v H'
theorem intL_pos {i : Int} (h : 0 ≤ i) : intL i = TL.numL i.toNat := by
  unfold intL
  rw [if_neg (by omega), show i.natAbs = i.toNat by omega]
theorem no_slash {i : Int} (h : 0 ≤ i) : 47 ∉ intL i := by
  rw [intL_pos h]
  exact TL.numL_free (by decide)
theorem c_fraction_or_none (B : Bs K mg CR CA) : C8.Cal P w K mg base 4 "fraction_or_none" (spFraction T K) [] := by
  refine B.f_fraction_or_none.cal sc_fraction_or_none (fun _ _ _ _ _ _ us hl => match us, hl with | [_], _ => rfl) (fun vs H Q E h => ?_) fun f cdv A outer s H vs Q E hr h => ?_
  · obtain ⟨i, rfl, _⟩ := h
    rfl
  obtain ⟨q, rfl, ok, hQ⟩ := h
  refine ⟨_, pss_cons (ps_asg (pe_partition (pv 0) pe_str) (pg_tup (by rfl) (pgs_cons (pg_name (i := 1) sc_fraction_or_none.nd rfl (Or.inl rfl)) (pgs_cons (pg_name (i := 2) sc_fraction_or_none.nd rfl (Or.inl rfl)) (pgs_cons (pg_name (i := 3) sc_fraction_or_none.nd rfl (Or.inl rfl)) pgs_nil)))))
    (pss_cons (ps_par (i := 4) (j := 5) rfl sc_fraction_or_none.nd rfl rfl (by decide) rfl rfl (pa_cons (pe_c (c_integer_or_none (T := T) B) hr (by decide) (by rfl) (pa_cons (pv 1) pa_nil)) (pa_cons (pe_ifExp (pt_cmpR op_ne (pv 2) pe_str (nomark _)) (pe_c (c_number_or_none (T := T) B) hr (by decide) (by rfl) (pa_cons (pv 3) pa_nil)) pe_int) pa_nil)) (by rfl))
    (pss_cons (ps_if (PW.pt (pw_or (pt_cmp (pc_isN (pv 4))) (pw_or (pt_cmp (pc_isN (pv 5))) (pw_or1 (PW.pt (pw_and (pt_cmpR op_ne (pv 2) pe_str (nomark _)) (pw_and1 (pt_cmp (pc_eqI (pv 5) pe_int))))))))) (pss_one (ps_ret pe_non)) pss_nil)
    (pss_cons (ps_set (i := 6) sc_fraction_or_none.nd rfl (Or.inl rfl) (pe_tup (pa_cons (pv 4) (pa_cons (pv 5) pa_nil))))
    (pss_one (ps_ret (pe_ifExp (pt_val (pe_c (c_is_fraction (T := T) B) hr (by decide) (by rfl) (pa_cons (pv 6) pa_nil))) (pv 6) pe_non)))))), ?_⟩
  have hl := frL_len ok
  have lo := ok.low
  have p := ok.pos
  have b1 := ok.b1
  have b2 := ok.b2
  refine ⟨_, rfl, ⟨_, rfl⟩, _, _, rfl, rfl, by decide, by rw [SX.S_len]; exact small (by omega), fun p1 np => ?_⟩
  by_cases h1 : q.2 = 1
  · have ef : frL q = intL q.1 := by
      unfold frL
      rw [if_pos h1]
    have ep := SX.partition_none (a := intL q.1) (b := [47]) (by simp) (SX.par_head_none (no_slash lo))
    rw [ef, show ("/" : Str) = S [47] from rfl, ep]
    have g1 : Go T [] H (upd H p1 (.tup [.str (S (intL q.1)), .str (S []), .str (S [])])) := Go.new Go.refl np
    refine ⟨p1, _, rfl, .inl (.inl upd_same), rfl, _, _, rfl, _, _, rfl, _, _, rfl, rfl, ?_⟩
    refine ⟨_, rfl, q.1, rfl, by omega, fun H1 g2 => ?_⟩
    refine ⟨_, rfl, rfl, _, rfl, iteNS rfl ?_⟩
    refine ⟨_, _, rfl, ?_⟩
    refine ⟨_, rfl, _, rfl, iteDF (by simp) ?_⟩
    refine ⟨_, rfl, _, rfl, iteDF (by simp) ?_⟩
    refine ⟨_, rfl, rfl, _, rfl, iteNS rfl ?_⟩
    refine iteF ?_
    refine ⟨_, rfl, _, rfl, (by show 2 ≤ sizeLine; decide), fun p2 np2 => ?_⟩
    have g3 := (g1.trans g2).new (o := .tup [.int q.1, .int 1]) np2
    have dq : Dp K (upd H1 p2 (.tup [.int q.1, .int 1])) (.ref p2) (eF q) := mk_eF (by rw [h1]; exact .inl (.inl upd_same))
    refine ⟨_, rfl, _, q, rfl, dq, ok, fun H2 g4 => ?_⟩
    exact ⟨true, rfl, iteT ⟨_, rfl, hQ _ _ (g3.trans g4) (Dp.go g4 _ _ (fz_eF _) dq)⟩⟩
  · have ef : frL q = intL q.1 ++ (47 :: intL q.2) := by
      unfold frL
      rw [if_neg h1]
    have ep := SX.partition_some (a := intL q.1 ++ (47 :: intL q.2)) (b := [47]) (by simp) (SX.par_head (sep := []) (intL q.2) (no_slash lo))
    rw [ef, show ("/" : Str) = S [47] from rfl, ep]
    have g1 : Go T [] H (upd H p1 (.tup [.str (S (intL q.1)), .str (S [47]), .str (S (intL q.2))])) := Go.new Go.refl np
    refine ⟨p1, _, rfl, .inl (.inl upd_same), rfl, _, _, rfl, _, _, rfl, _, _, rfl, rfl, ?_⟩
    refine ⟨_, rfl, q.1, rfl, by omega, fun H1 g2 => ?_⟩
    have ne : ¬ (V.str (S [47]) = V.str ("" : Str)) := by
      intro z
      injection z with z
      have z' : ([47] : List Nat) = [] := congrArg sg z
      cases z'
    refine ⟨_, rfl, rfl, _, rfl, iteNF ne ?_⟩
    refine ⟨_, rfl, q.2.toNat, (by show [V.str (S (intL q.2))] = _; rw [intL_pos (show 0 ≤ q.2 by omega)]), by omega, fun H2 g3 => ?_⟩
    rw [show ((q.2.toNat : Nat) : Int) = q.2 by omega]
    refine ⟨_, _, rfl, ?_⟩
    refine ⟨_, rfl, _, rfl, iteDF (by simp) ?_⟩
    refine ⟨_, rfl, _, rfl, iteDF (by simp) ?_⟩
    refine ⟨_, rfl, rfl, _, rfl, iteNF ne ?_⟩
    refine ⟨_, rfl, _, _, rfl, rfl, _, rfl, ?_⟩
    refine iteDF h1 ?_
    refine ⟨_, rfl, _, rfl, (by show 2 ≤ sizeLine; decide), fun p2 np2 => ?_⟩
    have g4 := ((g1.trans g2).trans g3).new (o := .tup [.int q.1, .int q.2]) np2
    have dq : Dp K (upd H2 p2 (.tup [.int q.1, .int q.2])) (.ref p2) (eF q) := mk_eF (.inl (.inl upd_same))
    refine ⟨_, rfl, _, q, rfl, dq, ok, fun H3 g5 => ?_⟩
    exact ⟨true, rfl, iteT ⟨_, rfl, hQ _ _ (g4.trans g5) (Dp.go g5 _ _ (fz_eF _) dq)⟩⟩
theorem c_charge_or_none (B : Bs K mg CR CA) : C8.Cal P w K mg base 5 "charge_or_none" (spFraction T K) [] := by
  refine B.f_charge_or_none.cal sc_charge_or_none (fun _ _ _ _ _ _ us hl => match us, hl with | [_], _ => rfl) (fun vs H Q E h => ?_) fun f cdv A outer s H vs Q E hr h => ?_
  · obtain ⟨i, rfl, _⟩ := h
    rfl
  obtain ⟨q, rfl, ok, hQ⟩ := h
  refine ⟨_, pss_cons (ps_set (i := 1) sc_charge_or_none.nd rfl (Or.inl rfl) (pe_c (c_fraction_or_none (T := T) B) hr (by decide) (by rfl) (pa_cons (pv 0) pa_nil)))
    (pss_one (ps_ret (pe_ifExp (PW.pt (pw_or (pt_cmp (pc_isN (pv 1))) (pw_or1 (pt_cmp (pc_lt (pe_ix ix_tup (pv 1) pe_int (fun _ _ => rfl)) pe_int))))) pe_non (pv 1)))), ?_⟩
  have lo := ok.low
  refine ⟨_, rfl, q, rfl, ok, fun H1 v g dq => ?_⟩
  obtain ⟨a, rfl, ha⟩ := dp_eF dq
  refine ⟨_, rfl, _, rfl, iteDF (by simp) ?_⟩
  refine ⟨_, rfl, a, _, _, _, rfl, rfl, ha, atI_at (j := 0) rfl, _, _, rfl, rfl, _, rfl, iteDF (by omega) ?_⟩
  exact ⟨_, rfl, hQ _ _ g dq⟩
end Cb
/-! ## CbW13 -/
set_option maxHeartbeats 4000000
/-! sheetreadings.py: RowReader. -/
namespace Cb
open PySem PySem.Spec PyProof.Rows L2
open NdefX (NTab TabN TabsN)
open C8 (pe_c pe_mt pe_mt0 pe_mk)
open SX (S)
variable {P : Program} {w : World} {K : PySem.W.Frag} {mg : Str → Option Value} {base : Heap} {CR CA : Addr} {T : List NTab}
def rdF (r wl : V) (p : Int) : List (Str × V) := [("row_held", r), ("words", wl), ("place", .int p)]
theorem put_place (r wl : V) (p q : Int) : putF "place" (.int q) (rdF r wl p) = rdF r wl q := by rfl
def spReaderInit (CR : Addr) : Sp := fun vs H Q _ => ∃ (a dx : Addr) (r wl : V), vs = [.ref a, r, wl] ∧ H a = some (.ins CR dx []) ∧ Q .non (upd H a (.ins CR dx (rdF r wl 0)))
theorem c_reader (B : Bs K mg CR CA) : C8.Mak P w K mg base 1 "RowReader" CR (spReaderInit CR) [] := by
  obtain ⟨f, fd, M, F⟩ := B.i_RowReader
  refine ⟨f, fd, ["self", "row", "words"], [], M, F.ok (k := 0) sc_RowReader_init (fun vs H Q E h => ?_) fun cdv A outer s H vs Q E hr h => ?_, B.g_RowReader, F.binds (ps := ["self", "row", "words"]) (fun _ _ _ _ _ _ us hl => match us, hl with | [_, _, _], _ => rfl), .nil⟩
  · obtain ⟨a, dx, r, wl, rfl, _⟩ := h
    rfl
  obtain ⟨a, dx, r, wl, rfl, ha, hQ⟩ := h
  refine ⟨_, pss_cons (ps_fld (pv 0) (pv 1) rfl) (pss_cons (ps_fld (pv 0) (pv 2) rfl) (pss_one (ps_fld (pv 0) pe_int rfl))), ?_⟩
  refine ⟨_, rfl, _, rfl, a, CR, dx, [], rfl, ha, B.c_RowReader, B.n_row_held, by decide, ?_⟩
  refine ⟨_, rfl, _, rfl, a, CR, dx, _, rfl, upd_same, B.c_RowReader, B.n_words, (by show 1 < 1000; decide), ?_⟩
  rw [upd_upd]
  refine ⟨_, rfl, a, CR, dx, _, rfl, upd_same, B.c_RowReader, B.n_place, (by show 2 < 1000; decide), ?_⟩
  rw [upd_upd]
  exact hQ
def spRdRequire : Sp := fun vs H Q _ => ∃ (x : V) (b : Bool), vs = [x, .bl b] ∧ b = true ∧ Q .non H
theorem c_rd_require (B : Bs K mg CR CA) : C8.Met P w K mg base 1 CR "require" spRdRequire [] := by
  refine B.m_RowReader_require.met sc_RowReader_require (fun _ _ _ _ _ _ us hl => match us, hl with | [_, _], _ => rfl) (fun vs H Q E h => ?_) fun f cdv A outer s H vs Q E hr h => ?_
  · obtain ⟨x, b, rfl, _⟩ := h
    rfl
  obtain ⟨x, b, rfl, rfl, hQ⟩ := h
  refine ⟨_, pss_one (ps_if (pt_not (pt_val (pv 1))) pss_never pss_nil), ?_⟩
  exact ⟨_, rfl, true, rfl, iteF hQ⟩
def spHasMore (K : PySem.W.Frag) (CR : Addr) : Sp := fun vs H Q _ => ∃ (a dx wl : Addr) (r : V) (p : Nat) (ws : List V), vs = [.ref a] ∧ H a = some (.ins CR dx (rdF r (.ref wl) (p : Nat))) ∧ SqL K H wl ws ∧ Q (.bl (decide (p < ws.length))) H
theorem c_has_more (B : Bs K mg CR CA) : C8.Met P w K mg base 1 CR "has_more" (spHasMore K CR) [] := by
  refine B.m_RowReader_has_more.met sc_RowReader_has_more (fun _ _ _ _ _ _ us hl => match us, hl with | [_], _ => rfl) (fun vs H Q E h => ?_) fun f cdv A outer s H vs Q E hr h => ?_
  · obtain ⟨a, dx, wl, r, p, ws, rfl, _⟩ := h
    rfl
  obtain ⟨a, dx, wl, r, p, ws, rfl, ha, hw, hQ⟩ := h
  refine ⟨_, pss_one (ps_ret (pe_cmp (pc_lt (pe_fld (pv 0) rfl) (pe_callB call_len_seq (by rfl) B.b_len (by decide +kernel) (pa_cons (pe_fld (pv 0) rfl) pa_nil))) rfl)), ?_⟩
  refine ⟨_, rfl, a, CR, dx, _, _, rfl, ha, B.c_RowReader, B.n_place, rfl, ?_⟩
  refine ⟨_, rfl, a, CR, dx, _, _, rfl, ha, B.c_RowReader, B.n_words, rfl, wl, ws, rfl, .inl hw, _, _, rfl, rfl, ?_⟩
  show Q (.bl (decide (((p : Nat) : Int) < ((ws.length : Nat) : Int)))) H
  rw [show decide (((p : Nat) : Int) < ((ws.length : Nat) : Int)) = decide (p < ws.length) from decide_eq_decide.mpr (by omega)]
  exact hQ
def spFinish (K : PySem.W.Frag) (CR : Addr) : Sp := fun vs H Q _ => ∃ (a dx wl : Addr) (r : V) (ws : List V), vs = [.ref a] ∧ H a = some (.ins CR dx (rdF r (.ref wl) (ws.length : Nat))) ∧ SqL K H wl ws ∧ Q .non H
theorem c_finish (B : Bs K mg CR CA) : C8.Met P w K mg base 2 CR "finish" (spFinish K CR) [] := by
  refine B.m_RowReader_finish.met sc_RowReader_finish (fun _ _ _ _ _ _ us hl => match us, hl with | [_], _ => rfl) (fun vs H Q E h => ?_) fun f cdv A outer s H vs Q E hr h => ?_
  · obtain ⟨a, dx, wl, r, ws, rfl, _⟩ := h
    rfl
  obtain ⟨a, dx, wl, r, ws, rfl, ha, hw, hQ⟩ := h
  refine ⟨_, pss_one (ps_expr (pe_mt (c_rd_require B) hr (by decide) (pv 0) (pa_cons (pe_not (pe_mt0 (c_has_more B) hr (by decide) (pv 0))) pa_nil))), ?_⟩
  refine ⟨_, rfl, a, dx, _, rfl, ha, rfl, _, rfl, a, dx, _, rfl, ha, rfl, a, dx, wl, r, ws.length, ws, rfl, ha, hw, _, rfl, _, _, rfl, ?_, hQ⟩
  rw [decide_eq_false (by omega)]
  rfl
/-- next_word: f parses the word at hand -/
def spNextWord (P : Program) (w : World) (K : PySem.W.Frag) (mg : Str → Option Value) (base : Heap) (k : Nat) (T : List NTab) (CR : Addr) : Sp := fun vs H Q _ => ∃ (a f dx wl : Addr) (r : V) (p : Nat) (ws : List V) (x : V) (sp : Sp), vs = [.ref a, .ref f] ∧ H a = some (.ins CR dx (rdF r (.ref wl) (p : Nat))) ∧ SqL K H wl ws ∧ ws[p]? = some x ∧
  FnR P w K mg base L2.CX0 k f sp ∧ FnIs K H f ∧ ∀ Q1 : VK, (∀ v H2, v ≠ .non → H2 a = some (.ins CR dx (rdF r (.ref wl) (p : Nat))) → Q v (upd H2 a (.ins CR dx (rdF r (.ref wl) ((p + 1 : Nat) : Int)))) → Q1 v H2) → sp [x] H Q1 L2.E0
theorem c_next_word (B : Bs K mg CR CA) (k : Nat) : C8.Met P w K mg base (k + 2) CR "next_word" (spNextWord P w K mg base k T CR) [] := by
  refine B.m_RowReader_next_word.met (k := k + 1) sc_RowReader_next_word (fun _ _ _ _ _ _ us hl => match us, hl with | [_, _], _ => rfl) (fun vs H Q E h => ?_) fun f cdv A outer s H vs Q E hr h => ?_
  · obtain ⟨a, f, dx, wl, r, p, ws, x, sp, rfl, _⟩ := h
    rfl
  obtain ⟨a, f, dx, wl, r, p, ws, x, sp, rfl, ha, hw, hx, F, fi, hsp⟩ := h
  refine ⟨_, pss_cons (ps_expr (pe_mt (c_rd_require B) hr (by omega) (pv 0) (pa_cons (pe_mt0 (c_has_more B) hr (by omega) (pv 0)) pa_nil)))
    (pss_cons (ps_set (i := 2) sc_RowReader_next_word.nd rfl (Or.inl rfl) (pe_callG (k := k) (i := 1) P w K mg base rfl rfl rfl rfl rfl (hr.mono (by omega)) rfl (Or.inl rfl) (pa_cons (pe_ix ix_list (pe_fld (pv 0) rfl) (pe_fld (pv 0) rfl) (fun _ _ => rfl)) pa_nil)))
    (pss_cons (ps_expr (pe_mt (c_rd_require B) hr (by omega) (pv 0) (pa_cons (pe_cmp (pc_notN (pv 2)) rfl) pa_nil)))
    (pss_cons (ps_fldaug (pv 0) pe_int in_add)
    (pss_one (ps_ret (pv 2)))))), ?_⟩
  have hp : p < ws.length := (List.getElem?_eq_some_iff.mp hx).1
  refine ⟨_, rfl, a, dx, _, rfl, ha, rfl, _, rfl, a, dx, _, rfl, ha, rfl, a, dx, wl, r, p, ws, rfl, ha, hw, _, _, rfl, decide_eq_true hp, ?_⟩
  refine ⟨f, sp, rfl, F, fi, _, rfl, a, CR, dx, _, _, rfl, ha, B.c_RowReader, B.n_words, rfl, _, rfl, a, CR, dx, _, _, rfl, ha, B.c_RowReader, B.n_place, rfl, wl, ws, _, _, rfl, rfl, hw, atI_at (j := p) hx, fi, ?_⟩
  refine hsp _ fun v H2 hv h2 hQ => ?_
  refine ⟨_, rfl, a, dx, _, rfl, h2, rfl, _, rfl, _, _, rfl, ?_, ?_⟩
  · rw [decide_eq_false hv]
    rfl
  refine ⟨_, rfl, a, CR, dx, _, _, rfl, h2, B.c_RowReader, B.n_place, rfl, _, _, rfl, rfl, _, _, h2, (by show 3 < 1000; decide), ?_⟩
  exact ⟨_, rfl, hQ⟩
end Cb
/-! ## CbW14 -/
set_option maxHeartbeats 4000000
/-! sheetreadings.py: name_after and the function that it makes. -/
namespace Cb
open PySem PySem.Spec PyProof.Rows L2
open NdefX (NTab TabN TabsN NF FnO NScope NOk nok_of nscope_by startF)
open LamX (TabB CodeO)
open C8 (pe_c pe_mt pe_mt0 pe_mk)
open SX (S)
variable {P : Program} {w : World} {K : PySem.W.Frag} {mg : Str → Option Value} {base : Heap} {CR CA : Addr} {T : List NTab}
def s_parse : Stmt := (defBody s_name_after).getD 0 (.Pass ⟨0, 0, 0, 0⟩)
def posOf : Stmt → Pos
  | .FunctionDef (pos := p) .. => p
  | _ => ⟨0, 0, 0, 0⟩
/-- the names that the two defs' tables of code objects have: of the def in name_after, else of the lambda in section_read -/
def nmT : Nat → Nat → Str := fun l c => if l = (posOf s_parse).line ∧ c = (posOf s_parse).col then "name_after.<locals>.parse" else "section_read.<locals>.<lambda>"
/-- a def's code object has a table among T -/
structure Tb (K : PySem.W.Frag) (mg : Str → Option Value) (base : Heap) (T : List NTab) (x : Str) : Prop where
  ex : ∃ (f Pt : Addr), mg x = some (.ref f) ∧ (∀ (oc : Value) (od : Option Addr) (fd : FuncData) (osl : Array (Option Value)) (c : Addr), K.lookup f = some ⟨oc, od, .func fd, osl⟩ → fd.code = .ref c → TabB base mg c Pt) ∧ (Pt, nmT) ∈ T
  one : ∀ p ∈ T, p.2 = nmT
def parseF (cl : List (Str × Addr)) (c : Addr) : NF := ⟨"parse", "name_after.<locals>.parse", defArgs s_parse, defBody s_parse, defScope s_parse, cl, c⟩
theorem sc_parse : NScope ["word", "names"] ["word"] ["names"] (defScope s_parse) := nscope_by (by decide +kernel)
def spParse (T : List NTab) (K : PySem.W.Frag) (ws : List (Option V)) : Sp := fun vs H Q _ => ∃ (x : Str) (nl : Addr) (ns : List Str), vs = [.str x] ∧ ws = [some (.ref nl)] ∧ SqL K H nl (ns.map V.str) ∧ NameOk x ∧ (∀ n ∈ ns, NameOk n) ∧ (∀ n, ns.getLast? = some n → ltS n x) ∧ ∀ H', Go T [] H H' → Q (.str x) H'
theorem last_at {ns : List Str} (h : ns ≠ []) : ∃ n, ns.getLast? = some n ∧ atI (ns.map V.str) (-1) = some (V.str n) := by
  obtain ⟨n, e⟩ : ∃ n, ns.getLast? = some n := by
    cases q : ns.getLast? with
    | none => exact absurd (List.getLast?_eq_none_iff.mp q) h
    | some n => exact ⟨n, rfl⟩
  obtain ⟨r, e2⟩ := List.getLast?_eq_some_iff.mp e
  refine ⟨n, e, ?_⟩
  rw [e2, List.map_append]
  exact atI_last _ _
theorem nok_parse (B : Bs K mg CR CA) (g : Addr) (cl : List (Str × Addr)) (c : Addr) : NOk P w K mg base L2.CX0 2 g (parseF cl c) ["word"] ["names"] (spParse T K) := by
  refine nok_of (N := ["word", "names"]) (F := parseF cl c) sc_parse (fun doc pm ctv us hl => match us, hl with | [_], _ => rfl) (fun ws vs H Q E h => ?_) fun A outer s H vs ws Q E hr _ _ hl h => ?_
  · obtain ⟨x, nl, ns, rfl, _⟩ := h
    rfl
  obtain ⟨x, nl, ns, rfl, rfl, hn, nx, nn, hlast, hQ⟩ := h
  have hr1 : Room 1 (A.deeper (NdefX.envF (parseF cl c) g s.heap.objs.size)) := hr
  refine ⟨_, pss_one (ps_ret (pe_ifExp (PW.pt (pw_and (pt_val (pe_c (c_is_name (T := T) B) hr1 (by decide) (by rfl) (pa_cons (pv 0) pa_nil)))
    (pw_and1 (PW.pt (pw_or (pt_cmpR (op_eqD (hu64 hr1)) (pv 1) (pe_lst pa_nil) (nomark _)) (pw_or1 (pt_cmpR op_lt_str (pe_ix ix_list (pv 1) (pe_un un_neg pe_int) (fun _ _ => rfl)) (pv 0) (nomark _)))))))) (pv 0) pe_non)), ?_⟩
  refine ⟨_, rfl, x, rfl, nx, fun H1 g1 => ⟨true, rfl, iteT ?_⟩⟩
  refine ⟨_, rfl, (by show 0 ≤ sizeLine; decide), fun p np => ?_⟩
  have g2 : Go T [] H (upd H1 p (.lst [])) := g1.new np
  have hn2 := sqL_go g2 (by simp) hn
  refine ⟨.list (ns.map PyData.str), .list [], .lst hn2 (dpAll_strs _), .lst (SqL.of upd_same) .nil, shaped_lstOf (n := 0) (fun n h => strOk_name (nn n h)) (fun a => by simp [PyData.depth]), shaped_lnil, ?_⟩
  rw [eqv_lst_nil, List.isEmpty_map]
  by_cases he : ns = []
  · rw [he]
    exact ⟨_, rfl, iteT (iteT ⟨_, rfl, hQ _ g2⟩)⟩
  · rw [show ns.isEmpty = false from by simpa using he]
    refine ⟨_, rfl, iteF ?_⟩
    obtain ⟨n, e1, e2⟩ := last_at he
    refine ⟨_, rfl, 1, rfl, nl, _, _, _, rfl, rfl, hn2, e2, _, rfl, _, _, rfl, rfl, _, rfl, ?_⟩
    refine iteD (hlast n e1) ?_
    exact ⟨_, rfl, hQ _ g2⟩
/-- the function g that name_after made over the list nl -/
structure ParseAt (H : Hp) (g nl : Addr) : Prop where
  ex : ∃ (cl : List (Str × Addr)) (c : Addr) (l : List (Addr × Obj)), H g = some (FnO g (parseF cl c)) ∧ H c = some (CodeO c "name_after.<locals>.parse") ∧ PinnedIn l H ∧ l.lookup g = none ∧ l.lookup c = none ∧ CellsL cl ["names"] [some (.ref nl)] l
theorem ParseAt.is {H : Hp} {g nl : Addr} (p : ParseAt H g nl) : FnMade H g := by
  obtain ⟨cl, c, l, h1, _⟩ := p.ex
  exact ⟨_, h1, fun h ⟨od, sl, doc, pm, ctv, q⟩ => ⟨_, od, _, sl, q⟩⟩
theorem ParseAt.go {H H' : Hp} {g nl : Addr} (p : ParseAt H g nl) (k : Go T [] H H') : ParseAt H' g nl := by
  obtain ⟨cl, c, l, h1, h2, h3, h4, h5, h6⟩ := p.ex
  exact ⟨cl, c, l, k.keep _ _ (by simp) h1 fun ps z => (by cases z), k.keep _ _ (by simp) h2 fun ps z => (by cases z), fun b o e => k.frzs b _ _ (h3 b o e), h4, h5, h6⟩
/-- a call of it -/
theorem parse_run (B : Bs K mg CR CA) {H : Hp} {g nl : Addr} (p : ParseAt H g nl) : ∃ sp, FnR P w K mg base L2.CX0 2 g sp ∧ ∀ (x : Str) (ns : List Str) (Q : VK), SqL K H nl (ns.map V.str) → NameOk x → (∀ n ∈ ns, NameOk n) → (∀ n, ns.getLast? = some n → ltS n x) → (∀ H', Go T [] H H' → Q (.str x) H') → sp [.str x] H Q L2.E0 := by
  obtain ⟨cl, c, l, h1, h2, h3, h4, h5, h6⟩ := p.ex
  refine ⟨_, nok_fnR (nok_parse (T := T) B g cl c), fun x ns Q hn nx nn hl hQ => ?_⟩
  exact ⟨l, _, h1, h2, h3, h4, h5, h6, x, nl, ns, rfl, rfl, sqL_hid h3 hn, nx, nn, hl, fun H' g1 hf => hQ _ (go_lay h3 g1 hf)⟩
def spNameAfter (T : List NTab) : Sp := fun vs H Q _ => ∃ nl : Addr, vs = [.ref nl] ∧ TabsN T H ∧ ∀ (g : Addr) (H' : Hp), Go T [] H H' → H g = none → ParseAt H' g nl → Q (.ref g) H'
theorem c_name_after (B : Bs K mg CR CA) (C : Tb K mg base T "name_after") : C8.Cal P w K mg base 1 "name_after" (spNameAfter T) [] := by
  obtain ⟨f, fd, F, hm⟩ := B.f_name_after.ex
  obtain ⟨f2, Pt, hm2, hB, hT⟩ := C.ex
  have e2 : f2 = f := by
    rw [hm] at hm2
    exact (Value.ref.inj (Option.some.inj hm2)).symm
  subst e2
  obtain ⟨oc, od, kV, doc, pm, an, cdv, ct, osl, rfl, lk, hcd⟩ := F.ex
  obtain ⟨c, rfl⟩ := He.codeIn_ref hcd
  have TB := hB _ _ _ _ c lk rfl
  have ok := maker_ok (P := P) (w := w) (k := 0) (N := N_name_after) (ps := ["names"]) (fr := ["names"]) (js := [0]) (i := 1) (T := T) (nm := nmT) lk hcd sc_name_after TB rfl hT (by decide +kernel) (fun p hp _ => C.one p hp) (by decide +kernel) (by decide +kernel) (by rfl) (by decide) rfl rfl (fun _ => rfl) (by rfl) (by decide) (by rfl) (by decide) (by decide)
  refine ⟨f2, _, ["names"], [], ok.imp fun vs H Q E h => ?_, hm, F.kp, F.binds (ps := ["names"]) (fun _ _ _ _ _ _ us hl => match us, hl with | [_], _ => rfl), .nil⟩
  obtain ⟨nl, rfl, hT, hQ⟩ := h
  refine ⟨rfl, hT, fun g c' H1 l cl go g0 g1 gc CL hf => hQ g _ (go.trans (go_pin hf)) g0 ⟨cl, c', l, lay_keep hf g1, lay_keep hf gc, layP_pinned, free_out hf g1, free_out hf gc, CL⟩⟩
end Cb
/-! ## CbW15 -/
set_option maxHeartbeats 4000000
/-! sheetreadings.py: lines and days read. -/
namespace Cb
open PySem PySem.Spec PyProof.Rows L2
open NdefX (NTab TabN TabsN NF FnO NScope NOk nok_of nscope_by startF)
open LamX (TabB CodeO)
open C8 (pe_c pe_mt pe_mt0 pe_mk)
open SX (S)
variable {P : Program} {w : World} {K : PySem.W.Frag} {mg : Str → Option Value} {base : Heap} {CR CA : Addr} {T : List NTab}
theorem nw_at {H : Hp} {a f dx wl : Addr} {r x : V} {p k : Nat} {ws : List V} {sp : Sp} {Q : VK} (Post : V → Hp → Prop) (ha : H a = some (.ins CR dx (rdF r (.ref wl) (p : Nat)))) (hw : SqL K H wl ws) (hx : ws[p]? = some x) (F : FnR P w K mg base L2.CX0 k f sp) (fi : FnIs K H f)
    (hsp : ∀ Q1 : VK, (∀ v H2, Go T [] H H2 → Post v H2 → Q1 v H2) → sp [x] H Q1 L2.E0) (hne : ∀ v H2, Post v H2 → v ≠ .non) (hQ : ∀ v H2, Go T [] H H2 → Post v H2 → Q v (upd H2 a (.ins CR dx (rdF r (.ref wl) ((p + 1 : Nat) : Int))))) : spNextWord P w K mg base k T CR [.ref a, .ref f] H Q C8.E0 :=
  ⟨a, f, dx, wl, r, p, ws, x, sp, rfl, ha, hw, hx, F, fi, fun Q1 h1 => hsp Q1 fun v H2 g post => h1 v H2 (hne v H2 post) (g.keep a _ (by simp) ha fun ps z => by cases z) (hQ v H2 g post)⟩
theorem dp_ne {H : Hp} {v : V} {ds : List PyData} (h : Dp K H v (.tuple ds)) : v ≠ .non := by
  obtain ⟨a, xs, rfl, _⟩ := dp_tup h
  exact fun z => by cases z
/-- words as they stand in a reader -/
def wV (ws : List (List Nat)) : List V := (ws.map S).map V.str
theorem wV_at {ws : List (List Nat)} {i : Nat} {x : List Nat} (h : ws[i]? = some x) : (wV ws)[i]? = some (.str (S x)) := by
  unfold wV
  rw [List.getElem?_map, List.getElem?_map, h]
  rfl
theorem wV_len (ws : List (List Nat)) : (wV ws).length = ws.length := by
  unfold wV
  rw [List.length_map, List.length_map]
theorem go_put_rd {H H1 : Hp} {a dx : Addr} {r wl : V} {p q : Int} (g : Go T [a] H H1) (h : H1 a = some (.ins CR dx (rdF r wl p))) : Go T [a] H (upd H1 a (.ins CR dx (rdF r wl q))) := g.put (.inl (by simp)) h rfl
def spLineRead (T : List NTab) (K : PySem.W.Frag) (CR : Addr) : Sp := fun vs H Q _ => ∃ (a dx wl ll : Addr) (r : V) (xs : List V) (prev : List Ln) (l : Ln), vs = [.ref a, .ref ll, .bl l.2.2.2] ∧ TabsN T H ∧ H a = some (.ins CR dx (rdF r (.ref wl) ((1 : Nat) : Int))) ∧ SqL K H wl (wV (wordsL l)) ∧ wl ≠ a ∧
  SqL K H ll xs ∧ DpAll K H xs (prev.map eL) ∧ prev.length ≤ 6 ∧ LnOk l ∧ l.2.2.1.natAbs < 10 ^ 15 ∧ (∀ m ∈ prev, NameOk m.1) ∧ (∀ n, (prev.map (·.1)).getLast? = some n → ltS n l.1) ∧ ∀ H' v, Go T [a] H H' → Dp K H' v (eL l) → Q v H'
theorem c_line_read (B : Bs K mg CR CA) (C : Tb K mg base T "name_after") : C8.Cal P w K mg base 8 "line_read" (spLineRead T K CR) [] := by
  obtain ⟨fc, gc, kc, Fc⟩ := Cal.at_ (c_charge_or_none (P := P) (w := w) (base := base) (T := T) B)
  obtain ⟨fi, gi, ki, Fi⟩ := Cal.at_ (c_integer_or_none (P := P) (w := w) (base := base) (T := T) B)
  refine B.f_line_read.cal sc_line_read (fun _ _ _ _ _ _ us hl => match us, hl with | [_, _, _], _ => rfl) (fun vs H Q E h => ?_) fun f cdv A outer s H vs Q E hr h => ?_
  · obtain ⟨a, dx, wl, ll, r, xs, prev, l, rfl, _⟩ := h
    rfl
  obtain ⟨a, dx, wl, ll, r, xs, prev, l, rfl, hT, ha, hw, hwa, hll, hxs, hpl, ok, hc, np, hlast, hQ⟩ := h
  refine ⟨_, pss_cons (ps_set (i := 3) sc_line_read.nd rfl (Or.inl rfl) (pe_mt (c_next_word (T := T) B 2) hr (by decide) (pv 0) (pa_cons (pe_c (c_name_after B C) hr (by decide) (by rfl) (pa_cons (pe_lc (own := [("line", 6)]) (g := gName 6) (te := tOp (rIxT K) (tVar 6) (tC (.int 0))) (by rfl) sc_line_read.nd (pi_list (pv 1)) (blkOk_by (own := [("line", 6)]) (N := N_line_read) (sc := defScope s_line_read) (by decide +kernel))
      (fun _ _ _ _ _ => pg_name (i := 6) sc_line_read.nd rfl (Or.inl rfl)) (fun _ _ _ _ _ => pts_nil) (fun _ _ _ _ _ => pe_ix ix_tup (pv 6) pe_int (fun _ _ => rfl))) pa_nil)) pa_nil)))
    (pss_cons (ps_set (i := 4) sc_line_read.nd rfl (Or.inl rfl) (pe_mt (c_next_word (T := T) B 5) hr (by decide) (pv 0) (pa_cons (pe_glob (v := .ref fc) (by rfl) gc rfl) pa_nil)))
    (pss_cons (ps_set (i := 5) sc_line_read.nd rfl (Or.inl rfl) (pe_mt (c_next_word (T := T) B 2) hr (by decide) (pv 0) (pa_cons (pe_glob (v := .ref fi) (by rfl) gi rfl) pa_nil)))
    (pss_cons (ps_expr (pe_mt0 (c_finish B) hr (by decide) (pv 0)))
    (pss_one (ps_ret (pe_tup (pa_cons (pv 3) (pa_cons (pv 4) (pa_cons (pv 5) (pa_cons (pv 2) pa_nil)))))))))), ?_⟩
  have lx := DpAll.map_len hxs
  refine ⟨_, rfl, a, dx, _, rfl, ha, rfl, _, rfl, ll, rfl, ⟨_, hll⟩, fun D hD => ?_⟩
  refine lc_dp (K := K) (T := T) (m := []) (walk_list (xs := xs)) hD (fun a ha => absurd ha (by simp)) (small (by omega)) ((prev.map (fun l : Ln => l.1)).map PyData.str) (by simp; omega) (fz_map _ (fun a => by simp [fz]) _) (fun H3 g => sqL_go g (by simp) hll) (fun i v H3 H4 dn hdn g y F Z hF => ?_) fun H1 acc g1 e1 d1 => ?_
  · obtain ⟨rfl, hv⟩ := y
    obtain ⟨m, em, dm⟩ := DpAll.map_at (DpAll.go g _ _ (fz_map _ fz_eL _) hxs) hv
    obtain ⟨q, wl2, rfl, hl, _⟩ := dp_eL dm
    rw [List.getElem?_map, List.getElem?_map, em] at hdn
    cases hdn
    exact ⟨rfl, _, rfl, q, _, _, _, rfl, rfl, hl, atI_at (j := 0) rfl, hF _ _ Go.refl (.str _)⟩
  have ea := dpAll_strs_inv d1
  subst ea
  refine ⟨D, rfl, g1.tabs hT, fun g H2 g2 _ pg => ?_⟩
  have g12 := g1.trans g2
  have ha2 : H2 a = _ := g12.keep a _ (by simp) ha fun ps z => by cases z
  obtain ⟨sp, Fp, hsp⟩ := parse_run (T := T) (P := P) (w := w) (base := base) B pg
  have hD2 : SqL K H2 D _ := sqL_go g2 (by simp) (SqL.of e1)
  refine nw_at (T := T) (fun v _ => v = .str l.1) ha2 (sqL_go g12 (by simp) hw) (wV_at (i := 1) (x := sg l.1) rfl) Fp (.inr pg.is) (fun Q1 h1 => ?_) (fun v _ e z => by rw [e] at z; cases z) fun v H3 g3 ev => ?_
  · rw [S_sg]
    refine hsp l.1 _ Q1 hD2 ok.name (fun n hn => ?_) hlast fun H' g' => h1 _ _ g' rfl
    obtain ⟨m, hm, rfl⟩ := List.mem_map.mp hn
    exact np m hm
  subst ev
  have g13 := g12.trans g3
  have ha3 : H3 a = _ := g13.keep a _ (by simp) ha fun ps z => by cases z
  have g4 := go_put_rd (q := ((2 : Nat) : Int)) g13.any ha3
  have hw4 : SqL K (upd H3 a (.ins CR dx (rdF r (.ref wl) ((1 + 1 : Nat) : Int)))) wl (wV (wordsL l)) := sqL_go g4 (by simpa using hwa) hw
  refine ⟨_, rfl, a, dx, _, rfl, upd_same, rfl, ?_⟩
  refine nw_at (T := T) (fun v H' => Dp K H' v (eF l.2.1)) upd_same hw4 (wV_at (i := 2) (x := frL l.2.1) rfl) Fc (.inl kc) (fun Q1 h1 => ⟨l.2.1, rfl, ok.fr, fun H' v g' dv => h1 v H' g' dv⟩) (fun v _ e => dp_ne e) fun v H5 g5 dv => ?_
  have g45 := g4.trans g5.any
  have ha5 : H5 a = _ := g5.keep a _ (by simp) upd_same fun ps z => by cases z
  have g6 := go_put_rd (q := ((3 : Nat) : Int)) g45 ha5
  have hw6 : SqL K (upd H5 a (.ins CR dx (rdF r (.ref wl) ((2 + 1 : Nat) : Int)))) wl (wV (wordsL l)) := sqL_go g6 (by simpa using hwa) hw
  refine ⟨_, rfl, a, dx, _, rfl, upd_same, rfl, ?_⟩
  refine nw_at (T := T) (fun v H' => v = .int l.2.2.1) upd_same hw6 (wV_at (i := 3) (x := intL l.2.2.1) rfl) Fi (.inl ki) (fun Q1 h1 => ⟨l.2.2.1, rfl, hc, fun H' g' => h1 _ H' g' rfl⟩) (fun v _ e z => by rw [e] at z; cases z) fun v2 H7 g7 ev => ?_
  subst ev
  have g67 := g6.trans g7.any
  have ha7 : H7 a = _ := g7.keep a _ (by simp) upd_same fun ps z => by cases z
  have g8 := go_put_rd (q := ((4 : Nat) : Int)) g67 ha7
  have hw8 : SqL K (upd H7 a (.ins CR dx (rdF r (.ref wl) ((3 + 1 : Nat) : Int)))) wl (wV (wordsL l)) := sqL_go g8 (by simpa using hwa) hw
  refine ⟨_, rfl, a, dx, _, rfl, upd_same, rfl, a, dx, wl, r, _, rfl, upd_same, hw8, ?_⟩
  refine ⟨_, rfl, _, rfl, _, rfl, _, rfl, (by show 4 ≤ sizeLine; decide), fun p np => ?_⟩
  have g9 := g8.new (o := .tup [.str l.1, v, .int l.2.2.1, .bl l.2.2.2]) np
  have dv8 : Dp K _ v (eF l.2.1) := Dp.go ((Go.put (m := [a]) Go.refl (.inl (by simp)) ha5 rfl).trans (g7.any.trans ((Go.put (m := [a]) Go.refl (.inl (by simp)) ha7 rfl).trans (Go.new (o := .tup [.str l.1, v, .int l.2.2.1, .bl l.2.2.2]) Go.refl np)))) _ _ (fz_eF _) dv
  exact hQ _ _ g9 (mk_eL (.inl (.inl upd_same)) dv8)
def spDayRead (T : List NTab) (K : PySem.W.Frag) (CR : Addr) : Sp := fun vs H Q _ => ∃ (a dx wl ll : Addr) (r : V) (xs : List V) (ls : List Ln) (d : List Fr), vs = [.ref a, .ref ll] ∧ H a = some (.ins CR dx (rdF r (.ref wl) ((1 : Nat) : Int))) ∧ SqL K H wl (wV (wordsD d)) ∧ wl ≠ a ∧ ll ≠ a ∧
  SqL K H ll xs ∧ DpAll K H xs (ls.map eL) ∧ ls.length ≤ 6 ∧ DayOk ls d ∧ ∀ H' v, Go T [a] H H' → Dp K H' v (eD d) → Q v H'
theorem c_day_read (B : Bs K mg CR CA) : C8.Cal P w K mg base 8 "day_read" (spDayRead T K CR) [] := by
  obtain ⟨fc, gc, kc, Fc⟩ := Cal.at_ (c_charge_or_none (P := P) (w := w) (base := base) (T := T) B)
  refine B.f_day_read.cal sc_day_read (fun _ _ _ _ _ _ us hl => match us, hl with | [_, _], _ => rfl) (fun vs H Q E h => ?_) fun f cdv A outer s H vs Q E hr h => ?_
  · obtain ⟨a, dx, wl, ll, r, xs, ls, d, rfl, _⟩ := h
    rfl
  obtain ⟨a, dx, wl, ll, r, xs, ls, d, rfl, ha, hw, hwa, hla, hll, hxs, hpl, ok, hQ⟩ := h
  refine ⟨_, pss_cons (ps_set (i := 2) sc_day_read.nd rfl (Or.inl rfl) (pe_lst pa_nil))
    (pss_cons (ps_for PassesOwn.never rfl (pi_list (pv 1)) (pg_name (i := 3) sc_day_read.nd rfl (Or.inl rfl))
      (pss_cons (ps_set (i := 4) sc_day_read.nd rfl (Or.inl rfl) (pe_mt (c_next_word (T := T) B 5) hr (by decide) (pv 0) (pa_cons (pe_glob (v := .ref fc) (by rfl) gc rfl) pa_nil)))
      (pss_cons (ps_m (ps_if (PW.pt (pw_and (pt_cmp (pc_gt (pe_ix ix_tup (pv 4) pe_int (fun _ _ => rfl)) pe_int)) (pw_and1 (pt_not (pt_val (pe_ix ix_tup (pv 3) pe_int (fun _ _ => rfl))))))) pss_never pss_nil))
      (pss_one (ps_expr (pe_bm PySem.F.plainAttrs_list PySem.F.slot_list_append PySem.F.type_list_append mt_append (pv 2) (pa_cons (pv 4) pa_nil)))))))
    (pss_cons (ps_expr (pe_mt0 (c_finish B) hr (by decide) (pv 0)))
    (pss_one (ps_ret (pe_callTy call_tuple_of (by rfl) B.b_tuple (by decide +kernel) (pa_cons (pv 2) pa_nil)))))), ?_⟩
  have lx := DpAll.map_len hxs
  have ld := ok.len
  refine ⟨(by show 0 ≤ sizeLine; decide), fun D hD => ?_⟩
  have g0 : Go T [a] H (upd H D (.lst [])) := Go.new Go.refl hD
  have hDa : D ≠ a := fun z => by rw [z, ha] at hD; cases hD
  have fd : ∀ i, fzAll ((d.take i).map eF) = true := fun i => fz_map _ fz_eF _
  refine ⟨_, rfl, ll, rfl, ⟨_, sqL_go g0 (by simpa using hla) hll⟩, ?_⟩
  refine for_it (walk_list (xs := xs)) (fun i σ H' => Go T [a] H H' ∧ H' a = some (.ins CR dx (rdF r (.ref wl) ((1 + i : Nat) : Int))) ∧ (∃ acc, H' D = some (.lst acc) ∧ DpAll K H' acc ((d.take i).map eF)) ∧ ∃ y z, σ = [some (.ref a), some (.ref ll), some (.ref D), y, z])
    ⟨g0, by rw [upd_ne (Ne.symm hDa)]; exact ha, ⟨_, upd_same, .nil⟩, _, _, rfl⟩ (fun i σ H' hi h => sqL_go h.1 (by simpa using hla) hll) (fun i v σ H1 H2 hi h y => ?_) fun σ H' h => ?_
  · obtain ⟨rfl, hv⟩ := y
    obtain ⟨g1, a1, ⟨acc, e1, d1⟩, y, z, rfl⟩ := h
    have hi2 : i < d.length := by omega
    have eq : d[i]? = some d[i] := List.getElem?_eq_getElem hi2
    obtain ⟨l, el, dl⟩ := DpAll.map_at (DpAll.go g1 _ _ (fz_map _ fz_eL _) hxs) hv
    obtain ⟨b, wf, rfl, hb, _⟩ := dp_eL dl
    have hw1 := sqL_go g1 (by simpa using hwa) hw
    refine ⟨_, rfl, a, dx, _, rfl, a1, rfl, ?_⟩
    refine nw_at (T := T) (fun v H' => Dp K H' v (eF d[i])) a1 hw1 (wV_at (i := 1 + i) (x := frL d[i]) (by unfold wordsD; rw [Nat.add_comm, List.getElem?_cons_succ, List.getElem?_map, eq] <;> rfl)) Fc (.inl kc) (fun Q1 h1 => ⟨d[i], rfl, ok.fr _ (List.getElem_mem hi2), fun H' v g' dv => h1 v H' g' dv⟩) (fun v _ e => dp_ne e) fun v H3 g3 dv => ?_
    have g13 := g1.trans g3.any
    have a3 : H3 a = _ := g3.keep a _ (by simp) a1 fun ps z => by cases z
    have e3 : H3 D = _ := g3.keep D _ (by simp) e1 fun ps z => by cases z
    have g4 := go_put_rd (q := ((1 + i + 1 : Nat) : Int)) g13 a3
    have p4 : Go T [a] H3 (upd H3 a (.ins CR dx (rdF r (.ref wl) ((1 + i + 1 : Nat) : Int)))) := Go.put Go.refl (.inl (by simp)) a3 rfl
    have d4 := Dp.go p4 _ _ (fz_eF _) dv
    have e4 : upd H3 a (.ins CR dx (rdF r (.ref wl) ((1 + i + 1 : Nat) : Int))) D = some (.lst acc) := by
      rw [upd_ne hDa]
      exact e3
    obtain ⟨c, rfl, hc⟩ := dp_eF d4
    have hb4 := sqT_go (g3.any.trans p4) hb
    refine ⟨fun σ' H' => σ' = [some (.ref a), some (.ref ll), some (.ref D), some (.ref b), some (.ref c)] ∧ H' = upd H3 a (.ins CR dx (rdF r (.ref wl) ((1 + i + 1 : Nat) : Int))), ?_, ?_⟩
    · refine ⟨_, rfl, c, _, _, _, rfl, rfl, hc, atI_at (j := 0) rfl, _, _, rfl, rfl, _, rfl, ?_⟩
      by_cases h0 : d[i].1 > 0
      · refine iteD h0 ?_
        have hg : l.2.2.2 = true := by
          cases q : l.2.2.2 with
          | true => rfl
          | false =>
            have := ok.none i l _ el eq q
            omega
        refine ⟨_, rfl, b, _, _, _, rfl, rfl, hb4, atI_at (j := 3) rfl, ?_⟩
        rw [hg]
        exact ⟨_, rfl, iteF ⟨rfl, rfl⟩⟩
      · exact iteDF h0 (iteF ⟨rfl, rfl⟩)
    rintro _ _ ⟨rfl, rfl⟩
    refine ⟨_, rfl, .inl ⟨rfl, _, SqL.of e4⟩, _, rfl, D, _, _, rfl, rfl, e4, ?_, ?_⟩
    · have := DpAll.map_len d1
      rw [List.length_take] at this
      exact Nat.lt_of_lt_of_le (show acc.length < 100000 by omega) (by decide)
    have g5 := g4.put (p := D) (o := .lst (acc ++ [.ref c])) (.inr hD) e4 rfl
    have p5 : Go T [D] (upd H3 a (.ins CR dx (rdF r (.ref wl) ((1 + i + 1 : Nat) : Int)))) (upd (upd H3 a (.ins CR dx (rdF r (.ref wl) ((1 + i + 1 : Nat) : Int)))) D (.lst (acc ++ [.ref c]))) := Go.put Go.refl (.inl (by simp)) e4 rfl
    refine ⟨g5, ?_, ⟨_, upd_same, ?_⟩, _, _, rfl⟩
    · rw [upd_ne (Ne.symm hDa), upd_same]
      rfl
    · have et : d.take (i + 1) = d.take i ++ [d[i]] := by rw [List.take_add_one, eq] <;> rfl
      rw [et, List.map_append]
      exact DpAll.snoc (DpAll.go p5 _ _ (fd i) (DpAll.go p4 _ _ (fd i) (DpAll.go g3 _ _ (fd i) d1))) (Dp.go p5 _ _ (fz_eF _) d4)
  · obtain ⟨g1, a1, ⟨acc, e1, d1⟩, y, z, rfl⟩ := h
    have el : xs.length = d.length := by omega
    rw [el, List.take_length] at d1
    have hw1 := sqL_go g1 (by simpa using hwa) hw
    have hwl : (wV (wordsD d)).length = 1 + xs.length := by
      rw [wV_len]
      unfold wordsD
      simp
      omega
    refine ⟨_, rfl, a, dx, _, rfl, a1, rfl, a, dx, wl, r, _, rfl, by rw [hwl]; exact a1, hw1, ?_⟩
    refine ⟨_, rfl, D, _, rfl, .inl ⟨SqL.of e1, fun p np => ?_⟩⟩
    have p2 : Go T [] H' (upd H' p (.tup acc)) := Go.new Go.refl np
    exact hQ _ _ (g1.new np) (.tup (.inl (.inl upd_same)) (DpAll.go p2 _ _ (fz_map _ fz_eF _) d1))
end Cb
/-! ## CbW16 -/
set_option maxHeartbeats 4000000
/-! sheetreadings.py: a section read. -/
namespace Cb
open PySem PySem.Spec PyProof.Rows L2
open NdefX (NTab TabN TabsN NF FnO NScope NOk nok_of nscope_by startF)
open LamX (TabB CodeO)
open C8 (pe_c pe_mt pe_mt0 pe_mk)
open SX (S)
open PySem.W (dataLe dataLt alike alikeAll)
variable {P : Program} {w : World} {K : PySem.W.Frag} {mg : Str → Option Value} {base : Heap} {CR CA : Addr} {T : List NTab}
/-! ### the lambda, by its place -/
def whileBody : Stmt → List Stmt
  | .While _ b _ _ => b
  | _ => []
def exprOf : Stmt → Expr
  | .Expr e _ => e
  | _ => .Name "" ⟨0, 0, 0, 0⟩
def arg0 : Expr → Expr
  | .Call _ (e :: _) _ _ => e
  | e => e
def lamParams : Expr → Arguments
  | .Lambda p _ _ _ => p
  | _ => ⟨[], [], none, [], [], none, []⟩
def lamBody : Expr → Expr
  | .Lambda _ b _ _ => b
  | e => e
def lamScope : Expr → Scope
  | .Lambda _ _ s _ => s
  | _ => { kind := .function, names := [], isGenerator := false, isCoroutine := false }
def lamPos : Expr → Pos
  | .Lambda _ _ _ p => p
  | _ => ⟨0, 0, 0, 0⟩
def lamE : Expr := arg0 (arg0 (exprOf ((whileBody ((defBody s_section_read).getD 1 (.Pass ⟨0, 0, 0, 0⟩))).getD 1 (.Pass ⟨0, 0, 0, 0⟩))))
abbrev lamF (cl : List (Str × Addr)) (c : Addr) : NF := LF "section_read.<locals>.<lambda>" (lamParams lamE) (lamScope lamE) cl c
theorem sc_lam : NScope ["word", "after", "names"] ["word"] ["after", "names"] (lamScope lamE) := nscope_by (by decide +kernel)
theorem nm_lam : nmT (lamPos lamE).line (lamPos lamE).col = "section_read.<locals>." ++ "<lambda>" := by decide +kernel
theorem free_lam : ∀ y ∈ (lamScope lamE).names, y.2 = .free → (defScope s_section_read).names.lookup y.1 = some .cell ∨ (defScope s_section_read).names.lookup y.1 = some .free := by decide +kernel
def spLam (P : Program) (w : World) (K : PySem.W.Frag) (mg : Str → Option Value) (base : Heap) (ws : List (Option V)) : Sp := fun vs H Q _ => ∃ (x : Str) (g nl : Addr) (ns : List Str) (sp : Sp), vs = [.str x] ∧ ws = [some (.ref g), some (.ref nl)] ∧ SqL K H nl (ns.map V.str) ∧ x ∈ ns ∧
  FnR P w K mg base L2.CX0 2 g sp ∧ FnIs K H g ∧ sp [.str x] H Q L2.E0
theorem lam_ok (f : Addr) (cl : List (Str × Addr)) (c : Addr) : FnR P w K mg base L2.CX0 3 f (spClo (LamO (lamF cl c) (lamBody lamE)) f (lamF cl c) ["after", "names"] (spLam P w K mg base)) := by
  refine lam_fnR (N := ["word", "after", "names"]) (ps := ["word"]) sc_lam (fun pm ctv us hl => match us, hl with | [_], _ => rfl) (fun ws vs H Q E h => ?_) fun A outer s H vs ws Q E hr h => ?_
  · obtain ⟨x, g, nl, ns, sp, rfl, _⟩ := h
    rfl
  obtain ⟨x, g, nl, ns, sp, rfl, rfl, hn, hx, F, fi, hsp⟩ := h
  refine ⟨_, pe_ifExp (pt_cmpR op_in_seq (pv 0) (pv 2) (by rfl)) (pe_callG (k := 2) (i := 1) P w K mg base rfl rfl rfl rfl rfl hr rfl (Or.inr (Or.inr rfl)) (pa_cons (pv 0) pa_nil)) pe_non, ?_⟩
  refine ⟨_, rfl, _, rfl, nl, _, rfl, .inl hn, rfl, flat_strs ns, _, rfl, ?_⟩
  rw [if_neg (by decide), inV_str, decide_eq_true hx]
  exact iteT ⟨g, sp, rfl, F, fi, _, rfl, fi, hsp⟩
theorem hid_upd_lay {l : List (Addr × Obj)} {H : Hp} {a : Addr} {u : HO} (hf : ∀ c o, l.lookup c = some o → H c = none) (ha : l.lookup a = none) : hid l (upd (layP l H) a u) = upd H a u := by
  funext b
  by_cases hb : b = a
  · subst hb
    rw [hid_out ha, upd_same, upd_same]
  · rw [upd_ne hb]
    cases z : l.lookup b with
    | some o => rw [hid_at z, hf b o z]
    | none => rw [hid_out z, upd_ne hb, layP_out z]
theorem pinned_upd {l : List (Addr × Obj)} {H : Hp} {a : Addr} {u : HO} (hp : PinnedIn l H) (ha : l.lookup a = none) : PinnedIn l (upd H a u) := fun c o e => by
  rw [upd_ne (fun z => by rw [z, ha] at e; cases e)]
  exact hp c o e
theorem nox_ex {X : Cx} {b : List Stmt} {D : Ends} {σ : L2.St} {H : Hp} (h : ∃ t, PSs X.nox b t ∧ t D σ H) : ∃ t, PSs X b t ∧ t D σ H := by
  obtain ⟨t, h1, h2⟩ := h
  exact ⟨t, h1.nox, h2⟩
theorem last_dp {α : Type} {f : α → PyData} {H : Hp} {ys : List V} {l : List α} {e : α} (h : DpAll K H ys (l.map f)) (he : l.getLast? = some e) : ∃ v, atI ys (-1) = some v ∧ Dp K H v (f e) := by
  have hl := DpAll.map_len h
  obtain ⟨r, er⟩ := List.getLast?_eq_some_iff.mp he
  have e2 : l[r.length]? = some e := by rw [er]; simp
  obtain ⟨v, ev, dv⟩ := DpAll.map_at' h e2
  have hy : ys ≠ [] := fun z => by
    rw [z] at ev
    simp at ev
  obtain ⟨u, q⟩ : ∃ u, ys.getLast? = some u := by
    cases q : ys.getLast? with
    | none => exact absurd (List.getLast?_eq_none_iff.mp q) hy
    | some u => exact ⟨u, rfl⟩
  obtain ⟨r2, er2⟩ := List.getLast?_eq_some_iff.mp q
  have hr : r2.length = r.length := by
    rw [er2, er] at hl
    simpa using hl
  have e3 : u = v := by
    rw [er2, ← hr] at ev
    simpa using ev
  subst e3
  exact ⟨u, by rw [er2]; exact atI_last _ _, dv⟩
theorem take_lt {ns : List Str} (h : ns.Pairwise ltS) {i : Nat} (hi : i < ns.length) {n : Str} (hn : n ∈ ns.take i) : ltS n ns[i] := by
  obtain ⟨j, hj⟩ := List.mem_iff_getElem?.mp hn
  have hj1 : j < (ns.take i).length := (List.getElem?_eq_some_iff.mp hj).1
  rw [List.length_take] at hj1
  have hji : j < i := by omega
  rw [List.getElem?_take_of_lt hji, List.getElem?_eq_getElem (by omega)] at hj
  cases hj
  exact List.pairwise_iff_getElem.mp h j i (by omega) hi hji
def spSectionRead (T : List NTab) (K : PySem.W.Frag) (CR : Addr) : Sp := fun vs H Q _ => ∃ (a dx wl ll sl : Addr) (r : V) (xs ys : List V) (ls : List Ln) (prev : List (List Str)) (s : List Str), vs = [.ref a, .ref ll, .ref sl] ∧ TabsN T H ∧ H a = some (.ins CR dx (rdF r (.ref wl) ((1 : Nat) : Int))) ∧ SqL K H wl (wV (wordsS s)) ∧ wl ≠ a ∧ ll ≠ a ∧ sl ≠ a ∧
  SqL K H ll xs ∧ DpAll K H xs (ls.map eL) ∧ ls.length ≤ 6 ∧ SqL K H sl ys ∧ DpAll K H ys (prev.map eS) ∧ prev.length ≤ 3 ∧ (∀ e ∈ prev, ∀ n ∈ e, NameOk n) ∧ (2 ≤ s.length ∧ s.length ≤ 6) ∧ s.Pairwise ltS ∧ (∀ n ∈ s, n ∈ ls.map fun l : Ln => l.1) ∧ (∀ l ∈ ls, NameOk l.1) ∧
  (∀ e, prev.getLast? = some e → ltL e s) ∧ (∀ e ∈ prev, ¬ Crs s e) ∧ ∀ H' v, Go T [a] H H' → Dp K H' v (eS s) → Q v H'
theorem c_section_read (B : Bs K mg CR CA) (C : Tb K mg base T "name_after") (C2 : Tb K mg base T "section_read") : C8.Cal P w K mg base 6 "section_read" (spSectionRead T K CR) [] := by
  obtain ⟨tl, hL⟩ := B.i_LEAST_SECTION
  obtain ⟨f, fd, F, hm⟩ := B.f_section_read.ex
  obtain ⟨f2, Pt, hm2, hB, hTT⟩ := C2.ex
  have e2 : f2 = f := by
    rw [hm] at hm2
    exact (Value.ref.inj (Option.some.inj hm2)).symm
  subst e2
  obtain ⟨fw, fdw, psw, dsw, clw, mew, Fw, bw, dw⟩ := (c_next_word (P := P) (w := w) (base := base) (T := T) B 3).ex
  have Fw2 : FnR P w K mg base L2.CX0 5 fw (spNextWord P w K mg base 3 T CR) := (Fw.raw bw dw).imp fun vs H Q E h => by
    rw [List.append_nil]
    exact h
  obtain ⟨oc, od, kV, doc, pm, an, cdv, ct, osl, rfl, lk, hcd⟩ := F.ex
  obtain ⟨c, rfl⟩ := He.codeIn_ref hcd
  have TB := hB _ _ _ _ c lk rfl
  refine ⟨f2, _, ["reader", "lines", "sections"], [], fn_of (k := 5) lk hcd sc_section_read (fun vs H Q E h => ?_) (fun A outer s H vs Q E hr h => ?_), hm, F.kp, F.binds (ps := ["reader", "lines", "sections"]) (fun _ _ _ _ _ _ us hl => match us, hl with | [_, _, _], _ => rfl), .nil⟩
  · obtain ⟨a, dx, wl, ll, sl, r, xs, ys, ls, prev, s, rfl, _⟩ := h
    rfl
  obtain ⟨a, dx, wl, ll, sl, r, xs, ys, ls, prev, ns, rfl, hT, ha, hw, hwa, hla, hsa, hll, hxs, hpl, hsl, hys, hpp, npv, hlen, hasc, hsub, hnm, hlast, hcr, hQ⟩ := h
  refine nox_ex ?_
  refine ⟨_, pss_cons (ps_asg (pe_tup (pa_cons (pe_lc (own := [("line", 7)]) (g := gName 7) (te := tOp (rIxT K) (tVar 7) (tC (.int 0))) (by rfl) sc_section_read.nd (pi_list (pv 1)) (blkOk_by (own := [("line", 7)]) (N := N_section_read) (sc := defScope s_section_read) (by decide +kernel))
      (fun _ _ _ _ _ => pg_name (i := 7) sc_section_read.nd rfl (Or.inl rfl)) (fun _ _ _ _ _ => pts_nil) (fun _ _ _ _ _ => pe_ix ix_tup (pv 7) pe_int (fun _ _ => rfl))) (pa_cons (pe_lst pa_nil) pa_nil))) (pg_tup (by rfl) (pgs_cons (pg_name (i := 3) sc_section_read.nd rfl (Or.inr rfl)) (pgs_cons (pg_name (i := 4) sc_section_read.nd rfl (Or.inl rfl)) pgs_nil))))
    (pss_cons (ps_while PassesOwn.never (PW.pt (pw_or (pt_val (pe_mt0 (c_has_more B) hr (by decide) (pv 0))) (pw_or1 (pt_cmp (pc_lt (pe_callB call_len_seq (by rfl) B.b_len (by decide +kernel) (pa_cons (pv 4) pa_nil)) (pe_glob (v := .int 2) (by rfl) hL ⟨_, rfl⟩))))))
      (pss_cons (ps_set (i := 5) sc_section_read.nd rfl (Or.inr rfl) (pe_c (c_name_after B C) hr (by decide) (by rfl) (pa_cons (pv 4) pa_nil)))
      (pss_one (ps_expr (pe_bm PySem.F.plainAttrs_list PySem.F.slot_list_append PySem.F.type_list_append mt_append (pv 4) (pa_cons (pe_methL (T := T) (nm := nmT) (params := lamParams lamE) (body := lamBody lamE) (scope := lamScope lamE) (lpos := lamPos lamE) (fr := ["after", "names"]) (js := [5, 3]) (pv 0) clw mew Fw2 hr TB rfl hTT nm_lam (fun p hp _ => C2.one p hp) (by rfl) free_lam (fun _ _ _ => rfl) (by decide +kernel) (by rfl)) pa_nil))))))
    (pss_cons (ps_set (i := 6) sc_section_read.nd rfl (Or.inr rfl) (pe_callTy call_tuple_of (by rfl) B.b_tuple (by decide +kernel) (pa_cons (pv 4) pa_nil)))
    (pss_cons (ps_expr (pe_mt (c_rd_require B) hr (by decide) (pv 0) (pa_cons (pe_m (pe_or (pe_cmpR (op_eqD (hu64 hr)) (pv 2) (pe_lst pa_nil) (nomark _)) (pe_one (pe_cmpR (op_ltD (hu64 hr)) (pe_ix ix_list (pv 2) (pe_un un_neg pe_int) (fun _ _ => rfl)) (pv 6) (nomark _))))) pa_nil)))
    (pss_cons (ps_expr (pe_mt (c_rd_require B) hr (by decide) (pv 0) (pa_cons (pe_not (pe_callB (cr_any rfl) (by rfl) B.b_any (by decide +kernel) (pa_cons (pe_lc (own := [("earlier", 8)]) (g := gName 8) (te := tCall (spCrosses T K) [] C8.E0 (tCons (tVar 6) (tCons (tVar 8) tNil))) (by rfl) sc_section_read.nd (pi_list (pv 2)) (blkOk_by (own := [("earlier", 8)]) (N := N_section_read) (sc := defScope s_section_read) (by decide +kernel))
      (fun _ _ _ _ _ => pg_name (i := 8) sc_section_read.nd rfl (Or.inl rfl)) (fun _ _ _ _ _ => pts_nil) (fun _ _ _ _ _ => pe_c (c_crosses (T := T) B) hr (by decide) (by rfl) (pa_cons (pv 6) (pa_cons (pv 8) pa_nil)))) pa_nil))) pa_nil)))
    (pss_one (ps_ret (pv 6))))))), ?_⟩
  have lx := DpAll.map_len hxs
  have ly := DpAll.map_len hys
  refine ⟨_, rfl, ll, rfl, ⟨_, hll⟩, fun D hD => ?_⟩
  refine lc_dp (K := K) (T := T) (m := []) (walk_list (xs := xs)) hD (fun a ha => absurd ha (by simp)) (small (by omega)) ((ls.map (fun l : Ln => l.1)).map PyData.str) (by simp; omega) (fz_map _ (fun a => by simp [fz]) _) (fun H3 g => sqL_go g (by simp) hll) (fun i v H3 H4 dn hdn g y F Z hF => ?_) fun H1 acc g1 e1 d1 => ?_
  · obtain ⟨rfl, hv⟩ := y
    obtain ⟨m, em, dm⟩ := DpAll.map_at (DpAll.go g _ _ (fz_map _ fz_eL _) hxs) hv
    obtain ⟨q, wl2, rfl, hl, _⟩ := dp_eL dm
    rw [List.getElem?_map, List.getElem?_map, em] at hdn
    cases hdn
    exact ⟨rfl, _, rfl, q, _, _, _, rfl, rfl, hl, atI_at (j := 0) rfl, hF _ _ Go.refl (.str _)⟩
  have ea := dpAll_strs_inv d1
  subst ea
  refine ⟨(by show 0 ≤ sizeLine; decide), fun D2 hD2 => ⟨(by show 2 ≤ sizeLine; decide), fun p np => ?_⟩⟩
  have g2 : Go T [] H1 (upd H1 D2 (.lst [])) := Go.new Go.refl hD2
  have g3 : Go T [] H1 (upd (upd H1 D2 (.lst [])) p (.tup [.ref D, .ref D2])) := g2.new np
  have nD2 : H D2 = none := g1.there _ hD2
  have eD2 : upd (upd H1 D2 (.lst [])) p (.tup [.ref D, .ref D2]) D2 = some (.lst []) := by
    rw [upd_ne (fun z => by rw [← z, upd_same] at np; cases np), upd_same]
  have hn3 : SqL K (upd (upd H1 D2 (.lst [])) p (.tup [.ref D, .ref D2])) D ((ls.map (fun l : Ln => l.1)).map V.str) := sqL_go g3 (by simp) (SqL.of e1)
  have g03 := g1.trans g3
  have ha3 := g03.keep a _ (by simp) ha fun ps z => by cases z
  have hDa : D ≠ a := fun z => by rw [z, ha] at hD; cases hD
  have hD2a : D2 ≠ a := fun z => by rw [z, ha] at nD2; cases nD2
  have hDD2 : D ≠ D2 := fun z => by rw [z, hD2] at e1; cases e1
  refine ⟨p, _, rfl, .inl (.inl upd_same), rfl, _, _, rfl, _, _, rfl, rfl, ?_⟩
  have nsm : ∀ n ∈ ns, NameOk n := fun n hn => by
    obtain ⟨l, hl, rfl⟩ := List.mem_map.mp (hsub n hn)
    exact hnm l hl
  have wlen : (wV (wordsS ns)).length = 1 + ns.length := by
    rw [wV_len]
    unfold wordsS
    simp
    omega
  refine while_by (fun σ H' => ∃ i, i ≤ ns.length ∧ Go T [a] H H' ∧ H' a = some (.ins CR dx (rdF r (.ref wl) ((1 + i : Nat) : Int))) ∧ SqL K H' D ((ls.map (fun l : Ln => l.1)).map V.str) ∧ H' D2 = some (.lst ((ns.take i).map V.str)) ∧
      ∃ y, σ = [some (.ref a), some (.ref ll), some (.ref sl), some (.ref D), some (.ref D2), y, none, none, none]) (fun _ H' => match H' D2 with | some (.lst zs) => ns.length - zs.length | _ => 0)
    ⟨0, Nat.zero_le _, g03.any, ha3, hn3, eD2, _, rfl⟩ ?_ ?_
  · rintro σ H4 ⟨i, hi, g4, a4, n4, d4, y, rfl⟩
    have hw4 := sqL_go g4 (by simpa using hwa) hw
    refine ⟨_, rfl, a, dx, _, rfl, a4, rfl, a, dx, wl, r, 1 + i, _, rfl, a4, hw4, _, rfl, ?_⟩
    by_cases hlt : i < ns.length
    · refine iteD (by omega) (iteT ?_)
      have ex : ns[i]? = some ns[i] := List.getElem?_eq_getElem hlt
      refine ⟨_, rfl, D2, rfl, g4.tabs hT, fun g H5 g5 _ pg => ?_⟩
      have g45 := g4.trans g5.any
      have a5 := g5.keep a _ (by simp) a4 fun ps z => by cases z
      have d5 := g5.keep D2 _ (by simp) d4 fun ps z => by cases z
      refine ⟨_, rfl, .inl ⟨rfl, _, SqL.of d5⟩, _, rfl, a, dx, _, rfl, a5, rfl, g45.tabs hT, fun f c' H6 l g6 f0 hf hc CL free => ?_⟩
      obtain ⟨cl, hf, hc, CL⟩ : ∃ cl, H6 f = some (LamO (lamF cl c') (lamBody lamE) f) ∧ H6 c' = some (CodeO c' (lamF cl c').qual) ∧ CellsL cl ["after", "names"] [some (.ref g), some (.ref D)] l := ⟨_, hf, hc, CL⟩
      have g46 := g45.trans g6.any
      have a6 := g6.keep a _ (by simp) a5 fun ps z => by cases z
      have d6 := g6.keep D2 _ (by simp) d5 fun ps z => by cases z
      have n6 := sqL_go g6 (by simp) (sqL_go g5 (by simp) n4)
      have hw6 := sqL_go g46 (by simpa using hwa) hw
      have la := free_out free a6
      have pg6 := pg.go g6
      obtain ⟨sp, Fp, hsp⟩ := parse_run (T := T) (P := P) (w := w) (base := base) B pg6
      refine ⟨a, f, dx, wl, r, 1 + i, wV (wordsS ns), .str ns[i], _, rfl, lay_keep free a6, sqL_go (go_pin (T := T) (m := []) free) (by simp) hw6, ?_, lam_ok f cl c', .inr ⟨_, lay_keep free hf, fun h ⟨pm, ctv, q⟩ => ⟨_, _, _, _, q⟩⟩, fun Q1 h1 => ?_⟩
      · rw [← S_sg ns[i]]
        exact wV_at (by unfold wordsS; rw [Nat.add_comm, List.getElem?_cons_succ, List.getElem?_map, ex] <;> rfl)
      refine ⟨l, _, lay_keep free hf, lay_keep free hc, layP_pinned, free_out free hf, free_out free hc, CL, ?_⟩
      rw [hid_layP free]
      refine ⟨ns[i], g, D, _, sp, rfl, rfl, n6, hsub _ (List.getElem_mem hlt), Fp, .inr pg6.is, hsp ns[i] (ns.take i) _ (SqL.of d6) (nsm _ (List.getElem_mem hlt)) (fun n hn => nsm n (List.mem_of_mem_take hn)) (fun n hn => take_lt hasc hlt (List.mem_of_getLast? hn)) fun H7 g7 frl => ?_⟩
      have a7 := g7.keep a _ (by simp) a6 fun ps z => by cases z
      have d7 := g7.keep D2 _ (by simp) d6 fun ps z => by cases z
      refine h1 _ _ (fun z => by cases z) (by rw [layP_out la]; exact a7) ⟨pinned_upd layP_pinned la, ?_⟩
      rw [hid_upd_lay frl la]
      have g8 := go_put_rd (q := ((1 + i + 1 : Nat) : Int)) (g46.trans g7.any) a7
      have d8 : upd H7 a (.ins CR dx (rdF r (.ref wl) ((1 + i + 1 : Nat) : Int))) D2 = some (.lst ((ns.take i).map V.str)) := by
        rw [upd_ne hD2a]
        exact d7
      refine ⟨D2, _, _, rfl, rfl, d8, Nat.lt_of_lt_of_le (show ((ns.take i).map V.str).length < 100000 by rw [List.length_map, List.length_take]; omega) (by decide), ?_⟩
      have et : ns.take (i + 1) = ns.take i ++ [ns[i]] := by rw [List.take_add_one, ex] <;> rfl
      refine ⟨⟨i + 1, hlt, g8.put (.inr nD2) d8 rfl, ?_, ?_, ?_, _, rfl⟩, ?_⟩
      · rw [upd_ne (Ne.symm hD2a), upd_same]
        rfl
      · have n7 := sqL_go g7 (by simp) n6
        have p1 : Go T [a] H7 (upd H7 a (.ins CR dx (rdF r (.ref wl) ((1 + i + 1 : Nat) : Int)))) := Go.put Go.refl (.inl (by simp)) a7 rfl
        have n8 := sqL_go p1 (by simpa using hDa) n7
        exact sqL_go (Go.put (T := T) (m := [D2]) Go.refl (.inl (by simp)) d8 rfl) (by simpa using hDD2) n8
      · rw [upd_same, et, List.map_append]
        rfl
      · rw [upd_same, d4]
        simp only [List.length_append, List.length_map, List.length_take, List.length_cons, List.length_nil]
        omega
    · have ei : i = ns.length := by omega
      subst ei
      rw [List.take_length] at d4
      refine iteDF (by omega) ?_
      refine ⟨_, rfl, D2, _, rfl, .inl (SqL.of d4), _, _, rfl, rfl, _, rfl, iteDF (by rw [List.length_map]; omega) ?_⟩
      refine ⟨_, rfl, D2, _, rfl, .inl ⟨SqL.of d4, fun q nq => ?_⟩⟩
      have g5 := g4.new (o := .tup (ns.map V.str)) nq
      have hq5 : SqT K (upd H4 q (.tup (ns.map V.str))) q (ns.map V.str) := .inl (.inl upd_same)
      have a5 : upd H4 q (.tup (ns.map V.str)) a = _ := (Go.new (T := T) (m := []) (o := .tup (ns.map V.str)) Go.refl nq).keep a _ (by simp) a4 fun ps z => by cases z
      have s5 := sqL_go g5 (by simpa using hsa) hsl
      have y5 := DpAll.go g5 _ _ (fz_map _ fz_eS _) hys
      refine ⟨_, rfl, a, dx, _, rfl, a5, rfl, ?_⟩
      refine ⟨fun x H' => x = .bl true ∧ Go T [] (upd H4 q (.tup (ns.map V.str))) H', ⟨_, rfl, (by show 0 ≤ sizeLine; decide), fun u nu => ?_⟩, ?_⟩
      · have gu : Go T [] (upd H4 q (.tup (ns.map V.str))) (upd (upd H4 q (.tup (ns.map V.str))) u (.lst [])) := Go.new Go.refl nu
        have s6 := sqL_go gu (by simp) s5
        have y6 := DpAll.go gu _ _ (fz_map _ fz_eS _) y5
        have hq6 := sqT_go gu hq5
        refine ⟨.list (prev.map eS), .list [], .lst s6 y6, .lst (SqL.of upd_same) .nil, shaped_lstOf (n := 1) (fun e he => canLay_eS (npv e he)) depth_eS, shaped_lnil, ?_⟩
        rw [eqv_lst_nil, List.isEmpty_map]
        by_cases hp : prev = []
        · rw [hp]
          exact ⟨_, rfl, iteT ⟨rfl, gu⟩⟩
        · rw [show prev.isEmpty = false from by simpa using hp]
          refine ⟨_, rfl, iteF ?_⟩
          obtain ⟨e, he⟩ : ∃ e, prev.getLast? = some e := by
            cases z : prev.getLast? with
            | none => exact absurd (List.getLast?_eq_none_iff.mp z) hp
            | some e => exact ⟨e, rfl⟩
          obtain ⟨v, ev, dv⟩ := last_dp y6 he
          refine ⟨_, rfl, 1, rfl, sl, _, _, _, rfl, rfl, s6, ev, _, rfl, _, _, dv, mk_eS hq6, alike_eS _ _, (fun z => by cases z), Nat.le_trans (depth_eS _) (by decide), ?_⟩
          rw [show dataLt (eS e) (eS ns) = true from hlast e he]
          exact ⟨rfl, gu⟩
      rintro _ H6 ⟨rfl, gu⟩
      have g6 := g5.trans gu.any
      have s6 := sqL_go gu (by simp) s5
      have a6 := gu.keep a _ (by simp) a5 fun ps z => by cases z
      have hq6 := sqT_go gu hq5
      refine ⟨_, _, rfl, rfl, ?_⟩
      refine ⟨_, rfl, a, dx, _, rfl, a6, rfl, _, rfl, sl, rfl, ⟨_, s6⟩, fun D5 hD5 => ?_⟩
      refine lc_false (T := T) (m := []) (walk_list (xs := ys)) hD5 (fun a ha => absurd ha (by simp)) (small (by omega)) (fun H3 g => sqL_go g (by simp) s6) (fun j v H7 H8 hj g y F Z hF => ?_) fun H7 g7 e7 => ?_
      · obtain ⟨rfl, hv⟩ := y
        obtain ⟨e, ee, de⟩ := DpAll.map_at (DpAll.go g _ _ (fz_map _ fz_eS _) (DpAll.go gu _ _ (fz_map _ fz_eS _) y5)) hv
        obtain ⟨b, rfl, hb⟩ := dp_eS de
        refine ⟨rfl, _, rfl, _, rfl, q, b, ns, e, rfl, sqT_go g hq6, hb, by omega, nsm, fun H9 g9 => ?_⟩
        rw [show decide (Crs ns e) = false from decide_eq_false (hcr e (List.mem_of_getElem? ee))]
        exact hF _ g9
      refine ⟨_, _, rfl, SqL.of e7, _, rfl, _, _, rfl, by rw [any_false]; rfl, ?_⟩
      exact ⟨_, rfl, hQ _ _ (g6.trans g7.any) (mk_eS (sqT_go g7 hq6))⟩
  · rintro σ H' Q1 Q2 himp ⟨v, h1, a0, dx0, fs0, h2, h3, h4, b1, b2, b3, b4, b5, b6, b7, b8, b9, c0, e1, e2⟩
    refine ⟨v, h1, a0, dx0, fs0, h2, h3, h4, b1, b2, b3, b4, b5, b6, b7, b8, b9, c0, e1, ?_⟩
    cases c0 with
    | true => exact himp _ _ e2
    | false =>
      obtain ⟨v2, k1, p0, ys0, k2, k3, i0, j0, k4, k5, c1, k6, k7⟩ := e2
      exact ⟨v2, k1, p0, ys0, k2, k3, i0, j0, k4, k5, c1, k6, himp _ _ k7⟩
end Cb
/-! ## CbW17 -/
set_option maxHeartbeats 4000000
/-! sheetreadings.py: the sheet read. -/
namespace Cb
open PySem PySem.Spec PyProof.Rows L2
open NdefX (NTab TabN TabsN NF FnO NScope NOk nok_of nscope_by startF)
open LamX (TabB CodeO)
open C8 (pe_c pe_mt pe_mt0 pe_mk)
open SX (S)
open PySem.W (dataLe dataLt alike alikeAll)
variable {P : Program} {w : World} {K : PySem.W.Frag} {mg : Str → Option Value} {base : Heap} {CR CA : Addr} {T : List NTab}
/-- d[k], d a written dict with text keys -/
def rKd (K : PySem.W.Frag) (d : Addr) : R2 := fun x y H Q => ∃ (z : Str) (u0 : Value) (v0 : V), x = .ref d ∧ y = .str z ∧ PySem.W.nsIn K d z = some (some u0) ∧ RelV v0 u0 ∧ Q v0 H
theorem pe_kd {X : Cx} {d : Addr} {es : Array DictEntry} {n : Nat} {o i : Expr} {td ty : TE} {pos : Pos} (D : KDict X.K X.w d es n) (ho : PE X o td) (hi : PE X i ty) (hs : NoSl i) : PE X (.Subscript o i pos) (tOp (rKd X.K d) td ty) := by
  refine ⟨fun pins s σ H Q I h => ?_⟩
  refine subD_of PySem.F.slot_dict_getitem.lookup hs (thn (ho.run pins s σ H _ I h) fun u s1 ⟨x, H1, I1, rx, q1⟩ => thn (hi.run pins s1 σ H1 _ I1 q1) fun iv s2 ⟨y, H2, I2, ry, z, u0, v0, ex, ey, e, r, q⟩ => ?_)
  subst ex ey
  obtain rfl : u = Value.ref d := rx
  exact ⟨kd_type D I2, op_item_kd D pins s2 σ H2 (.ref d) (.str z) _ iv Q I2 rfl ry ⟨z, u0, v0, rfl, rfl, e, r, q⟩⟩
/-- the dict RANKS -/
structure Rk (K : PySem.W.Frag) (mg : Str → Option Value) (w : World) : Prop where
  ex : ∃ (d : Addr) (es : Array DictEntry) (n : Nat), mg "RANKS" = some (.ref d) ∧ KDict K w d es n ∧ ∀ q ∈ [(wLine, (0 : Int)), (wEnded, 0), (wSection, 1), (wDay, 2)], ∃ u, PySem.W.nsIn K d (S q.1) = some (some u) ∧ RelV (.int q.2) u
def spSheetRead (T : List NTab) (K : PySem.W.Frag) : Sp := fun vs H Q _ => ∃ x : Sheet, vs = [.str (S (textL x))] ∧ TabsN T H ∧ Good x ∧ ∀ H' v, Go T [] H H' → Dp K H' v (eSh x) → Q v H'
theorem c_sheet_read (B : Bs K mg CR CA) (C : Tb K mg base T "name_after") (C2 : Tb K mg base T "section_read") (R : Rk K mg w) : C8.Cal P w K mg base 9 "sheet_read" (spSheetRead T K) [] := by
  obtain ⟨d, es, n, gR, DR, hR⟩ := R.ex
  refine B.f_sheet_read.cal sc_sheet_read (fun _ _ _ _ _ _ us hl => match us, hl with | [_], _ => rfl) (fun vs H Q E h => ?_) fun f cdv A outer s H vs Q E hr h => ?_
  · obtain ⟨x, rfl, _⟩ := h
    rfl
  obtain ⟨x, rfl, hT, ok, hQ⟩ := h
  refine ⟨_, pss_cons (ps_asg (pe_tup (pa_cons (pe_lst pa_nil) (pa_cons (pe_lst pa_nil) (pa_cons (pe_lst pa_nil) (pa_cons pe_int pa_nil))))) (pg_tup (by rfl) (pgs_cons (pg_name (i := 1) sc_sheet_read.nd rfl (Or.inl rfl)) (pgs_cons (pg_name (i := 2) sc_sheet_read.nd rfl (Or.inl rfl)) (pgs_cons (pg_name (i := 3) sc_sheet_read.nd rfl (Or.inl rfl)) (pgs_cons (pg_name (i := 4) sc_sheet_read.nd rfl (Or.inl rfl)) pgs_nil))))))
    (pss_cons (ps_for PassesOwn.never rfl (pi_enum (by rfl) B.b_enumerate (pa_cons (pe_split (pv 0) pe_str) pa_nil)) (pg_tup (by rfl) (pgs_cons (pg_name (i := 5) sc_sheet_read.nd rfl (Or.inl rfl)) (pgs_cons (pg_name (i := 6) sc_sheet_read.nd rfl (Or.inl rfl)) pgs_nil)))
      (pss_cons (ps_set (i := 7) sc_sheet_read.nd rfl (Or.inl rfl) (pe_mk (c_reader B) hr (by decide) (by rfl) (pa_cons (pv 5) (pa_cons (pe_split (pv 6) pe_str) pa_nil))))
      (pss_cons (ps_set (i := 8) sc_sheet_read.nd rfl (Or.inl rfl) (pe_ix ix_list (pe_fld (pv 7) rfl) pe_int (fun _ _ => rfl)))
      (pss_cons (ps_expr (pe_mt (c_rd_require B) hr (by decide) (pv 7) (pa_cons (pe_m (pe_and (pe_cmpR (op_in_kd DR) (pv 8) (pe_glob (v := .ref d) (by rfl) gR rfl) (by rfl)) (pe_and (pe_cmp (pc_ge (pe_kd DR (pe_glob (v := .ref d) (by rfl) gR rfl) (pv 8) (fun _ _ => rfl)) (pv 4)) rfl)
          (pe_one (pe_or (pe_cmp (pc_gt (pv 5) pe_int) rfl) (pe_one (pe_cmp (pc_eqI (pe_kd DR (pe_glob (v := .ref d) (by rfl) gR rfl) (pv 8) (fun _ _ => rfl)) pe_int) rfl))))))) pa_nil)))
      (pss_cons (ps_set (i := 4) sc_sheet_read.nd rfl (Or.inl rfl) (pe_kd DR (pe_glob (v := .ref d) (by rfl) gR rfl) (pv 8) (fun _ _ => rfl)))
      (pss_cons (ps_fld (pv 7) pe_int rfl)
      (pss_one (ps_if (pt_cmp (pc_eqI (pv 4) pe_int)) (pss_one (ps_expr (pe_bm PySem.F.plainAttrs_list PySem.F.slot_list_append PySem.F.type_list_append mt_append (pv 1) (pa_cons (pe_c (c_line_read B C) hr (by decide) (by rfl) (pa_cons (pv 7) (pa_cons (pv 1) (pa_cons (pe_cmpR op_eq (pv 8) pe_str (nomark _)) pa_nil)))) pa_nil))))
        (pss_one (ps_if (pt_cmp (pc_eqI (pv 4) pe_int)) (pss_one (ps_expr (pe_bm PySem.F.plainAttrs_list PySem.F.slot_list_append PySem.F.type_list_append mt_append (pv 2) (pa_cons (pe_c (c_section_read B C C2) hr (by decide) (by rfl) (pa_cons (pv 7) (pa_cons (pv 1) (pa_cons (pv 2) pa_nil)))) pa_nil))))
          (pss_one (ps_expr (pe_bm PySem.F.plainAttrs_list PySem.F.slot_list_append PySem.F.type_list_append mt_append (pv 3) (pa_cons (pe_c (c_day_read (T := T) B) hr (by decide) (by rfl) (pa_cons (pv 7) (pa_cons (pv 1) pa_nil))) pa_nil))))))))))))))
    (pss_one (ps_ret (pe_tup (pa_cons (pe_callTy call_tuple_of (by rfl) B.b_tuple (by decide +kernel) (pa_cons (pv 1) pa_nil)) (pa_cons (pe_callTy call_tuple_of (by rfl) B.b_tuple (by decide +kernel) (pa_cons (pv 2) pa_nil)) (pa_cons (pe_callTy call_tuple_of (by rfl) B.b_tuple (by decide +kernel) (pa_cons (pv 3) pa_nil)) pa_nil))))))), ?_⟩
  have m1 := ok.ls.most
  have m2 := ok.ss.most
  have m3 := ok.dn
  have rc := rows_count ok
  have tl := text_len ok
  refine ⟨(by show 0 ≤ sizeLine; decide), fun D1 n1 => ⟨(by show 0 ≤ sizeLine; decide), fun D2 n2 => ⟨(by show 0 ≤ sizeLine; decide), fun D3 n3 => ⟨(by show 4 ≤ sizeLine; decide), fun p np => ?_⟩⟩⟩⟩
  have ga : Go T [] H (upd H D1 (.lst [])) := Go.new Go.refl n1
  have gb := ga.new (o := .lst []) n2
  have gc := gb.new (o := .lst []) n3
  have gd := gc.new (o := .tup [.ref D1, .ref D2, .ref D3, .int 0]) np
  have z2 : H D2 = none := ga.there _ n2
  have z3 : H D3 = none := gb.there _ n3
  have d12 : D2 ≠ D1 := fun z => by rw [z, upd_same] at n2; cases n2
  have d23 : D3 ≠ D2 := fun z => by rw [z, upd_same] at n3; cases n3
  have d13 : D3 ≠ D1 := fun z => by rw [z, upd_ne (Ne.symm d12), upd_same] at n3; cases n3
  refine ⟨p, _, rfl, .inl (.inl upd_same), rfl, _, _, rfl, _, _, rfl, _, _, rfl, _, _, rfl, rfl, ?_⟩
  refine ⟨_, rfl, ⟨_, rfl⟩, _, _, rfl, rfl, by decide, by rw [SX.S_len]; exact small (by omega), fun q nq => ?_⟩
  rw [show ("\n" : Str) = S [10] from rfl, text_split ok]
  generalize eHb : upd (upd (upd (upd (upd H D1 (.lst [])) D2 (.lst [])) D3 (.lst [])) p (.tup [.ref D1, .ref D2, .ref D3, .int 0])) q (.lst ((((rowsOf x).map rowL).map S).map V.str)) = Hb
  have gHb : Go T [] H Hb := by
    rw [← eHb]
    exact gd.new nq
  have hq : SqL K Hb q ((((rowsOf x).map rowL).map S).map V.str) := SqL.of (by rw [← eHb, upd_same])
  have pq : p ≠ q := fun z => by rw [← z, upd_same] at nq; cases nq
  have nD : ∀ D : Addr, D = D1 ∨ D = D2 ∨ D = D3 → D ≠ p ∧ D ≠ q := fun D h => by
    have k1 : upd (upd (upd H D1 (.lst [])) D2 (.lst [])) D3 (.lst []) D = some (.lst []) := by
      rcases h with rfl | rfl | rfl
      · rw [upd_ne (Ne.symm d13), upd_ne (Ne.symm d12), upd_same]
      · rw [upd_ne (Ne.symm d23), upd_same]
      · rw [upd_same]
    have k2 : D ≠ p := ne_of_none k1 np
    refine ⟨k2, ne_of_none (o := .lst []) (by rw [upd_ne k2]; exact k1) nq⟩
  have atD : ∀ D : Addr, D = D1 ∨ D = D2 ∨ D = D3 → Hb D = some (.lst []) := fun D h => by
    obtain ⟨k1, k2⟩ := nD D h
    rw [← eHb, upd_ne k2, upd_ne k1]
    rcases h with rfl | rfl | rfl
    · rw [upd_ne (Ne.symm d13), upd_ne (Ne.symm d12), upd_same]
    · rw [upd_ne (Ne.symm d23), upd_same]
    · rw [upd_same]
  refine ⟨q, _, rfl, hq, ?_⟩
  have qm : q ∉ [D1, D2, D3] := fun z => by
    have z : q = D1 ∨ q = D2 ∨ q = D3 := by simpa using z
    exact (nD q z).2 rfl
  have fL : ∀ i, fzAll ((x.ls.take i).map eL) = true := fun i => fz_map _ fz_eL _
  have fS : ∀ i, fzAll ((x.ss.take i).map eS) = true := fun i => fz_map _ fz_eS _
  have fD : ∀ i, fzAll ((x.ds.take i).map eD) = true := fun i => fz_map _ fz_eD _
  have rowsLen : ((((rowsOf x).map rowL).map S).map V.str).length = x.ls.length + x.ss.length + x.ds.length := by
    unfold rowsOf
    simp
    omega
  refine for_it walk_enum (fun i σ H' => Go T [D1, D2, D3] Hb H' ∧ (∃ a1 a2 a3, H' D1 = some (.lst a1) ∧ DpAll K H' a1 ((x.ls.take i).map eL) ∧ H' D2 = some (.lst a2) ∧ DpAll K H' a2 ((x.ss.take (i - x.ls.length)).map eS) ∧ H' D3 = some (.lst a3) ∧ DpAll K H' a3 ((x.ds.take (i - x.ls.length - x.ss.length)).map eD)) ∧
      ∃ (rk : Int) (y5 y6 y7 y8 : Option V), σ = [some (.str (S (textL x))), some (.ref D1), some (.ref D2), some (.ref D3), some (.int rk), y5, y6, y7, y8] ∧ (i ≤ x.ls.length → rk ≤ 0) ∧ (i ≤ x.ls.length + x.ss.length → rk ≤ 1) ∧ rk ≤ 2)
    ⟨Go.refl, ⟨[], [], [], atD D1 (.inl rfl), by simpa using DpAll.nil, atD D2 (.inr (.inl rfl)), by simpa using DpAll.nil, atD D3 (.inr (.inr rfl)), by simpa using DpAll.nil⟩, 0, _, _, _, _, rfl, fun _ => Int.le_refl _, fun _ => by decide, by decide⟩ (fun i σ H' hi h => sqL_go h.1 qm hq) (fun i v σ H1 H2 hi h y => ?_) fun σ H' h => ?_
  · obtain ⟨g1, ⟨a1, a2, a3, e1, q1, e2, q2, e3, q3⟩, rk, y5, y6, y7, y8, rfl, r0, r1, r2⟩ := h
    obtain ⟨p1, u, zz, rfl, np1, rfl, w1, w2⟩ := y
    cases Option.some.inj (show some (V.int (i : Nat)) = some u from w1)
    have w2 : ((((rowsOf x).map rowL).map S).map V.str)[i]? = some zz := w2
    rw [rowsLen] at hi
    obtain ⟨ws, ew⟩ : ∃ ws, (rowsOf x)[i]? = some ws := by
      have : i < (rowsOf x).length := by
        unfold rowsOf
        simp
        omega
      exact ⟨_, List.getElem?_eq_getElem this⟩
    simp only [List.getElem?_map, ew, Option.map_some] at w2
    cases w2
    obtain ⟨wne, wcl⟩ := rows_clean ok ws (List.mem_of_getElem? ew)
    have wlen := rows_len ok ws (List.mem_of_getElem? ew)
    have hcase : (∃ l, x.ls[i]? = some l ∧ ws = wordsL l) ∨ (∃ s j, i = x.ls.length + j ∧ x.ss[j]? = some s ∧ ws = wordsS s) ∨ (∃ dd j, i = x.ls.length + x.ss.length + j ∧ x.ds[j]? = some dd ∧ ws = wordsD dd) := by
      unfold rowsOf at ew
      by_cases c1 : i < x.ls.length
      · rw [List.getElem?_append_left (by rw [List.length_map]; exact c1), List.getElem?_map, List.getElem?_eq_getElem c1] at ew
        cases ew
        exact .inl ⟨_, List.getElem?_eq_getElem c1, rfl⟩
      · rw [List.getElem?_append_right (by rw [List.length_map]; omega), List.length_map] at ew
        by_cases c2 : i - x.ls.length < x.ss.length
        · rw [List.getElem?_append_left (by rw [List.length_map]; exact c2), List.getElem?_map, List.getElem?_eq_getElem c2] at ew
          cases ew
          exact .inr (.inl ⟨_, i - x.ls.length, by omega, List.getElem?_eq_getElem c2, rfl⟩)
        · rw [List.getElem?_append_right (by rw [List.length_map]; omega), List.length_map] at ew
          have c3 : i - x.ls.length - x.ss.length < x.ds.length := by omega
          rw [List.getElem?_map, List.getElem?_eq_getElem c3] at ew
          cases ew
          exact .inr (.inr ⟨_, i - x.ls.length - x.ss.length, by omega, List.getElem?_eq_getElem c3, rfl⟩)
    have hpos : 0 < x.ls.length := List.length_pos_iff.mpr ok.ls.ne
    obtain ⟨w0, k, hw0, hk, hrk, h0⟩ : ∃ (w0 : List Nat) (k : Int), ws[0]? = some w0 ∧ (w0, k) ∈ [(wLine, (0 : Int)), (wEnded, 0), (wSection, 1), (wDay, 2)] ∧ rk ≤ k ∧ (0 < i ∨ k = 0) := by
      rcases hcase with ⟨l, el, rfl⟩ | ⟨s, j, ej, es, rfl⟩ | ⟨dd, j, ej, ed, rfl⟩
      · have := (List.getElem?_eq_some_iff.mp el).1
        refine ⟨if l.2.2.2 = true then wLine else wEnded, 0, rfl, ?_, r0 (by omega), .inr rfl⟩
        cases l.2.2.2 <;> simp
      · have := (List.getElem?_eq_some_iff.mp es).1
        exact ⟨wSection, 1, rfl, by simp, r1 (by omega), .inl (by omega)⟩
      · exact ⟨wDay, 2, rfl, by simp, r2, .inl (by omega)⟩
    obtain ⟨u0, hu0, ru0⟩ := hR _ hk
    have g2 : Go T [D1, D2, D3] Hb (upd H1 p1 (.tup [.int (i : Nat), .str (S (rowL ws))])) := g1.new np1
    refine ⟨p1, _, rfl, .inl (.inl upd_same), rfl, _, _, rfl, _, _, rfl, rfl, ?_⟩
    refine ⟨_, rfl, _, rfl, ⟨_, rfl⟩, _, _, rfl, rfl, by decide, by rw [SX.S_len]; exact small (by omega), fun wl nwl => ?_⟩
    rw [show (" " : Str) = S [32] from rfl, words_split wne wcl]
    intro rd dx nrd ndx nx
    have hw4 : upd (upd (upd (upd H1 p1 (.tup [.int (i : Nat), .str (S (rowL ws))])) wl (.lst ((ws.map S).map V.str))) dx (.own rd)) rd (.ins CR dx []) rd = some (.ins CR dx []) := upd_same
    refine ⟨rd, dx, .int (i : Nat), .ref wl, rfl, hw4, rfl, ?_⟩
    have k2 : Go T [] H1 (upd H1 p1 (.tup [.int (i : Nat), .str (S (rowL ws))])) := Go.new Go.refl np1
    have k3 := k2.new (o := .lst ((ws.map S).map V.str)) nwl
    have k4 := k3.new (o := .own rd) ndx
    have nrd4 : upd (upd (upd H1 p1 (.tup [.int (i : Nat), .str (S (rowL ws))])) wl (.lst ((ws.map S).map V.str))) dx (.own rd) rd = none := by
      rw [upd_ne (Ne.symm nx)]
      exact nrd
    have rd0 : H1 rd = none := k3.there rd nrd
    have k5 := k4.new (o := .ins CR dx []) nrd4
    have k6 := k5.put (p := rd) (o := .ins CR dx (rdF (.int (i : Nat)) (.ref wl) 0)) (.inr rd0) upd_same rfl
    have wlrd : wl ≠ rd := ne_of_none (o := .lst ((ws.map S).map V.str)) upd_same nrd
    have wldx : wl ≠ dx := ne_of_none (o := .lst ((ws.map S).map V.str)) upd_same ndx
    have awl : SqL K (upd (upd (upd (upd (upd H1 p1 (.tup [.int (i : Nat), .str (S (rowL ws))])) wl (.lst ((ws.map S).map V.str))) dx (.own rd)) rd (.ins CR dx [])) rd (.ins CR dx (rdF (.int (i : Nat)) (.ref wl) 0))) wl (wV ws) := SqL.of (by rw [upd_ne wlrd, upd_ne wlrd, upd_ne wldx, upd_same] <;> rfl)
    have ard : upd (upd (upd (upd (upd H1 p1 (.tup [.int (i : Nat), .str (S (rowL ws))])) wl (.lst ((ws.map S).map V.str))) dx (.own rd)) rd (.ins CR dx [])) rd (.ins CR dx (rdF (.int (i : Nat)) (.ref wl) 0)) rd = some (.ins CR dx (rdF (.int (i : Nat)) (.ref wl) 0)) := upd_same
    generalize upd (upd (upd (upd (upd H1 p1 (.tup [.int (i : Nat), .str (S (rowL ws))])) wl (.lst ((ws.map S).map V.str))) dx (.own rd)) rd (.ins CR dx [])) rd (.ins CR dx (rdF (.int (i : Nat)) (.ref wl) 0)) = Hk at k6 awl ard ⊢
    refine ⟨_, rfl, rd, CR, dx, _, _, rfl, ard, B.c_RowReader, B.n_words, rfl, wl, _, _, _, rfl, rfl, awl, atI_at (j := 0) (wV_at hw0), ?_⟩
    refine ⟨_, rfl, rd, dx, _, rfl, ard, rfl, ?_⟩
    refine ⟨fun y H' => y = .bl true ∧ H' = Hk, ?_, ?_⟩
    · refine ⟨_, rfl, S w0, _, rfl, rfl, hu0, _, rfl, iteT ?_⟩
      refine ⟨_, rfl, S w0, u0, .int k, rfl, rfl, hu0, ru0, _, rfl, _, _, rfl, rfl, _, rfl, iteD hrk ?_⟩
      refine ⟨_, rfl, _, _, rfl, rfl, _, rfl, ?_⟩
      by_cases hi0 : (0 : Int) < (i : Nat)
      · exact iteD hi0 ⟨rfl, rfl⟩
      · refine iteDF hi0 ?_
        have hk0 : k = 0 := by omega
        subst hk0
        exact ⟨_, rfl, S w0, u0, .int 0, rfl, rfl, hu0, ru0, _, _, rfl, rfl, rfl, rfl⟩
    rintro _ H9 ⟨rfl, eH9⟩
    rw [eH9]
    refine ⟨_, _, rfl, rfl, ?_⟩
    refine ⟨_, rfl, S w0, u0, .int k, rfl, rfl, hu0, ru0, ?_⟩
    refine ⟨_, rfl, rd, CR, dx, _, rfl, ard, B.c_RowReader, B.n_place, (by show 3 < 1000; decide), ?_⟩
    rw [put_place]
    have k7 := k6.put (p := rd) (o := .ins CR dx (rdF (.int (i : Nat)) (.ref wl) 1)) (.inr rd0) ard rfl
    have awl7 : SqL K (upd Hk rd (.ins CR dx (rdF (.int (i : Nat)) (.ref wl) 1))) wl (wV ws) := sqL_go (Go.put (T := T) (m := [rd]) Go.refl (.inl (by simp)) ard rfl) (by simpa using wlrd) awl
    have ard7 : upd Hk rd (.ins CR dx (rdF (.int (i : Nat)) (.ref wl) 1)) rd = some (.ins CR dx (rdF (.int (i : Nat)) (.ref wl) 1)) := upd_same
    generalize upd Hk rd (.ins CR dx (rdF (.int (i : Nat)) (.ref wl) 1)) = Hr at k7 awl7 ard7 ⊢
    have D1rd : D1 ≠ rd := ne_of_none e1 rd0
    have D2rd : D2 ≠ rd := ne_of_none e2 rd0
    have D3rd : D3 ≠ rd := ne_of_none e3 rd0
    have tabs : TabsN T Hr := k7.tabs (g1.tabs (gHb.tabs hT))
    have ep1 := k7.keep D1 _ (by simp) e1 fun ps z => by cases z
    have ep2 := k7.keep D2 _ (by simp) e2 fun ps z => by cases z
    have ep3 := k7.keep D3 _ (by simp) e3 fun ps z => by cases z
    have qp1 := DpAll.go k7 _ _ (fL _) q1
    have qp2 := DpAll.go k7 _ _ (fS _) q2
    have qp3 := DpAll.go k7 _ _ (fD _) q3
    have l1 := DpAll.map_len q1
    have l2 := DpAll.map_len q2
    have l3 := DpAll.map_len q3
    rw [List.length_take] at l1 l2 l3
    have back : ∀ {H8 : Hp}, Go T [rd] Hr H8 → Go T [] H1 H8 := fun {H8} g => (k7.any.trans g).cut fun b hb => .inr (by
      have hb : b = rd := by simpa using hb
      rw [hb]
      exact rd0)
    refine ⟨_, rfl, _, _, rfl, rfl, _, rfl, ?_⟩
    have D12 : D1 ≠ D2 := Ne.symm d12
    have D13 : D1 ≠ D3 := Ne.symm d13
    have D23 : D2 ≠ D3 := Ne.symm d23
    have big : ∀ {n : Nat}, n ≤ 100 → n < sizeLine := fun {n} h => Nat.lt_of_le_of_lt h (by decide)
    rcases hcase with ⟨l, el, rfl⟩ | ⟨s, j, ej, es, rfl⟩ | ⟨dd, j, ej, ed, rfl⟩
    · have hil := (List.getElem?_eq_some_iff.mp el).1
      have ewk : (if l.2.2.2 = true then wLine else wEnded) = w0 := Option.some.inj hw0
      have hk0 : k = 0 := by
        subst ewk
        cases hg : l.2.2.2 <;> rw [hg] at hk <;> simp [wLine, wEnded, wSection, wDay] at hk <;> exact hk
      subst hk0
      refine iteD rfl ?_
      have hl := List.mem_of_getElem? el
      refine ⟨_, rfl, .inl ⟨rfl, _, SqL.of ep1⟩, _, rfl, _, rfl, _, rfl, rfl, rd, dx, wl, D1, .int (i : Nat), a1, x.ls.take i, l, ?_, tabs, ard7, awl7, wlrd, SqL.of ep1, qp1, by rw [List.length_take]; omega, ⟨ok.ls.names l hl, ok.ls.fr l hl⟩, ok.ls.cents l hl, fun m hm => ok.ls.names m (List.mem_of_mem_take hm), fun n hn => ?_, fun H8 v g8 dv => ?_⟩
      · have eb : decide (V.str (S w0) = V.str ("line" : Str)) = l.2.2.2 := by
          subst ewk
          cases hg : l.2.2.2
          · rw [if_neg (by simp)]
            exact str_ne (by decide)
          · rw [if_pos rfl]
            exact decide_eq_true rfl
        rw [eb]
        rfl
      · have e2 : (x.ls.take i).map (fun l : Ln => l.1) = (x.ls.map fun l : Ln => l.1).take i := List.map_take
        rw [e2] at hn
        have q := take_lt ok.ls.asc (i := i) (by rw [List.length_map]; exact hil) (List.mem_of_getLast? hn)
        rw [List.getElem_map] at q
        rw [← (List.getElem?_eq_some_iff.mp el).2]
        exact q
      have h8 := back g8
      have f1 := g8.keep D1 _ (by simpa using D1rd) ep1 fun ps z => by cases z
      have f2 := g8.keep D2 _ (by simpa using D2rd) ep2 fun ps z => by cases z
      have f3 := g8.keep D3 _ (by simpa using D3rd) ep3 fun ps z => by cases z
      have p9 : Go T [D1] H8 (upd H8 D1 (.lst (a1 ++ [v]))) := Go.put Go.refl (.inl (by simp)) f1 rfl
      refine ⟨D1, a1, v, rfl, rfl, f1, big (by omega), ?_⟩
      refine ⟨(g1.trans h8.any).put (.inl (by simp)) f1 rfl, ⟨a1 ++ [v], a2, a3, upd_same, ?_, by rw [upd_ne (Ne.symm D12)]; exact f2, ?_, by rw [upd_ne (Ne.symm D13)]; exact f3, ?_⟩, 0, _, _, _, _, rfl, fun _ => by decide, fun _ => by decide, by decide⟩
      · rw [show x.ls.take (i + 1) = x.ls.take i ++ [l] by rw [List.take_add_one, el] <;> rfl, List.map_append]
        exact DpAll.snoc (DpAll.go p9 _ _ (fL _) (DpAll.go g8 _ _ (fL _) qp1)) (Dp.go p9 _ _ (fz_eL _) dv)
      · rw [show i + 1 - x.ls.length = i - x.ls.length by omega]
        exact DpAll.go p9 _ _ (fS _) (DpAll.go g8 _ _ (fS _) qp2)
      · rw [show i + 1 - x.ls.length - x.ss.length = i - x.ls.length - x.ss.length by omega]
        exact DpAll.go p9 _ _ (fD _) (DpAll.go g8 _ _ (fD _) qp3)
    · have hjs := (List.getElem?_eq_some_iff.mp es).1
      have ewk : wSection = w0 := Option.some.inj hw0
      have hk1 : k = 1 := by
        subst ewk
        simp [wLine, wEnded, wSection, wDay] at hk
        exact hk
      subst hk1
      refine iteDF (by decide) ?_
      refine ⟨_, rfl, _, _, rfl, rfl, _, rfl, iteD rfl ?_⟩
      have hs := List.mem_of_getElem? es
      have exs := (List.getElem?_eq_some_iff.mp es).2
      have tls : x.ls.take i = x.ls := List.take_of_length_le (by omega)
      rw [tls] at qp1
      have ij : i - x.ls.length = j := by omega
      rw [ij] at qp2 l2
      refine ⟨_, rfl, .inl ⟨rfl, _, SqL.of ep2⟩, _, rfl, _, rfl, _, rfl, rd, dx, wl, D1, D2, .int (i : Nat), a1, a2, x.ls, x.ss.take j, s, rfl, tabs, ard7, awl7, wlrd, D1rd, D2rd, SqL.of ep1, qp1, m1, SqL.of ep2, qp2, by rw [List.length_take]; omega, fun e he => ok.secNames e (List.mem_of_mem_take he), ok.ss.len s hs, ok.ss.asc s hs, ok.ss.sub s hs, ok.ls.names, fun e he => ?_, fun e he => ?_, fun H8 v g8 dv => ?_⟩
      · obtain ⟨m, hm⟩ := List.mem_iff_getElem?.mp (List.mem_of_getLast? he)
        have hm1 : m < (x.ss.take j).length := (List.getElem?_eq_some_iff.mp hm).1
        rw [List.length_take] at hm1
        rw [List.getElem?_take_of_lt (by omega), List.getElem?_eq_getElem (by omega)] at hm
        cases hm
        rw [← exs]
        exact List.pairwise_iff_getElem.mp ok.ss.rise m j (by omega) hjs (by omega)
      · obtain ⟨m, hm⟩ := List.mem_iff_getElem?.mp he
        have hm1 : m < (x.ss.take j).length := (List.getElem?_eq_some_iff.mp hm).1
        rw [List.length_take] at hm1
        rw [List.getElem?_take_of_lt (by omega), List.getElem?_eq_getElem (by omega)] at hm
        cases hm
        rw [← exs]
        exact List.pairwise_iff_getElem.mp ok.ss.nocr m j (by omega) hjs (by omega)
      have h8 := back g8
      have f1 := g8.keep D1 _ (by simpa using D1rd) ep1 fun ps z => by cases z
      have f2 := g8.keep D2 _ (by simpa using D2rd) ep2 fun ps z => by cases z
      have f3 := g8.keep D3 _ (by simpa using D3rd) ep3 fun ps z => by cases z
      have p9 : Go T [D2] H8 (upd H8 D2 (.lst (a2 ++ [v]))) := Go.put Go.refl (.inl (by simp)) f2 rfl
      refine ⟨D2, a2, v, rfl, rfl, f2, big (by omega), ?_⟩
      refine ⟨(g1.trans h8.any).put (.inl (by simp)) f2 rfl, ⟨a1, a2 ++ [v], a3, by rw [upd_ne D12]; exact f1, ?_, upd_same, ?_, by rw [upd_ne (Ne.symm D23)]; exact f3, ?_⟩, 1, _, _, _, _, rfl, fun z => by omega, fun _ => by decide, by decide⟩
      · rw [List.take_of_length_le (by omega)]
        exact DpAll.go p9 _ _ (fz_map _ fz_eL _) (DpAll.go g8 _ _ (fz_map _ fz_eL _) qp1)
      · rw [show i + 1 - x.ls.length = j + 1 by omega, show x.ss.take (j + 1) = x.ss.take j ++ [s] by rw [List.take_add_one, es] <;> rfl, List.map_append]
        exact DpAll.snoc (DpAll.go p9 _ _ (fS _) (DpAll.go g8 _ _ (fS _) qp2)) (Dp.go p9 _ _ (fz_eS _) dv)
      · rw [show i + 1 - x.ls.length - x.ss.length = i - x.ls.length - x.ss.length by omega]
        exact DpAll.go p9 _ _ (fD _) (DpAll.go g8 _ _ (fD _) qp3)
    · have hjd := (List.getElem?_eq_some_iff.mp ed).1
      have ewk : wDay = w0 := Option.some.inj hw0
      have hk2 : k = 2 := by
        subst ewk
        simp [wLine, wEnded, wSection, wDay] at hk
        exact hk
      subst hk2
      refine iteDF (by decide) ?_
      refine ⟨_, rfl, _, _, rfl, rfl, _, rfl, iteDF (by decide) ?_⟩
      have hdm := List.mem_of_getElem? ed
      have tls : x.ls.take i = x.ls := List.take_of_length_le (by omega)
      rw [tls] at qp1
      have ij : i - x.ls.length - x.ss.length = j := by omega
      rw [ij] at qp3 l3
      refine ⟨_, rfl, .inl ⟨rfl, _, SqL.of ep3⟩, _, rfl, _, rfl, rd, dx, wl, D1, .int (i : Nat), a1, x.ls, dd, rfl, ard7, awl7, wlrd, D1rd, SqL.of ep1, qp1, m1, ok.ds dd hdm, fun H8 v g8 dv => ?_⟩
      have h8 := back g8
      have f1 := g8.keep D1 _ (by simpa using D1rd) ep1 fun ps z => by cases z
      have f2 := g8.keep D2 _ (by simpa using D2rd) ep2 fun ps z => by cases z
      have f3 := g8.keep D3 _ (by simpa using D3rd) ep3 fun ps z => by cases z
      have p9 : Go T [D3] H8 (upd H8 D3 (.lst (a3 ++ [v]))) := Go.put Go.refl (.inl (by simp)) f3 rfl
      refine ⟨D3, a3, v, rfl, rfl, f3, big (by omega), ?_⟩
      refine ⟨(g1.trans h8.any).put (.inl (by simp)) f3 rfl, ⟨a1, a2, a3 ++ [v], by rw [upd_ne D13]; exact f1, ?_, by rw [upd_ne D23]; exact f2, ?_, upd_same, ?_⟩, 2, _, _, _, _, rfl, fun z => by omega, fun z => by omega, by decide⟩
      · rw [List.take_of_length_le (by omega)]
        exact DpAll.go p9 _ _ (fz_map _ fz_eL _) (DpAll.go g8 _ _ (fz_map _ fz_eL _) qp1)
      · rw [show x.ss.take (i + 1 - x.ls.length) = x.ss.take (i - x.ls.length) by rw [List.take_of_length_le (by omega), List.take_of_length_le (by omega)]]
        exact DpAll.go p9 _ _ (fS _) (DpAll.go g8 _ _ (fS _) qp2)
      · rw [show i + 1 - x.ls.length - x.ss.length = j + 1 by omega, show x.ds.take (j + 1) = x.ds.take j ++ [dd] by rw [List.take_add_one, ed] <;> rfl, List.map_append]
        exact DpAll.snoc (DpAll.go p9 _ _ (fD _) (DpAll.go g8 _ _ (fD _) qp3)) (Dp.go p9 _ _ (fz_eD _) dv)
  · obtain ⟨g1, ⟨a1, a2, a3, e1, q1, e2, q2, e3, q3⟩, rk, y5, y6, y7, y8, rfl, _⟩ := h
    rw [rowsLen] at q1 q2 q3
    rw [List.take_of_length_le (by omega)] at q1 q2 q3
    have gF : Go T [] H H' := (gHb.any.trans g1).cut fun b hb => .inr (by
      have hb : b = D1 ∨ b = D2 ∨ b = D3 := by simpa using hb
      rcases hb with rfl | rfl | rfl
      · exact n1
      · exact z2
      · exact z3)
    refine ⟨_, rfl, D1, _, rfl, .inl ⟨SqL.of e1, fun t1 nt1 => ?_⟩⟩
    have h1 : Go T [] H' (upd H' t1 (.tup a1)) := Go.new Go.refl nt1
    refine ⟨_, rfl, D2, _, rfl, .inl ⟨sqL_go h1 (by simp) (SqL.of e2), fun t2 nt2 => ?_⟩⟩
    have h2 := h1.new (o := .tup a2) nt2
    refine ⟨_, rfl, D3, _, rfl, .inl ⟨sqL_go h2 (by simp) (SqL.of e3), fun t3 nt3 => ?_⟩⟩
    have h3 := h2.new (o := .tup a3) nt3
    refine ⟨(by show 3 ≤ sizeLine; decide), fun t4 nt4 => ?_⟩
    have h4 := h3.new (o := .tup [.ref t1, .ref t2, .ref t3]) nt4
    have k1 : SqT K (upd H' t1 (.tup a1)) t1 a1 := .inl (.inl upd_same)
    have k2 : SqT K (upd (upd H' t1 (.tup a1)) t2 (.tup a2)) t2 a2 := .inl (.inl upd_same)
    have k3 : SqT K (upd (upd (upd H' t1 (.tup a1)) t2 (.tup a2)) t3 (.tup a3)) t3 a3 := .inl (.inl upd_same)
    have n2' : Go T [] (upd H' t1 (.tup a1)) (upd (upd (upd (upd H' t1 (.tup a1)) t2 (.tup a2)) t3 (.tup a3)) t4 (.tup [.ref t1, .ref t2, .ref t3])) := ((Go.new Go.refl nt2).new nt3).new nt4
    have n3' : Go T [] (upd (upd H' t1 (.tup a1)) t2 (.tup a2)) (upd (upd (upd (upd H' t1 (.tup a1)) t2 (.tup a2)) t3 (.tup a3)) t4 (.tup [.ref t1, .ref t2, .ref t3])) := (Go.new Go.refl nt3).new nt4
    have n4' : Go T [] (upd (upd (upd H' t1 (.tup a1)) t2 (.tup a2)) t3 (.tup a3)) (upd (upd (upd (upd H' t1 (.tup a1)) t2 (.tup a2)) t3 (.tup a3)) t4 (.tup [.ref t1, .ref t2, .ref t3])) := Go.new Go.refl nt4
    refine hQ _ _ (gF.trans h4) (.tup (.inl (.inl upd_same)) (.cons (.tup (sqT_go n2' k1) (DpAll.go h4 _ _ (fz_map _ fz_eL _) q1)) (.cons (.tup (sqT_go n3' k2) (DpAll.go h4 _ _ (fz_map _ fz_eS _) q2)) (.cons (.tup (sqT_go n4' k3) (DpAll.go h4 _ _ (fz_map _ fz_eD _) q3)) .nil))))
end Cb
/-! ## CbW18 -/
set_option maxHeartbeats 4000000
/-! amounts.py. -/
namespace Cb
open PySem PySem.Spec PyProof.Rows L2
open NdefX (NTab TabN TabsN NF FnO NScope NOk nok_of nscope_by startF)
open C8 (pe_c pe_mt pe_mt0 pe_mk)
variable {P : Program} {w : World} {K : PySem.W.Frag} {mg : Str → Option Value} {base : Heap} {CR CA : Addr} {T : List NTab}
/-- what the walks ask of the class Amount -/
structure Ba (K : PySem.W.Frag) (mg : Str → Option Value) (CA : Addr) : Prop where
  g : mg "Amount" = some (.ref CA)
  ins : C8.InsC K CA
  n_over : NoAttr K CA "over_held"
  n_under : NoAttr K CA "under_held"
  make : ∃ (f : Addr) (fd : FuncData), Mk K CA f ∧ L2.FunD K "__init__" "Amount.__init__" (defArgs s_Amount_init) (defBody s_Amount_init) (defScope s_Amount_init) [.int 1] [] f fd
  add : ∃ (f : Addr) (fd : FuncData), PySem.W.findIn K (.ref CA) "__add__" = some (some (.ref f)) ∧ PySem.W.isFn K (.ref f) = true ∧ PySem.W.selfFirst K CA = true ∧ L2.Fun K "__add__" "Amount.__add__" s_Amount_add f fd
  pair : ∃ (p g : Addr) (fd : FuncData), PropOf K CA "pair" p g ∧ L2.Fun K "pair" "Amount.pair" s_Amount_pair g fd
  zero : ∃ (mc : Value) (a : Addr), ClX.CRead K CA mc ∧ ClX.CVal K CA mc "ZERO" (.ref a) (.ref a) ∧ ∀ H, SqT K H a [.int 0, .int 1]
section
variable {X : Cx} {CX : CXT} {k : Nat} {f C : Addr} {sp : Sp} {E : XK} {x : Str} {e : Expr} {te : TE} {p sp_ pos : Pos}
/-- C( *e), e a tuple or a list -/
theorem pe_makeS1 (M : Mk X.K C f) (F : FnR X.prog X.w X.K X.mg X.base CX k f sp) (hr : Room (k + 1) X.A) (hg : Gl X x) (hm : X.mg x = some (.ref C)) (hx : Passes CX X E) (he : PE X e te) (hd : (x == ("__debug__" : Str)) = false := by decide)
    (hst : starEach [.Starred e sp_] X.env = [(true, eval e X.env)] := by rfl) :
    PE X (.Call (.Name x p) [.Starred e sp_] [] pos) (fun σ H Q => te σ H fun y H1 => ∃ a xs, y = V.ref a ∧ (SqT X.K H1 a xs ∨ SqL X.K H1 a xs) ∧ ∀ z dx, H1 z = none → H1 dx = none → dx ≠ z → sp (V.ref z :: xs) (upd (upd H1 dx (.own z)) z (.ins C dx [])) (fun v H2 => v = .non ∧ Q (.ref z) H2) E) := by
  refine ⟨fun pins s σ H Q I h => ?_⟩
  refine wpAny_Call_Name_kw (ld_glob I hg hm ?_ hd)
  refine PySem.W.callWith_S (h₀ := X.base) I.ok.mod.kin M.kp (thn (he.run pins s σ H _ I h) fun v s1 ⟨y, H1, I1, ry, a, xs, ey, hxs, q⟩ => ?_) hst
  subst ey
  obtain rfl : v = Value.ref a := ry
  exact StX.star_any I1 hxs fun us s2 I2 rv => ⟨I2.kIn, StX.run_makeR M F hr hx I2 rv q⟩
end
/-- the attributes of an amount -/
def amF (q : Fr) : List (Str × V) := [("over_held", .int q.1), ("under_held", .int q.2)]
/-- in lowest terms -/
def low (o u : Int) : Fr := (o / (Int.gcd o u : Int), u / (Int.gcd o u : Int))
def spAmInit (CA : Addr) : Sp := fun vs H Q _ => ∃ (a dx : Addr) (o u : Int), vs = [.ref a, .int o, .int u] ∧ H a = some (.ins CA dx []) ∧ 0 ≤ o ∧ 0 < u ∧ u < 2 ^ 8000 ∧ Q .non (upd H a (.ins CA dx (amF (low o u))))
theorem am_init (B : Bs K mg CR CA) (A0 : Ba K mg CA) : ∃ f, Mk K CA f ∧ FnR P w K mg base L2.CX0 2 f (spAmInit CA) := by
  obtain ⟨f, fd, M, F⟩ := A0.make
  obtain ⟨ds, dv, hb⟩ := F.binds1 (ps := ["self", "over", "under"]) 3 1 (by simp) (by decide) (fun T kV doc pm an cdv ct us its h1 h2 => match us, h1, its, h2 with | [_, _, _], _, [_], _ => ⟨_, rfl, rfl⟩)
  refine ⟨f, M, FnR.imp (FnOk.raw (sp := spAmInit CA) (F.ok (k := 1) sc_Amount_init (fun vs H Q E h => ?_) fun cdv A outer s H vs Q E hr h => nox_ex ?_) hb dv) fun vs H Q E h => by simpa using h⟩
  · obtain ⟨a, dx, o, u, rfl, _⟩ := h
    rfl
  obtain ⟨a, dx, o, u, rfl, ha, ho, hu, hb, hQ⟩ := h
  refine ⟨_, pss_cons (ps_if (pt_not (pt_val (pe_c (c_is_integer B) hr (by decide) (by rfl) (pa_cons (pv 1) pa_nil)))) pss_never pss_nil)
    (pss_cons (ps_if (PW.pt (pw_or (pt_not (pt_val (pe_c (c_is_integer B) hr (by decide) (by rfl) (pa_cons (pv 2) pa_nil)))) (pw_or1 (pt_cmp (pc_eqI (pv 2) pe_int))))) pss_never pss_nil)
    (pss_cons (ps_set (i := 3) sc_Amount_init.nd rfl (Or.inl rfl) (pe_c (c_common_divisor B) hr (by decide) (by rfl) (pa_cons (pv 1) (pa_cons (pv 2) pa_nil))))
    (pss_cons (ps_set (i := 4) sc_Amount_init.nd rfl (Or.inl rfl) (pe_ifExp (pt_cmp (pc_gt (pv 2) pe_int)) pe_int (pe_un un_neg pe_int)))
    (pss_cons (ps_fld (pv 0) (pe_op op_fdivW (pe_op op_mul (pv 4) (pv 1)) (pv 3)) rfl)
    (pss_one (ps_fld (pv 0) (pe_op op_fdivW (pe_op op_mul (pv 4) (pv 2)) (pv 3)) rfl)))))), ?_⟩
  have gp : 0 < Int.gcd o u := Int.gcd_pos_of_ne_zero_right _ (by omega)
  have gl : (Int.gcd o u : Int) ≤ u := Int.gcd_le_right _ hu
  have gd : ∀ i : Int, CDivW i (Int.gcd o u : Int) := fun i => wide_div (b := 8000) (by omega) (by
    have : ((Int.gcd o u : Int)).natAbs ≤ u.toNat := by omega
    refine Nat.lt_of_le_of_lt this ?_
    omega) (by decide) (by decide)
  refine ⟨_, rfl, o, rfl, true, rfl, iteF ?_⟩
  refine ⟨_, rfl, u, rfl, true, rfl, iteF ?_⟩
  refine ⟨_, rfl, _, _, rfl, rfl, _, rfl, iteDF (by omega) ?_⟩
  refine ⟨_, rfl, _, rfl, o, u, rfl, ho, by omega, ?_⟩
  refine ⟨_, rfl, _, _, rfl, rfl, _, rfl, iteD hu ?_⟩
  refine ⟨_, rfl, _, rfl, _, _, rfl, rfl, .inl ⟨by decide, by decide⟩, _, rfl, _, _, rfl, rfl, gd _, ?_⟩
  refine ⟨_, rfl, a, CA, dx, [], rfl, ha, A0.ins.cl, A0.n_over, by decide, ?_⟩
  refine ⟨_, rfl, _, rfl, _, _, rfl, rfl, .inl ⟨by decide, by decide⟩, _, rfl, _, _, rfl, rfl, gd _, ?_⟩
  refine ⟨_, rfl, a, CA, dx, _, rfl, upd_same, A0.ins.cl, A0.n_under, (by show 1 < 1000; decide), ?_⟩
  rw [upd_upd]
  unfold low at hQ
  simp only [Int.one_mul]
  exact hQ
def spAsAmount (CA : Addr) : Sp := fun vs H Q _ => ∃ (a dx : Addr) (fs : List (Str × V)), vs = [.ref a] ∧ H a = some (.ins CA dx fs) ∧ Q (.ref a) H
theorem c_as_amount (B : Bs K mg CR CA) (A0 : Ba K mg CA) : C8.Cal P w K mg base 1 "as_amount" (spAsAmount CA) [] := by
  refine B.f_as_amount.cal sc_as_amount (fun _ _ _ _ _ _ us hl => match us, hl with | [_], _ => rfl) (fun vs H Q E h => ?_) fun f cdv A outer s H vs Q E hr h => ?_
  · obtain ⟨a, dx, fs, rfl, _⟩ := h
    rfl
  obtain ⟨a, dx, fs, rfl, ha, hQ⟩ := h
  refine ⟨_, pss_cons (ps_if (pt_val (pe_callB (C8.call_isC A0.ins) (by rfl) B.b_isinstance (by decide +kernel) (pa_cons (pv 0) (pa_cons (pe_glob (v := .ref CA) (by rfl) A0.g rfl) pa_nil)))) (pss_one (ps_ret (pv 0))) pss_nil) pss_never, ?_⟩
  exact ⟨_, rfl, a, dx, fs, rfl, ha, true, rfl, iteT ⟨_, rfl, hQ⟩⟩
end Cb
/-! ## CbW19 -/
set_option maxHeartbeats 4000000
/-! amounts.py: sums; sheets.py: exact_after. -/
namespace Cb
open PySem PySem.Spec PyProof.Rows L2
open NdefX (NTab TabN TabsN NF FnO NScope NOk nok_of nscope_by startF)
open C8 (pe_c pe_mt pe_mt0 pe_mk)
variable {P : Program} {w : World} {K : PySem.W.Frag} {mg : Str → Option Value} {base : Heap} {CR CA : Addr} {T : List NTab}
def addF (p q : Fr) : Fr := low (p.1 * q.2 + q.1 * p.2) (p.2 * q.2)
def exactAfter (q : Fr) (cs : List Fr) : Fr := cs.foldl addF q
/-- not negative, below 2 ^ b -/
structure Sm (b : Nat) (q : Fr) : Prop where
  lo : 0 ≤ q.1
  po : 0 < q.2
  b1 : q.1 < 2 ^ b
  b2 : q.2 < 2 ^ b
theorem FrOk.sm {q : Fr} (h : FrOk q) : Sm 50 q := by
  have h1 := h.b1
  have h2 := h.b2
  exact ⟨h.low, h.pos, by omega, by omega⟩
theorem FrOk.low_eq {q : Fr} (h : FrOk q) : Cb.low q.1 q.2 = q := by
  unfold Cb.low
  rw [h.gcd]
  simp
theorem low_sm {o u : Int} {b : Nat} (h0 : 0 ≤ o) (h1 : 0 < u) (h2 : o < 2 ^ b) (h3 : u < 2 ^ b) : Sm b (low o u) := by
  have gp : 0 < Int.gcd o u := Int.gcd_pos_of_ne_zero_right _ (by omega)
  have gl : (Int.gcd o u : Int) ≤ u := Int.gcd_le_right _ h1
  have gz : (0 : Int) < (Int.gcd o u : Int) := by omega
  have gd : (Int.gcd o u : Int) ∣ u := Int.gcd_dvd_right ..
  refine ⟨Int.ediv_nonneg h0 (by omega), ?_, Int.lt_of_le_of_lt (Int.ediv_le_self _ h0) h2, Int.lt_of_le_of_lt (Int.ediv_le_self _ (by omega)) h3⟩
  exact Int.ediv_pos_of_pos_of_dvd h1 (by omega) gd
theorem mul_lt_pow {a b : Int} {m n : Nat} (ha : 0 ≤ a) (hb : 0 ≤ b) (h1 : a < 2 ^ m) (h2 : b < 2 ^ n) : a * b < 2 ^ (m + n) := by
  rw [Int.pow_add]
  have p2 : (0 : Int) < 2 ^ n := Int.pow_pos (by decide)
  have k1 : a * b ≤ a * 2 ^ n := Int.mul_le_mul_of_nonneg_left (by omega) ha
  have k2 : a * 2 ^ n < 2 ^ m * 2 ^ n := Int.mul_lt_mul_of_pos_right h1 p2
  omega
theorem addF_pre {p q : Fr} {b : Nat} (h : Sm b p) (k : Sm 50 q) : 0 ≤ p.1 * q.2 + q.1 * p.2 ∧ 0 < p.2 * q.2 ∧ p.1 * q.2 + q.1 * p.2 < 2 ^ (b + 51) ∧ p.2 * q.2 < 2 ^ (b + 51) := by
  have z1 : 0 ≤ p.1 * q.2 := Int.mul_nonneg h.lo (by have := k.po; omega)
  have z2 : 0 ≤ q.1 * p.2 := Int.mul_nonneg k.lo (by have := h.po; omega)
  have z3 := mul_lt_pow h.lo (by have := k.po; omega) h.b1 k.b2
  have z4 := mul_lt_pow k.lo (by have := h.po; omega) k.b1 h.b2
  have z5 := mul_lt_pow (by have := h.po; omega) (by have := k.po; omega) h.b2 k.b2
  have z6 : 0 < p.2 * q.2 := Int.mul_pos h.po k.po
  have e : (2 : Int) ^ (b + 51) = 2 * 2 ^ (b + 50) := by
    rw [show b + 51 = (b + 50) + 1 from rfl, Int.pow_succ, Int.mul_comm]
  have e2 : (50 : Nat) + b = b + 50 := Nat.add_comm _ _
  rw [e2] at z4
  refine ⟨by omega, z6, by omega, by omega⟩
theorem addF_sm {p q : Fr} {b : Nat} (h : Sm b p) (k : Sm 50 q) : Sm (b + 51) (addF p q) := by
  obtain ⟨h1, h2, h3, h4⟩ := addF_pre h k
  exact low_sm h1 h2 h3 h4
theorem pow2_le {b c : Nat} (h : b ≤ c) : (2 : Int) ^ b ≤ 2 ^ c := by
  have q : ((2 ^ b : Nat) : Int) ≤ ((2 ^ c : Nat) : Int) := Int.ofNat_le.mpr (Nat.pow_le_pow_right (by decide) h)
  rw [Int.natCast_pow, Int.natCast_pow] at q
  exact q
theorem Sm.mono {b c : Nat} {q : Fr} (h : Sm b q) (hc : b ≤ c) : Sm c q := by
  have : (2 : Int) ^ b ≤ 2 ^ c := pow2_le hc
  have h1 := h.b1
  have h2 := h.b2
  exact ⟨h.lo, h.po, by omega, by omega⟩
theorem log_of {a : Int} {b : Nat} (h0 : 0 ≤ a) (h : a < 2 ^ b) (hb : 0 < b) : a.natAbs.log2 < b := PySem.Flt.log2_lt_of hb (by
  have : ((a.natAbs : Nat) : Int) < ((2 ^ b : Nat) : Int) := by
    rw [Int.natAbs_of_nonneg h0, Int.natCast_pow]
    exact h
  exact Int.ofNat_lt.mp this)
def spAmAdd (T : List NTab) (CA : Addr) : Sp := fun vs H Q _ => ∃ (a b dx dy : Addr) (p q : Fr), vs = [.ref a, .ref b] ∧ H a = some (.ins CA dx (amF p)) ∧ H b = some (.ins CA dy (amF q)) ∧ Sm 2000 p ∧ Sm 50 q ∧ ∀ H' c dz, Go T [] H H' → H c = none → H' c = some (.ins CA dz (amF (addF p q))) → Q (.ref c) H'
theorem am_add (B : Bs K mg CR CA) (A0 : Ba K mg CA) : ∃ f, FnR P w K mg base L2.CX0 4 f (spAmAdd T CA) ∧ PySem.W.findIn K (.ref CA) "__add__" = some (some (.ref f)) ∧ PySem.W.isFn K (.ref f) = true ∧ PySem.W.selfFirst K CA = true := by
  obtain ⟨f, fd, h1, h2, h3, F⟩ := A0.add
  obtain ⟨fi, M, FI⟩ := am_init (P := P) (w := w) (base := base) B A0
  refine ⟨f, FnR.imp (FnOk.raw (sp := spAmAdd T CA) (F.ok (k := 3) sc_Amount_add (fun vs H Q E h => ?_) fun cdv A outer s H vs Q E hr h => ?_) (F.binds (ps := ["self", "other"]) (fun _ _ _ _ _ _ us hl => match us, hl with | [_, _], _ => rfl)) .nil) fun vs H Q E h => by simpa using h, h1, h2, h3⟩
  · obtain ⟨a, b, dx, dy, p, q, rfl, _⟩ := h
    rfl
  obtain ⟨a, b, dx, dy, p, q, rfl, ha, hb, sp, sq, hQ⟩ := h
  refine ⟨_, pss_cons (ps_set (i := 2) sc_Amount_add.nd rfl (Or.inl rfl) (pe_c (c_as_amount B A0) hr (by decide) (by rfl) (pa_cons (pv 1) pa_nil)))
    (pss_cons (ps_set (i := 3) sc_Amount_add.nd rfl (Or.inl rfl) (pe_op op_add (pe_op op_mulW (pe_fld (pv 0) rfl) (pe_fld (pv 2) rfl)) (pe_op op_mulW (pe_fld (pv 2) rfl) (pe_fld (pv 0) rfl))))
    (pss_one (ps_ret (StX.pe_makeR M FI hr (by rfl) A0.g pass0 (pa_cons (pv 3) (pa_cons (pe_op op_mulW (pe_fld (pv 0) rfl) (pe_fld (pv 2) rfl)) pa_nil)))))), ?_⟩
  have cl := A0.ins.cl
  have l1 := log_of sp.lo sp.b1 (by decide)
  have l2 := log_of (by have := sp.po; omega) sp.b2 (by decide)
  have l3 := log_of sq.lo sq.b1 (by decide)
  have l4 := log_of (by have := sq.po; omega) sq.b2 (by decide)
  obtain ⟨k1, k2, k3, k4⟩ := addF_pre sp sq
  refine ⟨_, rfl, b, dy, _, rfl, hb, ?_⟩
  refine ⟨_, rfl, a, CA, dx, _, _, rfl, ha, cl, A0.n_over, rfl, _, rfl, b, CA, dy, _, _, rfl, hb, cl, A0.n_under, rfl, _, _, rfl, rfl, (by unfold CMulW; omega), ?_⟩
  refine ⟨_, rfl, b, CA, dy, _, _, rfl, hb, cl, A0.n_over, rfl, _, rfl, a, CA, dx, _, _, rfl, ha, cl, A0.n_under, rfl, _, _, rfl, rfl, (by unfold CMulW; omega), _, _, rfl, rfl, ?_⟩
  refine ⟨_, rfl, _, rfl, a, CA, dx, _, _, rfl, ha, cl, A0.n_under, rfl, _, rfl, b, CA, dy, _, _, rfl, hb, cl, A0.n_under, rfl, _, _, rfl, rfl, (by unfold CMulW; omega), fun z dz nz ndz ne => ?_⟩
  have g1 : Go T [] H (upd H dz (.own z)) := Go.new Go.refl ndz
  have nz1 : upd H dz (.own z) z = none := by
    rw [upd_ne (Ne.symm ne)]
    exact nz
  have g2 := g1.new (o := .ins CA dz []) nz1
  refine ⟨z, dz, _, _, rfl, upd_same, k1, k2, Int.lt_of_lt_of_le k4 (pow2_le (by decide)), rfl, ?_⟩
  exact hQ _ z dz (g2.put (.inr nz) upd_same rfl) nz upd_same
end Cb
/-! ## CbW20 -/
set_option maxHeartbeats 4000000
/-! sheets.py: exact_after, part. -/
namespace Cb
open PySem PySem.Spec PyProof.Rows L2
open NdefX (NTab TabN TabsN NF FnO NScope NOk nok_of nscope_by startF)
open C8 (pe_c pe_mt pe_mt0 pe_mk)
variable {P : Program} {w : World} {K : PySem.W.Frag} {mg : Str → Option Value} {base : Heap} {CR CA : Addr} {T : List NTab}
def spAmPair (T : List NTab) (K : PySem.W.Frag) (CA : Addr) : Sp := fun vs H Q _ => ∃ (a dx : Addr) (p : Fr), vs = [.ref a] ∧ H a = some (.ins CA dx (amF p)) ∧ ∀ H' v, Go T [] H H' → Dp K H' v (eF p) → Q v H'
theorem am_pair (A0 : Ba K mg CA) : ∃ (p g : Addr) (fd : FuncData) (ps : List Str), PropOf K CA "pair" p g ∧ FnOk P w K mg base L2.CX0 1 g fd ps (spAmPair T K CA) ∧ L2.Binds K fd ps [] := by
  obtain ⟨p, g, fd, hp, F⟩ := A0.pair
  refine ⟨p, g, fd, ["self"], hp, F.ok (k := 0) sc_Amount_pair (fun vs H Q E h => ?_) (fun cdv A outer s H vs Q E hr h => ?_), F.binds (ps := ["self"]) (fun _ _ _ _ _ _ us hl => match us, hl with | [_], _ => rfl)⟩
  · obtain ⟨a, dx, p, rfl, _⟩ := h
    rfl
  obtain ⟨a, dx, p, rfl, ha, hQ⟩ := h
  refine ⟨_, pss_one (ps_ret (pe_tup (pa_cons (pe_fld (pv 0) rfl) (pa_cons (pe_fld (pv 0) rfl) pa_nil)))), ?_⟩
  refine ⟨_, rfl, a, CA, dx, _, _, rfl, ha, A0.ins.cl, A0.n_over, rfl, _, rfl, a, CA, dx, _, _, rfl, ha, A0.ins.cl, A0.n_under, rfl, (by show 2 ≤ sizeLine; decide), fun q nq => ?_⟩
  exact hQ _ _ (Go.new Go.refl nq) (mk_eF (.inl (.inl upd_same)))
def spExactAfter (T : List NTab) (K : PySem.W.Frag) : Sp := fun vs H Q _ => ∃ (v : V) (c : Addr) (q : Fr) (xs : List V) (cs : List Fr), vs = [v, .ref c] ∧ Dp K H v (eF q) ∧ SqL K H c xs ∧ DpAll K H xs (cs.map eF) ∧ FrOk q ∧ (∀ p ∈ cs, FrOk p) ∧ cs.length ≤ 10 ∧ ∀ H' v', Go T [] H H' → Dp K H' v' (eF (exactAfter q cs)) → Q v' H'
theorem foldl_take {q : Fr} {cs : List Fr} {i : Nat} {p : Fr} (h : cs[i]? = some p) : exactAfter q (cs.take (i + 1)) = addF (exactAfter q (cs.take i)) p := by
  have e : cs.take (i + 1) = cs.take i ++ [p] := by rw [List.take_add_one, h] <;> rfl
  unfold exactAfter
  rw [e, List.foldl_append]
  rfl
theorem fold_sm : ∀ {cs : List Fr} {p : Fr} {b : Nat}, Sm b p → (∀ p ∈ cs, FrOk p) → Sm (b + 51 * cs.length) (cs.foldl addF p)
  | [], p, b, h, _ => h
  | c :: cs, p, b, h, hc => by
    have k := fold_sm (cs := cs) (addF_sm h (hc c List.mem_cons_self).sm) fun q hq => hc q (List.mem_cons_of_mem _ hq)
    rw [List.foldl_cons]
    exact Sm.mono k (by rw [List.length_cons]; omega)
theorem exactAfter_sm {q : Fr} (hq : FrOk q) {cs : List Fr} (h : ∀ p ∈ cs, FrOk p) : Sm (50 + 51 * cs.length) (exactAfter q cs) := fold_sm hq.sm h
theorem c_exact_after (B : Bs K mg CR CA) (A0 : Ba K mg CA) : C8.Cal P w K mg base 5 "exact_after" (spExactAfter T K) [] := by
  obtain ⟨fi, M, FI⟩ := am_init (P := P) (w := w) (base := base) B A0
  obtain ⟨fa, FA, a1, a2, a3⟩ := am_add (P := P) (w := w) (base := base) (T := T) B A0
  obtain ⟨pp, gp, fdp, psp, hp, FP, bP⟩ := am_pair (P := P) (w := w) (base := base) (T := T) A0
  refine B.f_exact_after.cal sc_exact_after (fun _ _ _ _ _ _ us hl => match us, hl with | [_, _], _ => rfl) (fun vs H Q E h => ?_) fun f cdv A outer s H vs Q E hr h => ?_
  · obtain ⟨v, c, q, xs, cs, rfl, _⟩ := h
    rfl
  obtain ⟨v, c, q, xs, cs, rfl, hv, hc, hx, hq, hcs, hl, hQ⟩ := h
  obtain ⟨a, rfl, ha⟩ := dp_eF hv
  refine ⟨_, pss_cons (ps_set (i := 2) sc_exact_after.nd rfl (Or.inl rfl) (pe_makeS1 M FI (hr.mono (by decide)) (by rfl) A0.g pass0 (pv 0)))
    (pss_cons (ps_for PassesOwn.never rfl (pi_list (pv 1)) (pg_name (i := 3) sc_exact_after.nd rfl (Or.inl rfl))
      (pss_one (ps_set (i := 2) sc_exact_after.nd rfl (Or.inl rfl) (pe_op (op_addO FA hr pass0 a1 a2 a3) (pv 2) (pe_makeS1 M FI (hr.mono (by decide)) (by rfl) A0.g pass0 (pv 3))))))
    (pss_one (ps_ret (pe_prop (pv 2) A0.ins.cl hp FP (hr.mono (by decide)) bP .nil pass0 rfl)))), ?_⟩
  have lx := DpAll.map_len hx
  have mk1 : ∀ {H1 : Hp} {z dx : Addr} {p : Fr} {Q2 : VK}, FrOk p → H1 z = none → H1 dx = none → dx ≠ z → (∀ H2, Go T [] H1 H2 → H2 z = some (.ins CA dx (amF p)) → Q2 .non H2) → spAmInit CA (.ref z :: [.int p.1, .int p.2]) (upd (upd H1 dx (.own z)) z (.ins CA dx [])) Q2 L2.E0 := fun {H1 z dx p Q2} fp nz nd ne h => by
    have nz1 : upd H1 dx (.own z) z = none := by
      rw [upd_ne (Ne.symm ne)]
      exact nz
    have g1 : Go T [] H1 (upd (upd H1 dx (.own z)) z (.ins CA dx [])) := (Go.new Go.refl nd).new nz1
    refine ⟨z, dx, p.1, p.2, rfl, upd_same, fp.low, fp.pos, Int.lt_of_lt_of_le fp.sm.b2 (pow2_le (by decide)), ?_⟩
    rw [fp.low_eq]
    exact h _ (g1.put (.inr nz) upd_same rfl) upd_same
  refine ⟨_, rfl, a, _, rfl, .inl ha, fun z dx nz nd ne => mk1 (p := q) hq nz nd ne fun H1 g1 e1 => ⟨rfl, ?_⟩⟩
  refine ⟨_, rfl, c, rfl, ⟨_, sqL_go g1 (by simp) hc⟩, ?_⟩
  refine for_it (walk_list (xs := xs)) (fun i σ H' => Go T [] H H' ∧ ∃ (z dz : Addr) (y : Option V), σ = [some (.ref a), some (.ref c), some (.ref z), y] ∧ H' z = some (.ins CA dz (amF (exactAfter q (cs.take i))))) ⟨g1, z, dx, _, rfl, by simpa [exactAfter] using e1⟩ (fun i σ H' hi h => sqL_go h.1 (by simp) hc) (fun i v σ H2 H3 hi h y => ?_) fun σ H2 h => ?_
  · obtain ⟨rfl, hv⟩ := y
    obtain ⟨g2, z, dz, y, rfl, ez⟩ := h
    obtain ⟨p, ep, dp⟩ := DpAll.map_at (DpAll.go g2 _ _ (fz_map _ fz_eF _) hx) hv
    obtain ⟨b, rfl, hb⟩ := dp_eF dp
    have fp := hcs p (List.mem_of_getElem? ep)
    refine ⟨_, rfl, _, rfl, b, _, rfl, .inl hb, fun z2 dx2 nz2 nd2 ne2 => mk1 (p := p) fp nz2 nd2 ne2 fun H4 g4 e4 => ⟨rfl, ?_⟩⟩
    have ez4 := g4.keep z _ (by simp) ez fun ps z => by cases z
    have sm : Sm 2000 (exactAfter q (cs.take i)) := Sm.mono (exactAfter_sm hq fun p hp => hcs p (List.mem_of_mem_take hp)) (by rw [List.length_take]; omega)
    refine ⟨z, z2, dz, dx2, _, _, rfl, rfl, ez4, e4, z, z2, dz, dx2, _, _, rfl, ez4, e4, sm, fp.sm, fun H5 c5 dz5 g5 _ e5 => ?_⟩
    exact ⟨(g2.trans g4).trans g5, c5, dz5, _, rfl, by rw [foldl_take ep]; exact e5⟩
  · obtain ⟨g2, z, dz, y, rfl, ez⟩ := h
    rw [lx, List.take_length] at ez
    exact ⟨_, rfl, z, dz, _, rfl, ez, z, dz, _, rfl, ez, fun H' v' g3 d3 => hQ H' v' (g2.trans g3) d3⟩
end Cb
/-! ## CbW21 -/
set_option maxHeartbeats 4000000
/-! sheets.py: state_after, part, fresh. -/
namespace Cb
open PySem PySem.Spec PyProof.Rows L2
open NdefX (NTab TabN TabsN NF FnO NScope NOk nok_of nscope_by startF)
open C8 (pe_c pe_mt pe_mt0 pe_mk)
variable {P : Program} {w : World} {K : PySem.W.Frag} {mg : Str → Option Value} {base : Heap} {CR CA : Addr} {T : List NTab}
def eB (b : List Int) : PyData := .tuple (b.map PyData.int)
theorem fz_eB (b : List Int) : fz (eB b) = true := by
  unfold eB fz
  exact fz_map _ (fun a => by simp [fz]) b
theorem dp_eB {H : Hp} {v : V} {b : List Int} (h : Dp K H v (eB b)) : ∃ a, v = .ref a ∧ SqT K H a (b.map V.int) := by
  obtain ⟨a, xs, rfl, hs, hd⟩ := dp_tup h
  rw [dpAll_ints_inv hd] at hs
  exact ⟨a, rfl, hs⟩
def colF (ds : List (List Fr)) (i : Nat) : List Fr := ds.map fun d => d.getD i (0, 1)
def colI (bk : List (List Int)) (i : Nat) : List Int := bk.map fun b => b.getD i 0
def stLn (l : Ln) (cs : List Fr) (bs : List Int) : Ln := (l.1, exactAfter l.2.1 cs, l.2.2.1 + bs.sum, l.2.2.2)
def ln0 : Ln := ("", (0, 1), 0, false)
def stateAfter (x : Sheet) (bk : List (List Int)) : List Ln := (List.range x.ls.length).map fun i => stLn (x.ls.getD i ln0) (colF x.ds i) (colI bk i)
def spStateAfter (T : List NTab) (K : PySem.W.Frag) : Sp := fun vs H Q _ => ∃ (v u : V) (x : Sheet) (bk : List (List Int)), vs = [v, u] ∧ Dp K H v (eSh x) ∧ Dp K H u (.tuple (bk.map eB)) ∧ Good x ∧ (∀ b ∈ bk, b.length = x.ls.length) ∧ bk.length ≤ 10 ∧ ∀ H' r, Go T [] H H' → Dp K H' r (.tuple ((stateAfter x bk).map eL)) → Q r H'
theorem c_state_after (B : Bs K mg CR CA) (A0 : Ba K mg CA) : C8.Cal P w K mg base 6 "state_after" (spStateAfter T K) [] := by
  refine B.f_state_after.cal sc_state_after (fun _ _ _ _ _ _ us hl => match us, hl with | [_, _], _ => rfl) (fun vs H Q E h => ?_) fun f cdv A outer s H vs Q E hr h => ?_
  · obtain ⟨v, u, x, bk, rfl, _⟩ := h
    rfl
  obtain ⟨v, u, x, bk, rfl, hv, hu, ok, hbl, hbk, hQ⟩ := h
  obtain ⟨a, b, c, d, ls, ss, ds, rfl, ha, hb, db, hc, dc, hd, dd⟩ := dp_eSh hv
  obtain ⟨e, us, rfl, he, de⟩ := dp_tup hu
  have nd := sc_state_after.nd
  refine ⟨_, pss_cons (ps_asg (pv 0) (pg_tup (by rfl) (pgs_cons (pg_name (i := 2) nd rfl (Or.inl rfl)) (pgs_cons (pg_name (i := 3) nd rfl (Or.inl rfl)) (pgs_cons (pg_name (i := 4) nd rfl (Or.inl rfl)) pgs_nil)))))
    (pss_cons (ps_set (i := 5) nd rfl (Or.inl rfl) (pe_lst pa_nil))
    (pss_cons (ps_for PassesOwn.never rfl (pi_enumT (by rfl) B.b_enumerate (pa_cons (pv 2) pa_nil)) (pg_tup (by rfl) (pgs_cons (pg_name (i := 6) nd rfl (Or.inr rfl)) (pgs_cons (pg_tup (by rfl) (pgs_cons (pg_name (i := 7) nd rfl (Or.inl rfl)) (pgs_cons (pg_name (i := 8) nd rfl (Or.inl rfl)) (pgs_cons (pg_name (i := 9) nd rfl (Or.inl rfl)) (pgs_cons (pg_name (i := 10) nd rfl (Or.inl rfl)) pgs_nil))))) pgs_nil)))
      (pss_cons (ps_set (i := 11) nd rfl (Or.inl rfl) (pe_callB (cr_sum rfl) (by rfl) B.b_sum (by decide +kernel) (pa_cons (pe_lc (own := [("numbers", 12)]) (g := gName 12) (te := tOp (rIxT K) (tVar 12) (tVar 6)) (by rfl) nd (pi_tup (pv 1)) (blkOk_by (own := [("numbers", 12)]) (N := N_state_after) (sc := defScope s_state_after) (by decide +kernel))
          (fun _ _ _ _ _ => pg_name (i := 12) nd rfl (Or.inl rfl)) (fun _ _ _ _ _ => pts_nil) (fun _ _ _ _ _ => pe_ix ix_tup (pv 12) (pv 6) (fun _ _ => rfl))) pa_nil)))
      (pss_one (ps_expr (pe_bm PySem.F.plainAttrs_list PySem.F.slot_list_append PySem.F.type_list_append mt_append (pv 5) (pa_cons (pe_tup (pa_cons (pv 7) (pa_cons (pe_c (c_exact_after (T := T) B A0) hr (by decide) (by rfl) (pa_cons (pv 8) (pa_cons (pe_lc (own := [("charges", 13)]) (g := gName 13) (te := tOp (rIxT K) (tVar 13) (tVar 6)) (by rfl) nd (pi_tup (pv 4)) (blkOk_by (own := [("charges", 13)]) (N := N_state_after) (sc := defScope s_state_after) (by decide +kernel))
          (fun _ _ _ _ _ => pg_name (i := 13) nd rfl (Or.inl rfl)) (fun _ _ _ _ _ => pts_nil) (fun _ _ _ _ _ => pe_ix ix_tup (pv 13) (pv 6) (fun _ _ => rfl))) pa_nil))) (pa_cons (pe_op op_add (pv 9) (pv 11)) (pa_cons (pv 10) pa_nil))))) pa_nil))))))
    (pss_one (ps_ret (pe_callTy call_tuple_of (by rfl) B.b_tuple (by decide +kernel) (pa_cons (pv 5) pa_nil)))))), ?_⟩
  have lb := DpAll.map_len db
  have ld := DpAll.map_len dd
  have le := DpAll.map_len de
  have m1 := ok.ls.most
  have m3 := ok.dn
  refine ⟨_, rfl, a, _, rfl, ha, rfl, _, _, rfl, _, _, rfl, _, _, rfl, rfl, ?_⟩
  refine ⟨(by show 0 ≤ sizeLine; decide), fun D nD => ?_⟩
  have g0 : Go T [] H (upd H D (.lst [])) := Go.new Go.refl nD
  have fS : ∀ i, fzAll (((stateAfter x bk).take i).map eL) = true := fun i => fz_map _ fz_eL _
  refine ⟨_, rfl, b, ls, rfl, sqT_go g0 hb, ?_⟩
  refine for_it walk_enumT (fun i σ H' => Go T [] H H' ∧ (∃ acc, H' D = some (.lst acc) ∧ DpAll K H' acc (((stateAfter x bk).take i).map eL)) ∧ ∃ y6 y7 y8 y9 y10 y11, σ = [some (.ref a), some (.ref e), some (.ref b), some (.ref c), some (.ref d), some (.ref D), y6, y7, y8, y9, y10, y11, none, none])
    ⟨g0, ⟨_, upd_same, by simpa using DpAll.nil⟩, _, _, _, _, _, _, rfl⟩ (fun i σ H' hi h => sqT_go h.1 hb) (fun i v σ H1 H2 hi h y => ?_) fun σ H' h => ?_
  · obtain ⟨g1, ⟨acc, e1, d1⟩, y6, y7, y8, y9, y10, y11, rfl⟩ := h
    obtain ⟨p1, u, zz, rfl, np1, rfl, w1, w2⟩ := y
    cases Option.some.inj (show some (V.int (i : Nat)) = some u from w1)
    have w2 : ls[i]? = some zz := w2
    have g2 : Go T [] H (upd H1 p1 (.tup [.int (i : Nat), zz])) := g1.new np1
    have k2 : Go T [] H1 (upd H1 p1 (.tup [.int (i : Nat), zz])) := Go.new Go.refl np1
    obtain ⟨l, el, dl⟩ := DpAll.map_at (DpAll.go g2 _ _ (fz_map _ fz_eL _) db) w2
    obtain ⟨q, wf, rfl, hq, df⟩ := dp_eL dl
    have hl := List.mem_of_getElem? el
    have hi2 : i < x.ls.length := by omega
    refine ⟨p1, _, rfl, .inl (.inl upd_same), rfl, _, _, rfl, _, _, rfl, q, _, rfl, hq, rfl, _, _, rfl, _, _, rfl, _, _, rfl, _, _, rfl, rfl, rfl, ?_⟩
    refine ⟨_, rfl, e, rfl, ⟨_, sqT_go g2 he⟩, fun D2 nD2 => ?_⟩
    refine lc_dp (K := K) (T := T) (m := []) (walk_tup (xs := us)) nD2 (fun a ha => absurd ha (by simp)) (small (by omega)) ((colI bk i).map PyData.int) (by unfold colI; simp; omega) (fz_map _ (fun a => by simp [fz]) _) (fun H3 g => sqT_go (g2.trans g) he) (fun j v H3 H4 dn hdn g y F Z hF => ?_) fun H3 acc2 g3 e3 d3 => ?_
    · obtain ⟨rfl, hv⟩ := y
      obtain ⟨bb, eb, dbb⟩ := DpAll.map_at (DpAll.go (g2.trans g) _ _ (fz_map _ fz_eB _) de) hv
      obtain ⟨r, rfl, hr2⟩ := dp_eB dbb
      unfold colI at hdn
      rw [List.getElem?_map, List.getElem?_map, eb] at hdn
      cases hdn
      have hbi : i < bb.length := by rw [hbl bb (List.mem_of_getElem? eb)]; exact hi2
      refine ⟨rfl, _, rfl, _, rfl, r, _, _, .int (bb.getD i 0), rfl, rfl, hr2, atI_at (j := i) ?_, hF _ _ Go.refl (.int _)⟩
      rw [List.getElem?_map, List.getElem?_eq_getElem hbi, List.getD_eq_getElem?_getD, List.getElem?_eq_getElem hbi]
      rfl
    have ea := dpAll_ints_inv d3
    subst ea
    have g23 := g2.trans g3
    refine ⟨D2, _, rfl, SqL.of e3, ?_⟩
    have e1b : H3 D = some (.lst acc) := (k2.trans g3).keep D _ (by simp) e1 fun ps z => by cases z
    refine ⟨_, rfl, .inl ⟨rfl, _, SqL.of e1b⟩, _, rfl, _, rfl, _, rfl, d, rfl, ⟨_, sqT_go g23 hd⟩, fun D4 nD4 => ?_⟩
    refine lc_dp (K := K) (T := T) (m := []) (walk_tup (xs := ds)) nD4 (fun a ha => absurd ha (by simp)) (small (by omega)) ((colF x.ds i).map eF) (by unfold colF; simp; omega) (fz_map _ fz_eF _) (fun H5 g => sqT_go (g23.trans g) hd) (fun j v H5 H6 dn hdn g y F Z hF => ?_) fun H5 acc4 g5 e5 d5 => ?_
    · obtain ⟨rfl, hv⟩ := y
      obtain ⟨bb, eb, dbb⟩ := DpAll.map_at (DpAll.go (g23.trans g) _ _ (fz_map _ fz_eD _) dd) hv
      obtain ⟨r, rs, rfl, hr2, drs⟩ := dp_eD dbb
      unfold colF at hdn
      rw [List.getElem?_map, List.getElem?_map, eb] at hdn
      cases hdn
      have hbi : i < bb.length := by rw [(ok.ds bb (List.mem_of_getElem? eb)).len]; exact hi2
      obtain ⟨v, ev, dv⟩ := DpAll.map_at' drs (List.getElem?_eq_getElem hbi)
      refine ⟨rfl, _, rfl, _, rfl, r, _, _, v, rfl, rfl, hr2, atI_at (j := i) ev, hF _ _ Go.refl ?_⟩
      show Dp K H6 v (eF (bb.getD i (0, 1)))
      rw [List.getD_eq_getElem?_getD, List.getElem?_eq_getElem hbi]
      exact dv
    have g25 := g23.trans g5
    refine ⟨wf, D4, l.2.1, acc4, colF x.ds i, rfl, Dp.go (g3.trans g5) _ _ (fz_eF _) df, SqL.of e5, d5, ok.ls.fr l hl, fun p hp => ?_, by unfold colF; simp; omega, fun H7 r g7 dr => ?_⟩
    · unfold colF at hp
      obtain ⟨bb, hbm, rfl⟩ := List.mem_map.mp hp
      have hbi : i < bb.length := by rw [(ok.ds bb hbm).len]; exact hi2
      show FrOk (bb.getD i (0, 1))
      rw [List.getD_eq_getElem?_getD, List.getElem?_eq_getElem hbi]
      exact (ok.ds bb hbm).fr _ (List.getElem_mem hbi)
    refine ⟨_, rfl, _, rfl, _, _, rfl, rfl, _, rfl, (by show 4 ≤ sizeLine; decide), fun p2 np2 => ?_⟩
    have k7 := ((k2.trans g3).trans g5).trans g7
    have k8 := k7.new (o := .tup [.str l.1, r, .int (l.2.2.1 + (colI bk i).sum), .bl l.2.2.2]) np2
    have e8 := k8.keep D _ (by simp) e1 fun ps z => by cases z
    have la := DpAll.map_len d1
    rw [List.length_take] at la
    have ex : (stateAfter x bk)[i]? = some (stLn l (colF x.ds i) (colI bk i)) := by
      unfold stateAfter
      rw [List.getElem?_map, List.getElem?_range hi2]
      simp [List.getD_eq_getElem?_getD, el]
    have p9 : Go T [D] (upd H7 p2 (.tup [.str l.1, r, .int (l.2.2.1 + (colI bk i).sum), .bl l.2.2.2])) (upd (upd H7 p2 (.tup [.str l.1, r, .int (l.2.2.1 + (colI bk i).sum), .bl l.2.2.2])) D (.lst (acc ++ [.ref p2]))) := Go.put Go.refl (.inl (by simp)) e8 rfl
    refine ⟨D, acc, .ref p2, rfl, rfl, e8, Nat.lt_of_lt_of_le (show acc.length < 100000 by omega) (by decide), ?_⟩
    refine ⟨(g1.trans k8).put (.inr nD) e8 rfl, ⟨_, upd_same, ?_⟩, _, _, _, _, _, _, rfl⟩
    rw [show (stateAfter x bk).take (i + 1) = (stateAfter x bk).take i ++ [stLn l (colF x.ds i) (colI bk i)] by rw [List.take_add_one, ex] <;> rfl, List.map_append]
    have k9 : Go T [] H7 (upd H7 p2 (.tup [.str l.1, r, .int (l.2.2.1 + (colI bk i).sum), .bl l.2.2.2])) := Go.new Go.refl np2
    exact DpAll.snoc (DpAll.go p9 _ _ (fS _) (DpAll.go k8 _ _ (fS _) d1)) (Dp.go p9 _ _ (fz_eL _) (mk_eL (l := stLn l (colF x.ds i) (colI bk i)) (.inl (.inl upd_same)) (Dp.go k9 _ _ (fz_eF _) dr)))
  · obtain ⟨g1, ⟨acc, e1, d1⟩, y6, y7, y8, y9, y10, y11, rfl⟩ := h
    have es : (stateAfter x bk).length = x.ls.length := by unfold stateAfter; simp
    rw [List.take_of_length_le (by omega)] at d1
    refine ⟨_, rfl, D, _, rfl, .inl ⟨SqL.of e1, fun p np => ?_⟩⟩
    have k : Go T [] H' (upd H' p (.tup acc)) := Go.new Go.refl np
    exact hQ _ _ (g1.trans k) (.tup (.inl (.inl upd_same)) (DpAll.go k _ _ (fz_map _ fz_eL _) d1))
end Cb
/-! ## CbW22 -/
set_option maxHeartbeats 4000000
/-! sheets.py: part, fresh. -/
namespace Cb
open PySem PySem.Spec PyProof.Rows L2
open NdefX (NTab TabN TabsN NF FnO NScope NOk nok_of nscope_by startF)
open C8 (pe_c pe_mt pe_mt0 pe_mk)
open PySem.W (dataLe dataLt alike alikeAll AllAlike Sortable)
variable {P : Program} {w : World} {K : PySem.W.Frag} {mg : Str → Option Value} {base : Heap} {CR CA : Addr} {T : List NTab}
section
variable {X : Cx} {CX : CXT} {k : Nat} {f : Addr} {sp : Sp} {E : XK} {x : Str} {e : Expr} {es : List Expr} {t : TA} {p pos : Pos}
/-- f(e, ..) by a positional promise -/
theorem pe_callR (F : FnR X.prog X.w X.K X.mg X.base CX k f sp) (hr : Room k X.A) (hg : Gl X x) (hm : X.mg x = some (.ref f)) (hk : PySem.W.keepIn X.K (.ref f) = true) (hx : Passes CX X E)
    (ha : PA X (e :: es) t) (hdb : (x == ("__debug__" : Str)) = false := by decide) (he : starEach (e :: es) X.env = (false, eval e X.env) :: starEach es X.env := by rfl) (hpl : (backTo pos (starEach es X.env)).any (·.1) = false := by rfl) :
    PE X (.Call (.Name x p) (e :: es) [] pos) (fun σ H Q => t σ H fun vs H1 => sp vs H1 Q E) := by
  refine ⟨fun pins s σ H Q I h => ?_⟩
  refine wpAny_Call_Name_kw (ld_glob I hg hm ?_ hdb)
  refine PySem.W.callWith_K (h₀ := X.base) I.ok.mod.kin hk (thn (ha.run pos pins s σ H _ I h) fun us s1 ⟨vs, H1, I1, r, q⟩ => ⟨I1.kIn, ?_⟩) he hpl
  exact wpAny_call (run_fnR F hr hx I1 r q)
end
def partOf (x : Sheet) (d : Nat) : Sheet := ⟨x.ls, x.ss, (x.ds.drop d).take 1⟩
def spPart (T : List NTab) (K : PySem.W.Frag) : Sp := fun vs H Q _ => ∃ (v : V) (x : Sheet) (d : Nat), vs = [v, .int (d : Nat), .int 1] ∧ Dp K H v (eSh x) ∧ d < x.ds.length ∧ x.ds.length ≤ 1000 ∧ ∀ H' r, Go T [] H H' → Dp K H' r (eSh (partOf x d)) → Q r H'
theorem cut_one {α : Type} (xs : List V) (d : Nat) (h : d < xs.length) : cutV xs (some ((d : Nat) : Int)) (some (((d : Nat) : Int) + 1)) = (xs.drop d).take 1 := by
  unfold cutV
  rw [show (((d : Nat) : Int) + 1) = ((d + 1 : Nat) : Int) by omega, HT.sIx_nat, HT.sIx_nat, Nat.min_eq_left (by omega), Nat.min_eq_left (by omega), show d + 1 - d = 1 by omega]
theorem c_part (B : Bs K mg CR CA) : C8.Cal P w K mg base 1 "part" (spPart T K) [] := by
  refine B.f_part.cal sc_part (fun _ _ _ _ _ _ us hl => match us, hl with | [_, _, _], _ => rfl) (fun vs H Q E h => ?_) fun f cdv A outer s H vs Q E hr h => ?_
  · obtain ⟨v, x, d, rfl, _⟩ := h
    rfl
  obtain ⟨v, x, d, rfl, hv, hd, hz, hQ⟩ := h
  obtain ⟨a, b, c, e, ls, ss, ds, rfl, ha, hb, db, hc, dc, he, dd⟩ := dp_eSh hv
  refine ⟨_, pss_cons (ps_asg (pv 0) (pg_tup (by rfl) (pgs_cons (pg_name (i := 3) sc_part.nd rfl (Or.inl rfl)) (pgs_cons (pg_name (i := 4) sc_part.nd rfl (Or.inl rfl)) (pgs_cons (pg_name (i := 5) sc_part.nd rfl (Or.inl rfl)) pgs_nil)))))
    (pss_one (ps_ret (pe_tup (pa_cons (pv 3) (pa_cons (pv 4) (pa_cons (pe_slice sl_tupA (pv 5) (po_some (pv 1)) (po_some (pe_op op_add (pv 1) (pv 2)))) pa_nil)))))), ?_⟩
  have ld := DpAll.map_len dd
  refine ⟨_, rfl, a, _, rfl, ha, rfl, _, _, rfl, _, _, rfl, _, _, rfl, rfl, ?_⟩
  have cut := cut_one (α := V) ds d (by omega)
  refine ⟨_, rfl, _, rfl, _, rfl, _, rfl, _, rfl, _, rfl, _, rfl, _, _, rfl, rfl, _, rfl, e, ds, rfl, he, fun hw => ?_, fun hw p np => ?_⟩
  · refine ⟨(by show 3 ≤ sizeLine; decide), fun q nq => ?_⟩
    have g : Go T [] H (upd H q (.tup [.ref b, .ref c, .ref e])) := Go.new Go.refl nq
    refine hQ _ _ g ?_
    have e1 : (x.ds.drop d).take 1 = x.ds := by
      rw [HT.sIx_nat, show (((d : Nat) : Int) + 1) = ((d + 1 : Nat) : Int) by omega, HT.sIx_nat] at hw
      have hd0 : d = 0 := by omega
      have hl : x.ds.length = 1 := by omega
      rw [hd0, List.drop_zero, List.take_of_length_le (by omega)]
    unfold partOf
    rw [e1]
    exact .tup (.inl (.inl upd_same)) (.cons (.tup (sqT_go g hb) (DpAll.go g _ _ (fz_map _ fz_eL _) db)) (.cons (.tup (sqT_go g hc) (DpAll.go g _ _ (fz_map _ fz_eS _) dc)) (.cons (.tup (sqT_go g he) (DpAll.go g _ _ (fz_map _ fz_eD _) dd)) .nil)))
  · refine ⟨(by show 3 ≤ sizeLine; decide), fun q nq => ?_⟩
    rw [cut] at nq ⊢
    have g1 : Go T [] H (upd H p (.tup ((ds.drop d).take 1))) := Go.new Go.refl np
    have g2 : Go T [] (upd H p (.tup ((ds.drop d).take 1))) (upd (upd H p (.tup ((ds.drop d).take 1))) q (.tup [.ref b, .ref c, .ref p])) := Go.new Go.refl nq
    have g := g1.trans g2
    have hp : SqT K (upd H p (.tup ((ds.drop d).take 1))) p ((ds.drop d).take 1) := .inl (.inl upd_same)
    have dp : DpAll K H ((ds.drop d).take 1) (((x.ds.drop d).take 1).map eD) := by
      rw [List.map_take, List.map_drop]
      exact DpAll.take 1 (DpAll.drop d dd)
    exact hQ _ _ g (.tup (.inl (.inl upd_same)) (.cons (.tup (sqT_go g hb) (DpAll.go g _ _ (fz_map _ fz_eL _) db)) (.cons (.tup (sqT_go g hc) (DpAll.go g _ _ (fz_map _ fz_eS _) dc)) (.cons (.tup (sqT_go g2 hp) (DpAll.go g _ _ (fz_map _ fz_eD _) dp)) .nil))))
def freshLn (n : Str) : Ln := (n, (0, 1), 0, true)
/-- pairs of a value and its data, sorted by the data -/
theorem sort_pairs {α : Type} (f : α → V) (g : α → PyData) (l : List α) : ((l.map fun a => (f a, g a)).mergeSort (dataLe false (·.2))).map (·.1) = (l.mergeSort (dataLe false g)).map f := by
  rw [← PySem.W.sort_maps (r := dataLe false g) (s := dataLe false (·.2)) (fun a => (f a, g a)) (fun a _ b _ => rfl), List.map_map]
  rfl
def spFresh (T : List NTab) (K : PySem.W.Frag) : Sp := fun vs H Q _ => ∃ ns : List Str, vs = ns.map V.str ∧ ns.length ≤ 6 ∧ ∀ H' r, Go T [] H H' → Dp K H' r (.tuple ((sortS ns).map fun n => eL (freshLn n))) → Q r H'
theorem c_fresh (B : Bs K mg CR CA) (A0 : Ba K mg CA) : ∃ f, mg "fresh" = some (.ref f) ∧ PySem.W.keepIn K (.ref f) = true ∧ FnR P w K mg base L2.CX0 1 f (spFresh T K) := by
  obtain ⟨f, fd, F, hm⟩ := B.f_fresh.ex
  obtain ⟨oc, od, kV, doc, pm, an, cdv, ct, osl, rfl, lk, hcd⟩ := F.ex
  obtain ⟨mc, za, zr, zv, zs⟩ := A0.zero
  refine ⟨f, hm, F.kp, ?_⟩
  have q := StX.fn_star (P := P) (w := w) (mg := mg) (base := base) (CX := L2.CX0) (k := 0) (N := N_fresh) (ps := []) (pv := "lines") (sp := fun vs H Q _ => ∃ (a : Addr) (ns : List Str), vs = [.ref a] ∧ SqT K H a (ns.map V.str) ∧ ns.length ≤ 6 ∧ ∀ H' r, Go T [] H H' → Dp K H' r (.tuple ((sortS ns).map fun n => eL (freshLn n))) → Q r H') lk hcd sc_fresh StX.cxUp_none (fun us rest hl => match us, hl, rest with | [], _, [] => rfl | [], _, _ :: _ => rfl) (fun A outer s H vs Q E hr h => nox_ex ?_)
  · refine q.imp fun vs H Q E h => ?_
    obtain ⟨ns, rfl, hl, hQ⟩ := h
    refine ⟨[], _, rfl, rfl, small (by rw [List.length_map]; omega), fun p np => ⟨p, ns, rfl, .inl (.inl upd_same), hl, fun H' r g d => hQ H' r ((Go.new Go.refl np).trans g) d⟩⟩
  · obtain ⟨a, ns, rfl, ha, hl, hQ⟩ := h
    refine ⟨_, pss_one (ps_ret (pe_callTy call_tuple_of (by rfl) B.b_tuple (by decide +kernel) (pa_cons (pe_lc (own := [("name", 1)]) (g := gName 1) (te := tTup (tCons (tVar 1) (tCons (ClX.tCVal K (tC (.ref CA)) "ZERO") (tCons (tC (.int 0)) (tCons (tC (.bl true)) tNil))))) (by rfl) sc_fresh.nd (pi_list (pe_callB (cr_sortedD (hu64 hr)) (by rfl) B.b_sorted (by decide +kernel) (pa_cons (pv 0) pa_nil))) (blkOk_by (own := [("name", 1)]) (N := N_fresh) (sc := defScope s_fresh) (by decide +kernel))
      (fun _ _ _ _ _ => pg_name (i := 1) sc_fresh.nd rfl (Or.inl rfl)) (fun _ _ _ _ _ => pts_nil) (fun _ _ _ _ _ => pe_tup (pa_cons (pv 1) (pa_cons (ClX.pe_cval (pe_glob (v := .ref CA) (by rfl) A0.g rfl)) (pa_cons pe_int (pa_cons pe_bl pa_nil)))))) pa_nil))), ?_⟩
    have em : (ns.map fun n => (V.str n, PyData.str n)).map (·.1) = ns.map V.str := by rw [List.map_map]; rfl
    have em2 : (ns.map fun n => (V.str n, PyData.str n)).map (·.2) = ns.map PyData.str := by rw [List.map_map]; rfl
    refine ⟨_, rfl, a, ns.map fun n => (V.str n, PyData.str n), rfl, .inr (by rw [em]; exact ha), fun b hb => ?_, ?_, ?_, fun b hb => ?_, fun p np => ?_⟩
    · obtain ⟨n, _, rfl⟩ := List.mem_map.mp hb
      exact .str n
    · rw [em2]
      exact AllAlike.of fun b b' => by simp [alike]
    · rw [em2]
      exact Sortable.others fun b => ⟨fun z => (by cases z), fun xs z => (by cases z)⟩
    · obtain ⟨n, _, rfl⟩ := List.mem_map.mp hb
      simp [PyData.depth]
    rw [sort_pairs V.str PyData.str ns]
    have g1 : Go T [] H (upd H p (.lst ((sortS ns).map V.str))) := Go.new Go.refl np
    have sl : (sortS ns).length = ns.length := List.length_mergeSort ..
    have hp : SqL K (upd H p (.lst ((sortS ns).map V.str))) p ((sortS ns).map V.str) := SqL.of upd_same
    refine ⟨p, rfl, ⟨_, hp⟩, fun D nD => ?_⟩
    refine lc_dp (K := K) (T := T) (m := []) (walk_list (xs := (sortS ns).map V.str)) nD (fun a ha => absurd ha (by simp)) (small (by rw [List.length_map]; omega)) ((sortS ns).map fun n => eL (freshLn n)) (by simp) (fz_map _ (fun n => fz_eL _) _) (fun H3 g => sqL_go g (by simp) hp) (fun i v H3 H4 dn hdn g y F Z hF => ?_) fun H3 acc g3 e3 d3 => ?_
    · obtain ⟨rfl, hv⟩ := y
      rw [List.getElem?_map] at hv hdn
      cases en : (sortS ns)[i]? with
      | none =>
        rw [en] at hv
        cases hv
      | some n =>
        rw [en] at hv hdn
        cases hv
        cases hdn
        refine ⟨rfl, _, rfl, CA, mc, _, _, rfl, zr, zv, (by show 4 ≤ sizeLine; decide), fun q nq => ?_⟩
        exact hF _ _ (Go.new Go.refl nq) (mk_eL (l := freshLn n) (.inl (.inl upd_same)) (mk_eF (q := (0, 1)) (zs _)))
    · refine ⟨D, _, rfl, .inl ⟨SqL.of e3, fun q nq => ?_⟩⟩
      have k : Go T [] H3 (upd H3 q (.tup acc)) := Go.new Go.refl nq
      exact hQ _ _ ((g1.trans g3).trans k) (.tup (.inl (.inl upd_same)) (DpAll.go k _ _ (fz_map _ (fun n => fz_eL _) _) d3))
end Cb
/-! ## CbL1 -/
set_option maxHeartbeats 4000000
/-! The law's draws. -/
namespace Cb
open PySem PySem.Spec PyProof.Rows L2
open NdefX (NTab TabN TabsN NF FnO NScope NOk nok_of nscope_by startF)
open C8 (pe_c pe_mt pe_mt0 pe_mk)
variable {P : Program} {w : World} {K : PySem.W.Frag} {mg : Str → Option Value} {base : Heap} {CR CA : Addr} {T : List NTab}
def rdD (cl : Addr) (n r k : Int) : List (Key × V) := [(.inr "cells", .ref cl), (.inr "next", .int n), (.inr "rest", .int r), (.inr "draws", .int k)]
/-- the law's reader at d, its cells at cl -/
def LRd (H : Hp) (d cl : Addr) : Prop := ∃ (n r k : Int) (cs : List Int), H d = some (.dK (rdD cl n r k)) ∧ H cl = some (.lst (cs.map V.int)) ∧ 0 ≤ n ∧ 0 ≤ r ∧ cs.length ≤ 1000
theorem LRd.go {H H' : Hp} {d cl : Addr} {m : List Addr} (l : LRd H d cl) (g : Go T m H H') (h1 : d ∉ m) (h2 : cl ∉ m) : LRd H' d cl := by
  obtain ⟨n, r, k, cs, e1, e2, h⟩ := l
  exact ⟨n, r, k, cs, g.keep d _ h1 e1 fun ps z => (by cases z), g.keep cl _ h2 e2 fun ps z => (by cases z), h⟩
theorem LRd.ne {H : Hp} {d cl : Addr} (l : LRd H d cl) : cl ≠ d := fun z => by
  obtain ⟨n, r, k, cs, e1, e2, h⟩ := l
  rw [z, e1] at e2
  cases e2
theorem LRd.put {H : Hp} {d cl D : Addr} {o : HO} (l : LRd H d cl) (h1 : D ≠ d) (h2 : D ≠ cl) : LRd (upd H D o) d cl := by
  obtain ⟨n, r, k, cs, e1, e2, h⟩ := l
  exact ⟨n, r, k, cs, by rw [upd_ne (Ne.symm h1)]; exact e1, by rw [upd_ne (Ne.symm h2)]; exact e2, h⟩
theorem LRd.out {H : Hp} {d cl D : Addr} (l : LRd H d cl) (h : H D = none) : D ≠ d ∧ D ≠ cl := by
  obtain ⟨n, r, k, cs, e1, e2, _⟩ := l
  exact ⟨fun z => (by rw [z, e1] at h; cases h), fun z => (by rw [z, e2] at h; cases h)⟩
def spLReader (T : List NTab) (K : PySem.W.Frag) : Sp := fun vs H Q _ => ∃ (a : Addr) (ns : List Int), vs = [.ref a] ∧ SqL K H a (ns.map V.int) ∧ ns.length ≤ 63 ∧ ∀ H' d cl, Go T [] H H' → LRd H' d cl → Q (.ref d) H'
theorem c_L_reader (B : Bs K mg CR CA) : C8.Cal P w K mg base 1 "_law_reader" (spLReader T K) [] := by
  refine B.f_L_reader.cal sc_L_reader (fun _ _ _ _ _ _ us hl => match us, hl with | [_], _ => rfl) (fun vs H Q E h => ?_) fun f cdv A outer s H vs Q E hr h => ?_
  · obtain ⟨a, ns, rfl, _⟩ := h
    rfl
  obtain ⟨a, ns, rfl, ha, hl, hQ⟩ := h
  refine ⟨_, pss_one (ps_ret (pe_disp (pps_cons pe_str (pe_callTy call_list_of (by rfl) B.b_list (by decide +kernel) (pa_cons (pe_slice sl_list (pv 0) po_none (po_some pe_int)) pa_nil)) (pps_cons pe_str pe_int (pps_cons pe_str pe_int (pps_cons pe_str pe_int pps_nil)))) (by rfl) (by rfl) (fun z => by cases z) (by decide))), ?_⟩
  refine fun p np => ⟨_, rfl, 63, rfl, a, _, rfl, sqL_go (Go.new (T := T) (m := []) Go.refl np) (by simp) ha, fun q nq => ⟨q, _, rfl, .inl (SqL.of upd_same), fun l nl => ?_⟩⟩
  obtain ⟨cs, ec, hc⟩ : ∃ cs : List Int, cutV (ns.map V.int) none (some 63) = cs.map V.int ∧ cs.length ≤ 63 := by
    unfold cutV
    rw [← List.map_drop, ← List.map_take]
    exact ⟨_, rfl, by rw [List.length_take, List.length_drop]; omega⟩
  rw [ec] at nl ⊢
  have pq : p ≠ q := ne_of_none (o := .dK []) upd_same nq
  have e1 : upd (upd (upd H p (.dK [])) q (.lst (cs.map V.int))) l (.lst (cs.map V.int)) p = some (.dK []) := by
    have q1 : upd (upd H p (.dK [])) q (.lst (cs.map V.int)) p = some (.dK []) := by rw [upd_ne pq, upd_same]
    rw [upd_ne (ne_of_none q1 nl)]
    exact q1
  have g : Go T [] H (upd (upd (upd H p (.dK [])) q (.lst (cs.map V.int))) l (.lst (cs.map V.int))) := ((Go.new Go.refl np).new nq).new nl
  have pl : l ≠ p := fun z => by rw [z, upd_ne pq, upd_same] at nl; cases nl
  refine ⟨e1, rdD l 0 0 0, rfl, (by show 4 ≤ 15; decide), hQ _ p l (g.put (.inr np) e1 rfl) ⟨0, 0, 0, cs, ?_, by rw [upd_ne pl, upd_same], by decide, by decide, by omega⟩⟩
  rw [upd_same]
  rfl
section
variable {cl d : Addr} {n r k m : Int} {H : Hp}
theorem v_cells : valV (rdD cl n r k) (.inr "cells") = some (.ref cl) := by rfl
theorem v_next : valV (rdD cl n r k) (.inr "next") = some (.int n) := by rfl
theorem v_rest : valV (rdD cl n r k) (.inr "rest") = some (.int r) := by rfl
theorem v_draws : valV (rdD cl n r k) (.inr "draws") = some (.int k) := by rfl
theorem p_next : putK (rdD cl n r k) (.inr "next") (.int m) = rdD cl m r k := by rfl
theorem p_rest : putK (rdD cl n r k) (.inr "rest") (.int m) = rdD cl n m k := by rfl
theorem p_draws : putK (rdD cl n r k) (.inr "draws") (.int m) = rdD cl n r m := by rfl
theorem rdget {key : Str} {v : V} (e : H d = some (.dK (rdD cl n r k))) (h : valV (rdD cl n r k) (.inr key) = some v) : DGet H d (.str key) (some v) := by
  rw [← h]
  exact DGet.k (k := Sum.inr key) e
theorem rdput {key : Str} {v : V} {kvs : List (Key × V)} (e : H d = some (.dK (rdD cl n r k))) (h : putK (rdD cl n r k) (.inr key) v = kvs) : DPut H d (.str key) v (upd H d (.dK kvs)) := by
  rw [← h]
  exact DPut.k (k := Sum.inr key) e (Nat.lt_of_lt_of_le (show 4 < 100 by decide) (by decide))
end
def spLDraw (T : List NTab) : Sp := fun vs H Q _ => ∃ (d cl : Addr) (m : Int), vs = [.ref d, .int m] ∧ LRd H d cl ∧ 0 < m ∧ m < 2 ^ 60 ∧ ∀ H' r, Go T [d] H H' → LRd H' d cl → 0 ≤ r → r < m → Q (.int r) H'
theorem c_L_draw (B : Bs K mg CR CA) : C8.Cal P w K mg base 1 "_law_draw" (spLDraw T) [] := by
  refine B.f_L_draw.cal sc_L_draw (fun _ _ _ _ _ _ us hl => match us, hl with | [_, _], _ => rfl) (fun vs H Q E h => ?_) fun f cdv A outer s H vs Q E hr h => ?_
  · obtain ⟨d, cl, m, rfl, _⟩ := h
    rfl
  obtain ⟨d, cl, m, rfl, hd, hm, hm2, hQ⟩ := h
  have hu := hu_of hr
  have nd := sc_L_draw.nd
  refine ⟨_, pss_cons (ps_dput hu (pv 0) pe_str (pe_op op_add (pe_dget hu (pv 0) pe_str (fun _ _ => rfl)) pe_int) rfl)
    (pss_cons (ps_if (pt_cmp (pc_gt (pe_dget hu (pv 0) pe_str (fun _ _ => rfl)) pe_int)) (pss_cons (ps_set (i := 2) nd rfl (Or.inl rfl) (pe_op op_mod (pe_dget hu (pv 0) pe_str (fun _ _ => rfl)) (pv 1)))
        (pss_cons (ps_dput hu (pv 0) pe_str (pe_op op_fdivW (pe_dget hu (pv 0) pe_str (fun _ _ => rfl)) (pv 1)) rfl) (pss_one (ps_ret (pv 2))))) pss_nil)
    (pss_cons (ps_set (i := 3) nd rfl (Or.inl rfl) (pe_dget hu (pv 0) pe_str (fun _ _ => rfl)))
    (pss_cons (ps_dput hu (pv 0) pe_str (pe_op op_add (pv 3) pe_int) rfl)
    (pss_cons (ps_set (i := 4) nd rfl (Or.inl rfl) (pe_m (pe_ifExp (pt_cmpR (op_neD (hu64 hr)) (pe_dget hu (pv 0) pe_str (fun _ _ => rfl)) (pe_lst pa_nil) (nomark _)) (pe_ix ix_list (pe_dget hu (pv 0) pe_str (fun _ _ => rfl)) (pe_op op_mod (pv 3) (pe_callB call_len_seq (by rfl) B.b_len (by decide +kernel) (pa_cons (pe_dget hu (pv 0) pe_str (fun _ _ => rfl)) pa_nil))) (fun _ _ => rfl)) pe_int)))
    (pss_cons (ps_m (ps_if (PW.pt (pw_and (pt_cmp (pc_ge (pv 4) (pe_op op_pow pe_int pe_int))) (pw_and1 (pt_cmp (pc_lt (pv 3) (pe_callB call_len_seq (by rfl) B.b_len (by decide +kernel) (pa_cons (pe_dget hu (pv 0) pe_str (fun _ _ => rfl)) pa_nil)))))))
        (pss_cons (ps_dput hu (pv 0) pe_str (pe_op op_fdivW (pv 4) (pv 1)) rfl) (pss_one (ps_ret (pe_op op_mod (pv 4) (pv 1))))) pss_nil))
    (pss_cons (ps_set (i := 5) nd rfl (Or.inl rfl) (pe_op op_mod (pe_op op_add (pe_op op_add (pe_op op_mod (pv 4) pe_int) (pe_op op_mul pe_int (pe_dget hu (pv 0) pe_str (fun _ _ => rfl)))) pe_int) pe_int))
    (pss_cons (ps_set (i := 5) nd rfl (Or.inl rfl) (pe_op op_mod (pe_op op_add (pe_op op_add (pe_op op_mul (pv 5) (pv 5)) (pe_op op_mul pe_int (pe_dget hu (pv 0) pe_str (fun _ _ => rfl)))) pe_int) pe_int))
    (pss_one (ps_ret (pe_op op_mod (pe_op op_fdiv (pe_op op_mod (pe_op op_add (pe_op op_mul (pv 5) (pv 5)) (pe_op op_mul pe_int (pv 5))) pe_int) pe_int) (pv 1))))))))))), ?_⟩
  obtain ⟨n, r, k, cs, e1, e2, hn, hr0, hcs⟩ := hd
  have ncl : cl ≠ d := fun z => by
    rw [z, e1] at e2
    cases e2
  have gd : ∀ i : Int, CDivW i m := fun i => wide_div (b := 60) hm (by omega) (by decide) (by decide)
  refine ⟨_, rfl, d, _, rfl, rdget e1 v_draws, _, _, rfl, rfl, _, rfl, d, _, rfl, rdput e1 p_draws, ?_⟩
  have g1 : Go T [d] H (upd H d (.dK (rdD cl n r (k + 1)))) := Go.put Go.refl (.inl (by simp)) e1 rfl
  have f1 : upd H d (.dK (rdD cl n r (k + 1))) d = some (.dK (rdD cl n r (k + 1))) := upd_same
  have f2 : upd H d (.dK (rdD cl n r (k + 1))) cl = some (.lst (cs.map V.int)) := by
    rw [upd_ne ncl]
    exact e2
  generalize upd H d (.dK (rdD cl n r (k + 1))) = H1 at g1 f1 f2 ⊢
  have put : ∀ {H2 : Hp} {n' r' k' n2 r2 k2 : Int}, Go T [d] H H2 → H2 d = some (.dK (rdD cl n' r' k')) → H2 cl = some (.lst (cs.map V.int)) → Go T [d] H (upd H2 d (.dK (rdD cl n2 r2 k2))) ∧ upd H2 d (.dK (rdD cl n2 r2 k2)) d = some (.dK (rdD cl n2 r2 k2)) ∧ upd H2 d (.dK (rdD cl n2 r2 k2)) cl = some (.lst (cs.map V.int)) := fun {H2 n' r' k' n2 r2 k2} g a b => ⟨g.put (.inl (by simp)) a rfl, upd_same, by rw [upd_ne ncl]; exact b⟩
  have mod0 : ∀ i : Int, 0 ≤ i % m ∧ i % m < m := fun i => ⟨Int.emod_nonneg _ (by omega), Int.emod_lt_of_pos _ hm⟩
  refine ⟨_, rfl, d, _, rfl, rdget f1 v_rest, _, _, rfl, rfl, _, rfl, ?_⟩
  by_cases h0 : r > 0
  · refine iteD h0 ?_
    refine ⟨_, rfl, d, _, rfl, rdget f1 v_rest, _, rfl, _, _, rfl, rfl, hm, ?_⟩
    refine ⟨_, rfl, d, _, rfl, rdget f1 v_rest, _, rfl, _, _, rfl, rfl, gd _, _, rfl, d, _, rfl, rdput f1 p_rest, ?_⟩
    obtain ⟨g2, a2, b2⟩ := put (n2 := n) (r2 := r / m) (k2 := k + 1) g1 f1 f2
    exact ⟨_, rfl, hQ _ _ g2 ⟨_, _, _, cs, a2, b2, hn, Int.ediv_nonneg hr0 (by omega), hcs⟩ (mod0 _).1 (mod0 _).2⟩
  · refine iteDF h0 ?_
    refine ⟨_, rfl, d, _, rfl, rdget f1 v_next, ?_⟩
    refine ⟨_, rfl, _, _, rfl, rfl, _, rfl, d, _, rfl, rdput f1 p_next, ?_⟩
    obtain ⟨g2, a2, b2⟩ := put (n2 := n + 1) (r2 := r) (k2 := k + 1) g1 f1 f2
    generalize upd H1 d (.dK (rdD cl (n + 1) r (k + 1))) = H2 at g2 a2 b2 ⊢
    refine ⟨fun x H' => ∃ c : Int, x = .int c ∧ Go T [] H2 H', ⟨_, rfl, d, _, rfl, rdget a2 v_cells, (by show 0 ≤ sizeLine; decide), fun p np => ?_⟩, ?_⟩
    · have gp : Go T [] H2 (upd H2 p (.lst [])) := Go.new Go.refl np
      have a3 := gp.keep d _ (by simp) a2 fun ps z => by cases z
      have b3 := gp.keep cl _ (by simp) b2 fun ps z => by cases z
      refine ⟨.list (cs.map PyData.int), .list [], .lst (SqL.of b3) (dpAll_ints _), .lst (SqL.of upd_same) .nil, shaped_lstOf (n := 0) (fun n h => by simp [PyData.canLay0]) (fun a => by simp [PyData.depth]), shaped_lnil, ?_⟩
      rw [eqv_lst_nil, List.isEmpty_map]
      by_cases hc : cs = []
      · rw [hc]
        exact ⟨_, rfl, iteF ⟨29, rfl, gp⟩⟩
      · rw [show cs.isEmpty = false from by simpa using hc]
        have hp : 0 < cs.length := List.length_pos_iff.mpr hc
        have hml := Int.emod_lt_of_pos n (show (0 : Int) < ((cs.map V.int).length : Nat) by rw [List.length_map]; omega)
        have hm0 := Int.emod_nonneg n (show (((cs.map V.int).length : Nat) : Int) ≠ 0 by rw [List.length_map]; omega)
        refine ⟨_, rfl, iteT ?_⟩
        have hi : (n % ((cs.map V.int).length : Nat)).toNat < cs.length := by rw [List.length_map] at hml hm0 ⊢; omega
        refine ⟨_, rfl, d, _, rfl, rdget a3 v_cells, _, rfl, _, rfl, d, _, rfl, rdget a3 v_cells, cl, _, rfl, .inl (SqL.of b3), _, _, rfl, rfl, by rw [List.length_map]; omega, cl, _, _, .int cs[(n % ((cs.map V.int).length : Nat)).toNat], rfl, rfl, SqL.of b3, atI_at (j := (n % ((cs.map V.int).length : Nat)).toNat) (by rw [List.getElem?_map, List.getElem?_eq_getElem hi] <;> rfl) (by omega), _, rfl, gp⟩
    rintro _ H3 ⟨c, rfl, gp⟩
    have a3 := gp.keep d _ (by simp) a2 fun ps z => by cases z
    have b3 := gp.keep cl _ (by simp) b2 fun ps z => by cases z
    have g3 : Go T [d] H H3 := g2.trans gp.any
    refine ⟨fun σ' H' => σ' = [some (.ref d), some (.int m), none, some (.int n), some (.int c), none] ∧ H' = H3, ?_, ?_⟩
    · refine ⟨_, rfl, _, _, rfl, rfl, ⟨by decide, by decide, by decide⟩, _, _, rfl, rfl, _, rfl, ?_⟩
      by_cases hb : c ≥ 10 ^ ((18 : Int).toNat)
      · refine iteD hb ?_
        refine ⟨_, rfl, _, rfl, d, _, rfl, rdget a3 v_cells, cl, _, rfl, .inl (SqL.of b3), _, _, rfl, rfl, _, rfl, ?_⟩
        by_cases hs : n < ((cs.map V.int).length : Nat)
        · refine iteD hs ?_
          refine ⟨_, rfl, _, rfl, _, _, rfl, rfl, gd _, _, rfl, d, _, rfl, rdput a3 p_rest, ?_⟩
          obtain ⟨g4, a4, b4⟩ := put (n2 := n + 1) (r2 := c / m) (k2 := k + 1) g3 a3 b3
          have c0 : 0 ≤ c := Int.le_trans (by decide) hb
          exact ⟨_, rfl, _, rfl, _, _, rfl, rfl, hm, hQ _ _ g4 ⟨_, _, _, cs, a4, b4, by omega, Int.ediv_nonneg c0 (by omega), hcs⟩ (mod0 _).1 (mod0 _).2⟩
        · exact iteDF hs ⟨rfl, rfl⟩
      · exact iteDF hb (iteF ⟨rfl, rfl⟩)
    rintro _ _ ⟨rfl, rfl⟩
    refine ⟨_, rfl, _, _, rfl, rfl, (by show (0 : Int) < 1000000447; decide), _, rfl, d, _, rfl, rdget a3 v_draws, _, _, rfl, rfl, .inl ⟨by decide, by decide⟩, _, _, rfl, rfl, _, _, rfl, rfl, _, _, rfl, rfl, (by show (0 : Int) < 2147483489; decide), ?_⟩
    generalize hm1 : (c % 1000000447 + 140009 * (k + 1) + 71) % 2147483489 = m1
    have m1a : 0 ≤ m1 := by rw [← hm1]; exact Int.emod_nonneg _ (by decide)
    have m1b : m1 < 2147483489 := by rw [← hm1]; exact Int.emod_lt_of_pos _ (by decide)
    refine ⟨_, rfl, _, rfl, _, _, rfl, rfl, .inl ⟨by omega, by omega⟩, _, rfl, d, _, rfl, rdget a3 v_draws, _, _, rfl, rfl, .inl ⟨by decide, by decide⟩, _, _, rfl, rfl, _, _, rfl, rfl, _, _, rfl, rfl, (by show (0 : Int) < 2147483477; decide), ?_⟩
    generalize hm2 : (m1 * m1 + 4099093 * (k + 1) + 37) % 2147483477 = m2
    have m2a : 0 ≤ m2 := by rw [← hm2]; exact Int.emod_nonneg _ (by decide)
    have m2b : m2 < 2147483477 := by rw [← hm2]; exact Int.emod_lt_of_pos _ (by decide)
    refine ⟨_, rfl, _, rfl, _, _, rfl, rfl, .inl ⟨by omega, by omega⟩, _, rfl, _, _, rfl, rfl, .inl ⟨by decide, by decide⟩, _, _, rfl, rfl, _, _, rfl, rfl, (by show (0 : Int) < 2147483423; decide), _, _, rfl, rfl, ⟨by decide, by decide⟩, _, rfl, _, _, rfl, rfl, hm, ?_⟩
    exact hQ _ _ g3 ⟨_, _, _, cs, a3, b3, by omega, hr0, hcs⟩ (mod0 _).1 (mod0 _).2
end Cb
/-! ## CbL2 -/
set_option maxHeartbeats 4000000
/-! The law's fractions and crossings. -/
namespace Cb
open PySem PySem.Spec PyProof.Rows L2
open NdefX (NTab TabN TabsN NF FnO NScope NOk nok_of nscope_by startF)
open C8 (pe_c pe_mt pe_mt0 pe_mk)
variable {P : Program} {w : World} {K : PySem.W.Frag} {mg : Str → Option Value} {base : Heap} {CR CA : Addr} {T : List NTab}
theorem c_L_divisor (B : Bs K mg CR CA) : C8.Cal P w K mg base 1 "_law_divisor" spCommonDivisor [] := by
  refine B.f_L_divisor.cal sc_L_divisor (fun _ _ _ _ _ _ us hl => match us, hl with | [_, _], _ => rfl) (fun vs H Q E h => ?_) fun f cdv A outer s H vs Q E hr h => ?_
  · obtain ⟨a, b, rfl, _⟩ := h
    rfl
  obtain ⟨a, b, rfl, ha, hb, hQ⟩ := h
  refine ⟨_, pss_cons (ps_while PassesOwn.never (pt_cmp (pc_neI (pv 1) pe_int)) (pss_one (ps_par (i := 0) (j := 1) rfl sc_L_divisor.nd rfl rfl (by decide) rfl rfl (pa_cons (pv 1) (pa_cons (pe_op op_mod (pv 0) (pv 1)) pa_nil)) (by rfl))))
    (pss_one (ps_ret (pe_callB call_abs (by rfl) B.b_abs (by decide +kernel) (pa_cons (pv 0) pa_nil)))), ?_⟩
  refine while_by (fun σ H' => H' = H ∧ ∃ x y : Int, σ = [some (.int x), some (.int y)] ∧ 0 ≤ x ∧ 0 ≤ y ∧ Int.gcd x y = Int.gcd a b) (fun σ _ => match σ with | [_, some (.int y)] => y.toNat | _ => 0) ⟨rfl, a, b, rfl, ha, hb, rfl⟩ ?_ ?_
  · rintro σ H' ⟨rfl, x, y, rfl, hx, hy, hg⟩
    refine ⟨_, rfl, _, _, rfl, rfl, _, rfl, ?_⟩
    by_cases h0 : y = 0
    · subst h0
      refine iteNS (by simp) ?_
      refine ⟨_, rfl, _, rfl, ?_⟩
      have e : (if x < 0 then -x else x) = ((Int.gcd a b : Nat) : Int) := by
        rw [if_neg (by omega), ← hg, Int.gcd_zero_right]
        omega
      rw [e]
      exact hQ
    · refine iteNF h0 ?_
      refine ⟨_, rfl, _, rfl, _, rfl, _, _, rfl, rfl, by omega, _, _, rfl, ⟨rfl, y, x % y, rfl, hy, Int.emod_nonneg _ h0, by rw [gcd_step, hg]⟩, ?_⟩
      have h1 := Int.emod_lt_of_pos x (show 0 < y by omega)
      have h2 := Int.emod_nonneg x h0
      show (x % y).toNat < y.toNat
      omega
  · rintro σ H' Q1 Q2 himp ⟨v, h1, i, j, h2, h3, b, h4, h5⟩
    exact ⟨v, h1, i, j, h2, h3, b, h4, himp _ _ h5⟩
theorem c_L_crosses (B : Bs K mg CR CA) : C8.Cal P w K mg base 1 "_law_crosses" (spCrosses T K) [] := by
  refine B.f_L_crosses.cal sc_L_crosses (fun _ _ _ _ _ _ us hl => match us, hl with | [_, _], _ => rfl) (fun vs H Q E h => ?_) fun f cdv A outer s H vs Q E hr h => ?_
  · obtain ⟨a, b, s, t, rfl, _⟩ := h
    rfl
  obtain ⟨a, b, s, t, rfl, ha, hb, hz, hn, hQ⟩ := h
  refine ⟨_, pss_cons (ps_setLc (i := 2) (own := [("_law_head", 3)]) (g := gName 3) (tt := tTest (tOp (rIn K false) (tVar 3) (tVar 1))) (by rfl) sc_L_crosses.nd rfl rfl (sw_true rfl rfl rfl (by decide +kernel)) (pi_tup (pv 0)) (blkOk_by (own := [("_law_head", 3)]) (N := N_L_crosses) (sc := defScope s_L_crosses) (by decide +kernel))
      (fun _ _ _ _ _ => pg_name (i := 3) sc_L_crosses.nd rfl (Or.inl rfl)) (fun _ _ _ _ _ => pts_one (pt_cmpR op_in_seq (pv 3) (pv 1) (by rfl))) (fun _ _ _ _ _ => pv 3))
    (pss_one (ps_ret (pe_and (pe_cmpR (op_neD (hu64 hr)) (pv 2) (pe_lst pa_nil) (nomark _)) (pe_one (pe_cmp (pc_lt (pe_callB call_len_seq (by rfl) B.b_len (by decide +kernel) (pa_cons (pv 2) pa_nil))
      (pe_callB (call_min2 rfl) (by rfl) B.b_min (by decide +kernel) (pa_cons (pe_callB call_len_seq (by rfl) B.b_len (by decide +kernel) (pa_cons (pv 0) pa_nil)) (pa_cons (pe_callB call_len_seq (by rfl) B.b_len (by decide +kernel) (pa_cons (pv 1) pa_nil)) pa_nil)))) rfl))))), ?_⟩
  refine ⟨_, rfl, a, rfl, ⟨_, ha⟩, fun D hD => ?_⟩
  refine lc_gen (T := T) (m := []) (walk_tup (xs := s.map V.str)) hD (fun a ha => absurd ha (by simp)) (small (by rw [List.length_map]; omega)) (fun i acc H => acc = ((s.take i).filter fun n => decide (n ∈ t)).map V.str) (by simp) (fun i acc H H' g r => r) (fun H1 g => sqT_go g ha) (fun i v H1 H2 acc hi g e r y F Z hF hZ => ?_) fun H1 acc g e r => ?_
  · obtain ⟨rfl, hv⟩ := y
    rw [List.length_map] at hi
    rw [List.getElem?_map, List.getElem?_eq_getElem hi] at hv
    cases hv
    have et : s.take (i + 1) = s.take i ++ [s[i]] := by rw [List.take_add_one, List.getElem?_eq_getElem hi] <;> rfl
    refine ⟨rfl, _, rfl, _, rfl, b, _, rfl, .inr (sqT_go g hb), rfl, flat_strs t, _, rfl, ?_⟩
    rw [if_neg (by decide), inV_str]
    by_cases hm : s[i] ∈ t
    · rw [decide_eq_true hm]
      refine iteT ⟨_, rfl, hF _ _ Go.refl ?_⟩
      show acc ++ [V.str s[i]] = _
      rw [r, et, List.filter_append, List.map_append, List.filter_cons_of_pos (by exact decide_eq_true hm)]
      rfl
    · rw [decide_eq_false hm]
      refine iteF (hZ _ Go.refl ?_)
      rw [r, et, List.filter_append, List.map_append, List.filter_cons_of_neg (by simp [hm])]
      simp
  · rw [List.length_map, List.take_length] at r
    subst r
    have hc : ((s.filter fun n => decide (n ∈ t)).map V.str) = ((s.filter fun n => decide (n ∈ t)).map V.str) := rfl
    refine ⟨_, rfl, (by show 0 ≤ sizeLine; decide), fun p np => ?_⟩
    have g1 : Go T [] H1 (upd H1 p (.lst [])) := Go.new Go.refl np
    have eD : upd H1 p (.lst []) D = some (.lst ((s.filter fun n => decide (n ∈ t)).map V.str)) := by
      rw [upd_ne (ne_of_none e np)]
      exact e
    refine ⟨.list ((s.filter fun n => decide (n ∈ t)).map PyData.str), .list [], .lst (SqL.of eD) (dpAll_strs _), .lst (SqL.of upd_same) .nil, shaped_lstOf (n := 0) (fun n h => strOk_name (hn n (List.mem_filter.mp h).1)) (fun a => by simp [PyData.depth]), shaped_lnil, ?_⟩
    rw [eqv_lst_nil, List.isEmpty_map]
    refine ⟨_, rfl, ?_⟩
    have q := hQ _ (g.trans g1)
    by_cases he : (s.filter fun n => decide (n ∈ t)) = []
    · rw [show decide (Crs s t) = false from decide_eq_false fun z => z.1 he] at q
      rw [he]
      exact iteF q
    · have ef : (s.filter fun n => decide (n ∈ t)).isEmpty = false := by simpa using he
      rw [ef]
      refine iteT ?_
      refine ⟨_, rfl, D, _, rfl, .inl (SqL.of eD), ?_⟩
      refine ⟨_, rfl, a, _, rfl, .inr (sqT_go (g.trans g1) ha), ?_⟩
      refine ⟨_, rfl, b, _, rfl, .inr (sqT_go (g.trans g1) hb), ?_⟩
      refine ⟨_, _, rfl, _, _, rfl, rfl, ?_⟩
      have em : decide (Crs s t) = decide ((((s.filter fun n => decide (n ∈ t)).map V.str).length : Int) < (if (((t.map V.str).length : Nat) : Int) < (((s.map V.str).length : Nat) : Int) then (((t.map V.str).length : Nat) : Int) else (((s.map V.str).length : Nat) : Int))) := by
        refine decide_eq_decide.mpr ?_
        unfold Crs
        rw [List.length_map, List.length_map, List.length_map]
        constructor
        · rintro ⟨_, h⟩
          split <;> omega
        · intro h
          refine ⟨he, ?_⟩
          split at h <;> omega
      rw [em] at q
      exact q
theorem low_gcd {o u : Int} (h : 0 < u) : Int.gcd (Cb.low o u).1 (Cb.low o u).2 = 1 := by
  have gp : 0 < Int.gcd o u := Int.gcd_pos_of_ne_zero_right _ (by omega)
  unfold Cb.low
  exact Int.gcd_ediv_gcd_ediv_gcd gp
theorem low_ok {o u : Int} (h0 : 0 ≤ o) (h1 : 0 < u) (h2 : o < 10 ^ 15) (h3 : u < 10 ^ 15) : FrOk (Cb.low o u) := by
  have gp : 0 < Int.gcd o u := Int.gcd_pos_of_ne_zero_right _ (by omega)
  have gd : (Int.gcd o u : Int) ∣ u := Int.gcd_dvd_right ..
  refine ⟨Int.ediv_pos_of_pos_of_dvd h1 (by omega) gd, low_gcd h1, Int.ediv_nonneg h0 (by omega), Int.lt_of_le_of_lt (Int.ediv_le_self _ h0) h2, Int.lt_of_le_of_lt (Int.ediv_le_self _ (by omega)) h3⟩
def spLLowest (T : List NTab) (K : PySem.W.Frag) : Sp := fun vs H Q _ => ∃ o u : Int, vs = [.int o, .int u] ∧ 0 ≤ o ∧ 0 < u ∧ u < 2 ^ 60 ∧ ∀ H' v, Go T [] H H' → Dp K H' v (eF (Cb.low o u)) → Q v H'
theorem c_L_lowest (B : Bs K mg CR CA) : C8.Cal P w K mg base 2 "_law_lowest" (spLLowest T K) [] := by
  refine B.f_L_lowest.cal sc_L_lowest (fun _ _ _ _ _ _ us hl => match us, hl with | [_, _], _ => rfl) (fun vs H Q E h => ?_) fun f cdv A outer s H vs Q E hr h => ?_
  · obtain ⟨o, u, rfl, _⟩ := h
    rfl
  obtain ⟨o, u, rfl, ho, hu, hb, hQ⟩ := h
  refine ⟨_, pss_cons (ps_set (i := 2) sc_L_lowest.nd rfl (Or.inl rfl) (pe_c (c_L_divisor B) hr (by decide) (by rfl) (pa_cons (pv 0) (pa_cons (pv 1) pa_nil))))
    (pss_cons (ps_if (pt_cmp (pc_lt (pv 1) pe_int)) pss_never pss_nil)
    (pss_one (ps_ret (pe_tup (pa_cons (pe_op op_fdivW (pv 0) (pv 2)) (pa_cons (pe_op op_fdivW (pv 1) (pv 2)) pa_nil)))))), ?_⟩
  have gp : 0 < Int.gcd o u := Int.gcd_pos_of_ne_zero_right _ (by omega)
  have gl : (Int.gcd o u : Int) ≤ u := Int.gcd_le_right _ hu
  have gd : ∀ i : Int, CDivW i (Int.gcd o u : Int) := fun i => wide_div (b := 60) (by omega) (by omega) (by decide) (by decide)
  refine ⟨_, rfl, _, rfl, o, u, rfl, ho, by omega, ?_⟩
  refine ⟨_, rfl, _, _, rfl, rfl, _, rfl, iteDF (by omega) ?_⟩
  refine ⟨_, rfl, _, rfl, _, _, rfl, rfl, gd _, _, rfl, _, rfl, _, _, rfl, rfl, gd _, (by show 2 ≤ sizeLine; decide), fun p np => ?_⟩
  exact hQ _ _ (Go.new Go.refl np) (mk_eF (q := Cb.low o u) (.inl (.inl upd_same)))
def spLFloor (K : PySem.W.Frag) : Sp := fun vs H Q _ => ∃ (v : V) (q : Fr), vs = [v] ∧ Dp K H v (eF q) ∧ FrOk q ∧ Q (.int (q.1 / q.2)) H
theorem c_L_floor (B : Bs K mg CR CA) : C8.Cal P w K mg base 1 "_law_floor" (spLFloor K) [] := by
  refine B.f_L_floor.cal sc_L_floor (fun _ _ _ _ _ _ us hl => match us, hl with | [_], _ => rfl) (fun vs H Q E h => ?_) fun f cdv A outer s H vs Q E hr h => ?_
  · obtain ⟨v, q, rfl, _⟩ := h
    rfl
  obtain ⟨v, q, rfl, hv, ok, hQ⟩ := h
  obtain ⟨a, rfl, ha⟩ := dp_eF hv
  have p := ok.pos
  have b := ok.b2
  refine ⟨_, pss_one (ps_ret (pe_op op_fdivW (pe_ix ix_tup (pv 0) pe_int (fun _ _ => rfl)) (pe_ix ix_tup (pv 0) pe_int (fun _ _ => rfl)))), ?_⟩
  exact ⟨_, rfl, a, _, _, _, rfl, rfl, ha, atI_at (j := 0) rfl, _, rfl, a, _, _, _, rfl, rfl, ha, atI_at (j := 1) rfl, _, _, rfl, rfl, wide_div (b := 50) p (by omega) (by decide) (by decide), hQ⟩
def spLSomeRatio (T : List NTab) (K : PySem.W.Frag) : Sp := fun vs H Q _ => ∃ (d cl : Addr) (m : Int), vs = [.ref d, .int m] ∧ LRd H d cl ∧ 0 ≤ m ∧ m ≤ 900000 ∧ ∀ H' v q, Go T [d] H H' → LRd H' d cl → FrOk q → q.1 ≤ 10 ^ 10 → Dp K H' v (eF q) → Q v H'
theorem c_L_some_ratio (B : Bs K mg CR CA) : C8.Cal P w K mg base 3 "_law_some_ratio" (spLSomeRatio T K) [] := by
  refine B.f_L_some_ratio.cal sc_L_some_ratio (fun _ _ _ _ _ _ us hl => match us, hl with | [_, _], _ => rfl) (fun vs H Q E h => ?_) fun f cdv A outer s H vs Q E hr h => ?_
  · obtain ⟨d, cl, m, rfl, _⟩ := h
    rfl
  obtain ⟨d, cl, m, rfl, hd, h0, h1, hQ⟩ := h
  refine ⟨_, pss_cons (ps_set (i := 2) sc_L_some_ratio.nd rfl (Or.inl rfl) (pe_ix ix_list (pe_lst (pa_cons pe_int (pa_cons pe_int (pa_cons pe_int (pa_cons pe_int (pa_cons pe_int (pa_cons pe_int (pa_cons pe_int (pa_cons pe_int pa_nil))))))))) (pe_c (c_L_draw (T := T) B) hr (by decide) (by rfl) (pa_cons (pv 0) (pa_cons pe_int pa_nil))) (fun _ _ => rfl)))
    (pss_one (ps_ret (pe_c (c_L_lowest (T := T) B) hr (by decide) (by rfl) (pa_cons (pe_c (c_L_draw (T := T) B) hr (by decide) (by rfl) (pa_cons (pv 0) (pa_cons (pe_op op_add (pe_op op_mul (pv 1) (pv 2)) pe_int) pa_nil))) (pa_cons (pv 2) pa_nil))))), ?_⟩
  refine ⟨(by show 8 ≤ sizeLine; decide), fun p np => ?_⟩
  have g0 : Go T [] H (upd H p (.lst [.int 1, .int 1, .int 2, .int 3, .int 4, .int 7, .int 10, .int 10000])) := Go.new Go.refl np
  have hd0 := hd.go g0 (by simp) (by simp)
  obtain ⟨np1, np2⟩ := hd.out np
  refine ⟨_, rfl, d, cl, 8, rfl, hd0, by decide, by decide, fun H1 r g1 hd1 r0 r8 => ?_⟩
  have e1 : H1 p = some (.lst [.int 1, .int 1, .int 2, .int 3, .int 4, .int 7, .int 10, .int 10000]) := g1.keep p _ (by simpa using np1) upd_same fun ps z => by cases z
  obtain ⟨u, eu, u0, u1⟩ : ∃ u : Int, atI [V.int 1, .int 1, .int 2, .int 3, .int 4, .int 7, .int 10, .int 10000] r = some (.int u) ∧ 0 < u ∧ u ≤ 10000 := by
    have hc : r = 0 ∨ r = 1 ∨ r = 2 ∨ r = 3 ∨ r = 4 ∨ r = 5 ∨ r = 6 ∨ r = 7 := by omega
    rcases hc with rfl | rfl | rfl | rfl | rfl | rfl | rfl | rfl
    · exact ⟨1, atI_at (j := 0) rfl, by decide, by decide⟩
    · exact ⟨1, atI_at (j := 1) rfl, by decide, by decide⟩
    · exact ⟨2, atI_at (j := 2) rfl, by decide, by decide⟩
    · exact ⟨3, atI_at (j := 3) rfl, by decide, by decide⟩
    · exact ⟨4, atI_at (j := 4) rfl, by decide, by decide⟩
    · exact ⟨7, atI_at (j := 5) rfl, by decide, by decide⟩
    · exact ⟨10, atI_at (j := 6) rfl, by decide, by decide⟩
    · exact ⟨10000, atI_at (j := 7) rfl, by decide, by decide⟩
  have hmu : m * u ≤ 900000 * 10000 := Int.mul_le_mul h1 u1 (by omega) (by decide)
  have hmu0 : 0 ≤ m * u := Int.mul_nonneg h0 (by omega)
  refine ⟨p, _, r, _, rfl, rfl, SqL.of e1, eu, ?_⟩
  refine ⟨_, rfl, _, rfl, _, rfl, _, _, rfl, rfl, .inl ⟨by omega, by omega⟩, _, _, rfl, rfl, d, cl, _, rfl, hd1, by omega, by omega, fun H2 o g2 hd2 o0 o1 => ?_⟩
  refine ⟨_, rfl, o, u, rfl, o0, u0, by omega, fun H3 v g3 dv => ?_⟩
  exact hQ H3 v _ ((g0.any.trans g1).trans (g2.trans g3.any)) (hd2.go g3 (by simp) (by simp)) (low_ok o0 u0 (by omega) (by omega)) (Int.le_trans (Int.ediv_le_self _ o0) (by omega)) dv
end Cb
/-! ## CbL3 -/
set_option maxHeartbeats 4000000
/-! The law's random names and states. -/
namespace Cb
open PySem PySem.Spec PyProof.Rows L2
open NdefX (NTab TabN TabsN NF FnO NScope NOk nok_of nscope_by startF)
open C8 (pe_c pe_mt pe_mt0 pe_mk)
open PySem.W (dataLe dataLt alike alikeAll AllAlike Sortable)
variable {P : Program} {w : World} {K : PySem.W.Frag} {mg : Str → Option Value} {base : Heap} {CR CA : Addr} {T : List NTab}
theorem erase_map {α β : Type} (f : α → β) (l : List α) (i : Nat) : (l.map f).eraseIdx i = (l.eraseIdx i).map f := by
  rw [List.eraseIdx_eq_take_drop_succ, List.eraseIdx_eq_take_drop_succ, List.map_append, List.map_take, List.map_drop]
/-- what sorted asks of texts -/
theorem sorted_strs {H : Hp} {a : Addr} {ns : List Str} {Q : VK} (ha : SqL K H a (ns.map V.str) ∨ SqT K H a (ns.map V.str)) (h : ∀ p, H p = none → Q (.ref p) (upd H p (.lst ((sortS ns).map V.str)))) : rSortedD K [.ref a] H Q := by
  have em : (ns.map fun n => (V.str n, PyData.str n)).map (·.1) = ns.map V.str := by rw [List.map_map]; rfl
  have em2 : (ns.map fun n => (V.str n, PyData.str n)).map (·.2) = ns.map PyData.str := by rw [List.map_map]; rfl
  refine ⟨a, ns.map fun n => (V.str n, PyData.str n), rfl, by rw [em]; exact ha, fun b hb => ?_, ?_, ?_, fun b hb => ?_, fun p np => ?_⟩
  · obtain ⟨n, _, rfl⟩ := List.mem_map.mp hb
    exact .str n
  · rw [em2]
    exact AllAlike.of fun b b' => by simp [alike]
  · rw [em2]
    exact Sortable.others fun b => ⟨fun z => (by cases z), fun xs z => (by cases z)⟩
  · obtain ⟨n, _, rfl⟩ := List.mem_map.mp hb
    simp [PyData.depth]
  · rw [sort_pairs V.str PyData.str ns]
    exact h p np
def spLHeads (T : List NTab) (K : PySem.W.Frag) : Sp := fun vs H Q _ => ∃ (d cl : Addr) (m : Int), vs = [.ref d, .int m] ∧ LRd H d cl ∧ 1 ≤ m ∧ m ≤ 6 ∧ ∀ (H' : Hp) (p : Addr) (ns : List Str), Go T [d] H H' → LRd H' d cl → H p = none → H' p = some (.lst (ns.map V.str)) → ((ns.length : Nat) : Int) = m → ns.Pairwise ltS → (∀ n ∈ ns, n ∈ pool9) → Q (.ref p) H'
theorem c_L_heads (B : Bs K mg CR CA) : C8.Cal P w K mg base 2 "_law_heads" (spLHeads T K) [] := by
  refine B.f_L_heads.cal sc_L_heads (fun _ _ _ _ _ _ us hl => match us, hl with | [_, _], _ => rfl) (fun vs H Q E h => ?_) fun f cdv A outer s H vs Q E hr h => ?_
  · obtain ⟨d, cl, m, rfl, _⟩ := h
    rfl
  obtain ⟨d, cl, m, rfl, hd, h1, h6, hQ⟩ := h
  have nd := sc_L_heads.nd
  refine ⟨_, pss_cons (ps_par (i := 2) (j := 3) rfl nd rfl rfl (by decide) rfl rfl (pa_cons (pe_lst (pa_cons pe_str (pa_cons pe_str (pa_cons pe_str (pa_cons pe_str (pa_cons pe_str (pa_cons pe_str (pa_cons pe_str (pa_cons pe_str (pa_cons pe_str pa_nil)))))))))) (pa_cons (pe_lst pa_nil) pa_nil)) (by rfl))
    (pss_cons (ps_for PassesOwn.never rfl (pi_range1 (by rfl) B.b_range (pa_cons (pv 1) pa_nil)) (pg_name (i := 4) nd rfl (Or.inl rfl))
      (pss_one (ps_expr (pe_bm PySem.F.plainAttrs_list PySem.F.slot_list_append PySem.F.type_list_append mt_append (pv 3) (pa_cons (pe_bm PySem.F.plainAttrs_list PySem.F.slot_list_pop PySem.F.type_list_pop mt_popAt (pv 2) (pa_cons (pe_c (c_L_draw (T := T) B) hr (by decide) (by rfl) (pa_cons (pv 0) (pa_cons (pe_callB call_len_seq (by rfl) B.b_len (by decide +kernel) (pa_cons (pv 2) pa_nil)) pa_nil))) pa_nil)) pa_nil)))))
    (pss_one (ps_ret (pe_callB (cr_sortedD (hu64 hr)) (by rfl) B.b_sorted (by decide +kernel) (pa_cons (pv 3) pa_nil))))), ?_⟩
  refine ⟨(by show 9 ≤ sizeLine; decide), fun D1 n1 => ⟨(by show 0 ≤ sizeLine; decide), fun D2 n2 => ⟨_, _, rfl, ?_⟩⟩⟩
  have g1 : Go T [] H (upd H D1 (.lst (pool9.map V.str))) := Go.new Go.refl n1
  have g2 : Go T [] H (upd (upd H D1 (.lst (pool9.map V.str))) D2 (.lst [])) := g1.new n2
  have z2 : H D2 = none := g1.there _ n2
  have d12 : D2 ≠ D1 := fun z => by rw [z, upd_same] at n2; cases n2
  have b1 : upd (upd H D1 (.lst (pool9.map V.str))) D2 (.lst []) D1 = some (.lst (pool9.map V.str)) := by rw [upd_ne (Ne.symm d12), upd_same]
  obtain ⟨o1, o2⟩ := hd.out n1
  obtain ⟨o3, o4⟩ := hd.out z2
  refine ⟨_, rfl, m, rfl, by omega, by omega, ?_⟩
  refine for_range (n := m.toNat) (fun i σ H' => Go T [d] H H' ∧ LRd H' d cl ∧ (∃ fs ps : List Str, H' D1 = some (.lst (ps.map V.str)) ∧ H' D2 = some (.lst (fs.map V.str)) ∧ fs.length = i ∧ (fs ++ ps).Perm pool9) ∧ ∃ y, σ = [some (.ref d), some (.int m), some (.ref D1), some (.ref D2), y])
    ⟨g2.any, hd.go g2 (by simp) (by simp), ⟨[], pool9, b1, upd_same, rfl, List.Perm.refl _⟩, _, rfl⟩ (fun i σ H1 hi h => ?_) fun σ H1 h => ?_
  · obtain ⟨g3, hd3, ⟨fs, ps, e1, e2, el, ep⟩, y, rfl⟩ := h
    have ll := ep.length_eq
    have l9 : pool9.length = 9 := rfl
    rw [List.length_append] at ll
    have pl : 0 < ps.length := by omega
    refine ⟨_, rfl, .inl ⟨rfl, _, SqL.of e2⟩, _, rfl, .inl ⟨rfl, _, SqL.of e1⟩, _, rfl, _, rfl, D1, _, rfl, .inl (SqL.of e1), ?_⟩
    rw [List.length_map]
    refine ⟨d, cl, _, rfl, hd3, by omega, by omega, fun H2 r g4 hd4 r0 r1 => ?_⟩
    have hk : r.toNat < ps.length := by omega
    have f1 : H2 D1 = some (.lst (ps.map V.str)) := g4.keep D1 _ (by simpa using o1) e1 fun ps z => by cases z
    have f2 : H2 D2 = some (.lst (fs.map V.str)) := g4.keep D2 _ (by simpa using o3) e2 fun ps z => by cases z
    refine ⟨D1, _, r, r.toNat, .str ps[r.toNat], rfl, rfl, f1, by omega, by omega, seqIndex_of r0 (by rw [List.length_map]; exact r1), by rw [List.getElem?_map, List.getElem?_eq_getElem hk] <;> rfl, ?_⟩
    have f2' : upd H2 D1 (.lst ((ps.map V.str).eraseIdx r.toNat)) D2 = some (.lst (fs.map V.str)) := by
      rw [upd_ne d12]
      exact f2
    refine ⟨D2, _, _, rfl, rfl, f2', Nat.lt_of_lt_of_le (show (fs.map V.str).length < 100 by rw [List.length_map]; omega) (by decide), ?_⟩
    refine ⟨((g3.trans g4).put (.inr n1) f1 rfl).put (.inr z2) f2' rfl, (hd4.put o1 o2).put o3 o4, ⟨fs ++ [ps[r.toNat]], ps.eraseIdx r.toNat, ?_, ?_, by simp; omega, pop_perm hk ep⟩, _, rfl⟩
    · rw [upd_ne (Ne.symm d12), upd_same, erase_map]
    · rw [upd_same, List.map_append]
      rfl
  · obtain ⟨g3, hd3, ⟨fs, ps, e1, e2, el, ep⟩, y, rfl⟩ := h
    have nds : (fs ++ ps).Nodup := ep.nodup_iff.mpr pool9_nd
    have ndf := (List.nodup_append.mp nds).1
    refine ⟨_, rfl, sorted_strs (.inl (SqL.of e2)) fun p np => ?_⟩
    obtain ⟨q1, q2⟩ := hd3.out np
    refine hQ _ p (sortS fs) (g3.new np) (hd3.put q1 q2) (g3.there _ np) upd_same (by rw [sortS_len]; omega) (sortS_asc ndf) fun n hn => ?_
    exact ep.mem_iff.mp (List.mem_append_left _ ((sortS_perm fs).mem_iff.mp hn))
end Cb
/-! ## CbL4 -/
set_option maxHeartbeats 4000000
/-! The law's random lines and days. -/
namespace Cb
open PySem PySem.Spec PyProof.Rows L2
open NdefX (NTab TabN TabsN NF FnO NScope NOk nok_of nscope_by startF)
open C8 (pe_c pe_mt pe_mt0 pe_mk)
open PySem.W (dataLe dataLt alike alikeAll AllAlike Sortable)
variable {P : Program} {w : World} {K : PySem.W.Frag} {mg : Str → Option Value} {base : Heap} {CR CA : Addr} {T : List NTab}
theorem div_small {q : Fr} (h : FrOk q) : 0 ≤ q.1 / q.2 ∧ q.1 / q.2 ≤ q.1 := ⟨Int.ediv_nonneg h.low (by have := h.pos; omega), Int.ediv_le_self _ h.low⟩
/-- a display, then a draw of a place in it -/
theorem pick_d {H : Hp} {d cl p : Addr} {xs : List V} {m : Int} (hd : LRd H d cl) (np : H p = none) (hl : ((xs.length : Nat) : Int) = m) : LRd (upd H p (.lst xs)) d cl ∧
    ∀ (H' : Hp) (r : Int), Go T [d] (upd H p (.lst xs)) H' → LRd H' d cl → 0 ≤ r → r < m → ∃ j : Nat, r = (j : Nat) ∧ j < xs.length ∧ Go T [d] H H' ∧ SqL K H' p xs := by
  have g0 : Go T [] H (upd H p (.lst xs)) := Go.new Go.refl np
  obtain ⟨o1, o2⟩ := hd.out np
  refine ⟨hd.go g0 (by simp) (by simp), fun H' r g hd' r0 r1 => ⟨r.toNat, by omega, by omega, g0.any.trans g, SqL.of ?_⟩⟩
  exact g.keep p _ (by simpa using o1) upd_same fun ps z => by cases z
def spLRandomState (T : List NTab) (K : PySem.W.Frag) : Sp := fun vs H Q _ => ∃ (d cl : Addr), vs = [.ref d, .int 6] ∧ LRd H d cl ∧ ∀ (H' : Hp) (v : V) (ls : List Ln), Go T [d] H H' → LRd H' d cl → LinesOk ls → Dp K H' v (.tuple (ls.map eL)) → Q v H'
theorem c_L_random_state (B : Bs K mg CR CA) : C8.Cal P w K mg base 4 "_law_random_state" (spLRandomState T K) [] := by
  refine B.f_L_random_state.cal sc_L_random_state (fun _ _ _ _ _ _ us hl => match us, hl with | [_, _], _ => rfl) (fun vs H Q E h => ?_) fun f cdv A outer s H vs Q E hr h => ?_
  · obtain ⟨d, cl, rfl, _⟩ := h
    rfl
  obtain ⟨d, cl, rfl, hd, hQ⟩ := h
  have nd := sc_L_random_state.nd
  refine ⟨_, pss_cons (ps_set (i := 2) nd rfl (Or.inl rfl) (pe_lst pa_nil))
    (pss_cons (ps_for PassesOwn.never rfl (pi_list (pe_c (c_L_heads (T := T) B) hr (by decide) (by rfl) (pa_cons (pv 0) (pa_cons (pe_op op_add pe_int (pe_c (c_L_draw (T := T) B) hr (by decide) (by rfl) (pa_cons (pv 0) (pa_cons (pv 1) pa_nil)))) pa_nil)))) (pg_name (i := 3) nd rfl (Or.inl rfl))
      (pss_cons (ps_set (i := 4) nd rfl (Or.inl rfl) (pe_c (c_L_some_ratio (T := T) B) hr (by decide) (by rfl) (pa_cons (pv 0) (pa_cons (pe_ix ix_list (pe_lst (pa_cons pe_int (pa_cons pe_int pa_nil))) (pe_c (c_L_draw (T := T) B) hr (by decide) (by rfl) (pa_cons (pv 0) (pa_cons pe_int pa_nil))) (fun _ _ => rfl)) pa_nil))))
      (pss_cons (ps_set (i := 5) nd rfl (Or.inl rfl) (pe_op op_add (pe_c (c_L_floor B) hr (by decide) (by rfl) (pa_cons (pv 4) pa_nil)) (pe_ix ix_list (pe_lst (pa_cons pe_int (pa_cons pe_int (pa_cons (pe_un un_neg pe_int) (pa_cons pe_int (pa_cons (pe_un un_neg pe_int) (pa_cons pe_int pa_nil))))))) (pe_c (c_L_draw (T := T) B) hr (by decide) (by rfl) (pa_cons (pv 0) (pa_cons pe_int pa_nil))) (fun _ _ => rfl))))
      (pss_one (ps_expr (pe_bm PySem.F.plainAttrs_list PySem.F.slot_list_append PySem.F.type_list_append mt_append (pv 2) (pa_cons (pe_tup (pa_cons (pv 3) (pa_cons (pv 4) (pa_cons (pv 5) (pa_cons (pe_cmp (pc_gt (pe_c (c_L_draw (T := T) B) hr (by decide) (by rfl) (pa_cons (pv 0) (pa_cons pe_int pa_nil))) pe_int) rfl) pa_nil))))) pa_nil)))))))
    (pss_one (ps_ret (pe_callTy call_tuple_of (by rfl) B.b_tuple (by decide +kernel) (pa_cons (pv 2) pa_nil))))), ?_⟩
  refine ⟨(by show 0 ≤ sizeLine; decide), fun D nD => ?_⟩
  have g0 : Go T [] H (upd H D (.lst [])) := Go.new Go.refl nD
  obtain ⟨o1, o2⟩ := hd.out nD
  have hd0 := hd.go g0 (by simp) (by simp)
  refine ⟨_, rfl, _, rfl, _, rfl, d, cl, 6, rfl, hd0, by decide, by decide, fun H1 r g1 hd1 r0 r6 => ⟨_, _, rfl, rfl, ?_⟩⟩
  refine ⟨d, cl, 1 + r, rfl, hd1, by omega, by omega, fun H2 p ns g2 hd2 np ep nl asc npool => ?_⟩
  have g02 : Go T [d] H H2 := (g0.any.trans g1).trans g2
  have eD : H2 D = some (.lst []) := (g1.trans g2).keep D _ (by simpa using o1) upd_same fun ps z => by cases z
  obtain ⟨q1, q2⟩ : p ≠ d ∧ p ≠ cl := hd1.out np
  have fL : ∀ ls : List Ln, fzAll (ls.map eL) = true := fun ls => fz_map _ fz_eL _
  have pD : p ≠ D := fun z => by
    have e1 : H1 D = some (.lst []) := g1.keep D _ (by simpa using o1) upd_same fun ps z => by cases z
    rw [z, e1] at np
    cases np
  refine ⟨p, rfl, ⟨_, SqL.of ep⟩, ?_⟩
  refine for_it (walk_list (xs := ns.map V.str)) (fun i σ H' => Go T [d] H H' ∧ LRd H' d cl ∧ H' p = some (.lst (ns.map V.str)) ∧ (∃ acc ls, H' D = some (.lst acc) ∧ DpAll K H' acc (ls.map eL) ∧ ls.length = i ∧ ls.map (fun l : Ln => l.1) = ns.take i ∧ ∀ l ∈ ls, FrOk l.2.1 ∧ l.2.2.1.natAbs < 10 ^ 15) ∧ ∃ y z u, σ = [some (.ref d), some (.int 6), some (.ref D), y, z, u])
    ⟨g02, hd2, ep, ⟨[], [], eD, .nil, rfl, by simp, by simp⟩, _, _, _, rfl⟩ (fun i σ H' hi h => SqL.of h.2.2.1) (fun i v σ H3 H4 hi h y => ?_) fun σ H3 h => ?_
  · obtain ⟨rfl, hv⟩ := y
    obtain ⟨g3, hd3, ep3, ⟨acc, ls, eD3, dls, ll, lm, lok⟩, y, z, u, rfl⟩ := h
    rw [List.length_map] at hi
    rw [List.getElem?_map, List.getElem?_eq_getElem hi] at hv
    cases hv
    refine ⟨_, rfl, (by show 2 ≤ sizeLine; decide), fun p1 np1 => ?_⟩
    obtain ⟨hk5, pk5⟩ := pick_d (T := T) (K := K) (xs := [V.int 3, .int 900000]) (m := 2) hd3 np1 rfl
    refine ⟨_, rfl, d, cl, 2, rfl, hk5, by decide, by decide, fun H5 r g5' hd5 r0 r1 => ?_⟩
    obtain ⟨j, rfl, hj, g5, hp5⟩ := pk5 H5 r g5' hd5 r0 r1
    obtain ⟨mm, em, m0, m1⟩ : ∃ mm : Int, atI [V.int 3, .int 900000] (j : Nat) = some (.int mm) ∧ 0 ≤ mm ∧ mm ≤ 900000 := by
      have hj : j < 2 := hj
      have hc : j = 0 ∨ j = 1 := by omega
      rcases hc with rfl | rfl
      · exact ⟨3, atI_at (j := 0) rfl, by decide, by decide⟩
      · exact ⟨900000, atI_at (j := 1) rfl, by decide, by decide⟩
    refine ⟨p1, _, _, _, rfl, rfl, hp5, em, ?_⟩
    refine ⟨d, cl, mm, rfl, hd5, m0, m1, fun H6 vq q g6 hd6 fq sq dq => ?_⟩
    have k6 := g5.trans g6
    refine ⟨_, rfl, vq, q, rfl, dq, fq, 1, rfl, 900000, rfl, (by show 6 ≤ sizeLine; decide), fun p2 np2 => ?_⟩
    obtain ⟨hk7, pk7⟩ := pick_d (T := T) (K := K) (xs := [V.int 0, .int 1, .int (-1), .int 5, .int (-900000), .int 0]) (m := 6) hd6 np2 rfl
    refine ⟨_, rfl, d, cl, 6, rfl, hk7, by decide, by decide, fun H7 r g7' hd7 r0 r1 => ?_⟩
    obtain ⟨j2, rfl, hj2, g7, hp7⟩ := pk7 H7 r g7' hd7 r0 r1
    obtain ⟨bb, eb, b0, b1⟩ : ∃ bb : Int, atI [V.int 0, .int 1, .int (-1), .int 5, .int (-900000), .int 0] (j2 : Nat) = some (.int bb) ∧ -900000 ≤ bb ∧ bb ≤ 5 := by
      have hj : j2 < 6 := hj2
      have hc : j2 = 0 ∨ j2 = 1 ∨ j2 = 2 ∨ j2 = 3 ∨ j2 = 4 ∨ j2 = 5 := by omega
      rcases hc with rfl | rfl | rfl | rfl | rfl | rfl
      · exact ⟨0, atI_at (j := 0) rfl, by decide, by decide⟩
      · exact ⟨1, atI_at (j := 1) rfl, by decide, by decide⟩
      · exact ⟨-1, atI_at (j := 2) rfl, by decide, by decide⟩
      · exact ⟨5, atI_at (j := 3) rfl, by decide, by decide⟩
      · exact ⟨-900000, atI_at (j := 4) rfl, by decide, by decide⟩
      · exact ⟨0, atI_at (j := 5) rfl, by decide, by decide⟩
    refine ⟨p2, _, _, _, rfl, rfl, hp7, eb, _, _, rfl, rfl, ?_⟩
    have k7 := k6.trans g7
    have eD7 : H7 D = some (.lst acc) := k7.keep D _ (by simpa using o1) eD3 fun ps z => by cases z
    refine ⟨_, rfl, .inl ⟨rfl, _, SqL.of eD7⟩, _, rfl, _, rfl, _, rfl, _, rfl, d, cl, 4, rfl, hd7, by decide, by decide, fun H8 r8 g8 hd8 _ _ => ⟨_, _, rfl, rfl, (by show 4 ≤ sizeLine; decide), fun p3 np3 => ?_⟩⟩
    have k8 := k7.trans g8
    have eD8 : H8 D = some (.lst acc) := k8.keep D _ (by simpa using o1) eD3 fun ps z => by cases z
    have ep8 : H8 p = _ := k8.keep p _ (by simpa using q1) ep3 fun ps z => by cases z
    have k9 : Go T [] H8 (upd H8 p3 (.tup [.str ns[i], vq, .int (q.1 / q.2 + bb), .bl (decide (r8 > 0))])) := Go.new Go.refl np3
    have eD9 := k9.keep D _ (by simp) eD8 fun ps z => by cases z
    have ep9 := k9.keep p _ (by simp) ep8 fun ps z => by cases z
    have la := DpAll.map_len dls
    have dl : Dp K (upd H8 p3 (.tup [.str ns[i], vq, .int (q.1 / q.2 + bb), .bl (decide (r8 > 0))])) (.ref p3) (eL (ns[i], q, q.1 / q.2 + bb, decide (r8 > 0))) := mk_eL (l := (ns[i], q, q.1 / q.2 + bb, decide (r8 > 0))) (.inl (.inl upd_same)) (Dp.go ((g7.trans g8).trans k9.any) _ _ (fz_eF _) dq)
    have p10 : Go T [D] (upd H8 p3 (.tup [.str ns[i], vq, .int (q.1 / q.2 + bb), .bl (decide (r8 > 0))])) (upd (upd H8 p3 (.tup [.str ns[i], vq, .int (q.1 / q.2 + bb), .bl (decide (r8 > 0))])) D (.lst (acc ++ [.ref p3]))) := Go.put Go.refl (.inl (by simp)) eD9 rfl
    refine ⟨D, acc, .ref p3, rfl, rfl, eD9, Nat.lt_of_lt_of_le (show acc.length < 100 by omega) (by decide), ?_⟩
    obtain ⟨sm0, sm1⟩ := div_small fq
    refine ⟨((g3.trans k8).trans k9.any).put (.inr nD) eD9 rfl, (hd8.go k9 (by simp) (by simp)).put o1 o2, by rw [upd_ne pD]; exact ep9, ⟨acc ++ [.ref p3], ls ++ [(ns[i], q, q.1 / q.2 + bb, decide (r8 > 0))], upd_same, ?_, by simp; omega, ?_, fun l hl => ?_⟩, _, _, _, rfl⟩
    · rw [List.map_append]
      exact DpAll.snoc (DpAll.go p10 _ _ (fL _) (DpAll.go (k8.trans k9.any) _ _ (fL _) dls)) (Dp.go p10 _ _ (fz_eL _) dl)
    · rw [List.map_append, lm, List.take_add_one, List.getElem?_eq_getElem hi]
      rfl
    · rcases List.mem_append.mp hl with hl | hl
      · exact lok l hl
      · have hl := List.mem_singleton.mp hl
        subst hl
        exact ⟨fq, by show (q.1 / q.2 + bb).natAbs < 10 ^ 15; omega⟩
  · obtain ⟨g3, hd3, ep3, ⟨acc, ls, eD3, dls, ll, lm, lok⟩, y, z, u, rfl⟩ := h
    rw [List.length_map] at ll lm
    rw [List.take_length] at lm
    refine ⟨_, rfl, D, _, rfl, .inl ⟨SqL.of eD3, fun t nt => ?_⟩⟩
    have k : Go T [] H3 (upd H3 t (.tup acc)) := Go.new Go.refl nt
    refine hQ _ _ ls (g3.trans k.any) (hd3.go k (by simp) (by simp)) ⟨fun z => ?_, by omega, fun l hl => ?_, ?_, fun l hl => (lok l hl).1, fun l hl => (lok l hl).2⟩ (.tup (.inl (.inl upd_same)) (DpAll.go k _ _ (fL _) dls))
    · rw [z] at ll
      simp at ll
      omega
    · refine pool9_ok _ (npool _ ?_)
      rw [← lm]
      exact List.mem_map.mpr ⟨l, hl, rfl⟩
    · rw [lm]
      exact asc
end Cb
/-! ## CbL5 -/
set_option maxHeartbeats 4000000
/-! The law's random days. -/
namespace Cb
open PySem PySem.Spec PyProof.Rows L2
open NdefX (NTab TabN TabsN NF FnO NScope NOk nok_of nscope_by startF)
open C8 (pe_c pe_mt pe_mt0 pe_mk)
variable {P : Program} {w : World} {K : PySem.W.Frag} {mg : Str → Option Value} {base : Heap} {CR CA : Addr} {T : List NTab}
theorem fr0_ok : FrOk (0, 1) := ⟨by decide, by decide, by decide, by decide, by decide⟩
def spLRandomDays (T : List NTab) (K : PySem.W.Frag) : Sp := fun vs H Q _ => ∃ (d cl b : Addr) (m : Int) (xs : List V) (ls : List Ln), vs = [.ref d, .ref b, .int m] ∧ LRd H d cl ∧ SqT K H b xs ∧ DpAll K H xs (ls.map eL) ∧ ls.length ≤ 6 ∧ 0 ≤ m ∧ m ≤ 10 ∧
  ∀ (H' : Hp) (v : V) (ds : List (List Fr)), Go T [d] H H' → LRd H' d cl → ((ds.length : Nat) : Int) = m → (∀ dd ∈ ds, DayOk ls dd) → Dp K H' v (.tuple (ds.map eD)) → Q v H'
theorem c_L_random_days (B : Bs K mg CR CA) : C8.Cal P w K mg base 4 "_law_random_days" (spLRandomDays T K) [] := by
  refine B.f_L_random_days.cal sc_L_random_days (fun _ _ _ _ _ _ us hl => match us, hl with | [_, _, _], _ => rfl) (fun vs H Q E h => ?_) fun f cdv A outer s H vs Q E hr h => ?_
  · obtain ⟨d, cl, b, m, xs, ls, rfl, _⟩ := h
    rfl
  obtain ⟨d, cl, b, m, xs, ls, rfl, hd, hb, dx, hl, m0, m1, hQ⟩ := h
  have nd := sc_L_random_days.nd
  refine ⟨_, pss_cons (ps_set (i := 3) nd rfl (Or.inl rfl) (pe_lst pa_nil))
    (pss_cons (ps_for PassesOwn.never rfl (pi_range1 (by rfl) B.b_range (pa_cons (pv 2) pa_nil)) (pg_name (i := 4) nd rfl (Or.inl rfl))
      (pss_cons (ps_set (i := 5) nd rfl (Or.inl rfl) (pe_lst pa_nil))
      (pss_cons (ps_for PassesOwn.never rfl (pi_tup (pv 1)) (pg_name (i := 6) nd rfl (Or.inl rfl))
        (pss_cons (ps_set (i := 7) nd rfl (Or.inl rfl) (pe_c (c_L_some_ratio (T := T) B) hr (by decide) (by rfl) (pa_cons (pv 0) (pa_cons (pe_ix ix_list (pe_lst (pa_cons pe_int (pa_cons pe_int pa_nil))) (pe_c (c_L_draw (T := T) B) hr (by decide) (by rfl) (pa_cons (pv 0) (pa_cons pe_int pa_nil))) (fun _ _ => rfl)) pa_nil))))
        (pss_one (ps_expr (pe_bm PySem.F.plainAttrs_list PySem.F.slot_list_append PySem.F.type_list_append mt_append (pv 5) (pa_cons (pe_m (pe_ifExp (PW.pt (pw_and (pt_val (pe_ix ix_tup (pv 6) pe_int (fun _ _ => rfl))) (pw_and1 (pt_cmp (pc_gt (pe_c (c_L_draw (T := T) B) hr (by decide) (by rfl) (pa_cons (pv 0) (pa_cons pe_int pa_nil))) pe_int))))) (pv 7) (pe_tup (pa_cons pe_int (pa_cons pe_int pa_nil))))) pa_nil))))))
      (pss_one (ps_expr (pe_bm PySem.F.plainAttrs_list PySem.F.slot_list_append PySem.F.type_list_append mt_append (pv 3) (pa_cons (pe_callTy call_tuple_of (by rfl) B.b_tuple (by decide +kernel) (pa_cons (pv 5) pa_nil)) pa_nil)))))))
    (pss_one (ps_ret (pe_callTy call_tuple_of (by rfl) B.b_tuple (by decide +kernel) (pa_cons (pv 3) pa_nil))))), ?_⟩
  refine ⟨(by show 0 ≤ sizeLine; decide), fun D nD => ?_⟩
  have g0 : Go T [] H (upd H D (.lst [])) := Go.new Go.refl nD
  obtain ⟨o1, o2⟩ := hd.out nD
  have hd0 := hd.go g0 (by simp) (by simp)
  have lx := DpAll.map_len dx
  have fD : ∀ ds : List (List Fr), fzAll (ds.map eD) = true := fun ds => fz_map _ fz_eD _
  have fF : ∀ cs : List Fr, fzAll (cs.map eF) = true := fun cs => fz_map _ fz_eF _
  refine ⟨_, rfl, m, rfl, by omega, by omega, ?_⟩
  refine for_range (n := m.toNat) (fun i σ H' => Go T [d] H H' ∧ LRd H' d cl ∧ (∃ acc ds, H' D = some (.lst acc) ∧ DpAll K H' acc (ds.map eD) ∧ ds.length = i ∧ ∀ dd ∈ ds, DayOk ls dd) ∧ ∃ y4 y5 y6 y7, σ = [some (.ref d), some (.ref b), some (.int m), some (.ref D), y4, y5, y6, y7])
    ⟨g0.any, hd0, ⟨[], [], upd_same, .nil, rfl, by simp⟩, _, _, _, _, rfl⟩ (fun i σ H1 hi h => ?_) fun σ H1 h => ?_
  · obtain ⟨g1, hd1, ⟨acc, ds, eD1, dds, dl, dok⟩, y4, y5, y6, y7, rfl⟩ := h
    refine ⟨(by show 0 ≤ sizeLine; decide), fun D2 nD2 => ?_⟩
    have k0 : Go T [] H1 (upd H1 D2 (.lst [])) := Go.new Go.refl nD2
    obtain ⟨u1, u2⟩ := hd1.out nD2
    have DD2 : D ≠ D2 := fun z => by rw [z, nD2] at eD1; cases eD1
    refine ⟨_, rfl, b, rfl, ⟨_, sqT_go (g1.trans k0.any) hb⟩, ?_⟩
    refine for_it (walk_tup (xs := xs)) (fun j σ H' => Go T [d] H1 H' ∧ LRd H' d cl ∧ (∃ ac cs, H' D2 = some (.lst ac) ∧ DpAll K H' ac (cs.map eF) ∧ cs.length = j ∧ (∀ q ∈ cs, FrOk q) ∧ ∀ (k : Nat) l q, ls[k]? = some l → cs[k]? = some q → l.2.2.2 = false → q.1 = 0) ∧ ∃ y4 y6 y7, σ = [some (.ref d), some (.ref b), some (.int m), some (.ref D), y4, some (.ref D2), y6, y7])
      ⟨k0.any, hd1.go k0 (by simp) (by simp), ⟨[], [], upd_same, .nil, rfl, by simp, by simp⟩, _, _, _, rfl⟩ (fun j σ H' hj h => sqT_go (g1.trans h.1) hb) (fun j v σ H3 H4 hj h y => ?_) fun σ H3 h => ?_
    · obtain ⟨rfl, hv⟩ := y
      obtain ⟨k3, hd3, ⟨ac, cs, eD3, dcs, cl3, cok, cz⟩, z4, z6, z7, rfl⟩ := h
      have g3 := g1.trans k3
      obtain ⟨l, el, dl⟩ := DpAll.map_at (DpAll.go g3 _ _ (fz_map _ fz_eL _) dx) hv
      obtain ⟨q0, wf, rfl, hq0, _⟩ := dp_eL dl
      refine ⟨_, rfl, (by show 2 ≤ sizeLine; decide), fun p1 np1 => ?_⟩
      obtain ⟨hk5, pk5⟩ := pick_d (T := T) (K := K) (xs := [V.int 2, .int 1000]) (m := 2) hd3 np1 rfl
      refine ⟨_, rfl, d, cl, 2, rfl, hk5, by decide, by decide, fun H5 r g5' hd5 r0 r1 => ?_⟩
      obtain ⟨j5, rfl, hj5, g5, hp5⟩ := pk5 H5 r g5' hd5 r0 r1
      obtain ⟨mm, em, mm0, mm1⟩ : ∃ mm : Int, atI [V.int 2, .int 1000] (j5 : Nat) = some (.int mm) ∧ 0 ≤ mm ∧ mm ≤ 900000 := by
        have hj : j5 < 2 := hj5
        have hc : j5 = 0 ∨ j5 = 1 := by omega
        rcases hc with rfl | rfl
        · exact ⟨2, atI_at (j := 0) rfl, by decide, by decide⟩
        · exact ⟨1000, atI_at (j := 1) rfl, by decide, by decide⟩
      refine ⟨p1, _, _, _, rfl, rfl, hp5, em, ?_⟩
      refine ⟨d, cl, mm, rfl, hd5, mm0, mm1, fun H6 vq q g6 hd6 fq sq dq => ?_⟩
      have k6 := g5.trans g6
      have eD6 : H6 D2 = some (.lst ac) := k6.keep D2 _ (by simpa using u1) eD3 fun ps z => by cases z
      refine ⟨_, rfl, .inl ⟨rfl, _, SqL.of eD6⟩, ?_⟩
      refine ⟨fun x H' => ∃ q, FrOk q ∧ (l.2.2.2 = false → q.1 = 0) ∧ Dp K H' x (eF q) ∧ Go T [d] H6 H' ∧ LRd H' d cl, ?_, ?_⟩
      · have hq6 := sqT_go k6 hq0
        refine ⟨_, rfl, q0, _, _, _, rfl, rfl, hq6, atI_at (j := 3) rfl, ?_⟩
        refine ⟨_, rfl, ?_⟩
        have els : ∀ {H7 : Hp}, Go T [d] H6 H7 → LRd H7 d cl → (tTup (tCons (tC (.int 0)) (tCons (tC (.int 1)) tNil))) [some (.ref d), some (.ref b), some (.int m), some (.ref D), z4, some (.ref D2), some (.ref q0), some vq] H7 (fun x H' => ∃ q, FrOk q ∧ (l.2.2.2 = false → q.1 = 0) ∧ Dp K H' x (eF q) ∧ Go T [d] H6 H' ∧ LRd H' d cl) := fun {H7} g7 hd7 => by
          refine ⟨(by show 2 ≤ sizeLine; decide), fun p np => ⟨(0, 1), fr0_ok, fun _ => rfl, mk_eF (.inl (.inl upd_same)), g7.new np, hd7.go (Go.new (T := T) (m := []) Go.refl np) (by simp) (by simp)⟩⟩
        cases hg : l.2.2.2 with
        | false =>
          refine iteF ?_
          have z := els (H7 := H6) Go.refl hd6
          rw [hg] at z
          exact z
        | true =>
          refine iteT ?_
          refine ⟨_, rfl, d, cl, 5, rfl, hd6, by decide, by decide, fun H7 r7 g7 hd7 _ _ => ⟨_, _, rfl, rfl, _, rfl, ?_⟩⟩
          by_cases h7 : r7 > 0
          · exact iteD h7 ⟨_, rfl, q, fq, (fun z => by cases z), Dp.go g7 _ _ (fz_eF _) dq, g7, hd7⟩
          · refine iteDF h7 ?_
            have z := els g7 hd7
            rw [hg] at z
            exact z
      rintro x H7 ⟨q2, fq2, z2, dq2, g7, hd7⟩
      have k7 := k6.trans g7
      have eD7 : H7 D2 = some (.lst ac) := g7.keep D2 _ (by simpa using u1) eD6 fun ps z => by cases z
      have la := DpAll.map_len dcs
      have p8 : Go T [D2] H7 (upd H7 D2 (.lst (ac ++ [x]))) := Go.put Go.refl (.inl (by simp)) eD7 rfl
      refine ⟨D2, ac, x, rfl, rfl, eD7, Nat.lt_of_lt_of_le (show ac.length < 100 by omega) (by decide), ?_⟩
      refine ⟨(k3.trans k7).put (.inr nD2) eD7 rfl, hd7.put u1 u2, ⟨ac ++ [x], cs ++ [q2], upd_same, ?_, by simp; omega, fun q hq => ?_, fun k l' q' h1 h2 h3 => ?_⟩, _, _, _, rfl⟩
      · rw [List.map_append]
        exact DpAll.snoc (DpAll.go p8 _ _ (fF _) (DpAll.go k7 _ _ (fF _) dcs)) (Dp.go p8 _ _ (fz_eF _) dq2)
      · rcases List.mem_append.mp hq with hq | hq
        · exact cok q hq
        · rw [List.mem_singleton.mp hq]
          exact fq2
      · by_cases hk : k < cs.length
        · rw [List.getElem?_append_left hk] at h2
          exact cz k l' q' h1 h2 h3
        · rw [List.getElem?_append_right (by omega)] at h2
          have hk0 : k - cs.length = 0 := by
            have := (List.getElem?_eq_some_iff.mp h2).1
            simp at this
            omega
          rw [hk0] at h2
          cases h2
          have ek : k = j := by omega
          subst ek
          rw [el] at h1
          cases h1
          exact z2 h3
    · obtain ⟨k3, hd3, ⟨ac, cs, eD3, dcs, cl3, cok, cz⟩, z4, z6, z7, rfl⟩ := h
      have eDb : H3 D = some (.lst acc) := k3.keep D _ (by simpa using o1) eD1 fun ps z => by cases z
      refine ⟨_, rfl, .inl ⟨rfl, _, SqL.of eDb⟩, _, rfl, D2, _, rfl, .inl ⟨SqL.of eD3, fun t nt => ?_⟩⟩
      have k4 : Go T [] H3 (upd H3 t (.tup ac)) := Go.new Go.refl nt
      have eDc := k4.keep D _ (by simp) eDb fun ps z => by cases z
      have la := DpAll.map_len dds
      have dt : Dp K (upd H3 t (.tup ac)) (.ref t) (eD cs) := .tup (.inl (.inl upd_same)) (DpAll.go k4 _ _ (fF _) dcs)
      have p8 : Go T [D] (upd H3 t (.tup ac)) (upd (upd H3 t (.tup ac)) D (.lst (acc ++ [.ref t]))) := Go.put Go.refl (.inl (by simp)) eDc rfl
      have hi2 : i < m.toNat := hi
      refine ⟨D, acc, .ref t, rfl, rfl, eDc, Nat.lt_of_lt_of_le (show acc.length < 100 by omega) (by decide), ?_⟩
      refine ⟨((g1.trans k3).trans k4.any).put (.inr nD) eDc rfl, (hd3.go k4 (by simp) (by simp)).put o1 o2, ⟨acc ++ [.ref t], ds ++ [cs], upd_same, ?_, by simp; omega, fun dd hdd => ?_⟩, _, _, _, _, rfl⟩
      · rw [List.map_append]
        exact DpAll.snoc (DpAll.go p8 _ _ (fD _) (DpAll.go k4 _ _ (fD _) (DpAll.go k3 _ _ (fD _) dds))) (Dp.go p8 _ _ (fz_eD _) dt)
      · rcases List.mem_append.mp hdd with hdd | hdd
        · exact dok dd hdd
        · rw [List.mem_singleton.mp hdd]
          exact ⟨by omega, cok, cz⟩
  · obtain ⟨g1, hd1, ⟨acc, ds, eD1, dds, dl, dok⟩, y4, y5, y6, y7, rfl⟩ := h
    refine ⟨_, rfl, D, _, rfl, .inl ⟨SqL.of eD1, fun t nt => ?_⟩⟩
    have k : Go T [] H1 (upd H1 t (.tup acc)) := Go.new Go.refl nt
    exact hQ _ _ ds (g1.trans k.any) (hd1.go k (by simp) (by simp)) (by omega) dok (.tup (.inl (.inl upd_same)) (DpAll.go k _ _ (fD _) dds))
end Cb
/-! ## CbL6 -/
set_option maxHeartbeats 4000000
/-! The law's random sections. -/
namespace Cb
open PySem PySem.Spec PyProof.Rows L2
open NdefX (NTab TabN TabsN NF FnO NScope NOk nok_of nscope_by startF)
open C8 (pe_c pe_mt pe_mt0 pe_mk)
open PySem.W (dataLe dataLt alike alikeAll AllAlike Sortable)
variable {P : Program} {w : World} {K : PySem.W.Frag} {mg : Str → Option Value} {base : Heap} {CR CA : Addr} {T : List NTab}
theorem zip_dp {H : Hp} : ∀ {acc : List V} {l : List PyData}, DpAll K H acc l → ∀ b ∈ acc.zip l, Dp K H b.1 b.2
  | _, _, .nil, b, h => by cases h
  | _, _, .cons h t, b, hb => by
    rcases List.mem_cons.mp hb with rfl | hb
    · exact h
    · exact zip_dp t b hb
theorem dp_zip {H : Hp} : ∀ {zs : List (V × PyData)}, (∀ b ∈ zs, Dp K H b.1 b.2) → DpAll K H (zs.map (·.1)) (zs.map (·.2))
  | [], _ => .nil
  | z :: zs, h => .cons (h z (by simp)) (dp_zip fun b hb => h b (by simp [hb]))
/-- sorted values read as the sorted data -/
theorem sort_dp {α : Type} {f : α → PyData} {H : Hp} {acc : List V} {l : List α} (h : DpAll K H acc (l.map f)) : DpAll K H (((acc.zip (l.map f)).mergeSort (dataLe false (·.2))).map (·.1)) ((l.mergeSort (dataLe false f)).map f) := by
  have hl := DpAll.map_len h
  have q := dp_zip (K := K) (H := H) (zs := (acc.zip (l.map f)).mergeSort (dataLe false (·.2))) fun b hb => zip_dp h b (List.mem_mergeSort.mp hb)
  have e : ((acc.zip (l.map f)).mergeSort (dataLe false (·.2))).map (·.2) = (l.mergeSort (dataLe false f)).map f := by
    rw [PySem.W.sort_maps (r := dataLe false (·.2)) (s := dataLe false id) (fun b : V × PyData => b.2) (fun a _ b _ => rfl), List.map_snd_zip (by rw [List.length_map]; omega)]
    rw [← PySem.W.sort_maps (r := dataLe false f) (s := dataLe false id) f (fun a _ b _ => rfl)]
  rw [e] at q
  exact q
def spLRandomSections (T : List NTab) (K : PySem.W.Frag) : Sp := fun vs H Q _ => ∃ (d cl p : Addr) (hs : List Str), vs = [.ref d, .ref p, .int 3] ∧ LRd H d cl ∧ SqL K H p (hs.map V.str) ∧ p ≠ d ∧ hs.length ≤ 6 ∧ hs.Pairwise ltS ∧ (∀ n ∈ hs, NameOk n) ∧
  ∀ (H' : Hp) (v : V) (ss : List (List Str)), Go T [d] H H' → LRd H' d cl → SecsOk hs ss → Dp K H' v (.tuple (ss.map eS)) → Q v H'
theorem c_L_random_sections (B : Bs K mg CR CA) : C8.Cal P w K mg base 2 "_law_random_sections" (spLRandomSections T K) [] := by
  refine B.f_L_random_sections.cal sc_L_random_sections (fun _ _ _ _ _ _ us hl => match us, hl with | [_, _, _], _ => rfl) (fun vs H Q E h => ?_) fun f cdv A outer s H vs Q E hr h => ?_
  · obtain ⟨d, cl, p, hs, rfl, _⟩ := h
    rfl
  obtain ⟨d, cl, p, hs, rfl, hd, hp, pd, h6, asc, nok, hQ⟩ := h
  have nd := sc_L_random_sections.nd
  refine ⟨_, pss_cons (ps_set (i := 3) nd rfl (Or.inl rfl) (pe_lst pa_nil))
    (pss_cons (ps_for PassesOwn.never rfl (pi_range1 (by rfl) B.b_range (pa_cons (pe_c (c_L_draw (T := T) B) hr (by decide) (by rfl) (pa_cons (pv 0) (pa_cons (pe_op op_add (pv 2) pe_int) pa_nil))) pa_nil)) (pg_name (i := 4) nd rfl (Or.inl rfl))
      (pss_cons (ps_set (i := 5) nd rfl (Or.inl rfl) (pv 1))
      (pss_cons (ps_m (ps_if (PW.pt (pw_and (pt_cmpR (op_neD (hu64 hr)) (pv 3) (pe_lst pa_nil) (nomark _)) (pw_and1 (pt_cmp (pc_eqI (pe_c (c_L_draw (T := T) B) hr (by decide) (by rfl) (pa_cons (pv 0) (pa_cons pe_int pa_nil))) pe_int)))))
          (pss_one (ps_set (i := 5) nd rfl (Or.inl rfl) (pe_callTy call_list_of (by rfl) B.b_list (by decide +kernel) (pa_cons (pe_ix ix_list (pv 3) (pe_c (c_L_draw (T := T) B) hr (by decide) (by rfl) (pa_cons (pv 0) (pa_cons (pe_callB call_len_seq (by rfl) B.b_len (by decide +kernel) (pa_cons (pv 3) pa_nil)) pa_nil))) (fun _ _ => rfl)) pa_nil)))) pss_nil))
      (pss_cons (ps_set (i := 6) nd rfl (Or.inr rfl) (pe_callTy call_tuple_of (by rfl) B.b_tuple (by decide +kernel) (pa_cons (pe_lc (own := [("_law_head", 9)]) (g := gName 9) (tt := tB (tGt (tCall (spLDraw T) [] C8.E0 (tCons (tVar 0) (tCons (tC (.int 3)) tNil))) (tC (.int 0)))) (te := tVar 9) (by rfl) nd (pi_list (pv 5)) (blkOk_by (own := [("_law_head", 9)]) (N := N_L_random_sections) (sc := defScope s_L_random_sections) (by decide +kernel))
          (fun _ _ _ _ _ => pg_name (i := 9) nd rfl (Or.inl rfl)) (fun _ _ _ _ _ => pts_one (pt_cmp (pc_gt (pe_c (c_L_draw (T := T) B) hr (by decide) (by rfl) (pa_cons (pv 0) (pa_cons pe_int pa_nil))) pe_int))) (fun _ _ _ _ _ => pv 9)) pa_nil)))
      (pss_cons (ps_setLc (i := 7) (own := [("_law_one", 8)]) (g := gName 8) (tt := tOr (tTest (tOp (rEqD K) (tVar 8) (tVar 6))) (tB (tCall (spCrosses T K) [] C8.E0 (tCons (tVar 8) (tCons (tVar 6) tNil))))) (te := tVar 8) (by rfl) nd rfl rfl (sw_true rfl rfl rfl (by decide +kernel)) (pi_list (pv 3)) (blkOk_by (own := [("_law_one", 8)]) (N := N_L_random_sections) (sc := defScope s_L_random_sections) (by decide +kernel))
          (fun _ _ _ _ _ => pg_name (i := 8) nd rfl (Or.inl rfl)) (fun _ _ _ _ _ => pts_one (PW.pt (pw_or (pt_cmpR (op_eqD (hu64 hr)) (pv 8) (pv 6) (nomark _)) (pw_or1 (pt_val (pe_c (c_L_crosses (T := T) B) hr (by decide) (by rfl) (pa_cons (pv 8) (pa_cons (pv 6) pa_nil)))))))) (fun _ _ _ _ _ => pv 8))
      (pss_one (ps_if (PW.pt (pw_and (pt_cmp (pc_gt (pe_callB call_len_seq (by rfl) B.b_len (by decide +kernel) (pa_cons (pv 6) pa_nil)) pe_int)) (pw_and (pt_cmp (pc_lt (pe_callB call_len_seq (by rfl) B.b_len (by decide +kernel) (pa_cons (pv 3) pa_nil)) (pv 2))) (pw_and1 (pt_cmpR (op_eqD (hu64 hr)) (pv 7) (pe_lst pa_nil) (nomark _))))))
          (pss_one (ps_expr (pe_bm PySem.F.plainAttrs_list PySem.F.slot_list_append PySem.F.type_list_append mt_append (pv 3) (pa_cons (pv 6) pa_nil)))) pss_nil)))))))
    (pss_one (ps_ret (pe_callTy call_tuple_of (by rfl) B.b_tuple (by decide +kernel) (pa_cons (pe_callB (cr_sortedD (hu64 hr)) (by rfl) B.b_sorted (by decide +kernel) (pa_cons (pv 3) pa_nil)) pa_nil))))), ?_⟩
  refine ⟨(by show 0 ≤ sizeLine; decide), fun D nD => ?_⟩
  have g0 : Go T [] H (upd H D (.lst [])) := Go.new Go.refl nD
  obtain ⟨o1, o2⟩ := hd.out nD
  have hd0 := hd.go g0 (by simp) (by simp)
  have fS : ∀ ss : List (List Str), fzAll (ss.map eS) = true := fun ss => fz_map _ fz_eS _
  refine ⟨_, rfl, _, rfl, _, _, rfl, rfl, d, cl, 7, rfl, hd0, by decide, by decide, fun H1 r1 g1 hd1 r10 r11 => ⟨r1, rfl, by omega, by omega, ?_⟩⟩
  have g01 := g0.any.trans g1
  have eD1 : H1 D = some (.lst []) := g1.keep D _ (by simpa using o1) upd_same fun ps z => by cases z
  refine for_range (n := r1.toNat) (fun i σ H' => Go T [d] H H' ∧ LRd H' d cl ∧ (∃ acc fs, H' D = some (.lst acc) ∧ DpAll K H' acc (fs.map eS) ∧ FsOk hs fs) ∧ ∃ y4 y5 y6 y7, σ = [some (.ref d), some (.ref p), some (.int 3), some (.ref D), y4, y5, y6, y7, none, none])
    ⟨g01, hd1, ⟨[], [], eD1, .nil, ⟨by simp, by simp, .nil⟩⟩, _, _, _, _, rfl⟩ (fun i σ H2 hi h => ?_) fun σ H2 h => ?_
  · obtain ⟨g2, hd2, ⟨acc, fs, eD2, dfs, fok⟩, y4, y5, y6, y7, rfl⟩ := h
    have la := DpAll.map_len dfs
    have fm := fok.most
    have fnm : ∀ s ∈ fs, ∀ n ∈ s, NameOk n := fun s hs' n hn => nok n ((fok.each s hs').2.subset hn)
    refine ⟨_, rfl, ?_⟩
    -- the base
    refine ⟨fun σ' H' => Go T [d] H2 H' ∧ LRd H' d cl ∧ ∃ (pb : Addr) (bs : List Str), SqL K H' pb (bs.map V.str) ∧ pb ≠ d ∧ bs.Sublist hs ∧ σ' = [some (.ref d), some (.ref p), some (.int 3), some (.ref D), some (.int (0 + (i : Nat))), some (.ref pb), y6, y7, none, none], ?_, ?_⟩
    · refine ⟨_, rfl, (by show 0 ≤ sizeLine; decide), fun q nq => ?_⟩
      have k1 : Go T [] H2 (upd H2 q (.lst [])) := Go.new Go.refl nq
      have e1 := k1.keep D _ (by simp) eD2 fun ps z => by cases z
      have hd3 := hd2.go k1 (by simp) (by simp)
      have base0 : ∀ {Hx : Hp}, Go T [d] H2 Hx → LRd Hx d cl → Go T [d] H2 Hx ∧ LRd Hx d cl ∧ ∃ (pb : Addr) (bs : List Str), SqL K Hx pb (bs.map V.str) ∧ pb ≠ d ∧ bs.Sublist hs ∧ [some (.ref d), some (.ref p), some (.int 3), some (.ref D), some (V.int (0 + (i : Nat))), some (.ref p), y6, y7, none, none] = [some (.ref d), some (.ref p), some (.int 3), some (.ref D), some (.int (0 + (i : Nat))), some (.ref pb), y6, y7, none, none] := fun {Hx} g hx => ⟨g, hx, p, hs, sqL_go (g2.trans g) (by simpa using pd) hp, pd, List.Sublist.refl _, rfl⟩
      refine ⟨.list (fs.map eS), .list [], .lst (SqL.of e1) (DpAll.go k1 _ _ (fS _) dfs), .lst (SqL.of upd_same) .nil, shaped_lstOf (n := 1) (fun e he => canLay_eS (fnm e he)) depth_eS, shaped_lnil, _, rfl, ?_⟩
      rw [eqv_lst_nil, List.isEmpty_map]
      by_cases hf : fs = []
      · rw [hf]
        exact iteF (iteF (base0 k1.any hd3))
      · rw [show fs.isEmpty = false from by simpa using hf]
        refine iteT ?_
        refine ⟨_, rfl, d, cl, 2, rfl, hd3, by decide, by decide, fun H4 r4 g4 hd4 _ _ => ⟨_, _, rfl, rfl, _, rfl, ?_⟩⟩
        have k4 := k1.any.trans g4
        by_cases h4 : r4 = 0
        · refine iteD h4 ?_
          have e4 := g4.keep D _ (by simpa using o1) e1 fun ps z => by cases z
          have fp : 0 < fs.length := List.length_pos_iff.mpr hf
          refine ⟨_, rfl, _, rfl, _, rfl, D, _, rfl, .inl (SqL.of e4), d, cl, _, rfl, hd4, by omega, by omega, fun H5 r5 g5 hd5 r50 r51 => ?_⟩
          have e5 := g5.keep D _ (by simpa using o1) e4 fun ps z => by cases z
          have k5 := k4.trans g5
          have h5 : r5.toNat < fs.length := by omega
          obtain ⟨v, ev, dv⟩ := DpAll.map_at' (DpAll.go k5 _ _ (fS _) dfs) (List.getElem?_eq_getElem h5)
          obtain ⟨b, rfl, hb⟩ := dp_eS dv
          refine ⟨D, _, r5, _, rfl, rfl, SqL.of e5, atI_at (j := r5.toNat) ev (by omega), b, _, rfl, .inr hb, fun l nl => ?_⟩
          have k6 : Go T [] H5 (upd H5 l (.lst (fs[r5.toNat].map V.str))) := Go.new Go.refl nl
          obtain ⟨q1, q2⟩ := hd5.out nl
          exact ⟨k5.trans k6.any, hd5.go k6 (by simp) (by simp), l, fs[r5.toNat], SqL.of upd_same, q1, (fok.each _ (List.getElem_mem h5)).2, rfl⟩
        · exact iteDF h4 (base0 k4 hd4)
    rintro _ H3 ⟨g3, hd3, pb, bs, hpb, pbd, bsub, rfl⟩
    have eD3 : H3 D = some (.lst acc) := g3.keep D _ (by simpa using o1) eD2 fun ps z => by cases z
    have bl := bsub.length_le
    -- the piece
    refine ⟨_, rfl, pb, rfl, ⟨_, hpb⟩, fun D2 nD2 => ?_⟩
    obtain ⟨u1, u2⟩ := hd3.out nD2
    refine lc_gen (T := T) (m := [d]) (walk_list (xs := bs.map V.str)) nD2 (fun a ha => by
      have ha : a = d := by simpa using ha
      obtain ⟨_, _, _, _, e1, _⟩ := hd3
      rw [ha, e1]
      simp) (small (by rw [List.length_map]; omega)) (fun i acc H => LRd H d cl ∧ ∃ ps : List Str, acc = ps.map V.str ∧ ps.Sublist (bs.take i)) ⟨hd3, [], rfl, by simp⟩ (fun i acc H H' g r => ⟨r.1.go g (by simpa using Ne.symm u1) (by simpa using Ne.symm u2), r.2⟩) (fun H1 g => sqL_go g (by simpa using pbd) hpb) (fun i v H1 H4 acc hi g e r y F Z hF hZ => ?_) fun H4 acc2 g4 e4 r4 => ?_
    · obtain ⟨rfl, hv⟩ := y
      obtain ⟨hdx, ps, rfl, hps⟩ := r
      rw [List.length_map] at hi
      rw [List.getElem?_map, List.getElem?_eq_getElem hi] at hv
      cases hv
      have et : bs.take (i + 1) = bs.take i ++ [bs[i]] := by rw [List.take_add_one, List.getElem?_eq_getElem hi] <;> rfl
      refine ⟨rfl, _, rfl, d, cl, 3, rfl, hdx, by decide, by decide, fun H5 r5 g5 hd5 _ _ => ⟨_, _, rfl, rfl, _, rfl, ?_⟩⟩
      by_cases h5 : r5 > 0
      · refine iteD h5 ⟨_, rfl, hF _ _ g5 ⟨hd5, ps ++ [bs[i]], by rw [List.map_append]; rfl, ?_⟩⟩
        rw [et]
        exact List.Sublist.append hps (List.Sublist.refl _)
      · refine iteDF h5 (hZ _ g5 ⟨hd5, ps, rfl, ?_⟩)
        rw [et]
        exact hps.trans (List.sublist_append_left _ _)
    obtain ⟨hd4, ps, rfl, hps⟩ := r4
    rw [List.length_map, List.take_length] at hps
    have psub := hps.trans bsub
    have pl := psub.length_le
    refine ⟨D2, _, rfl, .inl ⟨SqL.of e4, fun t nt => ?_⟩⟩
    have k4 : Go T [] H4 (upd H4 t (.tup (ps.map V.str))) := Go.new Go.refl nt
    have ht : SqT K (upd H4 t (.tup (ps.map V.str))) t (ps.map V.str) := .inl (.inl upd_same)
    have g34 := (g3.trans g4).trans k4.any
    have hd5 := hd4.go k4 (by simp) (by simp)
    generalize upd H4 t (.tup (ps.map V.str)) = H5 at k4 ht g34 hd5 ⊢
    have eD5 : H5 D = some (.lst acc) := g34.keep D _ (by simpa using o1) eD2 fun ps z => by cases z
    have d5 := DpAll.go g34 _ _ (fS _) dfs
    have pnm : ∀ n ∈ ps, NameOk n := fun n hn => nok n (psub.subset hn)
    have pnd : ps.Nodup := asc_nodup (asc.sublist psub)
    -- the taken ones
    refine ⟨_, rfl, D, rfl, ⟨_, SqL.of eD5⟩, fun D3 nD3 => ?_⟩
    refine lc_gen (T := T) (m := []) (walk_list (xs := acc)) nD3 (fun a ha => absurd ha (by simp)) (small (by omega)) (fun i ac H => DpAll K H ac (((fs.take i).filter fun e => decide (e = ps) || decide (Crs e ps)).map eS)) (by simpa using DpAll.nil) (fun i ac H H' g r => DpAll.go g _ _ (fS _) r) (fun H1 g => sqL_go g (by simp) (SqL.of eD5)) (fun i v H6 H7 ac hi g e r y F Z hF hZ => ?_) fun H6 ac g6 e6 r6 => ?_
    · obtain ⟨rfl, hv⟩ := y
      obtain ⟨ex, eex, dex⟩ := DpAll.map_at (DpAll.go g _ _ (fS _) d5) hv
      obtain ⟨b, rfl, hb⟩ := dp_eS dex
      have exm := List.mem_of_getElem? eex
      have et : fs.take (i + 1) = fs.take i ++ [ex] := by rw [List.take_add_one, eex] <;> rfl
      have exl := (fok.each ex exm).2.length_le
      refine ⟨rfl, _, rfl, _, rfl, eS ex, eS ps, dex, mk_eS (sqT_go g ht), shaped_of (n := 1) (canLay_eS (fnm ex exm)) (depth_eS _), shaped_of (n := 1) (canLay_eS pnm) (depth_eS _), _, rfl, ?_⟩
      rw [eqv_eS]
      by_cases h1 : ex = ps
      · refine iteD h1 (iteT ⟨_, rfl, hF _ _ Go.refl ?_⟩)
        rw [et, List.filter_append, List.map_append, List.filter_cons_of_pos (by simp [h1])]
        exact DpAll.app r (.cons dex .nil)
      · refine iteDF h1 ?_
        refine ⟨_, rfl, _, rfl, b, t, ex, ps, rfl, hb, sqT_go g ht, by omega, fnm ex exm, fun H8 g8 => ⟨_, rfl, ?_⟩⟩
        by_cases h2 : Crs ex ps
        · refine iteD h2 ⟨_, rfl, hF _ _ g8 ?_⟩
          rw [et, List.filter_append, List.map_append, List.filter_cons_of_pos (by simp [h2])]
          exact DpAll.app (DpAll.go g8 _ _ (fS _) r) (.cons (Dp.go g8 _ _ (fz_eS _) dex) .nil)
        · refine iteDF h2 (hZ _ g8 ?_)
          rw [et, List.filter_append, List.map_append, List.filter_cons_of_neg (by simp [h1, h2])]
          simpa using DpAll.go g8 _ _ (fS _) r
    rw [la, List.take_length] at r6
    have ht6 := sqT_go g6 ht
    have g36 := g34.trans g6.any
    have hd6 := hd5.go g6 (by simp) (by simp)
    have eD6 : H6 D = some (.lst acc) := g6.keep D _ (by simp) eD5 fun ps z => by cases z
    have d6 := DpAll.go g6 _ _ (fS _) d5
    have stay : ∀ {Hx : Hp}, Go T [] H6 Hx → Go T [d] H Hx ∧ LRd Hx d cl ∧ (∃ acc fs, Hx D = some (.lst acc) ∧ DpAll K Hx acc (fs.map eS) ∧ FsOk hs fs) := fun {Hx} g => ⟨(g2.trans g36).trans g.any, hd6.go g (by simp) (by simp), acc, fs, g.keep D _ (by simp) eD6 fun ps z => (by cases z), DpAll.go g _ _ (fS _) d6, fok⟩
    refine ⟨_, rfl, t, _, rfl, .inr ht6, _, _, rfl, rfl, _, rfl, ?_⟩
    rw [List.length_map]
    by_cases hl2 : ((ps.length : Nat) : Int) > 1
    · refine iteD hl2 ?_
      refine ⟨_, rfl, D, _, rfl, .inl (SqL.of eD6), _, rfl, _, _, rfl, rfl, _, rfl, ?_⟩
      by_cases hl3 : ((acc.length : Nat) : Int) < 3
      · refine iteD hl3 ?_
        refine ⟨_, rfl, (by show 0 ≤ sizeLine; decide), fun q nq => ?_⟩
        have k7 : Go T [] H6 (upd H6 q (.lst [])) := Go.new Go.refl nq
        have e7 := k7.keep D3 _ (by simp) e6 fun ps z => by cases z
        refine ⟨.list _, .list [], .lst (SqL.of e7) (DpAll.go k7 _ _ (fS _) r6), .lst (SqL.of upd_same) .nil, shaped_lstOf (n := 1) (fun e he => canLay_eS (fnm e (List.mem_filter.mp he).1)) depth_eS, shaped_lnil, _, rfl, ?_⟩
        rw [eqv_lst_nil, List.isEmpty_map]
        by_cases hf : (fs.filter fun e => decide (e = ps) || decide (Crs e ps)) = []
        · rw [hf]
          have eD7 := k7.keep D _ (by simp) eD6 fun ps z => by cases z
          refine iteT ?_
          obtain ⟨w1, w2, _⟩ := stay k7
          have p8 : Go T [D] (upd H6 q (.lst [])) (upd (upd H6 q (.lst [])) D (.lst (acc ++ [.ref t]))) := Go.put Go.refl (.inl (by simp)) eD7 rfl
          have none_ : ∀ e ∈ fs, e ≠ ps ∧ ¬ Crs e ps := fun e he => by
            have z := List.filter_eq_nil_iff.mp hf e he
            simp at z
            exact z
          refine ⟨_, rfl, .inl ⟨rfl, _, SqL.of eD7⟩, _, rfl, D, acc, .ref t, rfl, rfl, eD7, Nat.lt_of_lt_of_le (show acc.length < 100 by omega) (by decide), ?_⟩
          refine ⟨w1.put (.inr nD) eD7 rfl, w2.put o1 o2, ⟨acc ++ [.ref t], fs ++ [ps], upd_same, ?_, ?_⟩, _, _, _, _, rfl⟩
          · rw [List.map_append]
            exact DpAll.snoc (DpAll.go p8 _ _ (fS _) (DpAll.go k7 _ _ (fS _) d6)) (Dp.go p8 _ _ (fz_eS _) (Dp.go k7 _ _ (fz_eS _) (mk_eS ht6)))
          · refine ⟨by rw [List.length_append]; simp; omega, fun s hs' => ?_, ?_⟩
            · rcases List.mem_append.mp hs' with hs' | hs'
              · exact fok.each s hs'
              · rw [List.mem_singleton.mp hs']
                exact ⟨by omega, psub⟩
            · refine List.pairwise_append.mpr ⟨fok.apart, List.pairwise_singleton _ _, fun e he s hs' => ?_⟩
              rw [List.mem_singleton.mp hs']
              exact none_ e he
        · rw [show (fs.filter fun e => decide (e = ps) || decide (Crs e ps)).isEmpty = false from by simpa using hf]
          refine iteF ?_
          obtain ⟨w1, w2, w3⟩ := stay k7
          exact ⟨w1, w2, w3, _, _, _, _, rfl⟩
      · refine iteDF hl3 (iteF ?_)
        obtain ⟨w1, w2, w3⟩ := stay Go.refl
        exact ⟨w1, w2, w3, _, _, _, _, rfl⟩
    · refine iteDF hl2 (iteF ?_)
      obtain ⟨w1, w2, w3⟩ := stay Go.refl
      exact ⟨w1, w2, w3, _, _, _, _, rfl⟩
  · obtain ⟨g2, hd2, ⟨acc, fs, eD2, dfs, fok⟩, y4, y5, y6, y7, rfl⟩ := h
    have la := DpAll.map_len dfs
    have fm := fok.most
    have eD2' : SqL K H2 D acc := SqL.of eD2
    have tx : AllAlike (fs.map eS) := AllAlike.of alike_eS
    have ex : Sortable (fs.map eS) := .inl fun z hz => by
      obtain ⟨s', hs', rfl⟩ := List.mem_map.mp hz
      have l2 := (fok.each s' hs').1
      match s', l2 with
      | a :: r, _ => exact ⟨_, _, rfl⟩
    have em1 : (acc.zip (fs.map eS)).map (·.1) = acc := List.map_fst_zip (by rw [List.length_map]; omega)
    have em2 : (acc.zip (fs.map eS)).map (·.2) = fs.map eS := List.map_snd_zip (by rw [List.length_map]; omega)
    have dz := zip_dp dfs
    have sd := sort_dp dfs
    refine ⟨_, rfl, D, acc.zip (fs.map eS), rfl, .inl (by rw [em1]; exact eD2'), dz, by rw [em2]; exact tx, by rw [em2]; exact ex, fun b hb => ?_, fun p np => ?_⟩
    · have hb2 : b.2 ∈ fs.map eS := by
        rw [← em2]
        exact List.mem_map_of_mem hb
      obtain ⟨s', _, z⟩ := List.mem_map.mp hb2
      rw [← z]
      exact Nat.le_trans (depth_eS _) (by decide)
    · have k7 : Go T [] H2 (upd H2 p (.lst (((acc.zip (fs.map eS)).mergeSort (dataLe false (·.2))).map (·.1)))) := Go.new Go.refl np
      have k8 := DpAll.go k7 _ _ (fS _) sd
      obtain ⟨o3, o4⟩ := hd2.out np
      refine ⟨p, _, rfl, .inl ⟨SqL.of upd_same, fun t nt => ?_⟩⟩
      have k9 := Go.new (o := .tup (((acc.zip (fs.map eS)).mergeSort (dataLe false (·.2))).map (·.1))) k7 nt
      exact hQ _ _ _ (g2.trans k9.any) (hd2.go k9 (by simp) (by simp)) (secs_of h6 asc fok) (.tup (.inl (.inl upd_same)) (DpAll.go (Go.new (T := T) (m := []) Go.refl nt) _ _ (fS _) k8))
end Cb
/-! ## CbL7 -/
set_option maxHeartbeats 4000000
/-! The law's random sheets and bookings. -/
namespace Cb
open PySem PySem.Spec PyProof.Rows L2
open NdefX (NTab TabN TabsN NF FnO NScope NOk nok_of nscope_by startF)
open C8 (pe_c pe_mt pe_mt0 pe_mk)
open PySem.W (dataLe dataLt alike alikeAll AllAlike Sortable)
variable {P : Program} {w : World} {K : PySem.W.Frag} {mg : Str → Option Value} {base : Heap} {CR CA : Addr} {T : List NTab}
theorem fz_tupOf {α : Type} (f : α → PyData) (h : ∀ a, fz (f a) = true) (l : List α) : fz (.tuple (l.map f)) = true := by
  unfold fz
  exact fz_map f h l
def spLRandomSheet (T : List NTab) (K : PySem.W.Frag) : Sp := fun vs H Q _ => ∃ (d cl : Addr), vs = [.ref d, .int 6, .int 4] ∧ LRd H d cl ∧
  ∀ (H' : Hp) (v : V) (x : Sheet), Go T [d] H H' → LRd H' d cl → Good x → Dp K H' v (eSh x) → Q v H'
theorem c_L_random_sheet (B : Bs K mg CR CA) : C8.Cal P w K mg base 5 "_law_random_sheet" (spLRandomSheet T K) [] := by
  refine B.f_L_random_sheet.cal sc_L_random_sheet (fun _ _ _ _ _ _ us hl => match us, hl with | [_, _, _], _ => rfl) (fun vs H Q E h => ?_) fun f cdv A outer s H vs Q E hr h => ?_
  · obtain ⟨d, cl, rfl, _⟩ := h
    rfl
  obtain ⟨d, cl, rfl, hd, hQ⟩ := h
  have nd := sc_L_random_sheet.nd
  refine ⟨_, pss_cons (ps_set (i := 3) nd rfl (Or.inl rfl) (pe_c (c_L_random_state (T := T) B) hr (by decide) (by rfl) (pa_cons (pv 0) (pa_cons (pv 1) pa_nil))))
    (pss_cons (ps_set (i := 4) nd rfl (Or.inl rfl) (pe_c (c_L_random_sections (T := T) B) hr (by decide) (by rfl) (pa_cons (pv 0) (pa_cons (pe_lc (own := [("_law_entry", 5)]) (g := gName 5) (te := tOp (rIxT K) (tVar 5) (tC (.int 0))) (by rfl) nd (pi_tup (pv 3)) (blkOk_by (own := [("_law_entry", 5)]) (N := N_L_random_sheet) (sc := defScope s_L_random_sheet) (by decide +kernel))
          (fun _ _ _ _ _ => pg_name (i := 5) nd rfl (Or.inl rfl)) (fun _ _ _ _ _ => pts_nil) (fun _ _ _ _ _ => pe_ix ix_tup (pv 5) pe_int (fun _ _ => rfl))) (pa_cons pe_int pa_nil)))))
    (pss_one (ps_ret (pe_tup (pa_cons (pv 3) (pa_cons (pv 4) (pa_cons (pe_c (c_L_random_days (T := T) B) hr (by decide) (by rfl) (pa_cons (pv 0) (pa_cons (pv 3) (pa_cons (pe_c (c_L_draw (T := T) B) hr (by decide) (by rfl) (pa_cons (pv 0) (pa_cons (pe_op op_add (pv 2) pe_int) pa_nil))) pa_nil)))) pa_nil))))))), ?_⟩
  refine ⟨_, rfl, _, rfl, d, cl, rfl, hd, fun H1 v1 ls g1 hd1 lok dv1 => ?_⟩
  obtain ⟨b, xs, rfl, hb, db⟩ := dp_tup dv1
  have lb := DpAll.map_len db
  have m6 := lok.most
  refine ⟨_, rfl, _, rfl, b, rfl, ⟨_, hb⟩, fun D nD => ?_⟩
  have Dd : D ≠ d := (hd1.out nD).1
  refine lc_dp (K := K) (T := T) (m := []) (walk_tup (xs := xs)) nD (fun a ha => absurd ha (by simp)) (small (by omega)) ((ls.map (fun l : Ln => l.1)).map PyData.str) (by simp; omega) (fz_map _ (fun a => by simp [fz]) _) (fun H3 g => sqT_go g hb) (fun i v H3 H4 dn hdn g y F Z hF => ?_) fun H2 acc g2 e2 d2 => ?_
  · obtain ⟨rfl, hv⟩ := y
    obtain ⟨m, em, dm⟩ := DpAll.map_at (DpAll.go g _ _ (fz_map _ fz_eL _) db) hv
    obtain ⟨q, wl2, rfl, hl, _⟩ := dp_eL dm
    rw [List.getElem?_map, List.getElem?_map, em] at hdn
    cases hdn
    exact ⟨rfl, _, rfl, q, _, _, _, rfl, rfl, hl, atI_at (j := 0) rfl, hF _ _ Go.refl (.str _)⟩
  have ea := dpAll_strs_inv d2
  subst ea
  have hd2 := hd1.go g2 (by simp) (by simp)
  refine ⟨d, cl, D, ls.map (·.1), rfl, hd2, SqL.of e2, Dd, by simpa using m6, lok.asc, fun n hn => ?_, fun H3 v3 ss g3 hd3 sok dv3 => ?_⟩
  · obtain ⟨l, hl, rfl⟩ := List.mem_map.mp hn
    exact lok.names l hl
  refine ⟨_, rfl, _, rfl, _, rfl, _, rfl, _, rfl, _, rfl, _, _, rfl, rfl, d, cl, 5, rfl, hd3, by decide, by decide, fun H4 r g4 hd4 r0 r1 => ?_⟩
  have g14 := (g2.any.trans g3).trans g4
  refine ⟨d, cl, b, r, xs, ls, rfl, hd4, sqT_go g14 hb, DpAll.go g14 _ _ (fz_map _ fz_eL _) db, m6, r0, by omega, fun H5 v5 ds g5 hd5 dl dok dv5 => ⟨(by show 3 ≤ sizeLine; decide), fun t nt => ?_⟩⟩
  have k6 : Go T [] H5 (upd H5 t (.tup [.ref b, v3, v5])) := Go.new Go.refl nt
  refine hQ _ _ ⟨ls, ss, ds⟩ (((g1.trans g14).trans g5).trans k6.any) (hd5.go k6 (by simp) (by simp)) ⟨lok, sok, (by show ds.length ≤ 10; omega), dok⟩ (.tup (.inl (.inl upd_same)) (.cons (.tup (sqT_go k6 (sqT_go (g14.trans g5) hb)) (DpAll.go k6 _ _ (fz_map _ fz_eL _) (DpAll.go (g14.trans g5) _ _ (fz_map _ fz_eL _) db))) (.cons ?_ (.cons ?_ .nil))))
  · exact Dp.go k6 _ _ (fz_tupOf _ fz_eS _) (Dp.go (g4.trans g5) _ _ (fz_tupOf _ fz_eS _) dv3)
  · exact Dp.go k6 _ _ (fz_tupOf _ fz_eD _) dv5
end Cb
/-! ## CbL8 -/
set_option maxHeartbeats 4000000
/-! The law's random bookings. -/
namespace Cb
open PySem PySem.Spec PyProof.Rows L2
open NdefX (NTab TabN TabsN NF FnO NScope NOk nok_of nscope_by startF)
open C8 (pe_c pe_mt pe_mt0 pe_mk)
open PySem.W (dataLe dataLt alike alikeAll AllAlike Sortable)
variable {P : Program} {w : World} {K : PySem.W.Frag} {mg : Str → Option Value} {base : Heap} {CR CA : Addr} {T : List NTab}
theorem mk_eB {H : Hp} {a : Addr} {b : List Int} (h : SqT K H a (b.map V.int)) : Dp K H (.ref a) (eB b) := by
  unfold eB
  refine .tup h ?_
  induction b with
  | nil => exact .nil
  | cons i b ih => exact .cons (.int _) (dpa b)
where dpa : ∀ b : List Int, DpAll K H (b.map V.int) (b.map PyData.int)
  | [] => .nil
  | _ :: b => .cons (.int _) (dpa b)
def spLRandomBooking (T : List NTab) (K : PySem.W.Frag) : Sp := fun vs H Q _ => ∃ (d cl : Addr) (v : V) (x : Sheet), vs = [.ref d, v] ∧ LRd H d cl ∧ Dp K H v (eSh x) ∧ Good x ∧
  ∀ (H' : Hp) (v : V) (bk : List (List Int)), Go T [d] H H' → LRd H' d cl → bk.length = x.ds.length → (∀ b ∈ bk, b.length = x.ls.length) → Dp K H' v (.tuple (bk.map eB)) → Q v H'
theorem c_L_random_booking (B : Bs K mg CR CA) : C8.Cal P w K mg base 2 "_law_random_booking" (spLRandomBooking T K) [] := by
  refine B.f_L_random_booking.cal sc_L_random_booking (fun _ _ _ _ _ _ us hl => match us, hl with | [_, _], _ => rfl) (fun vs H Q E h => ?_) fun f cdv A outer s H vs Q E hr h => ?_
  · obtain ⟨d, cl, v, x, rfl, _⟩ := h
    rfl
  obtain ⟨d, cl, v, x, rfl, hd, hv, ok, hQ⟩ := h
  obtain ⟨a, b, c, e, ls, ss, ds, rfl, ha, hb, db, hc, dc, he, dd⟩ := dp_eSh hv
  have nd := sc_L_random_booking.nd
  refine ⟨_, pss_cons (ps_asg (pv 1) (pg_tup (by rfl) (pgs_cons (pg_name (i := 2) nd rfl (Or.inl rfl)) (pgs_cons (pg_name (i := 3) nd rfl (Or.inl rfl)) (pgs_cons (pg_name (i := 4) nd rfl (Or.inl rfl)) pgs_nil)))))
    (pss_cons (ps_set (i := 5) nd rfl (Or.inl rfl) (pe_lst pa_nil))
    (pss_cons (ps_for PassesOwn.never rfl (pi_tup (pv 4)) (pg_name (i := 6) nd rfl (Or.inl rfl))
      (pss_one (ps_expr (pe_bm PySem.F.plainAttrs_list PySem.F.slot_list_append PySem.F.type_list_append mt_append (pv 5) (pa_cons (pe_callTy call_tuple_of (by rfl) B.b_tuple (by decide +kernel) (pa_cons (pe_lc (own := [("_law_ratio", 7)]) (g := gName 7) (te := tOp rAdd (tCall (spLFloor K) [] C8.E0 (tCons (tVar 7) tNil)) (tCall (spLDraw T) [] C8.E0 (tCons (tVar 0) (tCons (tC (.int 3)) tNil)))) (by rfl) nd (pi_tup (pv 6)) (blkOk_by (own := [("_law_ratio", 7)]) (N := N_L_random_booking) (sc := defScope s_L_random_booking) (by decide +kernel))
          (fun _ _ _ _ _ => pg_name (i := 7) nd rfl (Or.inl rfl)) (fun _ _ _ _ _ => pts_nil) (fun _ _ _ _ _ => pe_op op_add (pe_c (c_L_floor B) hr (by decide) (by rfl) (pa_cons (pv 7) pa_nil)) (pe_c (c_L_draw (T := T) B) hr (by decide) (by rfl) (pa_cons (pv 0) (pa_cons pe_int pa_nil))))) pa_nil)) pa_nil)))))
    (pss_one (ps_ret (pe_callTy call_tuple_of (by rfl) B.b_tuple (by decide +kernel) (pa_cons (pv 5) pa_nil)))))), ?_⟩
  have ld := DpAll.map_len dd
  have m1 := ok.ls.most
  have m3 := ok.dn
  refine ⟨_, rfl, a, _, rfl, ha, rfl, _, _, rfl, _, _, rfl, _, _, rfl, rfl, ?_⟩
  refine ⟨(by show 0 ≤ sizeLine; decide), fun D nD => ?_⟩
  have g0 : Go T [] H (upd H D (.lst [])) := Go.new Go.refl nD
  obtain ⟨o1, o2⟩ := hd.out nD
  have fB : ∀ bk : List (List Int), fzAll (bk.map eB) = true := fun bk => fz_map _ fz_eB _
  have fD : ∀ bk : List (List Fr), fzAll (bk.map eD) = true := fun bk => fz_map _ fz_eD _
  refine ⟨_, rfl, e, rfl, ⟨_, sqT_go g0 he⟩, ?_⟩
  refine for_it (walk_tup (xs := ds)) (fun i σ H' => Go T [d] H H' ∧ LRd H' d cl ∧ (∃ acc bk, H' D = some (.lst acc) ∧ DpAll K H' acc (bk.map eB) ∧ bk.length = i ∧ ∀ b ∈ bk, b.length = x.ls.length) ∧ ∃ y6, σ = [some (.ref d), some (.ref a), some (.ref b), some (.ref c), some (.ref e), some (.ref D), y6, none])
    ⟨g0.any, hd.go g0 (by simp) (by simp), ⟨[], [], upd_same, .nil, rfl, by simp⟩, _, rfl⟩ (fun i σ H' hi h => sqT_go h.1 he) (fun i v σ H1 H2 hi h y => ?_) fun σ H1 h => ?_
  · obtain ⟨rfl, hv⟩ := y
    obtain ⟨g1, hd1, ⟨acc, bk, e1, d1, bl, bok⟩, y6, rfl⟩ := h
    have la := DpAll.map_len d1
    obtain ⟨dy, ey, ddy⟩ := DpAll.map_at (DpAll.go g1 _ _ (fD _) dd) hv
    have dok := ok.ds dy (List.mem_of_getElem? ey)
    obtain ⟨t, us, rfl, ht, dus⟩ := dp_tup ddy
    have lu := DpAll.map_len dus
    have ll := dok.len
    refine ⟨_, rfl, .inl ⟨rfl, _, SqL.of e1⟩, _, rfl, t, rfl, ⟨_, ht⟩, fun D2 nD2 => ?_⟩
    obtain ⟨u1, u2⟩ := hd1.out nD2
    refine lc_gen (T := T) (m := [d]) (walk_tup (xs := us)) nD2 (fun a ha => by
      have ha : a = d := by simpa using ha
      obtain ⟨_, _, _, _, e1, _⟩ := hd1
      rw [ha, e1]
      simp) (small (by omega)) (fun i acc H => LRd H d cl ∧ ∃ ps : List Int, acc = ps.map V.int ∧ ps.length = i) ⟨hd1, [], rfl, rfl⟩ (fun i acc H H' g r => ⟨r.1.go g (by simpa using Ne.symm u1) (by simpa using Ne.symm u2), r.2⟩) (fun H1 g => sqT_go g ht) (fun j v H3 H4 ac hj g e r y F Z hF hZ => ?_) fun H4 ac g4 e4 r4 => ?_
    · obtain ⟨rfl, hv2⟩ := y
      obtain ⟨hdx, ps, rfl, hps⟩ := r
      obtain ⟨q, eq, dq⟩ := DpAll.map_at (DpAll.go g _ _ (fz_map _ fz_eF _) dus) hv2
      refine ⟨rfl, _, rfl, _, q, rfl, dq, dok.fr q (List.mem_of_getElem? eq), _, rfl, d, cl, 3, rfl, hdx, by decide, by decide, fun H5 r5 g5 hd5 _ _ => ⟨_, _, rfl, rfl, hF _ _ g5 ⟨hd5, ps ++ [q.1 / q.2 + r5], by rw [List.map_append]; rfl, by rw [List.length_append, hps]; rfl⟩⟩⟩
    · obtain ⟨hd4, ps, rfl, hps⟩ := r4
      have e14 : H4 D = some (.lst acc) := g4.keep D _ (by simpa using o1) e1 fun ps z => by cases z
      refine ⟨D2, _, rfl, .inl ⟨SqL.of e4, fun p np => ?_⟩⟩
      have k5 : Go T [] H4 (upd H4 p (.tup (ps.map V.int))) := Go.new Go.refl np
      have e15 := k5.keep D _ (by simp) e14 fun ps z => by cases z
      refine ⟨D, _, _, rfl, rfl, e15, Nat.lt_of_lt_of_le (show acc.length < 100 by omega) (by decide), ?_⟩
      have p8 : Go T [D] (upd H4 p (.tup (ps.map V.int))) (upd (upd H4 p (.tup (ps.map V.int))) D (.lst (acc ++ [.ref p]))) := Go.put Go.refl (.inl (by simp)) e15 rfl
      have g5 := (g1.trans g4).trans k5.any
      refine ⟨g5.put (.inr nD) e15 rfl, (hd4.go k5 (by simp) (by simp)).put o1 o2, ⟨acc ++ [.ref p], bk ++ [ps], upd_same, ?_, by simp; omega, fun b hb => ?_⟩, _, rfl⟩
      · rw [List.map_append]
        exact DpAll.snoc (DpAll.go p8 _ _ (fB _) (DpAll.go k5 _ _ (fB _) (DpAll.go g4 _ _ (fB _) d1))) (Dp.go p8 _ _ (fz_eB _) (mk_eB (.inl (.inl upd_same))))
      · rcases List.mem_append.mp hb with hb | hb
        · exact bok b hb
        · rw [List.mem_singleton.mp hb]
          omega
  · obtain ⟨g1, hd1, ⟨acc, bk, e1, d1, bl, bok⟩, y6, rfl⟩ := h
    refine ⟨_, rfl, D, _, rfl, .inl ⟨SqL.of e1, fun t nt => ?_⟩⟩
    have k : Go T [] H1 (upd H1 t (.tup acc)) := Go.new Go.refl nt
    exact hQ _ _ bk (g1.trans k.any) (hd1.go k (by simp) (by simp)) (by omega) bok (.tup (.inl (.inl upd_same)) (DpAll.go k _ _ (fB _) d1))
end Cb
/-! ## CbL9 -/
set_option maxHeartbeats 4000000
/-! The law's fresh state of one to six lines. -/
namespace Cb
open PySem PySem.Spec PyProof.Rows L2
open NdefX (NTab TabN TabsN NF FnO NScope NOk nok_of nscope_by startF)
open C8 (pe_c pe_mt pe_mt0 pe_mk)
variable {P : Program} {w : World} {K : PySem.W.Frag} {mg : Str → Option Value} {base : Heap} {CR CA : Addr} {T : List NTab}
def spLFreshOf (T : List NTab) (K : PySem.W.Frag) : Sp := fun vs H Q _ => ∃ (a : Addr) (ns : List Str), vs = [.ref a] ∧ SqL K H a (ns.map V.str) ∧ 1 ≤ ns.length ∧ ns.length ≤ 6 ∧ ∀ H' r, Go T [] H H' → Dp K H' r (.tuple ((sortS ns).map fun n => eL (freshLn n))) → Q r H'
theorem c_L_fresh_of (B : Bs K mg CR CA) (A0 : Ba K mg CA) : C8.Cal P w K mg base 2 "_law_fresh_of" (spLFreshOf T K) [] := by
  obtain ⟨ff, hfm, hfk, FR⟩ := c_fresh (P := P) (w := w) (base := base) (T := T) B A0
  refine B.f_L_fresh_of.cal sc_L_fresh_of (fun _ _ _ _ _ _ us hl => match us, hl with | [_], _ => rfl) (fun vs H Q E h => ?_) fun f cdv A outer s H vs Q E hr h => ?_
  · obtain ⟨a, ns, rfl, _⟩ := h
    rfl
  obtain ⟨a, ns, rfl, ha, h1, h6, hQ⟩ := h
  have nd := sc_L_fresh_of.nd
  refine ⟨_, pss_cons (ps_if (pt_cmp (pc_eqI (pe_callB call_len_seq (by rfl) B.b_len (by decide +kernel) (pa_cons (pv 0) pa_nil)) pe_int)) (pss_one (ps_ret (pe_callR (E := C8.E0) FR hr (by rfl) hfm hfk C8.pass0 (pa_cons (pe_ix ix_list (pv 0) pe_int (fun _ _ => rfl)) pa_nil)))) pss_nil)
    (pss_cons (ps_if (pt_cmp (pc_eqI (pe_callB call_len_seq (by rfl) B.b_len (by decide +kernel) (pa_cons (pv 0) pa_nil)) pe_int)) (pss_one (ps_ret (pe_callR (E := C8.E0) FR hr (by rfl) hfm hfk C8.pass0 (pa_cons (pe_ix ix_list (pv 0) pe_int (fun _ _ => rfl)) (pa_cons (pe_ix ix_list (pv 0) pe_int (fun _ _ => rfl)) pa_nil))))) pss_nil)
    (pss_cons (ps_if (pt_cmp (pc_eqI (pe_callB call_len_seq (by rfl) B.b_len (by decide +kernel) (pa_cons (pv 0) pa_nil)) pe_int)) (pss_one (ps_ret (pe_callR (E := C8.E0) FR hr (by rfl) hfm hfk C8.pass0 (pa_cons (pe_ix ix_list (pv 0) pe_int (fun _ _ => rfl)) (pa_cons (pe_ix ix_list (pv 0) pe_int (fun _ _ => rfl)) (pa_cons (pe_ix ix_list (pv 0) pe_int (fun _ _ => rfl)) pa_nil)))))) pss_nil)
    (pss_cons (ps_if (pt_cmp (pc_eqI (pe_callB call_len_seq (by rfl) B.b_len (by decide +kernel) (pa_cons (pv 0) pa_nil)) pe_int)) (pss_one (ps_ret (pe_callR (E := C8.E0) FR hr (by rfl) hfm hfk C8.pass0 (pa_cons (pe_ix ix_list (pv 0) pe_int (fun _ _ => rfl)) (pa_cons (pe_ix ix_list (pv 0) pe_int (fun _ _ => rfl)) (pa_cons (pe_ix ix_list (pv 0) pe_int (fun _ _ => rfl)) (pa_cons (pe_ix ix_list (pv 0) pe_int (fun _ _ => rfl)) pa_nil))))))) pss_nil)
    (pss_cons (ps_if (pt_cmp (pc_eqI (pe_callB call_len_seq (by rfl) B.b_len (by decide +kernel) (pa_cons (pv 0) pa_nil)) pe_int)) (pss_one (ps_ret (pe_callR (E := C8.E0) FR hr (by rfl) hfm hfk C8.pass0 (pa_cons (pe_ix ix_list (pv 0) pe_int (fun _ _ => rfl)) (pa_cons (pe_ix ix_list (pv 0) pe_int (fun _ _ => rfl)) (pa_cons (pe_ix ix_list (pv 0) pe_int (fun _ _ => rfl)) (pa_cons (pe_ix ix_list (pv 0) pe_int (fun _ _ => rfl)) (pa_cons (pe_ix ix_list (pv 0) pe_int (fun _ _ => rfl)) pa_nil)))))))) pss_nil)
    (pss_cons (ps_asg (pv 0) (pg_lst (by rfl) (pgs_cons (pg_name (i := 1) nd rfl (Or.inl rfl)) (pgs_cons (pg_name (i := 2) nd rfl (Or.inl rfl)) (pgs_cons (pg_name (i := 3) nd rfl (Or.inl rfl)) (pgs_cons (pg_name (i := 4) nd rfl (Or.inl rfl)) (pgs_cons (pg_name (i := 5) nd rfl (Or.inl rfl)) (pgs_cons (pg_name (i := 6) nd rfl (Or.inl rfl)) pgs_nil))))))))
    (pss_one (ps_ret (pe_callR (E := C8.E0) FR hr (by rfl) hfm hfk C8.pass0 (pa_cons (pv 1) (pa_cons (pv 2) (pa_cons (pv 3) (pa_cons (pv 4) (pa_cons (pv 5) (pa_cons (pv 6) pa_nil)))))))))))))), ?_⟩
  rcases ns with _ | ⟨n0, ns⟩
  · simp at h1
  rcases ns with _ | ⟨n1, ns⟩
  · refine ⟨_, rfl, a, _, rfl, .inl ha, _, _, rfl, rfl, _, rfl, ?_⟩
    refine iteT ?_
    refine ⟨_, rfl, a, _, _, V.str n0, rfl, rfl, ha, rfl, ?_⟩
    exact ⟨[n0], rfl, h6, hQ⟩
  rcases ns with _ | ⟨n2, ns⟩
  · refine ⟨_, rfl, a, _, rfl, .inl ha, _, _, rfl, rfl, _, rfl, ?_⟩
    refine iteF ?_
    refine ⟨_, rfl, a, _, rfl, .inl ha, _, _, rfl, rfl, _, rfl, ?_⟩
    refine iteT ?_
    refine ⟨_, rfl, a, _, _, V.str n0, rfl, rfl, ha, rfl, _, rfl, a, _, _, V.str n1, rfl, rfl, ha, rfl, ?_⟩
    exact ⟨[n0, n1], rfl, h6, hQ⟩
  rcases ns with _ | ⟨n3, ns⟩
  · refine ⟨_, rfl, a, _, rfl, .inl ha, _, _, rfl, rfl, _, rfl, ?_⟩
    refine iteF ?_
    refine ⟨_, rfl, a, _, rfl, .inl ha, _, _, rfl, rfl, _, rfl, ?_⟩
    refine iteF ?_
    refine ⟨_, rfl, a, _, rfl, .inl ha, _, _, rfl, rfl, _, rfl, ?_⟩
    refine iteT ?_
    refine ⟨_, rfl, a, _, _, V.str n0, rfl, rfl, ha, rfl, _, rfl, a, _, _, V.str n1, rfl, rfl, ha, rfl, _, rfl, a, _, _, V.str n2, rfl, rfl, ha, rfl, ?_⟩
    exact ⟨[n0, n1, n2], rfl, h6, hQ⟩
  rcases ns with _ | ⟨n4, ns⟩
  · refine ⟨_, rfl, a, _, rfl, .inl ha, _, _, rfl, rfl, _, rfl, ?_⟩
    refine iteF ?_
    refine ⟨_, rfl, a, _, rfl, .inl ha, _, _, rfl, rfl, _, rfl, ?_⟩
    refine iteF ?_
    refine ⟨_, rfl, a, _, rfl, .inl ha, _, _, rfl, rfl, _, rfl, ?_⟩
    refine iteF ?_
    refine ⟨_, rfl, a, _, rfl, .inl ha, _, _, rfl, rfl, _, rfl, ?_⟩
    refine iteT ?_
    refine ⟨_, rfl, a, _, _, V.str n0, rfl, rfl, ha, rfl, _, rfl, a, _, _, V.str n1, rfl, rfl, ha, rfl, _, rfl, a, _, _, V.str n2, rfl, rfl, ha, rfl, _, rfl, a, _, _, V.str n3, rfl, rfl, ha, rfl, ?_⟩
    exact ⟨[n0, n1, n2, n3], rfl, h6, hQ⟩
  rcases ns with _ | ⟨n5, ns⟩
  · refine ⟨_, rfl, a, _, rfl, .inl ha, _, _, rfl, rfl, _, rfl, ?_⟩
    refine iteF ?_
    refine ⟨_, rfl, a, _, rfl, .inl ha, _, _, rfl, rfl, _, rfl, ?_⟩
    refine iteF ?_
    refine ⟨_, rfl, a, _, rfl, .inl ha, _, _, rfl, rfl, _, rfl, ?_⟩
    refine iteF ?_
    refine ⟨_, rfl, a, _, rfl, .inl ha, _, _, rfl, rfl, _, rfl, ?_⟩
    refine iteF ?_
    refine ⟨_, rfl, a, _, rfl, .inl ha, _, _, rfl, rfl, _, rfl, ?_⟩
    refine iteT ?_
    refine ⟨_, rfl, a, _, _, V.str n0, rfl, rfl, ha, rfl, _, rfl, a, _, _, V.str n1, rfl, rfl, ha, rfl, _, rfl, a, _, _, V.str n2, rfl, rfl, ha, rfl, _, rfl, a, _, _, V.str n3, rfl, rfl, ha, rfl, _, rfl, a, _, _, V.str n4, rfl, rfl, ha, rfl, ?_⟩
    exact ⟨[n0, n1, n2, n3, n4], rfl, h6, hQ⟩
  rcases ns with _ | ⟨n6, ns⟩
  · refine ⟨_, rfl, a, _, rfl, .inl ha, _, _, rfl, rfl, _, rfl, ?_⟩
    refine iteF ?_
    refine ⟨_, rfl, a, _, rfl, .inl ha, _, _, rfl, rfl, _, rfl, ?_⟩
    refine iteF ?_
    refine ⟨_, rfl, a, _, rfl, .inl ha, _, _, rfl, rfl, _, rfl, ?_⟩
    refine iteF ?_
    refine ⟨_, rfl, a, _, rfl, .inl ha, _, _, rfl, rfl, _, rfl, ?_⟩
    refine iteF ?_
    refine ⟨_, rfl, a, _, rfl, .inl ha, _, _, rfl, rfl, _, rfl, ?_⟩
    refine iteF ?_
    refine ⟨_, rfl, a, _, rfl, ha, rfl, _, _, rfl, _, _, rfl, _, _, rfl, _, _, rfl, _, _, rfl, _, _, rfl, rfl, _, rfl, _, rfl, _, rfl, _, rfl, _, rfl, _, rfl, ?_⟩
    exact ⟨[n0, n1, n2, n3, n4, n5], rfl, h6, hQ⟩
  · simp only [List.length_cons] at h6
    omega
end Cb
/-! ## CbL10 -/
set_option maxHeartbeats 4000000
/-! Written data as expressions. -/
namespace Cb
open PySem PySem.Spec PyProof.Rows L2
open NdefX (NTab TabN TabsN NF FnO NScope NOk nok_of nscope_by startF)
open C8 (pe_c pe_mt pe_mt0 pe_mk)
variable {P : Program} {w : World} {K : PySem.W.Frag} {mg : Str → Option Value} {base : Heap} {CR CA : Addr} {T : List NTab}
/-- some new value that is this data -/
def tDat (T : List NTab) (K : PySem.W.Frag) (d : PyData) : TE := fun σ H Q => ∀ H' v, Go T [] H H' → Dp K H' v d → Q v H'
def tDats (T : List NTab) (K : PySem.W.Frag) (ds : List PyData) : TA := fun σ H Q => ∀ H' vs, Go T [] H H' → DpAll K H' vs ds → Q vs H'
section
variable {X : Cx} {e : Expr} {es : List Expr} {pos : Pos}
theorem pe_weak {t t' : TE} (h : PE X e t) (i : ∀ σ H Q, t' σ H Q → t σ H Q) : PE X e t' := ⟨fun pins s σ H Q I hw => h.run pins s σ H Q I (i σ H Q hw)⟩
theorem pa_weak {t t' : TA} (h : PA X es t) (i : ∀ σ H Q, t' σ H Q → t σ H Q) : PA X es t' := ⟨fun pos pins s σ H Q I hw => h.run pos pins s σ H Q I (i σ H Q hw)⟩
theorem pd_int {i : Int} {j} : PE X (.Constant (.int i) j pos) (tDat T X.K (.int i)) := pe_weak pe_int fun σ H Q h => h H _ Go.refl (.int i)
theorem pd_bl {b : Bool} {j} : PE X (.Constant (.bool b) j pos) (tDat T X.K (.bool b)) := pe_weak pe_bl fun σ H Q h => h H _ Go.refl (.bl b)
theorem pd_str {x : Str} {j} : PE X (.Constant (.str x) j pos) (tDat T X.K (.str x)) := pe_weak pe_str fun σ H Q h => h H _ Go.refl (.str x)
theorem pds_nil : PA X [] (tDats T X.K []) := pa_weak pa_nil fun σ H Q h => h H _ Go.refl .nil
theorem pds_cons {d : PyData} {ds : List PyData} (he : PE X e (tDat T X.K d)) (ht : PA X es (tDats T X.K ds)) (hf : fz d = true := by rfl) (hs : starEach (e :: es) X.env = (false, eval e X.env) :: starEach es X.env := by rfl) : PA X (e :: es) (tDats T X.K (d :: ds)) :=
  pa_weak (pa_cons he ht hs) fun σ H Q h H1 v g1 d1 H2 vs g2 d2 => h H2 _ (g1.trans g2) (.cons (Dp.go g2 _ _ hf d1) d2)
theorem pd_tup {k : Nat} {ds : List PyData} (ht : PA X es (tDats T X.K ds)) (hf : fzAll ds = true := by rfl) (hl : ds.length ≤ 100 := by simp) : PE X (.Tuple es k pos) (tDat T X.K (.tuple ds)) :=
  pe_weak (pe_tup ht) fun σ H Q h H1 vs g1 d1 => ⟨by rw [DpAll.len d1]; exact Nat.le_trans hl (by decide), fun p np => h _ _ (g1.new np) (.tup (.inl (.inl upd_same)) (DpAll.go (Go.new (T := T) (m := []) Go.refl np) _ _ hf d1))⟩
theorem pd_neg {i : Int} {j} {q : Pos} : PE X (.UnaryOp .USub (.Constant (.int i) j q) pos) (tDat T X.K (.int (-i))) := pe_weak (pe_un un_neg pe_int) fun σ H Q h => ⟨i, rfl, h H _ Go.refl (.int (-i))⟩
end
def fixeds : List Sheet := [fixed1, fixed2, fixed3, fixed4, fixed5]
theorem fixeds_good : ∀ x ∈ fixeds, Good x := fun x hx => by
  simp only [fixeds, List.mem_cons, List.not_mem_nil, or_false] at hx
  rcases hx with rfl | rfl | rfl | rfl | rfl
  · exact good1
  · exact good2
  · exact good3
  · exact good4
  · exact good5
theorem six_at (i : Nat) (zz : V) (d : PyData) (h1 : (headsF.map V.str)[i]? = some zz) (h2 : (sixL.map eL)[i]? = some d) :
    ∃ n, zz = .str n ∧ d = .tuple [.str n, .tuple [.int 999999, .int 10000], .int (100 - (i : Nat)), .bool (!decide (V.str n = V.str "day"))] := by
  match i, h1, h2 with
  | 0, h1, h2 | 1, h1, h2 | 2, h1, h2 | 3, h1, h2 | 4, h1, h2 | 5, h1, h2 =>
    cases h1
    cases h2
    exact ⟨_, rfl, rfl⟩
  | n + 6, h1, _ => simp [headsF] at h1
theorem dp_tup1 {H : Hp} {v : V} {d : PyData} (h : Dp K H v (.tuple [d])) : ∃ a x, v = .ref a ∧ SqT K H a [x] ∧ Dp K H x d := by
  obtain ⟨a, xs, rfl, hs, hd⟩ := dp_tup h
  cases hd with
  | cons hx ht =>
    cases ht
    exact ⟨_, _, rfl, hs, hx⟩
def spLFixed (T : List NTab) (K : PySem.W.Frag) : Sp := fun vs H Q _ => vs = [] ∧ ∀ (H' : Hp) (p : Addr) (xs : List V), Go T [] H H' → H' p = some (.lst xs) → H p = none → DpAll K H' xs (fixeds.map eSh) → Q (.ref p) H'
theorem c_L_fixed_sheets (B : Bs K mg CR CA) : C8.Cal P w K mg base 1 "_law_fixed_sheets" (spLFixed T K) [] := by
  refine B.f_L_fixed_sheets.cal sc_L_fixed_sheets (fun _ _ _ _ _ _ us hl => match us, hl with | [], _ => rfl) (fun vs H Q E h => ?_) fun f cdv A outer s H vs Q E hr h => ?_
  · obtain ⟨rfl, _⟩ := h
    rfl
  obtain ⟨rfl, hQ⟩ := h
  have nd := sc_L_fixed_sheets.nd
  refine ⟨_, pss_cons (ps_set (i := 0) nd rfl (Or.inl rfl) (pd_tup (T := T) (pds_cons (pd_tup (T := T) (pds_cons pd_str (pds_cons (pd_tup (T := T) (pds_cons pd_int (pds_cons pd_int pds_nil))) (pds_cons pd_int (pds_cons pd_bl pds_nil))))) (pds_cons (pd_tup (T := T) (pds_cons pd_str (pds_cons (pd_tup (T := T) (pds_cons pd_int (pds_cons pd_int pds_nil))) (pds_cons pd_int (pds_cons pd_bl pds_nil))))) pds_nil))))
    (pss_cons (ps_set (i := 1) nd rfl (Or.inl rfl) (pe_lst (pa_cons pe_str (pa_cons pe_str (pa_cons pe_str (pa_cons pe_str (pa_cons pe_str (pa_cons pe_str pa_nil))))))))
    (pss_cons (ps_set (i := 2) nd rfl (Or.inl rfl) (pe_callTy call_tuple_of (by rfl) B.b_tuple (by decide +kernel) (pa_cons (pe_lc (own := [("_law_k", 5), ("_law_head", 6)]) (g := gTup K 2 (gCons (gName 5) (gCons (gName 6) gNil))) (by rfl) nd (pi_enum (by rfl) B.b_enumerate (pa_cons (pv 1) pa_nil)) (blkOk_by (own := [("_law_k", 5), ("_law_head", 6)]) (N := N_L_fixed_sheets) (sc := defScope s_L_fixed_sheets) (by decide +kernel))
          (fun _ _ _ _ _ => pg_tup (by rfl) (pgs_cons (pg_name (i := 5) nd rfl (Or.inl rfl)) (pgs_cons (pg_name (i := 6) nd rfl (Or.inl rfl)) pgs_nil))) (fun _ _ _ _ _ => pts_nil)
          (fun _ _ _ _ _ => pe_tup (pa_cons (pv 6) (pa_cons (pe_tup (pa_cons (pe_op op_sub (pe_op op_pow pe_int pe_int) pe_int) (pa_cons (pe_op op_pow pe_int pe_int) pa_nil))) (pa_cons (pe_op op_sub pe_int (pv 5)) (pa_cons (pe_cmpR op_ne (pv 6) pe_str (nomark _)) pa_nil)))))) pa_nil)))
    (pss_cons (ps_set (i := 3) nd rfl (Or.inl rfl) (pe_callTy call_tuple_of (by rfl) B.b_tuple (by decide +kernel) (pa_cons (pe_op op_rep (pe_lst (pa_cons (pe_callTy call_tuple_of (by rfl) B.b_tuple (by decide +kernel) (pa_cons (pe_lc (own := [("_law_k", 5)]) (g := gName 5) (te := tIf (tTest (tOp (rIn K false) (tVar 5) (tTup (tCons (tC (.int 0)) (tCons (tC (.int 2)) tNil))))) (tTup (tCons (tC (.int 0)) (tCons (tC (.int 1)) tNil))) (tTup (tCons (tOp (rI CMul fun i j => .int (i * j)) (tC (.int 1000)) (tVar 5)) (tCons (tC (.int 7)) tNil)))) (by rfl) nd (pi_range1 (by rfl) B.b_range (pa_cons pe_int pa_nil)) (blkOk_by (own := [("_law_k", 5)]) (N := N_L_fixed_sheets) (sc := defScope s_L_fixed_sheets) (by decide +kernel))
          (fun _ _ _ _ _ => pg_name (i := 5) nd rfl (Or.inl rfl)) (fun _ _ _ _ _ => pts_nil)
          (fun _ _ _ _ _ => pe_ifExp (pt_cmpR op_in_seq (pv 5) (pe_tup (pa_cons pe_int (pa_cons pe_int pa_nil))) (by rfl)) (pe_tup (pa_cons pe_int (pa_cons pe_int pa_nil))) (pe_tup (pa_cons (pe_op op_mul pe_int (pv 5)) (pa_cons pe_int pa_nil))))) pa_nil)) pa_nil)) pe_int) pa_nil)))
    (pss_cons (ps_set (i := 4) nd rfl (Or.inl rfl) (pe_lst (pa_cons (pd_tup (T := T) (pds_cons (pd_tup (T := T) (pds_cons (pd_tup (T := T) (pds_cons pd_str (pds_cons (pd_tup (T := T) (pds_cons pd_int (pds_cons pd_int pds_nil))) (pds_cons pd_int (pds_cons pd_bl pds_nil))))) pds_nil)) (pds_cons (pd_tup (T := T) pds_nil) (pds_cons (pd_tup (T := T) pds_nil) pds_nil)))) pa_nil)))
    (pss_cons (ps_set (i := 4) nd rfl (Or.inl rfl) (pe_op op_cat (pv 4) (pe_lst (pa_cons (pe_tup (pa_cons (pv 0) (pa_cons (pd_tup (T := T) (pds_cons (pd_tup (T := T) (pds_cons pd_str (pds_cons pd_str pds_nil))) pds_nil)) (pa_cons (pd_tup (T := T) (pds_cons (pd_tup (T := T) (pds_cons (pd_tup (T := T) (pds_cons pd_int (pds_cons pd_int pds_nil))) (pds_cons (pd_tup (T := T) (pds_cons pd_int (pds_cons pd_int pds_nil))) pds_nil))) (pds_cons (pd_tup (T := T) (pds_cons (pd_tup (T := T) (pds_cons pd_int (pds_cons pd_int pds_nil))) (pds_cons (pd_tup (T := T) (pds_cons pd_int (pds_cons pd_int pds_nil))) pds_nil))) pds_nil))) pa_nil)))) pa_nil))))
    (pss_cons (ps_expr (pe_bm PySem.F.plainAttrs_list PySem.F.slot_list_append PySem.F.type_list_append mt_append (pv 4) (pa_cons (pe_tup (pa_cons (pv 2) (pa_cons (pd_tup (T := T) (pds_cons (pd_tup (T := T) (pds_cons pd_str (pds_cons pd_str pds_nil))) (pds_cons (pd_tup (T := T) (pds_cons pd_str (pds_cons pd_str (pds_cons pd_str (pds_cons pd_str pds_nil))))) (pds_cons (pd_tup (T := T) (pds_cons pd_str (pds_cons pd_str pds_nil))) pds_nil)))) (pa_cons (pv 3) pa_nil)))) pa_nil)))
    (pss_one (ps_ret (pe_op op_cat (pv 4) (pe_lst (pa_cons (pe_tup (pa_cons (pd_tup (T := T) (pds_cons (pd_tup (T := T) (pds_cons pd_str (pds_cons (pd_tup (T := T) (pds_cons pd_int (pds_cons pd_int pds_nil))) (pds_cons pd_neg (pds_cons pd_bl pds_nil))))) pds_nil)) (pa_cons (pe_tup pa_nil) (pa_cons (pe_op op_repT (pd_tup (T := T) (pds_cons (pd_tup (T := T) (pds_cons (pd_tup (T := T) (pds_cons pd_int (pds_cons pd_int pds_nil))) pds_nil)) pds_nil)) pe_int) pa_nil)))) (pa_cons (pe_tup (pa_cons (pv 0) (pa_cons (pe_tup pa_nil) (pa_cons (pe_tup pa_nil) pa_nil)))) pa_nil)))))))))))), ?_⟩
  refine fun H1 v1 g1 d1 => ?_
  refine ⟨(by show 6 ≤ sizeLine; decide), fun D1 n1 => ?_⟩
  have g2 : Go T [] H (upd H1 D1 (.lst (headsF.map V.str))) := g1.new n1
  refine ⟨_, rfl, D1, headsF.map V.str, rfl, SqL.of upd_same, fun D2 n2 => ?_⟩
  refine lc_dp (K := K) (T := T) (m := []) (walk_enum (K := K) (a := D1) (xs := headsF.map V.str)) n2 (fun a ha => absurd ha (by simp)) (small (by decide)) (sixL.map eL) rfl (fz_map _ fz_eL _) (fun H3 g => sqL_go g (by simp) (SqL.of upd_same)) (fun i x H3 H4 dn hdn g y F Z hF => ?_) fun H3 acc3 g3 e3 d3 => ?_
  · obtain ⟨p1, u, zz, rfl, np1, rfl, w1, w2⟩ := y
    cases Option.some.inj (show some (V.int (i : Nat)) = some u from w1)
    obtain ⟨n, rfl, rfl⟩ := six_at i zz dn w2 hdn
    refine ⟨p1, _, rfl, .inl (.inl upd_same), rfl, _, _, rfl, _, _, rfl, rfl, ?_⟩
    refine ⟨rfl, _, rfl, _, _, rfl, rfl, ⟨by decide, by decide, by decide⟩, _, _, rfl, rfl, _, _, rfl, rfl, ⟨by decide, by decide, by decide⟩, (by show 2 ≤ sizeLine; decide), fun q nq => ?_⟩
    refine ⟨_, rfl, _, _, rfl, rfl, _, rfl, rfl, (by show 4 ≤ sizeLine; decide), fun r nr => ?_⟩
    have e1 : (10 : Int) ^ (6 : Int).toNat - 1 = 999999 := by decide
    have e2 : (10 : Int) ^ (4 : Int).toNat = 10000 := by decide
    rw [e1, e2] at *
    have k1 : Go T [] H3 _ := (Go.new Go.refl np1).new (o := .tup [.int 999999, .int 10000]) nq
    have k2 := k1.new (o := .tup [.str n, .ref q, .int (100 - (i : Nat)), .bl (!decide (V.str n = V.str "day"))]) nr
    have k3 := Go.new (T := T) (m := []) (o := .tup [.str n, .ref q, .int (100 - (i : Nat)), .bl (!decide (V.str n = V.str "day"))]) Go.refl nr
    exact hF _ _ k2 (.tup (.inl (.inl upd_same)) (.cons (.str n) (.cons (.tup (sqT_go k3 (.inl (.inl upd_same))) (.cons (.int _) (.cons (.int _) .nil))) (.cons (.int _) (.cons (.bl _) .nil)))))
  refine ⟨D2, _, rfl, .inl ⟨SqL.of e3, fun p6 np6 => ?_⟩⟩
  have g36 : Go T [] H3 (upd H3 p6 (.tup acc3)) := Go.new Go.refl np6
  have d6 : Dp K (upd H3 p6 (.tup acc3)) (.ref p6) (.tuple (sixL.map eL)) := .tup (.inl (.inl upd_same)) (DpAll.go g36 _ _ (fz_map _ fz_eL _) d3)
  have g06 := (g2.trans g3).trans g36
  have d16 : Dp K (upd H3 p6 (.tup acc3)) v1 (.tuple (twoL.map eL)) := Dp.go (((Go.new Go.refl n1 : Go T [] H1 _).trans g3).trans g36) _ _ rfl d1
  generalize upd H3 p6 (.tup acc3) = H6 at *
  refine ⟨6, rfl, by decide, by decide, fun D3 n3 => ?_⟩
  refine lc_dp (K := K) (T := T) (m := []) (walk_range (lo := 0) (n := 6)) n3 (fun a ha => absurd ha (by simp)) (small (by decide)) (farD.map eF) rfl (fz_map _ fz_eF _) (fun H3 g => trivial) (fun i x H7 H8 dn hdn g y F Z hF => ?_) fun H7 acc7 g7 e7 d7 => ?_
  · obtain ⟨rfl, rfl⟩ := y
    have hi : i < 6 := by
      have := (List.getElem?_eq_some_iff.mp hdn).1
      simpa [farD] using this
    refine ⟨rfl, _, rfl, (by show 2 ≤ sizeLine; decide), fun q nq => ⟨q, _, rfl, .inr (.inl (.inl upd_same)), rfl, rfl, _, rfl, ?_⟩⟩
    have hf := fun (x y : Int) (e : dn = .tuple [.int x, .int y]) (r : Addr) (nr : upd H8 q (.tup [.int 0, .int 2]) r = none) =>
      hF (.ref r) (upd (upd H8 q (.tup [.int 0, .int 2])) r (.tup [.int x, .int y])) ((Go.new Go.refl nq).new nr) (by rw [e]; exact .tup (.inl (.inl upd_same)) (.cons (.int _) (.cons (.int _) .nil)))
    have hc : i = 0 ∨ i = 1 ∨ i = 2 ∨ i = 3 ∨ i = 4 ∨ i = 5 := by omega
    rcases hc with rfl | rfl | rfl | rfl | rfl | rfl
    · exact iteT ⟨(by show 2 ≤ sizeLine; decide), fun r nr => hf 0 1 (Option.some.inj hdn).symm r nr⟩
    · exact iteF ⟨_, rfl, _, _, rfl, rfl, .inl (by decide), (by show 2 ≤ sizeLine; decide), fun r nr => hf 1000 7 (Option.some.inj hdn).symm r nr⟩
    · exact iteT ⟨(by show 2 ≤ sizeLine; decide), fun r nr => hf 0 1 (Option.some.inj hdn).symm r nr⟩
    · exact iteF ⟨_, rfl, _, _, rfl, rfl, .inl (by decide), (by show 2 ≤ sizeLine; decide), fun r nr => hf 3000 7 (Option.some.inj hdn).symm r nr⟩
    · exact iteF ⟨_, rfl, _, _, rfl, rfl, .inl (by decide), (by show 2 ≤ sizeLine; decide), fun r nr => hf 4000 7 (Option.some.inj hdn).symm r nr⟩
    · exact iteF ⟨_, rfl, _, _, rfl, rfl, .inl (by decide), (by show 2 ≤ sizeLine; decide), fun r nr => hf 5000 7 (Option.some.inj hdn).symm r nr⟩
  have d16' := Dp.go g7 _ _ rfl d16
  have d6' := Dp.go g7 _ _ (fz_tupOf _ fz_eL _) d6
  have g07 := g06.trans g7
  refine ⟨D3, _, rfl, .inl ⟨SqL.of e7, fun pf npf => ?_⟩⟩
  have k1 : Go T [] H7 (upd H7 pf (.tup acc7)) := Go.new Go.refl npf
  have df : Dp K (upd H7 pf (.tup acc7)) (.ref pf) (eD farD) := .tup (.inl (.inl upd_same)) (DpAll.go k1 _ _ (fz_map _ fz_eF _) d7)
  refine ⟨(by show 1 ≤ sizeLine; decide), fun D4 n4 => ?_⟩
  refine ⟨D4, 10, [.ref pf], rfl, rfl, upd_same, by decide, by decide, (by show 10 ≤ sizeLine; decide), fun D5 n5 => ?_⟩
  refine ⟨D5, _, rfl, .inl ⟨SqL.of upd_same, fun p7 np7 => ?_⟩⟩
  have k2 : Go T [] (upd H7 pf (.tup acc7)) _ := ((Go.new (o := .lst [.ref pf]) Go.refl n4).new (o := .lst (List.replicate (10 : Int).toNat [V.ref pf]).flatten) n5).new (o := .tup (List.replicate (10 : Int).toNat [V.ref pf]).flatten) np7
  have df2 := Dp.go k2 _ _ (fz_eD _) df
  have dfar : Dp K _ (.ref p7) (.tuple ((List.replicate 10 farD).map eD)) := .tup (.inl (.inl upd_same)) (.cons df2 (.cons df2 (.cons df2 (.cons df2 (.cons df2 (.cons df2 (.cons df2 (.cons df2 (.cons df2 (.cons df2 .nil))))))))))
  have gA := g07.trans (k1.trans k2)
  have dA1 := Dp.go (k1.trans k2) _ _ rfl d16'
  have dA2 := Dp.go (k1.trans k2) _ _ (fz_tupOf _ fz_eL _) d6'
  refine fun H8 v8 g8 d8 => ⟨(by show 1 ≤ sizeLine; decide), fun D6 n6 => ?_⟩
  have kB := g8.new (o := .lst [v8]) n6
  have dB1 := Dp.go kB _ _ rfl dA1
  have dB2 := Dp.go kB _ _ (fz_tupOf _ fz_eL _) dA2
  have dB3 := Dp.go kB _ _ (fz_tupOf _ fz_eD _) dfar
  have dB8 : Dp K _ v8 (eSh fixed1) := Dp.go (Go.new (T := T) (m := []) (o := .lst [v8]) Go.refl n6) _ _ rfl d8
  have gB := gA.trans kB
  have eB6 : upd H8 D6 (.lst [v8]) D6 = some (.lst [v8]) := upd_same
  generalize upd H8 D6 (.lst [v8]) = HB at *
  refine ⟨_, rfl, _, rfl, fun H9 v9 g9 d9 H10 v10 g10 d10 => ⟨(by show 3 ≤ sizeLine; decide), fun t2 nt2 => ⟨(by show 1 ≤ sizeLine; decide), fun D7 n7 => ?_⟩⟩⟩
  have kC := ((g9.trans g10).new (o := .tup [v1, v9, v10]) nt2).new (o := .lst [.ref t2]) n7
  have eC6 := kC.keep D6 _ (by simp) eB6 fun ps z => (by cases z)
  refine ⟨D6, D7, [v8], [.ref t2], rfl, rfl, eC6, upd_same, (by show 2 ≤ sizeLine; decide), fun D8 n8 => ?_⟩
  have kD := kC.new (o := .lst [v8, .ref t2]) n8
  have d2a : Dp K _ (.ref t2) (eSh fixed2) := .tup (.inl (.inl upd_same)) (.cons (Dp.go ((g9.trans g10).new (o := .tup [v1, v9, v10]) nt2) _ _ rfl dB1) (.cons (Dp.go (g10.new (o := .tup [v1, v9, v10]) nt2) _ _ rfl d9) (.cons (Dp.go (Go.new (T := T) (m := []) (o := .tup [v1, v9, v10]) Go.refl nt2) _ _ rfl d10) .nil)))
  have dD8 := Dp.go kD _ _ rfl dB8
  have dD1 := Dp.go kD _ _ rfl dB1
  have dD2 := Dp.go kD _ _ (fz_tupOf _ fz_eL _) dB2
  have dD3 := Dp.go kD _ _ (fz_tupOf _ fz_eD _) dB3
  have d2 := Dp.go ((Go.new (T := T) (m := []) (o := .lst [.ref t2]) Go.refl n7).new (o := .lst [v8, .ref t2]) n8) _ _ rfl d2a
  have gD := gB.trans kD
  have nD8 : H D8 = none := (gB.trans kC).there _ n8
  refine ⟨_, rfl, .inl ⟨rfl, _, SqL.of upd_same⟩, _, rfl, fun H11 v11 g11 d11 => ⟨_, rfl, (by show 3 ≤ sizeLine; decide), fun t3 nt3 => ?_⟩⟩
  have kT := Go.new (T := T) (m := []) (o := .tup [.ref p6, v11, .ref p7]) Go.refl nt3
  have kE := g11.trans kT
  have d3 : Dp K _ (.ref t3) (eSh fixed3) := .tup (.inl (.inl upd_same)) (.cons (Dp.go kE _ _ (fz_tupOf _ fz_eL _) dD2) (.cons (Dp.go kT _ _ rfl d11) (.cons (Dp.go kE _ _ (fz_tupOf _ fz_eD _) dD3) .nil)))
  have eE8 := kE.keep D8 _ (by simp) upd_same fun ps z => (by cases z)
  refine ⟨D8, _, _, rfl, rfl, eE8, (by show 2 < sizeLine; decide), ?_⟩
  have kU := Go.put (T := T) (m := [D8]) (o := .lst ([v8, .ref t2] ++ [.ref t3])) Go.refl (.inl (by simp)) eE8 rfl
  have d3' := Dp.go kU _ _ rfl d3
  have d2' := Dp.go kU _ _ rfl (Dp.go kE _ _ rfl d2)
  have d1' := Dp.go kU _ _ rfl (Dp.go kE _ _ rfl (Dp.go (kC.new (o := .lst [v8, .ref t2]) n8) _ _ rfl dB8))
  have dt' := Dp.go kU _ _ rfl (Dp.go kE _ _ rfl dD1)
  have gU := (gD.trans kE).put (.inr nD8) eE8 (o := .lst ([v8, .ref t2] ++ [.ref t3])) rfl
  refine ⟨_, rfl, fun H12 v12 g12 d12 => ⟨(by show 0 ≤ sizeLine; decide), fun q1 nq1 => fun H13 v13 g13 d13 => ?_⟩⟩
  obtain ⟨l13, x13, rfl, sq13, dx13⟩ := dp_tup1 d13
  refine ⟨l13, 3, [x13], rfl, rfl, sq13, List.cons_ne_nil _ _, (by decide), (by decide), (by show 1 ≤ 1000; decide), fun q2 nq2 => ?_⟩
  refine ⟨(by show 3 ≤ sizeLine; decide), fun t4 nt4 => ?_⟩
  refine ⟨_, rfl, (by show 0 ≤ sizeLine; decide), fun q5 nq5 => ⟨(by show 0 ≤ sizeLine; decide), fun q6 nq6 => ⟨(by show 3 ≤ sizeLine; decide), fun t5 nt5 => ⟨(by show 2 ≤ sizeLine; decide), fun D9 n9 => ?_⟩⟩⟩⟩
  have a1 := Go.new (T := T) (m := []) (o := .tup []) Go.refl nq1
  have a2 := Go.new (T := T) (m := []) (o := .tup (List.replicate (3 : Int).toNat [x13]).flatten) Go.refl nq2
  have a4 := Go.new (T := T) (m := []) (o := .tup [v12, .ref q1, .ref q2]) Go.refl nt4
  have a5 := Go.new (T := T) (m := []) (o := .tup []) Go.refl nq5
  have a6 := Go.new (T := T) (m := []) (o := .tup []) Go.refl nq6
  have a7 := Go.new (T := T) (m := []) (o := .tup [v1, .ref q5, .ref q6]) Go.refl nt5
  have a9 := Go.new (T := T) (m := []) (o := .lst [.ref t4, .ref t5]) Go.refl n9
  have b7 := a7.trans a9
  have b6 := a6.trans b7
  have b5 := a5.trans b6
  have b4 := a4.trans b5
  have b2 := a2.trans b4
  have b13 := g13.trans b2
  have b1 := a1.trans b13
  have b12 := g12.trans b1
  have s4 : Dp K _ (.ref t4) (eSh fixed4) := .tup (.inl (.inl upd_same)) (.cons (Dp.go (((a1.trans g13).trans a2).trans a4) _ _ rfl d12) (.cons (Dp.go ((g13.trans a2).trans a4) _ _ rfl (.tup (.inl (.inl upd_same)) .nil)) (.cons (Dp.go a4 _ _ rfl (.tup (.inl (.inl upd_same)) (.cons (Dp.go a2 _ _ rfl dx13) (.cons (Dp.go a2 _ _ rfl dx13) (.cons (Dp.go a2 _ _ rfl dx13) .nil))))) .nil)))
  have s5 : Dp K _ (.ref t5) (eSh fixed5) := .tup (.inl (.inl upd_same)) (.cons (Dp.go ((((((g12.trans a1).trans g13).trans a2).trans a4).trans (a5.trans a6)).trans a7) _ _ rfl dt') (.cons (Dp.go (a6.trans a7) _ _ rfl (.tup (.inl (.inl upd_same)) .nil)) (.cons (Dp.go a7 _ _ rfl (.tup (.inl (.inl upd_same)) .nil)) .nil)))
  refine ⟨D8, D9, [v8, .ref t2, .ref t3], [.ref t4, .ref t5], rfl, rfl, b12.keep D8 _ (by simp) upd_same fun ps z => (by cases z), upd_same, (by show 5 ≤ sizeLine; decide), fun D10 n10 => ?_⟩
  have c10 := Go.new (T := T) (m := []) (o := .lst ([v8, .ref t2, .ref t3] ++ [.ref t4, .ref t5])) Go.refl n10
  have all := b12.trans c10
  refine hQ _ D10 _ (gU.trans all) upd_same ((gU.trans b12).there _ n10) (.cons (Dp.go all _ _ rfl d1') (.cons (Dp.go all _ _ rfl d2') (.cons (Dp.go all _ _ rfl d3') (.cons (Dp.go (b5.trans c10) _ _ rfl s4) (.cons (Dp.go (a9.trans c10) _ _ rfl s5) .nil)))))
end Cb
/-! ## CbP8 -/
set_option maxHeartbeats 4000000
/-! A sheet under other names; no program. -/
namespace Cb
open PySem PySem.Spec PyProof.Rows L2
open PySem.W (dataLe dataLt alike alikeAll keyToks keyToksAll dataLt_tuple dataLt_all_no dataLt_all_yes)
/-- the line under its new name -/
def rnL (f : Str → Str) (l : Ln) : Ln := (f l.1, l.2)
def rowsN (f : Str → Str) (x : Sheet) : List Ln := x.ls.map (rnL f)
/-- the key of the k-th line -/
def plK (f : Str → Str) (x : Sheet) (k : Nat) : PyData := .tuple [.str ((rowsN f x).getD k ln0).1, .int (k : Nat)]
def placesOf (f : Str → Str) (x : Sheet) : List Nat := (List.range x.ls.length).mergeSort (dataLe false (plK f x))
def secN (f : Str → Str) (s : List Str) : List Str := sortS (s.map f)
def movedOf (f : Str → Str) (x : Sheet) : Sheet := ⟨(placesOf f x).map fun k => (rowsN f x).getD k ln0, (x.ss.map (secN f)).mergeSort (dataLe false eS), x.ds.map fun d => (placesOf f x).map fun k => d.getD k (0, 1)⟩
def movedB (f : Str → Str) (x : Sheet) (bk : List (List Int)) : List (List Int) := bk.map fun b => (placesOf f x).map fun k => b.getD k 0
abbrev namesOf (x : Sheet) : List Str := x.ls.map (·.1)
/-- other names, apart, good -/
structure Ren (f : Str → Str) (ns : List Str) : Prop where
  inj : ∀ a ∈ ns, ∀ b ∈ ns, f a = f b → a = b
  ok : ∀ a ∈ ns, NameOk (f a)
theorem pair_ne {a b : Str} {r t : List PyData} (h : a ≠ b) : dataLt (.tuple (.str a :: r)) (.tuple (.str b :: t)) = dataLt (.str a) (.str b) := by
  rw [dataLt_tuple, dataLt_all_no (by simp [alike]) (by simp [PyData.eqv, h])]
section
variable {f : Str → Str} {x : Sheet}
theorem rows_at {k : Nat} (h : k < x.ls.length) : (rowsN f x).getD k ln0 = rnL f (x.ls.getD k ln0) := by
  unfold rowsN
  rw [List.getD_eq_getElem?_getD, List.getD_eq_getElem?_getD, List.getElem?_map, List.getElem?_eq_getElem h]
  rfl
theorem ls_at {k : Nat} (h : k < x.ls.length) : x.ls.getD k ln0 = x.ls[k] := by
  rw [List.getD_eq_getElem?_getD, List.getElem?_eq_getElem h]
  rfl
theorem places_perm : (placesOf f x).Perm (List.range x.ls.length) := List.mergeSort_perm _ _
theorem places_len : (placesOf f x).length = x.ls.length := by rw [places_perm.length_eq, List.length_range]
theorem places_mem {k : Nat} : k ∈ placesOf f x ↔ k < x.ls.length := by rw [places_perm.mem_iff, List.mem_range]
theorem name_mem {k : Nat} (h : k < x.ls.length) : (x.ls.getD k ln0).1 ∈ namesOf x := by
  rw [ls_at h]
  exact List.mem_map.mpr ⟨_, List.getElem_mem h, rfl⟩
theorem name_inj (nd : (namesOf x).Nodup) {j k : Nat} (hj : j < x.ls.length) (hk : k < x.ls.length) (e : (x.ls.getD j ln0).1 = (x.ls.getD k ln0).1) : j = k := by
  rw [ls_at hj, ls_at hk] at e
  have ej : (namesOf x)[j]? = some x.ls[j].1 := by rw [List.getElem?_map, List.getElem?_eq_getElem hj]; rfl
  have ek : (namesOf x)[k]? = some x.ls[k].1 := by rw [List.getElem?_map, List.getElem?_eq_getElem hk]; rfl
  have hj' : j < (namesOf x).length := by rw [List.length_map]; exact hj
  exact (List.getElem?_inj hj' nd).mp (by rw [ej, ek, e])
theorem plK_toks {j k : Nat} (h : keyToks (plK f x j) = keyToks (plK f x k)) : j = k := by
  simp only [plK, keyToks, keyToksAll, List.cons_append, List.nil_append] at h
  injection h with _ h
  injection h with _ h
  injection h with _ h
  injection h with h _
  injection h with h
  omega
theorem places_lt : (placesOf f x).Pairwise fun j k => dataLt (plK f x j) (plK f x k) = true := sort_strict (plK f x) (fun a _ b _ e => plK_toks e) List.nodup_range
theorem places_asc (R : Ren f (namesOf x)) (nd : (namesOf x).Nodup) : (placesOf f x).Pairwise fun j k => ltS ((rowsN f x).getD j ln0).1 ((rowsN f x).getD k ln0).1 := by
  refine places_lt.imp_of_mem fun {j k} hj hk h => ?_
  rw [places_mem] at hj hk
  refine ltS_iff.mpr ?_
  rw [plK, plK, pair_ne fun e => ?_] at h
  · exact h
  · rw [rows_at hj, rows_at hk] at e
    have := name_inj nd hj hk (R.inj _ (name_mem hj) _ (name_mem hk) e)
    rw [this] at h
    exact lt_irrefl' h
theorem moved_names : namesOf (movedOf f x) = (placesOf f x).map fun k => ((rowsN f x).getD k ln0).1 := by
  unfold namesOf movedOf
  rw [List.map_map]
  rfl
theorem moved_name_mem {n : Str} (h : n ∈ namesOf x) : f n ∈ namesOf (movedOf f x) := by
  rw [moved_names]
  obtain ⟨l, hl, rfl⟩ := List.mem_map.mp h
  obtain ⟨k, hk, rfl⟩ := List.mem_iff_getElem.mp hl
  exact List.mem_map.mpr ⟨k, places_mem.mpr hk, by rw [rows_at hk, ls_at hk]; rfl⟩
theorem moved_ls (L : LinesOk x.ls) (R : Ren f (namesOf x)) : LinesOk (movedOf f x).ls := by
  have at_ : ∀ l ∈ (movedOf f x).ls, ∃ m ∈ x.ls, l = rnL f m := fun l hl => by
    obtain ⟨k, hk, rfl⟩ := List.mem_map.mp hl
    rw [places_mem] at hk
    exact ⟨x.ls[k], List.getElem_mem hk, by rw [rows_at hk, ls_at hk]⟩
  have ll : (movedOf f x).ls.length = x.ls.length := by rw [show (movedOf f x).ls = (placesOf f x).map fun k => (rowsN f x).getD k ln0 from rfl, List.length_map, places_len]
  refine ⟨fun z => ?_, by rw [ll]; exact L.most, fun l hl => ?_, ?_, fun l hl => ?_, fun l hl => ?_⟩
  · rw [z] at ll
    exact L.ne (List.length_eq_zero_iff.mp ll.symm)
  · obtain ⟨m, hm, rfl⟩ := at_ l hl
    exact R.ok _ (List.mem_map.mpr ⟨m, hm, rfl⟩)
  · rw [show (movedOf f x).ls.map (·.1) = namesOf (movedOf f x) from rfl, moved_names, List.pairwise_map]
    exact places_asc R (asc_nodup L.asc)
  · obtain ⟨m, hm, rfl⟩ := at_ l hl
    exact L.fr m hm
  · obtain ⟨m, hm, rfl⟩ := at_ l hl
    exact L.cents m hm
end
/-! ### sections -/
section
variable {f : Str → Str} {ns : List Str}
theorem map_nodup (R : Ren f ns) {s : List Str} (nd : s.Nodup) (h : ∀ n ∈ s, n ∈ ns) : (s.map f).Nodup := by
  unfold List.Nodup at nd ⊢
  rw [List.pairwise_map]
  exact nd.imp_of_mem fun {a b} ha hb q e => q (R.inj a (h a ha) b (h b hb) e)
theorem mem_secN {s : List Str} {n : Str} : n ∈ secN f s ↔ n ∈ s.map f := by
  unfold secN sortS
  exact List.mem_mergeSort
theorem mem_secN' (R : Ren f ns) {s : List Str} (h : ∀ n ∈ s, n ∈ ns) {n : Str} (hn : n ∈ ns) : f n ∈ secN f s ↔ n ∈ s := by
  rw [mem_secN, List.mem_map]
  exact ⟨fun ⟨m, hm, e⟩ => by rw [← R.inj m (h m hm) n hn e]; exact hm, fun z => ⟨n, z, rfl⟩⟩
theorem secN_filter (R : Ren f ns) {s t : List Str} (hs : ∀ n ∈ s, n ∈ ns) (ht : ∀ n ∈ t, n ∈ ns) : ((secN f s).filter fun n => decide (n ∈ secN f t)).length = (s.filter fun n => decide (n ∈ t)).length := by
  have p : (secN f s).Perm (s.map f) := sortS_perm _
  rw [(p.filter _).length_eq, List.filter_map, List.length_map]
  refine congrArg List.length (List.filter_congr fun n hn => ?_)
  exact decide_eq_decide.mpr (mem_secN' R ht (hs n hn))
theorem secN_len (s : List Str) : (secN f s).length = s.length := by
  unfold secN
  rw [sortS_len, List.length_map]
theorem secN_crs (R : Ren f ns) {s t : List Str} (hs : ∀ n ∈ s, n ∈ ns) (ht : ∀ n ∈ t, n ∈ ns) (h : Crs (secN f s) (secN f t)) : Crs s t := by
  obtain ⟨h1, h2⟩ := h
  rw [secN_filter R hs ht, secN_len, secN_len] at h2
  refine ⟨fun z => h1 (List.length_eq_zero_iff.mp ?_), h2⟩
  rw [secN_filter R hs ht, z]
  rfl
theorem secN_inj (R : Ren f ns) {s t : List Str} (hs : ∀ n ∈ s, n ∈ ns) (ht : ∀ n ∈ t, n ∈ ns) (as : s.Pairwise ltS) (at_ : t.Pairwise ltS) (h : secN f s = secN f t) : s = t := by
  refine asc_unique as at_ ((List.perm_ext_iff_of_nodup (asc_nodup as) (asc_nodup at_)).mpr fun n => ?_)
  constructor
  · intro hn
    exact (mem_secN' R ht (hs n hn)).mp (by rw [← h]; exact (mem_secN' R hs (hs n hn)).mpr hn)
  · intro hn
    exact (mem_secN' R hs (ht n hn)).mp (by rw [h]; exact (mem_secN' R ht (ht n hn)).mpr hn)
theorem ltL_ne {s t : List Str} (h : ltL s t) : s ≠ t := fun z => by
  rw [z] at h
  exact lt_irrefl' h
theorem moved_ss {ns' : List Str} {ss : List (List Str)} (S : SecsOk ns ss) (R : Ren f ns) (hn : ∀ n ∈ ns, f n ∈ ns') : SecsOk ns' ((ss.map (secN f)).mergeSort (dataLe false eS)) := by
  have hp := List.mergeSort_perm (ss.map (secN f)) (dataLe false eS)
  have at_ : ∀ u ∈ (ss.map (secN f)).mergeSort (dataLe false eS), ∃ s ∈ ss, u = secN f s := fun u hu => by
    obtain ⟨s, hs, rfl⟩ := List.mem_map.mp (hp.mem_iff.mp hu)
    exact ⟨s, hs, rfl⟩
  refine ⟨by rw [List.length_mergeSort, List.length_map]; exact S.most, fun u hu => ?_, fun u hu => ?_, fun u hu n hm => ?_, ?_, ?_⟩
  · obtain ⟨s, hs, rfl⟩ := at_ u hu
    rw [secN_len]
    exact S.len s hs
  · obtain ⟨s, hs, rfl⟩ := at_ u hu
    exact sortS_asc (map_nodup R (asc_nodup (S.asc s hs)) (S.sub s hs))
  · obtain ⟨s, hs, rfl⟩ := at_ u hu
    obtain ⟨m, hm2, rfl⟩ := List.mem_map.mp (mem_secN.mp hm)
    exact hn m (S.sub s hs m hm2)
  · refine sort_strict eS (fun a _ b _ e => toks_eS e) ?_
    unfold List.Nodup
    rw [List.pairwise_map]
    exact S.rise.imp_of_mem fun {s t} hs ht q e => ltL_ne q (secN_inj R (S.sub s hs) (S.sub t ht) (S.asc s hs) (S.asc t ht) e)
  · have p1 : (ss.map (secN f)).Pairwise fun a b => ¬ Crs a b ∧ ¬ Crs b a := by
      rw [List.pairwise_map]
      refine S.nocr.imp_of_mem fun {s t} hs ht q => ?_
      have n1 : ¬ Crs s t := fun z => q (z.symm (asc_nodup (S.asc s hs)) (asc_nodup (S.asc t ht)))
      exact ⟨fun z => n1 (secN_crs R (S.sub s hs) (S.sub t ht) z), fun z => q (secN_crs R (S.sub t ht) (S.sub s hs) z)⟩
    have p2 : ((ss.map (secN f)).mergeSort (dataLe false eS)).Pairwise fun a b => ¬ Crs a b ∧ ¬ Crs b a := hp.symm.pairwise p1 (fun {a b} q => ⟨q.2, q.1⟩)
    exact p2.imp fun {a b} q => q.2
end
section
variable {f : Str → Str} {x : Sheet}
theorem day_at {ls : List Ln} {d : List Fr} (D : DayOk ls d) {k : Nat} (h : k < ls.length) : d.getD k (0, 1) ∈ d := by
  rw [List.getD_eq_getElem?_getD, List.getElem?_eq_getElem (by rw [D.len]; exact h)]
  exact List.getElem_mem _
theorem moved_day {d : List Fr} (D : DayOk x.ls d) : DayOk (movedOf f x).ls ((placesOf f x).map fun k => d.getD k (0, 1)) := by
  refine ⟨by rw [List.length_map]; exact (List.length_map _).symm, fun q hq => ?_, fun i l q hl hq hf => ?_⟩
  · obtain ⟨k, hk, rfl⟩ := List.mem_map.mp hq
    exact D.fr _ (day_at D (places_mem.mp hk))
  · have hl : ((placesOf f x).map fun k => (rowsN f x).getD k ln0)[i]? = some l := hl
    rw [List.getElem?_map] at hl hq
    cases e : (placesOf f x)[i]? with
    | none =>
      rw [e] at hl
      cases hl
    | some k =>
      rw [e] at hl hq
      cases hl
      cases hq
      have hk := places_mem.mp (List.mem_of_getElem? e)
      have hf : ((rowsN f x).getD k ln0).2.2.2 = false := hf
      rw [rows_at hk, ls_at hk] at hf
      have hkd : k < d.length := by rw [D.len]; exact hk
      show (d.getD k (0, 1)).1 = 0
      rw [List.getD_eq_getElem?_getD, List.getElem?_eq_getElem hkd]
      exact D.none k x.ls[k] d[k] (List.getElem?_eq_getElem hk) (List.getElem?_eq_getElem hkd) hf
theorem moved_good (g : Good x) (R : Ren f (namesOf x)) : Good (movedOf f x) := by
  refine ⟨moved_ls g.ls R, moved_ss g.ss R fun n hn => moved_name_mem hn, by rw [show (movedOf f x).ds.length = x.ds.length from List.length_map _]; exact g.dn, fun d hd => ?_⟩
  obtain ⟨d0, h0, rfl⟩ := List.mem_map.mp hd
  exact moved_day (g.ds d0 h0)
theorem moved_len : (movedOf f x).ls.length = x.ls.length := (List.length_map _).trans places_len
theorem moved_days : (movedOf f x).ds.length = x.ds.length := List.length_map _
/-! ### a part, the states -/
theorem part_good {d : Nat} (g : Good x) : Good (partOf x d) := by
  refine ⟨g.ls, g.ss, ?_, fun d hd => g.ds d ?_⟩
  · show ((x.ds.drop _).take 1).length ≤ 10
    rw [List.length_take]
    omega
  · exact List.mem_of_mem_drop (List.mem_of_mem_take hd)
theorem part_moved (d : Nat) : partOf (movedOf f x) d = movedOf f (partOf x d) := by
  unfold partOf movedOf
  rw [List.map_take, List.map_drop]
  rfl
theorem st_rn (l : Ln) (cs : List Fr) (bs : List Int) : stLn (rnL f l) cs bs = rnL f (stLn l cs bs) := rfl
theorem getD_map {α β : Type} (l : List α) (g : α → β) (i : Nat) (h : i < l.length) (z : β) : (l.map g).getD i z = g l[i] := by
  rw [List.getD_eq_getElem?_getD, List.getElem?_map, List.getElem?_eq_getElem h]
  rfl
theorem state_moved (bk : List (List Int)) : stateAfter (movedOf f x) (movedB f x bk) = (placesOf f x).map fun k => rnL f ((stateAfter x bk).getD k ln0) := by
  have e1 : (stateAfter (movedOf f x) (movedB f x bk)).length = (movedOf f x).ls.length := by unfold stateAfter; simp
  have e2 : (stateAfter x bk).length = x.ls.length := by unfold stateAfter; simp
  refine List.ext_getElem (by rw [e1, moved_len, List.length_map, places_len]) fun i h1 h2 => ?_
  have hp : i < (placesOf f x).length := by rw [List.length_map] at h2; exact h2
  have hk : (placesOf f x)[i] < x.ls.length := places_mem.mp (List.getElem_mem hp)
  rw [List.getElem_map]
  have c1 : colF (movedOf f x).ds i = colF x.ds (placesOf f x)[i] := by
    unfold colF movedOf
    rw [List.map_map]
    exact List.map_congr_left fun d _ => getD_map _ _ i hp _
  have c2 : colI (movedB f x bk) i = colI bk (placesOf f x)[i] := by
    unfold colI movedB
    rw [List.map_map]
    exact List.map_congr_left fun d _ => getD_map _ _ i hp _
  have c3 : (movedOf f x).ls.getD i ln0 = rnL f (x.ls.getD (placesOf f x)[i] ln0) := by
    rw [← rows_at hk]
    exact getD_map _ _ i hp _
  have a1 : (stateAfter (movedOf f x) (movedB f x bk))[i]? = some (stLn ((movedOf f x).ls.getD i ln0) (colF (movedOf f x).ds i) (colI (movedB f x bk) i)) := by
    unfold stateAfter
    rw [List.getElem?_map, List.getElem?_range (by rw [moved_len, ← places_len (f := f)]; exact hp)]
    rfl
  rw [List.getElem?_eq_getElem h1] at a1
  have a2 : (stateAfter x bk)[(placesOf f x)[i]]? = some (stLn (x.ls.getD (placesOf f x)[i] ln0) (colF x.ds (placesOf f x)[i]) (colI bk (placesOf f x)[i])) := by
    unfold stateAfter
    rw [List.getElem?_map, List.getElem?_range hk]
    rfl
  rw [Option.some.inj a1, c1, c2, c3, st_rn, List.getD_eq_getElem?_getD (l := stateAfter x bk), a2]
  rfl
end
/-! ### fresh states -/
theorem toks_eL {a b : Ln} (h : keyToks (eL a) = keyToks (eL b)) : a = b := by
  obtain ⟨n, ⟨p, q⟩, c, g⟩ := a
  obtain ⟨n', ⟨p', q'⟩, c', g'⟩ := b
  simp only [eL, eF, keyToks, keyToksAll, List.cons_append, List.nil_append, List.cons.injEq, Sum.inr.injEq, Sum.inl.injEq, and_true, true_and] at h
  obtain ⟨h1, h2, h3, h4, h5⟩ := h
  rw [sg_inj h1, h2, h3, h4]
  cases g <;> cases g' <;> simp_all
theorem fresh_moved {f : Str → Str} {ns : List Str} (R : Ren f ns) (nd : ns.Nodup) : (((sortS ns).map fun n => rnL f (freshLn n)).mergeSort (dataLe false eL)) = (sortS (ns.map f)).map freshLn := by
  have e : ((sortS ns).map fun n => rnL f (freshLn n)) = ((sortS ns).map f).map freshLn := by
    rw [List.map_map]
    rfl
  have asc := sortS_asc (map_nodup R nd fun n h => h)
  have asc2 : ((sortS (ns.map f)).map freshLn).Pairwise fun a b => dataLt (eL a) (eL b) = true := by
    rw [List.pairwise_map]
    refine asc.imp fun {a b} q => ?_
    have hne : a ≠ b := fun z => by
      rw [z] at q
      exact ltS_irrefl q
    show dataLt (.tuple (.str a :: _)) (.tuple (.str b :: _)) = true
    rw [pair_ne hne]
    exact ltS_iff.mp q
  have perm : ((sortS ns).map fun n => rnL f (freshLn n)).Perm ((sortS (ns.map f)).map freshLn) := by
    rw [e]
    exact (((sortS_perm ns).map f).trans (sortS_perm (ns.map f)).symm).map freshLn
  have nd2 : ((sortS (ns.map f)).map freshLn).Nodup := asc2.imp fun {a b} q z => by
    rw [z] at q
    exact lt_irrefl' q
  refine strict_unique (k := eL) (sort_strict eL (fun a _ b _ z => toks_eL z) (perm.nodup_iff.mpr nd2)) asc2 ((List.mergeSort_perm _ _).trans perm)
/-! ### names in the same order -/
structure Rise (f : Str → Str) (ns : List Str) : Prop where
  up : ∀ a ∈ ns, ∀ b ∈ ns, ltS a b → ltS (f a) (f b)
theorem ltL_up {f : Str → Str} {ns : List Str} (U : Rise f ns) : ∀ {s t : List Str}, (∀ n ∈ s, n ∈ ns) → (∀ n ∈ t, n ∈ ns) → ltL s t → ltL (s.map f) (t.map f)
  | [], [], _, _, h => h
  | [], b :: t, _, _, _ => by
    unfold ltL eS
    rw [dataLt_tuple]
    simp only [List.map_nil, List.map_cons, keyToksAll]
    rw [PyProof.Rows.lex_diff (O := PyProof.Rows.itemOrd) (by simp)]
    rfl
  | a :: s, [], _, _, h => by
    unfold ltL eS at h
    rw [dataLt_tuple] at h
    simp only [List.map_nil, List.map_cons, keyToksAll] at h
    rw [PyProof.Rows.lex_diff (O := PyProof.Rows.itemOrd) (by simp)] at h
    exact absurd h (by decide)
  | a :: s, b :: t, hs, ht, h => by
    have ha := hs a List.mem_cons_self
    have hb := ht b List.mem_cons_self
    by_cases e : a = b
    · subst e
      have k : ∀ (c : Str) (u v : List Str), ltL (c :: u) (c :: v) ↔ ltL u v := fun c u v => by
        unfold ltL eS
        rw [dataLt_tuple, dataLt_tuple, List.map_cons, List.map_cons, dataLt_all_yes (by simp [alike]) (by simp [PyData.eqv])]
      rw [k] at h
      rw [List.map_cons, List.map_cons, k]
      exact ltL_up U (fun n hn => hs n (List.mem_cons_of_mem _ hn)) (fun n hn => ht n (List.mem_cons_of_mem _ hn)) h
    · have h' : dataLt (.tuple (.str a :: s.map PyData.str)) (.tuple (.str b :: t.map PyData.str)) = true := h
      rw [pair_ne e] at h'
      have q := U.up a ha b hb (ltS_iff.mpr h')
      have hne : f a ≠ f b := fun z => by
        rw [z] at q
        exact ltS_irrefl q
      show dataLt (.tuple (.str (f a) :: (s.map f).map PyData.str)) (.tuple (.str (f b) :: (t.map f).map PyData.str)) = true
      rw [pair_ne hne]
      exact ltS_iff.mp q
section
variable {f : Str → Str} {x : Sheet}
theorem places_rise (g : Good x) (U : Rise f (namesOf x)) : placesOf f x = List.range x.ls.length := by
  refine sort_self ?_
  have hr : (List.range x.ls.length).Pairwise fun j k => j < k := List.pairwise_lt_range
  refine hr.imp_of_mem fun {j k} hj hk q => ?_
  rw [List.mem_range] at hj hk
  have e : ltS (x.ls.getD j ln0).1 (x.ls.getD k ln0).1 := by
    have := List.pairwise_iff_getElem.mp g.ls.asc j k (by rw [List.length_map]; exact hj) (by rw [List.length_map]; exact hk) q
    rw [ls_at hj, ls_at hk]
    rw [List.getElem_map, List.getElem_map] at this
    exact this
  have q2 := U.up _ (name_mem hj) _ (name_mem hk) e
  have hne : f (x.ls.getD j ln0).1 ≠ f (x.ls.getD k ln0).1 := fun z => by
    rw [z] at q2
    exact ltS_irrefl q2
  unfold plK
  rw [rows_at hj, rows_at hk]
  show dataLt (.tuple (.str (f (x.ls.getD j ln0).1) :: _)) (.tuple (.str (f (x.ls.getD k ln0).1) :: _)) = true
  rw [pair_ne hne]
  exact ltS_iff.mp q2
theorem getD_range {α : Type} (l : List α) (z : α) : ((List.range l.length).map fun k => l.getD k z) = l := by
  refine List.ext_getElem (by simp) fun i h1 h2 => ?_
  rw [List.getElem_map, List.getElem_range, List.getD_eq_getElem?_getD, List.getElem?_eq_getElem h2]
  rfl
theorem moved_rise (g : Good x) (U : Rise f (namesOf x)) : movedOf f x = ⟨x.ls.map (rnL f), x.ss.map (List.map f), x.ds⟩ := by
  have e1 : ((placesOf f x).map fun k => (rowsN f x).getD k ln0) = x.ls.map (rnL f) := by
    rw [places_rise g U, show x.ls.length = (rowsN f x).length from (List.length_map _).symm]
    exact getD_range _ _
  have e2 : x.ss.map (secN f) = x.ss.map (List.map f) := List.map_congr_left fun s hs => by
    refine sortS_self ?_
    rw [List.pairwise_map]
    exact (g.ss.asc s hs).imp_of_mem fun {a b} ha hb q => U.up a (g.ss.sub s hs a ha) b (g.ss.sub s hs b hb) q
  have e3 : (x.ss.map (List.map f)).mergeSort (dataLe false eS) = x.ss.map (List.map f) := by
    refine sort_self ?_
    rw [List.pairwise_map]
    exact g.ss.rise.imp_of_mem fun {s t} hs ht q => ltL_up U (g.ss.sub s hs) (g.ss.sub t ht) q
  have e4 : (x.ds.map fun d => (placesOf f x).map fun k => d.getD k (0, 1)) = x.ds := by
    rw [places_rise g U]
    have : ∀ d ∈ x.ds, ((List.range x.ls.length).map fun k => d.getD k (0, 1)) = d := fun d hd => by
      rw [← (g.ds d hd).len]
      exact getD_range _ _
    rw [List.map_congr_left this, List.map_id']
  unfold movedOf
  rw [e1, e2, e3, e4]
end
end Cb
/-! ## CbP9 -/
set_option maxHeartbeats 4000000
/-! The text of a sheet under other names in the same order; no program. -/
namespace Cb
open PySem PySem.Spec PyProof.Rows L2
variable {f : Str → Str} {x : Sheet}
theorem rows_rise (g : Good x) (U : Rise f (namesOf x)) : rowsOf (movedOf f x) = x.ls.map (fun l => wordsL (rnL f l)) ++ (x.ss.map (fun s => wordsS (s.map f)) ++ x.ds.map wordsD) := by
  rw [moved_rise g U]
  unfold rowsOf
  rw [List.map_map, List.map_map]
  rfl
theorem rows_len_eq (g : Good x) (U : Rise f (namesOf x)) : (rowsOf (movedOf f x)).length = (rowsOf x).length := by
  rw [rows_rise g U]
  unfold rowsOf
  simp
/-- a row and its renamed one -/
theorem row_cases (g : Good x) (U : Rise f (namesOf x)) {i : Nat} {ws : List (List Nat)} (h : (rowsOf x)[i]? = some ws) :
    (∃ l ∈ x.ls, ws = wordsL l ∧ (rowsOf (movedOf f x))[i]? = some (wordsL (rnL f l))) ∨ (∃ s ∈ x.ss, ws = wordsS s ∧ (rowsOf (movedOf f x))[i]? = some (wordsS (s.map f))) ∨
    (∃ d ∈ x.ds, ws = wordsD d ∧ (rowsOf (movedOf f x))[i]? = some (wordsD d)) := by
  rw [rows_rise g U]
  unfold rowsOf at h
  rw [List.getElem?_append, List.length_map] at h ⊢
  by_cases h1 : i < x.ls.length
  · rw [if_pos h1, List.getElem?_map, List.getElem?_eq_getElem h1] at h
    rw [if_pos h1, List.getElem?_map, List.getElem?_eq_getElem h1]
    exact .inl ⟨x.ls[i], List.getElem_mem h1, (Option.some.inj h).symm, rfl⟩
  rw [if_neg h1, List.getElem?_append, List.length_map] at h ⊢
  by_cases h2 : i - x.ls.length < x.ss.length
  · rw [if_pos h2, List.getElem?_map, List.getElem?_eq_getElem h2] at h
    rw [if_pos h2, List.getElem?_map, List.getElem?_eq_getElem h2]
    exact .inr (.inl ⟨_, List.getElem_mem h2, (Option.some.inj h).symm, rfl⟩)
  rw [if_neg h2, List.getElem?_map] at h ⊢
  cases e : x.ds[i - x.ls.length - x.ss.length]? with
  | none =>
    rw [e] at h
    cases h
  | some d =>
    rw [e] at h
    exact .inr (.inr ⟨d, List.mem_of_getElem? e, (Option.some.inj h).symm, rfl⟩)
/-! ### the names of the law -/
/-- the k-th name becomes the k-th of the pool -/
def upN (ns : List Str) (n : Str) : Str := pool6.getD (ns.idxOf n) ""
theorem pool_at {i : Nat} (h : i < 6) : pool6.getD i "" ∈ pool6 := by
  rw [List.getD_eq_getElem?_getD, List.getElem?_eq_getElem (show i < pool6.length from h)]
  exact List.getElem_mem _
theorem pool_lt {i j : Nat} (h : i < j) (hj : j < 6) : ltS (pool6.getD i "") (pool6.getD j "") := by
  rw [List.getD_eq_getElem?_getD, List.getD_eq_getElem?_getD, List.getElem?_eq_getElem (show i < pool6.length from Nat.lt_trans h hj), List.getElem?_eq_getElem (show j < pool6.length from hj)]
  exact List.pairwise_iff_getElem.mp pool6_asc i j _ _ h
theorem idx_lt {ns : List Str} (asc : ns.Pairwise ltS) {a b : Str} (ha : a ∈ ns) (hb : b ∈ ns) (h : ltS a b) : ns.idxOf a < ns.idxOf b := by
  have la := List.idxOf_lt_length_of_mem ha
  have lb := List.idxOf_lt_length_of_mem hb
  have ea : ns[ns.idxOf a] = a := List.getElem_idxOf la
  have eb : ns[ns.idxOf b] = b := List.getElem_idxOf lb
  rcases Nat.lt_trichotomy (ns.idxOf a) (ns.idxOf b) with q | q | q
  · exact q
  · have : a = b := by rw [← ea, ← eb]; simp only [q]
    rw [this] at h
    exact (ltS_irrefl h).elim
  · have := List.pairwise_iff_getElem.mp asc _ _ lb la q
    rw [ea, eb] at this
    exact (ltS_irrefl (ltS_iff.mpr (lt_trans' (ltS_iff.mp h) (ltS_iff.mp this)))).elim
theorem up_rise {ns : List Str} (asc : ns.Pairwise ltS) (h6 : ns.length ≤ 6) : Rise (upN ns) ns :=
  ⟨fun a ha b hb h => pool_lt (idx_lt asc ha hb h) (Nat.lt_of_lt_of_le (List.idxOf_lt_length_of_mem hb) h6)⟩
theorem up_ren {ns : List Str} (asc : ns.Pairwise ltS) (h6 : ns.length ≤ 6) : Ren (upN ns) ns := by
  have m : ∀ a ∈ ns, ns.idxOf a < 6 := fun a ha => Nat.lt_of_lt_of_le (List.idxOf_lt_length_of_mem ha) h6
  refine ⟨fun a ha b hb e => ?_, fun a ha => pool6_ok _ (pool_at (m a ha))⟩
  have la := List.idxOf_lt_length_of_mem ha
  have lb := List.idxOf_lt_length_of_mem hb
  have ea : ns[ns.idxOf a] = a := List.getElem_idxOf la
  have eb : ns[ns.idxOf b] = b := List.getElem_idxOf lb
  have q : ns.idxOf a = ns.idxOf b := by
    rcases Nat.lt_trichotomy (ns.idxOf a) (ns.idxOf b) with q | q | q
    · have := pool_lt q (m b hb)
      unfold upN at e
      rw [e] at this
      exact (ltS_irrefl this).elim
    · exact q
    · have := pool_lt q (m a ha)
      unfold upN at e
      rw [e] at this
      exact (ltS_irrefl this).elim
  rw [← ea, ← eb]
  simp only [q]
end Cb
/-! ## CbP10 -/
set_option maxHeartbeats 4000000
/-! Data that are equal to themselves; the names of the states. -/
namespace Cb
open PySem PySem.Spec PyProof.Rows L2
open PySem.W (dataLe dataLt alike alikeAll)
theorem sh_eqv {d : PyData} (h : SeqAt.shaped d = true) : PyData.eqv d d = true := by
  unfold SeqAt.shaped at h
  rw [Bool.and_eq_true] at h
  exact SeqAt.eqv_refl d h.1
theorem ne_self {d : PyData} (h : SeqAt.shaped d = true) {A B : Prop} (hB : B) : if (!PyData.eqv d d) = true then A else B := by
  rw [sh_eqv h]
  exact iteF hB
theorem shaped_eF (q : Fr) : SeqAt.shaped (eF q) = true := shaped_of (n := 1) (canLay_eF q) (depth_eF q)
theorem shaped_eSh {x : Sheet} (g : Good x) : SeqAt.shaped (eSh x) = true := shaped_of (n := 4) (canLay_eSh g.ls.names g.secNames) (depth_eSh x)
theorem shaped_lines {ls : List Ln} (h : ∀ l ∈ ls, NameOk l.1) : SeqAt.shaped (.tuple (ls.map eL)) = true := shaped_tupOf (n := 2) (fun a ha => canLay_eL (h a ha)) depth_eL
theorem shaped_linesL {ls : List Ln} (h : ∀ l ∈ ls, NameOk l.1) : SeqAt.shaped (.list (ls.map eL)) = true := shaped_lstOf (n := 2) (fun a ha => canLay_eL (h a ha)) depth_eL
theorem alike_eL (a b : Ln) : alike (eL a) (eL b) = true := by simp [eL, eF, alike, alikeAll]
section
variable {f : Str → Str} {x : Sheet}
theorem state_len (bk : List (List Int)) : (stateAfter x bk).length = x.ls.length := by
  unfold stateAfter
  simp
theorem state_at (bk : List (List Int)) {k : Nat} (h : k < x.ls.length) : (stateAfter x bk)[k]? = some ((stateAfter x bk).getD k ln0) := by
  rw [List.getD_eq_getElem?_getD, List.getElem?_eq_getElem (by rw [state_len]; exact h)]
  rfl
theorem state_name (bk : List (List Int)) {k : Nat} (h : k < x.ls.length) : ((stateAfter x bk).getD k ln0).1 = (x.ls.getD k ln0).1 := by
  have a2 : (stateAfter x bk)[k]? = some (stLn (x.ls.getD k ln0) (colF x.ds k) (colI bk k)) := by
    unfold stateAfter
    rw [List.getElem?_map, List.getElem?_range h]
    rfl
  rw [List.getD_eq_getElem?_getD, a2]
  rfl
theorem moved_state_names (R : Ren f (namesOf x)) (bk : List (List Int)) : ∀ l ∈ (placesOf f x).map (fun k => rnL f ((stateAfter x bk).getD k ln0)), NameOk l.1 := fun l hl => by
  obtain ⟨k, hk, rfl⟩ := List.mem_map.mp hl
  have hk := places_mem.mp hk
  show NameOk (f ((stateAfter x bk).getD k ln0).1)
  rw [state_name bk hk]
  exact R.ok _ (name_mem hk)
theorem movedB_len (bk : List (List Int)) : (movedB f x bk).length = bk.length := List.length_map _
theorem movedB_at {bk : List (List Int)} : ∀ b ∈ movedB f x bk, b.length = (movedOf f x).ls.length := fun b hb => by
  obtain ⟨b0, _, rfl⟩ := List.mem_map.mp hb
  rw [List.length_map, moved_len, places_len]
end
end Cb
/-! ## CbP11 -/
set_option maxHeartbeats 4000000
/-! The names that the law gives; dicts of names; no program. -/
namespace Cb
open PySem PySem.Spec PyProof.Rows L2
/-- the k-th name becomes the k-th of fs -/
def asN (fs ns : List Str) (n : Str) : Str := fs.getD (ns.idxOf n) ""
theorem idx_at {ns : List Str} (nd : ns.Nodup) {i : Nat} {n : Str} (h : ns[i]? = some n) : ns.idxOf n = i := by
  have hm := List.mem_of_getElem? h
  have l1 := List.idxOf_lt_length_of_mem hm
  have e1 : ns[ns.idxOf n]? = some n := by
    rw [List.getElem?_eq_getElem l1, List.getElem_idxOf l1]
  exact (List.getElem?_inj l1 nd).mp (by rw [e1, h])
theorem as_at {fs ns : List Str} (nd : ns.Nodup) {i : Nat} {n u : Str} (h : ns[i]? = some n) (h2 : fs[i]? = some u) : asN fs ns n = u := by
  unfold asN
  rw [idx_at nd h, List.getD_eq_getElem?_getD, h2]
  rfl
theorem as_ren {fs ns : List Str} (nd : ns.Nodup) (ndf : fs.Nodup) (hl : ns.length ≤ fs.length) (hp : ∀ u ∈ fs, u ∈ pool6) : Ren (asN fs ns) ns := by
  have at_ : ∀ a ∈ ns, ∃ i u, i < fs.length ∧ ns[i]? = some a ∧ fs[i]? = some u ∧ asN fs ns a = u := fun a ha => by
    obtain ⟨i, hi, rfl⟩ := List.mem_iff_getElem.mp ha
    have hf : i < fs.length := by omega
    exact ⟨i, fs[i], hf, List.getElem?_eq_getElem hi, List.getElem?_eq_getElem hf, as_at nd (List.getElem?_eq_getElem hi) (List.getElem?_eq_getElem hf)⟩
  refine ⟨fun a ha b hb e => ?_, fun a ha => ?_⟩
  · obtain ⟨i, u, hi, h1, h2, h3⟩ := at_ a ha
    obtain ⟨j, v, hj, k1, k2, k3⟩ := at_ b hb
    have : i = j := (List.getElem?_inj hi ndf).mp (by rw [h2, k2, ← h3, ← k3, e])
    subst this
    rw [h1] at k1
    exact Option.some.inj k1
  · obtain ⟨i, u, hi, h1, h2, h3⟩ := at_ a ha
    rw [h3]
    exact pool6_ok u (hp u (List.mem_of_getElem? h2))
theorem up_at {ns : List Str} (nd : ns.Nodup) (h6 : ns.length ≤ 6) {i : Nat} {n : Str} (h : ns[i]? = some n) : pool6[i]? = some (upN ns n) := by
  have hi : i < pool6.length := Nat.lt_of_lt_of_le (List.getElem?_eq_some_iff.mp h).1 h6
  unfold upN
  rw [idx_at nd h, List.getD_eq_getElem?_getD, List.getElem?_eq_getElem hi]
  rfl
def kvN (f : Str → Str) (ns : List Str) : List (Key × V) := ns.map fun m => ((Sum.inr m : Key), V.str (f m))
theorem merge_names (f : Str → Str) : ∀ (ns : List Str) (kvs : List (Key × V)) (n : Str), valV (mergeK kvs (kvN f ns)) (.inr n) = if n ∈ ns then some (.str (f n)) else valV kvs (.inr n)
  | [], kvs, n => by
    rw [if_neg (by simp)]
    rfl
  | a :: ns, kvs, n => by
    have ih := merge_names f ns (putK kvs (.inr a) (.str (f a))) n
    have e : mergeK kvs (kvN f (a :: ns)) = mergeK (putK kvs (.inr a) (.str (f a))) (kvN f ns) := rfl
    rw [e, ih, valV_put]
    by_cases h1 : n ∈ ns
    · rw [if_pos h1, if_pos (List.mem_cons_of_mem _ h1)]
    · rw [if_neg h1]
      by_cases h2 : n = a
      · subst h2
        rw [if_pos rfl, if_pos List.mem_cons_self]
      · rw [if_neg (fun z => h2 (Sum.inr.inj z)), if_neg (fun z => (List.mem_cons.mp z).elim h2 h1)]
def encP (f : Str → Str) (n : Str) : PyData := .tuple [.str n, .str (f n)]
theorem fz_encP (f : Str → Str) (n : Str) : fz (encP f n) = true := by simp [encP, fz, fzAll]
theorem pairs_at {K : PySem.W.Frag} {H : Hp} {f : Str → Str} : ∀ {ns : List Str} {acc : List V}, DpAll K H acc (ns.map (encP f)) → ∃ ps : List Addr, acc = ps.map V.ref ∧ Paired (fun (p : Addr) (kv : Key × V) => SqT K H p [kV kv.1, kv.2]) ps (kvN f ns)
  | [], _, h => by
    cases dpAll_nil h
    exact ⟨[], rfl, .nil⟩
  | n :: ns, _, h => by
    obtain ⟨v, ws, rfl, h1, h2⟩ := dpAll_cons h
    obtain ⟨ps, rfl, h3⟩ := pairs_at h2
    obtain ⟨a, xs, rfl, hs, hd⟩ := dp_tup h1
    obtain ⟨v1, r1, rfl, k1, hd⟩ := dpAll_cons hd
    obtain ⟨v2, r2, rfl, k2, hd⟩ := dpAll_cons hd
    cases dpAll_nil hd
    cases dp_str k1
    cases dp_str k2
    exact ⟨a :: ps, rfl, .cons hs h3⟩
end Cb
/-! ## CbU2 -/
set_option maxHeartbeats 4000000
/-! Readings of whole expressions. -/
namespace Cb
open PySem PySem.Spec PyProof.Rows L2
open NdefX (NTab TabN TabsN NF FnO NScope NOk nok_of nscope_by startF)
open PySem.W (dataLe dataLt alike alikeAll AllAlike Sortable sort_maps)
variable {K : PySem.W.Frag} {T : List NTab}
/-- a dict from names to names -/
def Nm (H : Hp) (a : Addr) (f : Str → Str) (ns : List Str) : Prop := ∃ kvs, H a = some (.dK kvs) ∧ ∀ n ∈ ns, valV kvs (.inr n) = some (.str (f n))
theorem Nm.go {H H' : Hp} {m : List Addr} {a : Addr} {f : Str → Str} {ns : List Str} (h : Nm H a f ns) (g : Go T m H H') (ha : a ∉ m := by simp) : Nm H' a f ns := by
  obtain ⟨kvs, e, h⟩ := h
  exact ⟨kvs, g.keep a _ ha e fun ps z => (by cases z), h⟩
theorem Nm.get {H : Hp} {a : Addr} {f : Str → Str} {ns : List Str} {n : Str} (h : Nm H a f ns) (hn : n ∈ ns) : DGet H a (.str n) (some (.str (f n))) := by
  obtain ⟨kvs, e, h⟩ := h
  rw [← h n hn]
  exact DGet.k (k := Sum.inr n) e
/-- the expression is v, in every later heap -/
def Gv (T : List NTab) (te : TE) (σ : L2.St) (H : Hp) (v : V) : Prop := ∀ (H' : Hp) (Q : VK), Go T [] H H' → Q v H' → te σ H' Q
theorem gv_var {σ : L2.St} {H : Hp} {i : Nat} {v : V} (h : σ[i]? = some (some v)) : Gv T (tVar i) σ H v := fun H' Q _ q => ⟨v, h, q⟩
def tRn (K : PySem.W.Frag) (i : Nat) (te : TE) : TE := tOp (rCatT K) (tTup (tCons (tDGet (tVar i) (tOp (rIxT K) te (tC (.int 0)))) tNil)) (L2.tSl (rSlT K) te (tPart (tC (.int 1))) tNoPart)
/-- (names[e[0]],) + e[1:] -/
theorem te_rn {te : TE} {σ : L2.St} {i : Nat} {H : Hp} {nm : Addr} {v : V} {l : Ln} {f : Str → Str} {ns : List Str} {Q : VK} (hi : σ[i]? = some (some (.ref nm))) (hn : Nm H nm f ns) (hl : l.1 ∈ ns) (hv : Dp K H v (eL l)) (ht : Gv T te σ H v)
    (hQ : ∀ H' u, Go T [] H H' → Dp K H' u (eL (rnL f l)) → Q u H') : tRn K i te σ H Q := by
  obtain ⟨q, w, rfl, hq, hw⟩ := dp_eL hv
  refine ⟨.ref nm, hi, ht H _ Go.refl ⟨q, _, 0, .str l.1, rfl, rfl, hq, atI_at (j := 0) rfl, nm, .str (f l.1), rfl, hn.get hl, (by show 1 ≤ sizeLine; decide), fun p np => ?_⟩⟩
  have g1 : Go T [] H (upd H p (.tup [.str (f l.1)])) := Go.new Go.refl np
  refine ht _ _ g1 ⟨1, rfl, q, _, rfl, sqT_go g1 hq, fun z => ?_, fun p2 np2 => ?_⟩
  · exact absurd z.1 (by show ¬ (HT.sIx 4 0 (some ((1 : Nat) : Int)) = 0); rw [HT.sIx_nat]; decide)
  have ec : cutV [V.str l.1, w, .int l.2.2.1, .bl l.2.2.2] (some 1) none = [w, .int l.2.2.1, .bl l.2.2.2] := cut_from (k := 1) (by show 1 ≤ 4; decide)
  rw [ec]
  have g2 := Go.new (T := T) (m := []) (o := .tup [w, .int l.2.2.1, .bl l.2.2.2]) Go.refl np2
  refine ⟨p, p2, [.str (f l.1)], _, rfl, rfl, sqT_go g2 (.inl (.inl upd_same)), .inl (.inl upd_same), List.cons_ne_nil _ _, (by show 4 ≤ sizeLine; decide), fun z => absurd z (List.cons_ne_nil _ _), fun _ p3 np3 => ?_⟩
  have g3 := Go.new (T := T) (m := []) (o := .tup ([V.str (f l.1)] ++ [w, .int l.2.2.1, .bl l.2.2.2])) Go.refl np3
  have g := (g1.trans g2).trans g3
  exact hQ _ _ g (mk_eL (l := rnL f l) (.inl (.inl upd_same)) (Dp.go g _ _ (fz_eF _) hw))
theorem dpAll_pairs {H : Hp} : ∀ {bs : List (V × PyData)}, (∀ b ∈ bs, Dp K H b.1 b.2) → DpAll K H (bs.map (·.1)) (bs.map (·.2))
  | [], _ => .nil
  | b :: bs, h => .cons (h b List.mem_cons_self) (dpAll_pairs fun c hc => h c (List.mem_cons_of_mem _ hc))
theorem pairs_of_dp {H : Hp} : ∀ {acc : List V} {ds : List PyData}, DpAll K H acc ds → ∃ bs : List (V × PyData), bs.map (·.1) = acc ∧ bs.map (·.2) = ds ∧ ∀ b ∈ bs, Dp K H b.1 b.2
  | _, [], h => by
    cases dpAll_nil h
    exact ⟨[], rfl, rfl, by simp⟩
  | _, d :: ds, h => by
    obtain ⟨v, ws, rfl, h1, h2⟩ := dpAll_cons h
    obtain ⟨bs, e1, e2, h3⟩ := pairs_of_dp h2
    refine ⟨(v, d) :: bs, by rw [List.map_cons, e1], by rw [List.map_cons, e2], fun b hb => ?_⟩
    rcases List.mem_cons.mp hb with rfl | hb
    · exact h1
    · exact h3 b hb
theorem sort_data {α : Type} (enc : α → PyData) (l : List α) : (l.map enc).mergeSort (dataLe false id) = (l.mergeSort (dataLe false enc)).map enc :=
  (sort_maps (r := dataLe false enc) (s := dataLe false id) enc (fun a _ b _ => rfl)).symm
/-- sorted(x), x a list or a tuple of data: the pairs -/
theorem sorted_bs {α : Type} {H : Hp} {acc : List V} {l : List α} {enc : α → PyData} (hd : DpAll K H acc (l.map enc)) (al : ∀ b b', alike (enc b) (enc b') = true) (hk : Sortable (l.map enc)) (hp : ∀ b, (enc b).depth ≤ 16) (hf : ∀ b, fz (enc b) = true) :
    ∃ bs : List (V × PyData), bs.map (·.1) = acc ∧ (∀ b ∈ bs, Dp K H b.1 b.2) ∧ AllAlike (bs.map (·.2)) ∧ Sortable (bs.map (·.2)) ∧ (∀ b ∈ bs, b.2.depth ≤ 16) ∧
      ∀ p acc', H p = none → DpAll K (upd H p (.lst acc')) ((bs.mergeSort (dataLe false (·.2))).map (·.1)) ((l.mergeSort (dataLe false enc)).map enc) := by
  obtain ⟨bs, e1, e2, h3⟩ := pairs_of_dp hd
  have mem : ∀ b ∈ bs, ∃ c, b.2 = enc c := fun b hb => by
    have : b.2 ∈ bs.map (·.2) := List.mem_map.mpr ⟨b, hb, rfl⟩
    rw [e2] at this
    obtain ⟨c, _, e⟩ := List.mem_map.mp this
    exact ⟨c, e.symm⟩
  refine ⟨bs, e1, h3, by rw [e2]; exact AllAlike.of al, by rw [e2]; exact hk, fun b hb => ?_, fun p acc' np => ?_⟩
  · obtain ⟨c, e⟩ := mem b hb
    rw [e]
    exact hp c
  · have e3 : (l.mergeSort (dataLe false enc)).map enc = (bs.mergeSort (dataLe false (·.2))).map (·.2) := by
      rw [← sort_data, ← e2]
      exact sort_data (fun b : V × PyData => b.2) bs
    rw [e3]
    have k : Go ([] : List NTab) [] H (upd H p (.lst acc')) := Go.new Go.refl np
    refine dpAll_pairs fun b hb => ?_
    have hb' := List.mem_mergeSort.mp hb
    obtain ⟨c, e⟩ := mem b hb'
    exact Dp.go k _ _ (by rw [e]; exact hf c) (h3 b hb')
end Cb
/-! ## CbL11 -/
set_option maxHeartbeats 4000000
/-! The law's moved sheets. -/
namespace Cb
open PySem PySem.Spec PyProof.Rows L2
open NdefX (NTab TabN TabsN NF FnO NScope NOk nok_of nscope_by startF)
open C8 (pe_c pe_mt pe_mt0 pe_mk)
open PySem.W (dataLe dataLt alike alikeAll AllAlike Sortable)
variable {P : Program} {w : World} {K : PySem.W.Frag} {mg : Str → Option Value} {base : Heap} {CR CA : Addr} {T : List NTab}
def rTupO (K : PySem.W.Frag) : List V → Hp → VK → Prop := fun xs H Q => ∃ p ys, xs = [.ref p] ∧ ((SqL K H p ys ∧ ∀ l, H l = none → Q (.ref l) (upd H l (.tup ys))) ∨ (SqT K H p ys ∧ Q (.ref p) H))
def spLMoved (T : List NTab) (K : PySem.W.Frag) : Sp := fun vs H Q _ => ∃ (v : V) (nm : Addr) (x : Sheet) (f : Str → Str), vs = [v, .ref nm] ∧ Dp K H v (eSh x) ∧ Good x ∧ Nm H nm f (namesOf x) ∧
  ∀ (H' : Hp) (t p : Addr) (u : V), Go T [] H H' → SqT K H' t [u, .ref p] → Dp K H' u (eSh (movedOf f x)) → H p = none → H' p = some (.lst ((placesOf f x).map fun k => V.int (k : Nat))) → Q (.ref t) H'
theorem c_L_moved (B : Bs K mg CR CA) : C8.Cal P w K mg base 2 "_law_moved" (spLMoved T K) [] := by
  refine B.f_L_moved.cal sc_L_moved (fun _ _ _ _ _ _ us hl => match us, hl with | [_, _], _ => rfl) (fun vs H Q E h => ?_) fun f cdv A outer s H vs Q E hr h => ?_
  · obtain ⟨v, nm, x, g, rfl, _⟩ := h
    rfl
  obtain ⟨v, nm, x, fn, rfl, hv, ok, hnm, hQ⟩ := h
  obtain ⟨a, b, c, d, ls, ss, ds, rfl, ha, hb, db, hc, dc, hd, dd⟩ := dp_eSh hv
  have nd := sc_L_moved.nd
  have hu := hu_of hr
  refine ⟨_, pss_cons (ps_set (i := 2) nd rfl (Or.inr rfl) (pe_lc (own := [("_law_entry", 6)]) (g := gName 6) (te := (tOp (rCatT K) (tTup (tCons (tDGet (tVar 1) (tOp (rIxT K) (tVar 6) (tC (.int 0)))) tNil)) (tSl (rSlT K) (tVar 6) (tPart (tC (.int 1))) tNoPart))) (by rfl) nd (pi_tup (pe_ix ix_tup (pv 0) pe_int (fun _ _ => rfl))) (blkOk_by (own := [("_law_entry", 6)]) (N := N_L_moved) (sc := defScope s_L_moved) (by decide +kernel))
          (fun _ _ _ _ _ => pg_name (i := 6) nd rfl (Or.inl rfl)) (fun _ _ _ _ _ => pts_nil) (fun _ _ _ _ _ => pe_op op_catT (pe_tup (pa_cons (pe_dget hu (pv 1) (pe_ix ix_tup (pv 6) pe_int (fun _ _ => rfl)) (fun _ _ => rfl)) pa_nil)) (pe_slice sl_tup (pv 6) (po_some pe_int) po_none))))
    (pss_cons (ps_set (i := 3) nd rfl (Or.inr rfl) (pe_lc (own := [("_law_head", 7), ("_law_k", 8)]) (g := gTup K 2 (gCons (gName 7) (gCons (gName 8) gNil))) (te := tVar 8) (by rfl) nd (pi_list (pe_callB (cr_sortedD (hu64 hr)) (by rfl) B.b_sorted (by decide +kernel) (pa_cons (pe_lc (own := [("_law_k", 8)]) (g := gName 8) (te := (tTup (tCons (tOp (rIxT K) (tOp (rIxL K) (tVar 2) (tVar 8)) (tC (.int 0))) (tCons (tVar 8) tNil)))) (by rfl) nd (pi_range1 (by rfl) B.b_range (pa_cons (pe_callB call_len_seq (by rfl) B.b_len (by decide +kernel) (pa_cons (pv 2) pa_nil)) pa_nil)) (blkOk_by (own := [("_law_k", 8)]) (N := N_L_moved) (sc := defScope s_L_moved) (by decide +kernel))
          (fun _ _ _ _ _ => pg_name (i := 8) nd rfl (Or.inl rfl)) (fun _ _ _ _ _ => pts_nil) (fun _ _ _ _ _ => pe_tup (pa_cons (pe_ix ix_tup (pe_ix ix_list (pv 2) (pv 8) (fun _ _ => rfl)) pe_int (fun _ _ => rfl)) (pa_cons (pv 8) pa_nil)))) pa_nil))) (blkOk_by (own := [("_law_head", 7), ("_law_k", 8)]) (N := N_L_moved) (sc := defScope s_L_moved) (by decide +kernel))
          (fun _ _ _ _ _ => pg_tup (by rfl) (pgs_cons (pg_name (i := 7) nd rfl (Or.inl rfl)) (pgs_cons (pg_name (i := 8) nd rfl (Or.inl rfl)) pgs_nil))) (fun _ _ _ _ _ => pts_nil) (fun _ _ _ _ _ => pv 8)))
    (pss_cons (ps_set (i := 4) nd rfl (Or.inl rfl) (pe_callTy call_tuple_of (by rfl) B.b_tuple (by decide +kernel) (pa_cons (pe_callB (cr_sortedD (hu64 hr)) (by rfl) B.b_sorted (by decide +kernel) (pa_cons (pe_lc (own := [("_law_piece", 10)]) (g := gName 10) (te := (tCB (rTupO K) (tCons (tCB (rSortedD K) (tCons (tLc (iTup K (tVar 10)) (gName 7) tYes (tDGet (tVar 1) (tVar 7)) [7]) tNil)) tNil))) (by rfl) nd (pi_tup (pe_ix ix_tup (pv 0) pe_int (fun _ _ => rfl))) (blkOk_by (own := [("_law_piece", 10)]) (N := N_L_moved) (sc := defScope s_L_moved) (by decide +kernel))
          (fun _ _ _ _ _ => pg_name (i := 10) nd rfl (Or.inl rfl)) (fun _ _ _ _ _ => pts_nil) (fun _ _ _ _ _ => pe_callTy call_tuple_of (by rfl) B.b_tuple (by decide +kernel) (pa_cons (pe_callB (cr_sortedD (hu64 hr)) (by rfl) B.b_sorted (by decide +kernel) (pa_cons (pe_lc (own := [("_law_head", 7)]) (g := gName 7) (te := (tDGet (tVar 1) (tVar 7))) (by rfl) nd (pi_tup (pv 10)) (blkOk_by (own := [("_law_head", 7)]) (N := N_L_moved) (sc := relS _ (defScope s_L_moved)) (by decide +kernel))
          (fun _ _ _ _ _ => pg_name (i := 7) nd rfl (Or.inl rfl)) (fun _ _ _ _ _ => pts_nil) (fun _ _ _ _ _ => pe_dget hu (pv 1) (pv 7) (fun _ _ => rfl))) pa_nil)) pa_nil))) pa_nil)) pa_nil)))
    (pss_cons (ps_set (i := 5) nd rfl (Or.inl rfl) (pe_callTy call_tuple_of (by rfl) B.b_tuple (by decide +kernel) (pa_cons (pe_lc (own := [("_law_one", 9)]) (g := gName 9) (te := (tCB (rTupO K) (tCons (tLc (iList K (tVar 3)) (gName 8) tYes (tOp (rIxT K) (tVar 9) (tVar 8)) [8]) tNil))) (by rfl) nd (pi_tup (pe_ix ix_tup (pv 0) pe_int (fun _ _ => rfl))) (blkOk_by (own := [("_law_one", 9)]) (N := N_L_moved) (sc := defScope s_L_moved) (by decide +kernel))
          (fun _ _ _ _ _ => pg_name (i := 9) nd rfl (Or.inr rfl)) (fun _ _ _ _ _ => pts_nil) (fun _ _ _ _ _ => pe_callTy call_tuple_of (by rfl) B.b_tuple (by decide +kernel) (pa_cons (pe_lc (own := [("_law_k", 8)]) (g := gName 8) (te := (tOp (rIxT K) (tVar 9) (tVar 8))) (by rfl) nd (pi_list (pv 3)) (blkOk_by (own := [("_law_k", 8)]) (N := N_L_moved) (sc := relS _ (defScope s_L_moved)) (by decide +kernel))
          (fun _ _ _ _ _ => pg_name (i := 8) nd rfl (Or.inl rfl)) (fun _ _ _ _ _ => pts_nil) (fun _ _ _ _ _ => pe_ix ix_tup (pv 9) (pv 8) (fun _ _ => rfl))) pa_nil))) pa_nil)))
    (pss_one (ps_ret (pe_tup (pa_cons (pe_tup (pa_cons (pe_callTy call_tuple_of (by rfl) B.b_tuple (by decide +kernel) (pa_cons (pe_lc (own := [("_law_k", 8)]) (g := gName 8) (te := (tOp (rIxL K) (tVar 2) (tVar 8))) (by rfl) nd (pi_list (pv 3)) (blkOk_by (own := [("_law_k", 8)]) (N := N_L_moved) (sc := defScope s_L_moved) (by decide +kernel))
          (fun _ _ _ _ _ => pg_name (i := 8) nd rfl (Or.inl rfl)) (fun _ _ _ _ _ => pts_nil) (fun _ _ _ _ _ => pe_ix ix_list (pv 2) (pv 8) (fun _ _ => rfl))) pa_nil)) (pa_cons (pv 4) (pa_cons (pv 5) pa_nil)))) (pa_cons (pv 3) pa_nil)))))))), ?_⟩
  have lb := DpAll.map_len db
  have lc := DpAll.map_len dc
  have ld := DpAll.map_len dd
  have m1 := ok.ls.most
  have m2 := ok.ss.most
  have m3 := ok.dn
  refine ⟨_, rfl, a, _, 0, .ref b, rfl, rfl, ha, atI_at (j := 0) rfl, b, rfl, ⟨_, hb⟩, fun D nD => ?_⟩
  refine lc_dp (K := K) (T := T) (m := []) (walk_tup (xs := ls)) nD (fun a ha => absurd ha (by simp)) (small (by omega)) ((rowsN fn x).map eL) (by unfold rowsN; simp; omega) (fz_map _ fz_eL _) (fun H3 g => sqT_go g hb) (fun i v H3 H4 dn hdn g y F Z hF => ?_) fun H1 acc1 g1 e1 d1 => ?_
  · obtain ⟨rfl, hv⟩ := y
    obtain ⟨l, el, dl⟩ := DpAll.map_at (DpAll.go g _ _ (fz_map _ fz_eL _) db) hv
    unfold rowsN at hdn
    rw [List.getElem?_map, List.getElem?_map, el] at hdn
    cases hdn
    exact ⟨rfl, te_rn (i := 1) rfl (hnm.go g) (List.mem_map.mpr ⟨l, List.mem_of_getElem? el, rfl⟩) dl (gv_var rfl) fun H5 u g5 d5 => hF _ _ g5 d5⟩
  have l1 := DpAll.map_len d1
  have lr : (rowsN fn x).length = x.ls.length := by unfold rowsN; simp
  refine ⟨_, rfl, D, _, rfl, .inl (SqL.of e1), ?_⟩
  refine ⟨_, rfl, by omega, by omega, fun D2 nD2 => ?_⟩
  refine lc_dp (K := K) (T := T) (m := []) (walk_range (lo := 0) (n := acc1.length)) nD2 (fun a ha => absurd ha (by simp)) (small (by omega)) ((List.range x.ls.length).map (plK fn x)) (by simp; omega) (fz_map _ (fun k => by simp [plK, fz, fzAll]) _) (fun H3 g => trivial) (fun i v H3 H4 dn hdn g y F Z hF => ?_) fun H2 acc2 g2 e2 d2 => ?_
  · obtain ⟨rfl, rfl⟩ := y
    have hi : i < x.ls.length := by
      have := (List.getElem?_eq_some_iff.mp hdn).1
      simpa using this
    rw [List.getElem?_map, List.getElem?_range hi] at hdn
    cases hdn
    have er : (rowsN fn x)[i]? = some ((rowsN fn x).getD i ln0) := by
      rw [List.getD_eq_getElem?_getD, List.getElem?_eq_getElem (by omega)]
      rfl
    obtain ⟨v1, ev, dv⟩ := DpAll.map_at' d1 er
    obtain ⟨q, w1, rfl, hq, _⟩ := dp_eL dv
    refine ⟨rfl, _, rfl, _, rfl, D, _, _, .ref q, rfl, rfl, sqL_go g (by simp) (SqL.of e1), atI_at (j := i) ev (by omega), q, _, _, _, rfl, rfl, sqT_go g hq, atI_at (j := 0) rfl, _, rfl, (by show 2 ≤ sizeLine; decide), fun p np => hF _ _ (Go.new Go.refl np) ?_⟩
    refine .tup (.inl (.inl upd_same)) (.cons (.str _) (.cons ?_ .nil))
    show Dp K _ (.int (0 + (i : Nat))) _
    rw [Int.zero_add]
    exact .int _
  obtain ⟨bs, b1, b2, b3, b4, b5, b6⟩ := sorted_bs (enc := plK fn x) (l := List.range x.ls.length) d2 (fun b b' => by simp [plK, alike, alikeAll]) (Sortable.tuples fun k => ⟨_, _, rfl⟩) (fun b => by simp [plK, PyData.depth, PyData.depthAll]) (fun b => by simp [plK, fz, fzAll])
  refine ⟨D2, bs, rfl, .inl (by rw [b1]; exact SqL.of e2), b2, b3, b4, b5, fun p3 np3 => ?_⟩
  have d3 := b6 p3 ((bs.mergeSort (dataLe false (·.2))).map (·.1)) np3
  generalize (bs.mergeSort (dataLe false (·.2))).map (·.1) = acc3 at d3 ⊢
  have gp3 : Go T [] H2 (upd H2 p3 (.lst acc3)) := Go.new Go.refl np3
  have hp3 : SqL K (upd H2 p3 (.lst acc3)) p3 acc3 := SqL.of upd_same
  have l3 := DpAll.map_len d3
  have lp : (placesOf fn x).length = x.ls.length := places_len
  rw [show (List.range x.ls.length).mergeSort (dataLe false (plK fn x)) = placesOf fn x from rfl] at d3 l3
  refine ⟨p3, rfl, ⟨_, hp3⟩, fun D3 nD3 => ?_⟩
  have fP : fzAll ((placesOf fn x).map (plK fn x)) = true := fz_map _ (fun k => by simp [plK, fz, fzAll]) _
  refine lc_dp (K := K) (T := T) (m := []) (walk_list (xs := acc3)) nD3 (fun a ha => absurd ha (by simp)) (small (by omega)) (((placesOf fn x).map fun k => ((k : Nat) : Int)).map PyData.int) (by simp; omega) (fz_map _ (fun k => by simp [fz]) _) (fun H3 g => sqL_go g (by simp) hp3) (fun i v H3 H4 dn hdn g y F Z hF => ?_) fun H3 acc4 g3 e3 d4 => ?_
  · obtain ⟨rfl, hv⟩ := y
    obtain ⟨k, ek, dk⟩ := DpAll.map_at (DpAll.go g _ _ fP d3) hv
    rw [List.getElem?_map, List.getElem?_map, ek] at hdn
    cases hdn
    obtain ⟨q, xs, rfl, hq, dq⟩ := dp_tup dk
    obtain ⟨u1, r1, rfl, k1, dq⟩ := dpAll_cons dq
    obtain ⟨u2, r2, rfl, k2, dq⟩ := dpAll_cons dq
    cases dpAll_nil dq
    cases dp_int k2
    exact ⟨q, _, rfl, hq, rfl, _, _, rfl, _, _, rfl, rfl, rfl, _, rfl, hF _ _ Go.refl (.int _)⟩
  have ea := dpAll_ints_inv d4
  subst ea
  clear d4
  have G3 : Go T [] H H3 := ((g1.trans g2).trans gp3).trans g3
  have k13 : Go T [] H1 H3 := (g2.trans gp3).trans g3
  have nD : H D3 = none := ((g1.trans g2).trans gp3).there _ nD3
  refine ⟨_, rfl, a, _, 1, .ref c, rfl, rfl, sqT_go G3 ha, atI_at (j := 1) rfl, c, rfl, ⟨_, sqT_go G3 hc⟩, fun D4 nD4 => ?_⟩
  refine lc_dp (K := K) (T := T) (m := []) (walk_tup (xs := ss)) nD4 (fun a ha => absurd ha (by simp)) (small (by omega)) ((x.ss.map (secN fn)).map eS) (by simp; omega) (fz_map _ fz_eS _) (fun H4 g => sqT_go (G3.trans g) hc) (fun i v H4 H5 dn hdn g y F Z hF => ?_) fun H4 acc5 g4 e4 d5 => ?_
  · obtain ⟨rfl, hv⟩ := y
    obtain ⟨s0, es, dl⟩ := DpAll.map_at (DpAll.go (G3.trans g) _ _ (fz_map _ fz_eS _) dc) hv
    rw [List.getElem?_map, List.getElem?_map, es] at hdn
    cases hdn
    obtain ⟨q, rfl, hq⟩ := dp_eS dl
    have hs := List.mem_of_getElem? es
    have hsl := (ok.ss.len s0 hs).2
    refine ⟨rfl, _, rfl, q, rfl, ⟨_, hq⟩, fun D5 nD5 => ?_⟩
    refine lc_dp (K := K) (T := T) (m := []) (walk_tup (xs := s0.map V.str)) nD5 (fun a ha => absurd ha (by simp)) (small (by rw [List.length_map]; omega)) ((s0.map fn).map PyData.str) (by simp) (fz_map _ (fun k => by simp [fz]) _) (fun H6 g6 => sqT_go g6 hq) (fun j v H6 H7 dn hdn g6 y F' Z' hF' => ?_) fun H6 acc6 g6 e6 d6 => ?_
    · obtain ⟨rfl, hv⟩ := y
      rw [List.getElem?_map] at hv
      cases en : s0[j]? with
      | none =>
        rw [en] at hv
        cases hv
      | some n =>
        rw [List.getElem?_map, List.getElem?_map, en] at hdn
        rw [en] at hv
        cases hv
        cases hdn
        exact ⟨rfl, _, rfl, _, rfl, nm, _, rfl, (hnm.go ((G3.trans g).trans g6)).get (ok.ss.sub s0 hs n (List.mem_of_getElem? en)), hF' _ _ Go.refl (.str _)⟩
    obtain ⟨bs, b1, b2, b3, b4, b5, b6⟩ := sorted_bs (enc := PyData.str) (l := s0.map fn) d6 (fun b b' => by simp [alike]) (Sortable.others fun b => ⟨fun z => (by cases z), fun xs z => (by cases z)⟩) (fun b => by simp [PyData.depth]) (fun b => by simp [fz])
    refine ⟨D5, bs, rfl, .inl (by rw [b1]; exact SqL.of e6), b2, b3, b4, b5, fun p7 np7 => ?_⟩
    have d7 := b6 p7 ((bs.mergeSort (dataLe false (·.2))).map (·.1)) np7
    generalize (bs.mergeSort (dataLe false (·.2))).map (·.1) = acc7 at d7 ⊢
    refine ⟨p7, _, rfl, .inl ⟨SqL.of upd_same, fun q8 nq8 => ?_⟩⟩
    have k8 := Go.new (T := T) (m := []) (o := .tup acc7) Go.refl nq8
    refine hF _ _ ((g6.trans (Go.new Go.refl np7)).trans k8) (.tup (.inl (.inl upd_same)) (DpAll.go k8 _ _ (fz_map _ (fun k => by simp [fz]) _) d7))
  have srt : Sortable ((x.ss.map (secN fn)).map eS) := by
    refine .inl fun d hd => ?_
    obtain ⟨u, hu, rfl⟩ := List.mem_map.mp hd
    obtain ⟨s0, hs, rfl⟩ := List.mem_map.mp hu
    have h2 := (ok.ss.len s0 hs).1
    rw [← secN_len (f := fn) s0] at h2
    cases e : secN fn s0 with
    | nil =>
      rw [e] at h2
      simp at h2
    | cons n r => exact ⟨.str n, r.map PyData.str, rfl⟩
  obtain ⟨bs2, b1, b2, b3, b4, b5, b6⟩ := sorted_bs (enc := eS) (l := x.ss.map (secN fn)) d5 alike_eS srt (fun b => Nat.le_trans (depth_eS b) (by decide)) fz_eS
  refine ⟨D4, bs2, rfl, .inl (by rw [b1]; exact SqL.of e4), b2, b3, b4, b5, fun p9 np9 => ?_⟩
  have d9 := b6 p9 ((bs2.mergeSort (dataLe false (·.2))).map (·.1)) np9
  generalize (bs2.mergeSort (dataLe false (·.2))).map (·.1) = acc9 at d9 ⊢
  refine ⟨p9, _, rfl, .inl ⟨SqL.of upd_same, fun t4 nt4 => ?_⟩⟩
  have k9 := Go.new (T := T) (m := []) (o := .tup acc9) Go.refl nt4
  have k4 : Go T [] H3 (upd (upd H4 p9 (.lst acc9)) t4 (.tup acc9)) := (g4.trans (Go.new Go.refl np9)).trans k9
  have ds4 : Dp K (upd (upd H4 p9 (.lst acc9)) t4 (.tup acc9)) (.ref t4) (.tuple ((movedOf fn x).ss.map eS)) := .tup (.inl (.inl upd_same)) (DpAll.go k9 _ _ (fz_map _ fz_eS _) d9)
  generalize upd (upd H4 p9 (.lst acc9)) t4 (.tup acc9) = H5 at k4 ds4 ⊢
  have G5 := G3.trans k4
  have e35 : H5 D3 = _ := k4.keep D3 _ (by simp) e3 fun ps z => by cases z
  have e15 : H5 D = _ := (k13.trans k4).keep D _ (by simp) e1 fun ps z => by cases z
  have d15 := DpAll.go (k13.trans k4) _ _ (fz_map _ fz_eL _) d1
  refine ⟨_, rfl, a, _, 2, .ref d, rfl, rfl, sqT_go G5 ha, atI_at (j := 2) rfl, d, rfl, ⟨_, sqT_go G5 hd⟩, fun D6 nD6 => ?_⟩
  refine lc_dp (K := K) (T := T) (m := []) (walk_tup (xs := ds)) nD6 (fun a ha => absurd ha (by simp)) (small (by omega)) ((movedOf fn x).ds.map eD) (by rw [List.length_map, moved_days]; omega) (fz_map _ fz_eD _) (fun H6 g => sqT_go (G5.trans g) hd) (fun i v H6 H7 dn hdn g y F Z hF => ?_) fun H6 acc6 g6 e6 d6 => ?_
  · obtain ⟨rfl, hv⟩ := y
    obtain ⟨s0, es, dl⟩ := DpAll.map_at (DpAll.go (G5.trans g) _ _ (fz_map _ fz_eD _) dd) hv
    rw [List.getElem?_map, show (movedOf fn x).ds = x.ds.map fun d => (placesOf fn x).map fun k => d.getD k (0, 1) from rfl, List.getElem?_map, es] at hdn
    cases hdn
    obtain ⟨q, ys, rfl, hq, dy⟩ := dp_eD dl
    have hs := List.mem_of_getElem? es
    have hsl := (ok.ds s0 hs).len
    refine ⟨rfl, _, rfl, D3, rfl, ⟨_, sqL_go g (by simp) (SqL.of e35)⟩, fun D7 nD7 => ?_⟩
    refine lc_dp (K := K) (T := T) (m := []) (walk_list (xs := ((placesOf fn x).map fun k => ((k : Nat) : Int)).map V.int)) nD7 (fun a ha => absurd ha (by simp)) (small (by simp; omega)) (((placesOf fn x).map fun k => s0.getD k (0, 1)).map eF) (by simp) (fz_map _ fz_eF _) (fun H8 g8 => sqL_go (g.trans g8) (by simp) (SqL.of e35)) (fun j v H8 H9 dn hdn g8 y F' Z' hF' => ?_) fun H8 acc8 g8 e8 d8 => ?_
    · obtain ⟨rfl, hv⟩ := y
      rw [List.getElem?_map, List.getElem?_map] at hv hdn
      cases en : (placesOf fn x)[j]? with
      | none =>
        rw [en] at hv
        cases hv
      | some k =>
        rw [en] at hv hdn
        cases hv
        cases hdn
        have hk : k < s0.length := by
          rw [hsl]
          exact places_mem.mp (List.mem_of_getElem? en)
        have eg : s0[k]? = some (s0.getD k (0, 1)) := by
          rw [List.getD_eq_getElem?_getD, List.getElem?_eq_getElem hk]
          rfl
        obtain ⟨w1, ew, dw⟩ := DpAll.map_at' (DpAll.go g8 _ _ (fz_map _ fz_eF _) dy) eg
        exact ⟨rfl, _, rfl, _, rfl, q, _, _, w1, rfl, rfl, sqT_go g8 hq, atI_at (j := k) ew, hF' _ _ Go.refl dw⟩
    refine ⟨D7, _, rfl, .inl ⟨SqL.of e8, fun q8 nq8 => ?_⟩⟩
    have k8 := Go.new (T := T) (m := []) (o := .tup acc8) Go.refl nq8
    exact hF _ _ (g8.trans k8) (.tup (.inl (.inl upd_same)) (DpAll.go k8 _ _ (fz_map _ fz_eF _) d8))
  refine ⟨D6, _, rfl, .inl ⟨SqL.of e6, fun t5 nt5 => ?_⟩⟩
  have k5 := Go.new (T := T) (m := []) (o := .tup acc6) Go.refl nt5
  have g67 := g6.trans k5
  have ds5 : Dp K (upd H6 t5 (.tup acc6)) (.ref t5) (.tuple ((movedOf fn x).ds.map eD)) := .tup (.inl (.inl upd_same)) (DpAll.go k5 _ _ (fz_map _ fz_eD _) d6)
  generalize upd H6 t5 (.tup acc6) = H7 at g67 ds5 ⊢
  have e37 : H7 D3 = _ := g67.keep D3 _ (by simp) e35 fun ps z => by cases z
  have e17 : H7 D = _ := g67.keep D _ (by simp) e15 fun ps z => by cases z
  have d17 := DpAll.go g67 _ _ (fz_map _ fz_eL _) d15
  have ds4' := Dp.go g67 _ _ (fz_tupOf _ fz_eS _) ds4
  have G7 := G5.trans g67
  refine ⟨_, rfl, D3, rfl, ⟨_, SqL.of e37⟩, fun D8 nD8 => ?_⟩
  refine lc_dp (K := K) (T := T) (m := []) (walk_list (xs := ((placesOf fn x).map fun k => ((k : Nat) : Int)).map V.int)) nD8 (fun a ha => absurd ha (by simp)) (small (by simp; omega)) ((movedOf fn x).ls.map eL) (by rw [List.length_map, moved_len]; simp; omega) (fz_map _ fz_eL _) (fun H8 g8 => sqL_go g8 (by simp) (SqL.of e37)) (fun j v H8 H9 dn hdn g8 y F' Z' hF' => ?_) fun H8 acc8 g8 e8 d8 => ?_
  · obtain ⟨rfl, hv⟩ := y
    rw [List.getElem?_map, List.getElem?_map] at hv
    rw [List.getElem?_map, show (movedOf fn x).ls = (placesOf fn x).map fun k => (rowsN fn x).getD k ln0 from rfl, List.getElem?_map] at hdn
    cases en : (placesOf fn x)[j]? with
    | none =>
      rw [en] at hv
      cases hv
    | some k =>
      rw [en] at hv hdn
      cases hv
      cases hdn
      have hk : k < (rowsN fn x).length := by
        rw [lr]
        exact places_mem.mp (List.mem_of_getElem? en)
      have eg : (rowsN fn x)[k]? = some ((rowsN fn x).getD k ln0) := by
        rw [List.getD_eq_getElem?_getD, List.getElem?_eq_getElem hk]
        rfl
      obtain ⟨w1, ew, dw⟩ := DpAll.map_at' (DpAll.go g8 _ _ (fz_map _ fz_eL _) d17) eg
      exact ⟨rfl, _, rfl, _, rfl, D, _, _, w1, rfl, rfl, sqL_go g8 (by simp) (SqL.of e17), atI_at (j := k) ew, hF' _ _ Go.refl dw⟩
  refine ⟨D8, _, rfl, .inl ⟨SqL.of e8, fun t6 nt6 => ⟨_, rfl, _, rfl, (by show 3 ≤ sizeLine; decide), fun t7 nt7 => ⟨_, rfl, (by show 2 ≤ sizeLine; decide), fun t8 nt8 => ?_⟩⟩⟩⟩
  have q6 := Go.new (T := T) (m := []) (o := .tup acc8) Go.refl nt6
  have q7 := Go.new (T := T) (m := []) (o := .tup [.ref t6, .ref t4, .ref t5]) Go.refl nt7
  have q8 := Go.new (T := T) (m := []) (o := .tup [.ref t7, .ref D3]) Go.refl nt8
  have ds6 : Dp K (upd H8 t6 (.tup acc8)) (.ref t6) (.tuple ((movedOf fn x).ls.map eL)) := .tup (.inl (.inl upd_same)) (DpAll.go q6 _ _ (fz_map _ fz_eL _) d8)
  have k78 := ((g8.trans q6).trans q7).trans q8
  refine hQ _ t8 D3 (.ref t7) (G7.trans k78) (.inl (.inl upd_same)) (Dp.go q8 _ _ (fz_eSh _) (.tup (.inl (.inl upd_same)) (.cons (Dp.go q7 _ _ (fz_tupOf _ fz_eL _) ds6) (.cons (Dp.go ((g8.trans q6).trans q7) _ _ (fz_tupOf _ fz_eS _) ds4') (.cons (Dp.go ((g8.trans q6).trans q7) _ _ (fz_tupOf _ fz_eD _) ds5) .nil))))) nD ?_
  have e38 := k78.keep D3 _ (by simp) e37 fun ps z => by cases z
  rw [e38, List.map_map]
  rfl
end Cb
/-! ## CbL12 -/
set_option maxHeartbeats 4000000
/-! The law's check of a moved sheet. -/
namespace Cb
open PySem PySem.Spec PyProof.Rows L2
open NdefX (NTab TabN TabsN NF FnO NScope NOk nok_of nscope_by startF)
open C8 (pe_c pe_mt pe_mt0 pe_mk)
open SX (S)
open PySem.W (dataLe dataLt alike alikeAll AllAlike Sortable)
variable {P : Program} {w : World} {K : PySem.W.Frag} {mg : Str → Option Value} {base : Heap} {CR CA : Addr} {T : List NTab}
def spLCheckMoved (T : List NTab) (K : PySem.W.Frag) : Sp := fun vs H Q _ => ∃ (v : V) (nm : Addr) (u : V) (x : Sheet) (f : Str → Str) (bk : List (List Int)), vs = [v, .ref nm, u] ∧ TabsN T H ∧ Dp K H v (eSh x) ∧ Good x ∧ Nm H nm f (namesOf x) ∧ Ren f (namesOf x) ∧
  Dp K H u (.tuple (bk.map eB)) ∧ (∀ b ∈ bk, b.length = x.ls.length) ∧ bk.length ≤ 10 ∧ ∀ H', Go T [] H H' → Q (.bl true) H'
theorem c_L_check_moved (B : Bs K mg CR CA) (A0 : Ba K mg CA) (C : Tb K mg base T "name_after") (C2 : Tb K mg base T "section_read") (R : Rk K mg w) : C8.Cal P w K mg base 10 "_law_check_moved" (spLCheckMoved T K) [] := by
  refine B.f_L_check_moved.cal sc_L_check_moved (fun _ _ _ _ _ _ us hl => match us, hl with | [_, _, _], _ => rfl) (fun vs H Q E h => ?_) fun f cdv A outer s H vs Q E hr h => ?_
  · obtain ⟨v, nm, u, x, g, bk, rfl, _⟩ := h
    rfl
  obtain ⟨v, nm, u, x, fn, bk, rfl, hT, hv, ok, hnm, rn, hu2, hbl, hbk, hQ⟩ := h
  have nd := sc_L_check_moved.nd
  have hu := hu_of hr
  refine ⟨_, pss_cons (ps_asg (pe_c (c_L_moved (T := T) B) hr (by decide) (by rfl) (pa_cons (pv 0) (pa_cons (pv 1) pa_nil))) (pg_tup (by rfl) (pgs_cons (pg_name (i := 3) nd rfl (Or.inl rfl)) (pgs_cons (pg_name (i := 4) nd rfl (Or.inr rfl)) pgs_nil))))
    (pss_cons (ps_if (PW.pt (pw_or (pt_not (pt_val (pe_c (c_is_sheet (T := T) B) hr (by decide) (by rfl) (pa_cons (pv 3) pa_nil)))) (pw_or1 (pt_cmpR (op_neD (hu64 hr)) (pe_c (c_lets_sheet (T := T) B) hr (by decide) (by rfl) (pa_cons (pv 3) pa_nil)) (pe_c (c_lets_sheet (T := T) B) hr (by decide) (by rfl) (pa_cons (pv 0) pa_nil)) (nomark _))))) (pss_one (ps_ret pe_bl)) pss_nil)
    (pss_cons (ps_if (pt_cmpR (op_neD (hu64 hr)) (pe_c (c_sheet_read (T := T) B C C2 R) hr (by decide) (by rfl) (pa_cons (pe_c (c_sheet_text (T := T) B) hr (by decide) (by rfl) (pa_cons (pv 3) pa_nil)) pa_nil)) (pv 3) (nomark _)) (pss_one (ps_ret pe_bl)) pss_nil)
    (pss_cons (ps_set (i := 5) nd rfl (Or.inl rfl) (pe_callTy call_tuple_of (by rfl) B.b_tuple (by decide +kernel) (pa_cons (pe_lc (own := [("_law_one", 11)]) (g := gName 11) (te := tCB (rTupO K) (tCons (tLc (iList K (tVar 4)) (gName 13) tYes (tOp (rIxT K) (tVar 11) (tVar 13)) [13]) tNil)) (by rfl) nd (pi_tup (pv 2)) (blkOk_by (own := [("_law_one", 11)]) (N := N_L_check_moved) (sc := defScope s_L_check_moved) (by decide +kernel))
        (fun _ _ _ _ _ => pg_name (i := 11) nd rfl (Or.inr rfl)) (fun _ _ _ _ _ => pts_nil) (fun _ _ _ _ _ => (pe_callTy call_tuple_of (by rfl) B.b_tuple (by decide +kernel) (pa_cons (pe_lc (own := [("_law_k", 13)]) (g := gName 13) (te := tOp (rIxT K) (tVar 11) (tVar 13)) (by rfl) nd (pi_list (pv 4)) (blkOk_by (own := [("_law_k", 13)]) (N := N_L_check_moved) (sc := relS _ (defScope s_L_check_moved)) (by decide +kernel))
        (fun _ _ _ _ _ => pg_name (i := 13) nd rfl (Or.inl rfl)) (fun _ _ _ _ _ => pts_nil) (fun _ _ _ _ _ => (pe_ix ix_tup (pv 11) (pv 13) (fun _ _ => rfl)))) pa_nil)))) pa_nil)))
    (pss_cons (ps_set (i := 6) nd rfl (Or.inr rfl) (pe_c (c_state_after (T := T) B A0) hr (by decide) (by rfl) (pa_cons (pv 0) (pa_cons (pv 2) pa_nil))))
    (pss_cons (ps_if (pt_cmpR (op_neD (hu64 hr)) (pe_c (c_state_after (T := T) B A0) hr (by decide) (by rfl) (pa_cons (pv 3) (pa_cons (pv 5) pa_nil))) (pe_callTy call_tuple_of (by rfl) B.b_tuple (by decide +kernel) (pa_cons (pe_lc (own := [("_law_k", 13)]) (g := gName 13) (te := tRn K 1 (tOp (rIxT K) (tVar 6) (tVar 13))) (by rfl) nd (pi_list (pv 4)) (blkOk_by (own := [("_law_k", 13)]) (N := N_L_check_moved) (sc := defScope s_L_check_moved) (by decide +kernel))
        (fun _ _ _ _ _ => pg_name (i := 13) nd rfl (Or.inl rfl)) (fun _ _ _ _ _ => pts_nil) (fun _ _ _ _ _ => (pe_op op_catT (pe_tup (pa_cons (pe_dget hu (pv 1) (pe_ix ix_tup (pe_ix ix_tup (pv 6) (pv 13) (fun _ _ => rfl)) pe_int (fun _ _ => rfl)) (fun _ _ => rfl)) pa_nil)) (pe_slice sl_tup (pe_ix ix_tup (pv 6) (pv 13) (fun _ _ => rfl)) (po_some pe_int) po_none)))) pa_nil)) (nomark _)) (pss_one (ps_ret pe_bl)) pss_nil)
    (pss_cons (ps_for PassesOwn.never rfl (pi_range1 (by rfl) B.b_range (pa_cons (pe_callB call_len_seq (by rfl) B.b_len (by decide +kernel) (pa_cons (pe_ix ix_tup (pv 0) pe_int (fun _ _ => rfl)) pa_nil)) pa_nil)) (pg_name (i := 7) nd rfl (Or.inl rfl)) (pss_one (ps_if (pt_cmpR (op_neD (hu64 hr)) (pe_c (c_part (T := T) B) hr (by decide) (by rfl) (pa_cons (pv 3) (pa_cons (pv 7) (pa_cons pe_int pa_nil)))) (pe_ix ix_tup (pe_c (c_L_moved (T := T) B) hr (by decide) (by rfl) (pa_cons (pe_c (c_part (T := T) B) hr (by decide) (by rfl) (pa_cons (pv 0) (pa_cons (pv 7) (pa_cons pe_int pa_nil)))) (pa_cons (pv 1) pa_nil))) pe_int (fun _ _ => rfl)) (nomark _)) (pss_one (ps_ret pe_bl)) pss_nil)))
    (pss_cons (ps_setLc (i := 8) (own := [("_law_entry", 10)]) (g := gName 10) (te := tOp (rIxT K) (tVar 10) (tC (.int 0))) (by rfl) nd rfl rfl (sw_true rfl rfl rfl (by decide +kernel)) (pi_tup (pe_ix ix_tup (pv 0) pe_int (fun _ _ => rfl))) (blkOk_by (own := [("_law_entry", 10)]) (N := N_L_check_moved) (sc := defScope s_L_check_moved) (by decide +kernel))
        (fun _ _ _ _ _ => pg_name (i := 10) nd rfl (Or.inl rfl)) (fun _ _ _ _ _ => pts_nil) (fun _ _ _ _ _ => (pe_ix ix_tup (pv 10) pe_int (fun _ _ => rfl))))
    (pss_cons (ps_set (i := 9) nd rfl (Or.inl rfl) (pe_c (c_L_fresh_of (T := T) B A0) hr (by decide) (by rfl) (pa_cons (pe_lc (own := [("_law_head", 12)]) (g := gName 12) (te := tDGet (tVar 1) (tVar 12)) (by rfl) nd (pi_list (pv 8)) (blkOk_by (own := [("_law_head", 12)]) (N := N_L_check_moved) (sc := defScope s_L_check_moved) (by decide +kernel))
        (fun _ _ _ _ _ => pg_name (i := 12) nd rfl (Or.inl rfl)) (fun _ _ _ _ _ => pts_nil) (fun _ _ _ _ _ => pe_dget hu (pv 1) (pv 12) (fun _ _ => rfl))) pa_nil)))
    (pss_one (ps_ret (pe_cmpR (op_eqD (hu64 hr)) (pe_callTy call_list_of (by rfl) B.b_list (by decide +kernel) (pa_cons (pv 9) pa_nil)) (pe_callB (cr_sortedD (hu64 hr)) (by rfl) B.b_sorted (by decide +kernel) (pa_cons (pe_lc (own := [("_law_entry", 10)]) (g := gName 10) (te := tRn K 1 (tVar 10)) (by rfl) nd (pi_tup (pe_c (c_L_fresh_of (T := T) B A0) hr (by decide) (by rfl) (pa_cons (pv 8) pa_nil))) (blkOk_by (own := [("_law_entry", 10)]) (N := N_L_check_moved) (sc := defScope s_L_check_moved) (by decide +kernel))
        (fun _ _ _ _ _ => pg_name (i := 10) nd rfl (Or.inl rfl)) (fun _ _ _ _ _ => pts_nil) (fun _ _ _ _ _ => (pe_op op_catT (pe_tup (pa_cons (pe_dget hu (pv 1) (pe_ix ix_tup (pv 10) pe_int (fun _ _ => rfl)) (fun _ _ => rfl)) pa_nil)) (pe_slice sl_tup (pv 10) (po_some pe_int) po_none)))) pa_nil)) (nomark _)))))))))))), ?_⟩
  obtain ⟨a, b, c, d, ls, ss, ds, rfl, ha, hb, db, hc, dc, hd, dd⟩ := dp_eSh hv
  obtain ⟨e, us, rfl, he, de⟩ := dp_tup hu2
  have lb := DpAll.map_len db
  have lc := DpAll.map_len dc
  have ld := DpAll.map_len dd
  have le := DpAll.map_len de
  have m1 := ok.ls.most
  have m2 := ok.ss.most
  have m3 := ok.dn
  have mg := moved_good ok rn
  have shS := shaped_eSh mg
  have hnd := asc_nodup ok.ls.asc
  have lp : (placesOf fn x).length = x.ls.length := places_len
  refine ⟨_, rfl, _, rfl, .ref a, nm, x, fn, rfl, hv, ok, hnm, fun H1 t1 p1 u1 g1 ht1 du1 np1 ep1 => ⟨t1, _, rfl, ht1, rfl, _, _, rfl, _, _, rfl, rfl, ?_⟩⟩
  -- is_sheet, lets_sheet
  refine ⟨_, rfl, u1, movedOf fn x, rfl, du1, mg, fun H2 g2 => ⟨true, rfl, iteF ?_⟩⟩
  refine ⟨_, rfl, u1, movedOf fn x, rfl, Dp.go g2 _ _ (fz_eSh _) du1, mg, fun H3 v3 g3 d3 => ?_⟩
  have G3 := (g1.trans g2).trans g3
  refine ⟨_, rfl, .ref a, x, rfl, Dp.go G3 _ _ (fz_eSh _) hv, ok, fun H4 v4 g4 d4 => ?_⟩
  rw [moved_len, moved_days] at d3
  refine ⟨_, _, Dp.go g4 _ _ (fz_eF _) d3, d4, shaped_eF _, shaped_eF _, _, rfl, ne_self (shaped_eF _) ?_⟩
  have G4 := G3.trans g4
  have k14 := (g2.trans g3).trans g4
  -- sheet_read, sheet_text
  refine ⟨_, rfl, u1, movedOf fn x, rfl, Dp.go k14 _ _ (fz_eSh _) du1, mg, fun H5 g5 => ?_⟩
  have G5 := G4.trans g5
  refine ⟨movedOf fn x, rfl, G5.tabs hT, mg, fun H6 v6 g6 d6 => ⟨_, rfl, ?_⟩⟩
  have G6 := G5.trans g6
  have k16 := (k14.trans g5).trans g6
  refine ⟨_, _, d6, Dp.go k16 _ _ (fz_eSh _) du1, shS, shS, _, rfl, ne_self shS ?_⟩
  have ep6 : H6 p1 = _ := k16.keep p1 _ (by simp) ep1 fun ps z => by cases z
  have hp6 : SqL K H6 p1 ((placesOf fn x).map fun k => V.int (k : Nat)) := SqL.of ep6
  -- moved_here
  refine ⟨_, rfl, e, rfl, ⟨_, sqT_go G6 he⟩, fun D1 nD1 => ?_⟩
  refine lc_dp (K := K) (T := T) (m := []) (walk_tup (xs := us)) nD1 (fun a ha => absurd ha (by simp)) (small (by omega)) ((movedB fn x bk).map eB) (by rw [List.length_map, movedB_len]; omega) (fz_map _ fz_eB _) (fun H7 g => sqT_go (G6.trans g) he) (fun i v H7 H8 dn hdn g y F Z hF => ?_) fun H7 acc7 g7 e7 d7 => ?_
  · obtain ⟨rfl, hv2⟩ := y
    obtain ⟨b0, es, dl⟩ := DpAll.map_at (DpAll.go (G6.trans g) _ _ (fz_map _ fz_eB _) de) hv2
    rw [List.getElem?_map, show movedB fn x bk = bk.map fun b => (placesOf fn x).map fun k => b.getD k 0 from rfl, List.getElem?_map, es] at hdn
    cases hdn
    obtain ⟨q, rfl, hq⟩ := dp_eB dl
    have hsl := hbl b0 (List.mem_of_getElem? es)
    have hp7 := sqL_go g (by simp) hp6
    refine ⟨rfl, _, rfl, p1, rfl, ⟨_, hp7⟩, fun D7 nD7 => ?_⟩
    refine lc_dp (K := K) (T := T) (m := []) (walk_list (xs := (placesOf fn x).map fun k => V.int (k : Nat))) nD7 (fun a ha => absurd ha (by simp)) (small (by simp; omega)) (((placesOf fn x).map fun k => b0.getD k 0).map PyData.int) (by simp) (fz_map _ (fun k => by simp [fz]) _) (fun H8 g8 => sqL_go g8 (by simp) hp7) (fun j v H8 H9 dn hdn g8 y F' Z' hF' => ?_) fun H8 acc8 g8 e8 d8 => ?_
    · obtain ⟨rfl, hv3⟩ := y
      rw [List.getElem?_map] at hv3
      rw [List.getElem?_map, List.getElem?_map] at hdn
      cases en : (placesOf fn x)[j]? with
      | none =>
        rw [en] at hv3
        cases hv3
      | some k =>
        rw [en] at hv3 hdn
        cases hv3
        cases hdn
        have hk : k < b0.length := by
          rw [hsl]
          exact places_mem.mp (List.mem_of_getElem? en)
        have eg : (b0.map V.int)[k]? = some (.int (b0.getD k 0)) := by
          rw [List.getElem?_map, List.getD_eq_getElem?_getD, List.getElem?_eq_getElem hk]
          rfl
        exact ⟨rfl, _, rfl, _, rfl, q, _, _, _, rfl, rfl, sqT_go g8 hq, atI_at (j := k) eg, hF' _ _ Go.refl (.int _)⟩
    refine ⟨D7, _, rfl, .inl ⟨SqL.of e8, fun q8 nq8 => ?_⟩⟩
    have k8 := Go.new (T := T) (m := []) (o := .tup acc8) Go.refl nq8
    exact hF _ _ (g8.trans k8) (.tup (.inl (.inl upd_same)) (DpAll.go k8 _ _ (fz_map _ (fun k => by simp [fz]) _) d8))
  refine ⟨D1, _, rfl, .inl ⟨SqL.of e7, fun t5 nt5 => ?_⟩⟩
  have k7 := Go.new (T := T) (m := []) (o := .tup acc7) Go.refl nt5
  have k67 := g7.trans k7
  have db7 : Dp K (upd H7 t5 (.tup acc7)) (.ref t5) (.tuple ((movedB fn x bk).map eB)) := .tup (.inl (.inl upd_same)) (DpAll.go k7 _ _ (fz_map _ fz_eB _) d7)
  generalize upd H7 t5 (.tup acc7) = H8 at k67 db7 ⊢
  have G8 := G6.trans k67
  have k18 := k16.trans k67
  have fB : ∀ l : List (List Int), fz (.tuple (l.map eB)) = true := fun l => fz_tupOf _ fz_eB l
  -- the states
  refine ⟨_, rfl, _, rfl, .ref a, .ref e, x, bk, rfl, Dp.go G8 _ _ (fz_eSh _) hv, Dp.go G8 _ _ (fB _) hu2, ok, hbl, hbk, fun H9 r9 g9 d9 => ?_⟩
  obtain ⟨q9, acc9, rfl, hq9, da9⟩ := dp_tup d9
  have k19 := k18.trans g9
  refine ⟨_, rfl, _, rfl, u1, .ref t5, movedOf fn x, movedB fn x bk, rfl, Dp.go k19 _ _ (fz_eSh _) du1, Dp.go g9 _ _ (fB _) db7, mg, movedB_at, by rw [movedB_len]; exact hbk, fun H10 r10 g10 d10 => ?_⟩
  have G10 := (G8.trans g9).trans g10
  have k610 := (k67.trans g9).trans g10
  have hp10 := sqL_go k610 (by simp) hp6
  refine ⟨_, rfl, p1, rfl, ⟨_, hp10⟩, fun D2 nD2 => ?_⟩
  refine lc_dp (K := K) (T := T) (m := []) (walk_list (xs := (placesOf fn x).map fun k => V.int (k : Nat))) nD2 (fun a ha => absurd ha (by simp)) (small (by simp; omega)) (((placesOf fn x).map fun k => rnL fn ((stateAfter x bk).getD k ln0)).map eL) (by simp) (fz_map _ fz_eL _) (fun H11 g => sqL_go g (by simp) hp10) (fun j v H11 H12 dn hdn g y F' Z' hF' => ?_) fun H11 acc11 g11 e11 d11 => ?_
  · obtain ⟨rfl, hv3⟩ := y
    rw [List.getElem?_map] at hv3
    rw [List.getElem?_map, List.getElem?_map] at hdn
    cases en : (placesOf fn x)[j]? with
    | none =>
      rw [en] at hv3
      cases hv3
    | some k =>
      rw [en] at hv3 hdn
      cases hv3
      cases hdn
      have hk := places_mem.mp (List.mem_of_getElem? en)
      obtain ⟨w1, ew, dw⟩ := DpAll.map_at' da9 (state_at bk hk)
      have k9 := g10.trans g
      refine ⟨rfl, te_rn (i := 1) rfl (hnm.go (G10.trans g)) (by rw [state_name bk hk]; exact name_mem hk) (Dp.go k9 _ _ (fz_eL _) dw) (fun H' Q' g' q' => ⟨_, rfl, _, rfl, q9, _, _, w1, rfl, rfl, sqT_go (k9.trans g') hq9, atI_at (j := k) ew, q'⟩) fun H5 u g5 d5 => hF' _ _ g5 d5⟩
  refine ⟨D2, _, rfl, .inl ⟨SqL.of e11, fun t11 nt11 => ?_⟩⟩
  have k11 := Go.new (T := T) (m := []) (o := .tup acc11) Go.refl nt11
  have d11' : Dp K (upd H11 t11 (.tup acc11)) (.ref t11) (.tuple (((placesOf fn x).map fun k => rnL fn ((stateAfter x bk).getD k ln0)).map eL)) := .tup (.inl (.inl upd_same)) (DpAll.go k11 _ _ (fz_map _ fz_eL _) d11)
  have g11' := g11.trans k11
  generalize upd H11 t11 (.tup acc11) = H12 at g11' d11' ⊢
  rw [state_moved] at d10
  have shT := shaped_lines (moved_state_names rn bk)
  refine ⟨_, _, Dp.go g11' _ _ (fz_tupOf _ fz_eL _) d10, d11', shT, shT, _, rfl, ne_self shT ?_⟩
  have G12 := G10.trans g11'
  have k112 := (k19.trans g10).trans g11'
  -- the parts
  refine ⟨_, rfl, a, _, 2, .ref d, rfl, rfl, sqT_go G12 ha, atI_at (j := 2) rfl, d, ds, rfl, .inr (sqT_go G12 hd), ?_⟩
  refine ⟨_, rfl, by omega, by omega, ?_⟩
  refine for_range (n := (((ds.length : Nat) : Int)).toNat) (fun i σ H' => Go T [] H12 H' ∧ ∃ y, σ = [some (.ref a), some (.ref nm), some (.ref e), some u1, some (.ref p1), some (.ref t5), some (.ref q9), y, none, none, none, none, none, none]) ⟨Go.refl, _, rfl⟩ (fun i σ H' hi h => ?_) fun σ H13 h => ?_
  · obtain ⟨g, y, rfl⟩ := h
    have hi2 : i < x.ds.length := by omega
    have Gi := G12.trans g
    have ki := k112.trans g
    refine ⟨_, rfl, _, rfl, u1, movedOf fn x, i, by simp, Dp.go ki _ _ (fz_eSh _) du1, by rw [moved_days]; exact hi2, by rw [moved_days]; omega, fun Ha ra ga da => ?_⟩
    refine ⟨_, rfl, _, rfl, .ref a, x, i, by simp, Dp.go (Gi.trans ga) _ _ (fz_eSh _) hv, hi2, by omega, fun Hb rb gb dbb => ?_⟩
    refine ⟨_, rfl, rb, nm, partOf x i, fn, rfl, dbb, part_good ok, hnm.go ((Gi.trans ga).trans gb), fun Hc tc pc uc gc htc duc npc epc => ?_⟩
    refine ⟨tc, _, 0, uc, rfl, rfl, htc, atI_at (j := 0) rfl, ?_⟩
    rw [part_moved] at da
    have shP := shaped_eSh (moved_good (part_good (d := i) ok) rn)
    exact ⟨_, _, Dp.go (gb.trans gc) _ _ (fz_eSh _) da, duc, shP, shP, _, rfl, ne_self shP ⟨((g.trans ga).trans gb).trans gc, _, rfl⟩⟩
  obtain ⟨g13, y, rfl⟩ := h
  have G13 := G12.trans g13
  -- fresh
  refine ⟨_, rfl, a, _, 0, .ref b, rfl, rfl, sqT_go G13 ha, atI_at (j := 0) rfl, b, rfl, ⟨_, sqT_go G13 hb⟩, fun D3 nD3 => ?_⟩
  refine lc_dp (K := K) (T := T) (m := []) (walk_tup (xs := ls)) nD3 (fun a ha => absurd ha (by simp)) (small (by omega)) ((namesOf x).map PyData.str) (by simp; omega) (fz_map _ (fun a => by simp [fz]) _) (fun H3 g => sqT_go (G13.trans g) hb) (fun i v H3 H4 dn hdn g y F Z hF => ?_) fun H14 acc14 g14 e14 d14 => ?_
  · obtain ⟨rfl, hv⟩ := y
    obtain ⟨m, em, dm⟩ := DpAll.map_at (DpAll.go (G13.trans g) _ _ (fz_map _ fz_eL _) db) hv
    obtain ⟨q, wl2, rfl, hl, _⟩ := dp_eL dm
    rw [List.getElem?_map, List.getElem?_map, em] at hdn
    cases hdn
    exact ⟨rfl, _, rfl, q, _, _, _, rfl, rfl, hl, atI_at (j := 0) rfl, hF _ _ Go.refl (.str _)⟩
  have ea := dpAll_strs_inv d14
  subst ea
  have G14 := G13.trans g14
  have h14 : SqL K H14 D3 ((namesOf x).map V.str) := SqL.of e14
  have nl : (namesOf x).length = x.ls.length := List.length_map _
  have n0 : 1 ≤ x.ls.length := by
    have := List.length_pos_iff.mpr ok.ls.ne
    omega
  refine ⟨_, rfl, D3, rfl, ⟨_, h14⟩, fun D4 nD4 => ?_⟩
  refine lc_dp (K := K) (T := T) (m := []) (walk_list (xs := (namesOf x).map V.str)) nD4 (fun a ha => absurd ha (by simp)) (small (by simp; omega)) (((namesOf x).map fn).map PyData.str) (by simp) (fz_map _ (fun k => by simp [fz]) _) (fun H6 g6 => sqL_go g6 (by simp) h14) (fun j v H6 H7 dn hdn g6 y F' Z' hF' => ?_) fun H15 acc15 g15 e15 d15 => ?_
  · obtain ⟨rfl, hv⟩ := y
    rw [List.getElem?_map] at hv
    rw [List.getElem?_map, List.getElem?_map] at hdn
    cases en : (namesOf x)[j]? with
    | none =>
      rw [en] at hv
      cases hv
    | some n =>
      rw [en] at hv hdn
      cases hv
      cases hdn
      exact ⟨rfl, _, rfl, _, rfl, nm, _, rfl, (hnm.go (G14.trans g6)).get (List.mem_of_getElem? en), hF' _ _ Go.refl (.str _)⟩
  have ea := dpAll_strs_inv d15
  subst ea
  refine ⟨D4, (namesOf x).map fn, rfl, SqL.of e15, by simp; omega, by simp; omega, fun H16 r16 g16 d16 => ?_⟩
  obtain ⟨q16, acc16, rfl, hq16, da16⟩ := dp_tup d16
  have G16 := (G14.trans g15).trans g16
  refine ⟨_, rfl, q16, acc16, rfl, .inr hq16, fun l1 nl1 => ?_⟩
  have k17 := Go.new (T := T) (m := []) (o := .lst acc16) Go.refl nl1
  have e17 : upd H16 l1 (.lst acc16) l1 = some (.lst acc16) := upd_same
  generalize upd H16 l1 (.lst acc16) = H17 at k17 e17 ⊢
  have k1417 := (g15.trans g16).trans k17
  refine ⟨_, rfl, D3, namesOf x, rfl, sqL_go k1417 (by simp) h14, by omega, by omega, fun H18 r18 g18 d18 => ?_⟩
  obtain ⟨q18, acc18, rfl, hq18, da18⟩ := dp_tup d18
  have l18 := DpAll.len da18
  rw [List.length_map, sortS_len] at l18
  have G18 := (G16.trans k17).trans g18
  refine ⟨q18, rfl, ⟨_, hq18⟩, fun D5 nD5 => ?_⟩
  refine lc_dp (K := K) (T := T) (m := []) (walk_tup (xs := acc18)) nD5 (fun a ha => absurd ha (by simp)) (small (by omega)) (((sortS (namesOf x)).map fun n => rnL fn (freshLn n)).map eL) (by rw [List.length_map, List.length_map, sortS_len]; omega) (fz_map _ fz_eL _) (fun H6 g6 => sqT_go g6 hq18) (fun j v H6 H7 dn hdn g6 y F' Z' hF' => ?_) fun H19 acc19 g19 e19 d19 => ?_
  · obtain ⟨rfl, hv⟩ := y
    obtain ⟨n, em, dm⟩ := DpAll.map_at (DpAll.go g6 _ _ (fz_map _ (fun n => fz_eL _) _) da18) hv
    rw [List.getElem?_map, List.getElem?_map, em] at hdn
    cases hdn
    have hn : n ∈ namesOf x := (sortS_perm _).mem_iff.mp (List.mem_of_getElem? em)
    exact ⟨rfl, te_rn (i := 1) rfl (hnm.go (G18.trans g6)) hn dm (gv_var rfl) fun H5 u g5 d5 => hF' _ _ g5 d5⟩
  obtain ⟨bs, b1, b2, b3, b4, b5, b6⟩ := sorted_bs (enc := eL) (l := (sortS (namesOf x)).map fun n => rnL fn (freshLn n)) d19 alike_eL (Sortable.tuples fun l => ⟨_, _, rfl⟩) (fun l => Nat.le_trans (depth_eL l) (by decide)) fz_eL
  refine ⟨D5, bs, rfl, .inl (by rw [b1]; exact SqL.of e19), b2, b3, b4, b5, fun p20 np20 => ?_⟩
  have d20 := b6 p20 ((bs.mergeSort (dataLe false (·.2))).map (·.1)) np20
  generalize (bs.mergeSort (dataLe false (·.2))).map (·.1) = acc20 at d20 ⊢
  rw [fresh_moved rn hnd] at d20
  have k20 := Go.new (T := T) (m := []) (o := .lst acc20) Go.refl np20
  have k1720 := (g18.trans g19).trans k20
  have da16' : DpAll K H16 acc16 (((sortS ((namesOf x).map fn)).map freshLn).map eL) := by
    rw [List.map_map]
    exact da16
  have shL : SeqAt.shaped (.list (((sortS ((namesOf x).map fn)).map freshLn).map eL)) = true := shaped_linesL fun l hl => by
    obtain ⟨n, hn, rfl⟩ := List.mem_map.mp hl
    obtain ⟨m, hm, rfl⟩ := List.mem_map.mp ((sortS_perm _).mem_iff.mp hn)
    exact rn.ok m hm
  refine ⟨_, _, .lst (sqL_go k1720 (by simp) (SqL.of e17)) (DpAll.go (k17.trans k1720) _ _ (fz_map _ fz_eL _) da16'), .lst (SqL.of upd_same) d20, shL, shL, ?_⟩
  rw [sh_eqv shL]
  exact hQ _ ((G18.trans g19).trans k20)
end Cb
/-! ## CbL13 -/
set_option maxHeartbeats 4000000
/-! The law's check of a text under other names. -/
namespace Cb
open PySem PySem.Spec PyProof.Rows L2
open NdefX (NTab TabN TabsN NF FnO NScope NOk nok_of nscope_by startF)
open C8 (pe_c pe_mt pe_mt0 pe_mk)
open SX (S)
open PySem.W (dataLe dataLt alike alikeAll AllAlike Sortable)
variable {P : Program} {w : World} {K : PySem.W.Frag} {mg : Str → Option Value} {base : Heap} {CR CA : Addr} {T : List NTab}
theorem rj_bound {s : List Nat} {ps : List (List Nat)} {n : Nat} (h : ∀ q ∈ ps, q.length ≤ n) (hz : ps.length * (n + s.length) ≤ 16777216) : ((ps.map S).map (·.length)).sum + (ps.map S).length * (S s).length ≤ 16777216 := by
  rw [SX.lens, List.length_map, SX.S_len]
  exact Nat.le_trans (join_le h) hz
theorem iteTc {b : Bool} {A B : Prop} (hb : b = true) (h : A) : if b = true then A else B := by
  rw [hb]
  exact iteT h
theorem iteFc {b : Bool} {A B : Prop} (hb : b = false) (h : B) : if b = true then A else B := by
  rw [hb]
  exact iteF h
def spLCheckText (T : List NTab) (K : PySem.W.Frag) : Sp := fun vs H Q _ => ∃ (v : V) (nm : Addr) (x : Sheet) (f : Str → Str), vs = [v, .ref nm] ∧ Dp K H v (eSh x) ∧ Good x ∧ Nm H nm f (namesOf x) ∧ Ren f (namesOf x) ∧ Rise f (namesOf x) ∧ ∀ H', Go T [] H H' → Q (.bl true) H'
theorem c_L_check_text (B : Bs K mg CR CA) : C8.Cal P w K mg base 6 "_law_check_text" (spLCheckText T K) [] := by
  refine B.f_L_check_text.cal sc_L_check_text (fun _ _ _ _ _ _ us hl => match us, hl with | [_, _], _ => rfl) (fun vs H Q E h => ?_) fun f cdv A outer s H vs Q E hr h => ?_
  · obtain ⟨v, nm, x, g, rfl, _⟩ := h
    rfl
  obtain ⟨v, nm, x, fn, rfl, hv, ok, hnm, rn, up, hQ⟩ := h
  have nd := sc_L_check_text.nd
  have hu := hu_of hr
  refine ⟨_, pss_cons (ps_set (i := 2) nd rfl (Or.inl rfl) (pe_ix ix_tup (pe_c (c_L_moved (T := T) B) hr (by decide) (by rfl) (pa_cons (pv 0) (pa_cons (pv 1) pa_nil))) pe_int (fun _ _ => rfl)))
    (pss_cons (ps_set (i := 3) nd rfl (Or.inl rfl) (pe_lst pa_nil))
    (pss_cons (ps_for PassesOwn.never rfl (pi_list (pe_split (pe_c (c_sheet_text (T := T) B) hr (by decide) (by rfl) (pa_cons (pv 0) pa_nil)) pe_str)) (pg_name (i := 4) nd rfl (Or.inl rfl))
      (pss_cons (ps_set (i := 5) nd rfl (Or.inl rfl) (pe_split (pv 4) pe_str))
    (pss_cons (ps_if (pt_cmpR op_in_seq (pe_ix ix_list (pv 5) pe_int (fun _ _ => rfl)) (pe_tup (pa_cons pe_str (pa_cons pe_str pa_nil))) (by rfl)) (pss_one (ps_asg (pe_dget hu (pv 1) (pe_ix ix_list (pv 5) pe_int (fun _ _ => rfl)) (fun _ _ => rfl)) (pg_sub (pv 5) pe_int set_list))) pss_nil)
    (pss_cons (ps_if (pt_cmpR op_eq (pe_ix ix_list (pv 5) pe_int (fun _ _ => rfl)) pe_str (nomark _)) (pss_one (ps_set (i := 5) nd rfl (Or.inl rfl) (pe_op op_cat (pe_slice sl_list (pv 5) po_none (po_some pe_int)) (pe_lc (own := [("_law_head", 6)]) (g := gName 6) (te := tDGet (tVar 1) (tVar 6)) (by rfl) nd (pi_list (pe_slice sl_list (pv 5) (po_some pe_int) po_none)) (blkOk_by (own := [("_law_head", 6)]) (N := N_L_check_text) (sc := defScope s_L_check_text) (by decide +kernel))
        (fun _ _ _ _ _ => pg_name (i := 6) nd rfl (Or.inl rfl)) (fun _ _ _ _ _ => pts_nil) (fun _ _ _ _ _ => pe_dget hu (pv 1) (pv 6) (fun _ _ => rfl)))))) pss_nil)
    (pss_one (ps_expr (pe_bm PySem.F.plainAttrs_list PySem.F.slot_list_append PySem.F.type_list_append mt_append (pv 3) (pa_cons (pe_join pe_str (pv 5)) pa_nil))))))))
    (pss_one (ps_ret (pe_cmpR op_eq (pe_c (c_sheet_text (T := T) B) hr (by decide) (by rfl) (pa_cons (pv 2) pa_nil)) (pe_join pe_str (pv 3)) (nomark _)))))), ?_⟩
  obtain ⟨a, b, c, d, ls, ss, ds, rfl, ha, hb, db, hc, dc, hd, dd⟩ := dp_eSh hv
  have m1 := ok.ls.most
  have m2 := ok.ss.most
  have m3 := ok.dn
  have mg := moved_good ok rn
  have rc := rows_count ok
  have tl := text_len ok
  have rl := rows_len_eq ok up
  refine ⟨_, rfl, _, rfl, .ref a, nm, x, fn, rfl, hv, ok, hnm, fun H1 t1 p1 u1 g1 ht1 du1 np1 ep1 => ⟨t1, _, 0, u1, rfl, rfl, ht1, atI_at (j := 0) rfl, ?_⟩⟩
  refine ⟨(by show 0 ≤ sizeLine; decide), fun D nD => ?_⟩
  have k2 : Go T [] H1 (upd H1 D (.lst [])) := Go.new Go.refl nD
  have eD2 : upd H1 D (.lst []) D = some (.lst []) := upd_same
  generalize upd H1 D (.lst []) = H2 at k2 eD2 ⊢
  have zD : H D = none := g1.there _ nD
  refine ⟨_, rfl, .ref a, x, rfl, Dp.go (g1.trans k2) _ _ (fz_eSh _) hv, ok, fun H3 g3 => ⟨⟨_, rfl⟩, _, _, rfl, rfl, by decide, by rw [SX.S_len]; exact small (by omega), fun q nq => ?_⟩⟩
  rw [show ("\n" : Str) = S [10] from rfl, text_split ok]
  have k4 : Go T [] H3 (upd H3 q (.lst ((((rowsOf x).map rowL).map S).map V.str))) := Go.new Go.refl nq
  have eD3 : H3 D = _ := g3.keep D _ (by simp) eD2 fun ps z => by cases z
  have qD : q ≠ D := Ne.symm (ne_of_none eD3 nq)
  have eD4 : upd H3 q (.lst ((((rowsOf x).map rowL).map S).map V.str)) D = _ := k4.keep D _ (by simp) eD3 fun ps z => by cases z
  have hq : SqL K (upd H3 q (.lst ((((rowsOf x).map rowL).map S).map V.str))) q ((((rowsOf x).map rowL).map S).map V.str) := SqL.of upd_same
  have G4 : Go T [] H _ := ((g1.trans k2).trans g3).trans k4
  have k14 := (k2.trans g3).trans k4
  refine ⟨q, rfl, ⟨_, hq⟩, ?_⟩
  generalize upd H3 q (.lst ((((rowsOf x).map rowL).map S).map V.str)) = H4 at eD4 hq G4 k14 ⊢
  refine for_it (walk_list (xs := (((rowsOf x).map rowL).map S).map V.str)) (fun i σ H' => Go T [D] H4 H' ∧ H' D = some (.lst (((((rowsOf (movedOf fn x)).take i).map rowL).map S).map V.str)) ∧ ∃ y4 y5, σ = [some (.ref a), some (.ref nm), some u1, some (.ref D), y4, y5, none])
    ⟨Go.refl, by simpa using eD4, _, _, rfl⟩ (fun i σ H' hi h => sqL_go h.1 (by simpa using qD) hq) (fun i v σ H50 H5 hi h y => ?_) fun σ H5 h => ?_
  · obtain ⟨rfl, hv2⟩ := y
    obtain ⟨g5, eD5, y4, y5, rfl⟩ := h
    have hi2 : i < (rowsOf x).length := by simpa using hi
    have ew : (rowsOf x)[i]? = some (rowsOf x)[i] := List.getElem?_eq_getElem hi2
    generalize (rowsOf x)[i] = ws at ew
    have wsm := List.mem_of_getElem? ew
    obtain ⟨wne, wcl⟩ := rows_clean ok ws wsm
    have wll := rows_len ok ws wsm
    simp only [List.getElem?_map, ew, Option.map_some] at hv2
    cases hv2
    have nm5 : Nm H5 nm fn (namesOf x) := (hnm.go G4).go g5 (by
      obtain ⟨kvs, e, _⟩ := hnm
      intro z
      have z : nm = D := by simpa using z
      rw [z, zD] at e
      cases e)
    refine ⟨_, rfl, ⟨_, rfl⟩, _, _, rfl, rfl, by decide, by rw [SX.S_len]; exact small (by omega), fun W nW => ?_⟩
    rw [show (" " : Str) = S [32] from rfl, words_split wne wcl]
    have kW : Go T [] H5 (upd H5 W (.lst ((ws.map S).map V.str))) := Go.new Go.refl nW
    have eW : upd H5 W (.lst ((ws.map S).map V.str)) W = some (.lst ((ws.map S).map V.str)) := upd_same
    generalize upd H5 W (.lst ((ws.map S).map V.str)) = H6 at kW eW ⊢
    have fin : ∀ (ws2 : List (List Nat)) (H7 : Hp) (y : V), (rowsOf (movedOf fn x))[i]? = some ws2 → Go T [] H5 H7 → y = .str (S (rowL ws2)) →
        ∃ zs, H7 D = some (.lst zs) ∧ zs.length < sizeLine ∧ Go T [D] H4 (upd H7 D (.lst (zs ++ [y]))) ∧ upd H7 D (.lst (zs ++ [y])) D = some (.lst (((((rowsOf (movedOf fn x)).take (i + 1)).map rowL).map S).map V.str)) := fun ws2 H7 y e2 g7 ey => by
      have eD7 : H7 D = _ := g7.keep D _ (by simp) eD5 fun ps z => by cases z
      refine ⟨_, eD7, small (by simp; omega), (g5.trans g7.any).put (.inl (by simp)) eD7 rfl, ?_⟩
      rw [upd_same, List.take_add_one, e2, ey]
      simp
    rcases row_cases ok up ew with ⟨l, hl, rfl, e2⟩ | ⟨s0, hs, rfl, e2⟩ | ⟨d0, hd0, rfl, e2⟩
    · have e0 : (((wordsL l).map S).map V.str)[0]? = some (.str (S (if l.2.2.2 = true then wLine else wEnded))) := rfl
      have ef : inV (.str (S (if l.2.2.2 = true then wLine else wEnded))) [V.str "line", V.str "ended"] = true := by
        cases l.2.2.2 <;> decide +kernel
      refine ⟨_, rfl, W, _, 0, _, rfl, rfl, SqL.of eW, atI_at (j := 0) e0, (by show 2 ≤ sizeLine; decide), fun p np => ?_⟩
      have kp := Go.new (T := T) (m := []) (o := .tup [V.str "line", V.str "ended"]) Go.refl np
      have eW7 : upd H6 p (.tup [V.str "line", V.str "ended"]) W = _ := kp.keep W _ (by simp) eW fun ps z => by cases z
      refine ⟨p, _, rfl, .inr (.inl (.inl upd_same)), rfl, rfl, _, rfl, iteTc ef ?_⟩
      have en : (((wordsL l).map S).map V.str)[1]? = some (.str l.1) := by
        show some (V.str (S (sg l.1))) = _
        rw [S_sg]
      refine ⟨_, rfl, _, rfl, W, _, 1, _, rfl, rfl, SqL.of eW7, atI_at (j := 1) en, nm, _, rfl, ((nm5.go kW).go kp).get (List.mem_map.mpr ⟨l, hl, rfl⟩), _, rfl, W, _, 1, 1, rfl, rfl, eW7, rfl, ?_⟩
      have kq : Go T [] H5 _ := (kW.trans kp).put (o := .lst (((wordsL l).map S |>.map V.str).set 1 (.str (fn l.1)))) (.inr nW) eW7 rfl
      have ews : (((wordsL l).map S).map V.str).set 1 (.str (fn l.1)) = ((wordsL (rnL fn l)).map S).map V.str := by
        show [_, V.str (fn l.1), _, _] = [_, V.str (S (sg (fn l.1))), _, _]
        rw [S_sg]
        rfl
      rw [ews] at kq ⊢
      have eW8 : upd (upd H6 p (.tup [V.str "line", V.str "ended"])) W (.lst (((wordsL (rnL fn l)).map S).map V.str)) W = some (.lst (((wordsL (rnL fn l)).map S).map V.str)) := upd_same
      generalize upd (upd H6 p (.tup [V.str "line", V.str "ended"])) W (.lst (((wordsL (rnL fn l)).map S).map V.str)) = H7 at kq eW8 ⊢
      have e0' : (((wordsL (rnL fn l)).map S).map V.str)[0]? = some (.str (S (if l.2.2.2 = true then wLine else wEnded))) := rfl
      have es : ¬ (V.str (S (if l.2.2.2 = true then wLine else wEnded)) = V.str "section") := by
        cases l.2.2.2 <;> decide +kernel
      refine ⟨_, rfl, W, _, 0, _, rfl, rfl, SqL.of eW8, atI_at (j := 0) e0', rfl, _, rfl, iteDF es ?_⟩
      obtain ⟨zs, f1, f2, f3, f4⟩ := fin _ _ _ e2 kq rfl
      refine ⟨_, rfl, .inl ⟨rfl, _, SqL.of f1⟩, ⟨_, rfl⟩, _, rfl, S [32], W, (wordsL (rnL fn l)).map S, rfl, rfl, .inl (SqL.of eW8), rj_bound (n := 33) (wordsL_len (rn.ok _ (List.mem_map.mpr ⟨l, hl, rfl⟩)) (ok.ls.fr l hl) (ok.ls.cents l hl)) (by simp [wordsL]), ?_⟩
      rw [SX.join_S]
      exact ⟨D, zs, _, rfl, rfl, f1, f2, f3, f4, _, _, rfl⟩
    · have hsl := (ok.ss.len s0 hs).2
      have e0 : (((wordsS s0).map S).map V.str)[0]? = some (.str (S wSection)) := rfl
      refine ⟨_, rfl, W, _, 0, _, rfl, rfl, SqL.of eW, atI_at (j := 0) e0, (by show 2 ≤ sizeLine; decide), fun p np => ?_⟩
      have kp := Go.new (T := T) (m := []) (o := .tup [V.str "line", V.str "ended"]) Go.refl np
      have eW7 : upd H6 p (.tup [V.str "line", V.str "ended"]) W = _ := kp.keep W _ (by simp) eW fun ps z => by cases z
      refine ⟨p, _, rfl, .inr (.inl (.inl upd_same)), rfl, rfl, _, rfl, iteFc (by decide +kernel) ?_⟩
      refine ⟨_, rfl, W, _, 0, _, rfl, rfl, SqL.of eW7, atI_at (j := 0) e0, rfl, _, rfl, iteD (by decide +kernel) ?_⟩
      have k7 := kW.trans kp
      generalize upd H6 p (.tup [V.str "line", V.str "ended"]) = H7 at k7 eW7 ⊢
      refine ⟨_, rfl, 1, rfl, W, _, rfl, SqL.of eW7, fun p8 np8 => ?_⟩
      have ec1 : cutV (((wordsS s0).map S).map V.str) none (some 1) = [V.str (S wSection)] := cut_to (k := 1) (by simp [wordsS])
      have ec2 : cutV (((wordsS s0).map S).map V.str) (some 1) none = s0.map V.str := by
        rw [show ((1 : Int)) = ((1 : Nat) : Int) from rfl, cut_from (k := 1) (by simp [wordsS])]
        show ((s0.map sg).map S).map V.str = _
        rw [map_sg]
      rw [ec1]
      have k8 := Go.new (T := T) (m := []) (o := .lst [V.str (S wSection)]) Go.refl np8
      have e88 : upd H7 p8 (.lst [V.str (S wSection)]) p8 = some (.lst [V.str (S wSection)]) := upd_same
      have eW8 : upd H7 p8 (.lst [V.str (S wSection)]) W = _ := k8.keep W _ (by simp) eW7 fun ps z => by cases z
      have k58 := k7.trans k8
      generalize upd H7 p8 (.lst [V.str (S wSection)]) = H8 at k58 e88 eW8 ⊢
      refine ⟨_, rfl, 1, rfl, W, _, rfl, SqL.of eW8, fun p9 np9 => ?_⟩
      rw [ec2]
      have k9 := Go.new (T := T) (m := []) (o := .lst (s0.map V.str)) Go.refl np9
      have e99 : upd H8 p9 (.lst (s0.map V.str)) p9 = some (.lst (s0.map V.str)) := upd_same
      have e89 : upd H8 p9 (.lst (s0.map V.str)) p8 = _ := k9.keep p8 _ (by simp) e88 fun ps z => by cases z
      have k59 := k58.trans k9
      generalize upd H8 p9 (.lst (s0.map V.str)) = H9 at k59 e99 e89 ⊢
      have h9 : SqL K H9 p9 (s0.map V.str) := SqL.of e99
      refine ⟨p9, rfl, ⟨_, h9⟩, fun D2 nD2 => ?_⟩
      refine lc_dp (K := K) (T := T) (m := []) (walk_list (xs := s0.map V.str)) nD2 (fun a ha => absurd ha (by simp)) (small (by simp; omega)) ((s0.map fn).map PyData.str) (by simp) (fz_map _ (fun k => by simp [fz]) _) (fun H6 g6 => sqL_go g6 (by simp) h9) (fun j v H6 H7 dn hdn g6 y F' Z' hF' => ?_) fun H10 acc10 g10 e10 d10 => ?_
      · obtain ⟨rfl, hv⟩ := y
        rw [List.getElem?_map] at hv
        rw [List.getElem?_map, List.getElem?_map] at hdn
        cases en : s0[j]? with
        | none =>
          rw [en] at hv
          cases hv
        | some n =>
          rw [en] at hv hdn
          cases hv
          cases hdn
          exact ⟨rfl, _, rfl, _, rfl, nm, _, rfl, ((nm5.go k59).go g6).get (ok.ss.sub s0 hs n (List.mem_of_getElem? en)), hF' _ _ Go.refl (.str _)⟩
      have ea := dpAll_strs_inv d10
      subst ea
      have e8a : H10 p8 = _ := g10.keep p8 _ (by simp) e89 fun ps z => by cases z
      refine ⟨p8, D2, _, _, rfl, rfl, e8a, e10, small (by simp; omega), fun W2 nW2 => ?_⟩
      have ecat : [V.str (S wSection)] ++ (s0.map fn).map V.str = ((wordsS (s0.map fn)).map S).map V.str := by
        show _ = V.str (S wSection) :: (((s0.map fn).map sg).map S).map V.str
        rw [map_sg]
        rfl
      rw [ecat]
      have k11 := (k59.trans g10).new (o := .lst (((wordsS (s0.map fn)).map S).map V.str)) nW2
      have e11 : upd H10 W2 (.lst (((wordsS (s0.map fn)).map S).map V.str)) W2 = some (.lst (((wordsS (s0.map fn)).map S).map V.str)) := upd_same
      generalize upd H10 W2 (.lst (((wordsS (s0.map fn)).map S).map V.str)) = H11 at k11 e11 ⊢
      obtain ⟨zs, f1, f2, f3, f4⟩ := fin _ _ _ e2 k11 rfl
      refine ⟨_, rfl, .inl ⟨rfl, _, SqL.of f1⟩, ⟨_, rfl⟩, _, rfl, S [32], W2, (wordsS (s0.map fn)).map S, rfl, rfl, .inl (SqL.of e11), rj_bound (n := 33) (wordsS_len fun n hn => ?_) (by simp [wordsS]; omega), ?_⟩
      · obtain ⟨m, hm, rfl⟩ := List.mem_map.mp hn
        exact rn.ok m (ok.ss.sub s0 hs m hm)
      rw [SX.join_S]
      exact ⟨D, zs, _, rfl, rfl, f1, f2, f3, f4, _, _, rfl⟩
    · have hdl := (ok.ds d0 hd0).len
      have e0 : (((wordsD d0).map S).map V.str)[0]? = some (.str (S wDay)) := rfl
      refine ⟨_, rfl, W, _, 0, _, rfl, rfl, SqL.of eW, atI_at (j := 0) e0, (by show 2 ≤ sizeLine; decide), fun p np => ?_⟩
      have kp := Go.new (T := T) (m := []) (o := .tup [V.str "line", V.str "ended"]) Go.refl np
      have eW7 : upd H6 p (.tup [V.str "line", V.str "ended"]) W = _ := kp.keep W _ (by simp) eW fun ps z => by cases z
      refine ⟨p, _, rfl, .inr (.inl (.inl upd_same)), rfl, rfl, _, rfl, iteFc (by decide +kernel) ?_⟩
      refine ⟨_, rfl, W, _, 0, _, rfl, rfl, SqL.of eW7, atI_at (j := 0) e0, rfl, _, rfl, iteDF (by decide +kernel) ?_⟩
      obtain ⟨zs, f1, f2, f3, f4⟩ := fin _ _ _ e2 (kW.trans kp) rfl
      refine ⟨_, rfl, .inl ⟨rfl, _, SqL.of f1⟩, ⟨_, rfl⟩, _, rfl, S [32], W, (wordsD d0).map S, rfl, rfl, .inl (SqL.of eW7), rj_bound (n := 33) (wordsD_len (ok.ds d0 hd0).fr) (by simp [wordsD]; omega), ?_⟩
      rw [SX.join_S]
      exact ⟨D, zs, _, rfl, rfl, f1, f2, f3, f4, _, _, rfl⟩
  · obtain ⟨g5, eD5, y4, y5, rfl⟩ := h
    rw [List.length_map, List.length_map, List.length_map, ← rl, List.take_length] at eD5
    have G5 : Go T [] H H5 := (G4.any.trans g5).cut fun b hb => .inr (by rw [show b = D by simpa using hb]; exact zD)
    have du5 : Dp K H5 u1 (eSh (movedOf fn x)) := Dp.go g5 _ _ (fz_eSh _) (Dp.go k14 _ _ (fz_eSh _) du1)
    refine ⟨_, rfl, u1, movedOf fn x, rfl, du5, mg, fun H6 g6 => ?_⟩
    have eD6 : H6 D = _ := g6.keep D _ (by simp) eD5 fun ps z => by cases z
    refine ⟨⟨_, rfl⟩, _, rfl, ?_⟩
    refine ⟨S [10], D, ((rowsOf (movedOf fn x)).map rowL).map S, rfl, rfl, .inl (SqL.of eD6), rj_bound (n := 3400) (fun r hr2 => ?_) ?_, ?_⟩
    · obtain ⟨ws, hw, rfl⟩ := List.mem_map.mp hr2
      exact rows_len mg ws hw
    · rw [List.length_map, rl]
      have : (rowsOf x).length * (3400 + [10].length) ≤ 19 * 3401 := Nat.mul_le_mul rc (by decide)
      omega
    · rw [SX.join_S]
      refine ⟨rfl, ?_⟩
      show Q (.bl (decide (V.str (S (textL (movedOf fn x))) = V.str (S (TL.joinL [10] ((rowsOf (movedOf fn x)).map rowL)))))) H6
      rw [show decide (V.str (S (textL (movedOf fn x))) = V.str (S (TL.joinL [10] ((rowsOf (movedOf fn x)).map rowL)))) = true from decide_eq_true rfl]
      exact hQ _ (G5.trans g6)
end Cb
/-! ## CbL14 -/
set_option maxHeartbeats 4000000
/-! The law. -/
namespace Cb
open PySem PySem.Spec PyProof.Rows L2
open NdefX (NTab TabN TabsN NF FnO NScope NOk nok_of nscope_by startF)
open C8 (pe_c pe_mt pe_mt0 pe_mk)
open SX (S)
open PySem.W (dataLe dataLt alike alikeAll AllAlike Sortable)
variable {P : Program} {w : World} {K : PySem.W.Frag} {mg : Str → Option Value} {base : Heap} {CR CA : Addr} {T : List NTab}
section
variable {X : Cx} {k j : Nat} {x : Str} {sp : Sp} {dvs : List V} {p pos : Pos}
theorem pe_c0 (c : C8.Cal X.prog X.w X.K X.mg X.base k x sp dvs) (hr : Room j X.A) (hk : k ≤ j) (hg : Gl X x) (hdb : (x == ("__debug__" : Str)) = false := by decide) : PE X (.Call (.Name x p) [] [] pos) (tCall sp dvs C8.E0 tNil) := by
  obtain ⟨f, fd, ps, ds, F, hm, kp, b, d⟩ := c.ex
  exact pe_call0 F (hr.mono hk) hg hm kp b d C8.pass0 hdb
end
def spLaw (T : List NTab) (K : PySem.W.Frag) : Sp := fun vs H Q _ => ∃ (a : Addr) (ns : List Int), vs = [.ref a] ∧ SqL K H a (ns.map V.int) ∧ ns.length ≤ 63 ∧ TabsN T H ∧ ∀ H', Q (.bl true) H'
theorem c_law (B : Bs K mg CR CA) (A0 : Ba K mg CA) (C : Tb K mg base T "name_after") (C2 : Tb K mg base T "section_read") (R : Rk K mg w) {f : Addr} {fd : FuncData} (F : L2.Fun K "law" "law" s_law f fd) : FnOk P w K mg base L2.CX0 11 f fd ["_law_script"] (spLaw T K) := by
  refine F.ok sc_law (fun vs H Q E h => ?_) fun cdv A outer s H vs Q E hr h => ?_
  · obtain ⟨a, ns, rfl, _⟩ := h
    rfl
  obtain ⟨a, ns, rfl, ha, hl, hT, hQ⟩ := h
  have nd := sc_law.nd
  have hu := hu_of hr
  refine ⟨_, pss_cons (ps_set (i := 1) nd rfl (Or.inl rfl) (pe_c (c_L_reader (T := T) B) hr (by decide) (by rfl) (pa_cons (pv 0) pa_nil)))
    (pss_cons (ps_set (i := 2) nd rfl (Or.inl rfl) (pe_c0 (c_L_fixed_sheets (T := T) B) hr (by decide) (by rfl)))
    (pss_cons (ps_for PassesOwn.never rfl (pi_range1 (by rfl) B.b_range (pa_cons pe_int pa_nil)) (pg_name (i := 3) nd rfl (Or.inl rfl))
      (pss_one (ps_expr (pe_bm PySem.F.plainAttrs_list PySem.F.slot_list_append PySem.F.type_list_append mt_append (pv 2) (pa_cons (pe_c (c_L_random_sheet (T := T) B) hr (by decide) (by rfl) (pa_cons (pv 1) (pa_cons pe_int (pa_cons pe_int pa_nil)))) pa_nil)))))
    (pss_cons (ps_for PassesOwn.never rfl (pi_list (pv 2)) (pg_name (i := 4) nd rfl (Or.inl rfl))
      (pss_cons (ps_setLc (i := 5) (own := [("_law_entry", 11)]) (g := gName 11) (te := tOp (rIxT K) (tVar 11) (tC (.int 0))) (by rfl) nd rfl rfl (sw_true rfl rfl rfl (by decide +kernel)) (pi_tup (pe_ix ix_tup (pv 4) pe_int (fun _ _ => rfl))) (blkOk_by (own := [("_law_entry", 11)]) (N := N_law) (sc := defScope s_law) (by decide +kernel))
        (fun _ _ _ _ _ => pg_name (i := 11) nd rfl (Or.inl rfl)) (fun _ _ _ _ _ => pts_nil) (fun _ _ _ _ _ => (pe_ix ix_tup (pv 11) pe_int (fun _ _ => rfl))))
    (pss_cons (ps_set (i := 6) nd rfl (Or.inl rfl) (pe_callTy (call_dictP rfl) (by rfl) B.b_dict (by decide +kernel) (pa_cons (pe_lc (own := [("_law_k", 3), ("_law_head", 9)]) (g := gTup K 2 (gCons (gName 3) (gCons (gName 9) gNil))) (te := tTup (tCons (tVar 9) (tCons (tOp (rIxL K) (tLst (tCons (tC (.str "b")) (tCons (tC (.str "c")) (tCons (tC (.str "dd")) (tCons (tC (.str "e")) (tCons (tC (.str "f")) (tCons (tC (.str "gaaaaaaa")) tNil))))))) (tVar 3)) tNil))) (by rfl) nd (pi_enum (by rfl) B.b_enumerate (pa_cons (pv 5) pa_nil)) (blkOk_by (own := [("_law_k", 3), ("_law_head", 9)]) (N := N_law) (sc := defScope s_law) (by decide +kernel))
        (fun _ _ _ _ _ => pg_tup (by rfl) (pgs_cons (pg_name (i := 3) nd rfl (Or.inl rfl)) (pgs_cons (pg_name (i := 9) nd rfl (Or.inl rfl)) pgs_nil))) (fun _ _ _ _ _ => pts_nil) (fun _ _ _ _ _ => pe_tup (pa_cons (pv 9) (pa_cons (pe_ix ix_list (pe_lst (pa_cons pe_str (pa_cons pe_str (pa_cons pe_str (pa_cons pe_str (pa_cons pe_str (pa_cons pe_str pa_nil))))))) (pv 3) (fun _ _ => rfl)) pa_nil)))) pa_nil)))
    (pss_cons (ps_par (i := 7) (j := 8) rfl nd rfl rfl (by decide) rfl rfl (pa_cons (pe_lst (pa_cons pe_str (pa_cons pe_str (pa_cons pe_str (pa_cons pe_str (pa_cons pe_str (pa_cons pe_str pa_nil))))))) (pa_cons pe_dnewK pa_nil)) (by rfl))
    (pss_cons (ps_for PassesOwn.never rfl (pi_list (pv 5)) (pg_name (i := 9) nd rfl (Or.inl rfl))
      (pss_one (ps_dput hu (pv 8) (pv 9) (pe_bm PySem.F.plainAttrs_list PySem.F.slot_list_pop PySem.F.type_list_pop mt_popAt (pv 7) (pa_cons (pe_c (c_L_draw (T := T) B) hr (by decide) (by rfl) (pa_cons (pv 1) (pa_cons (pe_callB call_len_seq (by rfl) B.b_len (by decide +kernel) (pa_cons (pv 7) pa_nil)) pa_nil))) pa_nil)) rfl)))
    (pss_cons (ps_set (i := 10) nd rfl (Or.inl rfl) (pe_c (c_L_random_booking (T := T) B) hr (by decide) (by rfl) (pa_cons (pv 1) (pa_cons (pv 4) pa_nil))))
    (pss_cons (ps_if (PW.pt (pw_or (pt_not (pt_val (pe_c (c_L_check_moved (T := T) B A0 C C2 R) hr (by decide) (by rfl) (pa_cons (pv 4) (pa_cons (pv 6) (pa_cons (pv 10) pa_nil)))))) (pw_or1 (pt_not (pt_val (pe_c (c_L_check_moved (T := T) B A0 C C2 R) hr (by decide) (by rfl) (pa_cons (pv 4) (pa_cons (pv 8) (pa_cons (pv 10) pa_nil))))))))) (pss_one (ps_ret pe_bl)) pss_nil)
    (pss_one (ps_if (pt_not (pt_val (pe_c (c_L_check_text (T := T) B) hr (by decide) (by rfl) (pa_cons (pv 4) (pa_cons (pv 6) pa_nil))))) (pss_one (ps_ret pe_bl)) pss_nil)))))))))
    (pss_one (ps_ret pe_bl))))), ?_⟩
  refine ⟨_, rfl, a, ns, rfl, ha, hl, fun H1 d cl g1 hd1 => ?_⟩
  refine ⟨rfl, fun H2 p xs0 g2 ep np dx => ?_⟩
  obtain ⟨pd, pc⟩ := hd1.out np
  have hd2 := hd1.go g2 (by simp) (by simp)
  have hT2 := (g1.trans g2).tabs hT
  have fX : ∀ xs : List Sheet, fzAll (xs.map eSh) = true := fun xs => fz_map _ fz_eSh xs
  refine ⟨8, rfl, by decide, by decide, ?_⟩
  refine for_range (n := 8) (fun i σ H' => (∃ (acc : List V) (xs : List Sheet), H' p = some (.lst acc) ∧ DpAll K H' acc (xs.map eSh) ∧ xs.length = 5 + i ∧ ∀ x ∈ xs, Good x) ∧ LRd H' d cl ∧ TabsN T H' ∧ ∃ y3, σ = [some (.ref a), some (.ref d), some (.ref p), y3, none, none, none, none, none, none, none, none])
    ⟨⟨xs0, fixeds, ep, dx, rfl, fixeds_good⟩, hd2, hT2, _, rfl⟩ (fun i σ H3 hi h => ?_) fun σ H3 h => ?_
  · obtain ⟨⟨acc, xs, e3, d3, l3, good3⟩, hd3, hT3, y3, rfl⟩ := h
    refine ⟨_, rfl, .inl ⟨rfl, _, SqL.of e3⟩, _, rfl, d, cl, rfl, hd3, fun H4 v x g4 hd4 gx dv => ?_⟩
    have e4 : H4 p = _ := g4.keep p _ (by simpa using pd) e3 fun ps z => by cases z
    have la := DpAll.map_len d3
    have k5 : Go T [p] H4 (upd H4 p (.lst (acc ++ [v]))) := Go.put Go.refl (.inl (by simp)) e4 rfl
    refine ⟨p, acc, v, rfl, rfl, e4, Nat.lt_of_lt_of_le (show acc.length < 100 by omega) (by decide), ⟨acc ++ [v], xs ++ [x], upd_same, ?_, by simp; omega, fun u hu => ?_⟩, hd4.put pd pc, k5.tabs (g4.tabs hT3), _, rfl⟩
    · rw [List.map_append]
      exact DpAll.snoc (DpAll.go k5 _ _ (fX _) (DpAll.go g4 _ _ (fX _) d3)) (Dp.go k5 _ _ (fz_eSh _) dv)
    · rcases List.mem_append.mp hu with hu | hu
      · exact good3 u hu
      · rw [List.mem_singleton.mp hu]
        exact gx
  obtain ⟨⟨acc, xs, e3, d3, l3, good3⟩, hd3, hT3, y3, rfl⟩ := h
  refine ⟨_, rfl, p, rfl, ⟨_, SqL.of e3⟩, ?_⟩
  refine for_it (walk_list (xs := acc)) (fun i σ H' => H' p = some (.lst acc) ∧ DpAll K H' acc (xs.map eSh) ∧ LRd H' d cl ∧ TabsN T H' ∧ ∃ y3 y4 y5 y6 y7 y8 y9 y10 y11, σ = [some (.ref a), some (.ref d), some (.ref p), y3, y4, y5, y6, y7, y8, y9, y10, y11])
    ⟨e3, d3, hd3, hT3, _, _, _, _, _, _, _, _, _, rfl⟩ (fun i σ H' hi h => SqL.of h.1) (fun i v σ H40 H4 hi h y => ?_) fun σ H4 h => ?_
  · obtain ⟨rfl, hv⟩ := y
    obtain ⟨e4, d4, hd4, hT4, y3, y4, y5, y6, y7, y8, y9, y10, y11, rfl⟩ := h
    obtain ⟨x, ex, dv⟩ := DpAll.map_at d4 hv
    have ok := good3 x (List.mem_of_getElem? ex)
    obtain ⟨t, b, c, e, ls, ss, ds, rfl, ht, hb, db, hc, dc, he, dd⟩ := dp_eSh dv
    have m1 := ok.ls.most
    have m3 := ok.dn
    have lb := DpAll.map_len db
    have nl : (namesOf x).length = x.ls.length := List.length_map _
    have hnd := asc_nodup ok.ls.asc
    -- the names
    refine ⟨_, rfl, t, _, 0, .ref b, rfl, rfl, ht, atI_at (j := 0) rfl, b, rfl, ⟨_, hb⟩, fun D5 nD5 => ?_⟩
    refine lc_dp (K := K) (T := T) (m := []) (walk_tup (xs := ls)) nD5 (fun a ha => absurd ha (by simp)) (small (by omega)) ((namesOf x).map PyData.str) (by simp; omega) (fz_map _ (fun a => by simp [fz]) _) (fun H3 g => sqT_go g hb) (fun i v H3 H4 dn hdn g y F Z hF => ?_) fun H5 acc5 g5 e5 d5 => ?_
    · obtain ⟨rfl, hv⟩ := y
      obtain ⟨m, em, dm⟩ := DpAll.map_at (DpAll.go g _ _ (fz_map _ fz_eL _) db) hv
      obtain ⟨q, wl2, rfl, hl, _⟩ := dp_eL dm
      rw [List.getElem?_map, List.getElem?_map, em] at hdn
      cases hdn
      exact ⟨rfl, _, rfl, q, _, _, _, rfl, rfl, hl, atI_at (j := 0) rfl, hF _ _ Go.refl (.str _)⟩
    have ea := dpAll_strs_inv d5
    subst ea
    have h5 : SqL K H5 D5 ((namesOf x).map V.str) := SqL.of e5
    -- the names in the same order
    refine ⟨_, rfl, D5, _, rfl, h5, fun D6 nD6 => ?_⟩
    refine lc_dp (K := K) (T := T) (m := []) (walk_enum (K := K) (a := D5) (xs := (namesOf x).map V.str)) nD6 (fun a ha => absurd ha (by simp)) (small (by simp; omega)) ((namesOf x).map (encP (upN (namesOf x)))) (by simp) (fz_map _ (fz_encP _) _) (fun H3 g => sqL_go g (by simp) h5) (fun i v H6 H7 dn hdn g y F Z hF => ?_) fun H6 acc6 g6 e6 d6 => ?_
    · obtain ⟨p1, u, zz, rfl, np1, rfl, w1, w2⟩ := y
      cases Option.some.inj (show some (V.int (i : Nat)) = some u from w1)
      have w2 : ((namesOf x).map V.str)[i]? = some zz := w2
      rw [List.getElem?_map] at w2 hdn
      cases en : (namesOf x)[i]? with
      | none =>
        rw [en] at w2
        cases w2
      | some n =>
        rw [en] at w2 hdn
        cases w2
        cases hdn
        have eu : (pool6.map V.str)[i]? = some (.str (upN (namesOf x) n)) := by
          rw [List.getElem?_map, up_at hnd (by rw [List.length_map]; exact m1) en]
          rfl
        refine ⟨p1, _, rfl, .inl (.inl upd_same), rfl, _, _, rfl, _, _, rfl, rfl, ?_⟩
        refine ⟨rfl, _, rfl, (by show 6 ≤ sizeLine; decide), fun q nq => ⟨_, rfl, q, _, _, _, rfl, rfl, SqL.of upd_same, atI_at (j := i) eu, (by show 2 ≤ sizeLine; decide), fun r nr => ?_⟩⟩
        exact hF _ _ (((Go.new Go.refl np1).new nq).new nr) (.tup (.inl (.inl upd_same)) (.cons (.str _) (.cons (.str _) .nil)))
    obtain ⟨ps6, rfl, pr6⟩ := pairs_at d6
    refine ⟨D6, ps6, _, rfl, SqL.of e6, pr6, fun D7 nD7 => ?_⟩
    have k7 : Go T [] H6 (upd H6 D7 (.dK (mergeK [] (kvN (upN (namesOf x)) (namesOf x))))) := Go.new Go.refl nD7
    have nm7 : Nm (upd H6 D7 (.dK (mergeK [] (kvN (upN (namesOf x)) (namesOf x))))) D7 (upN (namesOf x)) (namesOf x) := ⟨_, upd_same, fun n hn => by rw [merge_names, if_pos hn]⟩
    have G7 := (g5.trans g6).trans k7
    have k57 := g6.trans k7
    generalize upd H6 D7 (.dK (mergeK [] (kvN (upN (namesOf x)) (namesOf x)))) = H7 at G7 nm7 k57 ⊢
    have e57 : H7 D5 = _ := k57.keep D5 _ (by simp) e5 fun ps z => by cases z
    have hd6 := hd4.go (g5.trans g6) (by simp) (by simp)
    have D7d : D7 ≠ d := (hd6.out nD7).1
    have D5d : D5 ≠ d := (hd4.out nD5).1
    have hd7 := hd4.go G7 (by simp) (by simp)
    have lp6 : pool6.length = 6 := rfl
    -- the names in another order
    refine ⟨(by show 6 ≤ sizeLine; decide), fun D8 n8 => fun D9 n9 => ⟨_, _, rfl, ?_⟩⟩
    have k8 : Go T [] H7 (upd H7 D8 (.lst (pool6.map V.str))) := Go.new Go.refl n8
    have z9 : H7 D9 = none := k8.there _ n9
    have k9 : Go T [] H7 (upd (upd H7 D8 (.lst (pool6.map V.str))) D9 (.dK [])) := k8.new n9
    have d89 : D9 ≠ D8 := fun z => by rw [z, upd_same] at n9; cases n9
    have e8 : upd (upd H7 D8 (.lst (pool6.map V.str))) D9 (.dK []) D8 = some (.lst (pool6.map V.str)) := by rw [upd_ne (Ne.symm d89), upd_same]
    have e9 : upd (upd H7 D8 (.lst (pool6.map V.str))) D9 (.dK []) D9 = some (.dK []) := upd_same
    obtain ⟨o1, o2⟩ := hd7.out n8
    obtain ⟨o3, o4⟩ := hd7.out z9
    have hd9 := hd7.go k9 (by simp) (by simp)
    have D58 : D5 ≠ D8 := ne_of_none e57 n8
    have D59 : D5 ≠ D9 := ne_of_none e57 z9
    have e59 : upd (upd H7 D8 (.lst (pool6.map V.str))) D9 (.dK []) D5 = _ := k9.keep D5 _ (by simp) e57 fun ps z => by cases z
    have h9 := SqL.of (K := K) e59
    show ∃ v, _ ∧ _
    refine ⟨_, rfl, D5, rfl, ⟨_, h9⟩, ?_⟩
    refine for_it (walk_list (xs := (namesOf x).map V.str)) (fun j σ H' => Go T [d, D8, D9] (upd (upd H7 D8 (.lst (pool6.map V.str))) D9 (.dK [])) H' ∧ LRd H' d cl ∧ (∃ (fs ps : List Str) (kvs : List (Key × V)), H' D8 = some (.lst (ps.map V.str)) ∧ H' D9 = some (.dK kvs) ∧ fs.length = j ∧ kvs.length ≤ j ∧ (fs ++ ps).Perm pool6 ∧
        ∀ m n, m < j → (namesOf x)[m]? = some n → ∃ u, fs[m]? = some u ∧ valV kvs (.inr n) = some (.str u)) ∧ ∃ y9, σ = [some (.ref a), some (.ref d), some (.ref p), y3, some (.ref t), some (.ref D5), some (.ref D7), some (.ref D8), some (.ref D9), y9, y10, y11])
      ⟨Go.refl, hd9, ⟨[], pool6, [], e8, e9, rfl, Nat.le_refl _, List.Perm.refl _, fun m n hm => absurd hm (Nat.not_lt_zero _)⟩, _, rfl⟩ (fun j σ H' hj h => sqL_go h.1 (by simp [D5d, D58, D59]) h9) (fun j v σ H100 H10 hj h y => ?_) fun σ H10 h => ?_
    · obtain ⟨rfl, hv2⟩ := y
      obtain ⟨g10, hd10, ⟨fs, ps, kvs, f8, f9, lf, lk, ep2, mp⟩, y9, rfl⟩ := h
      rw [List.length_map] at hj
      have en : (namesOf x)[j]? = some (namesOf x)[j] := List.getElem?_eq_getElem hj
      generalize (namesOf x)[j] = n at en
      rw [List.getElem?_map, en] at hv2
      cases hv2
      have ll := ep2.length_eq
      rw [List.length_append] at ll
      have hpl : 0 < ps.length := by omega
      refine ⟨_, rfl, .inl ⟨rfl, _, SqL.of f8⟩, _, rfl, _, rfl, D8, _, rfl, .inl (SqL.of f8), ?_⟩
      rw [List.length_map]
      refine ⟨d, cl, _, rfl, hd10, by omega, by omega, fun H11 r g11 hd11 r0 r1 => ?_⟩
      have hk : r.toNat < ps.length := by omega
      have f8b : H11 D8 = some (.lst (ps.map V.str)) := g11.keep D8 _ (by simpa using o1) f8 fun ps z => by cases z
      have f9b : H11 D9 = some (.dK kvs) := g11.keep D9 _ (by simpa using o3) f9 fun ps z => by cases z
      refine ⟨D8, _, r, r.toNat, .str ps[r.toNat], rfl, rfl, f8b, by omega, by omega, seqIndex_of r0 (by rw [List.length_map]; exact r1), by rw [List.getElem?_map, List.getElem?_eq_getElem hk] <;> rfl, ?_⟩
      have f9c : upd H11 D8 (.lst ((ps.map V.str).eraseIdx r.toNat)) D9 = some (.dK kvs) := by
        rw [upd_ne d89]
        exact f9b
      refine ⟨_, rfl, _, rfl, D9, _, rfl, DPut.k (k := .inr n) f9c (Nat.lt_of_lt_of_le (show kvs.length < 100 by omega) (by decide)), ?_⟩
      refine ⟨(((g10.trans (g11.mono (by simp))).put (.inl (by simp)) f8b rfl).put (.inl (by simp)) f9c rfl), (hd11.put o1 o2).put o3 o4, ⟨fs ++ [ps[r.toNat]], ps.eraseIdx r.toNat, _, ?_, upd_same, by simp; omega, Nat.le_trans (length_putK _ _ _) (by omega), pop_perm hk ep2, fun m n2 hm h2 => ?_⟩, _, rfl⟩
      · rw [upd_ne (Ne.symm d89), upd_same, erase_map]
      · rw [valV_put]
        by_cases hmj : m = j
        · subst hmj
          rw [h2] at en
          cases en
          refine ⟨ps[r.toNat], ?_, by rw [if_pos rfl]⟩
          rw [List.getElem?_append_right (by omega), lf, Nat.sub_self]
          rfl
        · obtain ⟨u, q1, q2⟩ := mp m n2 (by omega) h2
          refine ⟨u, by rw [List.getElem?_append_left (by omega)]; exact q1, ?_⟩
          rw [if_neg fun z => hmj ?_]
          · exact q2
          · have z := Sum.inr.inj z
            have hml : m < (namesOf x).length := (List.getElem?_eq_some_iff.mp h2).1
            exact (List.getElem?_inj hml hnd).mp (by rw [h2, en, z])
    obtain ⟨g10, hd10, ⟨fs, ps, kvs, f8, f9, lf, lk, ep2, mp⟩, y9, rfl⟩ := h
    rw [List.length_map] at lf mp
    have ndf : fs.Nodup := (List.nodup_append.mp (ep2.nodup_iff.mpr pool6_nd)).1
    have rn := as_ren hnd ndf (Nat.le_of_eq lf.symm) fun u hu => ep2.mem_iff.mp (List.mem_append_left _ hu)
    have nm10 : Nm H10 D9 (asN fs (namesOf x)) (namesOf x) := ⟨kvs, f9, fun n hn => by
      obtain ⟨m, hm, rfl⟩ := List.mem_iff_getElem.mp hn
      obtain ⟨u, q1, q2⟩ := mp m _ hm (List.getElem?_eq_getElem hm)
      rw [q2, as_at hnd (List.getElem?_eq_getElem hm) q1]⟩
    have G10 : Go T [d] H7 H10 := (k9.any.trans g10).cut fun b hb => by
      simp only [List.mem_cons, List.not_mem_nil, or_false] at hb
      rcases hb with rfl | rfl | rfl
      · exact .inl (by simp)
      · exact .inr n8
      · exact .inr z9
    have G410 := G7.any.trans G10
    refine ⟨_, rfl, _, rfl, d, cl, .ref t, x, rfl, hd10, Dp.go G410 _ _ (fz_eSh _) dv, ok, fun H11 vb bk g11 hd11 bl bb dbk => ?_⟩
    have G411 := G410.trans g11
    have nm11 := nm7.go (G10.trans g11) (by simpa using D7d)
    have nmx := nm10.go g11 (by simpa using o3)
    have fB : ∀ l : List (List Int), fz (.tuple (l.map eB)) = true := fun l => fz_tupOf _ fz_eB l
    have h6 : (namesOf x).length ≤ 6 := by omega
    refine ⟨_, rfl, _, rfl, _, rfl, .ref t, D7, vb, x, upN (namesOf x), bk, rfl, G411.tabs hT4, Dp.go G411 _ _ (fz_eSh _) dv, ok, nm11, up_ren ok.ls.asc h6, dbk, bb, by omega, fun H12 g12 => ⟨true, rfl, iteF ?_⟩⟩
    have G412 := G411.trans g12.any
    refine ⟨_, rfl, _, rfl, _, rfl, .ref t, D9, vb, x, asN fs (namesOf x), bk, rfl, G412.tabs hT4, Dp.go G412 _ _ (fz_eSh _) dv, ok, nmx.go g12, rn, Dp.go g12 _ _ (fB _) dbk, bb, by omega, fun H13 g13 => ⟨true, rfl, iteF ?_⟩⟩
    have G413 := G412.trans g13.any
    refine ⟨_, rfl, _, rfl, .ref t, D7, x, upN (namesOf x), rfl, Dp.go G413 _ _ (fz_eSh _) dv, ok, (nm11.go g12).go g13, up_ren ok.ls.asc h6, up_rise ok.ls.asc h6, fun H14 g14 => ⟨true, rfl, iteF ?_⟩⟩
    have G414 := G413.trans g14.any
    exact ⟨G414.keep p _ (by simpa using pd) e4 fun ps z => (by cases z), DpAll.go G414 _ _ (fX _) d4, ((hd11.go g12 (by simp) (by simp)).go g13 (by simp) (by simp)).go g14 (by simp) (by simp), G414.tabs hT4, _, _, _, _, _, _, _, _, _, rfl⟩
  · obtain ⟨e4, d4, hd4, hT4, y3, y4, y5, y6, y7, y8, y9, y10, y11, rfl⟩ := h
    exact hQ H4
end Cb
/-! ## CbFin -/
set_option maxHeartbeats 0
/-! The facts of the head, as the walks ask them. -/
namespace Cb
open PySem PySem.Spec PyProof.Rows L2
open NdefX (NTab TabN TabsN NF FnO NScope NOk nok_of nscope_by startF)
section
variable {w : World} {h : Heap} {K : PySem.W.Frag} {mg : Str → Option Value} (X : K.In h) (G : h.Ns mainGlobals mg) (c : SaysZ w h K)
include X G c
theorem bs_of : Bs K mg (He.ga K "RowReader") (He.ga K "Amount") where
  b_isinstance := He.free_ok X G (c.d.fact 61 (f := .free "isinstance") rfl)
  b_int := He.free_ok X G (c.d.fact 62 (f := .free "int") rfl)
  b_bool := He.free_ok X G (c.d.fact 63 (f := .free "bool") rfl)
  b_str := He.free_ok X G (c.d.fact 64 (f := .free "str") rfl)
  b_tuple := He.free_ok X G (c.d.fact 65 (f := .free "tuple") rfl)
  b_len := He.free_ok X G (c.d.fact 66 (f := .free "len") rfl)
  b_all := He.free_ok X G (c.d.fact 67 (f := .free "all") rfl)
  b_any := He.free_ok X G (c.d.fact 68 (f := .free "any") rfl)
  b_abs := He.free_ok X G (c.d.fact 69 (f := .free "abs") rfl)
  b_zip := He.free_ok X G (c.d.fact 70 (f := .free "zip") rfl)
  b_enumerate := He.free_ok X G (c.d.fact 71 (f := .free "enumerate") rfl)
  b_range := He.free_ok X G (c.d.fact 72 (f := .free "range") rfl)
  b_min := He.free_ok X G (c.d.fact 73 (f := .free "min") rfl)
  b_sorted := He.free_ok X G (c.d.fact 74 (f := .free "sorted") rfl)
  b_sum := He.free_ok X G (c.d.fact 75 (f := .free "sum") rfl)
  b_list := He.free_ok X G (c.d.fact 76 (f := .free "list") rfl)
  b_dict := He.free_ok X G (c.d.fact 77 (f := .free "dict") rfl)
  s_LETTERS := He.str_ok X G (c.d.fact 78 (f := .str "LETTERS" "abcdefghijklmnopqrstuvwxyz") rfl)
  s_DIGITS := He.str_ok X G (c.d.fact 79 (f := .str "DIGITS" "0123456789") rfl)
  i_LONGEST_NAME := He.int_ok X G (c.d.fact 80 (f := .int "LONGEST_NAME" 8) rfl)
  i_LEAST_SECTION := He.int_ok X G (c.d.fact 81 (f := .int "LEAST_SECTION" 2) rfl)
  i_MOST_DIGITS := He.int_ok X G (c.d.fact 82 (f := .int "MOST_DIGITS" 60) rfl)
  i_PIECE_DIGITS := He.int_ok X G (c.d.fact 83 (f := .int "PIECE_DIGITS" 60) rfl)
  f_is_integer := ⟨(let ⟨fd, F⟩ := (c.d.def_ 0 (d := d_is_integer) rfl); ⟨_, fd, He5.fun_of F, He.glo_ok X G (c.d.fact 0 (f := .glo "is_integer") rfl)⟩)⟩
  f_is_name := ⟨(let ⟨fd, F⟩ := (c.d.def_ 1 (d := d_is_name) rfl); ⟨_, fd, He5.fun_of F, He.glo_ok X G (c.d.fact 1 (f := .glo "is_name") rfl)⟩)⟩
  f_is_bool := ⟨(let ⟨fd, F⟩ := (c.d.def_ 2 (d := d_is_bool) rfl); ⟨_, fd, He5.fun_of F, He.glo_ok X G (c.d.fact 2 (f := .glo "is_bool") rfl)⟩)⟩
  f_common_divisor := ⟨(let ⟨fd, F⟩ := (c.d.def_ 3 (d := d_common_divisor) rfl); ⟨_, fd, He5.fun_of F, He.glo_ok X G (c.d.fact 3 (f := .glo "common_divisor") rfl)⟩)⟩
  f_is_row := ⟨(let ⟨fd, F⟩ := (c.d.def_ 4 (d := d_is_row) rfl); ⟨_, fd, He5.fun_of F, He.glo_ok X G (c.d.fact 4 (f := .glo "is_row") rfl)⟩)⟩
  f_is_list_of := ⟨(let ⟨fd, F⟩ := (c.d.def_ 5 (d := d_is_list_of) rfl); ⟨_, fd, He5.fun_of F, He.glo_ok X G (c.d.fact 5 (f := .glo "is_list_of") rfl)⟩)⟩
  f_is_fraction := ⟨(let ⟨fd, F⟩ := (c.d.def_ 6 (d := d_is_fraction) rfl); ⟨_, fd, He5.fun_of F, He.glo_ok X G (c.d.fact 6 (f := .glo "is_fraction") rfl)⟩)⟩
  f_is_line_shape := ⟨(let ⟨fd, F⟩ := (c.d.def_ 7 (d := d_is_line_shape) rfl); ⟨_, fd, He5.fun_of F, He.glo_ok X G (c.d.fact 7 (f := .glo "is_line_shape") rfl)⟩)⟩
  f_is_section_shape := ⟨(let ⟨fd, F⟩ := (c.d.def_ 8 (d := d_is_section_shape) rfl); ⟨_, fd, He5.fun_of F, He.glo_ok X G (c.d.fact 8 (f := .glo "is_section_shape") rfl)⟩)⟩
  f_is_day_shape := ⟨(let ⟨fd, F⟩ := (c.d.def_ 9 (d := d_is_day_shape) rfl); ⟨_, fd, He5.fun_of F, He.glo_ok X G (c.d.fact 9 (f := .glo "is_day_shape") rfl)⟩)⟩
  f_is_sheet_shape := ⟨(let ⟨fd, F⟩ := (c.d.def_ 10 (d := d_is_sheet_shape) rfl); ⟨_, fd, He5.fun_of F, He.glo_ok X G (c.d.fact 10 (f := .glo "is_sheet_shape") rfl)⟩)⟩
  f_require := ⟨(let ⟨fd, F⟩ := (c.d.def_ 11 (d := d_require) rfl); ⟨_, fd, He5.fun_of F, He.glo_ok X G (c.d.fact 11 (f := .glo "require") rfl)⟩)⟩
  f_check_lines := ⟨(let ⟨fd, F⟩ := (c.d.def_ 12 (d := d_check_lines) rfl); ⟨_, fd, He5.fun_of F, He.glo_ok X G (c.d.fact 12 (f := .glo "check_lines") rfl)⟩)⟩
  f_is_ascending := ⟨(let ⟨fd, F⟩ := (c.d.def_ 13 (d := d_is_ascending) rfl); ⟨_, fd, He5.fun_of F, He.glo_ok X G (c.d.fact 13 (f := .glo "is_ascending") rfl)⟩)⟩
  f_crosses := ⟨(let ⟨fd, F⟩ := (c.d.def_ 14 (d := d_crosses) rfl); ⟨_, fd, He5.fun_of F, He.glo_ok X G (c.d.fact 14 (f := .glo "crosses") rfl)⟩)⟩
  f_check_section := ⟨(let ⟨fd, F⟩ := (c.d.def_ 15 (d := d_check_section) rfl); ⟨_, fd, He5.fun_of F, He.glo_ok X G (c.d.fact 15 (f := .glo "check_section") rfl)⟩)⟩
  f_check_day := ⟨(let ⟨fd, F⟩ := (c.d.def_ 16 (d := d_check_day) rfl); ⟨_, fd, He5.fun_of F, He.glo_ok X G (c.d.fact 16 (f := .glo "check_day") rfl)⟩)⟩
  f_check_sheet := ⟨(let ⟨fd, F⟩ := (c.d.def_ 17 (d := d_check_sheet) rfl); ⟨_, fd, He5.fun_of F, He.glo_ok X G (c.d.fact 17 (f := .glo "check_sheet") rfl)⟩)⟩
  f_is_sheet := ⟨(let ⟨fd, F⟩ := (c.d.def_ 18 (d := d_is_sheet) rfl); ⟨_, fd, He5.fun_of F, He.glo_ok X G (c.d.fact 18 (f := .glo "is_sheet") rfl)⟩)⟩
  f_number_or_none := ⟨(let ⟨fd, F⟩ := (c.d.def_ 19 (d := d_number_or_none) rfl); ⟨_, fd, He5.fun_of F, He.glo_ok X G (c.d.fact 19 (f := .glo "number_or_none") rfl)⟩)⟩
  f_integer_or_none := ⟨(let ⟨fd, F⟩ := (c.d.def_ 20 (d := d_integer_or_none) rfl); ⟨_, fd, He5.fun_of F, He.glo_ok X G (c.d.fact 20 (f := .glo "integer_or_none") rfl)⟩)⟩
  f_fraction_or_none := ⟨(let ⟨fd, F⟩ := (c.d.def_ 21 (d := d_fraction_or_none) rfl); ⟨_, fd, He5.fun_of F, He.glo_ok X G (c.d.fact 21 (f := .glo "fraction_or_none") rfl)⟩)⟩
  f_charge_or_none := ⟨(let ⟨fd, F⟩ := (c.d.def_ 22 (d := d_charge_or_none) rfl); ⟨_, fd, He5.fun_of F, He.glo_ok X G (c.d.fact 22 (f := .glo "charge_or_none") rfl)⟩)⟩
  m_RowReader_require := ⟨He.cls_ok (c.d.fact 84 (f := .cls "RowReader") rfl), (let ⟨fd, F⟩ := (c.d.def_ 24 (d := d_RowReader_require) rfl); ⟨_, fd, He.meth_ok (c.d.fact 91 (f := .meth "RowReader" "require") rfl), He5.fun_of F⟩)⟩
  m_RowReader_has_more := ⟨He.cls_ok (c.d.fact 84 (f := .cls "RowReader") rfl), (let ⟨fd, F⟩ := (c.d.def_ 25 (d := d_RowReader_has_more) rfl); ⟨_, fd, He.meth_ok (c.d.fact 92 (f := .meth "RowReader" "has_more") rfl), He5.fun_of F⟩)⟩
  m_RowReader_next_word := ⟨He.cls_ok (c.d.fact 84 (f := .cls "RowReader") rfl), (let ⟨fd, F⟩ := (c.d.def_ 26 (d := d_RowReader_next_word) rfl); ⟨_, fd, He.meth_ok (c.d.fact 93 (f := .meth "RowReader" "next_word") rfl), He5.fun_of F⟩)⟩
  m_RowReader_finish := ⟨He.cls_ok (c.d.fact 84 (f := .cls "RowReader") rfl), (let ⟨fd, F⟩ := (c.d.def_ 27 (d := d_RowReader_finish) rfl); ⟨_, fd, He.meth_ok (c.d.fact 94 (f := .meth "RowReader" "finish") rfl), He5.fun_of F⟩)⟩
  f_name_after := ⟨(let ⟨fd, F⟩ := (c.d.def_ 28 (d := d_name_after) rfl); ⟨_, fd, He5.fun_of F, He.glo_ok X G (c.d.fact 23 (f := .glo "name_after") rfl)⟩)⟩
  f_line_read := ⟨(let ⟨fd, F⟩ := (c.d.def_ 29 (d := d_line_read) rfl); ⟨_, fd, He5.fun_of F, He.glo_ok X G (c.d.fact 24 (f := .glo "line_read") rfl)⟩)⟩
  f_section_read := ⟨(let ⟨fd, F⟩ := (c.d.def_ 30 (d := d_section_read) rfl); ⟨_, fd, He5.fun_of F, He.glo_ok X G (c.d.fact 25 (f := .glo "section_read") rfl)⟩)⟩
  f_day_read := ⟨(let ⟨fd, F⟩ := (c.d.def_ 31 (d := d_day_read) rfl); ⟨_, fd, He5.fun_of F, He.glo_ok X G (c.d.fact 26 (f := .glo "day_read") rfl)⟩)⟩
  f_sheet_read := ⟨(let ⟨fd, F⟩ := (c.d.def_ 32 (d := d_sheet_read) rfl); ⟨_, fd, He5.fun_of F, He.glo_ok X G (c.d.fact 27 (f := .glo "sheet_read") rfl)⟩)⟩
  f_integer_text := ⟨(let ⟨fd, F⟩ := (c.d.def_ 33 (d := d_integer_text) rfl); ⟨_, fd, He5.fun_of F, He.glo_ok X G (c.d.fact 28 (f := .glo "integer_text") rfl)⟩)⟩
  f_fraction_text := ⟨(let ⟨fd, F⟩ := (c.d.def_ 34 (d := d_fraction_text) rfl); ⟨_, fd, He5.fun_of F, He.glo_ok X G (c.d.fact 29 (f := .glo "fraction_text") rfl)⟩)⟩
  f_line_text := ⟨(let ⟨fd, F⟩ := (c.d.def_ 35 (d := d_line_text) rfl); ⟨_, fd, He5.fun_of F, He.glo_ok X G (c.d.fact 30 (f := .glo "line_text") rfl)⟩)⟩
  f_sheet_text := ⟨(let ⟨fd, F⟩ := (c.d.def_ 36 (d := d_sheet_text) rfl); ⟨_, fd, He5.fun_of F, He.glo_ok X G (c.d.fact 31 (f := .glo "sheet_text") rfl)⟩)⟩
  f_as_amount := ⟨(let ⟨fd, F⟩ := (c.d.def_ 40 (d := d_as_amount) rfl); ⟨_, fd, He5.fun_of F, He.glo_ok X G (c.d.fact 32 (f := .glo "as_amount") rfl)⟩)⟩
  f_fresh := ⟨(let ⟨fd, F⟩ := (c.d.def_ 41 (d := d_fresh) rfl); ⟨_, fd, He5.fun_of F, He.glo_ok X G (c.d.fact 33 (f := .glo "fresh") rfl)⟩)⟩
  f_exact_after := ⟨(let ⟨fd, F⟩ := (c.d.def_ 42 (d := d_exact_after) rfl); ⟨_, fd, He5.fun_of F, He.glo_ok X G (c.d.fact 34 (f := .glo "exact_after") rfl)⟩)⟩
  f_state_after := ⟨(let ⟨fd, F⟩ := (c.d.def_ 43 (d := d_state_after) rfl); ⟨_, fd, He5.fun_of F, He.glo_ok X G (c.d.fact 35 (f := .glo "state_after") rfl)⟩)⟩
  f_part := ⟨(let ⟨fd, F⟩ := (c.d.def_ 44 (d := d_part) rfl); ⟨_, fd, He5.fun_of F, He.glo_ok X G (c.d.fact 36 (f := .glo "part") rfl)⟩)⟩
  f_lets_sheet := ⟨(let ⟨fd, F⟩ := (c.d.def_ 45 (d := d_lets_sheet) rfl); ⟨_, fd, He5.fun_of F, He.glo_ok X G (c.d.fact 37 (f := .glo "lets_sheet") rfl)⟩)⟩
  f_L_reader := ⟨(let ⟨fd, F⟩ := (c.d.def_ 46 (d := d_L_reader) rfl); ⟨_, fd, He5.fun_of F, He.glo_ok X G (c.d.fact 38 (f := .glo "_law_reader") rfl)⟩)⟩
  f_L_draw := ⟨(let ⟨fd, F⟩ := (c.d.def_ 47 (d := d_L_draw) rfl); ⟨_, fd, He5.fun_of F, He.glo_ok X G (c.d.fact 39 (f := .glo "_law_draw") rfl)⟩)⟩
  f_L_divisor := ⟨(let ⟨fd, F⟩ := (c.d.def_ 48 (d := d_L_divisor) rfl); ⟨_, fd, He5.fun_of F, He.glo_ok X G (c.d.fact 40 (f := .glo "_law_divisor") rfl)⟩)⟩
  f_L_lowest := ⟨(let ⟨fd, F⟩ := (c.d.def_ 49 (d := d_L_lowest) rfl); ⟨_, fd, He5.fun_of F, He.glo_ok X G (c.d.fact 41 (f := .glo "_law_lowest") rfl)⟩)⟩
  f_L_floor := ⟨(let ⟨fd, F⟩ := (c.d.def_ 50 (d := d_L_floor) rfl); ⟨_, fd, He5.fun_of F, He.glo_ok X G (c.d.fact 42 (f := .glo "_law_floor") rfl)⟩)⟩
  f_L_some_ratio := ⟨(let ⟨fd, F⟩ := (c.d.def_ 51 (d := d_L_some_ratio) rfl); ⟨_, fd, He5.fun_of F, He.glo_ok X G (c.d.fact 43 (f := .glo "_law_some_ratio") rfl)⟩)⟩
  f_L_crosses := ⟨(let ⟨fd, F⟩ := (c.d.def_ 52 (d := d_L_crosses) rfl); ⟨_, fd, He5.fun_of F, He.glo_ok X G (c.d.fact 44 (f := .glo "_law_crosses") rfl)⟩)⟩
  f_L_heads := ⟨(let ⟨fd, F⟩ := (c.d.def_ 53 (d := d_L_heads) rfl); ⟨_, fd, He5.fun_of F, He.glo_ok X G (c.d.fact 45 (f := .glo "_law_heads") rfl)⟩)⟩
  f_L_random_state := ⟨(let ⟨fd, F⟩ := (c.d.def_ 54 (d := d_L_random_state) rfl); ⟨_, fd, He5.fun_of F, He.glo_ok X G (c.d.fact 46 (f := .glo "_law_random_state") rfl)⟩)⟩
  f_L_random_sections := ⟨(let ⟨fd, F⟩ := (c.d.def_ 55 (d := d_L_random_sections) rfl); ⟨_, fd, He5.fun_of F, He.glo_ok X G (c.d.fact 47 (f := .glo "_law_random_sections") rfl)⟩)⟩
  f_L_random_days := ⟨(let ⟨fd, F⟩ := (c.d.def_ 56 (d := d_L_random_days) rfl); ⟨_, fd, He5.fun_of F, He.glo_ok X G (c.d.fact 48 (f := .glo "_law_random_days") rfl)⟩)⟩
  f_L_random_sheet := ⟨(let ⟨fd, F⟩ := (c.d.def_ 57 (d := d_L_random_sheet) rfl); ⟨_, fd, He5.fun_of F, He.glo_ok X G (c.d.fact 49 (f := .glo "_law_random_sheet") rfl)⟩)⟩
  f_L_fixed_sheets := ⟨(let ⟨fd, F⟩ := (c.d.def_ 58 (d := d_L_fixed_sheets) rfl); ⟨_, fd, He5.fun_of F, He.glo_ok X G (c.d.fact 50 (f := .glo "_law_fixed_sheets") rfl)⟩)⟩
  f_L_random_booking := ⟨(let ⟨fd, F⟩ := (c.d.def_ 59 (d := d_L_random_booking) rfl); ⟨_, fd, He5.fun_of F, He.glo_ok X G (c.d.fact 51 (f := .glo "_law_random_booking") rfl)⟩)⟩
  f_L_fresh_of := ⟨(let ⟨fd, F⟩ := (c.d.def_ 60 (d := d_L_fresh_of) rfl); ⟨_, fd, He5.fun_of F, He.glo_ok X G (c.d.fact 52 (f := .glo "_law_fresh_of") rfl)⟩)⟩
  f_L_moved := ⟨(let ⟨fd, F⟩ := (c.d.def_ 61 (d := d_L_moved) rfl); ⟨_, fd, He5.fun_of F, He.glo_ok X G (c.d.fact 53 (f := .glo "_law_moved") rfl)⟩)⟩
  f_L_check_moved := ⟨(let ⟨fd, F⟩ := (c.d.def_ 62 (d := d_L_check_moved) rfl); ⟨_, fd, He5.fun_of F, He.glo_ok X G (c.d.fact 54 (f := .glo "_law_check_moved") rfl)⟩)⟩
  f_L_check_text := ⟨(let ⟨fd, F⟩ := (c.d.def_ 63 (d := d_L_check_text) rfl); ⟨_, fd, He5.fun_of F, He.glo_ok X G (c.d.fact 55 (f := .glo "_law_check_text") rfl)⟩)⟩
  f_law := ⟨(let ⟨fd, F⟩ := (c.d.def_ 64 (d := d_law) rfl); ⟨_, fd, He5.fun_of F, He.glo_ok X G (c.d.fact 56 (f := .glo "law") rfl)⟩)⟩
  g_InvalidPaper := ⟨_, He.glo_ok X G (c.d.fact 59 (f := .glo "InvalidPaper") rfl)⟩
  g_RowReader := He.glo_ok X G (c.d.fact 57 (f := .glo "RowReader") rfl)
  c_RowReader := He.cls_ok (c.d.fact 84 (f := .cls "RowReader") rfl)
  n_row_held := He.noat_ok (c.d.fact 86 (f := .noat "RowReader" "row_held") rfl)
  n_words := He.noat_ok (c.d.fact 87 (f := .noat "RowReader" "words") rfl)
  n_place := He.noat_ok (c.d.fact 88 (f := .noat "RowReader" "place") rfl)
  i_RowReader := (let ⟨fd, F⟩ := (c.d.def_ 23 (d := d_RowReader_init) rfl); ⟨_, fd, He.mkr_ok (c.d.fact 96 (f := .mkr "RowReader") rfl), He5.fun_of F⟩)
theorem ranks_of : Rk K mg w := by
  obtain ⟨v, _⟩ := He.ba c.more
  have t := c.tab
  have t0 : He.dicW K (He.ga K "RANKS") = some (He.keysIn w.params ["line", "ended", "section", "day"]) := (List.cons.inj t).1
  obtain ⟨es, n, D⟩ := He.dicW_ok (w := w) t0
  refine ⟨_, es, n, He.glo_ok X G (c.d.fact 60 (f := .glo "RANKS") rfl), D, fun q hq => ?_⟩
  simp only [List.mem_cons, List.not_mem_nil, or_false] at hq
  rcases hq with rfl | rfl | rfl | rfl
  · exact He.valsB_ok v (q := ("line", .int 0)) (by simp)
  · exact He.valsB_ok v (q := ("ended", .int 0)) (by simp)
  · exact He.valsB_ok v (q := ("section", .int 1)) (by simp)
  · exact He.valsB_ok v (q := ("day", .int 2)) (by simp)
theorem ba_of : Ba K mg (He.ga K "Amount") := by
  obtain ⟨_, m⟩ := He.ba c.more
  obtain ⟨q1, m⟩ := He.ba m
  obtain ⟨q2, m⟩ := He.ba m
  obtain ⟨q3, m⟩ := He.ba m
  obtain ⟨q4, m⟩ := He.ba m
  obtain ⟨q5, m⟩ := He.ba m
  obtain ⟨q6, m⟩ := He.ba m
  obtain ⟨q7, m⟩ := He.ba m
  obtain ⟨q8, m⟩ := He.ba m
  obtain ⟨q9, m⟩ := He.ba m
  obtain ⟨q10, m⟩ := He.ba m
  obtain ⟨q11, m⟩ := He.ba m
  obtain ⟨q12, q13⟩ := He.ba m
  have cl := He.cls_ok (c.d.fact 85 (f := .cls "Amount") rfl)
  obtain ⟨fi, Fi⟩ := (c.d.def_ 37 (d := d_Amount_init) rfl)
  obtain ⟨fp, Fp⟩ := (c.d.def_ 38 (d := d_Amount_pair) rfl)
  obtain ⟨fa', Fa⟩ := (c.d.def_ 39 (d := d_Amount_add) rfl)
  have ma := He.meth_ok (c.d.fact 95 (f := .meth "Amount" "__add__") rfl)
  refine ⟨He.glo_ok X G (c.d.fact 58 (f := .glo "Amount") rfl), ⟨cl, of_decide_eq_true q1, of_decide_eq_true q2, of_decide_eq_true q3, of_decide_eq_true q4, of_decide_eq_true q5⟩, He.noat_ok (c.d.fact 89 (f := .noat "Amount" "over_held") rfl), He.noat_ok (c.d.fact 90 (f := .noat "Amount" "under_held") rfl),
    ⟨_, fi, He.mkr_ok (c.d.fact 97 (f := .mkr "Amount") rfl), Fi⟩, ⟨_, fa', ma.at_, ma.fn, q6, He5.fun_of Fa⟩, ⟨_, _, fp, ⟨of_decide_eq_true q7, of_decide_eq_true q8, of_decide_eq_true q9, ?_⟩, He5.fun_of Fp⟩, ⟨.type "type", zeroAt K, ⟨q11, ?_⟩, ⟨?_, rfl⟩, fun H => ?_⟩⟩
  · split at q10
    · rename_i g rest e
      exact ⟨rest, by rw [e, of_decide_eq_true q10]; rfl⟩
    · cases q10
  · have h := q11
    unfold PySem.W.readsIn at h
    obtain ⟨h, _⟩ := He.ba h
    obtain ⟨h, _⟩ := He.ba h
    obtain ⟨h, h3⟩ := He.ba h
    obtain ⟨_, h2⟩ := He.ba h
    unfold PySem.W.specialIn
    rw [beq_iff_eq.mp h2, Option.bind_some]
    exact beq_iff_eq.mp h3
  · split at q12
    · rename_i a e
      rw [e, of_decide_eq_true q12]
    · cases q12
  · split at q13
    · rename_i ty od its n sl e
      obtain ⟨h1, h2⟩ := He.ba q13
      obtain ⟨h3, h4⟩ := He.ba h2
      exact .inr ⟨_, its, n, e, congrArg Value.type (of_decide_eq_true h1), rfl, of_decide_eq_true h3, He.relAll_ok h4⟩
    · cases q13
def csK (K : PySem.W.Frag) : List (Addr × Addr) := tf.map (He.cT K)
def tsK (K : PySem.W.Frag) : List NTab := (csK K).map fun p => (p.2, nmT)
omit X G c in
theorem tb_of {base : Heap} {x : Str} {f : Addr} (hx : (x, none) ∈ tf) (hm : mg x = some (.ref f)) (hf : He.fAd K (x, none) = f) (hT : ∀ p ∈ csK K, LamX.TabB base mg p.1 p.2) : Tb K mg base (tsK K) x := by
  have hp : He.cT K (x, none) ∈ csK K := List.mem_map.mpr ⟨_, hx, rfl⟩
  refine ⟨⟨f, (He.cT K (x, none)).2, hm, fun oc od fd osl c lk e => ?_, List.mem_map.mpr ⟨_, hp, rfl⟩⟩, fun p hp => ?_⟩
  · rw [← hf] at lk
    have := hT _ hp
    rw [show (He.cT K (x, none)).1 = c from He.codeOf_eq lk e] at this
    exact this
  · obtain ⟨q, _, rfl⟩ := List.mem_map.mp hp
    rfl
theorem law_at {fa : Addr} (hfa : mg "law" = some (.ref fa)) : LamX.LawAtS PySem.Challenge.rw_centbook_k13_whole_renamed w K L2.CX0 11 63 "_law_script" mg fa h := by
  obtain ⟨fd, F⟩ := (c.d.def_ 64 (d := d_law) rfl)
  have e := hfa.symm.trans (He.glo_ok X G (c.d.fact 56 (f := .glo "law") rfl))
  cases e
  have b := FunD.bindsA (ps := ["_law_script"]) F fun _ _ _ _ _ _ us hl => match us, hl with | [_], _ => rfl
  have mem : ∀ p ∈ csK K, ∃ q ∈ tf, p = He.cT K q := fun p hp => by
    obtain ⟨q, hq, rfl⟩ := List.mem_map.mp hp
    exact ⟨q, hq, rfl⟩
  refine ⟨fd, csK K, spLaw (tsK K) K, fun p hp => ?_, fun p hp => ?_, fun p hp => ?_, fun s u => b s [u] rfl, fun H a ns hl hb hT hS => ⟨a, ns, rfl, hS, hl, fun p hp => ?_, fun _ => rfl⟩, fun base kb gb hT => ?_⟩
  · obtain ⟨q, hq, rfl⟩ := mem p hp
    exact c.empty q hq
  · obtain ⟨q, hq, rfl⟩ := mem p hp
    exact c.out q hq
  · obtain ⟨q, hq, rfl⟩ := mem p hp
    exact PySem.W.codeHd_of_K X (c.hd q hq)
  · obtain ⟨q, hq, rfl⟩ := List.mem_map.mp hp
    exact NdefX.TabN.nil (hT q hq)
  · exact c_law (bs_of X G c) (ba_of X G c) (tb_of (by decide) (He.glo_ok X G (c.d.fact 23 (f := .glo "name_after") rfl)) rfl hT) (tb_of (by decide) (He.glo_ok X G (c.d.fact 25 (f := .glo "section_read") rfl)) rfl hT) (ranks_of X G c) (He5.fun_of F)
end
end Cb
/-! ## CbEnd -/
set_option maxHeartbeats 0
open PySem PySem.W PySem.Calls PyProof.Rows
theorem PySem.Challenge.cw_centbook_k13_whole_renamed_holds : PySem.Challenge.rw_centbook_k13_whole_renamed.Holds := by
  w_on; o_law
  refine HandSHeadRun.head_any (r := OpenLaw.row PySem.Challenge.rw_centbook_k13_whole_renamed) (q := view (OpenLaw.row PySem.Challenge.rw_centbook_k13_whole_renamed).prog [82]) (H := Cb.hk) (ob := Cb.ob) (M := 40000) (loose := Cb.loose) (d := HandSHeadRun.topDef (OpenLaw.row PySem.Challenge.rw_centbook_k13_whole_renamed).prog 82) (kwd := []) Cb.ob_eq
    (by kernel_rfl) (fun s => by kernel_rfl) Cb.run (by kernel_rfl) (by kernel_rfl) (by kernel_rfl) (by rfl) (by first | assumption | decide +kernel) (by decide +kernel) ⟨rfl, rfl, rfl, rfl, rfl, by decide +kernel⟩ ?hw ?hc
  case hw => w_witness2
  case hc =>
    refine LamX.walk_ofTsE (l := PySem.Challenge.rw_centbook_k13_whole_renamed) (n := 63) (k := 11) (x := "_law_script") (CX := fun _ => L2.CX0) rfl (by decide) (by kernel_rfl) ⟨rfl, by decide, by decide⟩ ?F (fun _ _ _ _ _ z => z)
    intro w mg fa h Y G hmg0
    obtain ⟨K, KX, c⟩ := Y
    have hmg : mg ("law" : PySem.Str) = some (.ref fa) := by
      have e : (HandSHeadRun.topDef (OpenLaw.row PySem.Challenge.rw_centbook_k13_whole_renamed).prog 82).name = ("law" : PySem.Str) := by kernel_rfl
      rw [← e]
      exact hmg0
    exact ⟨K, KX, Cb.law_at KX G c hmg⟩
