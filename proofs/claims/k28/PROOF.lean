import PyProof.Rows.All
import Wide.All
import OpenK.AllK
import Wide.FinOn
import KE.KStateDown
import Lean
import KE.GoesRaise
import KE.GoesZip
import KE.GoesEnum
import KE.KMinKey
import HandS.ForMost
import HandS.Exc
import HandS.TryOnly
import HandS.ExcOwn
import HandS.WordsExc
import HandS.More
import HandS.Defaults
import HandS.MakeKw
import HandS.MakeKwOnly
import HandS.Slots
import HandS.SlotsOwn
import HandS.IsInst
import HandS.Zip
import HandS.Walk
import HandS.SetFor
import HandS.SetKeys
import HandS.SortInts
import HandS.SortRule
import HandS.SortOrd
import HandS.SortKw
import HandS.DictComp
import HandS.DictEq
import HandS.DeepEq
import HandS.DictTup
import HandS.Conv
import HandS.FStr
import HandS.Replace
import HandS.ReplaceList
import HandS.StrMore
import HandS.Strs
import HandS.TupAny
import HandS.TupLe
import HandS.Wide
import HandS.WideMore
import HandS.Flow
import HandS.Head0
import HandS.Head1
import HandS.Head2
import HandS.HeadEnd
import HandS.HeadHook1
import HandS.HeadHook2
import HandS.HeadHook3
import HandS.HeadHook4
import HandS.HeadWalk
import HandS.EndBits
import HandS.EndTab
import HandS.Lambda
import HandS.AnyAll
import HandS.JoinGen
import HandS.TryMany
import HandS.ExcField
import HandS.ExcSuper
import HandS.ExcInit
import HandS.Evl
import PySem.Challenge.RW_toldstarts_k28_whole_states_folded
import KE.KExcSuper
import KE.KUnpackStar
import KE.KDictPairs
import KE.KDictWalk
import KE.SortCalls
import KE.SortData
import HandS.Style
import HandS.ReplaceLit
import HandS.TupSets
set_option Elab.async false
set_option linter.all false
set_option maxRecDepth 100000
set_option maxHeartbeats 4000000
/-! ## The text: statements by their places, names by slots -/
namespace K28
open PySem PySem.Spec PyProof.Rows L2
def top (i : Nat) : Stmt := PySem.Challenge.pw_toldstarts_k28_whole_states_folded.main.body.getD i (.Pass ⟨0, 0, 0, 0⟩)

abbrev s_is_integer : Stmt := top 8
abbrev N_is_integer : List Str := ["value"]
theorem sc_is_integer : FnScope N_is_integer ["value"] (defScope s_is_integer) := ⟨rfl, rfl, rfl, by decide +kernel, rfl, by decide +kernel, by decide +kernel⟩
abbrev s_is_from : Stmt := top 9
abbrev N_is_from : List Str := ["value", "least", "most"]
theorem sc_is_from : FnScope N_is_from ["value", "least", "most"] (defScope s_is_from) := ⟨rfl, rfl, rfl, by decide +kernel, rfl, by decide +kernel, by decide +kernel⟩
abbrev s_begins_with_letter : Stmt := top 10
abbrev N_begins_with_letter : List Str := ["value", "most", "sign"]
theorem sc_begins_with_letter : FnScope N_begins_with_letter ["value", "most"] (defScope s_begins_with_letter) := ⟨rfl, rfl, rfl, by decide +kernel, rfl, by decide +kernel, by decide +kernel⟩
abbrev s_is_kind : Stmt := top 12
abbrev N_is_kind : List Str := ["value"]
theorem sc_is_kind : FnScope N_is_kind ["value"] (defScope s_is_kind) := ⟨rfl, rfl, rfl, by decide +kernel, rfl, by decide +kernel, by decide +kernel⟩
abbrev s_are_ascending : Stmt := top 14
abbrev N_are_ascending : List Str := ["items", "one", "other"]
theorem sc_are_ascending : FnScope N_are_ascending ["items"] (defScope s_are_ascending) := ⟨rfl, rfl, rfl, by decide +kernel, rfl, by decide +kernel, by decide +kernel⟩
abbrev s_are_pairs : Stmt := top 28
abbrev N_are_pairs : List Str := ["value", "pair"]
theorem sc_are_pairs : FnScope N_are_pairs ["value"] (defScope s_are_pairs) := ⟨rfl, rfl, rfl, by decide +kernel, rfl, by decide +kernel, by decide +kernel⟩
abbrev s_are_indices : Stmt := top 93
abbrev N_are_indices : List Str := ["value", "one", "later"]
theorem sc_are_indices : FnScope N_are_indices ["value"] (defScope s_are_indices) := ⟨rfl, rfl, rfl, by decide +kernel, rfl, by decide +kernel, by decide +kernel⟩
abbrev s_entry_of : Stmt := top 94
abbrev N_entry_of : List Str := ["block", "step", "text", "one", "later"]
theorem sc_entry_of : FnScope N_entry_of ["block"] (defScope s_entry_of) := ⟨rfl, rfl, rfl, by decide +kernel, rfl, by decide +kernel, by decide +kernel⟩
abbrev s_least_text : Stmt := top 95
abbrev N_least_text : List Str := ["indices", "many", "best", "begin", "ways", "end", "entry"]
theorem sc_least_text : FnScope N_least_text ["indices"] (defScope s_least_text) := ⟨rfl, rfl, rfl, by decide +kernel, rfl, by decide +kernel, by decide +kernel⟩
abbrev s_fold_indices : Stmt := top 96
abbrev N_fold_indices : List Str := ["indices"]
theorem sc_fold_indices : FnScope N_fold_indices ["indices"] (defScope s_fold_indices) := ⟨rfl, rfl, rfl, by decide +kernel, rfl, by decide +kernel, by decide +kernel⟩
abbrev s_is_digit : Stmt := top 97
abbrev N_is_digit : List Str := ["sign"]
theorem sc_is_digit : FnScope N_is_digit ["sign"] (defScope s_is_digit) := ⟨rfl, rfl, rfl, by decide +kernel, rfl, by decide +kernel, by decide +kernel⟩
abbrev s_number_end : Stmt := top 98
abbrev N_number_end : List Str := ["text", "at", "end"]
theorem sc_number_end : FnScope N_number_end ["text", "at"] (defScope s_number_end) := ⟨rfl, rfl, rfl, by decide +kernel, rfl, by decide +kernel, by decide +kernel⟩
abbrev s_entry_spots : Stmt := top 99
abbrev N_entry_spots : List Str := ["text", "at", "found", "sign", "behind"]
theorem sc_entry_spots : FnScope N_entry_spots ["text", "at"] (defScope s_entry_spots) := ⟨rfl, rfl, rfl, by decide +kernel, rfl, by decide +kernel, by decide +kernel⟩
abbrev s_entries_in : Stmt := top 100
abbrev N_entries_in : List Str := ["text", "found", "at"]
theorem sc_entries_in : FnScope N_entries_in ["text"] (defScope s_entries_in) := ⟨rfl, rfl, rfl, by decide +kernel, rfl, by decide +kernel, by decide +kernel⟩
abbrev s_told_bounds : Stmt := top 101
abbrev N_told_bounds : List Str := ["text", "spots", "first", "more", "begin", "end"]
theorem sc_told_bounds : FnScope N_told_bounds ["text", "spots"] (defScope s_told_bounds) := ⟨rfl, rfl, rfl, by decide +kernel, rfl, by decide +kernel, by decide +kernel⟩
abbrev s_unfold_indices : Stmt := top 102
abbrev N_unfold_indices : List Str := ["text", "found", "first", "stop", "step", "index", "spots"]
theorem sc_unfold_indices : FnScope N_unfold_indices ["text"] (defScope s_unfold_indices) := ⟨rfl, rfl, rfl, by decide +kernel, rfl, by decide +kernel, by decide +kernel⟩
abbrev s_are_rows : Stmt := top 104
abbrev N_are_rows : List Str := ["value", "one", "later"]
theorem sc_are_rows : FnScope N_are_rows ["value"] (defScope s_are_rows) := ⟨rfl, rfl, rfl, by decide +kernel, rfl, by decide +kernel, by decide +kernel⟩
abbrev s_require_rows : Stmt := top 105
abbrev N_require_rows : List Str := ["value"]
theorem sc_require_rows : FnScope N_require_rows ["value"] (defScope s_require_rows) := ⟨rfl, rfl, rfl, by decide +kernel, rfl, by decide +kernel, by decide +kernel⟩
abbrev s_is_state_word : Stmt := top 106
abbrev N_is_state_word : List Str := ["value", "sign"]
theorem sc_is_state_word : FnScope N_is_state_word ["value"] (defScope s_is_state_word) := ⟨rfl, rfl, rfl, by decide +kernel, rfl, by decide +kernel, by decide +kernel⟩
abbrev s_are_states : Stmt := top 107
abbrev N_are_states : List Str := ["value", "number", "state"]
theorem sc_are_states : FnScope N_are_states ["value"] (defScope s_are_states) := ⟨rfl, rfl, rfl, by decide +kernel, rfl, by decide +kernel, by decide +kernel⟩
abbrev s_row_with : Stmt := top 108
abbrev N_row_with : List Str := ["rows", "number"]
theorem sc_row_with : FnScope N_row_with ["rows", "number"] (defScope s_row_with) := ⟨rfl, rfl, rfl, by decide +kernel, rfl, by decide +kernel, by decide +kernel⟩
abbrev s_line_of : Stmt := top 109
abbrev N_line_of : List Str := ["row", "numbers", "state", "indices", "told", "number"]
theorem sc_line_of : FnScope N_line_of ["row", "numbers", "state"] (defScope s_line_of) := ⟨rfl, rfl, rfl, by decide +kernel, rfl, by decide +kernel, by decide +kernel⟩
abbrev s_fold_states : Stmt := top 110
abbrev N_fold_states : List Str := ["rows", "states", "found", "number", "row", "key", "numbers", "state"]
theorem sc_fold_states : FnScope N_fold_states ["rows", "states"] (defScope s_fold_states) := ⟨rfl, rfl, rfl, by decide +kernel, rfl, by decide +kernel, by decide +kernel⟩
abbrev s_plain_number : Stmt := top 111
abbrev N_plain_number : List Str := ["text", "most", "sign"]
theorem sc_plain_number : FnScope N_plain_number ["text", "most"] (defScope s_plain_number) := ⟨rfl, rfl, rfl, by decide +kernel, rfl, by decide +kernel, by decide +kernel⟩
abbrev s_told_indices : Stmt := top 112
abbrev N_told_indices : List Str := ["text", "index"]
theorem sc_told_indices : FnScope N_told_indices ["text"] (defScope s_told_indices) := ⟨rfl, rfl, rfl, by decide +kernel, rfl, by decide +kernel, by decide +kernel⟩
abbrev s_told_numbers : Stmt := top 113
abbrev N_told_numbers : List Str := ["rows", "head", "name", "dot", "rest", "number", "row", "indices", "index"]
theorem sc_told_numbers : FnScope N_told_numbers ["rows", "head"] (defScope s_told_numbers) := ⟨rfl, rfl, rfl, by decide +kernel, rfl, by decide +kernel, by decide +kernel⟩
abbrev s_unfold_states : Stmt := top 114
abbrev N_unfold_states : List Str := ["rows", "lines", "found", "place", "line", "head", "blank", "state", "numbers", "number", "one"]
theorem sc_unfold_states : FnScope N_unfold_states ["rows", "lines"] (defScope s_unfold_states) := ⟨rfl, rfl, rfl, by decide +kernel, rfl, by decide +kernel, by decide +kernel⟩
abbrev s_l_dice : Stmt := top 116
abbrev N_l_dice : List Str := ["_law_script", "_law_spot", "_law_cell", "_law_left"]
theorem sc_l_dice : FnScope N_l_dice ["_law_script", "_law_spot"] (defScope s_l_dice) := ⟨rfl, rfl, rfl, by decide +kernel, rfl, by decide +kernel, by decide +kernel⟩
abbrev s_l_roll : Stmt := top 117
abbrev N_l_roll : List Str := ["_law_dice_here", "_law_total", "_law_found", "_law_one", "_law_two"]
theorem sc_l_roll : FnScope N_l_roll ["_law_dice_here", "_law_total"] (defScope s_l_roll) := ⟨rfl, rfl, rfl, by decide +kernel, rfl, by decide +kernel, by decide +kernel⟩
abbrev s_l_pick : Stmt := top 118
abbrev N_l_pick : List Str := ["_law_dice_here", "_law_items"]
theorem sc_l_pick : FnScope N_l_pick ["_law_dice_here", "_law_items"] (defScope s_l_pick) := ⟨rfl, rfl, rfl, by decide +kernel, rfl, by decide +kernel, by decide +kernel⟩
abbrev s_l_mixed : Stmt := top 119
abbrev N_l_mixed : List Str := ["_law_dice_here", "_law_items", "_law_left", "_law_found", "_law_turn"]
theorem sc_l_mixed : FnScope N_l_mixed ["_law_dice_here", "_law_items"] (defScope s_l_mixed) := ⟨rfl, rfl, rfl, by decide +kernel, rfl, by decide +kernel, by decide +kernel⟩
abbrev s_l_likes_drawn : Stmt := top 120
abbrev N_l_likes_drawn : List Str := ["_law_dice_here", "_law_most", "_law_found", "_law_at", "_law_turn", "_law_step", "_law_lap"]
theorem sc_l_likes_drawn : FnScope N_l_likes_drawn ["_law_dice_here", "_law_most"] (defScope s_l_likes_drawn) := ⟨rfl, rfl, rfl, by decide +kernel, rfl, by decide +kernel, by decide +kernel⟩
abbrev s_l_likes_spot : Stmt := top 121
abbrev N_l_likes_spot : List Str := ["_law_text", "_law_part", "_law_size", "_law_is_zero", "_law_at", "_law_sign"]
theorem sc_l_likes_spot : FnScope N_l_likes_spot ["_law_text"] (defScope s_l_likes_spot) := ⟨rfl, rfl, rfl, by decide +kernel, rfl, by decide +kernel, by decide +kernel⟩
abbrev s_l_likes_told : Stmt := top 122
abbrev N_l_likes_told : List Str := ["_law_text", "_law_spot", "_law_found", "_law_at", "_law_entry", "_law_numbers_here", "_law_last", "_law_part"]
theorem sc_l_likes_told : FnScope N_l_likes_told ["_law_text"] (defScope s_l_likes_told) := ⟨rfl, rfl, rfl, by decide +kernel, rfl, by decide +kernel, by decide +kernel⟩
abbrev s_l_likes_row : Stmt := top 123
abbrev N_l_likes_row : List Str := ["_law_dice_here", "_law_first", "_law_indices"]
theorem sc_l_likes_row : FnScope N_l_likes_row ["_law_dice_here", "_law_first"] (defScope s_l_likes_row) := ⟨rfl, rfl, rfl, by decide +kernel, rfl, by decide +kernel, by decide +kernel⟩
abbrev s_l_likes_rows : Stmt := top 124
abbrev N_l_likes_rows : List Str := ["_law_dice_here", "_law_found", "_law_first", "_law_turn"]
theorem sc_l_likes_rows : FnScope N_l_likes_rows ["_law_dice_here"] (defScope s_l_likes_rows) := ⟨rfl, rfl, rfl, by decide +kernel, rfl, by decide +kernel, by decide +kernel⟩
abbrev s_l_likes_states : Stmt := top 125
abbrev N_l_likes_states : List Str := ["_law_dice_here", "_law_rows", "_law_numbers_here", "_law_first", "_law_indices", "_law_most", "_law_found", "_law_turn"]
theorem sc_l_likes_states : FnScope N_l_likes_states ["_law_dice_here", "_law_rows"] (defScope s_l_likes_states) := ⟨rfl, rfl, rfl, by decide +kernel, rfl, by decide +kernel, by decide +kernel⟩
abbrev s_l_likes_of : Stmt := top 126
abbrev N_l_likes_of : List Str := ["_law_rows", "_law_number", "_law_some", "_law_row"]
theorem sc_l_likes_of : FnScope N_l_likes_of ["_law_rows", "_law_number"] (defScope s_l_likes_of) := ⟨rfl, rfl, rfl, by decide +kernel, rfl, by decide +kernel, by decide +kernel⟩
abbrev s_l_line : Stmt := top 127
abbrev N_l_line : List Str := ["_law_rows", "_law_numbers_here", "_law_state", "_law_row", "_law_indices", "_law_text", "_law_number"]
theorem sc_l_line : FnScope N_l_line ["_law_rows", "_law_numbers_here", "_law_state"] (defScope s_l_line) := ⟨rfl, rfl, rfl, by decide +kernel, rfl, by decide +kernel, by decide +kernel⟩
abbrev s_l_lines : Stmt := top 128
abbrev N_l_lines : List Str := ["_law_rows", "_law_states", "_law_groups", "_law_number", "_law_row", "_law_key", "_law_pairs", "_law_numbers_here", "_law_state"]
theorem sc_l_lines : FnScope N_l_lines ["_law_rows", "_law_states"] (defScope s_l_lines) := ⟨rfl, rfl, rfl, by decide +kernel, rfl, by decide +kernel, by decide +kernel⟩
abbrev s_l_plain : Stmt := top 129
abbrev N_l_plain : List Str := ["_law_text", "_law_sign"]
theorem sc_l_plain : FnScope N_l_plain ["_law_text"] (defScope s_l_plain) := ⟨rfl, rfl, rfl, by decide +kernel, rfl, by decide +kernel, by decide +kernel⟩
abbrev s_l_numbers : Stmt := top 130
abbrev N_l_numbers : List Str := ["_law_rows", "_law_head", "_law_name", "_law_dot", "_law_rest", "_law_number", "_law_row", "_law_inner", "_law_told_here", "_law_one"]
theorem sc_l_numbers : FnScope N_l_numbers ["_law_rows", "_law_head"] (defScope s_l_numbers) := ⟨rfl, rfl, rfl, by decide +kernel, rfl, by decide +kernel, by decide +kernel⟩
abbrev s_l_read : Stmt := top 131
abbrev N_l_read : List Str := ["_law_rows", "_law_lines_here", "_law_found", "_law_place", "_law_line_here", "_law_head", "_law_blank", "_law_state", "_law_is_word", "_law_numbers_here", "_law_number", "_law_sign"]
theorem sc_l_read : FnScope N_l_read ["_law_rows", "_law_lines_here"] (defScope s_l_read) := ⟨rfl, rfl, rfl, by decide +kernel, rfl, by decide +kernel, by decide +kernel⟩
abbrev s_l_told : Stmt := top 132
abbrev N_l_told : List Str := ["_law_rows", "_law_lines_here", "error"]
theorem sc_l_told : FnScope N_l_told ["_law_rows", "_law_lines_here"] (defScope s_l_told) := ⟨rfl, rfl, rfl, by decide +kernel, rfl, by decide +kernel, by decide +kernel⟩
abbrev s_l_bent : Stmt := top 133
abbrev N_l_bent : List Str := ["_law_dice_here", "_law_lines_here", "_law_spot", "_law_way", "_law_line_here", "_law_at", "_law_sign", "_law_bent_here"]
theorem sc_l_bent : FnScope N_l_bent ["_law_dice_here", "_law_lines_here"] (defScope s_l_bent) := ⟨rfl, rfl, rfl, by decide +kernel, rfl, by decide +kernel, by decide +kernel⟩
abbrev s_l_right : Stmt := top 134
abbrev N_l_right : List Str := ["_law_dice_here", "_law_some", "_law_rows", "_law_states", "_law_lines_here", "_law_single", "_law_told_here", "_law_found", "_law_turn", "_law_near", "_law_number", "_law_first", "_law_indices", "_law_most"]
theorem sc_l_right : FnScope N_l_right ["_law_dice_here"] (defScope s_l_right) := ⟨rfl, rfl, rfl, by decide +kernel, rfl, by decide +kernel, by decide +kernel⟩
abbrev s_law : Stmt := top 135
abbrev N_law : List Str := ["_law_script", "_law_spot", "_law_rows", "_law_told_here", "_law_odd", "_law_due", "_law_line_here"]
theorem sc_law : FnScope N_law ["_law_script"] (defScope s_law) := ⟨rfl, rfl, rfl, by decide +kernel, rfl, by decide +kernel, by decide +kernel⟩
abbrev s_Row_init : Stmt := inClass (top 103) 1
abbrev N_Row_init : List Str := ["self", "first", "indices", "at_once"]
theorem sc_Row_init : FnScope N_Row_init ["self", "first", "indices", "at_once"] (defScope s_Row_init) := ⟨rfl, rfl, rfl, by decide +kernel, rfl, by decide +kernel, by decide +kernel⟩
abbrev s_Row_first : Stmt := inClass (top 103) 2
abbrev N_Row_first : List Str := ["self"]
theorem sc_Row_first : FnScope N_Row_first ["self"] (defScope s_Row_first) := ⟨rfl, rfl, rfl, by decide +kernel, rfl, by decide +kernel, by decide +kernel⟩
abbrev s_Row_indices : Stmt := inClass (top 103) 3
abbrev N_Row_indices : List Str := ["self"]
theorem sc_Row_indices : FnScope N_Row_indices ["self"] (defScope s_Row_indices) := ⟨rfl, rfl, rfl, by decide +kernel, rfl, by decide +kernel, by decide +kernel⟩
abbrev s_Row_numbers : Stmt := inClass (top 103) 5
abbrev N_Row_numbers : List Str := ["self"]
theorem sc_Row_numbers : FnScope N_Row_numbers ["self"] (defScope s_Row_numbers) := ⟨rfl, rfl, rfl, by decide +kernel, rfl, by decide +kernel, by decide +kernel⟩
abbrev s_Row_number_of : Stmt := inClass (top 103) 8
abbrev N_Row_number_of : List Str := ["self", "index"]
theorem sc_Row_number_of : FnScope N_Row_number_of ["self", "index"] (defScope s_Row_number_of) := ⟨rfl, rfl, rfl, by decide +kernel, rfl, by decide +kernel, by decide +kernel⟩
abbrev s_Row_index_of : Stmt := inClass (top 103) 9
abbrev N_Row_index_of : List Str := ["self", "number"]
theorem sc_Row_index_of : FnScope N_Row_index_of ["self", "number"] (defScope s_Row_index_of) := ⟨rfl, rfl, rfl, by decide +kernel, rfl, by decide +kernel, by decide +kernel⟩
abbrev s_Row_contains : Stmt := inClass (top 103) 12
abbrev N_Row_contains : List Str := ["self", "value"]
theorem sc_Row_contains : FnScope N_Row_contains ["self", "value"] (defScope s_Row_contains) := ⟨rfl, rfl, rfl, by decide +kernel, rfl, by decide +kernel, by decide +kernel⟩
abbrev s_Amounts_init : Stmt := inClass (top 34) 1
abbrev N_Amounts_init : List Str := ["self", "pairs"]
theorem sc_Amounts_init : FnScope N_Amounts_init ["self", "pairs"] (defScope s_Amounts_init) := ⟨rfl, rfl, rfl, by decide +kernel, rfl, by decide +kernel, by decide +kernel⟩
abbrev s_ParseError_init : Stmt := inClass (top 20) 0
abbrev N_ParseError_init : List Str := ["self", "spot"]
abbrev s_TooMany_init : Stmt := inClass (top 24) 0
abbrev N_TooMany_init : List Str := ["self", "most"]
end K28

set_option Elab.async false
set_option linter.all false
set_option maxRecDepth 100000
set_option maxHeartbeats 4000000
namespace K28
open PySem PySem.Spec PyProof.Rows L2

/-! ## What is known of the program's top -/
/-- a def, where it stands -/
abbrev FnP (K : PySem.W.Frag) (x qual : Str) (st : Stmt) (dvs : List V) (kws : List (Str × V)) (f : Addr) : Prop := ∃ fd, FunD K x qual (defArgs st) (defBody st) (defScope st) dvs kws f fd
structure Tx (K : PySem.W.Frag) (mg : Str → Option Value) : Prop where
  g_is_integer : mg "is_integer" = some (.ref (He.ga K "is_integer"))
  d_is_integer : FnP K "is_integer" "is_integer" s_is_integer [] [] (He.ga K "is_integer")
  g_is_from : mg "is_from" = some (.ref (He.ga K "is_from"))
  d_is_from : FnP K "is_from" "is_from" s_is_from [] [] (He.ga K "is_from")
  g_begins_with_letter : mg "begins_with_letter" = some (.ref (He.ga K "begins_with_letter"))
  d_begins_with_letter : FnP K "begins_with_letter" "begins_with_letter" s_begins_with_letter [] [] (He.ga K "begins_with_letter")
  g_is_kind : mg "is_kind" = some (.ref (He.ga K "is_kind"))
  d_is_kind : FnP K "is_kind" "is_kind" s_is_kind [] [] (He.ga K "is_kind")
  g_are_ascending : mg "are_ascending" = some (.ref (He.ga K "are_ascending"))
  d_are_ascending : FnP K "are_ascending" "are_ascending" s_are_ascending [] [] (He.ga K "are_ascending")
  g_are_pairs : mg "are_pairs" = some (.ref (He.ga K "are_pairs"))
  d_are_pairs : FnP K "are_pairs" "are_pairs" s_are_pairs [] [] (He.ga K "are_pairs")
  g_are_indices : mg "are_indices" = some (.ref (He.ga K "are_indices"))
  d_are_indices : FnP K "are_indices" "are_indices" s_are_indices [] [] (He.ga K "are_indices")
  g_entry_of : mg "entry_of" = some (.ref (He.ga K "entry_of"))
  d_entry_of : FnP K "entry_of" "entry_of" s_entry_of [] [] (He.ga K "entry_of")
  g_least_text : mg "least_text" = some (.ref (He.ga K "least_text"))
  d_least_text : FnP K "least_text" "least_text" s_least_text [] [] (He.ga K "least_text")
  g_fold_indices : mg "fold_indices" = some (.ref (He.ga K "fold_indices"))
  d_fold_indices : FnP K "fold_indices" "fold_indices" s_fold_indices [] [] (He.ga K "fold_indices")
  g_is_digit : mg "is_digit" = some (.ref (He.ga K "is_digit"))
  d_is_digit : FnP K "is_digit" "is_digit" s_is_digit [] [] (He.ga K "is_digit")
  g_number_end : mg "number_end" = some (.ref (He.ga K "number_end"))
  d_number_end : FnP K "number_end" "number_end" s_number_end [] [] (He.ga K "number_end")
  g_entry_spots : mg "entry_spots" = some (.ref (He.ga K "entry_spots"))
  d_entry_spots : FnP K "entry_spots" "entry_spots" s_entry_spots [] [] (He.ga K "entry_spots")
  g_entries_in : mg "entries_in" = some (.ref (He.ga K "entries_in"))
  d_entries_in : FnP K "entries_in" "entries_in" s_entries_in [] [] (He.ga K "entries_in")
  g_told_bounds : mg "told_bounds" = some (.ref (He.ga K "told_bounds"))
  d_told_bounds : FnP K "told_bounds" "told_bounds" s_told_bounds [] [] (He.ga K "told_bounds")
  g_unfold_indices : mg "unfold_indices" = some (.ref (He.ga K "unfold_indices"))
  d_unfold_indices : FnP K "unfold_indices" "unfold_indices" s_unfold_indices [] [] (He.ga K "unfold_indices")
  g_are_rows : mg "are_rows" = some (.ref (He.ga K "are_rows"))
  d_are_rows : FnP K "are_rows" "are_rows" s_are_rows [] [] (He.ga K "are_rows")
  g_require_rows : mg "require_rows" = some (.ref (He.ga K "require_rows"))
  d_require_rows : FnP K "require_rows" "require_rows" s_require_rows [] [] (He.ga K "require_rows")
  g_is_state_word : mg "is_state_word" = some (.ref (He.ga K "is_state_word"))
  d_is_state_word : FnP K "is_state_word" "is_state_word" s_is_state_word [] [] (He.ga K "is_state_word")
  g_are_states : mg "are_states" = some (.ref (He.ga K "are_states"))
  d_are_states : FnP K "are_states" "are_states" s_are_states [] [] (He.ga K "are_states")
  g_row_with : mg "row_with" = some (.ref (He.ga K "row_with"))
  d_row_with : FnP K "row_with" "row_with" s_row_with [] [] (He.ga K "row_with")
  g_line_of : mg "line_of" = some (.ref (He.ga K "line_of"))
  d_line_of : FnP K "line_of" "line_of" s_line_of [] [] (He.ga K "line_of")
  g_fold_states : mg "fold_states" = some (.ref (He.ga K "fold_states"))
  d_fold_states : FnP K "fold_states" "fold_states" s_fold_states [] [] (He.ga K "fold_states")
  g_plain_number : mg "plain_number" = some (.ref (He.ga K "plain_number"))
  d_plain_number : FnP K "plain_number" "plain_number" s_plain_number [] [] (He.ga K "plain_number")
  g_told_indices : mg "told_indices" = some (.ref (He.ga K "told_indices"))
  d_told_indices : FnP K "told_indices" "told_indices" s_told_indices [] [] (He.ga K "told_indices")
  g_told_numbers : mg "told_numbers" = some (.ref (He.ga K "told_numbers"))
  d_told_numbers : FnP K "told_numbers" "told_numbers" s_told_numbers [] [] (He.ga K "told_numbers")
  g_unfold_states : mg "unfold_states" = some (.ref (He.ga K "unfold_states"))
  d_unfold_states : FnP K "unfold_states" "unfold_states" s_unfold_states [] [] (He.ga K "unfold_states")
  g_l_dice : mg "_law_dice" = some (.ref (He.ga K "_law_dice"))
  d_l_dice : FnP K "_law_dice" "_law_dice" s_l_dice [] [] (He.ga K "_law_dice")
  g_l_roll : mg "_law_roll" = some (.ref (He.ga K "_law_roll"))
  d_l_roll : FnP K "_law_roll" "_law_roll" s_l_roll [] [] (He.ga K "_law_roll")
  g_l_pick : mg "_law_pick" = some (.ref (He.ga K "_law_pick"))
  d_l_pick : FnP K "_law_pick" "_law_pick" s_l_pick [] [] (He.ga K "_law_pick")
  g_l_mixed : mg "_law_mixed" = some (.ref (He.ga K "_law_mixed"))
  d_l_mixed : FnP K "_law_mixed" "_law_mixed" s_l_mixed [] [] (He.ga K "_law_mixed")
  g_l_likes_drawn : mg "_law_likes_drawn" = some (.ref (He.ga K "_law_likes_drawn"))
  d_l_likes_drawn : FnP K "_law_likes_drawn" "_law_likes_drawn" s_l_likes_drawn [] [] (He.ga K "_law_likes_drawn")
  g_l_likes_spot : mg "_law_likes_spot" = some (.ref (He.ga K "_law_likes_spot"))
  d_l_likes_spot : FnP K "_law_likes_spot" "_law_likes_spot" s_l_likes_spot [] [] (He.ga K "_law_likes_spot")
  g_l_likes_told : mg "_law_likes_told" = some (.ref (He.ga K "_law_likes_told"))
  d_l_likes_told : FnP K "_law_likes_told" "_law_likes_told" s_l_likes_told [] [] (He.ga K "_law_likes_told")
  g_l_likes_row : mg "_law_likes_row" = some (.ref (He.ga K "_law_likes_row"))
  d_l_likes_row : FnP K "_law_likes_row" "_law_likes_row" s_l_likes_row [] [] (He.ga K "_law_likes_row")
  g_l_likes_rows : mg "_law_likes_rows" = some (.ref (He.ga K "_law_likes_rows"))
  d_l_likes_rows : FnP K "_law_likes_rows" "_law_likes_rows" s_l_likes_rows [] [] (He.ga K "_law_likes_rows")
  g_l_likes_states : mg "_law_likes_states" = some (.ref (He.ga K "_law_likes_states"))
  d_l_likes_states : FnP K "_law_likes_states" "_law_likes_states" s_l_likes_states [] [] (He.ga K "_law_likes_states")
  g_l_likes_of : mg "_law_likes_of" = some (.ref (He.ga K "_law_likes_of"))
  d_l_likes_of : FnP K "_law_likes_of" "_law_likes_of" s_l_likes_of [] [] (He.ga K "_law_likes_of")
  g_l_line : mg "_law_line" = some (.ref (He.ga K "_law_line"))
  d_l_line : FnP K "_law_line" "_law_line" s_l_line [] [] (He.ga K "_law_line")
  g_l_lines : mg "_law_lines" = some (.ref (He.ga K "_law_lines"))
  d_l_lines : FnP K "_law_lines" "_law_lines" s_l_lines [] [] (He.ga K "_law_lines")
  g_l_plain : mg "_law_plain" = some (.ref (He.ga K "_law_plain"))
  d_l_plain : FnP K "_law_plain" "_law_plain" s_l_plain [] [] (He.ga K "_law_plain")
  g_l_numbers : mg "_law_numbers" = some (.ref (He.ga K "_law_numbers"))
  d_l_numbers : FnP K "_law_numbers" "_law_numbers" s_l_numbers [] [] (He.ga K "_law_numbers")
  g_l_read : mg "_law_read" = some (.ref (He.ga K "_law_read"))
  d_l_read : FnP K "_law_read" "_law_read" s_l_read [] [] (He.ga K "_law_read")
  g_l_told : mg "_law_told" = some (.ref (He.ga K "_law_told"))
  d_l_told : FnP K "_law_told" "_law_told" s_l_told [] [] (He.ga K "_law_told")
  g_l_bent : mg "_law_bent" = some (.ref (He.ga K "_law_bent"))
  d_l_bent : FnP K "_law_bent" "_law_bent" s_l_bent [] [] (He.ga K "_law_bent")
  g_l_right : mg "_law_right" = some (.ref (He.ga K "_law_right"))
  d_l_right : FnP K "_law_right" "_law_right" s_l_right [] [] (He.ga K "_law_right")
  g_law : mg "law" = some (.ref (He.ga K "law"))
  d_law : FnP K "law" "law" s_law [] [] (He.ga K "law")
  m_isinstance : mg "isinstance" = none
  m_int : mg "int" = none
  m_bool : mg "bool" = none
  m_len : mg "len" = none
  m_str : mg "str" = none
  m_tuple : mg "tuple" = none
  m_all : mg "all" = none
  m_zip : mg "zip" = none
  m_range : mg "range" = none
  m_min : mg "min" = none
  m_sorted : mg "sorted" = none
  m_any : mg "any" = none
  m_dict : mg "dict" = none
  m_list : mg "list" = none
  m_enumerate : mg "enumerate" = none
  m_max : mg "max" = none
  m_abs : mg "abs" = none
  m_set : mg "set" = none
  m_next : mg "next" = none
  m_super : mg "super" = none
  i_GREATEST : ∃ t, mg "GREATEST" = some (.int 1000000000000000000000000000000000000000000000000000000000000 t)
  i_MAX_KIND : ∃ t, mg "MAX_KIND" = some (.int 8 t)
  i_MAX_KINDS : ∃ t, mg "MAX_KINDS" = some (.int 60 t)
  i_MAX_AMOUNT : ∃ t, mg "MAX_AMOUNT" = some (.int 1000000 t)
  i_MAX_PARTS : ∃ t, mg "MAX_PARTS" = some (.int 60 t)
  i_MAX_INDEX : ∃ t, mg "MAX_INDEX" = some (.int 9999 t)
  i_MAX_LINES : ∃ t, mg "MAX_LINES" = some (.int 1000 t)
  i_MAX_FIRST : ∃ t, mg "MAX_FIRST" = some (.int 999000 t)
  i_MAX_NUMBER : ∃ t, mg "MAX_NUMBER" = some (.int 1000000 t)
  i_MAX_STATE : ∃ t, mg "MAX_STATE" = some (.int 8 t)
  t_LETTERS : ∃ t, mg "LETTERS" = some (.str "abcdefghijklmnopqrstuvwxyz" t)
  t_DIGITS : ∃ t, mg "DIGITS" = some (.str "0123456789" t)
  t_NOTHING : ∃ t, mg "NOTHING" = some (.str "nothing" t)
/-! ## Heaps that grow; the two tables of code objects -/
/-- the code object and its table of least_text (it makes a lambda), of row_with (it makes a generator) -/
abbrev cL (K : PySem.W.Frag) : Addr × Addr := He.cT K ("least_text", none)
abbrev cR (K : PySem.W.Frag) : Addr × Addr := He.cT K ("row_with", none)
structure TbOk (K : PySem.W.Frag) (H : Hp) : Prop where
  lam : LamX.TabS H (cL K).2 "least_text.<locals>.<lambda>"
  gen : GxR.TabG H (cR K).2
  ne : (cR K).2 ≠ (cL K).2
structure Le (K : PySem.W.Frag) (H H' : Hp) : Prop where
  keep : ∀ b o, H b = some o → (∀ ps, o ≠ .tbl ps) → H' b = some o
  tabs : TbOk K H → TbOk K H'
  tbl : ∀ b ps, H b = some (.tbl ps) → ∃ qs, H' b = some (.tbl qs)
theorem TbOk.same {K : PySem.W.Frag} {H H' : Hp} (t : TbOk K H) (e : Same H H') : TbOk K H' :=
  ⟨t.lam.ext e, let ⟨ps, h1, h2⟩ := t.gen; ⟨ps, e _ _ h1, h2⟩, t.ne⟩
section
variable {K : PySem.W.Frag} {H H' H1 H2 : Hp} {p a : Addr} {o : HO} {xs : List V}
theorem _root_.L2.Same.le (e : Same H H') : Le K H H' := ⟨fun b o h _ => e b o h, fun t => t.same e, fun b ps h => ⟨ps, e b _ h⟩⟩
theorem _root_.L2.Same.new (h : H p = none) : Same H (upd H p o) := fun b u e => by
  rw [upd_ne (ne_of_none e h)]
  exact e
theorem _root_.L2.Same.mut (e : Same H H') (h : H p = none) : Same H (upd H' p o) := fun b u q => by
  rw [upd_ne (ne_of_none q h)]
  exact e b u q
theorem Le.refl (H : Hp) : Le K H H := (Same.refl H).le
theorem Le.trans (a : Le K H H1) (b : Le K H1 H2) : Le K H H2 := ⟨fun c o h n => b.keep c o (a.keep c o h n) n, fun t => b.tabs (a.tabs t), fun c ps h => let ⟨qs, h1⟩ := a.tbl c ps h; b.tbl c qs h1⟩
theorem Le.new (h : H p = none) : Le K H (upd H p o) := (Same.new h).le
/-- no table, nothing told by a word of one's own -/
def plainO : HO → Bool
  | .tbl _ => false
  | .ext _ => false
  | _ => true
theorem TbOk.upd {u : HO} (t : TbOk K H) (hp : H p = some u) (hu : plainO u = true) : TbOk K (upd H p o) := by
  obtain ⟨⟨ps, h1, h2, h3⟩, ⟨qs, g1, g2⟩, nq⟩ := t
  have n1 : ∀ {b : Addr} {v : HO}, H b = some v → plainO v = false → b ≠ p := fun e f z => by
    rw [z, hp] at e
    rw [← Option.some.inj e, hu] at f
    cases f
  refine ⟨⟨ps, by rw [upd_ne (n1 h1 rfl)]; exact h1, h2, fun pos cv hc => ?_⟩, ⟨qs, by rw [upd_ne (n1 g1 rfl)]; exact g1, g2⟩, nq⟩
  obtain ⟨c, e1, e2⟩ := h3 pos cv hc
  exact ⟨c, e1, by rw [upd_ne (n1 e2 rfl)]; exact e2⟩
theorem Le.mut {u : HO} (e : Le K H H') (h : H p = none) (hp : H' p = some u) (hu : plainO u = true := by rfl) : Le K H (upd H' p o) :=
  ⟨fun b v q n => by
    rw [upd_ne (ne_of_none q h)]
    exact e.keep b v q n, fun t => (e.tabs t).upd hp hu, fun b ps q => by
    obtain ⟨qs, h1⟩ := e.tbl b ps q
    exact ⟨qs, by rw [upd_ne (ne_of_none q h)]; exact h1⟩⟩
theorem Le.free (e : Le K H H') {l : Addr} (h : H' l = none) : H l = none := by
  cases q : H l with
  | none => rfl
  | some o =>
    exfalso
    by_cases ht : ∃ ps, o = .tbl ps
    · obtain ⟨ps, rfl⟩ := ht
      obtain ⟨qs, h1⟩ := e.tbl l ps q
      rw [h] at h1
      cases h1
    · rw [e.keep l o q fun ps z => ht ⟨ps, z⟩] at h
      cases h
theorem Le.lst (e : Le K H H') (h : H a = some (.lst xs)) : H' a = some (.lst xs) := e.keep _ _ h fun _ z => nomatch z
theorem Le.tup (e : Le K H H') (h : H a = some (.tup xs)) : H' a = some (.tup xs) := e.keep _ _ h fun _ z => nomatch z
theorem Le.sqL (e : Le K H H') (h : SqL K H a xs) : SqL K H' a xs := by
  rcases h with (h | ⟨o, h⟩) | h
  · exact .inl (.inl (e.keep _ _ h fun _ z => nomatch z))
  · exact .inl (.inr ⟨o, e.keep _ _ h fun _ z => nomatch z⟩)
  · exact .inr h
theorem Le.sqT (e : Le K H H') (h : SqT K H a xs) : SqT K H' a xs := by
  rcases h with (h | ⟨o, h⟩) | h
  · exact .inl (.inl (e.keep _ _ h fun _ z => nomatch z))
  · exact .inl (.inr ⟨o, e.keep _ _ h fun _ z => nomatch z⟩)
  · exact .inr h
theorem _root_.L2.Same.sqT (e : Same H H') (h : SqT K H a xs) : SqT K H' a xs := by
  rcases h with (h | ⟨o, h⟩) | h
  · exact .inl (.inl (e _ _ h))
  · exact .inl (.inr ⟨o, e _ _ h⟩)
  · exact .inr h
end
/-! ## A def as its callers see it -/
/-- the module's name x is a def that keeps the promise sp, by at most k levels -/
def Fk (P : Program) (w : World) (K : PySem.W.Frag) (mg : Str → Option Value) (base : Heap) (x : Str) (k : Nat) (ps : List Str) (sp : Sp) : Prop :=
  ∃ f fd, mg x = some (.ref f) ∧ PySem.W.keepIn K (.ref f) = true ∧ FnOk P w K mg base (L2.CX P w) k f fd ps sp ∧ Binds K fd ps []
section
variable {P : Program} {w : World} {K : PySem.W.Frag} {mg : Str → Option Value} {base : Heap}
theorem Fk.mono {x : Str} {j k : Nat} {ps : List Str} {sp : Sp} (F : Fk P w K mg base x j ps sp) (h : j ≤ k) : Fk P w K mg base x k ps sp := by
  obtain ⟨f, fd, h1, h2, h3, h4⟩ := F
  exact ⟨f, fd, h1, h2, h3.mono h, h4⟩
theorem Fk.mk {x : Str} {st : Stmt} {k : Nat} {N ps : List Str} {sp : Sp} {f : Addr} (g : mg x = some (.ref f)) (d : FnP K x x st [] [] f) (S : FnScope N ps (defScope st)) (len : ∀ vs H Q E, sp vs H Q E → vs.length = ps.length)
    (hb : ∀ (kV doc pm : Value) (an : Option Addr) (cdv ct : Value) (us : List Value), us.length = ps.length → bindArgs (PySem.W.fnOf x x (defArgs st) (defBody st) (defScope st) .none kV doc pm an cdv ct) ⟨us, []⟩ = pure (ps.zip us))
    (hbody : ∀ (cdv : Value) (A : Around) (outer : List Env) (s : Shared) (H : Hp) (vs : List V) (Q : VK) (E : XK), Room k (A.deeper (envOfC x (defScope st) s.heap.objs.size f cdv)) → sp vs H Q E →
      ∃ t, PSs (cxOf (L2.CX P w) P w K mg base N x (defScope st) f cdv A outer s H E) (defBody st) t ∧ t { nx := fun _ H' => Q .non H', rt := Q } (start N vs) H) : Fk P w K mg base x (k + 1) ps sp := by
  obtain ⟨fd, F⟩ := d
  exact ⟨f, fd, g, F.kp, F.ok S len hbody, F.bindsN hb⟩
/-- .. nothing is raised -/
theorem Fk.mk0 {x : Str} {st : Stmt} {k : Nat} {N ps : List Str} {sp : Sp} {f : Addr} (g : mg x = some (.ref f)) (d : FnP K x x st [] [] f) (S : FnScope N ps (defScope st)) (len : ∀ vs H Q E, sp vs H Q E → vs.length = ps.length)
    (hb : ∀ (kV doc pm : Value) (an : Option Addr) (cdv ct : Value) (us : List Value), us.length = ps.length → bindArgs (PySem.W.fnOf x x (defArgs st) (defBody st) (defScope st) .none kV doc pm an cdv ct) ⟨us, []⟩ = pure (ps.zip us))
    (hbody : ∀ (cdv : Value) (A : Around) (outer : List Env) (s : Shared) (H : Hp) (vs : List V) (Q : VK) (E : XK), Room k (A.deeper (envOfC x (defScope st) s.heap.objs.size f cdv)) → sp vs H Q E →
      ∃ t, PSs (cxOf (L2.CX P w) P w K mg base N x (defScope st) f cdv A outer s H E).nox (defBody st) t ∧ t { nx := fun _ H' => Q .non H', rt := Q } (start N vs) H) : Fk P w K mg base x (k + 1) ps sp :=
  Fk.mk g d S len hb fun cdv A outer s H vs Q E hr h => by
    obtain ⟨t, h1, h2⟩ := hbody cdv A outer s H vs Q E hr h
    exact ⟨t, h1.nox, h2⟩
end
section
variable {X : Cx} {x : Str} {k : Nat} {ps : List Str} {sp : Sp} {p pos : Pos} {e : Expr} {es : List Expr} {t : TA}
/-- f(a, ..), nothing is raised -/
theorem pe_f (F : Fk X.prog X.w X.K X.mg X.base x k ps sp) (hr : Room k X.A) (ha : PA X (e :: es) t) (hg : Gl X x := by rfl) (hd : (x == ("__debug__" : Str)) = false := by decide)
    (hp : starEach (e :: es) X.env = (false, eval e X.env) :: starEach es X.env := by rfl) (hpl : (backTo pos (starEach es X.env)).any (·.1) = false := by rfl) : PE X (.Call (.Name x p) (e :: es) [] pos) (tCall sp [] E0 t) := by
  obtain ⟨f, fd, h1, h2, h3, h4⟩ := F
  exact pe_call h3 hr hg h1 h2 h4 .nil passL ha hd hp hpl
/-- a constant of the module -/
theorem pe_gS {z : Str} (h : ∃ t, X.mg x = some (.str z t)) (hg : Gl X x := by rfl) (hd : (x == ("__debug__" : Str)) = false := by decide) : PE X (.Name x p) (tC (.str z)) := by
  obtain ⟨t, h⟩ := h
  exact pe_glob hg h ⟨t, rfl⟩ hd
theorem pe_gI {z : Int} (h : ∃ t, X.mg x = some (.int z t)) (hg : Gl X x := by rfl) (hd : (x == ("__debug__" : Str)) = false := by decide) : PE X (.Name x p) (tC (.int z)) := by
  obtain ⟨t, h⟩ := h
  exact pe_glob hg h ⟨t, rfl⟩ hd
end
end K28

set_option Elab.async false
set_option linter.all false
set_option maxRecDepth 100000
set_option maxHeartbeats 4000000
namespace K28
open PySem PySem.Spec PyProof.Rows L2
abbrev cPE (K : PySem.W.Frag) : Addr := He.ga K "ParseError"
abbrev cTM (K : PySem.W.Frag) : Addr := He.ga K "TooMany"
abbrev cRow (K : PySem.W.Frag) : Addr := He.ga K "Row"
abbrev cAm (K : PySem.W.Frag) : Addr := He.ga K "Amounts"
/-! ## The head: what is looked at behind the top -/
def refM : Value → List Addr
  | .ref a => [a]
  | _ => []
/-- what a function, a class, a dict, a property, a tuple names -/
def selM (o : Obj) : List Addr := match o with
  | ⟨_, _, .func fd, _⟩ => refM fd.code ++ (refM fd.defaults ++ (refM fd.kwdefaults ++ fd.closure.map (·.2)))
  | ⟨_, _, .cls cd, _⟩ => [cd.ns]
  | ⟨.type n, _, .dict es _, _⟩ => if n == "dict" then es.toList.flatMap fun e => refM e.val else []
  | ⟨.type n, _, .fields vs, _⟩ => if n == "property" then vs.toList.flatMap refM else []
  | ⟨.type n, _, .seq its _, _⟩ => if n == "tuple" then its.toList.flatMap refM else []
  | _ => []
def exM (g : Addr → Option Obj) (as : List Addr) : List Addr := as.flatMap fun a => match g a with
  | some o => selM o
  | none => []
def fm0 (g : Addr → Option Obj) : List Addr := exM g [mainGlobals]
def fm1 (g : Addr → Option Obj) : List Addr := exM g (fm0 g)
def fm2 (g : Addr → Option Obj) : List Addr := exM g (fm1 g)
def fm3 (g : Addr → Option Obj) : List Addr := exM g (fm2 g)
def fm4 (g : Addr → Option Obj) : List Addr := exM g (fm3 g)
def asM (g : Addr → Option Obj) : List Addr := mainGlobals :: cStatics :: (fm0 g ++ (fm1 g ++ (fm2 g ++ (fm3 g ++ fm4 g))))
/-- the part of the heap -/
def kM (g : Addr → Option Obj) : PySem.W.Frag := He.frT g (asM g)
/-! ### defs by an address -/
structure DefA where
  ad : PySem.W.Frag → Addr
  name : Str
  qual : Str
  params : Arguments
  body : List Stmt
  scope : Scope
  dfl : List He.Dv := []
  kwd : List (Str × He.Dv) := []
  clo : List Str := []
abbrev FnZ : Type := Option (Str × Str × Arguments × FuncBody × Scope × Addr × List Str × Addr)
def fnZ (K : PySem.W.Frag) (a : Addr) : FnZ := match K.lookup a with
  | some ⟨_, _, .func fd, _⟩ => some (fd.name, fd.qualname, fd.params, fd.body, fd.scope, fd.globals, fd.closure.map (·.1), fd.builtins)
  | _ => none
def DefA.val (d : DefA) : FnZ := some (d.name, d.qual, d.params, .stmts d.body, d.scope, mainGlobals, d.clo, builtinsNs)
def DefA.dvs (K : PySem.W.Frag) (d : DefA) : List V := d.dfl.map (He.Dv.v K)
def DefA.kws (K : PySem.W.Frag) (d : DefA) : List (Str × V) := d.kwd.map fun q => (q.1, q.2.v K)
def DefA.ok (K : PySem.W.Frag) (d : DefA) : Bool := PySem.W.keepIn K (.ref (d.ad K)) && (match K.lookup (d.ad K) with
  | some ⟨_, _, .func fd, _⟩ => PySem.W.codeIn K fd.code d.qual && (He.dflB K fd.defaults (d.dvs K) && He.kwdB K fd.kwdefaults (d.kws K))
  | _ => false)
/-! ### classes of errors -/
def clB (K : PySem.W.Frag) (C : Addr) (bmB : List Value) (newId : String) : Bool := match K.lookup C with
  | some ⟨.type "type", _, .cls cd, sl⟩ => (match cd.mro, sl.toList with
    | .ref C' :: bm, [_, _, _, _, some (.builtin n), _] => C' == C && (n == newId && (!cd.hasDel && (cd.hasDict && (PySem.W.excTail bmB bm && He.eqO (PySem.W.alongIn K "__init__" bm) (some (some (.builtin (match bmB with
      | .type t :: _ => t ++ ".__init__"
      | _ => ""))))))))
    | _, _ => false)
  | _ => false
/-- its own __init__ -/
def ownB (K : PySem.W.Frag) (C f : Addr) (qual : Str) : Bool := match K.lookup f with
  | some ⟨_, _, .func ⟨_, _, _, _, _, _, [(_, cc)], .none, .none, _, _, _, .ref cda, _, _⟩, _⟩ => PySem.W.codeIn K (.ref cda) qual && ((match K.lookup cc with
    | some ⟨_, _, .cell (some (.ref C')), _⟩ => C' == C
    | _ => false) && (match K.lookup cda with
    | some ⟨_, _, .fields vs, _⟩ => (match (vs[2]? : Option Value) with
      | some (.str file _) => (((PySem.Challenge.pw_toldstarts_k28_whole_states_folded).main.file : Str) == file)
      | _ => false)
    | _ => false))
  | _ => false
/-- a slot -/
def pdAd (K : PySem.W.Frag) (C : Addr) (f : Str) : Addr := match PySem.W.findIn K (.ref C) f with
  | some (some (.ref p)) => p
  | _ => 0
def slB (K : PySem.W.Frag) (C : Addr) (f : Str) (i : Nat) : Bool := He.eqO (PySem.W.findIn K (.ref C) f) (some (some (.ref (pdAd K C f)))) && (He.eqO (PySem.W.specialIn K (.ref (pdAd K C f)) "__get__") (some (some (.builtin "member_descriptor.__get__"))) && (decide (PySem.W.takesIn K (.ref (pdAd K C f)) = some true) && (decide (PySem.W.typeIn K (.ref (pdAd K C f)) = some (.type "member_descriptor")) && (decide (PySem.W.slotIn K (pdAd K C f) C = some i) && Nat.blt i 1000))))
/-- a property -/
def prAd (K : PySem.W.Frag) (f : Str) : Addr := match PySem.W.recIn K (pdAd K (cRow K) f) "property" with
  | some (.ref g :: _) => g
  | _ => 0
def prB (K : PySem.W.Frag) (f : Str) : Bool := He.eqO (PySem.W.findIn K (.ref (cRow K)) f) (some (some (.ref (pdAd K (cRow K) f)))) && (He.eqO (PySem.W.specialIn K (.ref (pdAd K (cRow K) f)) "__get__") (some (some (.builtin "property.__get__"))) && (decide (PySem.W.takesIn K (.ref (pdAd K (cRow K) f)) = some true) && (match PySem.W.recIn K (pdAd K (cRow K) f) "property" with
  | some (.ref _ :: _) => true
  | _ => false)))
def scB (K : PySem.W.Frag) (C : Addr) : Bool := PySem.W.plainGet K C Str.empty && (PySem.W.isClsIn K C && (PySem.W.plainOver K C && He.eqO (PySem.W.findIn K (.ref C) "__setattr__") (some (some (.builtin "object.__setattr__")))))
def siB (K : PySem.W.Frag) (C : Addr) : Bool := He.eqO (PySem.W.findIn K (.ref C) "__class__") (some (some (.builtin "object.__class__"))) && (He.eqO (PySem.W.specialIn K (.builtin "object.__class__") "__get__") (some (some (.builtin "getset_descriptor.__get__"))) && (decide (PySem.W.takesIn K (.builtin "object.__class__") = some true) && decide (PySem.W.mroIn K C (.type "object") = some true)))
def mkB (K : PySem.W.Frag) (C : Addr) : Bool := PySem.W.makesIn K C && (He.eqO (PySem.W.findIn K (.ref C) "__init__") (some (some (.ref (He.ma K C "__init__")))) && (PySem.W.isFn K (.ref (He.ma K C "__init__")) && PySem.W.keepIn K (.ref C)))
def meB (K : PySem.W.Frag) (C : Addr) (m : Str) : Bool := He.eqO (PySem.W.findIn K (.ref C) m) (some (some (.ref (He.ma K C m)))) && (PySem.W.isFn K (.ref (He.ma K C m)) && PySem.W.keepIn K (.ref (He.ma K C m)))
/-- the default of Amounts: a tuple of none -/
def d0Ad (K : PySem.W.Frag) : Addr := He.dflAt ("Amounts", some "__init__") 0 K
def d0B (K : PySem.W.Frag) : Bool := match K.lookup (d0Ad K) with
  | some ⟨.type c, none, .seq its _, _⟩ => c == "tuple" && its.isEmpty
  | _ => false
def bmV : List Value := [.type "ValueError", .type "Exception", .type "BaseException", .type "object"]
def bmO : List Value := [.type "OverflowError", .type "ArithmeticError", .type "Exception", .type "BaseException", .type "object"]
/-- a class of errors with an own __init__ -/
def txB (K : PySem.W.Frag) (C : Addr) (bmB : List Value) (newId base : String) (f : Str) (qual : Str) : List Bool :=
  [clB K C bmB newId, He.eqO (PySem.W.findIn K (.ref C) "__setattr__") (some (some (.builtin "object.__setattr__"))), He.eqO (PySem.W.findIn K (.ref C) "__getattribute__") (some (some (.builtin "BaseException.__getattribute__"))),
   He.eqO (PySem.W.findIn K (.ref C) "__getattr__") (some none), He.eqO (PySem.W.findIn K (.ref C) f) (some none), He.eqO (PySem.W.findIn K (.ref C) "__init__") (some (some (.ref (He.ma K C "__init__")))),
   decide (PySem.W.typeIn K (.ref (He.ma K C "__init__")) = some (.type "function")), PySem.W.keepIn K (.ref C), decide (PySem.W.subIn K (.ref C) (.type "BaseException") = some true), decide (PySem.W.subIn K (.ref C) (.type base) = some true),
   decide (PySem.W.typeIn K (.ref C) = some (.type "type")), decide (PySem.W.exmOne K (.ref C) (.ref C) = some true), He.eqO (PySem.W.nsIn K cStatics "thirdparty.any") (some none), ownB K C (He.ma K C "__init__") qual]
def fnM0 : List DefA := [⟨fun K => He.ga K "is_integer", "is_integer", "is_integer", defArgs s_is_integer, defBody s_is_integer, defScope s_is_integer, [], [], []⟩,
  ⟨fun K => He.ga K "is_from", "is_from", "is_from", defArgs s_is_from, defBody s_is_from, defScope s_is_from, [], [], []⟩,
  ⟨fun K => He.ga K "begins_with_letter", "begins_with_letter", "begins_with_letter", defArgs s_begins_with_letter, defBody s_begins_with_letter, defScope s_begins_with_letter, [], [], []⟩,
  ⟨fun K => He.ga K "is_kind", "is_kind", "is_kind", defArgs s_is_kind, defBody s_is_kind, defScope s_is_kind, [], [], []⟩,
  ⟨fun K => He.ga K "are_ascending", "are_ascending", "are_ascending", defArgs s_are_ascending, defBody s_are_ascending, defScope s_are_ascending, [], [], []⟩,
  ⟨fun K => He.ga K "are_pairs", "are_pairs", "are_pairs", defArgs s_are_pairs, defBody s_are_pairs, defScope s_are_pairs, [], [], []⟩,
  ⟨fun K => He.ga K "are_indices", "are_indices", "are_indices", defArgs s_are_indices, defBody s_are_indices, defScope s_are_indices, [], [], []⟩,
  ⟨fun K => He.ga K "entry_of", "entry_of", "entry_of", defArgs s_entry_of, defBody s_entry_of, defScope s_entry_of, [], [], []⟩,
  ⟨fun K => He.ga K "least_text", "least_text", "least_text", defArgs s_least_text, defBody s_least_text, defScope s_least_text, [], [], []⟩,
  ⟨fun K => He.ga K "fold_indices", "fold_indices", "fold_indices", defArgs s_fold_indices, defBody s_fold_indices, defScope s_fold_indices, [], [], []⟩,
  ⟨fun K => He.ga K "is_digit", "is_digit", "is_digit", defArgs s_is_digit, defBody s_is_digit, defScope s_is_digit, [], [], []⟩,
  ⟨fun K => He.ga K "number_end", "number_end", "number_end", defArgs s_number_end, defBody s_number_end, defScope s_number_end, [], [], []⟩,
  ⟨fun K => He.ga K "entry_spots", "entry_spots", "entry_spots", defArgs s_entry_spots, defBody s_entry_spots, defScope s_entry_spots, [], [], []⟩]
def fnM1 : List DefA := [⟨fun K => He.ga K "entries_in", "entries_in", "entries_in", defArgs s_entries_in, defBody s_entries_in, defScope s_entries_in, [], [], []⟩,
  ⟨fun K => He.ga K "told_bounds", "told_bounds", "told_bounds", defArgs s_told_bounds, defBody s_told_bounds, defScope s_told_bounds, [], [], []⟩,
  ⟨fun K => He.ga K "unfold_indices", "unfold_indices", "unfold_indices", defArgs s_unfold_indices, defBody s_unfold_indices, defScope s_unfold_indices, [], [], []⟩,
  ⟨fun K => He.ga K "are_rows", "are_rows", "are_rows", defArgs s_are_rows, defBody s_are_rows, defScope s_are_rows, [], [], []⟩,
  ⟨fun K => He.ga K "require_rows", "require_rows", "require_rows", defArgs s_require_rows, defBody s_require_rows, defScope s_require_rows, [], [], []⟩,
  ⟨fun K => He.ga K "is_state_word", "is_state_word", "is_state_word", defArgs s_is_state_word, defBody s_is_state_word, defScope s_is_state_word, [], [], []⟩,
  ⟨fun K => He.ga K "are_states", "are_states", "are_states", defArgs s_are_states, defBody s_are_states, defScope s_are_states, [], [], []⟩,
  ⟨fun K => He.ga K "row_with", "row_with", "row_with", defArgs s_row_with, defBody s_row_with, defScope s_row_with, [], [], []⟩,
  ⟨fun K => He.ga K "line_of", "line_of", "line_of", defArgs s_line_of, defBody s_line_of, defScope s_line_of, [], [], []⟩,
  ⟨fun K => He.ga K "fold_states", "fold_states", "fold_states", defArgs s_fold_states, defBody s_fold_states, defScope s_fold_states, [], [], []⟩,
  ⟨fun K => He.ga K "plain_number", "plain_number", "plain_number", defArgs s_plain_number, defBody s_plain_number, defScope s_plain_number, [], [], []⟩,
  ⟨fun K => He.ga K "told_indices", "told_indices", "told_indices", defArgs s_told_indices, defBody s_told_indices, defScope s_told_indices, [], [], []⟩,
  ⟨fun K => He.ga K "told_numbers", "told_numbers", "told_numbers", defArgs s_told_numbers, defBody s_told_numbers, defScope s_told_numbers, [], [], []⟩]
def fnM2 : List DefA := [⟨fun K => He.ga K "unfold_states", "unfold_states", "unfold_states", defArgs s_unfold_states, defBody s_unfold_states, defScope s_unfold_states, [], [], []⟩,
  ⟨fun K => He.ga K "_law_dice", "_law_dice", "_law_dice", defArgs s_l_dice, defBody s_l_dice, defScope s_l_dice, [], [], []⟩,
  ⟨fun K => He.ga K "_law_roll", "_law_roll", "_law_roll", defArgs s_l_roll, defBody s_l_roll, defScope s_l_roll, [], [], []⟩,
  ⟨fun K => He.ga K "_law_pick", "_law_pick", "_law_pick", defArgs s_l_pick, defBody s_l_pick, defScope s_l_pick, [], [], []⟩,
  ⟨fun K => He.ga K "_law_mixed", "_law_mixed", "_law_mixed", defArgs s_l_mixed, defBody s_l_mixed, defScope s_l_mixed, [], [], []⟩,
  ⟨fun K => He.ga K "_law_likes_drawn", "_law_likes_drawn", "_law_likes_drawn", defArgs s_l_likes_drawn, defBody s_l_likes_drawn, defScope s_l_likes_drawn, [], [], []⟩,
  ⟨fun K => He.ga K "_law_likes_spot", "_law_likes_spot", "_law_likes_spot", defArgs s_l_likes_spot, defBody s_l_likes_spot, defScope s_l_likes_spot, [], [], []⟩,
  ⟨fun K => He.ga K "_law_likes_told", "_law_likes_told", "_law_likes_told", defArgs s_l_likes_told, defBody s_l_likes_told, defScope s_l_likes_told, [], [], []⟩,
  ⟨fun K => He.ga K "_law_likes_row", "_law_likes_row", "_law_likes_row", defArgs s_l_likes_row, defBody s_l_likes_row, defScope s_l_likes_row, [], [], []⟩,
  ⟨fun K => He.ga K "_law_likes_rows", "_law_likes_rows", "_law_likes_rows", defArgs s_l_likes_rows, defBody s_l_likes_rows, defScope s_l_likes_rows, [], [], []⟩,
  ⟨fun K => He.ga K "_law_likes_states", "_law_likes_states", "_law_likes_states", defArgs s_l_likes_states, defBody s_l_likes_states, defScope s_l_likes_states, [], [], []⟩,
  ⟨fun K => He.ga K "_law_likes_of", "_law_likes_of", "_law_likes_of", defArgs s_l_likes_of, defBody s_l_likes_of, defScope s_l_likes_of, [], [], []⟩,
  ⟨fun K => He.ga K "_law_line", "_law_line", "_law_line", defArgs s_l_line, defBody s_l_line, defScope s_l_line, [], [], []⟩]
def fnM3 : List DefA := [⟨fun K => He.ga K "_law_lines", "_law_lines", "_law_lines", defArgs s_l_lines, defBody s_l_lines, defScope s_l_lines, [], [], []⟩,
  ⟨fun K => He.ga K "_law_plain", "_law_plain", "_law_plain", defArgs s_l_plain, defBody s_l_plain, defScope s_l_plain, [], [], []⟩,
  ⟨fun K => He.ga K "_law_numbers", "_law_numbers", "_law_numbers", defArgs s_l_numbers, defBody s_l_numbers, defScope s_l_numbers, [], [], []⟩,
  ⟨fun K => He.ga K "_law_read", "_law_read", "_law_read", defArgs s_l_read, defBody s_l_read, defScope s_l_read, [], [], []⟩,
  ⟨fun K => He.ga K "_law_told", "_law_told", "_law_told", defArgs s_l_told, defBody s_l_told, defScope s_l_told, [], [], []⟩,
  ⟨fun K => He.ga K "_law_bent", "_law_bent", "_law_bent", defArgs s_l_bent, defBody s_l_bent, defScope s_l_bent, [], [], []⟩,
  ⟨fun K => He.ga K "_law_right", "_law_right", "_law_right", defArgs s_l_right, defBody s_l_right, defScope s_l_right, [], [], []⟩,
  ⟨fun K => He.ga K "law", "law", "law", defArgs s_law, defBody s_law, defScope s_law, [], [], []⟩,
  ⟨fun K => He.ma K (He.ga K "Row") "__init__", "__init__", "Row.__init__", defArgs s_Row_init, defBody s_Row_init, defScope s_Row_init, [], [("at_once", .non)], []⟩,
  ⟨fun K => He.ma K (He.ga K "Amounts") "__init__", "__init__", "Amounts.__init__", defArgs s_Amounts_init, defBody s_Amounts_init, defScope s_Amounts_init, [.adr d0Ad], [], []⟩,
  ⟨fun K => prAd K "first", "first", "Row.first", defArgs s_Row_first, defBody s_Row_first, defScope s_Row_first, [], [], []⟩,
  ⟨fun K => prAd K "indices", "indices", "Row.indices", defArgs s_Row_indices, defBody s_Row_indices, defScope s_Row_indices, [], [], []⟩,
  ⟨fun K => prAd K "numbers", "numbers", "Row.numbers", defArgs s_Row_numbers, defBody s_Row_numbers, defScope s_Row_numbers, [], [], []⟩]
def fnM4 : List DefA := [⟨fun K => He.ma K (He.ga K "Row") "number_of", "number_of", "Row.number_of", defArgs s_Row_number_of, defBody s_Row_number_of, defScope s_Row_number_of, [], [], []⟩,
  ⟨fun K => He.ma K (He.ga K "Row") "index_of", "index_of", "Row.index_of", defArgs s_Row_index_of, defBody s_Row_index_of, defScope s_Row_index_of, [], [], []⟩,
  ⟨fun K => He.ma K (He.ga K "Row") "__contains__", "__contains__", "Row.__contains__", defArgs s_Row_contains, defBody s_Row_contains, defScope s_Row_contains, [], [], []⟩,
  ⟨fun K => He.ma K (He.ga K "ParseError") "__init__", "__init__", "ParseError.__init__", defArgs s_ParseError_init, defBody s_ParseError_init, defScope s_ParseError_init, [], [], ["__class__"]⟩,
  ⟨fun K => He.ma K (He.ga K "TooMany") "__init__", "__init__", "TooMany.__init__", defArgs s_TooMany_init, defBody s_TooMany_init, defScope s_TooMany_init, [], [], ["__class__"]⟩]
def faM : List He.Fa := [.glo "is_integer", .glo "is_from", .glo "begins_with_letter", .glo "is_kind", .glo "are_ascending", .glo "are_pairs", .glo "are_indices", .glo "entry_of", .glo "least_text", .glo "fold_indices", .glo "is_digit", .glo "number_end", .glo "entry_spots", .glo "entries_in", .glo "told_bounds", .glo "unfold_indices", .glo "are_rows", .glo "require_rows", .glo "is_state_word", .glo "are_states", .glo "row_with", .glo "line_of", .glo "fold_states", .glo "plain_number", .glo "told_indices", .glo "told_numbers", .glo "unfold_states", .glo "_law_dice", .glo "_law_roll", .glo "_law_pick", .glo "_law_mixed", .glo "_law_likes_drawn", .glo "_law_likes_spot", .glo "_law_likes_told", .glo "_law_likes_row", .glo "_law_likes_rows", .glo "_law_likes_states", .glo "_law_likes_of", .glo "_law_line", .glo "_law_lines", .glo "_law_plain", .glo "_law_numbers", .glo "_law_read", .glo "_law_told", .glo "_law_bent", .glo "_law_right", .glo "law", .free "isinstance", .free "int", .free "bool", .free "len", .free "str", .free "tuple", .free "all", .free "zip", .free "range", .free "min", .free "sorted", .free "any", .free "dict", .free "list", .free "enumerate", .free "max", .free "abs", .free "set", .free "next", .free "super", .int "GREATEST" 1000000000000000000000000000000000000000000000000000000000000, .int "MAX_KIND" 8, .int "MAX_KINDS" 60, .int "MAX_AMOUNT" 1000000, .int "MAX_PARTS" 60, .int "MAX_INDEX" 9999, .int "MAX_LINES" 1000, .int "MAX_FIRST" 999000, .int "MAX_NUMBER" 1000000, .int "MAX_STATE" 8, .str "LETTERS" "abcdefghijklmnopqrstuvwxyz", .str "DIGITS" "0123456789", .str "NOTHING" "nothing", .glo "ParseError", .glo "TooMany", .glo "Row", .glo "Amounts"]
def exsM (K : PySem.W.Frag) : List Bool := [PySem.W.exmAny K (.ref (cPE K)) [.ref (cPE K), .ref (cTM K)] == some true,
  PySem.W.exmAny K (.ref (cTM K)) [.ref (cPE K), .ref (cTM K)] == some true,
  scB K (cRow K),
  siB K (cRow K),
  mkB K (cRow K),
  slB K (cRow K) "own_amounts" 0,
  slB K (cRow K) "own_first" 1,
  slB K (cRow K) "own_indices" 2,
  slB K (cRow K) "own_kind" 3,
  slB K (cRow K) "own_most" 4,
  slB K (cRow K) "own_numbers" 5,
  scB K (cAm K),
  mkB K (cAm K),
  d0B K,
  slB K (cAm K) "own_pairs" 0,
  slB K (cAm K) "own_table" 1,
  prB K "first",
  prB K "indices",
  prB K "numbers",
  meB K (cRow K) "number_of",
  meB K (cRow K) "index_of",
  meB K (cRow K) "__contains__",
  xfB K (cPE K),
  decide ((cR K).2 ≠ (cL K).2)]
def tpeM (K : PySem.W.Frag) : List Bool := txB K (cPE K) bmV "ValueError.__new__" "ValueError" "spot" "ParseError.__init__"
def ttmM (K : PySem.W.Frag) : List Bool := txB K (cTM K) bmO "OverflowError.__new__" "OverflowError" "most" "TooMany.__init__"
/-- the two defs that make code objects -/
def tfM : List He.Defn := [("least_text", none), ("row_with", none)]
/-- all Bool facts -/
def okM (g : Addr → Option Obj) (K : PySem.W.Frag) : List Bool := (faM.map fun f => f.ok K) ++ (exsM K ++ (tpeM K ++ (ttmM K ++ [He.tabsB g tfM K])))
def doM (K : PySem.W.Frag) (fn : List DefA) : Bool × List FnZ := ((fn.map fun d => if d.clo.isEmpty then d.ok K else true).all id, fn.map fun d => fnZ K (d.ad K))
def dvM (fn : List DefA) : Bool × List FnZ := (true, fn.map DefA.val)
abbrev AlM : Type := Bool × (Bool × List FnZ) × (Bool × List FnZ) × (Bool × List FnZ) × (Bool × List FnZ) × (Bool × List FnZ)
def obM (g : Addr → Option Obj) : AlM := ((okM g (kM g)).all id, doM (kM g) fnM0, doM (kM g) fnM1, doM (kM g) fnM2, doM (kM g) fnM3, doM (kM g) fnM4)
def vaM : AlM := (true, dvM fnM0, dvM fnM1, dvM fnM2, dvM fnM3, dvM fnM4)
end K28

set_option Elab.async false
set_option linter.all false
set_option maxRecDepth 100000
set_option maxHeartbeats 0
namespace K28
open PySem PySem.Spec PyProof.Rows L2
open HandSHeadRun PySem.W in
theorem run_ob (w : World) (os : OsState) : ((endF (stepQ (denQ tabQ) PySem.Challenge.pw_toldstarts_k28_whole_states_folded w) 20000 PySem.Challenge.pw_toldstarts_k28_whole_states_folded w os).map fun s => obM (getT s)) = some vaM := by kernel_rfl
end K28

set_option Elab.async false
set_option linter.all false
set_option maxRecDepth 100000
set_option maxHeartbeats 0
namespace K28
open PySem PySem.Spec PyProof.Rows L2
abbrev rowQ : PySem.W.OpenRow := PySem.W.OpenLaw.row PySem.Challenge.rw_toldstarts_k28_whole_states_folded
def loose0 : List Str := ["_wall", "GREATEST", "LETTERS", "DIGITS", "MAX_NAME", "MAX_KIND", "NOTHING", "is_integer", "is_from", "begins_with_letter", "is_name", "is_kind", "is_word", "are_ascending", "HouseError", "InvalidTick", "InvalidAmounts", "InvalidJob", "ParseError", "InvalidNumber", "UnknownName", "Lacking", "TooMany", "MAX_KINDS", "MAX_AMOUNT"]
def loose1 : List Str := ["are_pairs", "amounts_of", "require_amounts", "require_operand", "missing", "text_of_pairs", "Amounts", "MAX_TICK", "MINUTE", "HOUR", "DAY", "is_tick", "require_tick", "text_of_ticks", "MAX_MARKS", "ALL", "is_mark", "MAX_DEPTH", "MAX_NODES", "MARK", "NOT", "AND", "OR", "count_nodes", "all_marks"]
def loose2 : List Str := ["is_formula", "BEGUN", "LEFT", "OVER", "ATOM_WORDS", "MAX_NAMED", "MAX_AFTER_NODES", "MAX_DEEP", "MAX_MEMBERS", "MAX_JOB_NUMBER", "BOTH", "EITHER", "is_job_number", "after_nodes", "atoms_in", "named_in", "is_after_formula", "MAX_LIMIT", "MAX_GRADE", "MAX_DOORS", "MOST_GROUPS", "MOST_MACHINES", "ARGUMENTS", "are_door_names", "is_wanted_group"]
def loose3 : List Str := ["are_wanted_groups", "total_of", "Job", "MAX_PARTS", "MAX_INDEX", "MAX_LINES", "MAX_FIRST", "MAX_NUMBER", "MAX_STATE", "are_indices", "entry_of", "least_text", "fold_indices", "is_digit", "number_end", "entry_spots", "entries_in", "told_bounds", "unfold_indices", "Row", "are_rows", "require_rows", "is_state_word", "are_states", "row_with"]
def loose4 : List Str := ["line_of", "fold_states", "plain_number", "told_indices", "told_numbers", "unfold_states", "_law_dice", "_law_roll", "_law_pick", "_law_mixed", "_law_likes_drawn", "_law_likes_spot", "_law_likes_told", "_law_likes_row", "_law_likes_rows", "_law_likes_states", "_law_likes_of", "_law_line", "_law_lines", "_law_plain", "_law_numbers", "_law_read", "_law_told", "_law_bent", "_law_right"]
def loose : List Str := loose0 ++ loose1 ++ loose2 ++ loose3 ++ loose4
open HandSHeadRun PySem.W in
theorem run_looks (w : World) (os : OsState) : ((endF (stepQ (denQ tabQ) rowQ.prog w) 20000 rowQ.prog w os).map fun s => (looksF rowQ.prog (boot_heap w.params) s.abs, seenQ (view rowQ.prog [135]) loose (importedModules rowQ.prog.main.body) (fun s => xlAt (view rowQ.prog [135]) [] s && recOk rowQ.toRowW.records s) s.abs)) = some (true, openGood (view rowQ.prog [135]) loose) := by kernel_rfl
end K28

set_option Elab.async false
set_option linter.all false
set_option maxRecDepth 100000
set_option maxHeartbeats 4000000
namespace K28
open PySem PySem.Spec PyProof.Rows L2
theorem ifT {c : Bool} {A B : Prop} (hc : c = true) (h : A) : if c = true then A else B := by
  rw [if_pos hc]
  exact h
theorem ifF {c : Bool} {A B : Prop} (hc : c = false) (h : B) : if c = true then A else B := by
  rw [hc, if_neg Bool.false_ne_true]
  exact h
theorem bl_q {b : Bool} {Q : VK} {H : Hp} (hb : b = true) (h : Q (.bl true) H) : Q (.bl b) H := by
  rw [hb]
  exact h
theorem fm_const (n : Nat) (v : V) : (List.range n).filterMap (fun _ => some v) = List.replicate n v := by
  induction n with
  | zero => rfl
  | succ n ih => rw [List.range_succ, List.filterMap_append, ih, List.replicate_succ'] <;> rfl
theorem map_get {α : Type} {f : α → V} {l : List α} {i : Nat} {x : V} (h : (l.map f)[i]? = some x) : ∃ n, l[i]? = some n ∧ x = f n := by
  rw [List.getElem?_map] at h
  obtain ⟨n, h1, h2⟩ := Option.map_eq_some_iff.mp h
  exact ⟨n, h1, h2.symm⟩
/-! ## Orders of heaps -/
/-- a way in which heaps grow: Same, or Le -/
structure Ord (K : PySem.W.Frag) (E : Hp → Hp → Prop) : Prop where
  refl : ∀ H, E H H
  trans : ∀ {H H1 H2}, E H H1 → E H1 H2 → E H H2
  keep : ∀ {H H'}, E H H' → ∀ b o, H b = some o → (∀ ps, o ≠ .tbl ps) → H' b = some o
  of : ∀ {H H'}, Same H H' → E H H'
  free : ∀ {H H' : Hp} {l : Addr}, E H H' → H' l = none → H l = none
  wr : ∀ {H H' : Hp} {p : Addr} {u o : HO}, E H H' → H p = none → H' p = some u → plainO u = true → E H (upd H' p o)
theorem ordS {K : PySem.W.Frag} : Ord K Same := ⟨Same.refl, fun a b => a.trans b, fun e b o h _ => e b o h, fun e => e, fun e h => e.free h, fun e h _ _ => e.mut h⟩
theorem ordL {K : PySem.W.Frag} : Ord K (Le K) := ⟨Le.refl, fun a b => a.trans b, fun e => e.keep, fun e => e.le, fun e h => e.free h, fun e h hp hu => e.mut h hp hu⟩
section
variable {K : PySem.W.Frag} {E : Hp → Hp → Prop} {H H' H1 : Hp} {p a : Addr} {o : HO} {xs : List V}
theorem Ord.new (O : Ord K E) (h : H p = none) : E H (upd H p o) := O.of (Same.new h)
theorem Ord.lst (O : Ord K E) (e : E H H') (h : H a = some (.lst xs)) : H' a = some (.lst xs) := O.keep e _ _ h fun _ z => nomatch z
theorem Ord.tup (O : Ord K E) (e : E H H') (h : H a = some (.tup xs)) : H' a = some (.tup xs) := O.keep e _ _ h fun _ z => nomatch z
theorem Ord.dK (O : Ord K E) {kvs : List (Key × V)} (e : E H H') (h : H a = some (.dK kvs)) : H' a = some (.dK kvs) := O.keep e _ _ h fun _ z => nomatch z
theorem Ord.dT (O : Ord K E) {kvs : List (List Key × V)} (e : E H H') (h : H a = some (.dT kvs)) : H' a = some (.dT kvs) := O.keep e _ _ h fun _ z => nomatch z
theorem Ord.sqL (O : Ord K E) (e : E H H') (h : SqL K H a xs) : SqL K H' a xs := by
  rcases h with (h | ⟨o, h⟩) | h
  · exact .inl (.inl (O.lst e h))
  · exact .inl (.inr ⟨o, O.keep e _ _ h fun _ z => nomatch z⟩)
  · exact .inr h
theorem Ord.sqT (O : Ord K E) (e : E H H') (h : SqT K H a xs) : SqT K H' a xs := by
  rcases h with (h | ⟨o, h⟩) | h
  · exact .inl (.inl (O.tup e h))
  · exact .inl (.inr ⟨o, O.keep e _ _ h fun _ z => nomatch z⟩)
  · exact .inr h
theorem ty_tup (h : SqT K H a xs) : TyX K H (.ref a) (.type "tuple") := by
  rcases h with (h | ⟨o, h⟩) | ⟨o, its, n, h, c, _⟩
  · exact .base (.tup h)
  · exact .fTuple h
  · exact .kTuple h c
theorem ty_lst (h : SqL K H a xs) : TyX K H (.ref a) (.type "list") := by
  rcases h with (h | ⟨o, h⟩) | ⟨o, its, n, h, c, _⟩
  · exact .base (.lst h)
  · exact .base (.frz h)
  · exact .kList h c
theorem len_t (h : SqT K H a xs) : LenV K (.ref a) H xs.length := .inr ⟨_, h, rfl⟩
theorem len_l (h : SqL K H a xs) : LenV K (.ref a) H xs.length := .inl ⟨_, h, rfl⟩
/-! ## slices -/
/-- t[lo:hi], t a tuple: a tuple of the items between (the same one, if that is all of it) -/
def rSlN (K : PySem.W.Frag) : V → Option Int → Option Int → Hp → VK → Prop := fun x lo hi H Q => ∃ a xs, x = .ref a ∧ SqT K H a xs ∧ ∀ p H', Same H H' → SqT K H' p (cutV xs lo hi) → Q (.ref p) H'
theorem sl_tupN {X : Cx} : SlR X (rSlN X.K) := by
  intro pins s σ H x v vl vu lo hi sl Q I rx hs pl pu h
  refine sl_tupA pins s σ H x v vl vu lo hi sl Q I rx hs pl pu ?_
  obtain ⟨a, xs, rfl, h, q⟩ := h
  refine ⟨a, xs, rfl, h, fun z => ?_, fun _ p hp => q p _ (Same.new hp) (.of upd_same)⟩
  refine q a H (Same.refl H) ?_
  unfold cutV
  rw [z.1, z.2, List.drop_zero, Nat.sub_zero, List.take_length]
  exact h
theorem cutV_from (xs : List V) (i : Nat) : cutV xs (some (i : Int)) none = xs.drop i := by
  unfold cutV
  rw [HT.sIx_none, HT.sIx_nat]
  by_cases h : i ≤ xs.length
  · rw [Nat.min_eq_left h]
    exact List.take_of_length_le (by simp)
  · rw [Nat.min_eq_right (by omega), List.drop_eq_nil_of_le (by omega : xs.length ≤ i)]
    simp
theorem cutV_two (xs : List V) (i j : Nat) : cutV xs (some (i : Int)) (some (j : Int)) = (xs.drop i).take (j - i) := by
  unfold cutV
  rw [HT.sIx_nat, HT.sIx_nat]
  by_cases h : i ≤ xs.length
  · rw [Nat.min_eq_left h]
    by_cases hj : j ≤ xs.length
    · rw [Nat.min_eq_left hj]
    · rw [Nat.min_eq_right (by omega), List.take_of_length_le (by simp), List.take_of_length_le (by simp; omega)]
  · have e : min i xs.length = xs.length := Nat.min_eq_right (by omega)
    rw [e, List.drop_eq_nil_of_le (by omega : xs.length ≤ i), List.drop_length]
    simp
theorem cutV_to (xs : List V) (j : Nat) : cutV xs none (some (j : Int)) = xs.take j := by
  unfold cutV
  rw [HT.sIx_none, HT.sIx_nat, List.drop_zero, Nat.sub_zero]
  by_cases h : j ≤ xs.length
  · rw [Nat.min_eq_left h]
  · rw [Nat.min_eq_right (by omega), List.take_of_length_le (Nat.le_refl _), List.take_of_length_le (by omega)]
theorem walk_zipT {b : Addr} {ys : List V} {n : Nat} (hn : n = min xs.length ys.length) : Walk (RZ.ItzT K a b) n (fun H => SqT K H a xs ∧ SqT K H b ys) (YPair (fun i => xs[i]?) (fun i => ys[i]?)) := by
  subst hn
  refine ⟨fun i _ hi q => ?_, fun _ q => ⟨xs, ys, q.1, q.2, by omega⟩, fun i H v H' _ q y => ?_⟩
  · have h1 : i < xs.length := by omega
    have h2 : i < ys.length := by omega
    exact ⟨xs, ys, xs[i], ys[i], q.1, q.2, by simp [h1], by simp [h2]⟩
  · obtain ⟨T, x, y', e1, e2, e3, h1, h2⟩ := y
    exact ⟨T, x, y', e1, e2, e3, h1 xs q.1, h2 ys q.2⟩
/-! ## list comprehensions whose elements change nothing -/
variable {J : It} {n : Nat} {G : Hp → Prop} {Y : Nat → Hp → V → Hp → Prop} {g : TG} {tt : TT} {te : TE} {vs : List Nat} {σ : L2.St} {D : Addr} {Qd : Hp → Prop}
/-- what stands in the list: f tells the element of a turn, or none where it is left out -/
theorem lc_pure (O : Ord K E) (w : Walk J n G Y) (f : Nat → Option V) (hD : H1 D = none) (hn : n ≤ 1000000) (hG : ∀ H, E H1 H → G H)
    (hs : ∀ (i : Nat) (x : V) (H H' : Hp) (Fin : V → Hp → Prop) (No : Hp → Prop), i < n → E H1 H → Y i H x H' → (∀ y H4, f i = some y → E H H4 → Fin y H4) → (∀ H4, f i = none → E H H4 → No H4) →
      g x (wipe σ vs) H' fun σ2 H2 => wipe σ2 vs = wipe σ vs ∧ tt σ2 H2 fun b H3 => if b = true then te σ2 H3 fun y H4 => Fin y H4 else No H3)
    (hd : ∀ H, E H1 H → H D = some (.lst ((List.range n).filterMap f)) → Qd H) :
    ∃ W : Nat → Nat → Hp → Prop, (∃ m, W 0 m (upd H1 D (.lst []))) ∧ ∀ i m H, W i m H →
      (J.stop i H ∧ Qd H) ∨ (J.go i H ∧ ∃ Nx : Hp → Prop, (∀ H', Nx H' → ∃ m', m' < m ∧ W (i + 1) m' H') ∧ ∀ x H', J.yld i H x H' → g x (wipe σ vs) H' fun σ2 H2 => wipe σ2 vs = wipe σ vs ∧ tt σ2 H2 fun b H3 =>
        if b = true then te σ2 H3 fun y H4 => ∃ acc, H4 D = some (.lst acc) ∧ acc.length < sizeLine ∧ Nx (upd H4 D (.lst (acc ++ [y]))) else Nx H3) := by
  refine lc_it w (fun i H => E H1 H ∧ H D = some (.lst ((List.range i).filterMap f))) ⟨O.new hD, upd_same⟩ (fun i H _ p => hG H p.1) (fun i x H H' hi p hy => ?_) fun H p => hd H p.1 p.2
  have hl : ((List.range i).filterMap f).length < sizeLine := by
    have h1 := List.length_filterMap_le f (List.range i)
    rw [List.length_range] at h1
    rw [sizeLine_eq]
    omega
  refine hs i x H H' _ _ hi p.1 hy (fun y H4 e1 e2 => ⟨_, O.lst e2 p.2, hl, O.wr (O.trans p.1 e2) hD (O.lst e2 p.2) rfl, ?_⟩) fun H4 e1 e2 => ⟨O.trans p.1 e2, ?_⟩
  · rw [upd_same, List.range_succ, List.filterMap_append]
    simp [e1]
  · rw [O.lst e2 p.2, List.range_succ, List.filterMap_append]
    simp [e1]
/-- all but D and the tables stays -/
def ExD (D : Addr) (H H' : Hp) : Prop := ∀ b o, b ≠ D → H b = some o → (∀ ps, o ≠ .tbl ps) → H' b = some o
/-- .. where the elements are new objects: R tells what the element of a turn is -/
theorem lc_rel (O : Ord K E) (w : Walk J n G Y) (R : Nat → V → Hp → Prop) (hR : ∀ i v H H', R i v H → ExD D H H' → R i v H') (hD : H1 D = none) (hn : n ≤ 1000000) (hG : ∀ H, E H1 H → G H)
    (hs : ∀ (i : Nat) (x : V) (H H' : Hp) (Fin : V → Hp → Prop) (No : Hp → Prop), i < n → E H1 H → (∃ acc, H D = some (.lst acc)) → Y i H x H' → (∀ y H4, E H H4 → R i y H4 → Fin y H4) →
      g x (wipe σ vs) H' fun σ2 H2 => wipe σ2 vs = wipe σ vs ∧ tt σ2 H2 fun b H3 => if b = true then te σ2 H3 fun y H4 => Fin y H4 else No H3)
    (hd : ∀ H ys, E H1 H → H D = some (.lst ys) → ys.length = n → (∀ i y, ys[i]? = some y → R i y H) → Qd H) :
    ∃ W : Nat → Nat → Hp → Prop, (∃ m, W 0 m (upd H1 D (.lst []))) ∧ ∀ i m H, W i m H →
      (J.stop i H ∧ Qd H) ∨ (J.go i H ∧ ∃ Nx : Hp → Prop, (∀ H', Nx H' → ∃ m', m' < m ∧ W (i + 1) m' H') ∧ ∀ x H', J.yld i H x H' → g x (wipe σ vs) H' fun σ2 H2 => wipe σ2 vs = wipe σ vs ∧ tt σ2 H2 fun b H3 =>
        if b = true then te σ2 H3 fun y H4 => ∃ acc, H4 D = some (.lst acc) ∧ acc.length < sizeLine ∧ Nx (upd H4 D (.lst (acc ++ [y]))) else Nx H3) := by
  refine lc_it w (fun i H => E H1 H ∧ ∃ ys, H D = some (.lst ys) ∧ ys.length = i ∧ ∀ j y, ys[j]? = some y → R j y H) ⟨O.new hD, [], upd_same, rfl, fun j y z => by simp at z⟩ (fun i H _ p => hG H p.1) (fun i x H H' hi p hy => ?_) fun H p => ?_
  · obtain ⟨p1, ys, p2, p3, p4⟩ := p
    have hl : ys.length < sizeLine := by
      rw [sizeLine_eq]
      omega
    refine hs i x H H' _ _ hi p1 ⟨_, p2⟩ hy (fun y H4 e2 r => ⟨_, O.lst e2 p2, hl, O.wr (O.trans p1 e2) hD (O.lst e2 p2) rfl, _, upd_same, by rw [List.length_append, p3] <;> rfl, fun j z hz => ?_⟩)
    have e3 : ExD D H4 (upd H4 D (.lst (ys ++ [y]))) := fun b o hb h _ => by
      rw [upd_ne hb]
      exact h
    by_cases hj : j < ys.length
    · rw [List.getElem?_append_left hj] at hz
      exact hR _ _ _ _ (hR _ _ _ _ (p4 j z hz) fun b o _ => O.keep e2 b o) e3
    · have hj2 : j = ys.length := by
        have h1 := (List.getElem?_eq_some_iff.mp hz).1
        rw [List.length_append] at h1
        simp at h1
        omega
      subst hj2
      rw [List.getElem?_append_right (Nat.le_refl _), Nat.sub_self] at hz
      have e5 : y = z := Option.some.inj hz
      rw [← e5, p3]
      exact hR _ _ _ _ r e3
  · obtain ⟨p1, ys, p2, p3, p4⟩ := p
    exact hd H ys p1 p2 p3 p4
end
end K28

set_option Elab.async false
set_option linter.all false
set_option maxRecDepth 100000
set_option maxHeartbeats 4000000
namespace K28
open PySem PySem.Spec PyProof.Rows L2
/-! ## Signs and numbers -/
def isDig (c : Nat) : Bool := decide (48 ≤ c) && decide (c ≤ 57)
theorem mem_digits (c : Nat) : decide (c ∈ (Str.ofString "0123456789").cps.toList) = isDig c := by
  have e : (Str.ofString "0123456789").cps.toList = [48, 49, 50, 51, 52, 53, 54, 55, 56, 57] := by decide +kernel
  rw [e]
  unfold isDig
  by_cases h : 48 ≤ c ∧ c ≤ 57
  · obtain ⟨h1, h2⟩ := h
    have h3 : c ∈ [48, 49, 50, 51, 52, 53, 54, 55, 56, 57] := by
      simp
      omega
    rw [decide_eq_true h1, decide_eq_true h2, decide_eq_true h3] <;> rfl
  · have h3 : (decide (48 ≤ c) && decide (c ≤ 57)) = false := by
      rw [Bool.and_eq_false_iff, decide_eq_false_iff_not, decide_eq_false_iff_not]
      omega
    rw [h3, decide_eq_false_iff_not]
    simp
    omega
def isLet (c : Nat) : Bool := decide (97 ≤ c) && decide (c ≤ 122)
theorem mem_letters (c : Nat) : decide (c ∈ (Str.ofString "abcdefghijklmnopqrstuvwxyz").cps.toList) = isLet c := by
  have e : (Str.ofString "abcdefghijklmnopqrstuvwxyz").cps.toList = [97, 98, 99, 100, 101, 102, 103, 104, 105, 106, 107, 108, 109, 110, 111, 112, 113, 114, 115, 116, 117, 118, 119, 120, 121, 122] := by decide +kernel
  rw [e]
  unfold isLet
  by_cases h : 97 ≤ c ∧ c ≤ 122
  · obtain ⟨h1, h2⟩ := h
    have h3 : c ∈ [97, 98, 99, 100, 101, 102, 103, 104, 105, 106, 107, 108, 109, 110, 111, 112, 113, 114, 115, 116, 117, 118, 119, 120, 121, 122] := by
      simp
      omega
    rw [decide_eq_true h1, decide_eq_true h2, decide_eq_true h3] <;> rfl
  · have h3 : (decide (97 ≤ c) && decide (c ≤ 122)) = false := by
      rw [Bool.and_eq_false_iff, decide_eq_false_iff_not, decide_eq_false_iff_not]
      omega
    rw [h3, decide_eq_false_iff_not]
    simp
    omega
abbrev S := SX.S
theorem S_list (l : List Nat) : (S l).cps.toList = l := rfl
theorem S_of (z : Str) : z = S z.cps.toList := (SX.S_tl z).symm
theorem S_len (l : List Nat) : (S l).length = l.length := SX.S_len l
theorem S_inj {a b : List Nat} (h : S a = S b) : a = b := SX.S_inj h
theorem S_app (a b : List Nat) : S a ++ S b = S (a ++ b) := SX.S_cat a b
theorem fm_map {α : Type} (l : List α) (f : α → V) : (List.range l.length).filterMap (fun i => l[i]?.map f) = l.map f := by
  induction l with
  | nil => rfl
  | cons a l ih =>
    rw [List.length_cons, List.range_succ_eq_map, List.filterMap_cons]
    simp only [List.getElem?_cons_zero, Option.map_some, List.filterMap_map]
    rw [List.map_cons, ← ih]
    rfl
/-- what a walk over a text gives -/
theorem sign_at {l : List Nat} {i : Nat} {x : V} (h : ∃ c, (S l).cps[i]? = some c ∧ x = .str ⟨#[c]⟩) : ∃ c, l[i]? = some c ∧ x = .str ⟨#[c]⟩ := by
  obtain ⟨c, h1, h2⟩ := h
  refine ⟨c, ?_, h2⟩
  rw [← Array.getElem?_toList] at h1
  exact h1
theorem sz_ok {l : List Nat} (h : l.length ≤ 100000) : (S l).length ≤ sizeLine := by
  rw [S_len, sizeLine_eq]
  omega
/-! ## Plain judgements -/
section
variable {P : Program} {w : World} {K : PySem.W.Frag} {mg : Str → Option Value} {base : Heap}
def spIsDigit : Sp := fun vs H Q _ => ∃ l : List Nat, vs = [.str (S l)] ∧ l.length ≤ 1 ∧ Q (.bl (l.any isDig)) H
theorem ok_is_digit (T : Tx K mg) : Fk P w K mg base "is_digit" 1 ["sign"] spIsDigit := by
  refine Fk.mk0 T.g_is_digit T.d_is_digit sc_is_digit (fun vs H Q E h => ?_) (fun _ _ _ _ _ _ us hl => match us, hl with | [_], _ => rfl) fun cdv A outer s H vs Q E hr h => ⟨_,
      (pss_one (ps_ret (pe_and (pe_cmpR op_ne (pv 0) pe_str (nomark _)) (pe_one (pe_cmpR op_in_sign (pv 0) (pe_gS T.t_DIGITS) rfl))))), ?_⟩
  · obtain ⟨z, rfl, _⟩ := h
    rfl
  · obtain ⟨l, rfl, hz, q⟩ := h
    refine ⟨_, rfl, rfl, _, rfl, ?_⟩
    match l, hz, q with
    | [], _, q => exact q
    | [c], _, q =>
      refine ite2 (fun _ => ⟨_, rfl, c, _, rfl, rfl, ?_⟩) fun h => ?_
      · rw [mem_digits]
        simpa using q
      · exfalso
        apply h
        have e : ¬ V.str (S [c]) = V.str (Str.ofString "") := fun z => by
          have e1 : S [c] = S [] := V.str.inj z
          exact absurd (S_inj e1) (by simp)
        simpa using e
/-- integers that are no longer than sixty digits -/
def Sm (n : Int) : Prop := -(10 ^ 60) < n ∧ n < 10 ^ 60
def spIsInteger : Sp := fun vs H Q _ => ∃ n : Int, vs = [.int n] ∧ Sm n ∧ Q (.bl true) H
theorem ok_is_integer (T : Tx K mg) : Fk P w K mg base "is_integer" 1 ["value"] spIsInteger := by
  refine Fk.mk0 T.g_is_integer T.d_is_integer sc_is_integer (fun vs H Q E h => ?_) (fun _ _ _ _ _ _ us hl => match us, hl with | [_], _ => rfl) fun cdv A outer s H vs Q E hr h => ⟨_,
      (pss_one (ps_ret (pe_and (pe_callB call_isi (by rfl) T.m_isinstance boot_isinstance (pa_cons (pv 0) (pa_cons (pe_bltn (v := .ty "int") rfl T.m_int (by decide +kernel) rfl) pa_nil))) (pe_and (pe_not (pe_callB call_isi (by rfl) T.m_isinstance boot_isinstance (pa_cons (pv 0) (pa_cons (pe_bltn (v := .ty "bool") rfl T.m_bool (by decide +kernel) rfl) pa_nil)))) (pe_one (pe_chain op_lt op_lt (pe_un un_neg (pe_gI T.i_GREATEST)) (pv 0) (pe_gI T.i_GREATEST))))))), ?_⟩
  · obtain ⟨z, rfl, _⟩ := h
    rfl
  · obtain ⟨n, rfl, ⟨h1, h2⟩, q⟩ := h
    refine ⟨_, rfl, _, _, _, _, true, rfl, .ty "int", .base (.int n), kit_ty (by decide +kernel), _, rfl, iteT ⟨_, rfl, _, _, _, _, false, rfl, .ty "bool", .base (.int n), kit_ty (by decide +kernel), _, rfl, _, rfl, iteT ?_⟩⟩
    refine ⟨_, rfl, _, rfl, _, _, rfl, rfl, _, rfl, ?_⟩
    rw [decide_eq_true (show -(1000000000000000000000000000000000000000000000000000000000000 : Int) < n from h1)]
    refine iteT ⟨_, _, rfl, rfl, ?_⟩
    show Q (.bl (decide (n < (1000000000000000000000000000000000000000000000000000000000000 : Int)))) H
    rw [decide_eq_true (show n < (1000000000000000000000000000000000000000000000000000000000000 : Int) from h2)]
    exact q
def spIsFrom : Sp := fun vs H Q _ => ∃ n a b : Int, vs = [.int n, .int a, .int b] ∧ Sm n ∧ Q (.bl (decide (a ≤ n) && decide (n ≤ b))) H
theorem ok_is_from (T : Tx K mg) : Fk P w K mg base "is_from" 2 ["value", "least", "most"] spIsFrom := by
  refine Fk.mk0 T.g_is_from T.d_is_from sc_is_from (fun vs H Q E h => ?_) (fun _ _ _ _ _ _ us hl => match us, hl with | [_, _, _], _ => rfl) fun cdv A outer s H vs Q E hr h => ⟨_,
      (pss_one (ps_ret (pe_and (pe_f (ok_is_integer T) (hr.mono (by decide)) (pa_cons (pv 0) pa_nil)) (pe_one (pe_chain op_le op_le (pv 1) (pv 0) (pv 2)))))), ?_⟩
  · obtain ⟨_, _, _, rfl, _⟩ := h
    rfl
  · obtain ⟨n, a, b, rfl, hs, q⟩ := h
    refine ⟨_, rfl, n, rfl, hs, _, rfl, iteT ⟨_, rfl, _, rfl, _, _, rfl, rfl, _, rfl, ?_⟩⟩
    by_cases h1 : a ≤ n
    · rw [decide_eq_true h1] at q ⊢
      exact iteT ⟨_, rfl, _, _, rfl, rfl, q⟩
    · rw [decide_eq_false h1] at q ⊢
      exact iteF q
/-! ## rows of indices -/
/-- an ascending row of one to sixty indices -/
structure Ix (ns : List Int) : Prop where
  lo : 1 ≤ ns.length
  hi : ns.length ≤ 60
  bd : ∀ n ∈ ns, 0 ≤ n ∧ n ≤ 9999
  up : ns.Pairwise (· < ·)
theorem small_sm {n : Int} (h : -(10 ^ 59) ≤ n ∧ n ≤ 10 ^ 59) : Sm n := by
  obtain ⟨h1, h2⟩ := h
  constructor
  · exact Int.lt_of_lt_of_le (by decide) h1
  · exact Int.lt_of_le_of_lt h2 (by decide)
def spAreIndices (K : PySem.W.Frag) : Sp := fun vs H Q _ => ∃ (a : Addr) (ns : List Int), vs = [.ref a] ∧ SqT K H a (ns.map V.int) ∧ Ix ns ∧ ∀ H', Same H H' → Q (.bl true) H'
theorem ok_are_indices (T : Tx K mg) : Fk P w K mg base "are_indices" 3 ["value"] (spAreIndices K) := by
  refine Fk.mk0 T.g_are_indices T.d_are_indices sc_are_indices (fun vs H Q E h => ?_) (fun _ _ _ _ _ _ us hl => match us, hl with | [_], _ => rfl) fun cdv A outer s H vs Q E hr h => ⟨_,
      (pss_cons (ps_if (PW.pt (pw_or (pt_not (pt_val (pe_callB call_isi (by rfl) T.m_isinstance boot_isinstance (pa_cons (pv 0) (pa_cons (pe_bltn (v := .ty "tuple") rfl T.m_tuple (by decide +kernel) rfl) pa_nil))))) (pw_or1 (pt_not (pt_chain op_le op_le pe_int (pe_callB call_len (by rfl) T.m_len boot_len (pa_cons (pv 0) pa_nil)) (pe_gI T.i_MAX_PARTS)))))) (pss_one (ps_ret pe_bl)) pss_nil)
      (pss_cons (ps_if (pt_not (pt_val (pe_callB (cr_all rfl) (by rfl) T.m_all (by decide +kernel) (pa_cons (pe_lc (own := [("one", 1)]) (g := gName 1) rfl sc_are_indices.nd (pi_tup (pv 0)) (blkOk_by (own := [("one", 1)]) (N := N_are_indices) (sc := defScope s_are_indices) (by decide +kernel)) (fun _ _ _ _ _ => (pg_name (i := 1) sc_are_indices.nd rfl (Or.inl rfl))) (fun _ _ _ _ _ => pts_nil) (fun _ _ _ _ _ => (pe_f (ok_is_from T) (hr.mono (by decide)) (pa_cons (pv 1) (pa_cons pe_int (pa_cons (pe_gI T.i_MAX_INDEX) pa_nil)))))) pa_nil)))) (pss_one (ps_ret pe_bl)) pss_nil)
      (pss_one (ps_ret (pe_callB (cr_all rfl) (by rfl) T.m_all (by decide +kernel) (pa_cons (pe_lc (own := [("one", 1), ("later", 2)]) (g := gTup K 2 (gCons (gName 1) (gCons (gName 2) (gNil)))) rfl sc_are_indices.nd (RZ.pi_zipA (by rfl) T.m_zip (pa_cons (pv 0) (pa_cons (pe_slice sl_tupN (pv 0) (po_some pe_int) po_none) pa_nil))) (blkOk_by (own := [("one", 1), ("later", 2)]) (N := N_are_indices) (sc := defScope s_are_indices) (by decide +kernel)) (fun _ _ _ _ _ => (pg_tup rfl (pgs_cons (pg_name (i := 1) sc_are_indices.nd rfl (Or.inl rfl)) (pgs_cons (pg_name (i := 2) sc_are_indices.nd rfl (Or.inl rfl)) pgs_nil)))) (fun _ _ _ _ _ => pts_nil) (fun _ _ _ _ _ => (pe_cmpR op_lt (pv 1) (pv 2) (nomark _)))) pa_nil)))))), ?_⟩
  · obtain ⟨_, _, rfl, _⟩ := h
    rfl
  · obtain ⟨a, ns, rfl, hS, ix, q⟩ := h
    have hlen : (ns.map V.int).length = ns.length := List.length_map ..
    refine ⟨_, rfl, _, _, _, _, true, rfl, .ty "tuple", ty_tup hS, kit_ty (by decide +kernel), true, rfl, iteF ?_⟩
    refine ⟨_, rfl, _, _, rfl, len_t hS, _, _, rfl, rfl, _, rfl, ?_⟩
    have h1 := ix.lo
    have h2 := ix.hi
    refine ifT (decide_eq_true (by rw [hlen]; omega)) ⟨_, _, rfl, rfl, _, rfl, ?_⟩
    refine ifF (by rw [hlen, decide_eq_true (by omega)] <;> rfl) ?_
    refine ⟨_, rfl, a, rfl, ⟨_, hS⟩, fun D hD => ?_⟩
    refine lc_pure (ordS (K := K)) (walk_tup (K := K)) (fun _ => some (.bl true)) hD (by rw [hlen]; omega) (fun H1 e => (ordS (K := K)).sqT e hS) (fun i x H1 H2 Fin No hi e hy hF hN => ?_) fun H1 e hl => ?_
    · obtain ⟨rfl, hx⟩ := hy
      obtain ⟨n, hn, rfl⟩ := map_get hx
      obtain ⟨b1, b2⟩ := ix.bd n (List.mem_of_getElem? hn)
      refine ⟨rfl, ⟨_, rfl, n, 0, 9999, rfl, small_sm (by omega), ?_⟩⟩
      refine hF _ _ ?_ (Same.refl _)
      rw [decide_eq_true b1, decide_eq_true b2] <;> rfl
    · refine ⟨D, List.replicate ns.length true, rfl, .of (hl.trans ?_), true, by simp, iteF ?_⟩
      · rw [hlen, List.map_replicate]
        congr 2
        exact fm_const _ _
      · refine ⟨_, rfl, _, rfl, _, rfl, a, _, rfl, (ordS (K := K)).sqT e hS, fun p H2 e2 hp => ⟨_, _, _, _, rfl, .inr ⟨(ordS (K := K)).sqT (e.trans e2) hS, hp, fun D2 hD2 => ?_⟩⟩⟩
        have hc : cutV (ns.map V.int) (some 1) none = (ns.drop 1).map V.int := by
          rw [List.map_drop]
          exact cutV_from _ 1
        rw [hc] at hp
        refine lc_pure (ordS (K := K)) (walk_zipT (K := K) (n := ns.length - 1) (xs := ns.map V.int) (ys := (ns.drop 1).map V.int) (by simp)) (fun _ => some (.bl true)) hD2 (by omega)
          (fun H3 e3 => ⟨(ordS (K := K)).sqT ((e.trans e2).trans e3) hS, (ordS (K := K)).sqT e3 hp⟩) (fun i x H3 H4 Fin No hi e3 hy hF hN => ?_) fun H3 e3 hl3 => ?_
        · obtain ⟨t, x, y, rfl, ht, rfl, hx, hy⟩ := hy
          obtain ⟨n, hn, rfl⟩ := map_get hx
          obtain ⟨m, hm, rfl⟩ := map_get hy
          refine ⟨_, _, rfl, .of upd_same, rfl, _, _, rfl, _, _, rfl, rfl, rfl, ⟨_, rfl, _, rfl, n, m, rfl, rfl, ?_⟩⟩
          refine hF _ _ ?_ (Same.new ht)
          have hlt : n < m := by
            rw [List.getElem?_drop] at hm
            obtain ⟨h3, e4⟩ := List.getElem?_eq_some_iff.mp hn
            obtain ⟨h5, e6⟩ := List.getElem?_eq_some_iff.mp hm
            rw [← e4, ← e6]
            exact List.pairwise_iff_getElem.mp ix.up i (1 + i) h3 h5 (by omega)
          show some (V.bl true) = some (V.bl (decide (n < m)))
          rw [decide_eq_true hlt]
        · refine ⟨D2, List.replicate (ns.length - 1) true, rfl, .of (hl3.trans ?_), bl_q (by simp) (q _ ((e.trans e2).trans e3))⟩
          rw [List.map_replicate]
          congr 2
          exact fm_const _ _
/-! ## words and plain numbers -/
def wordB (l : List Nat) : Bool := decide (1 ≤ l.length) && (decide (l.length ≤ 8) && l.all isLet)
def spIsStateWord : Sp := fun vs H Q _ => ∃ l : List Nat, vs = [.str (S l)] ∧ l.length ≤ 100000 ∧ ∀ H', Same H H' → Q (.bl (wordB l)) H'
theorem ok_is_state_word (T : Tx K mg) : Fk P w K mg base "is_state_word" 2 ["value"] spIsStateWord := by
  refine Fk.mk0 T.g_is_state_word T.d_is_state_word sc_is_state_word (fun vs H Q E h => ?_) (fun _ _ _ _ _ _ us hl => match us, hl with | [_], _ => rfl) fun cdv A outer s H vs Q E hr h => ⟨_,
      (pss_cons (ps_if (PW.pt (pw_or (pt_not (pt_val (pe_callB call_isi (by rfl) T.m_isinstance boot_isinstance (pa_cons (pv 0) (pa_cons (pe_bltn (v := .ty "str") rfl T.m_str (by decide +kernel) rfl) pa_nil))))) (pw_or1 (pt_not (pt_chain op_le op_le pe_int (pe_callB call_len (by rfl) T.m_len boot_len (pa_cons (pv 0) pa_nil)) (pe_gI T.i_MAX_STATE)))))) (pss_one (ps_ret pe_bl)) pss_nil)
      (pss_one (ps_ret (pe_callB (cr_all rfl) (by rfl) T.m_all (by decide +kernel) (pa_cons (pe_lc (own := [("sign", 1)]) (g := gName 1) rfl sc_is_state_word.nd (pi_str (pv 0)) (blkOk_by (own := [("sign", 1)]) (N := N_is_state_word) (sc := defScope s_is_state_word) (by decide +kernel)) (fun _ _ _ _ _ => (pg_name (i := 1) sc_is_state_word.nd rfl (Or.inl rfl))) (fun _ _ _ _ _ => pts_nil) (fun _ _ _ _ _ => (pe_cmpR op_in_sign (pv 1) (pe_gS T.t_LETTERS) rfl))) pa_nil))))), ?_⟩
  · obtain ⟨_, rfl, _⟩ := h
    rfl
  · obtain ⟨l, rfl, hl, q⟩ := h
    refine ⟨_, rfl, _, _, _, _, true, rfl, .ty "str", .base (.str (S l)), kit_ty (by decide +kernel), true, rfl, iteF ?_⟩
    refine ⟨_, rfl, _, _, rfl, ⟨sz_ok hl, rfl⟩, _, _, rfl, rfl, _, rfl, ?_⟩
    rw [S_len]
    unfold wordB at q
    by_cases h1 : 1 ≤ l.length
    · rw [decide_eq_true h1] at q
      refine ifT (decide_eq_true (by omega)) ⟨_, _, rfl, rfl, _, rfl, ?_⟩
      by_cases h2 : l.length ≤ 8
      · rw [decide_eq_true h2] at q
        refine ifF (by rw [decide_eq_true (show (l.length : Int) ≤ 8 by omega)] <;> rfl) ?_
        refine ⟨_, rfl, _, rfl, fun D hD => ?_⟩
        refine lc_pure (ordS (K := K)) walk_str (fun i => l[i]?.map fun c => V.bl (isLet c)) hD (by show (S l).length ≤ _; rw [S_len]; omega) (fun H1 e => trivial) (fun i x H1 H2 Fin No hi e hy hF hN => ?_) fun H1 e h3 => ?_
        · obtain ⟨rfl, hx⟩ := hy
          obtain ⟨c, hc, rfl⟩ := sign_at hx
          refine ⟨rfl, ⟨_, rfl, c, _, rfl, rfl, ?_⟩⟩
          refine hF _ _ ?_ (Same.refl _)
          rw [hc, mem_letters] <;> rfl
        · refine ⟨D, l.map isLet, rfl, .of (h3.trans ?_), ?_⟩
          · have e4 : (S l).cps.size = l.length := S_len l
            rw [e4, fm_map, List.map_map]
            rfl
          · rw [List.all_map]
            exact q H1 e
      · rw [decide_eq_false h2] at q
        exact ifT (by rw [decide_eq_false (show ¬ (l.length : Int) ≤ 8 by omega)] <;> rfl) (q H (Same.refl H))
    · rw [decide_eq_false h1] at q
      refine ifF (decide_eq_false (by omega)) ?_
      exact ⟨_, rfl, iteT (q H (Same.refl H))⟩
/-- a text of digits as a number -/
abbrev val (l : List Nat) : Nat := PySem.NumText.digitsVal l
/-- the number up to m that a text tells (k: how many signs m has) -/
def plainM (k m : Nat) (l : List Nat) : Option Nat :=
  if (1 ≤ l.length ∧ l.length ≤ k) ∧ l.all isDig = true then (if (l.head? = some 48 ∧ 1 < l.length) ∨ m < val l then none else some (val l)) else none
def optN : Option Nat → V
  | none => .non
  | some n => .int n
def spPlainNumber : Sp := fun vs H Q _ => ∃ (l : List Nat) (k m : Nat), vs = [.str (S l), .int m] ∧ l.length ≤ 100000 ∧ (k = 4 ∧ m = 9999 ∨ k = 7 ∧ m = 1000000) ∧ ∀ H', Same H H' → Q (optN (plainM k m l)) H'
theorem ok_plain_number (T : Tx K mg) : Fk P w K mg base "plain_number" 2 ["text", "most"] spPlainNumber := by
  refine Fk.mk0 T.g_plain_number T.d_plain_number sc_plain_number (fun vs H Q E h => ?_) (fun _ _ _ _ _ _ us hl => match us, hl with | [_, _], _ => rfl) fun cdv A outer s H vs Q E hr h => ⟨_,
      (pss_cons (ps_if (PW.pt (pw_or (pt_not (pt_chain op_le op_le pe_int (pe_callB call_len (by rfl) T.m_len boot_len (pa_cons (pv 0) pa_nil)) (pe_callB call_len (by rfl) T.m_len boot_len (pa_cons (pe_callTy call_str_int (by rfl) T.m_str (by decide +kernel) (pa_cons (pv 1) pa_nil)) pa_nil)))) (pw_or1 (pt_not (pt_val (pe_callB (cr_all rfl) (by rfl) T.m_all (by decide +kernel) (pa_cons (pe_lc (own := [("sign", 2)]) (g := gName 2) rfl sc_plain_number.nd (pi_str (pv 0)) (blkOk_by (own := [("sign", 2)]) (N := N_plain_number) (sc := defScope s_plain_number) (by decide +kernel)) (fun _ _ _ _ _ => (pg_name (i := 2) sc_plain_number.nd rfl (Or.inl rfl))) (fun _ _ _ _ _ => pts_nil) (fun _ _ _ _ _ => (pe_f (ok_is_digit T) (hr.mono (by decide)) (pa_cons (pv 2) pa_nil)))) pa_nil))))))) (pss_one (ps_ret pe_non)) pss_nil)
      (pss_cons (ps_if (PW.pt (pw_or (PW.pt (pw_and (pt_cmpR op_eq (pe_ix ix_str (pv 0) pe_int (fun _ _ => rfl)) pe_str (nomark _)) (pw_and1 (pt_cmpR op_gt (pe_callB call_len (by rfl) T.m_len boot_len (pa_cons (pv 0) pa_nil)) pe_int (nomark _))))) (pw_or1 (pt_cmpR op_gt (pe_callTy call_int_str (by rfl) T.m_int (by decide +kernel) (pa_cons (pv 0) pa_nil)) (pv 1) (nomark _))))) (pss_one (ps_ret pe_non)) pss_nil)
      (pss_one (ps_ret (pe_callTy call_int_str (by rfl) T.m_int (by decide +kernel) (pa_cons (pv 0) pa_nil)))))), ?_⟩
  · obtain ⟨_, _, _, rfl, _⟩ := h
    rfl
  · obtain ⟨l, k, m, rfl, hl, hk, q⟩ := h
    have hm : (Str.ofString (toString (m : Int))).length = k ∧ (m : Int).natAbs.log2 < 1920 ∧ k ≤ 7 := by
      rcases hk with ⟨rfl, rfl⟩ | ⟨rfl, rfl⟩
      · exact ⟨by decide +kernel, by decide +kernel, by decide⟩
      · exact ⟨by decide +kernel, by decide +kernel, by decide⟩
    obtain ⟨hm1, hm2, hk7⟩ := hm
    have hmz : (Str.ofString (toString (m : Int))).length ≤ sizeLine := by
      rw [hm1, sizeLine_eq]
      omega
    refine ⟨_, rfl, _, _, rfl, ⟨sz_ok hl, rfl⟩, _, _, rfl, rfl, _, rfl, ?_⟩
    rw [S_len]
    unfold plainM at q
    by_cases h1 : 1 ≤ l.length
    · refine ifT (decide_eq_true (by omega)) ⟨_, rfl, _, rfl, hm2, _, _, rfl, ⟨hmz, rfl⟩, _, _, rfl, rfl, _, rfl, ?_⟩
      rw [hm1]
      by_cases h2 : l.length ≤ k
      · refine ifF (by rw [decide_eq_true (show (l.length : Int) ≤ (k : Int) by omega)] <;> rfl) ?_
        refine ⟨_, rfl, _, rfl, fun D hD => ?_⟩
        refine lc_pure (ordS (K := K)) walk_str (fun i => l[i]?.map fun c => V.bl (isDig c)) hD (by show (S l).length ≤ _; rw [S_len]; omega) (fun H1 e => trivial) (fun i x H1 H2 Fin No hi e hy hF hN => ?_) fun H1 e h3 => ?_
        · obtain ⟨rfl, hx⟩ := hy
          obtain ⟨c, hc, rfl⟩ := sign_at hx
          refine ⟨rfl, ⟨_, rfl, [c], rfl, Nat.le_refl _, ?_⟩⟩
          refine hF _ _ ?_ (Same.refl _)
          rw [hc]
          simp
        · refine ⟨D, l.map isDig, rfl, .of (h3.trans ?_), _, rfl, ?_⟩
          · have e4 : (S l).cps.size = l.length := S_len l
            rw [e4, fm_map, List.map_map]
            rfl
          · rw [List.all_map]
            by_cases h4 : l.all isDig = true
            · rw [if_pos ⟨⟨h1, h2⟩, h4⟩] at q
              refine ifF (by rw [show l.all (id ∘ isDig) = l.all isDig from rfl, h4] <;> rfl) ?_
              obtain ⟨c, r, rfl⟩ : ∃ c r, l = c :: r := by
                cases l with
                | nil => simp at h1
                | cons c r => exact ⟨c, r, rfl⟩
              have hv : PySem.intText? (S (c :: r)) = some ((val (c :: r) : Nat) : Int) := SX.int_S h4 (by simp) (by omega)
              have hv2 : (S (c :: r)).length ≤ 640 := by
                rw [S_len]
                omega
              have h0 : atI (S (c :: r)).cps.toList 0 = some c := atI_nat (xs := (S (c :: r)).cps.toList) (j := 0) rfl
              refine ⟨_, rfl, _, _, c, rfl, rfl, sz_ok hl, h0, rfl, _, rfl, ?_⟩
              by_cases h5 : (c :: r).head? = some 48 ∧ 1 < (c :: r).length
              · rw [if_pos (.inl h5)] at q
                have e5 : c = 48 := Option.some.inj h5.1
                subst e5
                refine ifT (decide_eq_true rfl) ⟨_, rfl, _, _, rfl, ⟨sz_ok hl, rfl⟩, _, _, rfl, rfl, _, rfl, ?_⟩
                exact ifT (decide_eq_true (by rw [S_len]; omega)) (iteT (q H1 e))
              · have h6 : ∀ (A B : Prop), B → (if decide (m < val (c :: r)) = true then A else B) = (if decide (m < val (c :: r)) = true then A else B) := fun _ _ _ => rfl
                have fin : tIfS (tTest (tOp (rI0 fun i j => V.bl (decide (j < i))) (tCB (fun xs H Q => ∃ a n, xs = [.str a] ∧ PySem.intText? a = some n ∧ a.length ≤ 640 ∧ Q (.int n) H) (tCons (tVar 0) tNil)) (tVar 1)))
                    (tRet (tC .non)) (tRet (tCB (fun xs H Q => ∃ a n, xs = [.str a] ∧ PySem.intText? a = some n ∧ a.length ≤ 640 ∧ Q (.int n) H) (tCons (tVar 0) tNil)))
                    { nx := fun _ H' => Q .non H', rt := Q } (L2.start N_plain_number [.str (S (c :: r)), .int m]) H1 := by
                  refine ⟨_, rfl, _, _, rfl, hv, hv2, _, rfl, _, _, rfl, rfl, _, rfl, ?_⟩
                  by_cases h7 : m < val (c :: r)
                  · rw [if_pos (.inr h7)] at q
                    exact ifT (decide_eq_true (by omega)) (q H1 e)
                  · rw [if_neg (fun z => z.elim h5 h7)] at q
                    refine ifF (decide_eq_false (by omega)) ⟨_, rfl, _, _, rfl, hv, hv2, q H1 e⟩
                by_cases h8 : c = 48
                · subst h8
                  refine ifT (decide_eq_true rfl) ⟨_, rfl, _, _, rfl, ⟨sz_ok hl, rfl⟩, _, _, rfl, rfl, _, rfl, ?_⟩
                  refine ifF (decide_eq_false (fun z => h5 ⟨rfl, by rw [S_len] at z; omega⟩)) ?_
                  exact fin
                · refine ifF (decide_eq_false (fun z => h8 (by
                    have e1 : S [c] = S [48] := V.str.inj z
                    simpa using S_inj e1))) ?_
                  exact fin
            · rw [if_neg (fun z => h4 z.2)] at q
              exact ifT (by rw [show l.all (id ∘ isDig) = l.all isDig from rfl, Bool.not_eq_true _ |>.mp h4] <;> rfl) (q H1 e)
      · rw [if_neg (fun z => h2 z.1.2)] at q
        exact ifT (by rw [decide_eq_false (show ¬ (l.length : Int) ≤ (k : Int) by omega)] <;> rfl) (q H (Same.refl H))
    · rw [if_neg (fun z => h1 z.1.1)] at q
      refine ifF (decide_eq_false (by omega)) ?_
      exact ⟨_, rfl, iteT (q H (Same.refl H))⟩
end
end K28

set_option Elab.async false
set_option linter.all false
set_option maxRecDepth 100000
set_option maxHeartbeats 4000000
namespace K28
namespace Er
open PySem PySem.W PySem.Calls PyProof.Rows PySem.HandSPX K28 L2
/-! ## Own errors whose __init__ calls super's -/
abbrev PRG := PySem.Challenge.pw_toldstarts_k28_whole_states_folded
/-- what __init__ leaves of a fresh exception at x: its field y holds v -/
structure ErrEnd (y : Str) (h h' : Heap) (x C dx : Addr) (v : Value) : Prop where
  keep : ∀ b o, b ≠ x → h.get? b = some o → h'.get? b = some o
  obj : ∃ t1, h'.get? x = some { cls := .ref C, dict := some dx, data := .fields #[.ref t1, .none, .none, .none, .bool false, .none] }
  dbig : h.objs.size ≤ dx
  dne : dx ≠ x
  ns : h'.Ns1 dx (fun z => if z = y then some v else none)
/-- a made error -/
structure OwnMade (y : Str) (h h' : Heap) (e C d : Addr) (v : Value) : Prop where
  keep : ∀ b o, h.get? b = some o → h'.get? b = some o
  new : h.objs.size ≤ e
  obj : ∃ oe vs, h'.get? e = some oe ∧ oe.cls = .ref C ∧ oe.dict = some d ∧ oe.data = .fields vs ∧ vs[1]? = some .none
  dbig : h.objs.size ≤ d
  dne : d ≠ e
  ns : h'.Ns1 d (fun z => if z = y then some v else none)
theorem relO_one {v : V} {v' : Value} (y : Str) (r : RelV v v') (f : Str) : RelO (List.lookup f [(y, v)]) (if f = y then some v' else none) := by
  by_cases hw : f = y
  · subst hw
    rw [if_pos rfl]
    have q : List.lookup f [(f, v)] = some v := by simp [List.lookup]
    rw [q]
    exact r
  · rw [if_neg hw]
    have qw : (f == y) = false := by simpa using hw
    have q2 : List.lookup f [(y, v)] = none := by simp [List.lookup, qw]
    rw [q2]
    trivial
theorem one_size (v : Value) : [v].length ≤ sizeLine := by
  rw [sizeLine_eq]
  exact (by decide : 1 ≤ 16777216)
section
open Builtin Builtin.ObjectAttr
variable {prog : Program} {w : World} {M : Model} {A : Around} {E : Value → Shared → Prop} {R : Result → Shared → Prop} {h hp : Heap} {g : Array GenState} {d : Drawn} {t : Nat} {os : OsState}
variable {nm q : Str} {C N : Addr} {bs bm bmB : List Value} {hdct : Bool} {sn : List Str} {sub : List Value} {ab : Bool} {col : Option Bool} {dd : Option Addr} {k0 k1 k2 k3 k5 : Option Value} {B newId initId : String}
/-- the wrapper of super's __init__ is called -/
theorem call_mw (F : ExcBaseFacts B newId initId bmB) {u e t0 : Addr} {rest : List Value} {Q : Value → Shared → Prop}
    (hC : h.get? C = some (excClassObj nm q C N bs bm hdct sn sub ab col dd k0 k1 k2 k3 k5 newId)) (he : h.get? e = some (excO C t0)) (hu : h.get? u = some (kxs_mw initId e)) (hrest : rest.length ≤ sizeLine)
    (hq : ∀ h' t1, (∀ b o, b ≠ e → h.get? b = some o → h'.get? b = some o) → h'.get? e = some (excO C t1) → Q .none ⟨h', g, d, t, os⟩) :
    wpAny (model prog w) A (call (.ref u) rest) Q E ⟨h, g, d, t, os⟩ := by
  refine wpAny_call (codeAny_of_tree ?_)
  show wpAny _ A.in1 (callAny (.ref u) ⟨rest, []⟩) _ _ _
  simp only [callAny]
  refine wpAny_bind (wpAny_load hu ?_)
  simp only [kxs_mw, show (Value.type "method-wrapper" == Value.type "method" || Value.type "method-wrapper" == Value.type "builtin_function_or_method" || Value.type "method-wrapper" == Value.type "method-wrapper") = true by decide, if_true]
  refine KFB.if_so (by decide) ?_
  refine wpAny_bind (PySem.ESX.check_bound F hC he rfl ?_)
  refine wpAny_bind (wpAny_pure (wpAny_pure ?_))
  refine ⟨plainId_quiet F.init.plain _, codeAny_builtin F.initEntry ?_⟩
  exact exc_init_tree (cls := .ref C) (t0 := t0) (dv := none) (c2 := .none) (c3 := .none) (b4 := .bool false) he hrest fun h' k e' _ => hq h' _ k e'
/-- self.name = v on an exception without a dict -/
theorem osa_gen {K : Frag} {name : Str} {tk : Tok} {v : Value} {x : Addr} {fv : Array Value} {cd : ClassData}
    (X : K.In hp) (hx : hp.get? x = some { cls := .ref C, data := .fields fv }) (hcd : clsIn K C = some cd) (hpass : ∀ self : Value, refuseLoop self "__setattr__" cd.mro = pure ()) (hob : cd.mro.contains (.type "object") = true) (hh : cd.hasDict = true) (ha : findIn K (.ref C) name = some none)
    (hq : ∀ h' tk' dx, (∀ b o, b ≠ x → hp.get? b = some o → h'.get? b = some o) → hp.objs.size ≤ dx → dx ≠ x → h'.get? x = some { cls := .ref C, dict := some dx, data := .fields fv } →
      h'.Ns1 dx (fun y => if y = name then some v else none) → R (.ok (.ret .none)) ⟨h', g, d, tk', os⟩) :
    codeAny (model prog w) A (.call (.builtin "object.__setattr__") ⟨[.ref x, .str name tk, v], []⟩) R ⟨hp, g, d, t, os⟩ := by
  have I : InstAt hp x { cls := .ref C, data := .fields fv } C none := ⟨hx, rfl, rfl, trivial⟩
  have SF := F.store_object
  have ne : cd.mro.isEmpty = false := by
    cases q : cd.mro with
    | nil =>
      rw [q] at hob
      cases hob
    | cons _ _ => rfl
  have hxs : x ≠ hp.objs.size := Nat.ne_of_lt (Heap.lt_size hx)
  have sub : Looks (model prog w) hp (isInstance (.ref x) (.type "object")) true := I.type.andThen (looks_mroIn X (by unfold mroIn; rw [hcd, Option.bind_some, if_neg (by rw [ne]; decide), hob]))
  refine codeAny_call_builtin SF.slot.plain SF.entry (@check_slot (model prog w) _ _ ⟨hp, g, d, t, os⟩ "object.__setattr__" "object" "__setattr__" (.ref x) [.str name tk, v] [] _ SF.kind SF.split sub (SF.args (.ref x) (.str name tk) v) ?_)
  have hmr : Looks (model prog w) hp (mroOf (.ref C)) cd.mro := (looks_clsIn X hcd).andThen .now
  have L3 : Looks (model prog w) hp (storeTaker? none) none := .now
  have hcls : Looks (model prog w) hp (classData C) cd := looks_clsIn X hcd
  rw [osa_eq, refuse_eq]
  refine wpAny_bind (wpAny_bind (I.type.at (wpAny_bind (hmr.at ?_))))
  rw [hpass]
  refine wpAny_pure (wpAny_bind (I.type.at (wpAny_bind ((looks_findIn X ha).at (wpAny_bind (L3.at ?_))))))
  show wpAny _ _ (storeInOwnDict (.ref x) (.ref C) (.str name tk) name v false) _ _ _
  obtain ⟨nm, bs, mro, ns, qn, hd, sn, sb, ab, col, del⟩ := cd
  dsimp only at hh
  subst hh
  unfold storeInOwnDict ownDictForStores
  repeat (first | with_reducible refine store_in_new ?_ ?_ | with_reducible refine wpAny_loadPart_at hx ?_ | with_reducible refine hcls.at ?_ | wp_step)
  · exact ⟨_, #[], _, (Heap.get?_update_ne _ _ _ _ hxs.symm).trans (Heap.get?_push_at rfl rfl), rfl, fun e he => absurd he (by simp), fun _ => rfl⟩
  · intro h' tk' hn' hs
    have hx₁ : (hp.push { cls := .type "dict", data := .dict #[] }).get? x = some { cls := .ref C, data := .fields fv } := Heap.get?_push_of_some _ hx
    refine hq h' tk' hp.objs.size (fun b o hb ho => ?_) (Nat.le_refl _) hxs.symm ?_ hn'
    · exact (hs.2 b (Nat.ne_of_lt (Heap.lt_size ho))).trans ((Heap.get?_update_ne _ _ _ _ hb).trans (Heap.get?_push_of_some _ ho))
    · exact (hs.2 x hxs).trans (Heap.get?_update_self _ hx₁ rfl)
end
/-- C(e), C a class of errors with one field y: a new error, its own dict at d -/
def tMk1 (C : Addr) (y : Str) (ta : TA) : L2.St → Hp → XK → Prop := fun σ H Q => ta σ H fun vs H1 => ∃ n : Int, vs = [.int n] ∧ n.natAbs.log2 < 1920 ∧ ∀ d, H1 d = none → Q (.ref C) (some d) (upd H1 d (.xd [(y, .int n)]))
/-! ### ParseError: its __init__ says super().__init__(str(spot)); self.spot = spot -/
structure TxtParseError (K : Frag) (mg : Str → Option Value) (C fI : Addr) : Prop where
  gC : mg "ParseError" = some (.ref C)
  cls : ∃ nm q N bs bm sn sub ab col dd k0 k1 k2 k3 k5, K.lookup C = some (excClassObj nm q C N bs bm true sn sub ab col dd k0 k1 k2 k3 k5 "ValueError.__new__") ∧ (∀ X : String, bm.contains (.type X) = ([.type "ValueError", .type "Exception", .type "BaseException", .type "object"] : List Value).contains (.type X)) ∧
    (∀ self : Value, refuseLoop self "__setattr__" (.ref C :: bm) = pure ()) ∧ alongIn K "__init__" bm = some (some (.builtin "ValueError.__init__"))
  sa : findIn K (.ref C) "__setattr__" = some (some (.builtin "object.__setattr__"))
  ga : findIn K (.ref C) "__getattribute__" = some (some (.builtin "BaseException.__getattribute__"))
  gg : findIn K (.ref C) "__getattr__" = some none
  noN : findIn K (.ref C) "spot" = some none
  iC : findIn K (.ref C) "__init__" = some (some (.ref fI))
  tC : typeIn K (.ref fI) = some (.type "function")
  kC : keepIn K (.ref C) = true
  exC : subIn K (.ref C) (.type "BaseException") = some true
  isB : subIn K (.ref C) (.type "ValueError") = some true
  tyC : typeIn K (.ref C) = some (.type "type")
  te : exmOne K (.ref C) (.ref C) = some true
  op : nsIn K cStatics "thirdparty.any" = some none
  fn : ∃ (oc : Value) (od : Option Addr) (doc pm : Value) (an : Option Addr) (cda cc : Addr) (ct : Value) (osl : Array (Option Value)),
    K.lookup fI = some ⟨oc, od, .func (fnX "__init__" "ParseError.__init__" (defArgs s_ParseError_init) (defBody s_ParseError_init) (defScope s_ParseError_init) [("__class__", cc)] .none .none doc pm an (.ref cda) ct), osl⟩ ∧ codeIn K (.ref cda) "ParseError.__init__" = true ∧
    (∃ cl cld csl, K.lookup cc = some ⟨cl, cld, .cell (some (.ref C)), csl⟩) ∧ ∃ ccl cdd vs ccs file tf, K.lookup cda = some ⟨ccl, cdd, .fields vs, ccs⟩ ∧ vs[2]? = some (.str file tf) ∧ (((PySem.Challenge.pw_toldstarts_k28_whole_states_folded).main.file : Str) == file) = true
section
variable {w : World} {A : Around} {E : Value → Shared → Prop} {R : Result → Shared → Prop} {s : Shared} {K : Frag} {mg mb : Str → Option Value} {C fI : Addr}
theorem init_ParseError (T : TxtParseError K mg C fI) {x t0 : Addr} {v : Value} {n : Int} {tv : Tok} (hvi : v = .int n tv) (hn1 : n.natAbs.log2 < 1920) (X : K.In s.heap) (hg : s.heap.Ns mainGlobals mg) (hb : s.heap.Ns builtinsNs mb) (hbb : ∀ x : Str, x ≠ "__name__" → mb x = bootBuiltins x) (hsup : mg "super" = none) (hstr : mg "str" = none)
    (hlim : s.heap.NoLimit) (hx : s.heap.get? x = some (excO C t0)) (hnx : K.lookup x = none) (hroom : A.depth < recursionLimit)
    (hq : ∀ h' tk dx, ErrEnd "spot" s.heap h' x C dx v → R (.ok (.ret .none)) { s with heap := h', toks := tk }) :
    codeAny (model PRG w) A (.call (.ref fI) ⟨[.ref x, v], []⟩) R s := by
  obtain ⟨oc, od, doc, pm, an, cda, cc, ct, osl, ho, hcd, ⟨cl, cld, csl, hcell⟩, ccl, cdd, vs, ccs, file, tf, hcode, hvs, hfile⟩ := T.fn
  obtain ⟨nm, q, N, bs, bm, sn, sub, ab, col, dd, k0, k1, k2, k3, k5, hC, hT, hpass, halong⟩ := T.cls
  have hcl : clsIn K C = some { name := nm, bases := bs, mro := .ref C :: bm, ns := N, qualname := q, hasDict := true, slotNames := sn, subclasses := sub, abstract := ab, collection := col, hasDel := false } := by unfold clsIn; rw [hC] <;> rfl
  have hcells : ∀ y ∈ (defScope s_ParseError_init).names, y.2 ≠ .cell := by decide +kernel
  have hl1 : (defScope s_ParseError_init).names.lookup ("self" : Str) = some NameKind.local := by decide +kernel
  have hl2 : (defScope s_ParseError_init).names.lookup ("spot" : Str) = some NameKind.local := by decide +kernel
  refine ks_codeAny_call_defAt (binds := [("self", .ref x), ("spot", v)]) hroom (X _ _ ho) rfl hlim (codeRec_of X hcd) rfl (BindsTo.of_eq (by first | rfl | with_unfolding_all rfl)) hcells
    (fun y hy => by
      rcases List.mem_cons.mp hy with e | hy
      · rw [e]
        exact hl1
      · rw [List.mem_singleton.mp hy]
        exact hl2) (fun h₁ hns k => ?_) rfl rfl rfl
  have X₁ : K.In h₁ := X.keeps k
  have hg₁ : h₁.Ns mainGlobals mg := hg.keeps k
  have hb₁ : h₁.Ns builtinsNs mb := hb.keeps k
  have hx₁ := k _ _ hx
  have hmro : mroIn K C (.ref C) = some true := by
    unfold mroIn
    rw [hcl, Option.bind_some]
    simp
  have hks : (defScope s_ParseError_init).names.lookup ("super" : Str) = some NameKind.globalImplicit := by decide +kernel
  have hkt : (defScope s_ParseError_init).names.lookup ("str" : Str) = some NameKind.globalImplicit := by decide +kernel
  have hkc : (defScope s_ParseError_init).names.lookup ("__class__" : Str) = some NameKind.free := by decide +kernel
  have hxC : x ≠ C := fun z => by
    rw [z, hC] at hnx
    cases hnx
  refine ks_wpAt_execs_cons (ks_wpAt_Expr_any (ks_wpAt_MethodCall ?_))
  refine ks_wpAt_super_base (f := fI) hks hkc rfl rfl (X₁ _ _ ho) rfl rfl rfl (X₁ _ _ hcode) rfl hvs hfile (by decide +kernel) ?_
  refine ks_loadName_global rfl hks (loadGlobal_builtin hg₁ hsup hb₁ ((hbb _ (by decide +kernel)).trans (show bootBuiltins "super" = some (.type "super") by decide +kernel)) ⟨rfl, ?_⟩)
  refine wpAny_loadName_free rfl hkc rfl ⟨_, X₁ _ _ hcell, rfl⟩ ?_
  refine wpAny_loadName_local rfl hl1 hns (v := .ref x) rfl ?_
  refine ks_wpAny_isType_cls (X₁ _ _ hC) rfl ⟨rfl, ?_⟩
  refine ks_wpAny_call_super (X₁ _ _ hC) rfl hx₁ rfl (fun c e => by cases e) (looks_mroIn X₁ hmro) (fun h₂ hso k₂ => ?_)
  have X₂ : K.In h₂ := X₁.keeps k₂
  have hx₂ := k₂ _ _ hx₁
  have I₂ : InstAt h₂ x (excO C t0) C none := ⟨hx₂, rfl, rfl, trivial⟩
  refine kxs_getMethod kxs_ValueError hso (looks_opaque X₂ T.op) (l₀ := .ref C :: bm) ((looks_clsIn X₂ hcl).andThen .now) (PySem.ESX.drop_own C bm) X₂ halong (I₂.type.andThen (looks_subIn X₂ T.isB)) hxC rfl ?_
  have k₃ : ∀ b o, h₂.get? b = some o → (h₂.push (kxs_mw "ValueError.__init__" x)).get? b = some o := fun b o e => Heap.get?_push_of_some _ e
  have hu : (h₂.push (kxs_mw "ValueError.__init__" x)).get? h₂.objs.size = some (kxs_mw "ValueError.__init__" x) := Heap.get?_push_at rfl rfl
  have hns₃ := (hns.keeps k₂).keeps k₃
  have X₃ := X₂.keeps k₃
  have hx₃ := k₃ _ _ hx₂
  refine kxs_callWith (i := "ValueError.__init__") (x := x) rfl (evalArgs_plain (Calls.spliced_cons ?_))
  refine wpAny_Call_Name_kw (wpAny_Name (ks_loadName_global rfl hkt (loadGlobal_builtin ((hg₁.keeps k₂).keeps k₃) hstr ((hb₁.keeps k₂).keeps k₃) ((hbb _ (by decide +kernel)).trans boot_str) ?_)) (by decide))
  refine PyProof.Rows.callWith_type1 (Calls.spliced_cons (wpAny_Name (wpAny_loadName_local rfl hl2 hns₃ (v := v) rfl (Calls.spliced_nil ?_)) (by decide))) rfl rfl
  subst hvi
  refine PySem.P.str_of_int hn1 (Calls.spliced_nil ⟨hu, ?_⟩)
  refine call_mw F.excBase_ValueError (X₃ _ _ hC) hx₃ hu (one_size _) (fun h₄ t1 k₄ hx₄ => ?_)
  have hLx : s.heap.objs.size ≠ x := Nat.ne_of_gt (Heap.lt_size hx)
  have X₄ : K.In h₄ := fun b o e => k₄ b o (fun z => by rw [z, hnx] at e; cases e) (X₃ b o e)
  have hns₄ : h₄.Ns s.heap.objs.size (fun y => [(("self" : Str), Value.ref x), ("spot", .int n tv)].reverse.lookup y) := by
    obtain ⟨o, es, ep, e, r⟩ := hns₃
    exact ⟨o, es, ep, k₄ _ o hLx e, r⟩
  show PySem.wpAt _ _ _ (execs _ _) _ _ _
  refine ks_wpAt_execs_cons (ks_wpAt_Assign_Attr ?_)
  refine wpAt_of_wpAny (wpAny_Name (wpAny_loadName_local rfl hl2 hns₄ (v := .int n tv) rfl ?_) (by decide))
  refine wpAny_Name (wpAny_loadName_local rfl hl1 hns₄ (v := .ref x) rfl ?_) (by decide)
  refine set_plain X₄ (ox := excO C t1) (od := none) ⟨hx₄, rfl, rfl, trivial⟩ T.sa ?_
  refine osa_gen X₄ hx₄ hcl hpass ?_ rfl T.noN (fun h₅ tk₅ dx k₅ dn dne hx₅ hn₅ => ?_)
  · show (Value.ref C :: bm).contains _ = true
    rw [List.contains_cons, hT, show (([.type "ValueError", .type "Exception", .type "BaseException", .type "object"] : List Value) : List Value).contains (.type "object") = true from by decide, Bool.or_true]
  · show PySem.wpAt _ _ _ (execs [] _) _ _ _
    refine wpAt_of_wpAny (wpAny_execs_nil (hq h₅ tk₅ dx ⟨fun b o hb e => k₅ b o hb (k₄ b o hb (k₃ _ _ (k₂ _ _ (k _ _ e)))), ⟨_, hx₅⟩, ?_, dne, hn₅⟩))
    exact Nat.le_of_lt (Nat.lt_of_lt_of_le hns₄.lt dn)
theorem made_ParseError (T : TxtParseError K mg C fI) {v : Value} {n : Int} {tv : Tok} (hvi : v = .int n tv) (hn1 : n.natAbs.log2 < 1920) (X : K.In s.heap) (hg : s.heap.Ns mainGlobals mg) (hb : s.heap.Ns builtinsNs mb) (hbb : ∀ x : Str, x ≠ "__name__" → mb x = bootBuiltins x) (hsup : mg "super" = none) (hstr : mg "str" = none)
    (hlim : s.heap.NoLimit) (hroom : A.depth + 1 < recursionLimit)
    (hq : ∀ h' tk e d, OwnMade "spot" s.heap h' e C d v → R (.ok (.ret (.ref e))) { s with heap := h', toks := tk }) :
    codeAny (model PRG w) A (.call (.ref C) ⟨[v], []⟩) R s := by
  obtain ⟨nm, q, N, bs, bm, sn, sub, ab, col, dd, k0, k1, k2, k3, k5, hC, hT, hpass, halong⟩ := T.cls
  obtain ⟨hp, g, dr, tk, os⟩ := s
  have k : ∀ b o, hp.get? b = some o → ((hp.push (kdv_tup [v])).push (excO C hp.objs.size)).get? b = some o := fun b o e => Heap.get?_push_of_some _ (Heap.get?_push_of_some _ e)
  have hget : ((hp.push (kdv_tup [v])).push (excO C hp.objs.size)).get? (hp.objs.size + 1) = some (excO C hp.objs.size) := by heap_get
  have hnx : K.lookup (hp.objs.size + 1) = none := by
    cases e : K.lookup (hp.objs.size + 1) with
    | none => rfl
    | some o =>
      have z : hp.get? (hp.objs.size + 1) = some o := X _ _ e
      exact absurd (Nat.lt_of_succ_lt (Heap.lt_size z)) (Nat.lt_irrefl _)
  refine call_own F.excBase_ValueError hT (X _ _ hC) (looks_findIn X T.iC) (fun self => bind_fn X self T.tC) (one_size v) ?_
  refine init_ParseError (s := ⟨(hp.push (kdv_tup [v])).push (excO C hp.objs.size), g, dr, tk, os⟩) T hvi hn1 (X.keeps k) (hg.keeps k) (hb.keeps k) hbb hsup hstr (hlim.keeps k) hget hnx ?_ fun h' tk' dx ⟨k', ⟨t1, hx⟩, dn, dne, hns⟩ => ?_
  · show A.depth + 1 < recursionLimit
    exact hroom
  · have old : ∀ b o, hp.get? b = some o → h'.get? b = some o := fun b o e => k' b o (Nat.ne_of_lt (Nat.lt_succ_of_lt (Heap.lt_size e))) (k b o e)
    have z : hp.objs.size + 1 + 1 ≤ dx := by
      first
        | (simpa only [Heap.size_push] using dn)
        | exact dn
        | (have q := dn; rw [Heap.size_push, Heap.size_push] at q; exact q)
    exact ⟨rfl, hq h' tk' (hp.objs.size + 1) dx ⟨old, Nat.le_succ _, ⟨_, _, hx, rfl, rfl, rfl, rfl⟩, Nat.le_trans (Nat.le_trans (Nat.le_succ _) (Nat.le_succ _)) z, dne, hns⟩⟩
end
theorem pmk_ParseError {X : Cx} {C fI : Addr} {a : Expr} {ta : TA} {p pos : Pos} {k : Nat} (hP : X.prog = PRG) (T : TxtParseError X.K X.mg C fI) (hsup : X.mg "super" = none) (hstr : X.mg "str" = none) (hr : Room k X.A) (ha : PA X [a] ta) (hg : Gl X "ParseError" := by rfl)
    (he : starEach (a :: []) X.env = (false, eval a X.env) :: starEach [] X.env := by rfl) (hpl : (backTo pos (starEach [] X.env)).any (·.1) = false := by rfl) :
    PMk X (.Call (.Name "ParseError" p) [a] [] pos) (tMk1 C "spot" ta) := by
  intro pins s σ H Q I h
  refine wpAny_Call_Name_kw (ld_glob I hg T.gC ?_)
  refine PySem.W.callWith_K (h₀ := X.base) I.ok.mod.kin T.kC (thn (ha.run pos pins s σ H _ I h) fun us s1 hh => ?_) he hpl
  obtain ⟨vs, H1, I1, r1, n, ev, hn1, q1⟩ := hh
  subst ev
  refine ⟨I1.kIn, ?_⟩
  cases r1 with
  | cons rv rn =>
    rename_i v' us'
    cases rn
    obtain ⟨tv, rfl⟩ := rv
    show wpAny _ _ (call (.ref C) [.int n tv]) _ _ _
    have hlim := I1.nolimit
    obtain ⟨mb, hbn, hbb⟩ := I1.mod.blt
    have hgn := I1.mod.glob.keeps I1.bk
    have hbn' := hbn.keeps I1.bk
    obtain ⟨hp, g, dr, tk, os⟩ := s1
    rw [hP]
    refine wpAny_call (made_ParseError T rfl hn1 I1.kIn hgn hbn' hbb hsup hstr hlim (by have := hr.dp; omega) fun h' tk' e d M => ?_)
    show MkP X pins σ Q (.ref e) ⟨h', g, dr, tk', os⟩
    obtain ⟨oe, fv, hoe, hc, hd, hdat, h1⟩ := M.obj
    have hns := M.ns
    obtain ⟨G', g1, g2⟩ := restrict h' fun b => decide (b ≠ e)
    have gk : ∀ b, b ≠ e → G'.get? b = h'.get? b := fun b hb => g1 b (decide_eq_true hb)
    have ge : G'.get? e = none := g2 e (by simp)
    have old : ∀ b o, hp.get? b = some o → G'.get? b = some o := fun b o q => (gk b (Nat.ne_of_lt (Nat.lt_of_lt_of_le (Heap.lt_size q) M.new))).trans (M.keep b o q)
    have rv : RelV (.int n) (.int n tv) := ⟨tv, rfl⟩
    have ob : ObjOk X.prog X.w (upd H1 d (.xd [(("spot" : Str), .int n)])) G' d (.xd [(("spot" : Str), .int n)]) :=
      ⟨_, hns.at (fun o q => (gk d M.dne).trans q), fun f => relO_one "spot" rv f⟩
    have J : Inv X pins σ (upd H1 d (.xd [(("spot" : Str), .int n)])) ⟨G', g, dr, tk', os⟩ := I1.laid (t' := tk') old M.dbig ob
    refine ⟨e, oe, fv, ⟨G', g, dr, tk', os⟩, _, .ref C, some d, rfl, J, fun b o q => ?_, ge, hoe, ⟨hc, hd⟩, hdat, h1, ?_, rfl, I1.bare, raises_own T.exC T.tyC, q1 d (I1.hok.fresh M.dbig)⟩
    · by_cases hb : b = e
      · have q' : G'.get? b = some o := q
        rw [hb, ge] at q'; cases q'
      · exact (gk b hb).symm.trans q
    · rw [upd_ne (Ne.symm M.dne)]
      exact I1.hok.fresh M.new

/-! ### TooMany: its __init__ says super().__init__(str(most)); self.most = most -/
structure TxtTooMany (K : Frag) (mg : Str → Option Value) (C fI : Addr) : Prop where
  gC : mg "TooMany" = some (.ref C)
  cls : ∃ nm q N bs bm sn sub ab col dd k0 k1 k2 k3 k5, K.lookup C = some (excClassObj nm q C N bs bm true sn sub ab col dd k0 k1 k2 k3 k5 "OverflowError.__new__") ∧ (∀ X : String, bm.contains (.type X) = ([.type "OverflowError", .type "ArithmeticError", .type "Exception", .type "BaseException", .type "object"] : List Value).contains (.type X)) ∧
    (∀ self : Value, refuseLoop self "__setattr__" (.ref C :: bm) = pure ()) ∧ alongIn K "__init__" bm = some (some (.builtin "OverflowError.__init__"))
  sa : findIn K (.ref C) "__setattr__" = some (some (.builtin "object.__setattr__"))
  ga : findIn K (.ref C) "__getattribute__" = some (some (.builtin "BaseException.__getattribute__"))
  gg : findIn K (.ref C) "__getattr__" = some none
  noN : findIn K (.ref C) "most" = some none
  iC : findIn K (.ref C) "__init__" = some (some (.ref fI))
  tC : typeIn K (.ref fI) = some (.type "function")
  kC : keepIn K (.ref C) = true
  exC : subIn K (.ref C) (.type "BaseException") = some true
  isB : subIn K (.ref C) (.type "OverflowError") = some true
  tyC : typeIn K (.ref C) = some (.type "type")
  te : exmOne K (.ref C) (.ref C) = some true
  op : nsIn K cStatics "thirdparty.any" = some none
  fn : ∃ (oc : Value) (od : Option Addr) (doc pm : Value) (an : Option Addr) (cda cc : Addr) (ct : Value) (osl : Array (Option Value)),
    K.lookup fI = some ⟨oc, od, .func (fnX "__init__" "TooMany.__init__" (defArgs s_TooMany_init) (defBody s_TooMany_init) (defScope s_TooMany_init) [("__class__", cc)] .none .none doc pm an (.ref cda) ct), osl⟩ ∧ codeIn K (.ref cda) "TooMany.__init__" = true ∧
    (∃ cl cld csl, K.lookup cc = some ⟨cl, cld, .cell (some (.ref C)), csl⟩) ∧ ∃ ccl cdd vs ccs file tf, K.lookup cda = some ⟨ccl, cdd, .fields vs, ccs⟩ ∧ vs[2]? = some (.str file tf) ∧ (((PySem.Challenge.pw_toldstarts_k28_whole_states_folded).main.file : Str) == file) = true
section
variable {w : World} {A : Around} {E : Value → Shared → Prop} {R : Result → Shared → Prop} {s : Shared} {K : Frag} {mg mb : Str → Option Value} {C fI : Addr}
theorem init_TooMany (T : TxtTooMany K mg C fI) {x t0 : Addr} {v : Value} {n : Int} {tv : Tok} (hvi : v = .int n tv) (hn1 : n.natAbs.log2 < 1920) (X : K.In s.heap) (hg : s.heap.Ns mainGlobals mg) (hb : s.heap.Ns builtinsNs mb) (hbb : ∀ x : Str, x ≠ "__name__" → mb x = bootBuiltins x) (hsup : mg "super" = none) (hstr : mg "str" = none)
    (hlim : s.heap.NoLimit) (hx : s.heap.get? x = some (excO C t0)) (hnx : K.lookup x = none) (hroom : A.depth < recursionLimit)
    (hq : ∀ h' tk dx, ErrEnd "most" s.heap h' x C dx v → R (.ok (.ret .none)) { s with heap := h', toks := tk }) :
    codeAny (model PRG w) A (.call (.ref fI) ⟨[.ref x, v], []⟩) R s := by
  obtain ⟨oc, od, doc, pm, an, cda, cc, ct, osl, ho, hcd, ⟨cl, cld, csl, hcell⟩, ccl, cdd, vs, ccs, file, tf, hcode, hvs, hfile⟩ := T.fn
  obtain ⟨nm, q, N, bs, bm, sn, sub, ab, col, dd, k0, k1, k2, k3, k5, hC, hT, hpass, halong⟩ := T.cls
  have hcl : clsIn K C = some { name := nm, bases := bs, mro := .ref C :: bm, ns := N, qualname := q, hasDict := true, slotNames := sn, subclasses := sub, abstract := ab, collection := col, hasDel := false } := by unfold clsIn; rw [hC] <;> rfl
  have hcells : ∀ y ∈ (defScope s_TooMany_init).names, y.2 ≠ .cell := by decide +kernel
  have hl1 : (defScope s_TooMany_init).names.lookup ("self" : Str) = some NameKind.local := by decide +kernel
  have hl2 : (defScope s_TooMany_init).names.lookup ("most" : Str) = some NameKind.local := by decide +kernel
  refine ks_codeAny_call_defAt (binds := [("self", .ref x), ("most", v)]) hroom (X _ _ ho) rfl hlim (codeRec_of X hcd) rfl (BindsTo.of_eq (by first | rfl | with_unfolding_all rfl)) hcells
    (fun y hy => by
      rcases List.mem_cons.mp hy with e | hy
      · rw [e]
        exact hl1
      · rw [List.mem_singleton.mp hy]
        exact hl2) (fun h₁ hns k => ?_) rfl rfl rfl
  have X₁ : K.In h₁ := X.keeps k
  have hg₁ : h₁.Ns mainGlobals mg := hg.keeps k
  have hb₁ : h₁.Ns builtinsNs mb := hb.keeps k
  have hx₁ := k _ _ hx
  have hmro : mroIn K C (.ref C) = some true := by
    unfold mroIn
    rw [hcl, Option.bind_some]
    simp
  have hks : (defScope s_TooMany_init).names.lookup ("super" : Str) = some NameKind.globalImplicit := by decide +kernel
  have hkt : (defScope s_TooMany_init).names.lookup ("str" : Str) = some NameKind.globalImplicit := by decide +kernel
  have hkc : (defScope s_TooMany_init).names.lookup ("__class__" : Str) = some NameKind.free := by decide +kernel
  have hxC : x ≠ C := fun z => by
    rw [z, hC] at hnx
    cases hnx
  refine ks_wpAt_execs_cons (ks_wpAt_Expr_any (ks_wpAt_MethodCall ?_))
  refine ks_wpAt_super_base (f := fI) hks hkc rfl rfl (X₁ _ _ ho) rfl rfl rfl (X₁ _ _ hcode) rfl hvs hfile (by decide +kernel) ?_
  refine ks_loadName_global rfl hks (loadGlobal_builtin hg₁ hsup hb₁ ((hbb _ (by decide +kernel)).trans (show bootBuiltins "super" = some (.type "super") by decide +kernel)) ⟨rfl, ?_⟩)
  refine wpAny_loadName_free rfl hkc rfl ⟨_, X₁ _ _ hcell, rfl⟩ ?_
  refine wpAny_loadName_local rfl hl1 hns (v := .ref x) rfl ?_
  refine ks_wpAny_isType_cls (X₁ _ _ hC) rfl ⟨rfl, ?_⟩
  refine ks_wpAny_call_super (X₁ _ _ hC) rfl hx₁ rfl (fun c e => by cases e) (looks_mroIn X₁ hmro) (fun h₂ hso k₂ => ?_)
  have X₂ : K.In h₂ := X₁.keeps k₂
  have hx₂ := k₂ _ _ hx₁
  have I₂ : InstAt h₂ x (excO C t0) C none := ⟨hx₂, rfl, rfl, trivial⟩
  refine kxs_getMethod kxs_OverflowError hso (looks_opaque X₂ T.op) (l₀ := .ref C :: bm) ((looks_clsIn X₂ hcl).andThen .now) (PySem.ESX.drop_own C bm) X₂ halong (I₂.type.andThen (looks_subIn X₂ T.isB)) hxC rfl ?_
  have k₃ : ∀ b o, h₂.get? b = some o → (h₂.push (kxs_mw "OverflowError.__init__" x)).get? b = some o := fun b o e => Heap.get?_push_of_some _ e
  have hu : (h₂.push (kxs_mw "OverflowError.__init__" x)).get? h₂.objs.size = some (kxs_mw "OverflowError.__init__" x) := Heap.get?_push_at rfl rfl
  have hns₃ := (hns.keeps k₂).keeps k₃
  have X₃ := X₂.keeps k₃
  have hx₃ := k₃ _ _ hx₂
  refine kxs_callWith (i := "OverflowError.__init__") (x := x) rfl (evalArgs_plain (Calls.spliced_cons ?_))
  refine wpAny_Call_Name_kw (wpAny_Name (ks_loadName_global rfl hkt (loadGlobal_builtin ((hg₁.keeps k₂).keeps k₃) hstr ((hb₁.keeps k₂).keeps k₃) ((hbb _ (by decide +kernel)).trans boot_str) ?_)) (by decide))
  refine PyProof.Rows.callWith_type1 (Calls.spliced_cons (wpAny_Name (wpAny_loadName_local rfl hl2 hns₃ (v := v) rfl (Calls.spliced_nil ?_)) (by decide))) rfl rfl
  subst hvi
  refine PySem.P.str_of_int hn1 (Calls.spliced_nil ⟨hu, ?_⟩)
  refine call_mw F.excBase_OverflowError (X₃ _ _ hC) hx₃ hu (one_size _) (fun h₄ t1 k₄ hx₄ => ?_)
  have hLx : s.heap.objs.size ≠ x := Nat.ne_of_gt (Heap.lt_size hx)
  have X₄ : K.In h₄ := fun b o e => k₄ b o (fun z => by rw [z, hnx] at e; cases e) (X₃ b o e)
  have hns₄ : h₄.Ns s.heap.objs.size (fun y => [(("self" : Str), Value.ref x), ("most", .int n tv)].reverse.lookup y) := by
    obtain ⟨o, es, ep, e, r⟩ := hns₃
    exact ⟨o, es, ep, k₄ _ o hLx e, r⟩
  show PySem.wpAt _ _ _ (execs _ _) _ _ _
  refine ks_wpAt_execs_cons (ks_wpAt_Assign_Attr ?_)
  refine wpAt_of_wpAny (wpAny_Name (wpAny_loadName_local rfl hl2 hns₄ (v := .int n tv) rfl ?_) (by decide))
  refine wpAny_Name (wpAny_loadName_local rfl hl1 hns₄ (v := .ref x) rfl ?_) (by decide)
  refine set_plain X₄ (ox := excO C t1) (od := none) ⟨hx₄, rfl, rfl, trivial⟩ T.sa ?_
  refine osa_gen X₄ hx₄ hcl hpass ?_ rfl T.noN (fun h₅ tk₅ dx k₅ dn dne hx₅ hn₅ => ?_)
  · show (Value.ref C :: bm).contains _ = true
    rw [List.contains_cons, hT, show (([.type "OverflowError", .type "ArithmeticError", .type "Exception", .type "BaseException", .type "object"] : List Value) : List Value).contains (.type "object") = true from by decide, Bool.or_true]
  · show PySem.wpAt _ _ _ (execs [] _) _ _ _
    refine wpAt_of_wpAny (wpAny_execs_nil (hq h₅ tk₅ dx ⟨fun b o hb e => k₅ b o hb (k₄ b o hb (k₃ _ _ (k₂ _ _ (k _ _ e)))), ⟨_, hx₅⟩, ?_, dne, hn₅⟩))
    exact Nat.le_of_lt (Nat.lt_of_lt_of_le hns₄.lt dn)
theorem made_TooMany (T : TxtTooMany K mg C fI) {v : Value} {n : Int} {tv : Tok} (hvi : v = .int n tv) (hn1 : n.natAbs.log2 < 1920) (X : K.In s.heap) (hg : s.heap.Ns mainGlobals mg) (hb : s.heap.Ns builtinsNs mb) (hbb : ∀ x : Str, x ≠ "__name__" → mb x = bootBuiltins x) (hsup : mg "super" = none) (hstr : mg "str" = none)
    (hlim : s.heap.NoLimit) (hroom : A.depth + 1 < recursionLimit)
    (hq : ∀ h' tk e d, OwnMade "most" s.heap h' e C d v → R (.ok (.ret (.ref e))) { s with heap := h', toks := tk }) :
    codeAny (model PRG w) A (.call (.ref C) ⟨[v], []⟩) R s := by
  obtain ⟨nm, q, N, bs, bm, sn, sub, ab, col, dd, k0, k1, k2, k3, k5, hC, hT, hpass, halong⟩ := T.cls
  obtain ⟨hp, g, dr, tk, os⟩ := s
  have k : ∀ b o, hp.get? b = some o → ((hp.push (kdv_tup [v])).push (excO C hp.objs.size)).get? b = some o := fun b o e => Heap.get?_push_of_some _ (Heap.get?_push_of_some _ e)
  have hget : ((hp.push (kdv_tup [v])).push (excO C hp.objs.size)).get? (hp.objs.size + 1) = some (excO C hp.objs.size) := by heap_get
  have hnx : K.lookup (hp.objs.size + 1) = none := by
    cases e : K.lookup (hp.objs.size + 1) with
    | none => rfl
    | some o =>
      have z : hp.get? (hp.objs.size + 1) = some o := X _ _ e
      exact absurd (Nat.lt_of_succ_lt (Heap.lt_size z)) (Nat.lt_irrefl _)
  refine call_own F.excBase_OverflowError hT (X _ _ hC) (looks_findIn X T.iC) (fun self => bind_fn X self T.tC) (one_size v) ?_
  refine init_TooMany (s := ⟨(hp.push (kdv_tup [v])).push (excO C hp.objs.size), g, dr, tk, os⟩) T hvi hn1 (X.keeps k) (hg.keeps k) (hb.keeps k) hbb hsup hstr (hlim.keeps k) hget hnx ?_ fun h' tk' dx ⟨k', ⟨t1, hx⟩, dn, dne, hns⟩ => ?_
  · show A.depth + 1 < recursionLimit
    exact hroom
  · have old : ∀ b o, hp.get? b = some o → h'.get? b = some o := fun b o e => k' b o (Nat.ne_of_lt (Nat.lt_succ_of_lt (Heap.lt_size e))) (k b o e)
    have z : hp.objs.size + 1 + 1 ≤ dx := by
      first
        | (simpa only [Heap.size_push] using dn)
        | exact dn
        | (have q := dn; rw [Heap.size_push, Heap.size_push] at q; exact q)
    exact ⟨rfl, hq h' tk' (hp.objs.size + 1) dx ⟨old, Nat.le_succ _, ⟨_, _, hx, rfl, rfl, rfl, rfl⟩, Nat.le_trans (Nat.le_trans (Nat.le_succ _) (Nat.le_succ _)) z, dne, hns⟩⟩
end
theorem pmk_TooMany {X : Cx} {C fI : Addr} {a : Expr} {ta : TA} {p pos : Pos} {k : Nat} (hP : X.prog = PRG) (T : TxtTooMany X.K X.mg C fI) (hsup : X.mg "super" = none) (hstr : X.mg "str" = none) (hr : Room k X.A) (ha : PA X [a] ta) (hg : Gl X "TooMany" := by rfl)
    (he : starEach (a :: []) X.env = (false, eval a X.env) :: starEach [] X.env := by rfl) (hpl : (backTo pos (starEach [] X.env)).any (·.1) = false := by rfl) :
    PMk X (.Call (.Name "TooMany" p) [a] [] pos) (tMk1 C "most" ta) := by
  intro pins s σ H Q I h
  refine wpAny_Call_Name_kw (ld_glob I hg T.gC ?_)
  refine PySem.W.callWith_K (h₀ := X.base) I.ok.mod.kin T.kC (thn (ha.run pos pins s σ H _ I h) fun us s1 hh => ?_) he hpl
  obtain ⟨vs, H1, I1, r1, n, ev, hn1, q1⟩ := hh
  subst ev
  refine ⟨I1.kIn, ?_⟩
  cases r1 with
  | cons rv rn =>
    rename_i v' us'
    cases rn
    obtain ⟨tv, rfl⟩ := rv
    show wpAny _ _ (call (.ref C) [.int n tv]) _ _ _
    have hlim := I1.nolimit
    obtain ⟨mb, hbn, hbb⟩ := I1.mod.blt
    have hgn := I1.mod.glob.keeps I1.bk
    have hbn' := hbn.keeps I1.bk
    obtain ⟨hp, g, dr, tk, os⟩ := s1
    rw [hP]
    refine wpAny_call (made_TooMany T rfl hn1 I1.kIn hgn hbn' hbb hsup hstr hlim (by have := hr.dp; omega) fun h' tk' e d M => ?_)
    show MkP X pins σ Q (.ref e) ⟨h', g, dr, tk', os⟩
    obtain ⟨oe, fv, hoe, hc, hd, hdat, h1⟩ := M.obj
    have hns := M.ns
    obtain ⟨G', g1, g2⟩ := restrict h' fun b => decide (b ≠ e)
    have gk : ∀ b, b ≠ e → G'.get? b = h'.get? b := fun b hb => g1 b (decide_eq_true hb)
    have ge : G'.get? e = none := g2 e (by simp)
    have old : ∀ b o, hp.get? b = some o → G'.get? b = some o := fun b o q => (gk b (Nat.ne_of_lt (Nat.lt_of_lt_of_le (Heap.lt_size q) M.new))).trans (M.keep b o q)
    have rv : RelV (.int n) (.int n tv) := ⟨tv, rfl⟩
    have ob : ObjOk X.prog X.w (upd H1 d (.xd [(("most" : Str), .int n)])) G' d (.xd [(("most" : Str), .int n)]) :=
      ⟨_, hns.at (fun o q => (gk d M.dne).trans q), fun f => relO_one "most" rv f⟩
    have J : Inv X pins σ (upd H1 d (.xd [(("most" : Str), .int n)])) ⟨G', g, dr, tk', os⟩ := I1.laid (t' := tk') old M.dbig ob
    refine ⟨e, oe, fv, ⟨G', g, dr, tk', os⟩, _, .ref C, some d, rfl, J, fun b o q => ?_, ge, hoe, ⟨hc, hd⟩, hdat, h1, ?_, rfl, I1.bare, raises_own T.exC T.tyC, q1 d (I1.hok.fresh M.dbig)⟩
    · by_cases hb : b = e
      · have q' : G'.get? b = some o := q
        rw [hb, ge] at q'; cases q'
      · exact (gk b hb).symm.trans q
    · rw [upd_ne (Ne.symm M.dne)]
      exact I1.hok.fresh M.new

end Er
end K28

set_option Elab.async false
set_option linter.all false
set_option maxRecDepth 100000
set_option maxHeartbeats 4000000
namespace K28
namespace Er
open PySem PySem.Spec PyProof.Rows L2
/-! ## except (C1, C2): one clause over two classes -/
/-- what the clause wishes of an exception of the body: it is one of the two -/
def wTwo (K : PySem.W.Frag) (c1 c2 : Value) (ts : Addr → Value → Option Addr → TS) (D : Ends) : WX := fun cls d σ H => PySem.W.exmAny K cls [c1, c2] = some true ∧ ∀ a, H a = none → ts a cls d D σ H
theorem fly_keeps {base h h' : Heap} {l : List Env} {e : Addr} {Z : Obj → Prop} (x : PySem.HandSPX.FlyingZ base l e Z h) (k : ∀ b o, h.get? b = some o → h'.get? b = some o) : PySem.HandSPX.FlyingZ base l e Z h' := by
  obtain ⟨f1, f2, f3, oe, vs, T, oT, ts, he, hz, hd, h1, hnT, hTe, hT, hdT, h3⟩ := x
  exact ⟨fun b o q => k b o (f1 b o q), f2, f3.of_keeps fun b o hb _ => ⟨o, k b o hb, rfl⟩, oe, vs, T, oT, ts, k _ _ he, hz, hd, h1, hnT, hTe, k _ _ hT, hdT, h3⟩
section
variable {X : Cx} {body : List Stmt} {pos : Pos} {tb : WX → TS}
theorem ps_try_two {x1 x2 : Str} {c1 c2 : Value} {p1 p2 tp pos' : Pos} {kk : Nat} {ts : Addr → Value → Option Addr → TS} {b₀ : Stmt} {suite : List Stmt} (hs : X.stack = X.env :: X.outer) (hf : X.env.frame = some X.env.locals)
    (hg1 : Gl X x1) (hm1 : X.mg x1 = some c1) (hg2 : Gl X x2) (hm2 : X.mg x2 = some c2)
    (hb : ∀ (W : WX) (pn : List (Addr × Obj)) (xe : Value → Shared → Prop), Takes (X.tr pn xe) W → PassesOwn (model X.prog X.w) X.A X.env xe → PSs (X.tr pn xe) body (tb W))
    (hsu : ∀ (a : Addr) (oe : Obj) (cls : Value) (d : Option Addr) (pn : List (Addr × Obj)), Zc cls d oe → (∃ vs, oe.data = .fields vs) → PSs (X.suite a ((a, oe) :: pn)) (b₀ :: suite) (ts a cls d))
    (hd1 : (x1 == ("__debug__" : Str)) = false := by decide) (hd2 : (x2 == ("__debug__" : Str)) = false := by decide) :
    PS X (.Try body [.ExceptHandler (some (.Tuple [.Name x1 p1, .Name x2 p2] kk tp)) none (b₀ :: suite) pos'] [] [] pos) (fun D σ H => tb (wTwo X.K c1 c2 ts D) D σ H) := by
  refine ⟨fun pins s σ H D I h => ?_⟩
  have ok := I.ok
  have hfr : X.A.frames = some (X.env :: X.outer) := by rw [ok.frames, hs]
  refine wpAny_Try_except ?_
  refine wpAny_mono ((hb (wTwo X.K c1 c2 ts D) (X.pn ++ pins) (fun e s₁ => wpAny (model X.prog X.w) X.A (noteFrame e X.env) (fun _ s₂ => wpAny (model X.prog X.w) X.A (setFlight e none) (fun _ s₃ =>
    wpAny (model X.prog X.w) X.A (handleBy e X.env _) (SP X pins D) X.xe s₃) X.xe s₂) X.xe s₁) (fun u s' xx => ?_) PassesOwn.looking).run [] s σ H D (I.toTry _) h) (fun f s1 hsp => ?_) (fun e s1 he => he)
  · obtain ⟨a, B, sI, pins', σ', H', cls, d, rfl, J', nb, up, sky, na, os, ag, w⟩ := xx
    have J : Inv X pins σ' H' sI := J'.ofTry ok
    have sky' : Sky B (X.env :: X.outer) a (Zc cls d) X.env.locals s'.heap := by rw [← hs]; exact sky
    show wpAny (model X.prog X.w) X.A (noteFrame (.ref a) X.env) _ _ _
    refine Sky.land Zc.steady hfr hf sky' fun h3 fl3 up3 => ?_
    have J3 : Inv X pins σ' H' { s' with heap := h3 } := J.landed nb fl3.1 (up.trans up3) os ag
    obtain ⟨oe3, vs3, he3, hz3, hd3⟩ := fl3.there
    have notFr : ∀ {h : Heap} {o : Obj} {vs : Array Value}, h.FunFrames B (X.env :: X.outer) → h.get? a = some o → o.data = .fields vs → a ∉ frs (X.env :: X.outer) := fun {h o vs} ff e dd hm => by
      obtain ⟨_, o', e', hnf⟩ := ff.mem hm
      rw [e] at e'; cases e'
      exact hnf _ dd
    have nfr := notFr fl3.2.2.1 he3 hd3
    have nL : a ≠ X.env.locals := fun z => nfr (List.mem_filterMap.mpr ⟨X.env, List.mem_cons_self, by rw [hf, z]⟩)
    have nF : a ∉ X.fs := fun hm => by
      obtain ⟨e, he, q⟩ := List.mem_filterMap.mp hm
      exact nfr (List.mem_filterMap.mpr ⟨e, List.mem_cons_of_mem _ he, q⟩)
    have S3 := J3.suite he3 hd3 na nL nF
    obtain ⟨hb1, hyes⟩ := w
    refine wpAny_handleBy_cons (codeAny_handlers_test ?_) (by intro q; cases q)
    have k4 : ∀ b o, h3.get? b = some o → (h3.push { cls := .type "tuple", data := .seq [c1, c2].toArray }).get? b = some o := fun b o e => Heap.get?_push_of_some _ e
    have fl4 := fly_keeps fl3 k4
    have up4 : h3.UpToSlots (h3.push { cls := .type "tuple", data := .seq [c1, c2].toArray }) := fun b o e _ => ⟨o.slots, k4 b o e⟩
    have he4 := k4 _ _ he3
    have LT : PySem.W.Looks (model X.prog X.w) (h3.push { cls := .type "tuple", data := .seq [c1, c2].toArray }) (typeOf (.ref a)) cls := fun A Q E s k q => wpAny_typeOf_ref (k _ _ he4) (by rw [hz3.1]; exact q)
    have ht : (h3.push { cls := .type "tuple", data := .seq [c1, c2].toArray }).get? h3.objs.size = some { cls := .type "tuple", data := .seq [c1, c2].toArray } := Heap.get?_push_size _ rfl
    have LM := PySem.W.exm_tup2 (M := model X.prog X.w) (J3.kIn.keeps k4) LT ht hb1
    refine wpAny_Tuple_spliced ?_
    show wpAny _ _ (spliced ((false, eval (.Name x1 p1) X.env) :: (false, eval (.Name x2 p2) X.env) :: [])) _ _ _
    refine Calls.spliced_cons (ld_glob (X := X.suite a ((a, oe3) :: (X.pn ++ pins))) S3 hg1 hm1 (Calls.spliced_cons (ld_glob (X := X.suite a ((a, oe3) :: (X.pn ++ pins))) S3 hg2 hm2 (Calls.spliced_nil ⟨by rw [sizeLine_eq]; exact (show 2 ≤ 16777216 by decide), ?_⟩) hd2)) hd1)
    refine LM.here ?_
    refine codeAny_handlers_suite ?_
    refine HandSPX.lands_againZ fl4 fun h5 fl5 up5 => ?_
    have J5 : Inv X pins σ' H' { s' with heap := h5 } := J.landed nb fl5.1 (((up.trans up3).trans up4).trans up5) os ag
    obtain ⟨oe5, vs5, he5, hz5, hd5⟩ := fl5.there
    have S5 := J5.suite he5 hd5 na nL nF
    refine wpAny_mono ((hsu a oe5 cls d (X.pn ++ pins) hz5 ⟨_, hd5⟩).run [] _ _ H' _ S5 (hyes a na)) (fun f s6 hsp => ?_) (fun _ _ z => False.elim z)
    cases f with
    | next =>
      obtain ⟨σ6, H6, S6, q6⟩ := hsp
      exact ⟨_, _, S6.unsuite ok, q6⟩
    | brk =>
      obtain ⟨σ6, H6, S6, q6⟩ := hsp
      exact ⟨_, _, S6.unsuite ok, q6⟩
    | cont =>
      obtain ⟨σ6, H6, S6, q6⟩ := hsp
      exact ⟨_, _, S6.unsuite ok, q6⟩
    | ret u =>
      obtain ⟨v6, σ6, H6, S6, r6, q6⟩ := hsp
      exact ⟨_, _, _, S6.unsuite ok, r6, q6⟩
  · cases f with
    | next =>
      obtain ⟨σ', H', J', q⟩ := hsp
      exact wpAny_execs_nil ⟨σ', H', J'.ofTry ok, q⟩
    | brk =>
      obtain ⟨σ', H', J', q⟩ := hsp
      exact ⟨σ', H', J'.ofTry ok, q⟩
    | cont =>
      obtain ⟨σ', H', J', q⟩ := hsp
      exact ⟨σ', H', J'.ofTry ok, q⟩
    | ret u =>
      obtain ⟨v, σ', H', J', r, q⟩ := hsp
      exact ⟨v, σ', H', J'.ofTry ok, r, q⟩
end
end Er
end K28

set_option Elab.async false
set_option linter.all false
set_option maxRecDepth 100000
set_option maxHeartbeats 4000000
/-! ## min(texts, key=lambda text: (len(text), text)) -/
namespace Mk
open PySem PySem.Spec PyProof.Rows L2
/-- a is shorter than b, or as long and before it -/
def wLt (a b : List Nat) : Bool := if (a.length : Int) == (b.length : Int) then (if a == b then false else decide (a < b)) else decide ((a.length : Int) < (b.length : Int))
/-- the first of the least, b being the best so far -/
def minF (b : List Nat) : List (List Nat) → List Nat
  | [] => b
  | c :: r => minF (if wLt c b = true then c else b) r
def minW : List (List Nat) → List Nat
  | [] => []
  | b :: r => minF b r
theorem minF_mem (b : List Nat) (r : List (List Nat)) : minF b r = b ∨ minF b r ∈ r := by
  induction r generalizing b with
  | nil => exact .inl rfl
  | cons c r ih =>
    show minF (if wLt c b = true then c else b) r = b ∨ minF (if wLt c b = true then c else b) r ∈ c :: r
    rcases ih (if wLt c b = true then c else b) with e | e
    · rw [e]
      by_cases h : wLt c b = true
      · rw [if_pos h]
        exact .inr (List.mem_cons_self ..)
      · rw [if_neg h]
        exact .inl rfl
    · exact .inr (List.mem_cons_of_mem _ e)
theorem minW_mem {ws : List (List Nat)} (h : ws ≠ []) : minW ws ∈ ws := by
  cases ws with
  | nil => exact absurd rfl h
  | cons b r =>
    rcases minF_mem b r with e | e
    · show minF b r ∈ b :: r
      rw [e]
      exact List.mem_cons_self ..
    · exact List.mem_cons_of_mem _ e
/-- the lambda's object, as a thing held -/
def LamO (f : Addr) (q : Str) (params : Arguments) (body : Expr) (scope : Scope) (c' : Addr) : HO :=
  .ext fun h => ∃ (pm ctv : Value), h.get? f = some (PySem.W.kla_obj "<lambda>" q params body scope [] pm c' ctv)
section
variable {X : Cx} {pins : List (Addr × Obj)} {σ : L2.St} {H : Hp} {s : Shared}
/-- a lambda that captures nothing is made -/
theorem lam_mk {c P : Addr} {q : Str} {params : Arguments} {body : Expr} {scope : Scope} {pos : Pos} {E : Value → Shared → Prop} {Q : Value → Shared → Prop} (I : Inv X pins σ H s) (TB : LamX.TabB X.base X.mg c P) (hcode : X.env.code = .ref c)
    (hq : X.env.qual ++ "<lambda>" = q) (hT : LamX.TabS H P q) (hdef : defaultsOf params X.env = ([], [])) (hfr : ∀ y ∈ scope.names, y.2 = .free → ∃ c, X.env.cells.lookup y.1 = some c) (hcl : cloFrom X.env.cells scope.names [] = [])
    (h : ∀ (f c' : Addr) (H1 : Hp) (s' : Shared), Inv X pins σ (upd H1 f (LamO f q params body scope c')) s' → (∀ b o, b ≠ P → H b = some o → H1 b = some o) → LamX.TabS H1 P q → H1 f = none → H1 c' = some (LamX.CodeO c' q) → Q (.ref f) s') :
    wpAny (model X.prog X.w) X.A (eval (.Lambda params body scope pos) X.env) Q E s := by
  subst hq
  refine PySem.W.kla_eval hdef ?_
  obtain ⟨ps, hP, ht, ha⟩ := hT
  have hP' : s.heap.get? P = some { cls := .none, data := .fields ps } := I.hok P _ hP
  have bP : s.heap.BuiltinsAt X.mg P := TB.bm.keeps I.bk
  have lay : ∀ (h' : Heap) (H1 : Hp) (tk : Nat) (pm ctv : Value) (c' : Addr), Inv X pins σ H1 { s with heap := h', toks := tk } →
      Inv X pins σ (upd H1 h'.objs.size (LamO h'.objs.size (X.env.qual ++ "<lambda>") params body scope c')) { s with heap := h'.push (PySem.W.kla_obj "<lambda>" (X.env.qual ++ "<lambda>") params body scope [] pm c' ctv), toks := tk } :=
    fun h' H1 tk pm ctv c' J => J.laid (t' := tk) (fun b u e => Heap.get?_push_of_some _ e) (Nat.le_refl _) ⟨⟨pm, ctv, Heap.get?_push_size _ rfl⟩, ⟨_, Heap.get?_push_size _ rfl⟩, fun h1 h2 ⟨pm, ctv, e⟩ st => ⟨pm, ctv, st _ e⟩⟩
  cases hc : codeAmong pos ps.toList with
  | none =>
    refine PySem.W.kla_makeFunction (mg := X.mg) (c := c) (P := P) (ps := ps) (closure_ok hfr) I.ok.glob (I.mod.glob.keeps I.bk) hcode (TB.code.keeps I.bk) hP' ht hc TB.gP bP fun c' ctv h' tk hx hge hlt hrec htb => ?_
    rw [hcl]
    obtain ⟨c2, oc, vs, t, e2, hoc, hd, hv⟩ := hrec
    cases e2
    have nC : H c' = none := I.hok.fresh hge
    have J := LamX.inv_table (t' := tk) (more := #[rawInt pos.line, rawInt pos.col, .ref c']) (h' := h') I hP hx htb hge ⟨oc, vs, t, hoc, hd, hv⟩
    have eL : (ps ++ #[rawInt pos.line, rawInt pos.col, .ref c']).toList = ps.toList ++ [rawInt pos.line, rawInt pos.col, .ref c'] := by simp
    refine h _ c' _ _ (lay h' _ tk _ ctv c' J) (fun b o hb e => ?_) ⟨_, ?_, by rw [eL]; exact PySem.TriplesOk_snoc _ _ _ _ ht, fun p' cv hcv => ?_⟩ (J.hok.fresh (Nat.le_refl _)) upd_same
    · rw [upd_ne (ne_of_none e nC), upd_ne hb]
      exact e
    · rw [upd_ne (ne_of_none hP nC), upd_same]
    · rw [eL] at hcv
      rcases LamX.among_app _ ht hcv with z | z
      · obtain ⟨c0, e1, e2⟩ := ha p' cv z
        refine ⟨c0, e1, ?_⟩
        rw [upd_ne (ne_of_none e2 nC), upd_ne (fun z => LamX.codeO_ne ps (Option.some.inj ((e2.symm.trans (by rw [z])).trans hP)))]
        exact e2
      · exact ⟨c', z, upd_same⟩
  | some cv =>
    obtain ⟨c', e, hco⟩ := ha pos cv hc
    subst e
    refine PySem.W.kla_makeFunctionHit (mg := X.mg) (c := c) (P := P) (ps := ps) (closure_ok hfr) I.ok.glob (I.mod.glob.keeps I.bk) hcode (TB.code.keeps I.bk) hP' ht hc bP fun ctv h' tk hx hsz => ?_
    rw [hcl]
    have J : Inv X pins σ H { s with heap := h', toks := tk } := I.kept hx
    exact h _ c' _ _ (lay h' _ tk _ ctv c' J) (fun b o _ e => e) ⟨ps, hP, ht, ha⟩ (J.hok.fresh (Nat.le_refl _)) hco
/-- the lambda is called -/
theorem lam_run {q : Str} {params : Arguments} {body : Expr} {scope : Scope} {f c' : Addr} {x : Str} {k : Nat} {z : List Nat} {u : Value} (I : Inv X pins σ H s) (hr : Room (k + 2) X.A) (Sc : FnScope [x] [x] scope)
    (hbind : ∀ (pm cv ctv u : Value), bindArgs (PySem.W.kla_fn "<lambda>" q params body scope [] pm cv ctv) ⟨[u], []⟩ = pure [(x, u)])
    (hbody : ∀ (A : Around) (outer : List Env) (s : Shared) (H : Hp) (f : Addr) (cd : Value), ∃ t, PE (cxOf (L2.CX X.prog X.w) X.prog X.w X.K X.mg X.base [x] q scope f cd A outer s H E0) body t ∧ ∀ (H1 : Hp) (z : List Nat) (Q : VK), z.length ≤ 100000 → (∀ t, H1 t = none → Q (.ref t) (upd H1 t (.tup [.int z.length, .str (K28.S z)]))) → t [some (.str (K28.S z))] H1 Q)
    (hf : H f = some (LamO f q params body scope c')) (hc : H c' = some (LamX.CodeO c' q)) (hz : z.length ≤ 100000) (hu : RelV (.str (K28.S z)) u) :
    wpAny (model X.prog X.w) X.A.in1 (call (.ref f) [u]) (fun v s' => ∃ t, Inv X pins σ (upd H t (.tup [.int z.length, .str (K28.S z)])) s' ∧ H t = none ∧ v = .ref t) (fun _ _ => False) s := by
  obtain ⟨⟨pm, ctv, hf1⟩, _, _⟩ := I.hok f _ hf
  obtain ⟨⟨oc, vs, tq, hoc, hdc, hvc⟩, _, _⟩ := I.hok c' _ hc
  have hr1 : Room (k + 1) X.A.in1 := hr.in1
  have e0 : Env0 X.prog X.w X.K X.mg X.base X.A.in1 X.stack s H := I.env0.in1
  refine wpAny_call (codeAny_mono (PySem.W.kla_callFunE (R := CR (L2.CX X.prog X.w) X.stack X.prog X.w H s (fun v H' => ∃ t, H t = none ∧ v = .ref t ∧ H' = upd H t (.tup [.int z.length, .str (K28.S z)])) E0) hr1.depth hf1 rfl Sc.co Sc.gen rfl ⟨c', oc, vs, tq, rfl, hoc, hdc, hvc⟩ ?_) fun r s' hq => ?_)
  · rw [hbind]
    refine wpAny_pure (wpAny_newFunctionEnv_cells Sc.kind (fun y hy => ?_) fun env he s1 x => ?_)
    · rcases List.mem_cons.mp hy with e | e
      · rw [e]
        rcases Sc.par _ (List.mem_cons_self ..) with q | q
        · exact .inl q
        · exact .inr ⟨q, PySem.W.cellsFrom_some _ _ _ (.inl q)⟩
      · cases e
    · subst he
      refine ⟨I.nolimit.keeps x.toInCall.keep, ?_⟩
      obtain ⟨t, ht, hq⟩ := hbody X.A.in1 X.stack s H f (.ref c')
      have J := inv_start (CX := L2.CX X.prog X.w) (f := f) (cd := .ref c') (E := E0) (vs := [.str (K28.S z)]) (us := [u]) Sc hr1.hd e0 rfl (.cons hu .nil) x
      refine PySem.W.kla_codeExpr (wpAny_mono (ht.run [] s1 _ H (fun v H' => ∃ t, H t = none ∧ v = .ref t ∧ H' = upd H t (.tup [.int z.length, .str (K28.S z)])) J (hq H z _ hz fun t ht => ⟨t, ht, rfl, rfl⟩)) (fun v s' hq => ?_) fun e s' hq => hq)
      obtain ⟨w', H', J', rv, q⟩ := hq
      exact ⟨w', H', J'.os, J'.bare, J'.base, J'.hok, rv, q⟩
  · cases r with
    | error e =>
      obtain ⟨_, _, _, _, _, _, _, _, _, _, _, _, z⟩ := hq
      exact z.elim
    | ok fl =>
      cases fl with
      | ret v =>
        obtain ⟨w', H', I', rv, t, h1, h2, h3⟩ := I.after hq
        subst h2
        subst h3
        exact ⟨t, I', h1, rv⟩
      | next => exact False.elim hq
      | brk => exact False.elim hq
      | cont => exact False.elim hq
/-- the key of a text -/
abbrev keyV (z : List Nat) : List V := [.int z.length, .str (K28.S z)]
/-- one key before another -/
theorem key_lt {a b : List Nat} {t u : Addr} {h : Heap} {A : Around} {s : Shared} (ha : ∃ its, Vals (keyV a) its ∧ IsTup s.heap t its.toArray) (hb : ∃ its, Vals (keyV b) its ∧ IsTup s.heap u its.toArray) (hu : A.units < cLine) : Ob.RcOp .Lt A s (.ref t) (.ref u) (wLt a b) := by
  obtain ⟨i1, v1, h1⟩ := ha
  obtain ⟨i2, v2, h2⟩ := hb
  obtain ⟨x1, x2, rfl, ⟨t1, rfl⟩, ⟨t2, rfl⟩⟩ := vals2 v1
  obtain ⟨y1, y2, rfl, ⟨u1, rfl⟩, ⟨u2, rfl⟩⟩ := vals2 v2
  have hT : ∀ {a : Addr} {its : Array Value}, IsTup s.heap a its → s.heap.IsTuple a its := fun ⟨o, e, c, n, d⟩ => ⟨o, e, c, n, d⟩
  have key := Ob.RcOp.tuples_lt (A := A) (s := s) (e := fun j => if j = 0 then (a.length : Int) == (b.length : Int) else a == b) (r := fun j => if j = 0 then decide ((a.length : Int) < (b.length : Int)) else decide (a < b)) (hT h1) (hT h2) hu ?_ ?_
  · have e : Ob.lexAt (fun j => if j = 0 then (a.length : Int) == (b.length : Int) else a == b) (fun j => if j = 0 then decide ((a.length : Int) < (b.length : Int)) else decide (a < b)) false 0 2 = wLt a b := by
      unfold wLt
      rw [Ob.lexAt_succ, Ob.lexAt_succ, Ob.lexAt_zero]
      rfl
    rw [← e]
    exact key
  · intro j g1 g2
    match j, g1, g2 with
    | 0, _, _ => exact SeqAt.EqAt.int_int _ _ _ _
    | 1, _, _ =>
      have e : (a == b) = (K28.S a == K28.S b) := by
        by_cases h : a = b
        · rw [h]
          simp
        · rw [beq_eq_false_iff_ne.mpr h, beq_eq_false_iff_ne.mpr fun z => h (K28.S_inj z)]
      show SeqAt.EqAt A.in1 s (.str (K28.S a) t2) (.str (K28.S b) u2) (a == b)
      rw [e]
      exact SeqAt.EqAt.str_str _ _ _ _
    | n + 2, g, _ => exact absurd (show n + 2 < 2 from g) (by omega)
  · intro j g1 g2 _
    match j, g1, g2 with
    | 0, _, _ => exact Ob.RcOp.lt_int _ _ _ _
    | 1, _, _ => exact fun prog w E Q h => PyProof.Rows.lt_str h
    | n + 2, g, _ => exact absurd (show n + 2 < 2 from g) (by omega)
/-- what is known of the lambda -/
structure KeyOk (X : Cx) (x q : Str) (params : Arguments) (body : Expr) (scope : Scope) : Prop where
  room : Room 2 X.A
  sc : FnScope [x] [x] scope
  bind : ∀ (pm cv ctv u : Value), bindArgs (PySem.W.kla_fn "<lambda>" q params body scope [] pm cv ctv) ⟨[u], []⟩ = pure [(x, u)]
  body : ∀ (A : Around) (outer : List Env) (s : Shared) (H : Hp) (f : Addr) (cd : Value), ∃ t, PE (cxOf (L2.CX X.prog X.w) X.prog X.w X.K X.mg X.base [x] q scope f cd A outer s H E0) body t ∧ ∀ (H1 : Hp) (z : List Nat) (Q : VK), z.length ≤ 100000 → (∀ t, H1 t = none → Q (.ref t) (upd H1 t (.tup [.int z.length, .str (K28.S z)]))) → t [some (.str (K28.S z))] H1 Q
/-- an iterator of ours, in the state s -/
structure Own (X : Cx) (pins : List (Addr × Obj)) (I : Addr) : Prop where
  sz : X.s_0.heap.objs.size ≤ I
  loc : I ≠ X.env.locals
  cell : ∀ x c, X.env.cells.lookup x = some c → c ≠ I
  pin : ∀ p ∈ X.pn ++ pins, p.1 ≠ I
  fs : I ∉ X.fs
theorem min_go {x q : Str} {params : Arguments} {body : Expr} {scope : Scope} (KO : KeyOk X x q params body scope) {f c' l I S : Addr} {ws : List (List Nat)} {H1 : Hp} {R : Result → Shared → Prop} (O : Own X pins I) (hl : H1 l = some (.lst (ws.map fun z => .str (K28.S z)))) (hw : ∀ z ∈ ws, z.length ≤ 100000)
    (hf : H1 f = some (LamO f q params body scope c')) (hc : H1 c' = some (LamX.CodeO c' q)) (hS : H1 S = none)
    (hR : ∀ (H' : Hp) (s' : Shared) (v : Value), Inv X pins σ H' s' → Same H1 H' → RelV (.str (K28.S (minW ws))) v → R (.ok (.ret v)) s') :
    ∀ (r j : Nat) (b : List Nat) (kt : Addr) (H : Hp) (s : Shared), ws.length - (j + 1) = r → j + 1 ≤ ws.length → minF b (ws.drop (j + 1)) = minW ws → Inv X pins σ H s → Same H1 H → H S = some (.lst [.str (K28.S b), .ref kt]) → H kt = some (.tup (keyV b)) → s.heap.IsListIter I l (j + 1) → H I = none →
      codeAny (model X.prog X.w) X.A (.builtin "min.loop" ⟨[.ref I, .ref f, .ref S], []⟩) R s := by
  have hname : (toString "min" ++ toString ".loop" : String) = "min.loop" := by decide
  have hh : X.A.in1.handled = none := KO.room.hd
  intro r
  induction r with
  | zero =>
    intro j b kt H s hr hj hm J e HS Hk hit HI
    have hin : j + 1 = ws.length := by omega
    have hlI : l ≠ I := ne_of_none (e _ _ hl) HI
    have hSI : S ≠ I := ne_of_none HS HI
    obtain ⟨hz, its, n, rv, hol⟩ := J.hok l _ (e _ _ hl)
    obtain ⟨hz2, it2, n2, rv2, hoS⟩ := J.hok S _ HS
    obtain ⟨bv, kv, rfl, hbv, hkv⟩ := vals2 rv2
    have hlen : its.length = ws.length := by rw [← rv.length, List.length_map]
    refine codeAny_builtin PySem.F.entry_min_loop ?_
    rw [Around.under_plainId PySem.F.plain_min_loop _]
    show wpAny _ X.A.in1 (seqItems? (.ref S) >>= _) _ _ _
    refine wpAny_bind (wpAny_seqItems hoS rfl ?_)
    show wpAny _ X.A.in1 (tryCatch (pyNext (.ref I)) _ >>= _) _ _ _
    have W := Walks.list (prog := X.prog) (w := X.w) (A := X.A.in1) hh I l hlI its.toArray
    refine wpAny_bind (wpAny_tryCatch (W.done _ _ _ ⟨by rw [List.size_toArray, hlen, ← hin]; exact hit, ⟨_, hol, rfl, _, rfl⟩⟩ fun h' tk' hk' => ?_))
    have J1 : Inv X pins σ H { s with heap := h', toks := tk' } := J.turned (it := I) (fun b o hb e => hk' b o (by simpa using hb) e) HI O.loc (.inr O.sz) O.cell O.pin
    obtain ⟨hz4, it4, n4, rv4, hoS4⟩ := J1.hok S _ HS
    show wpAny _ X.A.in1 (updateSeq S (fun _ => #[]) >>= _) _ _ _
    refine wpAny_bind ?_
    refine wpAny_updateSeq (hz := by rw [List.size_toArray, ← rv4.length]; exact hz4) hoS4 rfl (wpAny_bind (wpAny_letGo (wpAny_pure ?_)))
    obtain ⟨n5, hS5⟩ : ∃ c2, (h'.update S (Obj.mapSeq fun _ => #[])).get? S = some (seqObj "list" #[] c2) := ⟨_, get?_update_seq hoS4 fun _ => #[]⟩
    have J5 : Inv X pins σ (upd H S (.lst [])) { s with heap := h'.update S (Obj.mapSeq fun _ => #[]), toks := tk' } :=
      J1.write (e := S) (t' := tk') (by rw [HS]; trivial) (.inl rfl) (fun b o hb q => by rw [Heap.get?_update_ne _ _ _ _ hb]; exact q) ⟨_, hS5⟩ ⟨Nat.zero_le _, [], n5, .nil, hS5⟩
    rw [List.drop_of_length_le (by omega)] at hm
    have hm : b = minW ws := hm
    refine hR _ _ bv J5 (fun b o q => ?_) (by rw [← hm]; exact hbv)
    rw [upd_ne (ne_of_none q hS)]
    exact e _ _ q
  | succ r ih =>
    intro j b kt H s hr hj hm J e HS Hk hit HI
    have hlt : j + 1 < ws.length := by omega
    have hlI : l ≠ I := ne_of_none (e _ _ hl) HI
    have hSI : S ≠ I := ne_of_none HS HI
    obtain ⟨hz, its, n, rv, hol⟩ := J.hok l _ (e _ _ hl)
    obtain ⟨hz2, it2, n2, rv2, hoS⟩ := J.hok S _ HS
    obtain ⟨bv, kv, rfl, hbv, hkv⟩ := vals2 rv2
    obtain rfl : kv = Value.ref kt := hkv
    have hlen : its.length = ws.length := by rw [← rv.length, List.length_map]
    refine codeAny_builtin PySem.F.entry_min_loop ?_
    rw [Around.under_plainId PySem.F.plain_min_loop _]
    show wpAny _ X.A.in1 (seqItems? (.ref S) >>= _) _ _ _
    refine wpAny_bind (wpAny_seqItems hoS rfl ?_)
    show wpAny _ X.A.in1 (tryCatch (pyNext (.ref I)) _ >>= _) _ _ _
    have W := Walks.list (prog := X.prog) (w := X.w) (A := X.A.in1) hh I l hlI its.toArray
    refine wpAny_bind (wpAny_tryCatch (W.item (j + 1) _ _ _ (by rw [List.size_toArray, hlen]; exact hlt) ⟨hit, ⟨_, hol, rfl, _, rfl⟩⟩ fun v h' tk' hP hst' hk' => ?_))
    have hv : its[j + 1]? = some v := by simpa using hP
    obtain ⟨z, hzw⟩ : ∃ z, ws[j + 1]? = some z := ⟨ws[j + 1], List.getElem?_eq_getElem hlt⟩
    have hzl := hw z (List.mem_of_getElem? hzw)
    have ru : RelV (.str (K28.S z)) v := by
      obtain ⟨u, hu, r⟩ := rv.get (i := j + 1) (x := .str (K28.S z)) (by rw [List.getElem?_map, hzw] <;> rfl)
      rw [hv] at hu
      cases hu
      exact r
    obtain ⟨oI', hoI', hoc, hod⟩ := _root_.id hst'.1
    have J1 : Inv X pins σ H { s with heap := h', toks := tk' } := J.turned (it := I) (fun b o hb e => hk' b o (by simpa using hb) e) HI O.loc (.inr O.sz) O.cell O.pin
    have J2 : Inv X ((I, oI') :: pins) σ H { s with heap := h', toks := tk' } := J1.pins_of fun p hp => by
      rcases List.mem_cons.mp hp with e | hp
      · rw [e]
        exact ⟨hoI', HI, O.loc, O.fs, fun v z => by rw [hod] at z; cases z⟩
      · exact J1.pin p (List.mem_append_right _ hp)
    show wpAny _ X.A.in1 (tryCatch (holding [v] (call (.ref f) [v])) _ >>= _) _ _ _
    refine wpAny_bind (wpAny_tryCatch (wpAny_holding (wpAny_mono (lam_run J2 KO.room KO.sc KO.bind KO.body (e _ _ hf) (e _ _ hc) hzl ru) (fun u s3 hq => ?_) fun _ _ hF => hF.elim)))
    obtain ⟨t, J3, ht, rfl⟩ := hq
    have J4 : Inv X pins σ (upd H t (.tup (keyV z))) s3 := J3.pins_of fun p hp => J3.pin p (List.mem_append_right _ (List.mem_cons_of_mem _ hp))
    obtain ⟨hI3, hIn3, _⟩ := J3.pin (I, oI') (List.mem_append_right _ (List.mem_cons_self ..))
    have hit3 : s3.heap.IsListIter I l (j + 1 + 1) := ⟨oI', hI3, hoc, hod⟩
    have hSt : S ≠ t := ne_of_none HS ht
    have hkt : kt ≠ t := ne_of_none Hk ht
    have e3 : Same H1 (upd H t (.tup (keyV z))) := fun b o q => by
      rw [upd_ne (ne_of_none (e _ _ q) ht)]
      exact e _ _ q
    have HS3 : upd H t (.tup (keyV z)) S = some (.lst [.str (K28.S b), .ref kt]) := by rw [upd_ne hSt]; exact HS
    have Hk3 : upd H t (.tup (keyV z)) kt = some (.tup (keyV b)) := by rw [upd_ne hkt]; exact Hk
    obtain ⟨_, k1, kr1, kh1⟩ := J4.hok t _ upd_same
    obtain ⟨_, k2, kr2, kh2⟩ := J4.hok kt _ Hk3
    have hun : X.A.in1.units < cLine := by
      have := KO.room.un
      show X.A.units + 1 < cLine
      omega
    show wpAny _ X.A.in1 (tryCatch (holding [v, .ref t] (richCompare .Lt (.ref t) (.ref kt) >>= _)) _ >>= _) _ _ _
    refine wpAny_bind (wpAny_tryCatch (wpAny_holding (wpAny_bind (key_lt (a := z) (b := b) (h := s3.heap) ⟨k1, kr1, kh1⟩ ⟨k2, kr2, kh2⟩ hun _ _ _ _ ?_))))
    refine wpAny_bind (wpAny_holding (wpAny_truthy_bool ?_))
    refine wpAny_bind (wpAny_letGo (wpAny_pure ?_))
    have hd : ws.drop (j + 1) = z :: ws.drop (j + 1 + 1) := by
      rw [List.drop_eq_getElem_cons hlt]
      congr 1
      have q := List.getElem?_eq_getElem hlt
      rw [hzw] at q
      exact (Option.some.inj q).symm
    rw [hd] at hm
    have hm : minF (if wLt z b = true then z else b) (ws.drop (j + 1 + 1)) = minW ws := hm
    by_cases hb : wLt z b = true
    · rw [if_pos hb] at hm
      rw [hb]
      simp only [if_true]
      obtain ⟨hz4, it4, n4, rv4, hoS4⟩ := J4.hok S _ HS3
      refine wpAny_bind ?_
      refine wpAny_updateSeq (hz := by rw [List.size_toArray, ← rv4.length]; exact hz4) hoS4 rfl (wpAny_bind (wpAny_letGo ?_))
      rw [hname]
      obtain ⟨n5, hS5⟩ : ∃ c2, (s3.heap.update S (Obj.mapSeq fun _ => #[v, .ref t])).get? S = some (seqObj "list" #[v, .ref t] c2) := ⟨_, get?_update_seq hoS4 fun _ => #[v, .ref t]⟩
      have J5 : Inv X pins σ (upd (upd H t (.tup (keyV z))) S (.lst [.str (K28.S z), .ref t])) { s3 with heap := s3.heap.update S (Obj.mapSeq fun _ => #[v, .ref t]) } :=
        J4.write (e := S) (t' := s3.toks) (by rw [HS3]; trivial) (.inl rfl) (fun b o hb q => by rw [Heap.get?_update_ne _ _ _ _ hb]; exact q) ⟨_, hS5⟩ ⟨by show 2 ≤ sizeLine; rw [sizeLine_eq]; omega, [v, .ref t], n5, .cons ru (.cons rfl .nil), hS5⟩
      refine wpAny_pure ⟨plainId_quiet PySem.F.plain_min_loop _, ih (j + 1) z t _ _ (by omega) hlt hm J5 (fun b o q => ?_) upd_same (by rw [upd_ne (fun q => hSt q.symm), upd_same]) ⟨oI', by rw [Heap.get?_update_ne _ _ _ _ hSI.symm]; exact hI3, hoc, hod⟩ (by rw [upd_ne hSI.symm]; exact hIn3)⟩
      rw [upd_ne (ne_of_none q hS)]
      exact e3 _ _ q
    · rw [if_neg hb] at hm
      rw [Bool.not_eq_true _ |>.mp hb]
      simp only [Bool.false_eq_true, if_false]
      refine wpAny_bind (wpAny_letGo ?_)
      rw [hname]
      exact wpAny_pure ⟨plainId_quiet PySem.F.plain_min_loop _, ih (j + 1) b kt _ _ (by omega) hlt hm J4 e3 HS3 Hk3 hit3 hIn3⟩
def rMinK (x q : Str) (params : Arguments) (body : Expr) (scope : Scope) : List V → List V → Hp → VK → Prop := fun vs zs H Q => ∃ (a f c' : Addr) (ws : List (List Nat)), vs = [.ref a] ∧ zs = [.ref f] ∧ H a = some (.lst (ws.map fun z => .str (K28.S z))) ∧ ws ≠ [] ∧ (∀ z ∈ ws, z.length ≤ 100000) ∧
  H f = some (LamO f q params body scope c') ∧ H c' = some (LamX.CodeO c' q) ∧ ∀ H', Same H H' → Q (.str (K28.S (minW ws))) H'
theorem cr_minK {x q : Str} {params : Arguments} {body : Expr} {scope : Scope} (KO : KeyOk X x q params body scope) : CallRK X (.builtin "min") [Str.ofString "key"] (rMinK x q params body scope) := by
  intro pins s σ H vs zs us us2 Q J r rz h
  obtain ⟨l, f, c', ws, rfl, rfl, hl, hne, hw, hf, hc, hQ⟩ := h
  obtain rfl := Vals.ref1 r
  obtain rfl := Vals.ref1 rz
  have hname : (toString "min" ++ toString ".loop" : String) = "min.loop" := by decide
  have hh : X.A.in1.handled = none := KO.room.hd
  show wpAny _ _ (call (.builtin "min") [.ref l] [(Str.ofString "key", .ref f)]) _ _ s
  refine PyProof.Rows.kmk_tree PySem.F.kind_min PySem.F.plain_min PySem.F.entry_min (PyProof.Rows.kmk_min_key _ _) ?_
  show wpAny _ X.A.in1 (Builtin.Builtins.bindParams "min" ["key", "default"] 0 ⟨[], [(Str.ofString "key", .ref f)]⟩ >>= _) _ _ s
  refine wpAny_bind (wpAny_of_eq (show Builtin.Builtins.bindParams "min" ["key", "default"] 0 ⟨[], [(Str.ofString "key", .ref f)]⟩ = pure [some (.ref f), none] from rfl) ?_)
  refine wpAny_bind (wpAny_pure ?_)
  obtain ⟨hz, its, n, rv, hol⟩ := J.hok l _ hl
  have hlen : its.length = ws.length := by rw [← rv.length, List.length_map]
  refine wpAny_bind (wpAny_pyIter_list ⟨_, hol, rfl, _, rfl⟩ ?_)
  refine wpAny_bind (wpAny_newList ?_ (Nat.zero_le _))
  rw [hname]
  refine wpAny_pure ⟨plainId_quiet PySem.F.plain_min_loop _, ?_⟩
  generalize hoI : ({ cls := .type "list_iterator", data := .fields #[.ref l, .int 0 0] } : Obj) = oI0
  have hsz1 : (s.heap.push oI0).objs.size = s.heap.objs.size + 1 := Heap.size_push ..
  have JI : Inv X pins σ H { s with heap := s.heap.push oI0 } := J.kept (t' := s.toks) fun b o e => Heap.get?_push_of_some _ e
  have J0 : Inv X pins σ (upd H (s.heap.push oI0).objs.size (.lst [])) { s with heap := (s.heap.push oI0).push (seqObj "list" #[] 0) } :=
    JI.laid (t' := s.toks) (fun b o e => Heap.get?_push_of_some _ e) (Nat.le_refl _) ⟨Nat.zero_le _, [], 0, .nil, Heap.get?_push_size _ rfl⟩
  have hllt : l < s.heap.objs.size := Heap.lt_size hol
  have nS : H (s.heap.push oI0).objs.size = none := JI.hok.fresh (Nat.le_refl _)
  have nI : H s.heap.objs.size = none := J.hok.fresh (Nat.le_refl _)
  have hSI : (s.heap.push oI0).objs.size ≠ s.heap.objs.size := by rw [hsz1]; exact Nat.succ_ne_self _
  have O : Own X pins s.heap.objs.size := ⟨J.sz, Nat.ne_of_gt J.lt, fun x c e => (by
      obtain ⟨v, o, ho, _⟩ := J.cell x c e
      exact Nat.ne_of_lt (Heap.lt_size ho)), fun p hp => Nat.ne_of_lt (Heap.lt_size (J.pin p hp).1), J.nofs (Nat.le_refl _)⟩
  have hlI : l ≠ s.heap.objs.size := Nat.ne_of_lt hllt
  have e0 : Same H (upd H (s.heap.push oI0).objs.size (.lst [])) := fun b o q => by
    rw [upd_ne (ne_of_none q nS)]
    exact q
  have gI : ((s.heap.push oI0).push (seqObj "list" #[] 0)).get? s.heap.objs.size = some oI0 := Heap.get?_push_of_some _ (Heap.get?_push_size _ (by subst hoI; rfl))
  have hit : ((s.heap.push oI0).push (seqObj "list" #[] 0)).IsListIter s.heap.objs.size l 0 := by
    subst hoI
    exact ⟨_, gI, rfl, rfl⟩
  have hIn : upd H (s.heap.push oI0).objs.size (.lst []) s.heap.objs.size = none := by rw [upd_ne hSI.symm]; exact nI
  have gS : ((s.heap.push oI0).push (seqObj "list" #[] 0)).get? (s.heap.push oI0).objs.size = some (seqObj "list" #[] 0) := Heap.get?_push_size _ rfl
  have hol1 : ((s.heap.push oI0).push (seqObj "list" #[] 0)).get? l = some { cls := .type "list", data := .seq its.toArray n } := Heap.get?_push_of_some _ (Heap.get?_push_of_some _ hol)
  refine codeAny_builtin PySem.F.entry_min_loop ?_
  rw [Around.under_plainId PySem.F.plain_min_loop _]
  show wpAny _ X.A.in1 (seqItems? (.ref _) >>= _) _ _ _
  refine wpAny_bind (wpAny_seqItems gS rfl ?_)
  show wpAny _ X.A.in1 (tryCatch (pyNext (.ref s.heap.objs.size)) _ >>= _) _ _ _
  have hpos : 0 < ws.length := List.length_pos_iff.mpr hne
  have W := Walks.list (prog := X.prog) (w := X.w) (A := X.A.in1) hh s.heap.objs.size l hlI its.toArray
  refine wpAny_bind (wpAny_tryCatch (W.item 0 _ _ _ (by rw [List.size_toArray, hlen]; exact hpos) ⟨hit, ⟨_, hol1, rfl, _, rfl⟩⟩ fun v h' tk' hP hst' hk' => ?_))
  have hv : its[0]? = some v := by simpa using hP
  obtain ⟨z, hzw⟩ : ∃ z, ws[0]? = some z := ⟨ws[0], List.getElem?_eq_getElem hpos⟩
  have hzl := hw z (List.mem_of_getElem? hzw)
  have ru : RelV (.str (K28.S z)) v := by
    obtain ⟨u, hu, r⟩ := rv.get (i := 0) (x := .str (K28.S z)) (by rw [List.getElem?_map, hzw] <;> rfl)
    rw [hv] at hu
    cases hu
    exact r
  obtain ⟨oI', hoI', hoc, hod⟩ := _root_.id hst'.1
  have J1 : Inv X pins σ _ { s with heap := h', toks := tk' } := Inv.turned (s := { s with heap := (s.heap.push oI0).push (seqObj "list" #[] 0) }) (h' := h') (t' := tk') J0 (it := s.heap.objs.size) (fun b o hb e => hk' b o (by simpa using hb) e) hIn O.loc (.inr O.sz) O.cell O.pin
  have J2 : Inv X ((s.heap.objs.size, oI') :: pins) σ _ { s with heap := h', toks := tk' } := J1.pins_of fun p hp => by
    rcases List.mem_cons.mp hp with e | hp
    · rw [e]
      exact ⟨hoI', hIn, O.loc, O.fs, fun v z => by rw [hod] at z; cases z⟩
    · exact J1.pin p (List.mem_append_right _ hp)
  show wpAny _ X.A.in1 (tryCatch (holding [v] (call (.ref f) [v])) _ >>= _) _ _ _
  refine wpAny_bind (wpAny_tryCatch (wpAny_holding (wpAny_mono (lam_run J2 KO.room KO.sc KO.bind KO.body (e0 _ _ hf) (e0 _ _ hc) hzl ru) (fun u s3 hq => ?_) fun _ _ hF => hF.elim)))
  obtain ⟨t, J3, ht, rfl⟩ := hq
  have J4 : Inv X pins σ _ s3 := J3.pins_of fun p hp => J3.pin p (List.mem_append_right _ (List.mem_cons_of_mem _ hp))
  obtain ⟨hI3, hIn3, _⟩ := J3.pin (s.heap.objs.size, oI') (List.mem_append_right _ (List.mem_cons_self ..))
  generalize (s.heap.push oI0).objs.size = Sx at *
  have hSt : Sx ≠ t := ne_of_none upd_same ht
  have HS3 : upd (upd H Sx (.lst [])) t (.tup (keyV z)) Sx = some (.lst []) := by rw [upd_ne hSt, upd_same]
  obtain ⟨hz4, it4, n4, rv4, hoS4⟩ := J4.hok Sx _ HS3
  show wpAny _ X.A.in1 (updateSeq Sx (fun _ => #[v, .ref t]) >>= _) _ _ _
  refine wpAny_bind ?_
  refine wpAny_updateSeq (hz := by rw [List.size_toArray, ← rv4.length]; exact hz4) hoS4 rfl ?_
  rw [hname]
  obtain ⟨n5, hS5⟩ : ∃ c2, (s3.heap.update Sx (Obj.mapSeq fun _ => #[v, .ref t])).get? Sx = some (seqObj "list" #[v, .ref t] c2) := ⟨_, get?_update_seq hoS4 fun _ => #[v, .ref t]⟩
  have J5 : Inv X pins σ (upd (upd (upd H Sx (.lst [])) t (.tup (keyV z))) Sx (.lst [.str (K28.S z), .ref t])) { s3 with heap := s3.heap.update Sx (Obj.mapSeq fun _ => #[v, .ref t]) } :=
    J4.write (e := Sx) (t' := s3.toks) (by rw [HS3]; trivial) (.inl rfl) (fun b o hb q => by rw [Heap.get?_update_ne _ _ _ _ hb]; exact q) ⟨_, hS5⟩ ⟨by show 2 ≤ sizeLine; rw [sizeLine_eq]; omega, [v, .ref t], n5, .cons ru (.cons rfl .nil), hS5⟩
  refine wpAny_pure ⟨plainId_quiet PySem.F.plain_min_loop _, min_go KO (S := Sx) (H1 := H) O hl hw hf hc nS (fun H' s' v J' e' rv' => ⟨_, H', J', rv', hQ H' e'⟩) _ 0 z t _ _ rfl hpos ?_ J5 (fun b o q => ?_) upd_same (by rw [upd_ne (fun q => hSt q.symm), upd_same]) ⟨oI', by rw [Heap.get?_update_ne _ _ _ _ hSI.symm]; exact hI3, hoc, hod⟩ (by rw [upd_ne hSI.symm]; exact hIn3)⟩
  · cases ws with
    | nil => exact absurd rfl hne
    | cons b r =>
      have e1 : b = z := Option.some.inj hzw
      rw [e1] <;> rfl
  · have e1 := e0 _ _ q
    rw [upd_ne (ne_of_none q nS), upd_ne (ne_of_none e1 ht)]
    exact e1
/-- the lambda as an argument -/
def tLam (P : Addr) (q : Str) (params : Arguments) (body : Expr) (scope : Scope) : TE := fun _ H Q => LamX.TabS H P q ∧ ∀ (f c' : Addr) (H1 : Hp), (∀ b o, b ≠ P → H b = some o → H1 b = some o) → LamX.TabS H1 P q → H1 f = none → H1 c' = some (LamX.CodeO c' q) → Q (.ref f) (upd H1 f (LamO f q params body scope c'))
theorem pe_lam {c P : Addr} {q : Str} {params : Arguments} {body : Expr} {scope : Scope} {pos : Pos} (TB : LamX.TabB X.base X.mg c P) (hcode : X.env.code = .ref c) (hq : X.env.qual ++ "<lambda>" = q) (hdef : defaultsOf params X.env = ([], []) := by rfl)
    (hfr : ∀ y ∈ scope.names, y.2 = .free → ∃ c, X.env.cells.lookup y.1 = some c) (hcl : cloFrom X.env.cells scope.names [] = [] := by rfl) : PE X (.Lambda params body scope pos) (tLam P q params body scope) := by
  refine ⟨fun pins s σ H Q I h => ?_⟩
  obtain ⟨hT, h⟩ := h
  exact lam_mk I TB hcode hq hT hdef hfr hcl fun f c' H1 s' J k T n co => ⟨.ref f, _, J, rfl, h f c' H1 k T n co⟩
end
end Mk

set_option Elab.async false
set_option linter.all false
set_option maxRecDepth 100000
set_option maxHeartbeats 4000000
/-! ## f-strings over lists of signs -/
namespace K28
open PySem PySem.Spec PyProof.Rows L2
abbrev num (n : Nat) : List Nat := TL.numL n
/-- a natural number as a value -/
abbrev vN (n : Nat) : V := .int (n : Int)
/-- what {x} shows -/
def Sh (x : V) (l : List Nat) : Prop := x = .str (S l) ∨ ∃ n : Nat, x = .int (n : Int) ∧ n < 10 ^ 70 ∧ l = num n
theorem num_str (n : Nat) : (toString (n : Int) : String) = (toString (n : Int) : String) := rfl
theorem log_small {n : Nat} (h : n < 10 ^ 70) : n.log2 < 1920 := by
  by_cases h0 : n = 0
  · subst h0
    decide
  · exact (Nat.log2_lt h0).mpr (Nat.lt_of_lt_of_le h (by decide +kernel))
def tShow (te : TE) : TE := fun σ H Q => te σ H fun x H1 => ∃ l : List Nat, Sh x l ∧ l.length ≤ 100000 ∧ Q (.str (S l)) H1
section
variable {X : Cx}
theorem pe_show {e : Expr} {te : TE} {pos : Pos} (he : PE X e te) : PE X (.FormattedValue e (-1) none pos) (tShow te) := by
  refine ⟨fun pins s σ H Q I h => ?_⟩
  refine wpAny_FormattedValue_plain (thn (he.run pins s σ H _ I h) fun v s1 ⟨x, H1, I1, r1, l, hs, hl, q⟩ => ?_)
  rcases hs with e | ⟨n, e, hn, el⟩
  · subst e
    obtain ⟨t, rfl⟩ := r1
    exact wpAny_formatField_str ⟨.str (S l), H1, I1, ⟨t, rfl⟩, q⟩ ⟨.str (S l), H1, I1.tok _, ⟨_, rfl⟩, q⟩ (sz_ok hl)
  · subst e
    subst el
    obtain ⟨t, rfl⟩ := r1
    have q' : Q (.str (toString (n : Int))) H1 := by
      rw [show ((toString (n : Int) : String) : Str) = S (num n) from SX.num_S n]
      exact q
    exact wpAny_formatField_int (by show ((n : Nat) : Int).natAbs.log2 < 1920; exact log_small hn) ⟨.str (toString (n : Int)), H1, I1.tok _, ⟨_, rfl⟩, q'⟩
/-- the parts' judgements: each gives a text -/
def tJS : List TE → List Nat → L2.St → Hp → (List Nat → Hp → Prop) → Prop
  | [], acc, _, H, Q => Q acc H
  | t :: ts, acc, σ, H, Q => t σ H fun x H1 => ∃ l : List Nat, x = .str (S l) ∧ (acc ++ l).length ≤ 100000 ∧ tJS ts (acc ++ l) σ H1 Q
theorem pjS_run {pins : List (Addr × Obj)} {σ : L2.St} {es : List Expr} {ts : List TE} (h : PJ X es ts) : ∀ (acc : List Nat) (s : Shared) (H : Hp) (Q : List Nat → Hp → Prop) (R : Str → Shared → Prop), acc.length ≤ 100000 → Inv X pins σ H s → tJS ts acc σ H Q →
    (∀ out s1 H1, out.length ≤ 100000 → Inv X pins σ H1 s1 → Q out H1 → R (S out) s1) → Joins (model X.prog X.w) X.A X.xe (evalEach es X.env) (S acc) R s := by
  induction h with
  | nil =>
    intro acc s H Q R hz I q k
    rw [show evalEach [] X.env = [] from by first | rfl | simp [evalEach]]
    exact k acc s H hz I q
  | @cons e t es ts he r ih =>
    intro acc s H Q R hz I q k
    rw [show evalEach (e :: es) X.env = eval e X.env :: evalEach es X.env from by first | rfl | simp [evalEach]]
    refine thn (he.run pins s σ H _ I q) fun v s1 ⟨x, H1, I1, r1, l, e, hy, q1⟩ => ?_
    subst e
    obtain ⟨tk, rfl⟩ := r1
    exact ⟨S l, tk, rfl, by rw [S_app]; exact sz_ok hy, by rw [S_app]; exact ih (acc ++ l) s1 H1 Q R hy I1 q1 k⟩
theorem pe_joinS {v1 v2 : Expr} {rest : List Expr} {ts : List TE} {pos : Pos} (h : PJ X (v1 :: v2 :: rest) ts) : PE X (.JoinedStr (v1 :: v2 :: rest) pos) (fun σ H Q => tJS ts [] σ H fun out H1 => Q (.str (S out)) H1) := by
  refine ⟨fun pins s σ H Q I q => ?_⟩
  exact wpAny_JoinedStr (pjS_run h [] s H (fun out H1 => Q (.str (S out)) H1) _ (Nat.zero_le _) I q fun out s1 H1 hz I1 q1 => ⟨sz_ok hz, .str (S out), H1, I1.tok _, ⟨_, rfl⟩, q1⟩)
/-- a written text -/
theorem pe_strS {z : Str} {j : Nat} {p : Pos} : PE X (.Constant (.str z) j p) (tC (.str (S z.cps.toList))) := by
  rw [← S_of z]
  exact pe_str
end
section
variable {X : Cx}
/-- str(n) -/
theorem call_strN : CallR X (.type "str") (fun xs H Q => ∃ n : Nat, xs = [.int (n : Int)] ∧ n < 10 ^ 70 ∧ Q (.str (S (num n))) H) := fun pins s σ H vs us Q I r h => call_str_int pins s σ H vs us Q I r (by
  obtain ⟨n, e, hn, q⟩ := h
  refine ⟨_, e, by show ((n : Nat) : Int).natAbs.log2 < 1920; exact log_small hn, ?_⟩
  rw [show ((toString (n : Int) : String) : Str) = S (num n) from SX.num_S n]
  exact q)
end
/-! ## an entry of a block -/
/-- all differences are d -/
def stepsB (d : Nat) : List Nat → Bool
  | a :: b :: r => (b - a == d) && stepsB d (b :: r)
  | _ => true
def adjL (f : Nat → Nat → Bool) : List Nat → List Bool
  | a :: b :: r => f a b :: adjL f (b :: r)
  | _ => []
theorem fm_adj (f : Nat → Nat → Bool) : ∀ l : List Nat, (List.range (l.length - 1)).filterMap (fun i => (l[i]?).bind fun x => (l.tail[i]?).map fun y => V.bl (f x y)) = (adjL f l).map V.bl
  | [] => rfl
  | [_] => rfl
  | a :: b :: r => by
    have ih := fm_adj f (b :: r)
    rw [show (a :: b :: r).length - 1 = (b :: r).length - 1 + 1 from rfl, List.range_succ_eq_map, List.filterMap_cons]
    show V.bl (f a b) :: _ = V.bl (f a b) :: (adjL f (b :: r)).map V.bl
    congr 1
    rw [← ih, List.filterMap_map]
    rfl
theorem steps_adj (d : Nat) : ∀ l : List Nat, (adjL (fun x y => y - x == d) l).all id = stepsB d l
  | [] => rfl
  | [_] => rfl
  | a :: b :: r => by
    have ih := steps_adj d (b :: r)
    show ((b - a == d) && (adjL (fun x y => y - x == d) (b :: r)).all id) = ((b - a == d) && stepsB d (b :: r))
    rw [ih]
def lastN (l : List Nat) : Nat := l.getLast?.getD 0
/-- the text of a block, where it is one entry -/
def entryM : List Nat → Option (List Nat)
  | [] => none
  | [a] => some (num a)
  | a :: b :: r => if stepsB (b - a) (a :: b :: r) = true then some (num a ++ 45 :: num (lastN (b :: r)) ++ (if b - a = 1 then [] else 58 :: num (b - a))) else none
def optS : Option (List Nat) → V
  | none => .non
  | some l => .str (S l)
/-- a row of indices -/
structure IxN (ns : List Nat) : Prop where
  lo : 1 ≤ ns.length
  hi : ns.length ≤ 60
  bd : ∀ n ∈ ns, n ≤ 9999
  up : ns.Pairwise (· < ·)
def spEntryOf (K : PySem.W.Frag) : Sp := fun vs H Q _ => ∃ (a : Addr) (ns : List Nat), vs = [.ref a] ∧ SqT K H a (ns.map vN) ∧ IxN ns ∧ ∀ H', Same H H' → Q (optS (entryM ns)) H'
section
variable {P : Program} {w : World} {K : PySem.W.Frag} {mg : Str → Option Value} {base : Heap}
theorem ok_entry_of (T : Tx K mg) : Fk P w K mg base "entry_of" 2 ["block"] (spEntryOf K) := by
  refine Fk.mk0 T.g_entry_of T.d_entry_of sc_entry_of (fun vs H Q E h => ?_) (fun _ _ _ _ _ _ us hl => match us, hl with | [_], _ => rfl) fun cdv A outer s H vs Q E hr h => ⟨_,
      (pss_cons (ps_if (pt_cmpR op_eq (pe_callB call_len (by rfl) T.m_len boot_len (pa_cons (pv 0) pa_nil)) pe_int (nomark _)) (pss_one (ps_ret (pe_callTy call_strN (by rfl) T.m_str (by decide +kernel) (pa_cons (pe_ix ix_tup (pv 0) pe_int (fun _ _ => rfl)) pa_nil)))) pss_nil)
      (pss_cons (ps_set (i := 1) sc_entry_of.nd rfl (Or.inr rfl) (pe_op op_sub (pe_ix ix_tup (pv 0) pe_int (fun _ _ => rfl)) (pe_ix ix_tup (pv 0) pe_int (fun _ _ => rfl))))
      (pss_cons (ps_if (pt_not (pt_val (pe_callB (cr_all rfl) (by rfl) T.m_all (by decide +kernel) (pa_cons (pe_lc (own := [("one", 3), ("later", 4)]) (g := gTup K 2 (gCons (gName 3) (gCons (gName 4) (gNil)))) rfl sc_entry_of.nd (RZ.pi_zipA (by rfl) T.m_zip (pa_cons (pv 0) (pa_cons (pe_slice sl_tupN (pv 0) (po_some pe_int) po_none) pa_nil))) (blkOk_by (own := [("one", 3), ("later", 4)]) (N := N_entry_of) (sc := defScope s_entry_of) (by decide +kernel)) (fun _ _ _ _ _ => (pg_tup rfl (pgs_cons (pg_name (i := 3) sc_entry_of.nd rfl (Or.inl rfl)) (pgs_cons (pg_name (i := 4) sc_entry_of.nd rfl (Or.inl rfl)) pgs_nil)))) (fun _ _ _ _ _ => pts_nil) (fun _ _ _ _ _ => (pe_cmpR op_eq (pe_op op_sub (pv 4) (pv 3)) (pv 1) (nomark _)))) pa_nil)))) (pss_one (ps_ret pe_non)) pss_nil)
      (pss_cons (ps_set (i := 2) sc_entry_of.nd rfl (Or.inl rfl) (pe_joinS (PJ.cons (pe_show (pe_ix ix_tup (pv 0) pe_int (fun _ _ => rfl))) (PJ.cons pe_strS (PJ.cons (pe_show (pe_ix ix_tup (pv 0) (pe_un un_neg pe_int) (fun _ _ => rfl))) PJ.nil)))))
      (pss_one (ps_ret (pe_ifExp (pt_cmpR op_eq (pv 1) pe_int (nomark _)) (pv 2) (pe_joinS (PJ.cons (pe_show (pv 2)) (PJ.cons pe_strS (PJ.cons (pe_show (pv 1)) PJ.nil))))))))))), ?_⟩
  · obtain ⟨_, _, rfl, _⟩ := h
    rfl
  · obtain ⟨a, ns, rfl, hS, ix, q⟩ := h
    have hlen : (ns.map vN).length = ns.length := List.length_map ..
    have b70 : ∀ {n : Nat}, n ≤ 9999 → n < 10 ^ 70 := fun h => Nat.lt_of_le_of_lt h (by decide +kernel)
    have nl : ∀ {n : Nat}, n ≤ 9999 → (num n).length ≤ 4 := fun h => TL.numL_len (by decide) (Nat.lt_of_le_of_lt h (by decide))
    refine ⟨_, rfl, _, _, rfl, len_t hS, rfl, _, rfl, ?_⟩
    rw [hlen]
    match ns, ix, hS, q, hlen with
    | [], ix, _, _, _ => exact absurd ix.lo (by decide)
    | [n], ix, hS, q, hlen =>
      exact ifT (decide_eq_true rfl) ⟨_, rfl, a, _, _, _, rfl, rfl, hS, atI_nat (j := 0) rfl, n, rfl, b70 (ix.bd n (List.mem_cons_self ..)), q H (Same.refl H)⟩
    | n :: m :: r, ix, hS, q, hlen =>
      have hnm : n < m := (List.pairwise_cons.mp ix.up).1 m (List.mem_cons_self ..)
      have bn := ix.bd n (List.mem_cons_self ..)
      have bm := ix.bd m (List.mem_cons_of_mem _ (List.mem_cons_self ..))
      have hi := ix.hi
      refine ifF (decide_eq_false fun z => by injection z with z; simp at z; omega) ⟨_, rfl, a, _, _, _, rfl, rfl, hS, atI_nat (j := 1) rfl, _, rfl, a, _, _, _, rfl, rfl, hS, atI_nat (j := 0) rfl, _, _, rfl, rfl, ?_⟩
      dsimp only
      rw [show ((m : Int) - (n : Int)) = ((m - n : Nat) : Int) by omega]
      refine ⟨_, rfl, _, rfl, _, rfl, a, _, rfl, hS, fun p H2 e2 hp => ⟨_, _, _, _, rfl, .inr ⟨(ordS (K := K)).sqT e2 hS, hp, fun D2 hD2 => ?_⟩⟩⟩
      have hc : cutV ((n :: m :: r).map vN) (some 1) none = (m :: r).map vN := cutV_from _ 1
      rw [hc] at hp
      have hl2 : (r.length + 1) = min ((n :: m :: r).map vN).length ((m :: r).map vN).length := by simp
      refine lc_pure (ordS (K := K)) (walk_zipT (K := K) (n := r.length + 1) (xs := (n :: m :: r).map vN) (ys := (m :: r).map vN) hl2) (fun i => ((n :: m :: r)[i]?).bind fun x => ((m :: r)[i]?).map fun y => V.bl (y - x == m - n)) hD2 (by simp at hi; omega)
          (fun H3 e3 => ⟨(ordS (K := K)).sqT (e2.trans e3) hS, (ordS (K := K)).sqT e3 hp⟩) (fun i x H3 H4 Fin No hi e3 hy hF hN => ?_) fun H3 e3 hl3 => ?_
      · obtain ⟨t, x, y, rfl, ht, rfl, hx, hy⟩ := hy
        obtain ⟨x, hn, rfl⟩ := map_get hx
        obtain ⟨y, hm, rfl⟩ := map_get hy
        refine ⟨_, _, rfl, .of upd_same, rfl, _, _, rfl, _, _, rfl, rfl, rfl, ⟨_, rfl, _, rfl, _, _, rfl, rfl, _, rfl, rfl, ?_⟩⟩
        refine hF _ _ ?_ (Same.new ht)
        have hxy : x < y := by
          have h3 := ix.up
          rw [List.pairwise_iff_getElem] at h3
          obtain ⟨g1, g2⟩ := List.getElem?_eq_some_iff.mp hn
          obtain ⟨g3, g4⟩ := List.getElem?_eq_some_iff.mp hm
          have := h3 i (i + 1) g1 (by simp at g3 ⊢; omega) (by omega)
          rw [g2] at this
          rw [← g4]
          simpa using this
        rw [hn]
        show ((m :: r)[i]?).map (fun y => V.bl (y - x == m - n)) = _
        rw [hm]
        show some (V.bl (y - x == m - n)) = some (V.bl (decide (V.int ((y : Int) - (x : Int)) = V.int ((m - n : Nat) : Int))))
        congr 2
        rw [Bool.eq_iff_iff, beq_iff_eq, decide_eq_true_iff]
        constructor
        · intro e
          congr 1
          omega
        · intro e
          injection e with e
          omega
      · refine ⟨D2, adjL (fun x y => y - x == m - n) (n :: m :: r), rfl, .of (hl3.trans ?_), ?_⟩
        · have e := fm_adj (fun x y => y - x == m - n) (n :: m :: r)
          rw [show (n :: m :: r).length - 1 = r.length + 1 from rfl] at e
          rw [← e]
          rfl
        · have es : (adjL (fun x y => y - x == m - n) (n :: m :: r)).all id = stepsB (m - n) (n :: m :: r) := steps_adj _ _
          rw [es]
          have qe : entryM (n :: m :: r) = if stepsB (m - n) (n :: m :: r) = true then some (num n ++ 45 :: num (lastN (m :: r)) ++ (if m - n = 1 then [] else 58 :: num (m - n))) else none := rfl
          rw [qe] at q
          by_cases hst : stepsB (m - n) (n :: m :: r) = true
          · rw [if_pos hst] at q
            rw [hst]
            have hS3 := (ordS (K := K)).sqT (e2.trans e3) hS
            have hlast : lastN (m :: r) ≤ 9999 := by
              refine ix.bd _ (List.mem_cons_of_mem _ ?_)
              unfold lastN
              rw [List.getLast?_eq_some_getLast (List.cons_ne_nil m r)]
              exact List.getLast_mem _
            have hat : atI ((n :: m :: r).map vN) (-1) = some (vN (lastN (m :: r))) := by
              have e := List.dropLast_concat_getLast (l := n :: m :: r) (List.cons_ne_nil _ _)
              rw [← e, List.map_append]
              have e4 : (n :: m :: r).getLast (List.cons_ne_nil _ _) = lastN (m :: r) := by
                unfold lastN
                rw [List.getLast_cons (List.cons_ne_nil m r), List.getLast?_eq_some_getLast (List.cons_ne_nil m r)]
                rfl
              rw [e4]
              exact atI_last _ _
            have l1 := nl bn
            have l2 := nl hlast
            have l3 : (num (m - n)).length ≤ 4 := nl (by omega)
            refine ⟨_, rfl, iteF ⟨_, rfl, a, _, _, _, rfl, rfl, hS3, atI_nat (j := 0) rfl, num n, .inr ⟨n, rfl, b70 bn, rfl⟩, by omega, num n, rfl, by simp; omega, [45], rfl, by simp; omega, _, rfl, _, rfl, a, _, _, _, rfl, rfl, hS3, hat, num (lastN (m :: r)), .inr ⟨_, rfl, b70 hlast, rfl⟩, by omega, _, rfl, by simp; omega, ?_⟩⟩
            refine ⟨_, rfl, rfl, _, rfl, ?_⟩
            by_cases h1 : m - n = 1
            · rw [if_pos h1] at q
              refine ifT (decide_eq_true (by rw [h1] <;> rfl)) ⟨_, rfl, ?_⟩
              have z := q H3 (e2.trans e3)
              simpa [optS] using z
            · rw [if_neg h1] at q
              refine ifF (decide_eq_false fun z => by injection z with z; omega) ⟨_, rfl, _, .inl rfl, by simp; omega, _, rfl, by simp; omega, [58], rfl, by simp; omega, _, rfl, num (m - n), .inr ⟨_, rfl, b70 (by omega), rfl⟩, by omega, _, rfl, by simp; omega, ?_⟩
              have z := q H3 (e2.trans e3)
              simp only [tJS]
              simpa [optS] using z
          · rw [if_neg hst] at q
            rw [Bool.not_eq_true _ |>.mp hst]
            exact ⟨_, rfl, iteT (q H3 (e2.trans e3))⟩
end
end K28

set_option Elab.async false
set_option linter.all false
set_option maxRecDepth 100000
set_option maxHeartbeats 4000000
namespace K28
open PySem PySem.Spec PyProof.Rows L2
abbrev mRow (K : PySem.W.Frag) (m : Str) : Addr := He.ma K (cRow K) m
/-- a property of the class Row -/
structure PropF (K : PySem.W.Frag) (f : Str) (g : Addr) : Prop where
  ex : ∃ p rest, PySem.W.findIn K (.ref (cRow K)) f = some (some (.ref p)) ∧ PySem.W.specialIn K (.ref p) "__get__" = some (some (.builtin "property.__get__")) ∧ PySem.W.takesIn K (.ref p) = some true ∧ PySem.W.recIn K p "property" = some (.ref g :: rest)
/-- .. and the classes -/
structure Ty (K : PySem.W.Frag) (mg : Str → Option Value) : Prop extends Tx K mg where
  pe : Er.TxtParseError K mg (cPE K) (He.ma K (cPE K) "__init__")
  tm : Er.TxtTooMany K mg (cTM K) (He.ma K (cTM K) "__init__")
  exP : PySem.W.exmAny K (.ref (cPE K)) [.ref (cPE K), .ref (cTM K)] = some true
  exT : PySem.W.exmAny K (.ref (cTM K)) [.ref (cPE K), .ref (cTM K)] = some true
  g_Row : mg "Row" = some (.ref (cRow K))
  g_Amounts : mg "Amounts" = some (.ref (cAm K))
  row_c : SlX.SCls K (cRow K)
  row_k : SlX.SIsi K (cRow K)
  row_m : Mk K (cRow K) (mRow K "__init__")
  row_f : ∃ fd, FunD K "__init__" "Row.__init__" (defArgs s_Row_init) (defBody s_Row_init) (defScope s_Row_init) [] [("at_once", .non)] (mRow K "__init__") fd
  row_0 : ∃ p, SlX.Slot1 K (cRow K) "own_amounts" p 0
  row_1 : ∃ p, SlX.Slot1 K (cRow K) "own_first" p 1
  row_2 : ∃ p, SlX.Slot1 K (cRow K) "own_indices" p 2
  row_3 : ∃ p, SlX.Slot1 K (cRow K) "own_kind" p 3
  row_4 : ∃ p, SlX.Slot1 K (cRow K) "own_most" p 4
  row_5 : ∃ p, SlX.Slot1 K (cRow K) "own_numbers" p 5
  am_c : SlX.SCls K (cAm K)
  am_m : Mk K (cAm K) (He.ma K (cAm K) "__init__")
  am_f : ∃ (d0 : Addr) (o : Obj) (n : Nat) (fd : FuncData), FunD K "__init__" "Amounts.__init__" (defArgs s_Amounts_init) (defBody s_Amounts_init) (defScope s_Amounts_init) [.ref d0] [] (He.ma K (cAm K) "__init__") fd ∧ K.lookup d0 = some o ∧ o.cls = .type "tuple" ∧ o.dict = none ∧ o.data = .seq #[] n
  am_0 : ∃ p, SlX.Slot1 K (cAm K) "own_pairs" p 0
  am_1 : ∃ p, SlX.Slot1 K (cAm K) "own_table" p 1
  pr_first : ∃ g fd, PropF K "first" g ∧ FunD K "first" "Row.first" (defArgs s_Row_first) (defBody s_Row_first) (defScope s_Row_first) [] [] g fd
  pr_indices : ∃ g fd, PropF K "indices" g ∧ FunD K "indices" "Row.indices" (defArgs s_Row_indices) (defBody s_Row_indices) (defScope s_Row_indices) [] [] g fd
  pr_numbers : ∃ g fd, PropF K "numbers" g ∧ FunD K "numbers" "Row.numbers" (defArgs s_Row_numbers) (defBody s_Row_numbers) (defScope s_Row_numbers) [] [] g fd
  mt_number_of : Meth K (cRow K) "number_of" (mRow K "number_of") ∧ ∃ fd, FunD K "number_of" "Row.number_of" (defArgs s_Row_number_of) (defBody s_Row_number_of) (defScope s_Row_number_of) [] [] (mRow K "number_of") fd
  mt_index_of : Meth K (cRow K) "index_of" (mRow K "index_of") ∧ ∃ fd, FunD K "index_of" "Row.index_of" (defArgs s_Row_index_of) (defBody s_Row_index_of) (defScope s_Row_index_of) [] [] (mRow K "index_of") fd
  mt_contains : Meth K (cRow K) "__contains__" (mRow K "__contains__") ∧ ∃ fd, FunD K "__contains__" "Row.__contains__" (defArgs s_Row_contains) (defBody s_Row_contains) (defScope s_Row_contains) [] [] (mRow K "__contains__") fd
/-- .. and the two defs that make code objects -/
structure Tz (K : PySem.W.Frag) (mg : Str → Option Value) (base : Heap) : Prop extends Ty K mg where
  tl : LamX.TabB base mg (cL K).1 (cL K).2
  tr : GxR.TabB base mg (cR K).1 (cR K).2
section
variable {P : Program} {w : World} {K : PySem.W.Frag} {mg : Str → Option Value} {base : Heap}
/-- a def that must know its own code object -/
theorem Fk.mkC {x : Str} {st : Stmt} {k : Nat} {N ps : List Str} {sp : Sp} (g : mg x = some (.ref (He.ga K x))) (d : FnP K x x st [] [] (He.ga K x)) (S : FnScope N ps (defScope st)) (len : ∀ vs H Q E, sp vs H Q E → vs.length = ps.length)
    (hb : ∀ (kV doc pm : Value) (an : Option Addr) (cdv ct : Value) (us : List Value), us.length = ps.length → bindArgs (PySem.W.fnOf x x (defArgs st) (defBody st) (defScope st) .none kV doc pm an cdv ct) ⟨us, []⟩ = pure (ps.zip us))
    (hbody : ∀ (A : Around) (outer : List Env) (s : Shared) (H : Hp) (vs : List V) (Q : VK) (E : XK), Room k (A.deeper (envOfC x (defScope st) s.heap.objs.size (He.ga K x) (.ref (He.cT K (x, none)).1))) → sp vs H Q E →
      ∃ t, PSs (cxOf (L2.CX P w) P w K mg base N x (defScope st) (He.ga K x) (.ref (He.cT K (x, none)).1) A outer s H E).nox (defBody st) t ∧ t { nx := fun _ H' => Q .non H', rt := Q } (start N vs) H) : Fk P w K mg base x (k + 1) ps sp := by
  obtain ⟨fd, F⟩ := d
  obtain ⟨oc, od, dV, kV, doc, pm, an, cdv, ct, osl, rfl, lk, hcd, hD, hK⟩ := _root_.id F.ex
  refine ⟨_, _, g, F.kp, ?_, F.bindsN hb⟩
  obtain ⟨c, rfl⟩ := He.codeIn_ref hcd
  have e : (He.cT K (x, none)).1 = c := He.codeOf_eq (p := (x, none)) lk rfl
  rw [e] at hbody
  exact fn_of lk hcd S len fun A outer s H vs Q E hr hsp => (by
    obtain ⟨t, h1, h2⟩ := hbody A outer s H vs Q E hr hsp
    exact ⟨t, h1.nox, h2⟩)
/-! ## the shortest text of a row of indices -/
def waysM (s : List Nat) (tab : List (List Nat)) : Nat → Nat → List (List Nat)
  | 0, _ => []
  | n + 1, k => match entryM (s.take k) with
    | none => []
    | some e => (if n = 0 then e else e ++ 44 :: tab.getD (k - 1) []) :: waysM s tab n (k + 1)
/-- the shortest texts of all that is left from each place on -/
def bests : List Nat → List (List Nat)
  | [] => [[]]
  | a :: r => Mk.minW (waysM (a :: r) (bests r) (r.length + 1) 1) :: bests r
def leastM (l : List Nat) : List Nat := (bests l).headD []
/-- the lambda of the text -/
def lamP : Arguments × Expr × Scope := match defBody s_least_text with
  | [_, _, .For _ _ [_, _, .Assign _ (.Call _ _ [⟨_, .Lambda p b sc _, _⟩] _) _] _ _, _] => (p, b, sc)
  | _ => (defArgs s_least_text, .Constant .none 0 ⟨0, 0, 0, 0⟩, defScope s_least_text)
theorem koL {X : Cx} (hr : Room 2 X.A) (hl : X.mg "len" = none) : Mk.KeyOk X "text" "least_text.<locals>.<lambda>" lamP.1 lamP.2.1 lamP.2.2 :=
  ⟨hr, ⟨rfl, rfl, rfl, by decide +kernel, rfl, by decide +kernel, by decide +kernel⟩, fun _ _ _ _ => rfl, fun A outer s H f cd => ⟨_, pe_tup (pa_cons (pe_callB call_len (by rfl) hl boot_len (pa_cons (pv 0) pa_nil)) (pa_cons (pv 0) pa_nil)), fun H1 z Q hz q => ⟨_, rfl, _, _, rfl, ⟨sz_ok hz, rfl⟩, _, rfl, (by show 2 ≤ sizeLine; rw [sizeLine_eq]; omega), fun t ht => q t ht⟩⟩⟩
theorem lam_free : ∀ y ∈ lamP.2.2.names, y.2 ≠ .free := by decide +kernel
theorem num_len {n : Nat} (h : n ≤ 9999) : (num n).length ≤ 4 := TL.numL_len (by decide) (Nat.lt_of_le_of_lt h (by decide))
theorem last_mem {a : Nat} {l : List Nat} : lastN (a :: l) ∈ a :: l := by
  unfold lastN
  rw [List.getLast?_eq_some_getLast (List.cons_ne_nil a l)]
  exact List.getLast_mem _
theorem entry_len {l e : List Nat} (b : ∀ n ∈ l, n ≤ 9999) (h : entryM l = some e) : e.length ≤ 14 := by
  match l, b, h with
  | [a], b, h =>
    have e1 : num a = e := Option.some.inj h
    rw [← e1]
    have := num_len (b a (List.mem_cons_self ..))
    omega
  | n :: m :: r, b, h =>
    have h : (if stepsB (m - n) (n :: m :: r) = true then some (num n ++ 45 :: num (lastN (m :: r)) ++ (if m - n = 1 then [] else 58 :: num (m - n))) else none) = some e := h
    split at h
    · have e1 := Option.some.inj h
      rw [← e1]
      have l1 := num_len (b n (List.mem_cons_self ..))
      have l2 := num_len (b _ (List.mem_cons_of_mem _ (last_mem (a := m) (l := r))))
      have l4 := b m (List.mem_cons_of_mem _ (List.mem_cons_self ..))
      have l3 : (num (m - n)).length ≤ 4 := num_len (by omega)
      split <;> simp <;> omega
    · cases h
theorem ways_mem {s x : List Nat} {tab : List (List Nat)} : ∀ {n k : Nat}, x ∈ waysM s tab n k → ∃ j e, k ≤ j ∧ j < k + n ∧ entryM (s.take j) = some e ∧ (x = if j + 1 = k + n then e else e ++ 44 :: tab.getD (j - 1) [])
  | 0, k, h => by cases h
  | n + 1, k, h => by
    unfold waysM at h
    split at h
    · cases h
    · rename_i e he
      rcases List.mem_cons.mp h with h | h
      · refine ⟨k, e, Nat.le_refl _, by omega, he, ?_⟩
        rw [h]
        by_cases h0 : n = 0
        · rw [if_pos h0, if_pos (by omega)]
        · rw [if_neg h0, if_neg (by omega)]
      · obtain ⟨j, e, h1, h2, h3, h4⟩ := ways_mem h
        refine ⟨j, e, by omega, by omega, h3, ?_⟩
        rw [h4]
        by_cases h0 : j + 1 = k + 1 + n
        · rw [if_pos h0, if_pos (by omega)]
        · rw [if_neg h0, if_neg (by omega)]
theorem ways_ne {s : List Nat} {tab : List (List Nat)} {n : Nat} (h : s ≠ []) : waysM s tab (n + 1) 1 ≠ [] := by
  cases s with
  | nil => exact absurd rfl h
  | cons a r =>
    unfold waysM
    show (match some (num a) with | none => [] | some e => _) ≠ []
    exact List.cons_ne_nil _ _
theorem bests_len (s : List Nat) : (bests s).length = s.length + 1 := by
  induction s with
  | nil => rfl
  | cons a r ih =>
    show (bests r).length + 1 = _
    rw [ih] <;> rfl
theorem bests_small (s : List Nat) (b : ∀ n ∈ s, n ≤ 9999) : ∀ x ∈ bests s, x.length ≤ 15 * s.length := by
  induction s with
  | nil =>
    intro x hx
    rw [List.mem_singleton.mp hx]
    exact Nat.zero_le _
  | cons a r ih =>
    have ih := ih fun n hn => b n (List.mem_cons_of_mem _ hn)
    intro x hx
    rcases List.mem_cons.mp hx with e | hx
    · have hm := Mk.minW_mem (ways_ne (s := a :: r) (tab := bests r) (n := r.length) (List.cons_ne_nil _ _))
      rw [← e] at hm
      obtain ⟨j, e1, h1, h2, h3, h4⟩ := ways_mem hm
      have l1 := entry_len (fun n hn => b n (List.mem_of_mem_take hn)) h3
      rw [h4]
      split
      · simp
        omega
      · have l2 : ((bests r).getD (j - 1) []).length ≤ 15 * r.length := by
          rw [List.getD_eq_getElem?_getD]
          cases q : (bests r)[j - 1]? with
          | none => exact Nat.zero_le _
          | some y => exact ih y (List.mem_of_getElem? q)
        rw [List.length_append, List.length_cons, List.length_cons]
        omega
    · have := ih x hx
      rw [List.length_cons]
      omega
theorem IxN.cut {ns : List Nat} (ix : IxN ns) (i k : Nat) (h : i + k ≤ ns.length) (hk : 0 < k) : IxN ((ns.drop i).take k) := by
  have hi := ix.hi
  refine ⟨?_, ?_, fun n hn => ix.bd n (List.mem_of_mem_drop (List.mem_of_mem_take hn)), (ix.up.sublist ((List.take_sublist _ _).trans (List.drop_sublist _ _)))⟩
  · rw [List.length_take, List.length_drop]
    omega
  · rw [List.length_take, List.length_drop]
    omega
/-- the table behind i turns -/
def tabV (ns : List Nat) (i : Nat) : List V := List.replicate (ns.length - i) (.str (S [])) ++ (bests (ns.drop (ns.length - i))).map fun z => .str (S z)
theorem tabV_len {ns : List Nat} {i : Nat} (h : i ≤ ns.length) : (tabV ns i).length = ns.length + 1 := by
  unfold tabV
  rw [List.length_append, List.length_replicate, List.length_map, bests_len, List.length_drop]
  omega
theorem tabV_at {ns : List Nat} {i j : Nat} (h : i ≤ ns.length) (hj : j ≤ i) : (tabV ns i)[ns.length - i + j]? = some (.str (S ((bests (ns.drop (ns.length - i))).getD j []))) := by
  unfold tabV
  rw [List.getElem?_append_right (by rw [List.length_replicate]; omega), List.length_replicate, show ns.length - i + j - (ns.length - i) = j by omega, List.getElem?_map, List.getD_eq_getElem?_getD]
  have hl := bests_len (ns.drop (ns.length - i))
  rw [List.length_drop] at hl
  have hj2 : j < (bests (ns.drop (ns.length - i))).length := by omega
  rw [List.getElem?_eq_getElem hj2]
  rfl
theorem tabV_step {ns : List Nat} {i : Nat} (h : i < ns.length) : (tabV ns i).set (ns.length - 1 - i) (.str (S (Mk.minW (waysM (ns.drop (ns.length - 1 - i)) (bests (ns.drop (ns.length - i))) (i + 1) 1)))) = tabV ns (i + 1) := by
  have hb : ns.length - 1 - i < ns.length := by omega
  have e1 : ns.drop (ns.length - 1 - i) = ns[ns.length - 1 - i] :: ns.drop (ns.length - i) := by
    rw [List.drop_eq_getElem_cons hb, show ns.length - 1 - i + 1 = ns.length - i by omega]
  have e2 : bests (ns.drop (ns.length - 1 - i)) = Mk.minW (waysM (ns.drop (ns.length - 1 - i)) (bests (ns.drop (ns.length - i))) (i + 1) 1) :: bests (ns.drop (ns.length - i)) := by
    rw [e1]
    show Mk.minW (waysM _ _ ((ns.drop (ns.length - i)).length + 1) 1) :: _ = _
    rw [List.length_drop, show ns.length - (ns.length - i) + 1 = i + 1 by omega]
  unfold tabV
  rw [show ns.length - (i + 1) = ns.length - 1 - i by omega, e2, show ns.length - i = ns.length - 1 - i + 1 by omega, List.replicate_succ', List.append_assoc]
  rw [List.set_append_right _ _ (by rw [List.length_replicate]; exact Nat.le_refl _), List.length_replicate, Nat.sub_self]
  rfl
theorem ixN_nat {n j : Nat} (h : j < n) : ixN n (j : Int) = some j := by
  unfold ixN
  rw [if_pos (by omega), if_pos (by omega)]
  simp
/-- a lambda has been made -/
theorem Le.lam {K : PySem.W.Frag} {H H1 : Hp} {f : Addr} {o : HO} (tb : TbOk K H) (k : ∀ b o, b ≠ (cL K).2 → H b = some o → H1 b = some o) (t : LamX.TabS H1 (cL K).2 "least_text.<locals>.<lambda>") (hf : H1 f = none) : Le K H (upd H1 f o) := by
  have e1 : Le K H H1 := by
    refine ⟨fun b u h n => k b u (fun z => ?_) h, fun _ => ⟨t, ?_, tb.ne⟩, fun b ps h => ?_⟩
    · obtain ⟨ps, h1, _⟩ := tb.lam
      rw [z, h1] at h
      exact n ps (Option.some.inj h).symm
    · obtain ⟨qs, g1, g2⟩ := tb.gen
      exact ⟨qs, k _ _ tb.ne g1, g2⟩
    · by_cases hb : b = (cL K).2
      · obtain ⟨ps, h1, _⟩ := t
        rw [hb]
        exact ⟨ps, h1⟩
      · exact ⟨ps, k _ _ hb h⟩
  exact e1.trans (Le.new hf)
def spLeast (K : PySem.W.Frag) : Sp := fun vs H Q _ => ∃ (a : Addr) (ns : List Nat), vs = [.ref a] ∧ SqT K H a (ns.map vN) ∧ IxN ns ∧ TbOk K H ∧ ∀ H', Le K H H' → Q (.str (S (leastM ns))) H'
theorem ok_least_text (T : Tz K mg base) : Fk Er.PRG w K mg base "least_text" 4 ["indices"] (spLeast K) := by
  refine Fk.mkC T.g_least_text T.d_least_text sc_least_text (fun vs H Q E h => ?_) (fun _ _ _ _ _ _ us hl => match us, hl with | [_], _ => rfl) fun A outer s H vs Q E hr h => ⟨_,
      (pss_cons (ps_set (i := 1) sc_least_text.nd rfl (Or.inl rfl) (pe_callB call_len (by rfl) T.m_len boot_len (pa_cons (pv 0) pa_nil)))
      (pss_cons (ps_set (i := 2) sc_least_text.nd rfl (Or.inl rfl) (pe_op op_rep (pe_lst (pa_cons pe_str pa_nil)) (pe_op op_add (pv 1) pe_int)))
      (pss_cons (ps_for PassesOwn.never rfl (pi_range3 (by rfl) T.m_range (pa_cons (pe_op op_sub (pv 1) pe_int) (pa_cons (pe_un un_neg pe_int) (pa_cons (pe_un un_neg pe_int) pa_nil)))) (pg_name (i := 3) sc_least_text.nd rfl (Or.inl rfl)) (pss_cons (ps_set (i := 4) sc_least_text.nd rfl (Or.inl rfl) (pe_lst pa_nil))
      (pss_cons (ps_for PassesOwn.never rfl (pi_range2 (by rfl) T.m_range (pa_cons (pe_op op_add (pv 3) pe_int) (pa_cons (pe_op op_add (pv 1) pe_int) pa_nil))) (pg_name (i := 5) sc_least_text.nd rfl (Or.inl rfl)) (pss_cons (ps_set (i := 6) sc_least_text.nd rfl (Or.inl rfl) (pe_f (ok_entry_of T.toTy.toTx) (hr.mono (by decide)) (pa_cons (pe_slice sl_tupN (pv 0) (po_some (pv 3)) (po_some (pv 5))) pa_nil)))
      (pss_cons (ps_if (pt_cmpR op_isN (pv 6) pe_non (nomark _)) (pss_one ps_break) pss_nil)
      (pss_one (ps_expr (pe_bm PySem.F.plainAttrs_list PySem.F.slot_list_append PySem.F.type_list_append mt_append (pv 4) (pa_cons (pe_ifExp (pt_cmpR op_eq (pv 5) (pv 1) (nomark _)) (pv 6) (pe_joinS (PJ.cons (pe_show (pv 6)) (PJ.cons pe_strS (PJ.cons (pe_show (pe_ix ix_list (pv 2) (pv 5) (fun _ _ => rfl))) PJ.nil))))) pa_nil)))))))
      (pss_one (ps_asg (pe_callBK (Mk.cr_minK (koL (hr.mono (by decide)) T.m_len)) (by rfl) T.m_min (by decide +kernel) (pa_cons (pv 4) pa_nil) (pk_cons (Mk.pe_lam (q := "least_text.<locals>.<lambda>") (params := lamP.1) (body := lamP.2.1) (scope := lamP.2.2) T.tl rfl rfl rfl (fun y hy e => absurd e (lam_free y hy)) rfl) pk_nil)) (pg_sub (pv 2) (pv 3) set_list))))))
      (pss_one (ps_ret (pe_ix ix_list (pv 2) pe_int (fun _ _ => rfl))))))), ?_⟩
  · obtain ⟨_, _, rfl, _⟩ := h
    rfl
  · obtain ⟨a, ns, rfl, hS, ix, tb, q⟩ := h
    have hlen : (ns.map vN).length = ns.length := List.length_map ..
    have h1 := ix.lo
    have h2 := ix.hi
    have O := ordL (K := K)
    refine ⟨_, rfl, _, _, rfl, len_t hS, ?_⟩
    rw [hlen]
    refine ⟨by show 1 ≤ sizeLine; rw [sizeLine_eq]; omega, fun p1 hp1 => ⟨_, rfl, _, _, rfl, rfl, p1, _, _, rfl, rfl, upd_same, by omega, by omega, by show 1 * _ ≤ _; rw [sizeLine_eq]; omega, fun bp hbp => ?_⟩⟩
    have e1 : Le K H (upd H p1 (.lst [.str (Str.ofString "")])) := Le.new hp1
    have hpb : H bp = none := by
      rw [upd_ne (ne_of_none upd_same hbp).symm] at hbp
      exact hbp
    have hrep : (List.replicate (((ns.length : Nat) : Int) + 1).toNat [V.str (Str.ofString "")]).flatten = tabV ns 0 := by
      rw [show (((ns.length : Nat) : Int) + 1).toNat = ns.length + 1 by omega]
      unfold tabV
      rw [Nat.sub_zero, List.drop_length]
      show _ = _ ++ [V.str (S [])]
      rw [← List.replicate_succ']
      generalize ns.length + 1 = k
      induction k with
      | zero => rfl
      | succ k ih =>
        rw [List.replicate_succ, List.flatten_cons, ih]
        rfl
    have hrg : RgC ((ns.length : Int) - 1) (-1) (-1) ns.length := by
      have z := RgC.neg (i := (ns.length : Int) - 1) (j := -1) (by omega) (by omega) (by decide) (by decide)
      rw [show ((ns.length : Int) - 1 - -1).toNat = ns.length by omega] at z
      exact z
    refine ⟨_, rfl, _, _, rfl, rfl, _, rfl, _, rfl, _, _, _, ns.length, rfl, hrg, ?_⟩
    refine for_it walk_rangeC (fun i σ H' => (∃ x3 x4 x5 x6, σ = [some (.ref a), some (.int ns.length), some (.ref bp), x3, x4, x5, x6]) ∧ Le K H H' ∧ H' bp = some (.lst (tabV ns i))) ⟨⟨_, _, _, _, rfl⟩, ((Same.new hp1).mut hpb).le, by rw [upd_same, hrep]⟩ (fun _ _ _ _ _ => trivial) (fun i x σ H1 H2 hi pv hy => ?_) fun σ H1 pv => ?_
    · obtain ⟨⟨x3, x4, x5, x6, rfl⟩, e2, hb⟩ := pv
      obtain ⟨rfl, rfl⟩ := hy
      dsimp only
      rw [show ((ns.length : Int) - 1 + (i : Nat) * (-1)) = ((ns.length - 1 - i : Nat) : Int) by omega]
      generalize hbd : ns.length - 1 - i = b
      refine ⟨Nat.zero_le _, fun w hw => ?_⟩
      refine ⟨_, rfl, _, _, rfl, rfl, _, rfl, _, _, rfl, rfl, _, _, rfl, ⟨by omega, by omega, by omega, by omega⟩, ?_⟩
      rw [show ((ns.length : Int) + 1 - ((b : Int) + 1)).toNat = i + 1 by omega]
      have hwb : w ≠ bp := (ne_of_none hb hw).symm
      have hHw : H w = none := e2.free hw
      obtain ⟨W, hWd⟩ : ∃ W, W = waysM (ns.drop b) (bests (ns.drop (ns.length - i))) (i + 1) 1 := ⟨_, rfl⟩
      refine (fun (fin : ∀ σ H3, ((∃ x5 x6, σ = [some (.ref a), some (.int ns.length), some (.ref bp), some (.int (b : Int)), some (.ref w), x5, x6]) ∧ Le K H H3 ∧ H3 bp = some (.lst (tabV ns i)) ∧ H3 w = some (.lst (W.map fun z => .str (S z)))) → _) =>
        for_it walk_range (fun j σ H3 => (∃ x5 x6, σ = [some (.ref a), some (.int ns.length), some (.ref bp), some (.int (b : Int)), some (.ref w), x5, x6]) ∧ Le K H H3 ∧ H3 bp = some (.lst (tabV ns i)) ∧ ∃ acc : List (List Nat), H3 w = some (.lst (acc.map fun z => .str (S z))) ∧ acc.length = j ∧ acc ++ waysM (ns.drop b) (bests (ns.drop (ns.length - i))) (i + 1 - j) (j + 1) = W)
          ⟨⟨_, _, rfl⟩, ?_, ?_, [], upd_same, rfl, hWd.symm⟩ (fun _ _ _ _ _ => trivial) (fun j x σ H3 H4 hj pv hy => ?_) fun σ H3 pv => fin σ H3 ?_) ?_
      · exact e2.trans (Le.new hw)
      · rw [upd_ne hwb.symm]
        exact hb
      · obtain ⟨⟨x5, x6, rfl⟩, e3, hb3, acc, hacc, hal, hW⟩ := pv
        obtain ⟨rfl, rfl⟩ := hy
        dsimp only
        rw [show ((b : Int) + 1 + (j : Nat)) = ((b + 1 + j : Nat) : Int) by omega]
        refine ⟨_, rfl, _, rfl, _, rfl, _, rfl, _, rfl, a, _, rfl, e3.sqT hS, fun p H4 e4 hp => ⟨p, (ns.drop b).take (j + 1), rfl, ?_, ix.cut b (j + 1) (by omega) (by omega), fun H5 e5 => ?_⟩⟩
        · have hc : cutV (ns.map vN) (some (b : Int)) (some ((b + 1 + j : Nat) : Int)) = ((ns.drop b).take (j + 1)).map vN := by
            rw [cutV_two, show b + 1 + j - b = j + 1 by omega, ← List.map_drop, ← List.map_take]
          rw [hc] at hp
          exact hp
        · rw [show i + 1 - j = (i - j) + 1 by omega] at hW
          unfold waysM at hW
          have e35 : Le K H H5 := e3.trans (e4.le.trans e5.le)
          have hb5 : H5 bp = some (.lst (tabV ns i)) := e5 _ _ (e4 _ _ hb3)
          have hw5 : H5 w = some (.lst (acc.map fun z => .str (S z))) := e5 _ _ (e4 _ _ hacc)
          cases hent : entryM ((ns.drop b).take (j + 1)) with
          | none =>
            rw [hent] at hW
            have hW : acc ++ [] = _ := hW
            rw [List.append_nil] at hW
            refine ⟨_, rfl, rfl, _, rfl, ifT (decide_eq_true rfl) (fin _ _ ⟨⟨_, _, rfl⟩, e35, hb5, ?_⟩)⟩
            rw [← hW]
            exact hw5
          | some e =>
            rw [hent] at hW
            dsimp only at hW
            have el := entry_len (fun n hn => ix.bd n (List.mem_of_mem_drop (List.mem_of_mem_take hn))) hent
            refine ⟨_, rfl, rfl, _, rfl, ifF (decide_eq_false fun z => nomatch z) ⟨_, rfl, .inl ⟨rfl, _, .inl (.inl hw5)⟩, _, rfl, _, rfl, rfl, _, rfl, ?_⟩⟩
            have hsl : (acc.map fun z => V.str (S z)).length < sizeLine := by
              rw [List.length_map, hal, sizeLine_eq]
              omega
            have hHb : H bp = none := hpb
            by_cases hij : i - j = 0
            · rw [if_pos hij] at hW
              refine ifT (decide_eq_true (by congr 1; omega)) ⟨_, rfl, w, _, _, rfl, rfl, hw5, hsl, ⟨_, _, rfl⟩, e35.mut hHw hw5, by rw [upd_ne hwb.symm]; exact hb5, acc ++ [e], by rw [upd_same, List.map_append] <;> rfl, by rw [List.length_append, hal] <;> rfl, ?_⟩
              rw [show i + 1 - (j + 1) = i - j by omega, ← hW]
              simp
            · rw [if_neg hij] at hW
              have hat : atI (tabV ns i) ((b + 1 + j : Nat) : Int) = some (.str (S ((bests (ns.drop (ns.length - i))).getD j []))) := by
                refine atI_nat ?_
                rw [show b + 1 + j = ns.length - i + j by omega]
                exact tabV_at (by omega) (by omega)
              have hsm : ((bests (ns.drop (ns.length - i))).getD j []).length ≤ 900 := by
                rw [List.getD_eq_getElem?_getD]
                cases q : (bests (ns.drop (ns.length - i)))[j]? with
                | none => exact Nat.zero_le _
                | some y =>
                  have z := bests_small _ (fun n hn => ix.bd n (List.mem_of_mem_drop hn)) y (List.mem_of_getElem? q)
                  rw [List.length_drop] at z
                  show y.length ≤ 900
                  omega
              refine ifF (decide_eq_false fun z => by injection z with z; omega) ⟨_, rfl, e, .inl rfl, by omega, e, rfl, by simp; omega, [44], rfl, by simp; omega, _, rfl, _, rfl, bp, _, _, _, rfl, rfl, .inl (.inl hb5), hat, _, .inl rfl, by omega, _, rfl, by rw [List.length_append, List.length_append, List.nil_append]; simp only [List.length_cons, List.length_nil]; omega, ?_⟩
              refine ⟨w, _, _, rfl, rfl, hw5, hsl, ⟨_, _, rfl⟩, e35.mut hHw hw5, by rw [upd_ne hwb.symm]; exact hb5, acc ++ [e ++ 44 :: (bests (ns.drop (ns.length - i))).getD j []], ?_, by rw [List.length_append, hal] <;> rfl, ?_⟩
              · rw [upd_same, List.map_append]
                simp
              · rw [show i + 1 - (j + 1) = i - j by omega, ← hW]
                simp
      · obtain ⟨hσ, e3, hb3, acc, hacc, hal, hW⟩ := pv
        rw [Nat.sub_self] at hW
        have hW : acc ++ [] = _ := hW
        rw [List.append_nil] at hW
        exact ⟨hσ, e3, hb3, by rw [← hW]; exact hacc⟩
      · rintro σ H3 ⟨⟨x5, x6, rfl⟩, e3, hb3, hw3⟩
        have tb3 := e3.tabs tb
        have hWne : W ≠ [] := by
          rw [hWd]
          refine ways_ne fun z => ?_
          have z2 := congrArg List.length z
          rw [List.length_drop] at z2
          simp at z2
          omega
        have hWs : ∀ z ∈ W, z.length ≤ 100000 := by
          intro z hz
          rw [hWd] at hz
          obtain ⟨k, e, g1, g2, g3, g4⟩ := ways_mem hz
          have el := entry_len (fun n hn => ix.bd n (List.mem_of_mem_drop (List.mem_of_mem_take hn))) g3
          rw [g4]
          split
          · omega
          · have hsm : ((bests (ns.drop (ns.length - i))).getD (k - 1) []).length ≤ 900 := by
              rw [List.getD_eq_getElem?_getD]
              cases q : (bests (ns.drop (ns.length - i)))[k - 1]? with
              | none => exact Nat.zero_le _
              | some y =>
                have z := bests_small _ (fun n hn => ix.bd n (List.mem_of_mem_drop hn)) y (List.mem_of_getElem? q)
                rw [List.length_drop] at z
                show y.length ≤ 900
                omega
            rw [List.length_append, List.length_cons]
            omega
        refine ⟨_, rfl, tb3.lam, fun f c' H4 k4 T4 hf4 hc4 => ?_⟩
        have e34 := Le.lam (o := Mk.LamO f "least_text.<locals>.<lambda>" lamP.1 lamP.2.1 lamP.2.2 c') tb3 k4 T4 hf4
        refine ⟨w, f, c', W, rfl, rfl, e34.lst hw3, hWne, hWs, upd_same, ?_, fun H5 e5 => ?_⟩
        · rw [upd_ne (ne_of_none hc4 hf4)]
          exact hc4
        · have hb5 : H5 bp = some (.lst (tabV ns i)) := e5 _ _ (e34.lst hb3)
          have e15 : Le K H H5 := e3.trans (e34.trans e5.le)
          refine ⟨_, rfl, _, rfl, bp, _, _, b, rfl, rfl, hb5, ixN_nat (by rw [tabV_len (by omega)]; omega), ⟨_, _, _, _, rfl⟩, e15.mut hpb hb5, ?_⟩
          rw [upd_same, ← tabV_step hi, hWd, hbd]
    · obtain ⟨⟨x3, x4, x5, x6, rfl⟩, e2, hb⟩ := pv
      have e : tabV ns ns.length = (bests ns).map fun z => .str (S z) := by
        unfold tabV
        rw [Nat.sub_self]
        rfl
      rw [e] at hb
      have hne : bests ns ≠ [] := fun z => by
        have := bests_len ns
        rw [z] at this
        simp at this
      obtain ⟨z, r, hz⟩ := List.exists_cons_of_ne_nil hne
      have hl : leastM ns = z := by
        unfold leastM
        rw [hz] <;> rfl
      rw [hz] at hb
      refine ⟨_, rfl, bp, _, _, _, rfl, rfl, .inl (.inl hb), atI_nat (j := 0) rfl, ?_⟩
      have q2 := q H1 e2
      rw [hl] at q2
      exact q2
end
end K28

set_option Elab.async false
set_option linter.all false
set_option maxRecDepth 100000
set_option maxHeartbeats 4000000
namespace K28
open PySem PySem.Spec PyProof.Rows L2
/-! ## a def that may raise, called -/
section
variable {X : Cx} {x : Str} {k : Nat} {ps : List Str} {sp : Sp} {p pos : Pos} {e : Expr} {es : List Expr} {t : TA} {W : WX}
theorem pe_fX (F : Fk X.prog X.w X.K X.mg X.base x k ps sp) (hr : Room k X.A) (tk : Takes X W) (ha : PA X (e :: es) t) (hg : Gl X x := by rfl) (hd : (x == ("__debug__" : Str)) = false := by decide)
    (hp : starEach (e :: es) X.env = (false, eval e X.env) :: starEach es X.env := by rfl) (hpl : (backTo pos (starEach es X.env)).any (·.1) = false := by rfl) : PE X (.Call (.Name x p) (e :: es) [] pos) (tCallS sp (WE W) t) := by
  obtain ⟨f, fd, h1, h2, h3, h4⟩ := F
  exact pe_callS h3 hr hg h1 h2 h4 (passAt tk) ha hd hp hpl
end
/-- a ParseError is taken, whatever its spot; only new things behind it -/
def RaP (K : PySem.W.Frag) (E : XK) (H : Hp) : Prop := ∀ d H', Same H H' → E (.ref (cPE K)) (some d) H'
theorem RaP.mono {K : PySem.W.Frag} {E : XK} {H H' : Hp} (r : RaP K E H) (e : Same H H') : RaP K E H' := fun d H2 e2 => r d H2 (e.trans e2)
/-! ## numbers in a text -/
/-- the digits ahead, n at most -/
def cntD : Nat → List Nat → Nat
  | 0, _ => 0
  | _ + 1, [] => 0
  | n + 1, c :: r => if isDig c = true then 1 + cntD n r else 0
/-- how many signs the number takes with which a text begins -/
def num1 : List Nat → Option Nat
  | [] => none
  | c :: r => if isDig c = true then some (if c = 48 then 1 else 1 + cntD 3 r) else none
theorem S_get (l : List Nat) : (S l).cps.toList = l := rfl
theorem cutS_two (l : List Nat) (i j : Nat) : cutS (S l) (some (i : Int)) (some (j : Int)) = S ((l.drop i).take (j - i)) := by
  unfold cutS
  rw [HT.sIx_nat, HT.sIx_nat, S_len]
  show (⟨_⟩ : Str) = S _
  have e : (List.drop (min i l.length) l).take (min j l.length - min i l.length) = (l.drop i).take (j - i) := by
    by_cases h : i ≤ l.length
    · rw [Nat.min_eq_left h]
      by_cases hj : j ≤ l.length
      · rw [Nat.min_eq_left hj]
      · rw [Nat.min_eq_right (by omega), List.take_of_length_le (by simp), List.take_of_length_le (by simp; omega)]
    · have e : min i l.length = l.length := Nat.min_eq_right (by omega)
      rw [e, List.drop_eq_nil_of_le (by omega : l.length ≤ i), List.drop_length]
      simp
  exact congrArg S e
theorem cutS_one (l : List Nat) (i : Nat) : cutS (S l) (some (i : Int)) (some ((i : Int) + 1)) = S ((l.drop i).take 1) := by
  have e := cutS_two l i (i + 1)
  rw [show i + 1 - i = 1 by omega, show ((i + 1 : Nat) : Int) = (i : Int) + 1 by omega] at e
  exact e
theorem take_one_len (l : List Nat) : (l.take 1).length ≤ 1 := by
  rw [List.length_take]
  exact Nat.min_le_left _ _
theorem cntD_le : ∀ (n : Nat) (l : List Nat), cntD n l ≤ n
  | 0, _ => Nat.le_refl _
  | n + 1, [] => Nat.zero_le _
  | n + 1, c :: r => by
    have := cntD_le n r
    unfold cntD
    split <;> omega
def spNumEnd (K : PySem.W.Frag) : Sp := fun vs H Q E => ∃ (l : List Nat) (at_ : Nat), vs = [.str (S l), .int at_] ∧ at_ ≤ l.length ∧ l.length ≤ 100000 ∧
  (num1 (l.drop at_) = none → RaP K E H) ∧ ∀ n, num1 (l.drop at_) = some n → Q (vN (at_ + n)) H
section
variable {w : World} {K : PySem.W.Frag} {mg : Str → Option Value} {base : Heap}
theorem ok_number_end (T : Ty K mg) : Fk Er.PRG w K mg base "number_end" 2 ["text", "at"] (spNumEnd K) := by
  refine Fk.mk T.g_number_end T.d_number_end sc_number_end (fun vs H Q E h => ?_) (fun _ _ _ _ _ _ us hl => match us, hl with | [_, _], _ => rfl) fun cdv A outer s H vs Q E hr h => ⟨_,
      (pss_cons (ps_if (pt_not (pt_val (pe_f (ok_is_digit T.toTx) (hr.mono (by decide)) (pa_cons (pe_slice sl_str (pv 0) (po_some (pv 1)) (po_some (pe_op op_add (pv 1) pe_int))) pa_nil)))) (pss_one (ps_raise rfl (takes_of rfl rfl rfl rfl) (Er.pmk_ParseError rfl T.pe T.m_super T.m_str hr (pa_cons (pv 1) pa_nil)))) pss_nil)
      (pss_cons (ps_set (i := 2) sc_number_end.nd rfl (Or.inl rfl) (pe_op op_add (pv 1) pe_int))
      (pss_cons (ps_while (passes_of rfl) (PW.pt (pw_and (pt_cmpR op_ne (pe_ix ix_str (pv 0) (pv 1) (fun _ _ => rfl)) pe_str (nomark _)) (pw_and (pt_cmpR op_lt (pe_op op_sub (pv 2) (pv 1)) pe_int (nomark _)) (pw_and1 (pt_val (pe_f (ok_is_digit T.toTx) (hr.mono (by decide)) (pa_cons (pe_slice sl_str (pv 0) (po_some (pv 2)) (po_some (pe_op op_add (pv 2) pe_int))) pa_nil))))))) (pss_one (ps_aug (i := 2) sc_number_end.nd rfl (Or.inl rfl) pe_int ip_add)))
      (pss_one (ps_ret (pv 2)))))), ?_⟩
  · obtain ⟨_, _, rfl, _⟩ := h
    rfl
  · obtain ⟨l, i, rfl, hi, hl, q1, q2⟩ := h
    have hz := sz_ok hl
    refine ⟨_, rfl, _, rfl, _, rfl, _, rfl, _, _, rfl, rfl, _, rfl, _, rfl, hz, (l.drop i).take 1, congrArg (fun z => [V.str z]) (cutS_one l i), take_one_len _, ?_⟩
    refine ⟨_, rfl, ?_⟩
    generalize hd : l.drop i = d at q1 q2
    match d, hd, q1, q2 with
    | [], hd, q1, q2 =>
      exact ifT rfl ⟨_, rfl, _, rfl, log_small (Nat.lt_of_le_of_lt (Nat.le_trans hi hl) (by decide +kernel)), fun d hd => q1 rfl _ _ (Same.new hd)⟩
    | c :: r, hd, q1, q2 =>
      have hil : i < l.length := by
        have := congrArg List.length hd
        simp at this
        omega
      have hci : l[i]? = some c := by
        have z := congrArg (fun q => q[0]?) hd
        simpa [List.getElem?_drop] using z
      have hn1 : num1 (c :: r) = if isDig c = true then some (if c = 48 then 1 else 1 + cntD 3 r) else none := rfl
      rw [hn1] at q1 q2
      by_cases hc : isDig c = true
      · rw [if_pos hc] at q2
        have e1 : (List.take 1 (c :: r)).any isDig = true := by simp [hc]
        rw [e1]
        refine ifF rfl ⟨_, rfl, _, _, rfl, rfl, ?_⟩
        refine ⟨fun m σ H' => H' = H ∧ ∃ k, σ = [some (.str (S l)), some (.int i), some (.int ((i + 1 + k : Nat) : Int))] ∧ k ≤ 3 ∧ m = 3 - k ∧ (c = 48 → k = 0) ∧ (c ≠ 48 → 1 + k + cntD (3 - k) (r.drop k) = 1 + cntD 3 r), ⟨3, rfl, 0, rfl, by omega, rfl, fun _ => rfl, fun _ => by simp⟩, ?_⟩
        rintro m σ H' ⟨rfl, k, rfl, hk, rfl, hk0, hkc⟩
        have h0 : atI (S l).cps.toList (i : Int) = some c := atI_nat hci
        refine ⟨_, rfl, _, rfl, _, _, c, rfl, rfl, hz, h0, rfl, _, rfl, ?_⟩
        by_cases h48 : c = 48
        · have hk2 := hk0 h48
          subst hk2
          subst h48
          refine ifF rfl ?_
          refine ifF rfl ⟨_, rfl, ?_⟩
          have z := q2 1 rfl
          exact z
        · have hne : (!decide (V.str ⟨#[c]⟩ = V.str (Str.ofString "0"))) = true := by
            rw [Bool.not_eq_true', decide_eq_false_iff_not]
            intro z
            have e1 : S [c] = S [48] := V.str.inj z
            exact h48 (by simpa using S_inj e1)
          have hfin : 1 + k + cntD (3 - k) (r.drop k) = 1 + cntD 3 r := hkc h48
          rw [if_neg h48] at q2
          have stop : cntD (3 - k) (r.drop k) = 0 → Q (V.int ((i + 1 + k : Nat) : Int)) H' := fun e => by
            have z := q2 _ rfl
            rw [← hfin, e, show i + (1 + k + 0) = i + 1 + k by omega] at z
            exact z
          refine ifT hne ⟨_, rfl, _, rfl, _, _, rfl, rfl, _, _, rfl, rfl, _, rfl, ?_⟩
          by_cases hk3 : k = 3
          · subst hk3
            refine ifF (decide_eq_false (by omega)) (ifF rfl ⟨_, rfl, stop rfl⟩)
          · refine ifT (decide_eq_true (by omega)) ⟨_, rfl, _, rfl, _, rfl, _, rfl, _, _, rfl, rfl, _, rfl, _, rfl, hz, (l.drop (i + 1 + k)).take 1, congrArg (fun z => [V.str z]) (cutS_one l (i + 1 + k)), take_one_len _, _, rfl, ?_⟩
            have hdk : l.drop (i + 1 + k) = r.drop k := by
              have e : l.drop (i + 1 + k) = (l.drop i).drop (1 + k) := by
                rw [List.drop_drop]
                congr 1
                omega
              rw [e, hd, show 1 + k = k + 1 by omega, List.drop_succ_cons]
            rw [hdk]
            have hs3 : 3 - k = (3 - k - 1) + 1 := by omega
            rw [hs3] at hfin stop
            cases hrk : r.drop k with
            | nil =>
              rw [hrk] at stop
              exact ifF rfl ⟨_, rfl, stop rfl⟩
            | cons c2 r2 =>
              rw [hrk] at stop hfin
              have hcn : cntD (3 - k - 1 + 1) (c2 :: r2) = if isDig c2 = true then 1 + cntD (3 - k - 1) r2 else 0 := rfl
              rw [hcn] at stop hfin
              by_cases hc2 : isDig c2 = true
              · rw [if_pos hc2] at hfin
                refine ifT (by simp [hc2]) ⟨fun σ' H'' => σ' = [some (.str (S l)), some (.int i), some (.int ((i + 1 + (k + 1) : Nat) : Int))] ∧ H'' = H', ?_, ?_⟩
                · rintro σ' H'' ⟨rfl, rfl⟩
                  refine ⟨3 - (k + 1), by omega, rfl, k + 1, rfl, by omega, rfl, fun z => absurd z h48, fun _ => ?_⟩
                  have e2 : r.drop (k + 1) = r2 := by
                    rw [show k + 1 = k + 1 from rfl, ← List.drop_drop, hrk]
                    rfl
                  rw [e2, show 3 - (k + 1) = 3 - k - 1 by omega]
                  omega
                · refine ⟨_, rfl, _, _, rfl, rfl, ?_, rfl⟩
                  show [some (V.str (S l)), some (V.int i), some (V.int (((i + 1 + k : Nat) : Int) + 1))] = _
                  rw [show (((i + 1 + k : Nat) : Int) + 1) = ((i + 1 + (k + 1) : Nat) : Int) by omega]
              · rw [if_neg hc2] at stop
                exact ifF (by simp [hc2]) ⟨_, rfl, stop rfl⟩
      · rw [if_neg hc] at q1
        have e1 : (List.take 1 (c :: r)).any isDig = false := by simp [hc]
        rw [e1]
        exact ifT rfl ⟨_, rfl, _, rfl, log_small (Nat.lt_of_le_of_lt (Nat.le_trans hi hl) (by decide +kernel)), fun d hd => q1 rfl _ _ (Same.new hd)⟩
end
end K28

set_option Elab.async false
set_option linter.all false
set_option maxRecDepth 100000
set_option maxHeartbeats 4000000
namespace K28
open PySem PySem.Spec PyProof.Rows L2
theorem num1_le {d : List Nat} {n : Nat} (h : num1 d = some n) : n ≤ d.length ∧ 1 ≤ n := by
  have cl : ∀ (m : Nat) (l : List Nat), cntD m l ≤ l.length := by
    intro m
    induction m with
    | zero => exact fun l => Nat.zero_le _
    | succ m ih =>
      intro l
      cases l with
      | nil => exact Nat.zero_le _
      | cons c r =>
        have := ih r
        unfold cntD
        split <;> simp <;> omega
  cases d with
  | nil => cases h
  | cons c r =>
    have h : (if isDig c = true then some (if c = 48 then 1 else 1 + cntD 3 r) else none) = some n := h
    have := cl 3 r
    by_cases hc : isDig c = true
    · rw [if_pos hc] at h
      have e := Option.some.inj h
      rw [← e, List.length_cons]
      split <;> omega
    · rw [if_neg hc] at h
      cases h
/-- the spans of one entry: the last one's end, the marks that may follow -/
def contP (l : List Nat) : List Nat → List (Nat × Nat) → Nat → Option (List (Nat × Nat))
  | [], sp, _ => some sp
  | c :: cs, sp, b => if l[b]? = some c then (match num1 (l.drop (b + 1)) with
      | none => none
      | some n => contP l cs (sp ++ [(b + 1, b + 1 + n)]) (b + 1 + n)) else some sp
def entryP (l : List Nat) (i : Nat) : Option (List (Nat × Nat)) := match num1 (l.drop i) with
  | none => none
  | some n => contP l [45, 58] [(i, i + n)] (i + n)
/-- a list of pairs -/
def SpanL (H : Hp) (p : Addr) (sp : List (Nat × Nat)) : Prop := ∃ ts : List Addr, H p = some (.lst (ts.map V.ref)) ∧ ts.length = sp.length ∧ ∀ (i : Nat) (t : Addr) (s : Nat × Nat), ts[i]? = some t → sp[i]? = some s → H t = some (.tup [vN s.1, vN s.2])
theorem SpanL.same {H H' : Hp} {p : Addr} {sp : List (Nat × Nat)} (x : SpanL H p sp) (e : Same H H') : SpanL H' p sp := by
  obtain ⟨ts, h1, h2, h3⟩ := x
  exact ⟨ts, e _ _ h1, h2, fun i t s a b => e _ _ (h3 i t s a b)⟩
theorem SpanL.one {H : Hp} {p t : Addr} {a b : Nat} (h : H t = some (.tup [vN a, vN b])) (hp : H p = some (.lst [.ref t])) : SpanL H p [(a, b)] := by
  refine ⟨[t], hp, rfl, fun i t' s h1 h2 => ?_⟩
  match i, h1, h2 with
  | 0, h1, h2 =>
    have e1 : t = t' := Option.some.inj h1
    have e2 : (a, b) = s := Option.some.inj h2
    rw [← e1, ← e2]
    exact h
theorem SpanL.app {H : Hp} {p t : Addr} {ts : List Addr} {sp : List (Nat × Nat)} {a b : Nat} (h2 : ts.length = sp.length) (h3 : ∀ (i : Nat) (t : Addr) (s : Nat × Nat), ts[i]? = some t → sp[i]? = some s → H t = some (.tup [vN s.1, vN s.2]))
    (hp : H p = some (.lst (ts.map V.ref))) (ht : H t = some (.tup [vN a, vN b])) : SpanL (upd H p (.lst (ts.map V.ref ++ [.ref t]))) p (sp ++ [(a, b)]) := by
  refine ⟨ts ++ [t], by rw [upd_same, List.map_append] <;> rfl, by simp [h2], fun i t' s a1 a2 => ?_⟩
  have tp : ∀ {t : Addr} {xs : List V}, H t = some (.tup xs) → t ≠ p := fun e z => by
    rw [z, hp] at e
    cases e
  by_cases hi : i < ts.length
  · rw [List.getElem?_append_left hi] at a1
    rw [List.getElem?_append_left (by omega)] at a2
    have e := h3 i t' s a1 a2
    rw [upd_ne (tp e)]
    exact e
  · have hi2 : i = ts.length := by
      have h1 := (List.getElem?_eq_some_iff.mp a1).1
      simp at h1
      omega
    subst hi2
    rw [List.getElem?_append_right (Nat.le_refl _), Nat.sub_self] at a1
    rw [h2, List.getElem?_append_right (Nat.le_refl _), Nat.sub_self] at a2
    have e1 : t = t' := Option.some.inj a1
    have e2 : (a, b) = s := Option.some.inj a2
    rw [← e1, ← e2, upd_ne (tp ht)]
    exact ht
theorem take1_eq {l : List Nat} {b c : Nat} : (l.drop b).take 1 = [c] ↔ l[b]? = some c := by
  rw [show l[b]? = (l.drop b)[0]? by simp]
  cases l.drop b with
  | nil => simp
  | cons x r => simp
def spEntry (K : PySem.W.Frag) : Sp := fun vs H Q E => ∃ (l : List Nat) (i : Nat), vs = [.str (S l), .int i] ∧ i ≤ l.length ∧ l.length ≤ 100000 ∧ (entryP l i = none → RaP K E H) ∧
  ∀ sp p H', entryP l i = some sp → Same H H' → H p = none → SpanL H' p sp → Q (.ref p) H'
section
variable {w : World} {K : PySem.W.Frag} {mg : Str → Option Value} {base : Heap}
theorem ok_entry_spots (T : Ty K mg) : Fk Er.PRG w K mg base "entry_spots" 3 ["text", "at"] (spEntry K) := by
  refine Fk.mk T.g_entry_spots T.d_entry_spots sc_entry_spots (fun vs H Q E h => ?_) (fun _ _ _ _ _ _ us hl => match us, hl with | [_, _], _ => rfl) fun cdv A outer s H vs Q E hr h => ⟨_,
      (pss_cons (ps_set (i := 2) sc_entry_spots.nd rfl (Or.inl rfl) (pe_lst (pa_cons (pe_tup (pa_cons (pv 1) (pa_cons (pe_fX (ok_number_end T) (hr.mono (by decide)) (takes_of rfl rfl rfl rfl) (pa_cons (pv 0) (pa_cons (pv 1) pa_nil))) pa_nil))) pa_nil)))
      (pss_cons (ps_for (passes_of rfl) rfl (pi_tup (pe_tup (pa_cons pe_str (pa_cons pe_str pa_nil)))) (pg_name (i := 3) sc_entry_spots.nd rfl (Or.inl rfl)) (pss_cons (ps_set (i := 4) sc_entry_spots.nd rfl (Or.inl rfl) (pe_ix ix_tup (pe_ix ix_list (pv 2) (pe_un un_neg pe_int) (fun _ _ => rfl)) pe_int (fun _ _ => rfl)))
      (pss_cons (ps_if (pt_cmpR op_ne (pe_slice sl_str (pv 0) (po_some (pv 4)) (po_some (pe_op op_add (pv 4) pe_int))) (pv 3) (nomark _)) (pss_one ps_break) pss_nil)
      (pss_one (ps_expr (pe_bm PySem.F.plainAttrs_list PySem.F.slot_list_append PySem.F.type_list_append mt_append (pv 2) (pa_cons (pe_tup (pa_cons (pe_op op_add (pv 4) pe_int) (pa_cons (pe_fX (ok_number_end T) (hr.mono (by decide)) (takes_of rfl rfl rfl rfl) (pa_cons (pv 0) (pa_cons (pe_op op_add (pv 4) pe_int) pa_nil))) pa_nil))) pa_nil)))))))
      (pss_one (ps_ret (pv 2))))), ?_⟩
  · obtain ⟨_, _, rfl, _⟩ := h
    rfl
  · obtain ⟨l, i, rfl, hi, hl, q1, q2⟩ := h
    have hz := sz_ok hl
    have s1 : 1 ≤ sizeLine := by
      rw [sizeLine_eq]
      omega
    have s2 : 2 ≤ sizeLine := by
      rw [sizeLine_eq]
      omega
    have hen : entryP l i = match num1 (l.drop i) with
      | none => none
      | some n => contP l [45, 58] [(i, i + n)] (i + n) := rfl
    refine ⟨_, rfl, _, rfl, _, rfl, l, i, rfl, hi, hl, fun z => q1 (by rw [hen, z]), fun n hn => ⟨s2, fun t1 ht1 => ⟨s1, fun fp hfp => ?_⟩⟩⟩
    rw [hn] at hen
    have hen : entryP l i = contP l [45, 58] [(i, i + n)] (i + n) := hen
    have e1 : Same H (upd H t1 (.tup [vN i, vN (i + n)])) := Same.new ht1
    have hfH : H fp = none := e1.free hfp
    have hnl := (num1_le hn).1
    rw [List.length_drop] at hnl
    have hft : t1 ≠ fp := ne_of_none upd_same hfp
    refine ⟨s2, fun tp htp => ⟨tp, rfl, ⟨_, .inl (.inl upd_same)⟩, ?_⟩⟩
    have hfp2 : tp ≠ fp := (ne_of_none upd_same htp).symm
    refine (fun (fin : ∀ σ H3, (∃ x3 x4 sp, σ = [some (.str (S l)), some (.int i), some (.ref fp), x3, x4] ∧ Same H H3 ∧ SpanL H3 fp sp ∧ entryP l i = some sp) → _) =>
      for_it (walk_tup (K := K) (xs := [.str (S [45]), .str (S [58])])) (fun k σ H' => ∃ x3 x4 ts sp0 a b, σ = [some (.str (S l)), some (.int i), some (.ref fp), x3, x4] ∧ Same H H' ∧ H' tp = some (.tup [.str (S [45]), .str (S [58])]) ∧ H' fp = some (.lst (ts.map V.ref)) ∧ ts.length = (sp0 ++ [(a, b)]).length ∧
        (∀ (i : Nat) (t : Addr) (s : Nat × Nat), ts[i]? = some t → (sp0 ++ [(a, b)])[i]? = some s → H' t = some (.tup [vN s.1, vN s.2])) ∧ b ≤ l.length ∧ entryP l i = contP l ([45, 58].drop k) (sp0 ++ [(a, b)]) b ∧ sp0.length = k)
        ⟨none, none, [t1], [], i, i + n, rfl, ((Same.new ht1).trans (Same.new hfp)).trans (Same.new htp), upd_same, ?_, rfl, ?_, by omega, hen, rfl⟩ (fun k σ H' _ pv => ?_) (fun k x σ H1 H2 hk pv hy => ?_) fun σ H3 pv => fin σ H3 ?_) ?_
    · rw [upd_ne hfp2.symm, upd_same]
      rfl
    · intro j t s h1 h2
      match j, h1, h2 with
      | 0, h1, h2 =>
        have e1 : t1 = t := Option.some.inj h1
        have e2 : (i, i + n) = s := Option.some.inj h2
        rw [← e1, ← e2, upd_ne (ne_of_none (by rw [upd_ne hft]; exact upd_same) htp), upd_ne hft, upd_same]
    · obtain ⟨_, _, _, _, _, _, _, _, h, _⟩ := pv
      exact .inl (.inl h)
    · obtain ⟨x3, x4, ts, sp0, a, b, rfl, e, htp1, hf1, hlen, hel, hb, hcont, hspk⟩ := pv
      obtain ⟨rfl, hx⟩ := hy
      obtain ⟨c, rfl, hdk⟩ : ∃ c, x = .str (S [c]) ∧ [45, 58].drop k = c :: [45, 58].drop (k + 1) := by
        match k, hk, hx with
        | 0, _, hx => exact ⟨45, (Option.some.inj hx).symm, rfl⟩
        | 1, _, hx => exact ⟨58, (Option.some.inj hx).symm, rfl⟩
        | k + 2, h, _ => exact absurd (show k + 2 < 2 from h) (by omega)
      rw [hdk] at hcont
      have hcont : entryP l i = if l[b]? = some c then (match num1 (l.drop (b + 1)) with
        | none => none
        | some n => contP l ([45, 58].drop (k + 1)) (sp0 ++ [(a, b)] ++ [(b + 1, b + 1 + n)]) (b + 1 + n)) else some (sp0 ++ [(a, b)]) := hcont
      obtain ⟨ts0, t, rfl⟩ : ∃ ts0 t, ts = ts0 ++ [t] := by
        rcases List.eq_nil_or_concat ts with h | ⟨ts0, t, h⟩
        · rw [h] at hlen
          simp at hlen
        · exact ⟨ts0, t, by rw [h, List.concat_eq_append]⟩
      have hl0 : ts0.length = sp0.length := by simpa using hlen
      have ht : H2 t = some (.tup [vN a, vN b]) := by
        refine hel sp0.length t (a, b) ?_ ?_
        · rw [← hl0]
          simp
        · simp
      have hlast : atI ((ts0 ++ [t]).map V.ref) (-1) = some (.ref t) := by
        rw [List.map_append]
        exact atI_last _ _
      refine ⟨_, rfl, _, rfl, fp, _, _, _, rfl, rfl, .inl (.inl hf1), hlast, t, _, _, _, rfl, rfl, .inl (.inl ht), atI_nat (j := 1) rfl, ?_⟩
      refine ⟨_, rfl, _, rfl, _, rfl, _, rfl, _, _, rfl, rfl, _, rfl, _, rfl, hz, _, rfl, rfl, _, rfl, ?_⟩
      rw [cutS_one]
      by_cases hc : l[b]? = some c
      · rw [if_pos hc] at hcont
        refine ifF ?_ ?_
        · rw [take1_eq.mpr hc, decide_eq_true rfl] <;> rfl
        · have hbl : b + 1 ≤ l.length := by
            have := (List.getElem?_eq_some_iff.mp hc).1
            omega
          have hnum : ∀ (n : Int), n = ((b : Int) + 1) → n = ((b + 1 : Nat) : Int) := fun n h => by omega
          refine ⟨_, rfl, .inl ⟨rfl, _, .inl (.inl hf1)⟩, _, rfl, _, _, rfl, rfl, _, rfl, _, rfl, _, _, rfl, rfl, l, b + 1, rfl, hbl, hl, fun z => ?_, fun n2 hn2 => ?_⟩
          · rw [z] at hcont
            exact (q1 hcont).mono e
          · rw [hn2] at hcont
            have hcont : entryP l i = contP l ([45, 58].drop (k + 1)) (sp0 ++ [(a, b)] ++ [(b + 1, b + 1 + n2)]) (b + 1 + n2) := hcont
            have hn2l := (num1_le hn2).1
            rw [List.length_drop] at hn2l
            refine ⟨s2, fun t2 ht2 => ?_⟩
            have e2 : Same H2 (upd H2 t2 (.tup [vN (b + 1), vN (b + 1 + n2)])) := Same.new ht2
            have hts : (ts0 ++ [t]).length < sizeLine := by
              rw [hlen, List.length_append, hspk, sizeLine_eq]
              have : k < 2 := hk
              simp
              omega
            have hsp := SpanL.app (a := b + 1) (b := b + 1 + n2) hlen (fun j t s h1 h2 => e2 _ _ (hel j t s h1 h2)) (e2 _ _ hf1) upd_same
            obtain ⟨ts2, g1, g2, g3⟩ := hsp
            refine ⟨fp, _, _, rfl, rfl, e2 _ _ hf1, by rw [List.length_map]; exact hts, _, _, ts2, sp0 ++ [(a, b)], b + 1, b + 1 + n2, rfl, (e.trans e2).mut hfH, ?_, g1, g2, g3, by omega, hcont, by rw [List.length_append, hspk] <;> rfl⟩
            exact (upd_ne (ne_of htp1 hf1 (fun z => nomatch z))).trans (e2 _ _ htp1)
      · rw [if_neg hc] at hcont
        refine ifT ?_ (fin _ _ ⟨_, _, _, rfl, e, ⟨_, hf1, hlen, hel⟩, hcont⟩)
        rw [decide_eq_false fun z => hc (take1_eq.mp (S_inj (V.str.inj z)))] <;> rfl
    · obtain ⟨x3, x4, ts, sp0, a, b, rfl, e, htp1, hf1, hlen, hel, hb, hcont, _⟩ := pv
      exact ⟨_, _, _, rfl, e, ⟨_, hf1, hlen, hel⟩, hcont⟩
    · rintro σ H3 ⟨x3, x4, sp, rfl, e, hs, hc⟩
      exact ⟨_, rfl, q2 _ _ _ hc e hfH hs⟩
end
end K28

set_option Elab.async false
set_option linter.all false
set_option maxRecDepth 100000
set_option maxHeartbeats 4000000
namespace K28
open PySem PySem.Spec PyProof.Rows L2
def lastEnd (sp : List (Nat × Nat)) : Nat := (sp.getLast?.map Prod.snd).getD 0
theorem lastEnd_app (sp : List (Nat × Nat)) (a b : Nat) : lastEnd (sp ++ [(a, b)]) = b := by
  unfold lastEnd
  simp
theorem contP_end (l : List Nat) : ∀ (cs : List Nat) (sp0 : List (Nat × Nat)) (a b : Nat) (sp : List (Nat × Nat)), b ≤ l.length → contP l cs (sp0 ++ [(a, b)]) b = some sp → ∃ sp1 a1 b1, sp = sp1 ++ [(a1, b1)] ∧ b ≤ b1 ∧ b1 ≤ l.length
  | [], sp0, a, b, sp, hb, h => ⟨sp0, a, b, (Option.some.inj h).symm, Nat.le_refl _, hb⟩
  | c :: cs, sp0, a, b, sp, hb, h => by
    unfold contP at h
    split at h
    · rename_i hc
      split at h
      · cases h
      · rename_i n hn
        have h1 := (num1_le hn).1
        have h2 := (List.getElem?_eq_some_iff.mp hc).1
        rw [List.length_drop] at h1
        obtain ⟨sp1, a1, b1, e1, e2, e3⟩ := contP_end l cs (sp0 ++ [(a, b)]) (b + 1) (b + 1 + n) sp (by omega) h
        exact ⟨sp1, a1, b1, e1, by omega, e3⟩
    · exact ⟨sp0, a, b, (Option.some.inj h).symm, Nat.le_refl _, hb⟩
theorem entryP_end {l : List Nat} {i : Nat} {sp : List (Nat × Nat)} (hi : i ≤ l.length) (h : entryP l i = some sp) : ∃ sp1 a1 b1, sp = sp1 ++ [(a1, b1)] ∧ i < b1 ∧ b1 ≤ l.length := by
  unfold entryP at h
  split at h
  · cases h
  · rename_i n hn
    have h1 := num1_le hn
    rw [List.length_drop] at h1
    obtain ⟨sp1, a1, b1, e1, e2, e3⟩ := contP_end l [45, 58] [] i (i + n) sp (by omega) h
    exact ⟨sp1, a1, b1, e1, by omega, e3⟩
/-- the entries of a text from a place on -/
def entriesP (l : List Nat) : Nat → Nat → Option (List (List (Nat × Nat)))
  | 0, _ => none
  | f + 1, i => match entryP l i with
    | none => none
    | some sp => if lastEnd sp = l.length then some [sp] else if l[lastEnd sp]? = some 44 then (entriesP l f (lastEnd sp + 1)).map (sp :: ·) else none
def SpanLL (H : Hp) (p : Addr) (sps : List (List (Nat × Nat))) : Prop := ∃ ts : List Addr, H p = some (.lst (ts.map V.ref)) ∧ ts.length = sps.length ∧ ∀ (i : Nat) (t : Addr) (s : List (Nat × Nat)), ts[i]? = some t → sps[i]? = some s → SpanL H t s
theorem SpanL.upd {H : Hp} {t q : Addr} {sp : List (Nat × Nat)} {o : HO} {xs : List V} (x : SpanL H t sp) (hq : t ≠ q) (h : H q = some (.lst xs)) : SpanL (upd H q o) t sp := by
  obtain ⟨ts, h1, h2, h3⟩ := x
  refine ⟨ts, by rw [upd_ne hq]; exact h1, h2, fun i t s a b => ?_⟩
  have e := h3 i t s a b
  rw [upd_ne (ne_of e h (fun z => nomatch z))]
  exact e
def spEntries (K : PySem.W.Frag) : Sp := fun vs H Q E => ∃ l : List Nat, vs = [.str (S l)] ∧ l.length ≤ 100000 ∧ (entriesP l (l.length + 1) 0 = none → RaP K E H) ∧
  ∀ sps p H', entriesP l (l.length + 1) 0 = some sps → Same H H' → H p = none → SpanLL H' p sps → Q (.ref p) H'
section
variable {w : World} {K : PySem.W.Frag} {mg : Str → Option Value} {base : Heap}
theorem ok_entries_in (T : Ty K mg) : Fk Er.PRG w K mg base "entries_in" 4 ["text"] (spEntries K) := by
  refine Fk.mk T.g_entries_in T.d_entries_in sc_entries_in (fun vs H Q E h => ?_) (fun _ _ _ _ _ _ us hl => match us, hl with | [_], _ => rfl) fun cdv A outer s H vs Q E hr h => ⟨_,
      (pss_cons (ps_par (i := 1) (j := 2) rfl sc_entries_in.nd rfl rfl (by decide) rfl rfl (pa_cons (pe_lst pa_nil) (pa_cons pe_int pa_nil)) (by rfl))
      (pss_one (ps_while (passes_of rfl) (pt_val pe_bl) (pss_cons (ps_expr (pe_bm PySem.F.plainAttrs_list PySem.F.slot_list_append PySem.F.type_list_append mt_append (pv 1) (pa_cons (pe_fX (ok_entry_spots T) (hr.mono (by decide)) (takes_of rfl rfl rfl rfl) (pa_cons (pv 0) (pa_cons (pv 2) pa_nil))) pa_nil)))
      (pss_cons (ps_set (i := 2) sc_entries_in.nd rfl (Or.inl rfl) (pe_ix ix_tup (pe_ix ix_list (pe_ix ix_list (pv 1) (pe_un un_neg pe_int) (fun _ _ => rfl)) (pe_un un_neg pe_int) (fun _ _ => rfl)) pe_int (fun _ _ => rfl)))
      (pss_cons (ps_if (pt_cmpR op_eq (pv 2) (pe_callB call_len (by rfl) T.m_len boot_len (pa_cons (pv 0) pa_nil)) (nomark _)) (pss_one (ps_ret (pv 1))) pss_nil)
      (pss_cons (ps_if (pt_cmpR op_ne (pe_ix ix_str (pv 0) (pv 2) (fun _ _ => rfl)) pe_str (nomark _)) (pss_one (ps_raise rfl (takes_of rfl rfl rfl rfl) (Er.pmk_ParseError rfl T.pe T.m_super T.m_str hr (pa_cons (pv 2) pa_nil)))) pss_nil)
      (pss_one (ps_aug (i := 2) sc_entries_in.nd rfl (Or.inl rfl) pe_int ip_add))))))))), ?_⟩
  · obtain ⟨_, rfl, _⟩ := h
    rfl
  · obtain ⟨l, rfl, hl, q1, q2⟩ := h
    have hz := sz_ok hl
    refine ⟨Nat.zero_le _, fun fp hfp => ⟨_, _, rfl, ?_⟩⟩
    refine ⟨fun m σ H' => ∃ (i : Nat) (ts : List Addr) (sps : List (List (Nat × Nat))), σ = [some (.str (S l)), some (.ref fp), some (.int (i : Nat))] ∧ Same H H' ∧ H' fp = some (.lst (ts.map V.ref)) ∧ ts.length = sps.length ∧ (∀ (i : Nat) (t : Addr) (s : List (Nat × Nat)), ts[i]? = some t → sps[i]? = some s → t ≠ fp ∧ SpanL H' t s) ∧
      i ≤ l.length ∧ l.length < i + m ∧ sps.length ≤ i ∧ entriesP l (l.length + 1) 0 = (entriesP l m i).map (sps ++ ·), ⟨l.length + 1, 0, [], [], rfl, Same.new hfp, upd_same, rfl, fun i t s a _ => by simp at a, Nat.zero_le _, by omega, Nat.le_refl _, by
        show _ = Option.map (fun x => x) _
        rw [Option.map_id']⟩, ?_⟩
    rintro m σ H' ⟨i, ts, sps, rfl, e, hf, hlen, hel, hi, hm, hsi, hR⟩
    refine ⟨_, rfl, ifT rfl ?_⟩
    obtain ⟨m', rfl⟩ : ∃ m', m = m' + 1 := ⟨m - 1, by omega⟩
    have hR : entriesP l (l.length + 1) 0 = (match entryP l i with
      | none => none
      | some sp => if lastEnd sp = l.length then some [sp] else if l[lastEnd sp]? = some 44 then (entriesP l m' (lastEnd sp + 1)).map (sp :: ·) else none).map (sps ++ ·) := hR
    refine ⟨fun σ' H'' => ∃ (i : Nat) (ts : List Addr) (sps : List (List (Nat × Nat))), σ' = [some (.str (S l)), some (.ref fp), some (.int (i : Nat))] ∧ Same H H'' ∧ H'' fp = some (.lst (ts.map V.ref)) ∧ ts.length = sps.length ∧ (∀ (i : Nat) (t : Addr) (s : List (Nat × Nat)), ts[i]? = some t → sps[i]? = some s → t ≠ fp ∧ SpanL H'' t s) ∧
      i ≤ l.length ∧ l.length < i + m' ∧ sps.length ≤ i ∧ entriesP l (l.length + 1) 0 = (entriesP l m' i).map (sps ++ ·), fun σ' H'' z => ⟨m', Nat.lt_succ_self _, z⟩, ?_⟩
    refine ⟨_, rfl, .inl ⟨rfl, _, .inl (.inl hf)⟩, _, rfl, _, rfl, l, i, rfl, hi, hl, fun z => ?_, fun sp p H2 hsp e2 hp hS => ?_⟩
    · rw [z] at hR
      exact (q1 hR).mono e
    · rw [hsp] at hR
      obtain ⟨sp1, a1, b1, rfl, hb1, hb2⟩ := entryP_end hi hsp
      have hR : entriesP l (l.length + 1) 0 = (if lastEnd (sp1 ++ [(a1, b1)]) = l.length then some [sp1 ++ [(a1, b1)]] else if l[lastEnd (sp1 ++ [(a1, b1)])]? = some 44 then (entriesP l m' (lastEnd (sp1 ++ [(a1, b1)]) + 1)).map ((sp1 ++ [(a1, b1)]) :: ·) else none).map (sps ++ ·) := hR
      rw [lastEnd_app] at hR
      have hf2 := e2 _ _ hf
      have hpf : p ≠ fp := (ne_of_none hf hp).symm
      have hfpH : H fp = none := hfp
      have hsz : (ts.map V.ref).length < sizeLine := by
        rw [List.length_map, hlen, sizeLine_eq]
        omega
      refine ⟨fp, _, _, rfl, rfl, hf2, hsz, ?_⟩
      have hS3 : SpanL (upd H2 fp (.lst (ts.map V.ref ++ [.ref p]))) p (sp1 ++ [(a1, b1)]) := hS.upd hpf hf2
      have e3 : Same H (upd H2 fp (.lst (ts.map V.ref ++ [.ref p]))) := (e.trans e2).mut hfpH
      have hel3 : ∀ (i : Nat) (t : Addr) (s : List (Nat × Nat)), (ts ++ [p])[i]? = some t → (sps ++ [sp1 ++ [(a1, b1)]])[i]? = some s → t ≠ fp ∧ SpanL (upd H2 fp (.lst (ts.map V.ref ++ [.ref p]))) t s := by
        intro j t s h1 h2
        by_cases hj : j < ts.length
        · rw [List.getElem?_append_left hj] at h1
          rw [List.getElem?_append_left (by omega)] at h2
          obtain ⟨g1, g2⟩ := hel j t s h1 h2
          exact ⟨g1, (g2.same e2).upd g1 hf2⟩
        · have hj2 : j = ts.length := by
            have h1 := (List.getElem?_eq_some_iff.mp h1).1
            simp at h1
            omega
          subst hj2
          rw [List.getElem?_append_right (Nat.le_refl _), Nat.sub_self] at h1
          rw [hlen, List.getElem?_append_right (Nat.le_refl _), Nat.sub_self] at h2
          have e1 : p = t := Option.some.inj h1
          have e2 : sp1 ++ [(a1, b1)] = s := Option.some.inj h2
          rw [← e1, ← e2]
          exact ⟨hpf, hS3⟩
      generalize hH3 : upd H2 fp (.lst (ts.map V.ref ++ [.ref p])) = H3 at *
      have hf3 : H3 fp = some (.lst ((ts ++ [p]).map V.ref)) := by
        rw [← hH3, upd_same, List.map_append] <;> rfl
      obtain ⟨us, g1, g2, g3⟩ := _root_.id hS3
      obtain ⟨us0, u, rfl⟩ : ∃ us0 u, us = us0 ++ [u] := by
        rcases List.eq_nil_or_concat us with h | ⟨us0, u, h⟩
        · rw [h] at g2
          simp at g2
        · exact ⟨us0, u, by rw [h, List.concat_eq_append]⟩
      have hl0 : us0.length = sp1.length := by simpa using g2
      have hu : H3 u = some (.tup [vN a1, vN b1]) := by
        refine g3 sp1.length u (a1, b1) ?_ ?_
        · rw [← hl0]
          simp
        · simp
      have hat1 : atI ((ts ++ [p]).map V.ref) (-1) = some (.ref p) := by
        rw [List.map_append]
        exact atI_last _ _
      have hat2 : atI ((us0 ++ [u]).map V.ref) (-1) = some (.ref u) := by
        rw [List.map_append]
        exact atI_last _ _
      refine ⟨_, rfl, _, rfl, fp, _, _, _, rfl, rfl, .inl (.inl hf3), hat1, _, rfl, p, _, _, _, rfl, rfl, .inl (.inl g1), hat2, u, _, _, _, rfl, rfl, .inl (.inl hu), atI_nat (j := 1) rfl, ?_⟩
      refine ⟨_, rfl, _, rfl, _, _, rfl, ⟨hz, rfl⟩, rfl, _, rfl, ?_⟩
      rw [S_len]
      by_cases hbl : b1 = l.length
      · rw [if_pos hbl] at hR
        refine ifT (decide_eq_true (by rw [hbl])) ⟨_, rfl, q2 _ _ _ hR e3 hfpH ⟨ts ++ [p], hf3, by simp [hlen], fun j t s h1 h2 => (hel3 j t s h1 h2).2⟩⟩
      · rw [if_neg hbl] at hR
        refine ifF (decide_eq_false fun z => hbl (by injection z with z; omega)) ?_
        have hlt : b1 < l.length := by omega
        obtain ⟨c, hc⟩ : ∃ c, l[b1]? = some c := ⟨_, List.getElem?_eq_getElem hlt⟩
        rw [hc] at hR
        refine ⟨_, rfl, _, rfl, _, _, c, rfl, rfl, hz, atI_nat hc, rfl, _, rfl, ?_⟩
        by_cases h44 : c = 44
        · subst h44
          rw [if_pos rfl] at hR
          refine ifF rfl ⟨_, rfl, _, _, rfl, rfl, b1 + 1, ts ++ [p], sps ++ [sp1 ++ [(a1, b1)]], rfl, e3, hf3, by simp [hlen], hel3, by omega, by omega, by simp; omega, ?_⟩
          rw [hR, Option.map_map]
          congr 1
          funext x
          simp
        · rw [if_neg fun z => h44 (Option.some.inj z)] at hR
          refine ifT ?_ ⟨_, rfl, _, rfl, log_small (Nat.lt_of_le_of_lt (Nat.le_trans hb2 hl) (by decide +kernel)), fun d hd => q1 hR _ _ (e3.trans (Same.new hd))⟩
          rw [Bool.not_eq_true', decide_eq_false_iff_not]
          intro z
          have e1 : S [c] = S [44] := V.str.inj z
          exact h44 (by simpa using S_inj e1)
end
end K28

set_option Elab.async false
set_option linter.all false
set_option maxRecDepth 100000
set_option maxHeartbeats 4000000
namespace K28
open PySem PySem.Spec PyProof.Rows L2
/-! ## first, *more = list -/
/-- the first item is stored, then a new list of the others -/
def gStar (i j : Nat) : TG := fun v σ H Q => ∃ a y ys, v = .ref a ∧ H a = some (.lst (y :: ys)) ∧ ys.length ≤ 100000 ∧ ∀ p, H p = none → Q ((σ.set i (some y)).set j (some (.ref p))) (upd H p (.lst ys))
section
variable {X : Cx}
theorem pg_star {i j : Nat} {x y : Str} {px py sp pos : Pos} {k : Nat} (hc : X.calm = true) (hN : X.N.Nodup) (hi : X.N[i]? = some x) (hj : X.N[j]? = some y) (hx : Loc X.env.scope x) (hy : Loc X.env.scope y)
    (hf : X.fn x = true ∨ X.env.scope.names.lookup x = some .local := by first | exact .inl rfl | exact .inr rfl | assumption) (hf2 : X.fn y = true ∨ X.env.scope.names.lookup y = some .local := by first | exact .inl rfl | exact .inr rfl | assumption) :
    PG X (.Tuple [.Name x px, .Starred (.Name y py) sp] k pos) (gStar i j) := by
  refine ⟨fun pins s σ H v u Q I r hw => ?_⟩
  obtain ⟨a, z, zs, e1, hH, hz, hq⟩ := hw
  subst e1
  obtain rfl : u = Value.ref a := r
  obtain ⟨_, its, n, rv, hol⟩ := I.hok a _ hH
  cases rv with
  | cons rz rzs =>
    rename_i zv its
    have hl : s.heap.IsList a (zv :: its).toArray := ⟨_, hol, rfl, _, rfl⟩
    have hlen : its.length = zs.length := rzs.length.symm
    have hlt : a ≠ s.heap.objs.size := Nat.ne_of_lt (Heap.lt_size hol)
    have hh : X.A.handled = none := I.ok.hd hc
    rw [show assign (.Tuple [.Name x px, .Starred (.Name y py) sp] k pos) X.env (.ref a) = (do standAt pos; unpack (.ref a) [(false, assign (.Name x px) X.env), (true, assign (.Name y py) X.env)]) from rfl]
    refine wpAny_bind (wpAny_standAt ?_)
    unfold unpack
    show wpAny _ _ (holding [Value.ref a] (unpackItems (.ref a) 2 (some 1)) >>= _) _ _ _
    refine wpAny_bind (wpAny_holding ?_)
    unfold unpackItems
    refine wpAny_bind ?_
    unfold notIterableAtAll
    refine wpAny_bind (wpAny_specialOf hl.typeIs slot_list_iter.lookup ?_)
    refine wpAny_pure ?_
    simp only [Bool.false_eq_true, if_false]
    refine wpAny_bind (wpAny_holding (wpAny_pyIter_list hl ?_))
    refine wpAny_bind (wpAny_holding (PySem.W.kun_draw hlt 1 0 _ _ ⟨_, Heap.get?_push_size _ rfl, rfl, rfl⟩ (hl.push _) (by simp) fun h₁ hit₁ hs₁ => ?_))
    have hl₁ : h₁.IsList a (zv :: its).toArray := (hl.push _).extBut hs₁.extBut hlt
    rw [Nat.zero_add] at hit₁
    obtain ⟨oi, hoi, _⟩ := _root_.id hit₁
    obtain ⟨ol, hol1, _⟩ := _root_.id hl₁
    rw [if_neg (show ¬ ((((zv :: its).toArray.toList.drop 0).take 1).length < 1) by simp)]
    have hsz : (zv :: its).toArray.size ≤ sizeLine := by
      rw [List.size_toArray, List.length_cons, hlen, sizeLine_eq]
      omega
    refine wpAny_bind (wpAny_holding (PySem.W.kun_collect (s := { s with heap := h₁ }) (T := "list_iterator") (.inr (.inr (.inl rfl))) (Walks.list (A := X.A.in1) hh s.heap.objs.size a hlt (zv :: its).toArray) (fun j u st => st.1.typeIs) (k := 1) (by simp) ⟨hit₁, hl₁⟩ (Heap.lt_size hoi) (Heap.lt_size hol1) (fun h₂ tk hk => ?_) hsz))
    show wpAny _ _ (if its.length < 2 - 1 - 1 then _ else _) _ _ _
    rw [if_neg (by omega)]
    show wpAny _ _ (newList (its.take (its.length - (2 - 1 - 1))) >>= fun d => pure ([zv] ++ [d] ++ its.drop (its.length - (2 - 1 - 1)))) _ _ _
    rw [show its.length - (2 - 1 - 1) = its.length by omega, List.take_length, List.drop_length]
    have he : ∀ b o, s.heap.get? b = some o → h₂.get? b = some o := fun b o e => hk b o (Nat.ne_of_lt (Heap.lt_size e)) (hs₁.extBut b o (Nat.ne_of_lt (Heap.lt_size e)) (Heap.get?_push_of_some _ e))
    have I1 : Inv X pins σ H { s with heap := h₂, toks := tk } := I.kept he
    have hz2 : its.length ≤ sizeLine := by
      rw [hlen, sizeLine_eq]
      omega
    refine wpAny_bind (wpAny_newList ?_ hz2)
    refine wpAny_pure ?_
    have I2 : Inv X pins σ (upd H h₂.objs.size (.lst zs)) { s with heap := h₂.push (seqObj "list" its.toArray 0), toks := tk } :=
      I1.laid (fun b o e => Heap.get?_push_of_some _ e) (Nat.le_refl _) ⟨by rw [← hlen]; exact hz2, its, 0, rzs, Heap.get?_push_size _ rfl⟩
    show wpAny _ _ (assignInOrder [assign (.Name x px) X.env, assign (.Name y py) X.env] [zv, .ref h₂.objs.size]) _ _ _
    refine assignInOrder_cons ?_
    refine wpAny_assign_Name (store_ok I2 hN hi hx rz (fun s3 I3 => ?_) hf)
    refine assignInOrder_cons ?_
    refine wpAny_assign_Name (store_ok (v := .ref h₂.objs.size) I3 hN hj hy rfl (fun s4 I4 => ?_) hf2)
    exact assignInOrder_nil ⟨_, _, I4, hq _ (I1.hok.fresh (Nat.le_refl _))⟩
end
/-! ## a list, a tuple beside an empty one -/
def rEqE (K : PySem.W.Frag) (neg : Bool) : R2 := fun x y H Q => ∃ a b xs, x = .ref a ∧ y = .ref b ∧ ((SqL K H a xs ∧ SqL K H b []) ∨ (SqT K H a xs ∧ SqT K H b [])) ∧ Q (.bl (xs.isEmpty != neg)) H
section
variable {X : Cx}
theorem isTuple_of {h : Heap} {a : Addr} {its : Array Value} (x : IsTup h a its) : h.IsTuple a its := x
theorem op_eqE (hu : X.A.units < cLine) : OpR X (compareOp .Eq) (rEqE X.K false) := by
  intro pins s σ H x y v u Q I rx ry h
  obtain ⟨a, b, xs, rfl, rfl, hab, q⟩ := h
  cases rx
  cases ry
  have q : Q (.bl xs.isEmpty) H := by
    cases xs <;> exact q
  rcases hab with ⟨ha, hb⟩ | ⟨ha, hb⟩
  · obtain ⟨us, r1, p1, _⟩ := I.list ha
    obtain ⟨ws, r2, p2, _⟩ := I.list hb
    cases r2
    cases r1 with
    | nil => exact SeqAt.eq_listAt (e := fun _ => true) p1.isList p2.isList rfl hu (fun j h1 h2 => absurd h1 (by simp)) ⟨.bl true, H, I, rfl, q⟩
    | cons r rs => exact SeqAt.eq_list_lengthsAt p1.isList p2.isList (by simp) hu ⟨.bl false, H, I, rfl, q⟩
  · obtain ⟨us, r1, p1, _⟩ := I.tuple ha
    obtain ⟨ws, r2, p2, _⟩ := I.tuple hb
    cases r2
    refine SeqAt.eq_tupleAt (e := fun _ => true) (isTuple_of p1) (isTuple_of p2) hu (fun j h1 h2 => absurd h2 (by simp)) ?_
    cases r1 with
    | nil => exact ⟨.bl true, H, I, rfl, q⟩
    | cons r rs => exact ⟨.bl false, H, I, rfl, q⟩
theorem op_neE (hu : X.A.units < cLine) : OpR X (compareOp .NotEq) (rEqE X.K true) := by
  intro pins s σ H x y v u Q I rx ry h
  obtain ⟨a, b, xs, rfl, rfl, hab, q⟩ := h
  cases rx
  cases ry
  have q : Q (.bl (!xs.isEmpty)) H := by
    cases xs <;> exact q
  rcases hab with ⟨ha, hb⟩ | ⟨ha, hb⟩
  · obtain ⟨us, r1, p1, _⟩ := I.list ha
    obtain ⟨ws, r2, p2, _⟩ := I.list hb
    cases r2
    cases r1 with
    | nil => exact SeqAt.RcNeAt.lists (e := fun _ => true) p1.isList p2.isList rfl hu (fun j h1 h2 => absurd h1 (by simp)) _ _ _ _ ⟨.bl false, H, I, rfl, q⟩
    | cons r rs => exact SeqAt.RcNeAt.lists_lengths p1.isList p2.isList (by simp) hu _ _ _ _ ⟨.bl true, H, I, rfl, q⟩
  · obtain ⟨us, r1, p1, _⟩ := I.tuple ha
    obtain ⟨ws, r2, p2, _⟩ := I.tuple hb
    cases r2
    refine SeqAt.RcNeAt.tuples (e := fun _ => true) (isTuple_of p1) (isTuple_of p2) hu (fun j h1 h2 => absurd h2 (by simp)) _ _ _ _ ?_
    cases r1 with
    | nil => exact ⟨.bl false, H, I, rfl, q⟩
    | cons r rs => exact ⟨.bl true, H, I, rfl, q⟩
end
end K28

set_option Elab.async false
set_option linter.all false
set_option maxRecDepth 100000
set_option maxHeartbeats 4000000
namespace K28
open PySem PySem.Spec PyProof.Rows L2
/-- a span's text -/
def spanT (l : List Nat) (s : Nat × Nat) : List Nat := (l.drop s.1).take (s.2 - s.1)
structure SpOk (l : List Nat) (sp : List (Nat × Nat)) : Prop where
  lo : 1 ≤ sp.length
  hi : sp.length ≤ 3
  num : ∀ s ∈ sp, s.1 < s.2 ∧ s.2 ≤ l.length ∧ s.2 - s.1 ≤ 4 ∧ (spanT l s).all isDig = true
theorem num1_ok {d : List Nat} {n : Nat} (h : num1 d = some n) : n ≤ 4 ∧ (d.take n).all isDig = true := by
  have cl : ∀ (m : Nat) (l : List Nat), (l.take (cntD m l)).all isDig = true := by
    intro m
    induction m with
    | zero =>
      intro l
      show (l.take 0).all isDig = true
      simp
    | succ m ih =>
      intro l
      cases l with
      | nil => rfl
      | cons c r =>
        have := ih r
        show ((c :: r).take (if isDig c = true then 1 + cntD m r else 0)).all isDig = true
        by_cases hc : isDig c = true
        · rw [if_pos hc, Nat.add_comm, List.take_succ_cons, List.all_cons, hc, this] <;> rfl
        · rw [if_neg hc]
          simp
  cases d with
  | nil => cases h
  | cons c r =>
    have h : (if isDig c = true then some (if c = 48 then 1 else 1 + cntD 3 r) else none) = some n := h
    have h3 := cntD_le 3 r
    by_cases hc : isDig c = true
    · rw [if_pos hc] at h
      have e := Option.some.inj h
      rw [← e]
      split
      · simp [hc]
      · refine ⟨by omega, ?_⟩
        rw [Nat.add_comm, List.take_succ_cons, List.all_cons, hc, cl 3 r] <;> rfl
    · rw [if_neg hc] at h
      cases h
theorem num1_span {l : List Nat} {i n : Nat} (h : num1 (l.drop i) = some n) : i < i + n ∧ i + n ≤ l.length ∧ (i + n) - i ≤ 4 ∧ (spanT l (i, i + n)).all isDig = true := by
  have h1 := num1_le h
  have h2 := num1_ok h
  rw [List.length_drop] at h1
  refine ⟨by omega, by omega, by omega, ?_⟩
  unfold spanT
  show ((l.drop i).take (i + n - i)).all isDig = true
  rw [show i + n - i = n by omega]
  exact h2.2
theorem contP_ok (l : List Nat) : ∀ (cs : List Nat) (sp0 sp : List (Nat × Nat)) (b : Nat), contP l cs sp0 b = some sp → (∀ s ∈ sp0, s.1 < s.2 ∧ s.2 ≤ l.length ∧ s.2 - s.1 ≤ 4 ∧ (spanT l s).all isDig = true) →
    (∀ s ∈ sp, s.1 < s.2 ∧ s.2 ≤ l.length ∧ s.2 - s.1 ≤ 4 ∧ (spanT l s).all isDig = true) ∧ sp0.length ≤ sp.length ∧ sp.length ≤ sp0.length + cs.length
  | [], sp0, sp, b, h, h0 => by
    have e := Option.some.inj h
    rw [← e]
    exact ⟨h0, Nat.le_refl _, by simp⟩
  | c :: cs, sp0, sp, b, h, h0 => by
    unfold contP at h
    split at h
    · split at h
      · cases h
      · rename_i n hn
        obtain ⟨g1, g2, g3⟩ := contP_ok l cs _ sp _ h (fun s hs => by
          rcases List.mem_append.mp hs with hs | hs
          · exact h0 s hs
          · rw [List.mem_singleton.mp hs]
            exact num1_span hn)
        simp at g2 g3
        exact ⟨g1, by omega, by simp; omega⟩
    · have e := Option.some.inj h
      rw [← e]
      exact ⟨h0, Nat.le_refl _, by simp⟩
theorem entryP_ok {l : List Nat} {i : Nat} {sp : List (Nat × Nat)} (h : entryP l i = some sp) : SpOk l sp := by
  unfold entryP at h
  split at h
  · cases h
  · rename_i n hn
    obtain ⟨g1, g2, g3⟩ := contP_ok l _ _ sp _ h (fun s hs => by
      rw [List.mem_singleton.mp hs]
      exact num1_span hn)
    exact ⟨g2, g3, g1⟩
/-- what an entry's numbers tell: first, behind the last, step -/
def boundsN : List Nat → Option (Nat × Nat × Nat)
  | [a] => some (a, a + 1, 1)
  | [a, b] => if b ≤ a then none else some (a, b + 1, 1)
  | [a, b, c] => if b ≤ a then none else if c = 0 then none else some (a, b + 1, c)
  | _ => none
def boundsP (l : List Nat) (sp : List (Nat × Nat)) : Option (Nat × Nat × Nat) := boundsN (sp.map fun s => val (spanT l s))
def spTold (K : PySem.W.Frag) : Sp := fun vs H Q E => ∃ (l : List Nat) (p : Addr) (sp : List (Nat × Nat)), vs = [.str (S l), .ref p] ∧ l.length ≤ 100000 ∧ SpanL H p sp ∧ SpOk l sp ∧ (boundsP l sp = none → RaP K E H) ∧
  ∀ a b c t H', boundsP l sp = some (a, b, c) → Same H H' → H t = none → H' t = some (.tup [vN a, vN b, vN c]) → Q (.ref t) H'
section
variable {w : World} {K : PySem.W.Frag} {mg : Str → Option Value} {base : Heap}
theorem ok_told_bounds (T : Ty K mg) : Fk Er.PRG w K mg base "told_bounds" 1 ["text", "spots"] (spTold K) := by
  refine Fk.mk T.g_told_bounds T.d_told_bounds sc_told_bounds (fun vs H Q E h => ?_) (fun _ _ _ _ _ _ us hl => match us, hl with | [_, _], _ => rfl) fun cdv A outer s H vs Q E hr h => ⟨_,
      (pss_cons (ps_asg (pe_lc (own := [("begin", 4), ("end", 5)]) (g := gTup K 2 (gCons (gName 4) (gCons (gName 5) (gNil)))) rfl sc_told_bounds.nd (pi_list (pv 1)) (blkOk_by (own := [("begin", 4), ("end", 5)]) (N := N_told_bounds) (sc := defScope s_told_bounds) (by decide +kernel)) (fun _ _ _ _ _ => (pg_tup rfl (pgs_cons (pg_name (i := 4) sc_told_bounds.nd rfl (Or.inl rfl)) (pgs_cons (pg_name (i := 5) sc_told_bounds.nd rfl (Or.inl rfl)) pgs_nil)))) (fun _ _ _ _ _ => pts_nil) (fun _ _ _ _ _ => (pe_callTy call_int_str (by rfl) T.m_int (by decide +kernel) (pa_cons (pe_slice sl_str (pv 0) (po_some (pv 4)) (po_some (pv 5))) pa_nil)))) (pg_star (i := 2) (j := 3) rfl sc_told_bounds.nd rfl rfl (Or.inl rfl) (Or.inl rfl)))
      (pss_cons (ps_if (pt_cmpR (op_eqE hr.units0) (pv 3) (pe_lst pa_nil) (nomark _)) (pss_one (ps_ret (pe_tup (pa_cons (pv 2) (pa_cons (pe_op op_add (pv 2) pe_int) (pa_cons pe_int pa_nil)))))) pss_nil)
      (pss_cons (ps_if (pt_cmpR op_ge (pv 2) (pe_ix ix_list (pv 3) pe_int (fun _ _ => rfl)) (nomark _)) (pss_one (ps_raise rfl (takes_of rfl rfl rfl rfl) (Er.pmk_ParseError rfl T.pe T.m_super T.m_str hr (pa_cons (pe_ix ix_tup (pe_ix ix_list (pv 1) pe_int (fun _ _ => rfl)) pe_int (fun _ _ => rfl)) pa_nil)))) pss_nil)
      (pss_cons (ps_if (PW.pt (pw_and (pt_cmpR op_eq (pe_callB call_len (by rfl) T.m_len boot_len (pa_cons (pv 3) pa_nil)) pe_int (nomark _)) (pw_and1 (pt_cmpR op_eq (pe_ix ix_list (pv 3) pe_int (fun _ _ => rfl)) pe_int (nomark _))))) (pss_one (ps_raise rfl (takes_of rfl rfl rfl rfl) (Er.pmk_ParseError rfl T.pe T.m_super T.m_str hr (pa_cons (pe_ix ix_tup (pe_ix ix_list (pv 1) pe_int (fun _ _ => rfl)) pe_int (fun _ _ => rfl)) pa_nil)))) pss_nil)
      (pss_one (ps_ret (pe_tup (pa_cons (pv 2) (pa_cons (pe_op op_add (pe_ix ix_list (pv 3) pe_int (fun _ _ => rfl)) pe_int) (pa_cons (pe_ifExp (pt_cmpR op_eq (pe_callB call_len (by rfl) T.m_len boot_len (pa_cons (pv 3) pa_nil)) pe_int (nomark _)) (pe_ix ix_list (pv 3) pe_int (fun _ _ => rfl)) pe_int) pa_nil)))))))))), ?_⟩
  · obtain ⟨_, _, _, rfl, _⟩ := h
    rfl
  · obtain ⟨l, p, sp, rfl, hl, hS, ok, q1, q2⟩ := h
    have hz := sz_ok hl
    obtain ⟨ts, hp, hlen, hel⟩ := _root_.id hS
    have s3 : 3 ≤ sizeLine := by
      rw [sizeLine_eq]
      omega
    have hlo := ok.lo
    have hhi := ok.hi
    have hn : (ts.map V.ref).length = sp.length := by rw [List.length_map, hlen]
    refine ⟨_, rfl, p, rfl, ⟨_, .inl (.inl hp)⟩, fun D hD => ?_⟩
    refine lc_pure (ordS (K := K)) (walk_list (K := K)) (fun i => sp[i]?.map fun s => vN (val (spanT l s))) hD (by omega) (fun H1 e => .inl (.inl (e _ _ hp))) (fun i x H1 H2 Fin No hi e hy hF hN => ?_) fun H1 e h3 => ?_
    · obtain ⟨rfl, hx⟩ := hy
      obtain ⟨t, ht, rfl⟩ := map_get hx
      have hi2 : i < sp.length := by omega
      obtain ⟨s, hs⟩ : ∃ s, sp[i]? = some s := ⟨_, List.getElem?_eq_getElem hi2⟩
      have htt := e _ _ (hel i t s ht hs)
      obtain ⟨g1, g2, g3, g4⟩ := ok.num s (List.mem_of_getElem? hs)
      refine ⟨_, _, rfl, .inl (.inl htt), rfl, _, _, rfl, _, _, rfl, rfl, rfl, ?_⟩
      refine ⟨_, rfl, _, rfl, _, rfl, _, rfl, _, rfl, _, rfl, hz, S (spanT l s), (val (spanT l s) : Nat), congrArg (fun z => [V.str z]) (cutS_two l s.1 s.2), ?_, ?_, ?_⟩
      · have hne : (spanT l s).length = s.2 - s.1 := by
          unfold spanT
          rw [List.length_take, List.length_drop]
          omega
        refine SX.int_S g4 (fun z => ?_) (by omega)
        rw [z] at hne
        simp at hne
        omega
      · rw [S_len]
        unfold spanT
        rw [List.length_take]
        omega
      · refine hF _ _ ?_ (Same.refl _)
        rw [hs] <;> rfl
    · have hvals : H1 D = some (.lst (sp.map fun s => vN (val (spanT l s)))) := by
        rw [h3, hn]
        congr 2
        have := fm_map sp (fun s => vN (val (spanT l s)))
        exact this
      have hDH : H D = none := hD
      have hbp : boundsP l sp = boundsN (sp.map fun s => val (spanT l s)) := rfl
      have hS1 := hS.same e
      obtain ⟨ts1, hp1, hlen1, hel1⟩ := hS1
      have sm : ∀ {n : Nat}, n ≤ l.length → ((n : Nat) : Int).natAbs.log2 < 1920 := fun h => log_small (Nat.lt_of_le_of_lt (Nat.le_trans h hl) (by decide +kernel))
      match sp, ts1, hlen1, hlo, hhi, hel1, hvals, hbp, ok with
      | [s1], _, _, _, _, _, hvals, hbp, _ =>
        rw [hbp] at q2
        refine ⟨D, _, _, rfl, hvals, Nat.zero_le _, fun m hm => ?_⟩
        refine ⟨_, rfl, Nat.zero_le _, fun p2 hp2 => ⟨m, p2, [], rfl, rfl, .inl ⟨.inl (.inl ?_), .inl (.inl upd_same)⟩, _, rfl, ifT rfl ?_⟩⟩
        · rw [upd_ne (ne_of_none upd_same hp2), upd_same] <;> rfl
        · have e4 : Same H (upd (upd H1 m (.lst [])) p2 (.lst [])) := e.trans ((Same.new hm).trans (Same.new hp2))
          refine ⟨_, rfl, _, rfl, _, _, rfl, rfl, s3, fun t ht => q2 _ _ _ _ _ rfl (e4.trans (Same.new ht)) (e4.free ht) upd_same⟩
      | [s1, s2], [t1, t2], _, _, _, hel1, hvals, hbp, ok =>
        refine ⟨D, _, [vN (val (spanT l s2))], rfl, hvals, by simp, fun m hm => ?_⟩
        refine ⟨_, rfl, Nat.zero_le _, fun p2 hp2 => ⟨m, p2, [vN (val (spanT l s2))], rfl, rfl, .inl ⟨.inl (.inl ?_), .inl (.inl upd_same)⟩, _, rfl, ifF rfl ?_⟩⟩
        · rw [upd_ne (ne_of_none upd_same hp2), upd_same]
        · have e13 : Same H1 (upd (upd H1 m (.lst [vN (val (spanT l s2))])) p2 (.lst [])) := (Same.new hm).trans (Same.new hp2)
          have hm3 : upd (upd H1 m (.lst [vN (val (spanT l s2))])) p2 (.lst []) m = some (.lst [vN (val (spanT l s2))]) := by
            rw [upd_ne (ne_of_none upd_same hp2), upd_same]
          have e3 := e.trans e13
          generalize upd (upd H1 m (.lst [vN (val (spanT l s2))])) p2 (.lst []) = H3 at *
          have hp3 := e13 _ _ hp1
          have ht2 := e13 _ _ (hel1 1 t2 s2 rfl rfl)
          have hs2 := ok.num s2 (by simp)
          refine ⟨_, rfl, _, rfl, m, _, _, _, rfl, rfl, .inl (.inl hm3), atI_nat (j := 0) rfl, _, _, rfl, rfl, _, rfl, ?_⟩
          by_cases h21 : val (spanT l s2) ≤ val (spanT l s1)
          · have hb : boundsP l [s1, s2] = none := if_pos h21
            refine ifT (decide_eq_true (by omega)) ⟨_, rfl, p, _, _, _, rfl, rfl, .inl (.inl hp3), atI_nat (j := 1) rfl, t2, _, _, _, rfl, rfl, .inl (.inl ht2), atI_nat (j := 0) rfl, _, rfl, sm (by omega), fun d hd => q1 hb _ _ (e3.trans (Same.new hd))⟩
          · refine ifF (decide_eq_false (by omega)) ?_
            have hb : boundsP l [s1, s2] = some (val (spanT l s1), val (spanT l s2) + 1, 1) := if_neg h21
            refine ⟨_, rfl, _, _, rfl, len_l (.inl (.inl hm3)), rfl, _, rfl, ifF rfl (ifF rfl ?_)⟩
            exact ⟨_, rfl, _, rfl, m, _, _, _, rfl, rfl, .inl (.inl hm3), atI_nat (j := 0) rfl, _, _, rfl, rfl, _, rfl, _, _, rfl, len_l (.inl (.inl hm3)), rfl, _, rfl, ifF rfl ⟨s3, fun t ht => q2 _ _ _ _ _ hb (e3.trans (Same.new ht)) (e3.free ht) upd_same⟩⟩
      | [s1, s2, s3'], [t1, t2, t3], _, _, _, hel1, hvals, hbp, ok =>
        refine ⟨D, _, [vN (val (spanT l s2)), vN (val (spanT l s3'))], rfl, hvals, by simp, fun m hm => ?_⟩
        refine ⟨_, rfl, Nat.zero_le _, fun p2 hp2 => ⟨m, p2, [vN (val (spanT l s2)), vN (val (spanT l s3'))], rfl, rfl, .inl ⟨.inl (.inl ?_), .inl (.inl upd_same)⟩, _, rfl, ifF rfl ?_⟩⟩
        · rw [upd_ne (ne_of_none upd_same hp2), upd_same]
        · have e13 : Same H1 (upd (upd H1 m (.lst [vN (val (spanT l s2)), vN (val (spanT l s3'))])) p2 (.lst [])) := (Same.new hm).trans (Same.new hp2)
          have hm3 : upd (upd H1 m (.lst [vN (val (spanT l s2)), vN (val (spanT l s3'))])) p2 (.lst []) m = some (.lst [vN (val (spanT l s2)), vN (val (spanT l s3'))]) := by
            rw [upd_ne (ne_of_none upd_same hp2), upd_same]
          have e3 := e.trans e13
          generalize upd (upd H1 m (.lst [vN (val (spanT l s2)), vN (val (spanT l s3'))])) p2 (.lst []) = H3 at *
          have hp3 := e13 _ _ hp1
          have ht2 := e13 _ _ (hel1 1 t2 s2 rfl rfl)
          have hs2 := ok.num s2 (by simp)
          refine ⟨_, rfl, _, rfl, m, _, _, _, rfl, rfl, .inl (.inl hm3), atI_nat (j := 0) rfl, _, _, rfl, rfl, _, rfl, ?_⟩
          by_cases h21 : val (spanT l s2) ≤ val (spanT l s1)
          · have hb : boundsP l [s1, s2, s3'] = none := if_pos h21
            refine ifT (decide_eq_true (by omega)) ⟨_, rfl, p, _, _, _, rfl, rfl, .inl (.inl hp3), atI_nat (j := 1) rfl, t2, _, _, _, rfl, rfl, .inl (.inl ht2), atI_nat (j := 0) rfl, _, rfl, sm (by omega), fun d hd => q1 hb _ _ (e3.trans (Same.new hd))⟩
          · refine ifF (decide_eq_false (by omega)) ?_
            have ht3 := e13 _ _ (hel1 2 t3 s3' rfl rfl)
            have hs3 := ok.num s3' (by simp)
            refine ⟨_, rfl, _, _, rfl, len_l (.inl (.inl hm3)), rfl, _, rfl, ifT rfl ⟨_, rfl, m, _, _, _, rfl, rfl, .inl (.inl hm3), atI_nat (j := 1) rfl, rfl, _, rfl, ?_⟩⟩
            by_cases h0 : val (spanT l s3') = 0
            · have hb : boundsP l [s1, s2, s3'] = none := (if_neg h21).trans (if_pos h0)
              refine ifT (decide_eq_true (by rw [h0] <;> rfl)) ⟨_, rfl, p, _, _, _, rfl, rfl, .inl (.inl hp3), atI_nat (j := 2) rfl, t3, _, _, _, rfl, rfl, .inl (.inl ht3), atI_nat (j := 0) rfl, _, rfl, sm (by omega), fun d hd => q1 hb _ _ (e3.trans (Same.new hd))⟩
            · have hb : boundsP l [s1, s2, s3'] = some (val (spanT l s1), val (spanT l s2) + 1, val (spanT l s3')) := (if_neg h21).trans (if_neg h0)
              refine ifF (decide_eq_false fun z => h0 (by injection z with z; omega)) ?_
              exact ⟨_, rfl, _, rfl, m, _, _, _, rfl, rfl, .inl (.inl hm3), atI_nat (j := 0) rfl, _, _, rfl, rfl, _, rfl, _, _, rfl, len_l (.inl (.inl hm3)), rfl, _, rfl, ifT rfl ⟨_, rfl, m, _, _, _, rfl, rfl, .inl (.inl hm3), atI_nat (j := 1) rfl, s3, fun t ht => q2 _ _ _ _ _ hb (e3.trans (Same.new ht)) (e3.free ht) upd_same⟩⟩
end
end K28

set_option Elab.async false
set_option linter.all false
set_option maxRecDepth 100000
set_option maxHeartbeats 4000000
namespace K28
open PySem PySem.Spec PyProof.Rows L2
/-! ## a list comprehension whose element's call may raise -/
section
variable {X : Cx} {pins : List (Addr × Obj)} {σ : L2.St} {H : Hp} {s s' : Shared} {E : XK}
/-- a call's exception: what it leaves -/
theorem fly_of_call (I : Inv X pins σ H s) {u : Value} (c : L2.CX X.prog X.w X.stack H s E u s') : ∃ (a : Addr) (B : Heap) (sI : Shared) (H' : Hp) (cls : Value) (d : Option Addr), u = .ref a ∧ Inv X pins σ H' sI ∧ (∀ b o, sI.heap.get? b = some o → b ∉ frs X.stack → B.get? b = some o) ∧ sI.heap.UpToSlots s'.heap ∧
    PySem.HandSPX.FlyingZ B X.stack a (Zc cls d) s'.heap ∧ H' a = none ∧ s'.os = sI.os ∧ AllBare s'.gens ∧ E cls d H' := by
  obtain ⟨a, B, H2, cls, d, rfl, fl, hok, ub, na, os, ag, hE⟩ := c
  obtain ⟨G, r1, r2⟩ := restrict s'.heap fun b => (B.get? b).isSome || decide (b ∈ frs X.stack)
  have inB : ∀ b o, B.get? b = some o → G.get? b = some o := fun b o e => (r1 b (by simp [e])).trans (fl.1 b o e)
  have inF : ∀ b, b ∈ frs X.stack → G.get? b = s'.heap.get? b := fun b hb => r1 b (by simp [hb])
  have ofG : ∀ b o, G.get? b = some o → s'.heap.get? b = some o ∧ ((B.get? b).isSome = true ∨ b ∈ frs X.stack) := fun b o e => by
    by_cases q : ((B.get? b).isSome || decide (b ∈ frs X.stack)) = true
    · rw [r1 b q] at e
      exact ⟨e, by simpa [Bool.or_eq_true] using q⟩
    · rw [r2 b (Bool.not_eq_true _ |>.mp q)] at e
      cases e
  have un : Un (frs X.stack) [] H H2 s.heap G := by
    refine ⟨fun b o e n hb _ => inB b o (ub.keep b o e n hb), fun b o e n hb _ => ?_, fun b o e n _ => ub.free b o e n, fun b o e _ => ?_, ub.tups, ub.frzs, ub.tbls⟩
    · obtain ⟨sl, q⟩ := ub.slot b o e hb
      exact ⟨sl, (inF b hb).trans q⟩
    · by_cases hb : b ∈ frs X.stack
      · obtain ⟨sl, q⟩ := ub.slot b o e hb
        exact ⟨_, (inF b hb).trans q⟩
      · obtain ⟨o2, q⟩ := ub.there b o e hb
        exact ⟨o2, inB b o2 q⟩
  refine ⟨a, B, { s with heap := G, gens := s'.gens, drawn := s'.drawn, toks := s'.toks }, H2, cls, d, rfl, I.call (ch := []) un (hok.kept inB) ag (fun _ z => nomatch z), fun b o e hb => ?_, Heap.UpToSlots.of_keeps fun b o e => (ofG b o e).1, fl, na, os, ag, hE⟩
  obtain ⟨e1, h | h⟩ := ofG b o e
  · obtain ⟨o2, q⟩ := Option.isSome_iff_exists.mp h
    have z := fl.1 b o2 q
    rw [e1] at z
    cases z
    exact q
  · exact absurd h hb
/-- out of the comprehension's block -/
theorem comp_out {s3 : Shared} {H3 : Hp} {scope : Scope} {ce : Env} {fp : List Addr} (I3 : Inv X pins σ H3 s3) (hs : X.stack = X.env :: X.outer) (hf : X.env.frame = some X.env.locals) (hcf : ce.frame = X.env.frame) (cL : ce.locals = s3.heap.objs.size) (f3 : ∀ b ∈ fp, FpOk X pins H3 b)
    (tk : Takes X (fun cls d _ H => E cls d H)) {pins' : List (Addr × Obj)} {σ' : L2.St} {H : Hp} {s : Shared} {e : Value} {s' : Shared} (J : Inv (X.blk s3 H3 scope ce fp) pins' σ' H s) (c : L2.CX X.prog X.w X.stack H s E e s') :
    notedBy (model X.prog X.w) X.A ce (CompFails (model X.prog X.w) X.A X.xe ce) e s' := by
  obtain ⟨a, B, sI, H', cls, d, rfl, J2, nb, up, fl, na, os, ag, hE⟩ := fly_of_call J c
  have hfr : X.A.frames = some (X.env :: X.outer) := by rw [I3.ok.frames, hs]
  have fl : PySem.HandSPX.FlyingZ B (X.env :: X.outer) a (Zc cls d) s'.heap := by
    rw [← hs]
    exact fl
  show wpAny _ _ (noteFrame (.ref a) ce) _ _ s'
  rw [noteFrame_env _ hcf]
  refine PySem.HandSPX.looks_onZ Zc.steady hfr hf fl fun h1 held1 up1 => ?_
  obtain ⟨m, hn, _⟩ := J2.loc
  have hn : sI.heap.Ns ce.locals m := hn
  have upA : sI.heap.UpToSlots h1 := up.trans up1
  have hn1 : h1.Ns ce.locals m := Heap.Ns.upToSlots hn upA
  refine ⟨m, hn1, fun h2 m2 hn2 hs2 => ?_⟩
  obtain ⟨k1, k2, k3, k4⟩ := held1
  obtain ⟨oC, esC, epC, hoC, hdC, _⟩ := hn1
  have frees : ∀ b, (PySem.W.hideAll B [ce.locals]).get? b = none ∨ ((PySem.W.hideAll B [ce.locals]).get? b = B.get? b ∧ b ≠ ce.locals) := fun b => by
    cases q : (PySem.W.hideAll B [ce.locals]).get? b with
    | none => exact .inl rfl
    | some o =>
      refine .inr ⟨(PySem.W.of_hideAll _ q).symm, fun z => ?_⟩
      rw [z, PySem.W.hideAll_none [ce.locals] (List.mem_cons_self ..)] at q
      cases q
  have st2 : (PySem.W.hideAll B [ce.locals]).StaysIn h2 := fun b o q => by
    rcases frees b with z | ⟨z, hne⟩
    · rw [z] at q
      cases q
    · exact (hs2.2 b hne).trans (k1 b o (z.symm.trans q))
  have none2 : ∀ b, B.get? b = none → (PySem.W.hideAll B [ce.locals]).get? b = none := fun b q => by
    rcases frees b with z | ⟨z, _⟩
    · exact z
    · exact z.trans q
  have ffB := Heap.FunFrames.sameBut hs2 hn2 k3
  have ff2 : h2.FunFrames (PySem.W.hideAll B [ce.locals]) (X.env :: X.outer) := funFrames_none ffB fun L hL => none2 L (ffB.mem hL).1
  obtain ⟨oe, vs, T, oT, ts, he, hz, hd, h1v, hnT, hTe, hT, hdT, h3⟩ := k4
  have neC : ∀ {b : Addr} {o : Obj} {vs : Array Value}, h1.get? b = some o → o.data = .fields vs → b ≠ ce.locals := fun {b o vs} q dq z => by
    rw [z, hoC] at q
    cases q
    rw [hdC] at dq
    cases dq
  have he2 := (hs2.2 a (neC he hd)).trans he
  have hT2 := (hs2.2 T (neC hT hdT)).trans hT
  unfold PySem.passOn
  refine wpAny_bind (wpAny_field he2 hd h1v ?_)
  rw [if_neg (show ¬ ((Value.ref T == Value.none) = true) from by simp)]
  rw [hcf, hf]
  refine wpAny_bind (PySem.HandSPX.setFlight_onZ (L := X.env.locals) ⟨st2, none2 a k2, ff2, oe, vs, T, oT, ts, he2, hz, hd, h1v, none2 T hnT, hTe, hT2, hdT, h3⟩ fun h3 held3 up3 => ?_)
  refine wpAny_throw ?_
  have old : ∀ b o, s3.heap.get? b = some o → b ∉ [ce.locals] := fun b o q hb => by
    have z := List.mem_singleton.mp hb
    have l1 := Heap.lt_size q
    rw [z, cL] at l1
    exact Nat.lt_irrefl _ l1
  have noC : ∀ {b : Addr} {o : Obj}, (PySem.W.hideAll sI.heap [ce.locals]).get? b = some o → b ≠ ce.locals := fun {b o} q z => by
    rw [z, PySem.W.hideAll_none [ce.locals] (List.mem_cons_self ..)] at q
    cases q
  refine tk _ _ ⟨a, PySem.W.hideAll B [ce.locals], { sI with heap := PySem.W.hideAll sI.heap [ce.locals] }, pins, σ, H', cls, d, rfl, ?_, fun b o q hb => ?_, fun b o q hnf => ?_, .inr (.inr (by rw [hs]; exact held3)), na, os, ag, hE⟩
  · have b0 : Un (frs X.stack) fp H3 H' s3.heap sI.heap := J2.base
    have b1 : Un (frs X.stack) fp H3 H' s3.heap (PySem.W.hideAll sI.heap [ce.locals]) := by
      refine ⟨fun b o q n hb hx => PySem.W.hideAll_get _ (b0.keep b o q n hb hx) (old b o q), fun b o q n hb hx => ?_, b0.free, fun b o q hx => ?_, b0.tups, b0.frzs, b0.tbls⟩
      · obtain ⟨sl, z⟩ := b0.slot b o q n hb hx
        exact ⟨sl, PySem.W.hideAll_get _ z (old b o q)⟩
      · obtain ⟨o2, z⟩ := b0.there b o q hx
        exact ⟨o2, PySem.W.hideAll_get _ z (old b o q)⟩
    have free2 : H' ce.locals = none := J2.free
    have hok2 : HOk X.prog X.w H' (PySem.W.hideAll sI.heap [ce.locals]) := fun b o q => (J2.hok b o q).stay (fun c u hc r => PySem.W.hideAll_get _ r fun hm => by
      have z := List.mem_singleton.mp hm
      rcases hc with hc | hc
      · rw [← hc, z, free2] at q
        cases q
      · rw [z, free2] at hc
        cases hc) (fun _ r => r) fun _ _ r => r
    exact I3.call' (ch := fp) (s' := { sI with heap := PySem.W.hideAll sI.heap [ce.locals] }) J2.os b1 hok2 J2.bare fun b hb => ⟨(f3 b hb).2.2.2.1, (f3 b hb).2.1, (f3 b hb).2.2.2.2.1, (f3 b hb).2.2.2.2.2⟩
  · exact PySem.W.hideAll_get _ (nb b o (PySem.W.of_hideAll _ q) hb) fun hm => noC q (List.mem_singleton.mp hm)
  · obtain ⟨sl, e1⟩ := upA b o (PySem.W.of_hideAll _ q) hnf
    have e2 := (hs2.2 b (noC q)).trans e1
    have z := up3 b _ e2 hnf
    exact z
end
section
variable {X : Cx} {E : XK}
/-- f(..) where what it lets out is taken -/
theorem pe_fP {x : Str} {k : Nat} {ps : List Str} {sp : Sp} {p pos : Pos} {e : Expr} {es : List Expr} {t : TA} (F : Fk X.prog X.w X.K X.mg X.base x k ps sp) (hr : Room k X.A) (hx : ∀ σ, PassesAt (L2.CX X.prog X.w) X σ E) (ha : PA X (e :: es) t) (hg : Gl X x := by rfl) (hd : (x == ("__debug__" : Str)) = false := by decide)
    (hp : starEach (e :: es) X.env = (false, eval e X.env) :: starEach es X.env := by rfl) (hpl : (backTo pos (starEach es X.env)).any (·.1) = false := by rfl) : PE X (.Call (.Name x p) (e :: es) [] pos) (tCallS sp (fun _ => E) t) := by
  obtain ⟨f, fd, h1, h2, h3, h4⟩ := F
  exact pe_callS (E := fun _ => E) h3 hr hg h1 h2 h4 hx ha hd hp hpl
/-- [elt for tg in iter], elt's calls may raise -/
theorem pe_lcX {elt tg iter : Expr} {scope : Scope} {own : List (Str × Nat)} {pos : Pos} {wi : TI} {g : TG} {te : TE} (hc : X.calm = true) (hN : X.N.Nodup) (hst : X.stack = X.env :: X.outer) (hfr : X.env.frame = some X.env.locals) (tk : Takes X (fun cls d _ H => E cls d H)) (hi : PI X tg iter wi) (ok : BlkOk X.N X.env.scope scope own)
    (hg : ∀ (s : Shared) (H : Hp) (C : Addr) (cl : List (Str × Addr)) (fp : List Addr), PG (X.blk s H scope (compEnvC scope cl C X.env) fp) tg g)
    (he : ∀ (s : Shared) (H : Hp) (C : Addr) (cl : List (Str × Addr)) (fp : List Addr) (pn : List (Addr × Obj)) (xe : Value → Shared → Prop), (∀ σ, PassesAt (L2.CX X.prog X.w) ((X.blk s H scope (compEnvC scope cl C X.env) fp).tr pn xe) σ E) → PE ((X.blk s H scope (compEnvC scope cl C X.env) fp).tr pn xe) elt te)
    (hs : ∀ x, foldedSetIterable iter X.env x = pure x := by intro _; rfl) : PE X (.ListComp elt [⟨tg, iter, [], 0⟩] scope pos) (tLc wi g tYes te (own.map (·.2))) := by
  refine ⟨fun pins s σ H Q I h => ?_⟩
  rw [eval_ListComp]
  have hfree : ∀ y ∈ scope.names, y.2 = .free → ∃ c, X.env.cells.lookup y.1 = some c := fun y hy e => (ok.free y hy e).elim (fun k => I.ok.has _ (.inl k)) fun k => I.ok.has _ (.inr k)
  refine comprehension_at (use := none) rfl hs (closure_ok hfree) ok.kind (fun y hy e => by rw [ok.uniq y hy, e]) (thn (hi.run pins s σ H _ I h) fun xv s1 hx => thn hx fun itv s2 h2 => ?_)
  obtain ⟨it, fp, tn, J, H2, rfl, I2, T, st2, f2, q⟩ := h2
  refine wpAny_newObj_type (newEnv_comp ?_) (Nat.zero_le _)
  generalize hD : s2.heap.objs.size = D
  have hDn : H2 D = none := I2.hok.fresh (Nat.le_of_eq hD)
  obtain ⟨W, ⟨m0, w0⟩, turn⟩ := q D hDn
  generalize hs3 : ({ s2 with heap := s2.heap.push { cls := .type "list", data := .seq ([] : List Value).toArray } } : Shared) = s3
  have h3 : s3.heap = s2.heap.push { cls := .type "list", data := .seq ([] : List Value).toArray } := by rw [← hs3]
  have I3 : Inv X pins σ (upd H2 D (.lst [])) s3 := by
    subst hs3
    exact I2.laid (t' := s2.toks) (fun b o e => Heap.get?_push_of_some _ e) (Nat.le_of_eq hD) ⟨Nat.zero_le _, [], 0, .nil, hD ▸ Heap.get?_push_size _ rfl⟩
  have szs : ∀ b ∈ fp, b < s2.heap.objs.size := fun b hb => by
    obtain ⟨o, e, _⟩ := T.obj _ _ st2 b hb
    exact Heap.lt_size e
  have f3 : ∀ b ∈ fp, FpOk X pins (upd H2 D (.lst [])) b ∧ b < s3.heap.objs.size := fun b hb => by
    have hlt := szs b hb
    refine ⟨⟨?_, (f2 b hb).2⟩, by rw [h3, Heap.size_push]; exact Nat.lt_succ_of_lt hlt⟩
    rw [upd_ne (hD ▸ Nat.ne_of_lt hlt)]
    exact (f2 b hb).1
  have st3 : tn 0 s3.heap := T.keep _ _ _ st2 fun b _ o e => by rw [h3]; exact Heap.get?_push_of_some _ e
  have I4 := block_start I3 ok hN f3
  generalize hcl : cellsFrom (s3.heap.objs.size + 1) scope.names (cloFrom X.env.cells scope.names []) = cl at I4
  have pg := hg s3 (upd H2 D (.lst [])) s3.heap.objs.size cl fp
  have pe := he s3 (upd H2 D (.lst [])) s3.heap.objs.size cl fp
  show codeAny _ _ (.compStart (.ListComp elt [⟨tg, iter, [], 0⟩] scope pos) 0 (.ref it) (.ref D) (compEnvC scope cl s3.heap.objs.size X.env)) (compEnds (model X.prog X.w) X.A X.xe none (EP X pins σ Q) (.ref D) (compEnvC scope cl s3.heap.objs.size X.env)) { s3 with heap := pushCells (s3.heap.push { cls := .type "dict", data := .dict #[] }) scope.names }
  have nfp : ∀ b ∈ fp, (upd H2 D (.lst [])) b = none := fun b hb => (f3 b hb).1.1
  have hcf : (compEnvC scope cl s3.heap.objs.size X.env).frame = X.env.frame := rfl
  generalize hce : compEnvC scope cl s3.heap.objs.size X.env = ce at I4 pg pe hcf ⊢
  have cL : ce.locals = s3.heap.objs.size := by subst hce; rfl
  generalize hH3 : upd H2 D (.lst []) = H3 at I3 I4 pg pe w0 nfp f3
  generalize hs4 : ({ s3 with heap := pushCells (s3.heap.push { cls := .type "dict", data := .dict #[] }) scope.names } : Shared) = s4 at I4 ⊢
  have st4 : tn 0 s4.heap := T.keep _ _ _ st3 fun b _ o e => by subst hs4; exact pushCells_keeps _ _ _ _ (Heap.get?_push_of_some _ e)
  have stat : ∀ {σ' : L2.St} {H' : Hp} {s' : Shared}, Inv (X.blk s3 H3 scope ce fp) [] σ' H' s' → (∀ b ∈ fp, H' b = none) → ∀ b ∈ fp, FpOk (X.blk s3 H3 scope ce fp) [] H' b := fun {σ' H' s'} I' hn b hb =>
    ⟨hn b hb, (I'.ok.exf b hb).1, I'.ok.exfs b hb, .inl hb, fun x c e => (I'.ok.exf b hb).2 x c e, fun p hp => absurd (show p ∈ ([] : List (Addr × Obj)) ++ [] from hp) (by simp)⟩
  have loop : codeAny (model X.prog X.w) X.A (.compLoop (.ListComp elt [⟨tg, iter, [], 0⟩] scope pos) 0 (.ref it) (.ref D) ce) (compEnds (model X.prog X.w) X.A X.xe none (EP X pins σ Q) (.ref D) ce) s4 := by
    refine compLoop_any (fun n s' => ∃ i H', Inv (X.blk s3 H3 scope ce fp) [] (wipe σ (own.map (·.2))) H' s' ∧ tn i s'.heap ∧ (∀ b ∈ fp, H' b = none) ∧ W i n H') ?_ m0 ⟨0, H3, I4, st4, nfp, w0⟩
    rintro n s5 ⟨i, H5, I5, st5, n5, w5⟩
    rcases turn i n H5 w5 with ⟨stop, qq⟩ | ⟨go, Nx, hNx, step⟩
    · refine thnF (T.done (X.blk s3 H3 scope ce fp) rfl rfl rfl hc i [] s5 _ H5 (fun _ _ => False) I5 (stat I5 n5) st5 stop) fun r s6 ⟨hr, I6⟩ => ?_
      subst hr
      have I7 : Inv X pins σ H5 s6 := I3.call' (ch := fp) I6.os I6.base I6.hok I6.bare fun b hb => ⟨(f3 b hb).1.2.2.2.1, (f3 b hb).1.2.1, (f3 b hb).1.2.2.2.2.1, (f3 b hb).1.2.2.2.2.2⟩
      have nC : H5 ce.locals = none := I6.free
      obtain ⟨m, hn, _⟩ := I6.loc
      have fC : FpOk X pins H5 ce.locals := by
        rw [cL] at nC ⊢
        exact I3.fpOk (Nat.le_refl _) nC
      obtain ⟨f0, f1, _, f3', f4, f5⟩ := fC
      exact ⟨m, hn, fun h'' sb => ⟨.ref D, H5, I7.turned (t' := s6.toks) (fun b o hb e => (sb.2 b hb).trans e) f0 f1 f3' f4 f5, rfl, qq⟩⟩
    · refine thnF (T.item (X.blk s3 H3 scope ce fp) rfl rfl rfl hc i [] s5 _ H5 (fun _ _ => False) I5 (stat I5 n5) st5 go) fun r s6 ⟨u, hr, h6⟩ => ?_
      subst hr
      refine thnF h6 fun _ s7 ⟨x, H7, I7, r7, y7, st7, n7⟩ => ?_
      have I7' := I7.pinned (stat I7 n7) (T.obj _ _ st7)
      refine thnF (pg.run _ s7 _ H7 x u _ I7' r7 (step x H7 y7)) fun _ s8 ⟨σ8, H8, I8, hw8, q8⟩ => ?_
      have fin : ∀ {s' : Shared} {H' : Hp}, Inv (X.blk s3 H3 scope ce fp) ([] ++ pinsAt fp s7.heap) σ8 H' s' → Nx H' → ∃ m, m < n ∧ ∃ i H', Inv (X.blk s3 H3 scope ce fp) [] (wipe σ (own.map (·.2))) H' s' ∧ tn i s'.heap ∧ (∀ b ∈ fp, H' b = none) ∧ W i m H' := fun {s' H'} I' nx => by
        obtain ⟨m', hm, w'⟩ := hNx H' nx
        have keep : ∀ b ∈ fp, ∀ o, s7.heap.get? b = some o → s'.heap.get? b = some o ∧ H' b = none := fun b hb o e =>
          let z := I'.pin (b, o) (List.mem_append_right _ (List.mem_append_right _ (mem_pinsAt hb e)))
          ⟨z.1, z.2.1⟩
        refine ⟨m', hm, i + 1, H', (I'.unpinned (pins := [])).weak (by rw [← hw8, wipe_length]) (fun j v e => ?_), T.keep _ _ _ st7 fun b hb o e => (keep b hb o e).1, fun b hb => ?_, w'⟩
        · rw [← hw8] at e
          exact (wipe_some e).1
        · obtain ⟨o, e, _⟩ := T.obj _ _ st7 b hb
          exact (keep b hb o e).2
      have pe1 := pe ((X.blk s3 H3 scope ce fp).pn ++ ([] ++ pinsAt fp s7.heap)) (notedBy (model X.prog X.w) X.A ce (CompFails (model X.prog X.w) X.A X.xe ce)) fun σ9 pins9 H9 s9 e9 s9' J9 c9 => comp_out I3 hst hfr hcf cL (fun b hb => (f3 b hb).1) tk (J9.ofTry I8.ok) c9
      refine wpAny_tests_nil ?_
      show (if true = true then _ else _)
      rw [if_pos rfl]
      refine wpAny_mono (pe1.run [] s8 σ8 H8 _ (I8.toTry _) q8) (fun z s10 hz => ?_) fun _ _ hz => hz
      obtain ⟨yv, H10, I10, r10, acc, hD10, hz10, nx⟩ := hz
      have I10 := I10.ofTry I8.ok
      exact app_ok (X := X.blk s3 H3 scope ce fp) I10 hD10 hz10 r10 fun s11 I11 => fin I11 nx
  exact codeAny_compStart_list loop (T.self X.A 0 _ _ _ st4 loop)
end
end K28

set_option Elab.async false
set_option linter.all false
set_option maxRecDepth 100000
set_option maxHeartbeats 4000000
namespace K28
open PySem PySem.Spec PyProof.Rows L2
/-! ## rows of numbers: sorted, each once -/
def insU (n : Nat) : List Nat → List Nat
  | [] => [n]
  | a :: r => if n < a then n :: a :: r else if n = a then a :: r else a :: insU n r
def sortU : List Nat → List Nat
  | [] => []
  | a :: r => insU a (sortU r)
theorem mem_insU {n m : Nat} {l : List Nat} : m ∈ insU n l ↔ m = n ∨ m ∈ l := by
  induction l with
  | nil => simp [insU]
  | cons a r ih =>
    unfold insU
    by_cases h : n < a
    · rw [if_pos h]
      simp
    · rw [if_neg h]
      by_cases h2 : n = a
      · rw [if_pos h2, h2]
        simp
      · rw [if_neg h2, List.mem_cons, ih, List.mem_cons]
        constructor
        · rintro (e | e | e)
          · exact .inr (.inl e)
          · exact .inl e
          · exact .inr (.inr e)
        · rintro (e | e | e)
          · exact .inr (.inl e)
          · exact .inl e
          · exact .inr (.inr e)
theorem mem_sortU {m : Nat} {l : List Nat} : m ∈ sortU l ↔ m ∈ l := by
  induction l with
  | nil => exact Iff.rfl
  | cons a r ih =>
    show m ∈ insU a (sortU r) ↔ _
    rw [mem_insU, ih, List.mem_cons]
theorem insU_up {n : Nat} {l : List Nat} (h : l.Pairwise (· < ·)) : (insU n l).Pairwise (· < ·) := by
  induction l with
  | nil => exact List.pairwise_singleton ..
  | cons a r ih =>
    obtain ⟨h1, h2⟩ := List.pairwise_cons.mp h
    unfold insU
    by_cases q : n < a
    · rw [if_pos q]
      refine List.pairwise_cons.mpr ⟨fun m hm => ?_, h⟩
      rcases List.mem_cons.mp hm with e | e
      · rw [e]
        exact q
      · exact Nat.lt_trans q (h1 m e)
    · rw [if_neg q]
      by_cases q2 : n = a
      · rw [if_pos q2]
        exact h
      · rw [if_neg q2]
        refine List.pairwise_cons.mpr ⟨fun m hm => ?_, ih h2⟩
        rcases mem_insU.mp hm with e | e
        · omega
        · exact h1 m e
theorem sortU_up (l : List Nat) : (sortU l).Pairwise (· < ·) := by
  induction l with
  | nil => exact List.Pairwise.nil
  | cons a r ih => exact insU_up ih
/-- two ascending rows of the same members are one -/
theorem up_same : ∀ {l k : List Nat}, l.Pairwise (· < ·) → k.Pairwise (· < ·) → (∀ n, n ∈ l ↔ n ∈ k) → l = k
  | [], [], _, _, _ => rfl
  | [], b :: k, _, _, h => absurd ((h b).mpr (List.mem_cons_self ..)) (by simp)
  | a :: l, [], _, _, h => absurd ((h a).mp (List.mem_cons_self ..)) (by simp)
  | a :: l, b :: k, h1, h2, h => by
    obtain ⟨g1, g2⟩ := List.pairwise_cons.mp h1
    obtain ⟨g3, g4⟩ := List.pairwise_cons.mp h2
    have e : a = b := by
      rcases List.mem_cons.mp ((h a).mp (List.mem_cons_self ..)) with e | e
      · exact e
      · rcases List.mem_cons.mp ((h b).mpr (List.mem_cons_self ..)) with e2 | e2
        · exact e2.symm
        · have := g3 a e
          have := g1 b e2
          omega
    subst e
    congr 1
    refine up_same g2 g4 fun n => ?_
    constructor
    · intro hn
      rcases List.mem_cons.mp ((h n).mp (List.mem_cons_of_mem _ hn)) with e | e
      · have := g1 n hn
        omega
      · exact e
    · intro hn
      rcases List.mem_cons.mp ((h n).mpr (List.mem_cons_of_mem _ hn)) with e | e
      · have := g3 n hn
        omega
      · exact e
theorem nodup_len : ∀ {l k : List Nat}, l.Nodup → (∀ n ∈ l, n ∈ k) → l.length ≤ k.length
  | [], _, _, _ => Nat.zero_le _
  | a :: l, k, h, hs => by
    obtain ⟨h1, h2⟩ := List.nodup_cons.mp h
    have hk := hs a (List.mem_cons_self ..)
    have ih := nodup_len (l := l) (k := k.erase a) h2 fun n hn => (List.mem_erase_of_ne (fun (e : n = a) => h1 (by rw [← e]; exact hn))).mpr (hs n (List.mem_cons_of_mem _ hn))
    rw [List.length_erase_of_mem hk] at ih
    have := List.length_pos_of_mem hk
    rw [List.length_cons]
    omega
theorem sortU_nodup (l : List Nat) : (sortU l).Nodup := (sortU_up l).imp fun h => Nat.ne_of_lt h
theorem sortU_of {l : List Nat} {ks : List Nat} (h : ks.Pairwise (· < ·)) (hm : ∀ n, n ∈ ks ↔ n ∈ l) : ks = sortU l := up_same h (sortU_up l) fun n => by rw [hm, mem_sortU]
/-- the numbers from a on below b, c apart -/
def rangeN (a b c : Nat) : List Nat := (List.range (if a < b then (b - a - 1) / c + 1 else 0)).map fun i => a + i * c
def allB (l : List Nat) : List (List (Nat × Nat)) → Option (List (Nat × Nat × Nat))
  | [] => some []
  | sp :: r => match boundsP l sp with
    | none => none
    | some b => (allB l r).map (b :: ·)
def unionB (bs : List (Nat × Nat × Nat)) : List Nat := bs.flatMap fun b => rangeN b.1 b.2.1 b.2.2
/-- the row of indices that a text tells -/
def unfM (l : List Nat) : Option (List Nat) := match entriesP l (l.length + 1) 0 with
  | none => none
  | some sps => match allB l sps with
    | none => none
    | some bs => if (sortU (unionB bs)).length ≤ 60 then some (sortU (unionB bs)) else none
theorem allB_at {l : List Nat} : ∀ {sps : List (List (Nat × Nat))} {bs : List (Nat × Nat × Nat)}, allB l sps = some bs → bs.length = sps.length ∧ ∀ (i : Nat) (sp : List (Nat × Nat)), sps[i]? = some sp → boundsP l sp = bs[i]?
  | [], bs, h => by
    have e : [] = bs := Option.some.inj h
    subst e
    exact ⟨rfl, fun i sp h => by simp at h⟩
  | sp :: r, bs, h => by
    unfold allB at h
    split at h
    · cases h
    · rename_i b hb
      obtain ⟨bs', h1, h2⟩ := Option.map_eq_some_iff.mp h
      obtain ⟨g1, g2⟩ := allB_at h1
      subst h2
      refine ⟨by simp [g1], fun i sp' h => ?_⟩
      cases i with
      | zero =>
        have e : sp = sp' := Option.some.inj h
        rw [← e]
        exact hb
      | succ i => exact g2 i sp' h
theorem allB_none {l : List Nat} : ∀ {sps : List (List (Nat × Nat))} {i : Nat} {sp : List (Nat × Nat)}, sps[i]? = some sp → boundsP l sp = none → allB l sps = none
  | [], i, sp, h, _ => by simp at h
  | s :: r, 0, sp, h, hb => by
    have e : s = sp := Option.some.inj h
    unfold allB
    rw [e, hb]
  | s :: r, i + 1, sp, h, hb => by
    unfold allB
    rw [allB_none (sps := r) (i := i) h hb]
    split <;> rfl
theorem allB_some {l : List Nat} : ∀ {sps : List (List (Nat × Nat))}, (∀ (i : Nat) (sp : List (Nat × Nat)), sps[i]? = some sp → boundsP l sp ≠ none) → ∃ bs, allB l sps = some bs
  | [], _ => ⟨[], rfl⟩
  | sp :: r, h => by
    obtain ⟨bs, hb⟩ := allB_some (sps := r) fun i sp h' => h (i + 1) sp h'
    cases q : boundsP l sp with
    | none => exact absurd q (h 0 sp rfl)
    | some b =>
      refine ⟨b :: bs, ?_⟩
      unfold allB
      rw [q, hb] <;> rfl
theorem val_lt {l : List Nat} (h : l.all isDig = true) : val l < 10 ^ l.length := by
  have gen : ∀ (l : List Nat) (acc : Nat), l.all isDig = true → l.foldl (fun acc c => acc * 10 + (c - 48)) acc < (acc + 1) * 10 ^ l.length := by
    intro l
    induction l with
    | nil =>
      intro acc _
      show acc < (acc + 1) * 1
      omega
    | cons c r ih =>
      intro acc h
      rw [List.all_cons, Bool.and_eq_true] at h
      have hc := h.1
      unfold isDig at hc
      rw [Bool.and_eq_true, decide_eq_true_iff, decide_eq_true_iff] at hc
      have h2 := ih (acc * 10 + (c - 48)) h.2
      have h3 : (acc * 10 + (c - 48) + 1) * 10 ^ r.length ≤ ((acc + 1) * 10) * 10 ^ r.length := Nat.mul_le_mul_right _ (by omega)
      rw [List.length_cons, Nat.pow_succ, Nat.mul_comm (10 ^ r.length) 10, ← Nat.mul_assoc]
      exact Nat.lt_of_lt_of_le h2 h3
  have := gen l 0 h
  rw [Nat.zero_add, Nat.one_mul] at this
  exact this
/-- what a bound is -/
theorem boundsP_small {l : List Nat} {sp : List (Nat × Nat)} (ok : SpOk l sp) {b : Nat × Nat × Nat} (h : boundsP l sp = some b) : b.1 ≤ 9999 ∧ b.1 < b.2.1 ∧ b.2.1 ≤ 10000 ∧ 1 ≤ b.2.2 ∧ b.2.2 ≤ 9999 := by
  have vs : ∀ s ∈ sp, val (spanT l s) ≤ 9999 := fun s hs => by
    obtain ⟨g1, g2, g3, g4⟩ := ok.num s hs
    have hl : (spanT l s).length ≤ 4 := by
      unfold spanT
      rw [List.length_take]
      omega
    have h1 := val_lt g4
    have h2 : 10 ^ (spanT l s).length ≤ 10 ^ 4 := Nat.pow_le_pow_right (by decide) hl
    omega
  unfold boundsP at h
  match sp, vs, h with
  | [s1], vs, h =>
    have v1 := vs s1 (by simp)
    have e : (val (spanT l s1), val (spanT l s1) + 1, 1) = b := Option.some.inj h
    rw [← e]
    exact ⟨v1, Nat.lt_succ_self _, Nat.succ_le_succ v1, Nat.le_refl _, (by decide : 1 ≤ 9999)⟩
  | [s1, s2], vs, h =>
    have v1 := vs s1 (by simp)
    have v2 := vs s2 (by simp)
    have h : (if val (spanT l s2) ≤ val (spanT l s1) then none else some (val (spanT l s1), val (spanT l s2) + 1, 1)) = some b := h
    split at h
    · cases h
    · have e := Option.some.inj h
      rw [← e]
      exact ⟨v1, by show val (spanT l s1) < val (spanT l s2) + 1; omega, Nat.succ_le_succ v2, Nat.le_refl _, (by decide : 1 ≤ 9999)⟩
  | [s1, s2, s3], vs, h =>
    have v1 := vs s1 (by simp)
    have v2 := vs s2 (by simp)
    have v3 := vs s3 (by simp)
    have h : (if val (spanT l s2) ≤ val (spanT l s1) then none else if val (spanT l s3) = 0 then none else some (val (spanT l s1), val (spanT l s2) + 1, val (spanT l s3))) = some b := h
    split at h
    · cases h
    · split at h
      · cases h
      · have e := Option.some.inj h
        rw [← e]
        exact ⟨v1, by show val (spanT l s1) < val (spanT l s2) + 1; omega, Nat.succ_le_succ v2, by show 1 ≤ val (spanT l s3); omega, v3⟩
theorem entriesP_ok {l : List Nat} : ∀ {f i : Nat} {sps : List (List (Nat × Nat))}, entriesP l f i = some sps → ∀ sp ∈ sps, SpOk l sp
  | 0, _, _, h, _, _ => by cases h
  | f + 1, i, sps, h, sp, hs => by
    unfold entriesP at h
    split at h
    · cases h
    · rename_i sp0 h0
      split at h
      · have e := Option.some.inj h
        rw [← e] at hs
        rw [List.mem_singleton.mp hs]
        exact entryP_ok h0
      · split at h
        · obtain ⟨r, h1, h2⟩ := Option.map_eq_some_iff.mp h
          rw [← h2] at hs
          rcases List.mem_cons.mp hs with e | hs
          · rw [e]
            exact entryP_ok h0
          · exact entriesP_ok h1 sp hs
        · cases h
theorem rgc {a b c : Nat} (ha : a ≤ 100000) (hb : b ≤ 100000) (hc : 1 ≤ c) (hc2 : c ≤ 9999) : RgC a b c (if a < b then (b - a - 1) / c + 1 else 0) := by
  have hsz : Builtin.Range.rangeSize (a : Int) b c = ((if a < b then (b - a - 1) / c + 1 else 0 : Nat) : Int) := by
    unfold Builtin.Range.rangeSize
    rw [if_pos (show (c : Int) > 0 by omega)]
    by_cases h : a < b
    · rw [if_pos (show (a : Int) < b by omega), if_pos h]
      have e : ((b : Int) - a - 1) = ((b - a - 1 : Nat) : Int) := by omega
      rw [e]
      simp
    · rw [if_neg (show ¬ (a : Int) < b by omega), if_neg h]
      rfl
  have hq : (if a < b then (b - a - 1) / c + 1 else 0) ≤ 100001 := by
    split
    · have := Nat.div_le_self (b - a - 1) c
      omega
    · omega
  have fit : ∀ i : Int, -1 ≤ i → i ≤ 1000000 → Builtin.Range.rangeFitsLong i = true := fun i h1 h2 => by
    unfold Builtin.Range.rangeFitsLong
    rw [Bool.and_eq_true, decide_eq_true_iff, decide_eq_true_iff]
    omega
  refine ⟨by omega, by omega, ?_, hsz⟩
  unfold Builtin.Range.small
  rw [hsz, fit a (by omega) (by omega), fit b (by omega) (by omega), fit c (by omega) (by omega), fit _ (by omega) (by omega), if_pos (show (c : Int) > 0 by omega), fit _ (by omega) (by omega)]
  simp
theorem rangeN_len (a b c : Nat) : (rangeN a b c).length = if a < b then (b - a - 1) / c + 1 else 0 := by
  unfold rangeN
  rw [List.length_map, List.length_range]
/-- the dict of the numbers found -/
def setK (n : Nat) : Key × V := (.inl (n : Int), .bl true)
abbrev setD (ks : List Nat) : List (Key × V) := ks.map setK
theorem putK_setD (ks : List Nat) (n : Nat) : putK (setD ks) (.inl (n : Int)) (.bl true) = setD (if n ∈ ks then ks else ks ++ [n]) := by
  have hany : ((setD ks).any fun kv => decide (kv.1 = .inl (n : Int))) = decide (n ∈ ks) := by
    rw [Bool.eq_iff_iff, List.any_eq_true, decide_eq_true_iff]
    constructor
    · rintro ⟨kv, hm, hk⟩
      obtain ⟨m, hm2, rfl⟩ := List.mem_map.mp hm
      have e := of_decide_eq_true hk
      have e2 : (m : Int) = n := Sum.inl.inj e
      have e3 : m = n := by omega
      rw [← e3]
      exact hm2
    · exact fun h => ⟨_, List.mem_map.mpr ⟨n, h, rfl⟩, decide_eq_true rfl⟩
  unfold putK
  rw [hany]
  by_cases h : n ∈ ks
  · rw [if_pos (decide_eq_true h), if_pos h]
    rw [List.map_map]
    refine List.map_congr_left fun m _ => ?_
    show (if (Sum.inl (m : Int) : Key) = .inl (n : Int) then ((.inl (m : Int) : Key), V.bl true) else _) = _
    split <;> rfl
  · rw [if_neg (by simpa using h), if_neg h]
    show _ = (ks ++ [n]).map setK
    rw [List.map_append]
    rfl
/-- what sorted makes of the keys -/
theorem sorted_back {ks : List Nat} {zs : List Int} (hnd : ks.Nodup) (hperm : zs.Perm (ks.map fun n : Nat => (n : Int))) (hup : zs.Pairwise (· ≤ ·)) : zs = (sortU ks).map fun n : Nat => (n : Int) := by
  have hback : ∀ z ∈ zs, ∃ n : Nat, z = (n : Int) ∧ n ∈ ks := fun z hz => by
    obtain ⟨n, hn, e⟩ := List.mem_map.mp (hperm.mem_iff.mp hz)
    exact ⟨n, e.symm, hn⟩
  have hzn : zs = (zs.map Int.toNat).map fun n : Nat => (n : Int) := by
    rw [List.map_map]
    refine (List.map_id zs).symm.trans (List.map_congr_left fun z hz => ?_)
    obtain ⟨n, e, _⟩ := hback z hz
    rw [e]
    rfl
  have hznd : zs.Nodup := hperm.nodup_iff.mpr (List.pairwise_map.mpr (hnd.imp fun h e => h (by omega)))
  have hlt : zs.Pairwise (· < ·) := (hup.and hznd).imp fun h => by
    have h1 := h.1
    have h2 := h.2
    omega
  rw [hzn]
  congr 1
  refine sortU_of (List.pairwise_map.mpr (List.Pairwise.imp_of_mem (fun {a b} ha hb h => ?_) hlt)) fun n => ?_
  · obtain ⟨n, e, _⟩ := hback a ha
    obtain ⟨m, e2, _⟩ := hback b hb
    omega
  · rw [List.mem_map]
    constructor
    · rintro ⟨z, hz, e⟩
      obtain ⟨m, e2, hm⟩ := hback z hz
      have : m = n := by omega
      rw [← this]
      exact hm
    · intro hn
      exact ⟨(n : Int), hperm.mem_iff.mpr (List.mem_map.mpr ⟨n, hn, rfl⟩), by simp⟩
theorem entriesP_len {l : List Nat} : ∀ {f i : Nat} {sps : List (List (Nat × Nat))}, entriesP l f i = some sps → sps.length ≤ f
  | 0, _, _, h => by cases h
  | f + 1, i, sps, h => by
    unfold entriesP at h
    split at h
    · cases h
    · split at h
      · have e := Option.some.inj h
        rw [← e]
        simp
      · split at h
        · obtain ⟨r, h1, h2⟩ := Option.map_eq_some_iff.mp h
          have := entriesP_len h1
          rw [← h2]
          simp
          omega
        · cases h
def RaT (K : PySem.W.Frag) (E : XK) (H : Hp) : Prop := ∀ d H', Same H H' → E (.ref (cTM K)) (some d) H'
def spUnf (K : PySem.W.Frag) : Sp := fun vs H Q E => ∃ l : List Nat, vs = [.str (S l)] ∧ l.length ≤ 100000 ∧ (unfM l = none → RaP K E H ∧ RaT K E H) ∧
  ∀ ns p H', unfM l = some ns → Same H H' → H p = none → H' p = some (.tup (ns.map vN)) → Q (.ref p) H'
section
variable {w : World} {K : PySem.W.Frag} {mg : Str → Option Value} {base : Heap}
theorem ok_unfold_indices (T : Ty K mg) : Fk Er.PRG w K mg base "unfold_indices" 5 ["text"] (spUnf K) := by
  refine Fk.mk T.g_unfold_indices T.d_unfold_indices sc_unfold_indices (fun vs H Q E h => ?_) (fun _ _ _ _ _ _ us hl => match us, hl with | [_], _ => rfl) fun cdv A outer s H vs Q E hr h => ⟨_,
      (pss_cons (ps_if (pt_not (pt_val (pe_callB call_isi (by rfl) T.m_isinstance boot_isinstance (pa_cons (pv 0) (pa_cons (pe_bltn (v := .ty "str") rfl T.m_str (by decide +kernel) rfl) pa_nil))))) (pss_one ps_never) pss_nil)
      (pss_cons (ps_set (i := 1) sc_unfold_indices.nd rfl (Or.inl rfl) pe_dnewK)
      (pss_cons (ps_for (passes_of rfl) rfl (pi_list (pe_lcX (own := [("spots", 6)]) (g := gName 6) rfl sc_unfold_indices.nd rfl rfl (takes_of rfl rfl rfl rfl) (pi_list (pe_fX (ok_entries_in T) (hr.mono (by decide)) (takes_of rfl rfl rfl rfl) (pa_cons (pv 0) pa_nil))) (blkOk_by (own := [("spots", 6)]) (N := N_unfold_indices) (sc := defScope s_unfold_indices) (by decide +kernel)) (fun _ _ _ _ _ => pg_name (i := 6) sc_unfold_indices.nd rfl (Or.inl rfl)) (fun _ _ _ _ _ _ _ hx => pe_fP (ok_told_bounds T) (hr.mono (by decide)) hx (pa_cons (pv 0) (pa_cons (pv 6) pa_nil))))) (pg_tup rfl (pgs_cons (pg_name (i := 2) sc_unfold_indices.nd rfl (Or.inl rfl)) (pgs_cons (pg_name (i := 3) sc_unfold_indices.nd rfl (Or.inl rfl)) (pgs_cons (pg_name (i := 4) sc_unfold_indices.nd rfl (Or.inl rfl)) pgs_nil)))) (pss_one (ps_for (passes_of rfl) rfl (pi_range3 (by rfl) T.m_range (pa_cons (pv 2) (pa_cons (pv 3) (pa_cons (pv 4) pa_nil)))) (pg_name (i := 5) sc_unfold_indices.nd rfl (Or.inl rfl)) (pss_cons (ps_dput (hu_of hr) (pv 1) (pv 5) pe_bl rfl)
      (pss_one (ps_if (pt_cmpR op_gt (pe_callB call_lenD (by rfl) T.m_len boot_len (pa_cons (pv 1) pa_nil)) (pe_gI T.i_MAX_PARTS) (nomark _)) (pss_one (ps_raise rfl (takes_of rfl rfl rfl rfl) (Er.pmk_TooMany rfl T.tm T.m_super T.m_str hr (pa_cons (pe_gI T.i_MAX_PARTS) pa_nil)))) pss_nil))))))
      (pss_one (ps_ret (pe_callTy call_tuple_of (by rfl) T.m_tuple (by decide +kernel) (pa_cons (pe_callB (call_sortedDI rfl) (by rfl) T.m_sorted (by decide +kernel) (pa_cons (pv 1) pa_nil)) pa_nil))))))), ?_⟩
  · obtain ⟨_, rfl, _⟩ := h
    rfl
  · obtain ⟨l, rfl, hl, q1, q2⟩ := h
    have hz := sz_ok hl
    refine ⟨_, rfl, _, _, _, _, true, rfl, .ty "str", .base (.str (S l)), kit_ty (by decide +kernel), true, rfl, iteF fun fp hfp => ?_⟩
    have hun : unfM l = match entriesP l (l.length + 1) 0 with
      | none => none
      | some sps => match allB l sps with
        | none => none
        | some bs => if (sortU (unionB bs)).length ≤ 60 then some (sortU (unionB bs)) else none := rfl
    have e0 : Same H (upd H fp (.dK [])) := Same.new hfp
    refine ⟨_, rfl, l, rfl, hl, fun z => ?_, fun sps p H1 hsps e1 hp hSL => ?_⟩
    · rw [z] at hun
      exact (q1 hun).1.mono e0
    · rw [hsps] at hun
      have hun : unfM l = match allB l sps with
        | none => none
        | some bs => if (sortU (unionB bs)).length ≤ 60 then some (sortU (unionB bs)) else none := hun
      obtain ⟨ts, hpl, htl, hte⟩ := hSL
      have hf1 : H1 fp = some (.dK []) := e1 _ _ upd_same
      refine ⟨p, rfl, ⟨_, .inl (.inl hpl)⟩, fun D hD => ?_⟩
      have hDf : D ≠ fp := (ne_of_none hf1 hD).symm
      have hnl : (ts.map V.ref).length ≤ 1000000 := by
        have := entriesP_len hsps
        rw [List.length_map, htl]
        omega
      refine lc_rel (ordS (K := K)) (walk_list (K := K)) (fun i y H' => ∃ (t : Addr) (b : Nat × Nat × Nat), y = .ref t ∧ t ≠ D ∧ t ≠ fp ∧ (sps[i]?).bind (boundsP l) = some b ∧ H' t = some (.tup [vN b.1, vN b.2.1, vN b.2.2])) (fun i v H2 H3 r e => ?_) hD hnl (fun H2 e => .inl (.inl (e _ _ hpl))) (fun i x H2 H3 Fin No hi e hacc hy hF => ?_) fun H2 ys e hD2 hlen hrel => ?_
      · obtain ⟨t, b, g1, g2, g3, g4, g5⟩ := r
        exact ⟨t, b, g1, g2, g3, g4, e _ _ g2 g5 fun ps z => nomatch z⟩
      · obtain ⟨rfl, hx⟩ := hy
        obtain ⟨t, ht, rfl⟩ := map_get hx
        obtain ⟨acc, hacc⟩ := hacc
        have hi2 : i < sps.length := by
          rw [List.length_map, htl] at hi
          exact hi
        obtain ⟨sp, hs⟩ : ∃ sp, sps[i]? = some sp := ⟨_, List.getElem?_eq_getElem hi2⟩
        refine ⟨rfl, ⟨_, rfl, _, rfl, l, t, sp, rfl, hl, (hte i t sp ht hs).same e, entriesP_ok hsps sp (List.mem_of_getElem? hs), fun z => ?_, fun a b c t' H4 hb e4 ht' hv => hF _ _ e4 ⟨t', (a, b, c), rfl, (ne_of_none hacc ht').symm, (ne_of_none (e _ _ hf1) ht').symm, by rw [hs]; exact hb, hv⟩⟩⟩
        rw [allB_none hs z] at hun
        exact (q1 hun).1.mono (e0.trans (e1.trans e))
      · obtain ⟨bs, hbs⟩ : ∃ bs, allB l sps = some bs := allB_some fun i sp h z => by
          have hi : i < ys.length := by
            have := (List.getElem?_eq_some_iff.mp h).1
            rw [hlen, List.length_map, htl]
            exact this
          obtain ⟨t, b, _, _, _, g, _⟩ := hrel i _ (List.getElem?_eq_getElem hi)
          rw [h] at g
          have g : boundsP l sp = some b := g
          rw [z] at g
          cases g
        rw [hbs] at hun
        have hun : unfM l = if (sortU (unionB bs)).length ≤ 60 then some (sortU (unionB bs)) else none := hun
        obtain ⟨hbl, hbi⟩ := allB_at hbs
        have hyl : ys.length = bs.length := by rw [hlen, List.length_map, htl, hbl]
        have e02 : Same H H2 := e0.trans (e1.trans e)
        have hf2 : H2 fp = some (.dK []) := e _ _ hf1
        have hel : ∀ i, i < bs.length → ∃ t b, ys[i]? = some (.ref t) ∧ t ≠ fp ∧ bs[i]? = some b ∧ H2 t = some (.tup [vN b.1, vN b.2.1, vN b.2.2]) ∧ b.1 ≤ 9999 ∧ b.1 < b.2.1 ∧ b.2.1 ≤ 10000 ∧ 1 ≤ b.2.2 ∧ b.2.2 ≤ 9999 := fun i hi => by
          obtain ⟨t, b, g1, g2, g3, g4, g5⟩ := hrel i _ (List.getElem?_eq_getElem (by rw [hyl]; exact hi))
          obtain ⟨sp, hs⟩ : ∃ sp, sps[i]? = some sp := ⟨_, List.getElem?_eq_getElem (by rw [← hbl]; exact hi)⟩
          rw [hs] at g4
          have g4 : boundsP l sp = some b := g4
          refine ⟨t, b, ?_, g3, ?_, g5, boundsP_small (entriesP_ok hsps sp (List.mem_of_getElem? hs)) g4⟩
          · rw [List.getElem?_eq_getElem (by rw [hyl]; exact hi), g1]
          · rw [← hbi i sp hs]
            exact g4
        refine ⟨D, rfl, ⟨_, .inl (.inl hD2)⟩, ?_⟩
        refine for_it (walk_list (K := K) (xs := ys)) (fun i σ H' => ∃ x2 x3 x4 x5 x6 ks, σ = [some (.str (S l)), some (.ref fp), x2, x3, x4, x5, x6] ∧ Same H H' ∧ ExD fp H2 H' ∧ H' fp = some (.dK (setD ks)) ∧ ks.Nodup ∧ (∀ n, n ∈ ks ↔ n ∈ unionB (bs.take i)) ∧ ks.length ≤ 60) ⟨none, none, none, none, none, [], rfl, e02, fun b o _ h _ => h, hf2, List.nodup_nil, fun n => by simp [unionB], Nat.zero_le _⟩ (fun i σ H' _ pv => ?_) (fun i x σ H3 H4 hi pv hy => ?_) fun σ H3 pv => ?_
        · obtain ⟨_, _, _, _, _, _, _, _, ex, _⟩ := pv
          exact .inl (.inl (ex _ _ hDf hD2 fun ps z => nomatch z))
        · obtain ⟨x2, x3, x4, x5, x6, ks, rfl, e3, ex, hf3, hnd, hmem, hk60⟩ := pv
          obtain ⟨rfl, hx⟩ := hy
          obtain ⟨t, b, g1, g2, g3, g4, b1, b2, b3, b4, b5⟩ := hel i (by omega)
          rw [g1] at hx
          obtain rfl : V.ref t = x := Option.some.inj hx
          have ht4 := ex _ _ g2 g4 fun ps z => nomatch z
          have htk : bs.take (i + 1) = bs.take i ++ [b] := by
            rw [List.take_add_one, g3]
            rfl
          have hun1 : unionB (bs.take (i + 1)) = unionB (bs.take i) ++ rangeN b.1 b.2.1 b.2.2 := by
            rw [htk]
            unfold unionB
            simp
          refine ⟨_, _, rfl, .inl (.inl ht4), rfl, _, _, rfl, _, _, rfl, _, _, rfl, rfl, ?_⟩
          refine ⟨_, rfl, _, rfl, _, rfl, _, _, _, (rangeN b.1 b.2.1 b.2.2).length, rfl, by rw [rangeN_len]; exact rgc (by omega) (by omega) b4 b5, ?_⟩
          refine for_it walk_rangeC (fun j σ H' => ∃ x5 x6 ks, σ = [some (.str (S l)), some (.ref fp), some (vN b.1), some (vN b.2.1), some (vN b.2.2), x5, x6] ∧ Same H H' ∧ ExD fp H2 H' ∧ H' fp = some (.dK (setD ks)) ∧ ks.Nodup ∧ (∀ n, n ∈ ks ↔ n ∈ unionB (bs.take i) ++ (rangeN b.1 b.2.1 b.2.2).take j) ∧ ks.length ≤ 60) ⟨_, _, ks, rfl, e3, ex, hf3, hnd, fun n => by simpa using hmem n, hk60⟩ (fun _ _ _ _ _ => trivial) (fun j x σ H5 H6 hj pv hy => ?_) fun σ H5 pv => ?_
          · obtain ⟨x5, x6, ks, rfl, e5, ex5, hf5, hnd, hmem, hk60⟩ := pv
            obtain ⟨rfl, rfl⟩ := hy
            have hrj : (rangeN b.1 b.2.1 b.2.2)[j]? = some (b.1 + j * b.2.2) := by
              have hj2 := hj
              rw [rangeN_len] at hj2
              unfold rangeN
              rw [List.getElem?_map, List.getElem?_range hj2]
              rfl
            have hval : ((b.1 : Int) + (j : Nat) * (b.2.2 : Int)) = ((b.1 + j * b.2.2 : Nat) : Int) := by simp
            dsimp only
            rw [hval]
            have hsz : (setD ks).length < sizeLine := by
              rw [List.length_map, sizeLine_eq]
              omega
            refine ⟨_, rfl, _, rfl, fp, _, rfl, DPut.k (k := .inl ((b.1 + j * b.2.2 : Nat) : Int)) hf5 hsz, ?_⟩
            rw [putK_setD]
            generalize hks : (if b.1 + j * b.2.2 ∈ ks then ks else ks ++ [b.1 + j * b.2.2]) = ks2
            have hnd2 : ks2.Nodup := by
              rw [← hks]
              split
              · exact hnd
              · rename_i h
                exact List.nodup_append.mpr ⟨hnd, List.nodup_cons.mpr ⟨by simp, List.nodup_nil⟩, fun a ha c hc e => h (by rw [← List.mem_singleton.mp hc, ← e]; exact ha)⟩
            have hmem2 : ∀ n, n ∈ ks2 ↔ n ∈ unionB (bs.take i) ++ (rangeN b.1 b.2.1 b.2.2).take (j + 1) := fun n => by
              rw [List.take_add_one, hrj]
              show _ ↔ n ∈ _ ++ (_ ++ [b.1 + j * b.2.2])
              rw [← List.append_assoc, List.mem_append, ← hmem n, ← hks]
              split
              · rename_i h
                constructor
                · exact .inl
                · rintro (g | g)
                  · exact g
                  · rw [List.mem_singleton.mp g]
                    exact h
              · exact List.mem_append
            have e6 : Same H (upd H6 fp (.dK (setD ks2))) := e5.mut hfp
            have ex6 : ExD fp H2 (upd H6 fp (.dK (setD ks2))) := fun c o hc h ht => by
              rw [upd_ne hc]
              exact ex5 c o hc h ht
            refine ⟨_, rfl, fp, _, rfl, upd_same, _, _, rfl, rfl, _, rfl, ?_⟩
            rw [List.length_map]
            by_cases h60 : ks2.length ≤ 60
            · exact ifF (decide_eq_false (by omega)) ⟨_, _, ks2, rfl, e6, ex6, upd_same, hnd2, hmem2, h60⟩
            · have hnone : unfM l = none := by
                rw [hun, if_neg]
                have hle : ks2.length ≤ (sortU (unionB bs)).length := nodup_len hnd2 fun n hn => by
                  rw [mem_sortU]
                  have hn := (hmem2 n).mp hn
                  have hsub : ∀ n, n ∈ unionB (bs.take (i + 1)) → n ∈ unionB bs := fun n h => by
                    unfold unionB at h ⊢
                    obtain ⟨x, hx, hn⟩ := List.mem_flatMap.mp h
                    exact List.mem_flatMap.mpr ⟨x, List.mem_of_mem_take hx, hn⟩
                  refine hsub n ?_
                  rw [hun1, List.mem_append]
                  rcases List.mem_append.mp hn with g | g
                  · exact .inl g
                  · exact .inr (List.mem_of_mem_take g)
                omega
              exact ifT (decide_eq_true (by omega)) ⟨_, rfl, by decide +kernel, fun d hd => (q1 hnone).2 _ _ (e6.trans (Same.new hd))⟩
          · obtain ⟨x5, x6, ks, rfl, e5, ex5, hf5, hnd, hmem, hk60⟩ := pv
            refine ⟨_, _, _, _, _, ks, rfl, e5, ex5, hf5, hnd, fun n => ?_, hk60⟩
            rw [hun1, hmem n, List.take_length]
        · obtain ⟨x2, x3, x4, x5, x6, ks, rfl, e3, ex, hf3, hnd, hmem, hk60⟩ := pv
          rw [hyl, List.take_length] at hmem
          refine ⟨_, rfl, fp, _, ks.map fun n : Nat => (n : Int), rfl, .inl hf3, by rw [List.map_map, List.map_map]; rfl, by rw [List.length_map]; omega, fun zs p2 hperm hup hp2 => ⟨p2, _, rfl, .inl ⟨.inl (.inl upd_same), fun t ht => ?_⟩⟩⟩
          have hzs := sorted_back hnd hperm hup
          have hfin : sortU ks = sortU (unionB bs) := sortU_of (sortU_up ks) fun n => by rw [mem_sortU, hmem n]
          rw [hfin] at hzs
          have hlen : (sortU (unionB bs)).length ≤ 60 := by
            have h1 := hperm.length_eq
            rw [hzs, List.length_map, List.length_map] at h1
            omega
          rw [if_pos hlen] at hun
          refine q2 _ _ _ hun (e3.trans ((Same.new hp2).trans (Same.new ht))) ?_ ?_
          · have := Same.free (Same.new (o := .lst (zs.map V.int)) hp2) ht
            exact e3.free this
          · rw [upd_same, hzs, List.map_map]
            rfl
end
end K28

set_option Elab.async false
set_option linter.all false
set_option maxRecDepth 100000
set_option maxHeartbeats 4000000
namespace K28
open PySem PySem.Spec PyProof.Rows L2
/-- what lies between the brackets -/
def inner (l : List Nat) : List Nat := (l.drop 1).take (l.length - 2)
def brackB (l : List Nat) : Bool := decide (l.head? = some 91) && decide (l.getLast? = some 93)
/-- the indices that a text names -/
def toldI (l : List Nat) : List Nat := if brackB l = true then (unfM (inner l)).getD [] else (match plainM 4 9999 l with
  | none => []
  | some n => [n])
theorem cutS_to (l : List Nat) (j : Nat) : cutS (S l) none (some (j : Int)) = S (l.take j) := by
  unfold cutS
  rw [HT.sIx_none, HT.sIx_nat, S_len, List.drop_zero, Nat.sub_zero]
  have e : l.take (min j l.length) = l.take j := by
    by_cases h : j ≤ l.length
    · rw [Nat.min_eq_left h]
    · rw [Nat.min_eq_right (by omega), List.take_of_length_le (Nat.le_refl _), List.take_of_length_le (by omega)]
  exact congrArg S e
theorem cutS_last {l : List Nat} (h : l ≠ []) : cutS (S l) (some (-1)) none = S (l.drop (l.length - 1)) := by
  have hl : 1 ≤ l.length := by
    cases l with
    | nil => exact absurd rfl h
    | cons a r => simp
  unfold cutS
  have e1 : HT.sIx (S l).length 0 (some (-1)) = l.length - 1 := by
    show (if (-1 : Int) < 0 then ((-1 : Int) + ((S l).length : Int)).toNat else min (-1 : Int).toNat (S l).length) = _
    rw [if_pos (by decide), S_len]
    omega
  rw [e1, HT.sIx_none, S_len, List.take_of_length_le (by rw [List.length_drop]; exact Nat.le_refl _)]
theorem cutS_in {l : List Nat} (h : 2 ≤ l.length) : cutS (S l) (some 1) (some (-1)) = S (inner l) := by
  unfold cutS inner
  have e1 : HT.sIx (S l).length 0 (some 1) = 1 := by
    rw [show (some (1 : Int)) = some ((1 : Nat) : Int) from rfl, HT.sIx_nat, S_len, Nat.min_eq_left (by omega)]
  have e2 : HT.sIx (S l).length (S l).length (some (-1)) = l.length - 1 := by
    show (if (-1 : Int) < 0 then ((-1 : Int) + ((S l).length : Int)).toNat else min (-1 : Int).toNat (S l).length) = _
    rw [if_pos (by decide), S_len]
    omega
  rw [e1, e2, show l.length - 1 - 1 = l.length - 2 by omega]
theorem head_take {l : List Nat} {c : Nat} : l.take 1 = [c] ↔ l.head? = some c := by
  cases l with
  | nil => simp
  | cons a r => simp
theorem last_drop {l : List Nat} {c : Nat} : l.drop (l.length - 1) = [c] ↔ l.getLast? = some c := by
  rcases List.eq_nil_or_concat l with h | ⟨r, a, h⟩
  · rw [h]
    simp
  · rw [h, List.concat_eq_append]
    simp
def spToldI (K : PySem.W.Frag) : Sp := fun vs H Q _ => ∃ l : List Nat, vs = [.str (S l)] ∧ l.length ≤ 100000 ∧ ∀ p H', Same H H' → H' p = some (.tup ((toldI l).map vN)) → Q (.ref p) H'
section
variable {w : World} {K : PySem.W.Frag} {mg : Str → Option Value} {base : Heap}
theorem ok_told_indices (T : Ty K mg) : Fk Er.PRG w K mg base "told_indices" 6 ["text"] (spToldI K) := by
  refine Fk.mk0 T.g_told_indices T.d_told_indices sc_told_indices (fun vs H Q E h => ?_) (fun _ _ _ _ _ _ us hl => match us, hl with | [_], _ => rfl) fun cdv A outer s H vs Q E hr h => ⟨_,
      (pss_cons (ps_if (PW.pt (pw_or (pt_cmpR op_ne (pe_slice sl_str (pv 0) po_none (po_some pe_int)) pe_str (nomark _)) (pw_or1 (pt_cmpR op_ne (pe_slice sl_str (pv 0) (po_some (pe_un un_neg pe_int)) po_none) pe_str (nomark _))))) (pss_cons (ps_set (i := 1) sc_told_indices.nd rfl (Or.inl rfl) (pe_f (ok_plain_number T.toTx) (hr.mono (by decide)) (pa_cons (pv 0) (pa_cons (pe_gI T.i_MAX_INDEX) pa_nil))))
      (pss_one (ps_ret (pe_ifExp (pt_cmpR op_isN (pv 1) pe_non (nomark _)) (pe_tup pa_nil) (pe_tup (pa_cons (pv 1) pa_nil)))))) pss_nil)
      (pss_one (Er.ps_try_two rfl rfl rfl T.pe.gC rfl T.tm.gC (fun W pn xe tk po => (pss_one (ps_ret (pe_fX (ok_unfold_indices T) (hr.mono (by decide)) tk (pa_cons (pe_slice sl_str (pv 0) (po_some pe_int) (po_some (pe_un un_neg pe_int))) pa_nil))))) (fun a oe cls d pn _ _ => (pss_one (ps_ret (pe_tup pa_nil))))))), ?_⟩
  · obtain ⟨_, rfl, _⟩ := h
    rfl
  · obtain ⟨l, rfl, hl, q⟩ := h
    have hz := sz_ok hl
    have emp : ∀ H1, Same H H1 → toldI l = [] → ∀ p, H1 p = none → Q (.ref p) (upd H1 p (.tup [])) := fun H1 e h0 p hp => q p _ (e.trans (Same.new hp)) (by rw [upd_same, h0] <;> rfl)
    have plain : brackB l = false → tSeq (tAsg (tCall spPlainNumber [] E0 (tCons (tVar 0) (tCons (tC (.int 9999)) tNil))) (gName 1)) (tRet (tIf (tTest (tOp (fun x y H Q => y = V.non ∧ Q (.bl (decide (x = V.non))) H) (tVar 1) (tC .non))) (tTup tNil) (tTup (tCons (tVar 1) tNil))))
        { nx := fun _ H' => Q .non H', rt := Q } (L2.start N_told_indices [V.str (S l)]) H := fun hb => by
      have hti : toldI l = (match plainM 4 9999 l with
          | none => []
          | some n => [n]) := by
        unfold toldI
        rw [hb]
        exact if_neg Bool.false_ne_true
      refine ⟨_, rfl, l, 4, 9999, rfl, hl, .inl ⟨rfl, rfl⟩, fun H1 e => ?_⟩
      refine ⟨_, rfl, rfl, _, rfl, ?_⟩
      cases hp : plainM 4 9999 l with
      | none =>
        rw [hp] at hti
        exact ifT (decide_eq_true rfl) ⟨Nat.zero_le _, fun p hp => emp H1 e hti p hp⟩
      | some n =>
        rw [hp] at hti
        exact ifF (decide_eq_false fun z => nomatch z) ⟨_, rfl, by show 1 ≤ sizeLine; rw [sizeLine_eq]; omega, fun p hp => q p _ (e.trans (Same.new hp)) (by rw [upd_same, hti] <;> rfl)⟩
    refine ⟨_, rfl, _, rfl, _, rfl, hz, rfl, _, rfl, ?_⟩
    rw [show cutS (S l) none (some 1) = S (l.take 1) from cutS_to l 1]
    by_cases h1 : l.head? = some 91
    · have e1 : S (l.take 1) = S [91] := congrArg S (head_take.mpr h1)
      have hne : l ≠ [] := fun z => by
        rw [z] at h1
        cases h1
      refine ifF (by rw [e1] <;> rfl) ⟨_, rfl, _, rfl, _, rfl, _, rfl, hz, rfl, _, rfl, ?_⟩
      rw [show cutS (S l) (some (-1)) none = S (l.drop (l.length - 1)) from cutS_last hne]
      by_cases h2 : l.getLast? = some 93
      · have e2 : S (l.drop (l.length - 1)) = S [93] := congrArg S (last_drop.mpr h2)
        have hti : toldI l = (unfM (inner l)).getD [] := by
          unfold toldI brackB
          rw [decide_eq_true h1, decide_eq_true h2]
          exact if_pos rfl
        have hl2 : 2 ≤ l.length := by
          match l, h1, h2 with
          | [a], h1, h2 =>
            rw [List.head?_cons] at h1
            rw [List.getLast?_singleton] at h2
            rw [h1] at h2
            exact absurd (Option.some.inj h2) (by decide)
          | a :: b :: r, _, _ => simp
        refine ifF (by rw [e2] <;> rfl) ?_
        have hil : (inner l).length ≤ 100000 := by
          unfold inner
          rw [List.length_take, List.length_drop]
          omega
        refine ⟨_, rfl, _, rfl, _, rfl, _, rfl, _, rfl, hz, inner l, congrArg (fun z => [V.str z]) (cutS_in hl2), hil, fun hno => ?_, fun ns p H' hns e hp hv => q p _ e (by rw [hti, hns]; exact hv)⟩
        have h0 : toldI l = [] := by
          rw [hti, hno] <;> rfl
        exact ⟨fun d H' e => ⟨T.exP, fun a ha => ⟨Nat.zero_le _, fun p hp => emp H' e h0 p hp⟩⟩, fun d H' e => ⟨T.exT, fun a ha => ⟨Nat.zero_le _, fun p hp => emp H' e h0 p hp⟩⟩⟩
      · refine ifT ?_ (plain ?_)
        · show (!decide (V.str (S (l.drop (l.length - 1))) = V.str (S [93]))) = true
          rw [decide_eq_false fun z => h2 (last_drop.mp (S_inj (V.str.inj z)))] <;> rfl
        · unfold brackB
          rw [decide_eq_false h2, Bool.and_false]
    · refine ifT ?_ (ifT rfl (plain ?_))
      · show (!decide (V.str (S (l.take 1)) = V.str (S [91]))) = true
        rw [decide_eq_false fun z => h1 (head_take.mp (S_inj (V.str.inj z)))] <;> rfl
      · unfold brackB
        rw [decide_eq_false h1, Bool.false_and]
end
end K28

set_option Elab.async false
set_option linter.all false
set_option maxRecDepth 100000
set_option maxHeartbeats 4000000
namespace K28
open PySem PySem.Spec PyProof.Rows L2
/-! ## the private kind of a row, its pairs -/
structure KindOk (l : List Nat) : Prop where
  len : l.length ≤ 8
  head : ∃ c r, l = c :: r ∧ isLet c = true
  all : ∀ c ∈ l, isLet c = true ∨ isDig c = true
  no : l ≠ (Str.ofString "nothing").cps.toList
def spBegins : Sp := fun vs H Q _ => ∃ l : List Nat, vs = [.str (S l), .int 8] ∧ KindOk l ∧ ∀ H', Same H H' → Q (.bl true) H'
def spIsKind : Sp := fun vs H Q _ => ∃ l : List Nat, vs = [.str (S l)] ∧ KindOk l ∧ ∀ H', Same H H' → Q (.bl true) H'
def spAscending (K : PySem.W.Frag) : Sp := fun vs H Q _ => ∃ (a : Addr) (xs : List V), vs = [.ref a] ∧ SqL K H a xs ∧ xs.length ≤ 1 ∧ ∀ H', Same H H' → Q (.bl true) H'
/-- no pair, or one of a kind and a number -/
def PairsT (K : PySem.W.Frag) (H : Hp) (a : Addr) : Prop := SqT K H a [] ∨ ∃ (t : Addr) (l : List Nat) (n : Nat), SqT K H a [.ref t] ∧ SqT K H t [.str (S l), vN n] ∧ KindOk l ∧ 1 ≤ n ∧ n ≤ 1000000
def spPairs (K : PySem.W.Frag) : Sp := fun vs H Q _ => ∃ a : Addr, vs = [.ref a] ∧ PairsT K H a ∧ ∀ H', Same H H' → Q (.bl true) H'
section
variable {P : Program} {w : World} {K : PySem.W.Frag} {mg : Str → Option Value} {base : Heap}
theorem ok_begins_with_letter (T : Tx K mg) : Fk P w K mg base "begins_with_letter" 1 ["value", "most"] spBegins := by
  refine Fk.mk0 T.g_begins_with_letter T.d_begins_with_letter sc_begins_with_letter (fun vs H Q E h => ?_) (fun _ _ _ _ _ _ us hl => match us, hl with | [_, _], _ => rfl) fun cdv A outer s H vs Q E hr h => ⟨_,
      (pss_cons (ps_if (PW.pt (pw_or (pt_not (pt_val (pe_callB call_isi (by rfl) T.m_isinstance boot_isinstance (pa_cons (pv 0) (pa_cons (pe_bltn (v := .ty "str") rfl T.m_str (by decide +kernel) rfl) pa_nil))))) (pw_or (pt_not (pt_chain op_le op_le pe_int (pe_callB call_len (by rfl) T.m_len boot_len (pa_cons (pv 0) pa_nil)) (pv 1))) (pw_or1 (pt_cmpR op_notIn_sign (pe_ix ix_str (pv 0) pe_int (fun _ _ => rfl)) (pe_gS T.t_LETTERS) rfl))))) (pss_one (ps_ret pe_bl)) pss_nil)
      (pss_one (ps_ret (pe_callB (cr_all rfl) (by rfl) T.m_all (by decide +kernel) (pa_cons (pe_lc (own := [("sign", 2)]) (g := gName 2) rfl sc_begins_with_letter.nd (pi_str (pv 0)) (blkOk_by (own := [("sign", 2)]) (N := N_begins_with_letter) (sc := defScope s_begins_with_letter) (by decide +kernel)) (fun _ _ _ _ _ => (pg_name (i := 2) sc_begins_with_letter.nd rfl (Or.inl rfl))) (fun _ _ _ _ _ => pts_nil) (fun _ _ _ _ _ => (pe_or (pe_cmpR op_in_sign (pv 2) (pe_gS T.t_LETTERS) rfl) (pe_one (pe_cmpR op_in_sign (pv 2) (pe_gS T.t_DIGITS) rfl))))) pa_nil))))), ?_⟩
  · obtain ⟨_, rfl, _⟩ := h
    rfl
  · obtain ⟨l, rfl, hk, q⟩ := h
    obtain ⟨c, r, e, hc⟩ := hk.head
    have h8 := hk.len
    have hl : 1 ≤ l.length := by
      rw [e]
      simp
    have hz := sz_ok (l := l) (by omega)
    have h0 : l[0]? = some c := by rw [e] <;> rfl
    refine ⟨_, rfl, _, _, _, _, true, rfl, .ty "str", .base (.str (S l)), kit_ty (by decide +kernel), true, rfl, iteF ?_⟩
    refine ⟨_, rfl, _, _, rfl, ⟨hz, rfl⟩, _, _, rfl, rfl, _, rfl, ?_⟩
    rw [S_len]
    refine ifT (decide_eq_true (by omega)) ⟨_, rfl, _, _, rfl, rfl, _, rfl, ?_⟩
    refine ifF (by rw [decide_eq_true (show (l.length : Int) ≤ 8 by omega)] <;> rfl) ?_
    refine ⟨_, rfl, _, _, c, rfl, rfl, hz, atI_nat h0, c, _, rfl, rfl, _, rfl, ?_⟩
    refine ifF (by rw [mem_letters, hc] <;> rfl) ?_
    refine ⟨_, rfl, _, rfl, fun D hD => ?_⟩
    refine lc_pure (ordS (K := K)) walk_str (fun i => l[i]?.map fun c => V.bl (isLet c || isDig c)) hD (by show (S l).length ≤ _; rw [S_len]; omega) (fun H1 e => trivial) (fun i x H1 H2 Fin No hi e hy hF hN => ?_) fun H1 e h3 => ?_
    · obtain ⟨rfl, hx⟩ := hy
      obtain ⟨c, hc, rfl⟩ := sign_at hx
      refine ⟨rfl, ⟨_, rfl, c, _, rfl, rfl, _, rfl, ?_⟩⟩
      rw [mem_letters]
      cases hlt : isLet c with
      | true => exact iteT (hF _ _ (by rw [hc]; simp [hlt]) (Same.refl _))
      | false =>
        refine iteF ⟨_, rfl, c, _, rfl, rfl, hF _ _ ?_ (Same.refl _)⟩
        rw [hc, mem_digits]
        simp [hlt]
    · refine ⟨D, l.map fun c => isLet c || isDig c, rfl, .of (h3.trans ?_), bl_q ?_ (q H1 e)⟩
      · have e4 : (S l).cps.size = l.length := S_len l
        rw [e4, fm_map, List.map_map]
        rfl
      · rw [List.all_map, List.all_eq_true]
        intro c hc
        rcases hk.all c hc with z | z
        · show (isLet c || isDig c) = true
          rw [z, Bool.true_or]
        · show (isLet c || isDig c) = true
          rw [z, Bool.or_true]
theorem ok_is_kind (T : Tx K mg) : Fk P w K mg base "is_kind" 2 ["value"] spIsKind := by
  refine Fk.mk0 T.g_is_kind T.d_is_kind sc_is_kind (fun vs H Q E h => ?_) (fun _ _ _ _ _ _ us hl => match us, hl with | [_], _ => rfl) fun cdv A outer s H vs Q E hr h => ⟨_,
      (pss_one (ps_ret (pe_and (pe_f (ok_begins_with_letter T) (hr.mono (by decide)) (pa_cons (pv 0) (pa_cons (pe_gI T.i_MAX_KIND) pa_nil))) (pe_one (pe_cmpR op_ne (pv 0) (pe_gS T.t_NOTHING) (nomark _)))))), ?_⟩
  · obtain ⟨_, rfl, _⟩ := h
    rfl
  · obtain ⟨l, rfl, hk, q⟩ := h
    refine ⟨_, rfl, l, rfl, hk, fun H1 e => ⟨_, rfl, iteT ⟨_, rfl, rfl, bl_q ?_ (q H1 e)⟩⟩⟩
    rw [Bool.not_eq_true', decide_eq_false_iff_not]
    intro z
    exact hk.no (congrArg (fun z => z.cps.toList) (V.str.inj z))
theorem ok_are_ascending (T : Tx K mg) : Fk P w K mg base "are_ascending" 1 ["items"] (spAscending K) := by
  refine Fk.mk0 T.g_are_ascending T.d_are_ascending sc_are_ascending (fun vs H Q E h => ?_) (fun _ _ _ _ _ _ us hl => match us, hl with | [_], _ => rfl) fun cdv A outer s H vs Q E hr h => ⟨_,
      (pss_one (ps_ret (pe_callB (cr_all rfl) (by rfl) T.m_all (by decide +kernel) (pa_cons (pe_lc (own := [("one", 1), ("other", 2)]) (g := gTup K 2 (gCons (gName 1) (gCons (gName 2) (gNil)))) rfl sc_are_ascending.nd (RZ.pi_zipA (by rfl) T.m_zip (pa_cons (pv 0) (pa_cons (pe_slice sl_list (pv 0) (po_some pe_int) po_none) pa_nil))) (blkOk_by (own := [("one", 1), ("other", 2)]) (N := N_are_ascending) (sc := defScope s_are_ascending) (by decide +kernel)) (fun _ _ _ _ _ => (pg_tup rfl (pgs_cons (pg_name (i := 1) sc_are_ascending.nd rfl (Or.inl rfl)) (pgs_cons (pg_name (i := 2) sc_are_ascending.nd rfl (Or.inl rfl)) pgs_nil)))) (fun _ _ _ _ _ => pts_nil) (fun _ _ _ _ _ => (pe_cmpR op_lt (pv 1) (pv 2) (nomark _)))) pa_nil)))), ?_⟩
  · obtain ⟨_, _, rfl, _⟩ := h
    rfl
  · obtain ⟨a, xs, rfl, hS, hl, q⟩ := h
    refine ⟨_, rfl, _, rfl, _, rfl, a, xs, rfl, hS, fun p hp => ?_⟩
    have e1 : Same H (upd H p (.lst (cutV xs (some 1) none))) := Same.new hp
    have hc : cutV xs (some 1) none = [] := (cutV_from xs 1).trans (List.drop_eq_nil_of_le hl)
    rw [hc] at e1 ⊢
    refine ⟨_, _, _, _, rfl, .inl ⟨(ordS (K := K)).sqL e1 hS, .inl (.inl upd_same), fun D hD => ?_⟩⟩
    have hpd : D ≠ p := (ne_of_none upd_same hD).symm
    refine lc_pure (ordS (K := K)) (walk_zip (K := K) (n := 0) (xs := xs) (ys := []) (by simp)) (fun _ => none) hD (by omega) (fun H1 e => ⟨(ordS (K := K)).sqL (e1.trans e) hS, .inl (.inl (e _ _ upd_same))⟩) (fun i x H1 H2 Fin No hi e hy hF hN => absurd hi (by omega)) fun H1 e h3 => ?_
    exact ⟨D, [], rfl, .of h3, q H1 (e1.trans e)⟩
theorem ok_are_pairs (T : Tx K mg) : Fk P w K mg base "are_pairs" 3 ["value"] (spPairs K) := by
  refine Fk.mk0 T.g_are_pairs T.d_are_pairs sc_are_pairs (fun vs H Q E h => ?_) (fun _ _ _ _ _ _ us hl => match us, hl with | [_], _ => rfl) fun cdv A outer s H vs Q E hr h => ⟨_,
      (pss_cons (ps_if (PW.pt (pw_or (pt_not (pt_val (pe_callB call_isi (by rfl) T.m_isinstance boot_isinstance (pa_cons (pv 0) (pa_cons (pe_bltn (v := .ty "tuple") rfl T.m_tuple (by decide +kernel) rfl) pa_nil))))) (pw_or1 (pt_cmpR op_gt (pe_callB call_len (by rfl) T.m_len boot_len (pa_cons (pv 0) pa_nil)) (pe_gI T.i_MAX_KINDS) (nomark _))))) (pss_one (ps_ret pe_bl)) pss_nil)
      (pss_cons (ps_for PassesOwn.never rfl (pi_tup (pv 0)) (pg_name (i := 1) sc_are_pairs.nd rfl (Or.inl rfl)) (pss_one (ps_if (PW.pt (pw_or (pt_not (pt_val (pe_callB call_isi (by rfl) T.m_isinstance boot_isinstance (pa_cons (pv 1) (pa_cons (pe_bltn (v := .ty "tuple") rfl T.m_tuple (by decide +kernel) rfl) pa_nil))))) (pw_or (pt_cmpR op_ne (pe_callB call_len (by rfl) T.m_len boot_len (pa_cons (pv 1) pa_nil)) pe_int (nomark _)) (pw_or (pt_not (pt_val (pe_f (ok_is_kind T) (hr.mono (by decide)) (pa_cons (pe_ix ix_tup (pv 1) pe_int (fun _ _ => rfl)) pa_nil)))) (pw_or1 (pt_not (pt_val (pe_f (ok_is_from T) (hr.mono (by decide)) (pa_cons (pe_ix ix_tup (pv 1) pe_int (fun _ _ => rfl)) (pa_cons pe_int (pa_cons (pe_gI T.i_MAX_AMOUNT) pa_nil))))))))))) (pss_one (ps_ret pe_bl)) pss_nil)))
      (pss_one (ps_ret (pe_f (ok_are_ascending T) (hr.mono (by decide)) (pa_cons (pe_lc (own := [("pair", 1)]) (g := gName 1) rfl sc_are_pairs.nd (pi_tup (pv 0)) (blkOk_by (own := [("pair", 1)]) (N := N_are_pairs) (sc := defScope s_are_pairs) (by decide +kernel)) (fun _ _ _ _ _ => (pg_name (i := 1) sc_are_pairs.nd rfl (Or.inl rfl))) (fun _ _ _ _ _ => pts_nil) (fun _ _ _ _ _ => (pe_ix (show IxR _ (rIxT K) from ix_tup) (pv 1) pe_int (fun _ _ => rfl)))) pa_nil)))))), ?_⟩
  · obtain ⟨_, rfl, _⟩ := h
    rfl
  · obtain ⟨a, rfl, hp, q⟩ := h
    obtain ⟨xs, hS, hl, hx⟩ : ∃ xs, SqT K H a xs ∧ xs.length ≤ 1 ∧ ∀ x ∈ xs, ∃ (t : Addr) (l : List Nat) (n : Nat), x = .ref t ∧ SqT K H t [.str (S l), vN n] ∧ KindOk l ∧ 1 ≤ n ∧ n ≤ 1000000 := by
      rcases hp with h | ⟨t, l, n, h1, h2, h3, h4, h5⟩
      · exact ⟨[], h, Nat.zero_le _, fun x hx => by cases hx⟩
      · exact ⟨[.ref t], h1, Nat.le_refl _, fun x hx => ⟨t, l, n, List.mem_singleton.mp hx, h2, h3, h4, h5⟩⟩
    have O := ordS (K := K)
    refine ⟨_, rfl, _, _, _, _, true, rfl, .ty "tuple", ty_tup hS, kit_ty (by decide +kernel), true, rfl, iteF ?_⟩
    refine ⟨_, rfl, _, _, rfl, len_t hS, _, _, rfl, rfl, _, rfl, ifF (decide_eq_false (by omega)) ?_⟩
    refine ⟨_, rfl, a, rfl, ⟨_, hS⟩, for_it (walk_tup (K := K) (xs := xs)) (fun i σ H' => (∃ x1, σ = [some (.ref a), x1]) ∧ Same H H') ⟨⟨_, rfl⟩, Same.refl H⟩ (fun i σ H' _ pv => O.sqT pv.2 hS) (fun i x σ H1 H2 hi pv hy => ?_) fun σ H1 pv => ?_⟩
    · obtain ⟨⟨x1, rfl⟩, e⟩ := pv
      obtain ⟨rfl, hxi⟩ := hy
      obtain ⟨t, l, n, rfl, hT, hk, h1, h2⟩ := hx x (List.mem_of_getElem? hxi)
      have hT := O.sqT e hT
      refine ⟨_, rfl, _, _, _, _, true, rfl, .ty "tuple", ty_tup hT, kit_ty (by decide +kernel), true, rfl, iteF ?_⟩
      refine ⟨_, rfl, _, _, rfl, len_t hT, rfl, _, rfl, ifF rfl ?_⟩
      refine ⟨_, rfl, t, _, _, _, rfl, rfl, hT, atI_nat (j := 0) rfl, l, rfl, hk, fun H3 e3 => ⟨_, rfl, ifF rfl ?_⟩⟩
      refine ⟨_, rfl, t, _, _, _, rfl, rfl, O.sqT e3 hT, atI_nat (j := 1) rfl, n, 1, 1000000, rfl, small_sm (by omega), ⟨_, rfl, ?_⟩⟩
      refine ifF ?_ ⟨⟨_, rfl⟩, e.trans e3⟩
      rw [decide_eq_true (show (1 : Int) ≤ n by omega), decide_eq_true (show (n : Int) ≤ 1000000 by omega)] <;> rfl
    · obtain ⟨⟨x1, rfl⟩, e⟩ := pv
      refine ⟨_, rfl, a, rfl, ⟨_, O.sqT e hS⟩, fun D hD => ?_⟩
      refine lc_rel O (walk_tup (K := K) (xs := xs)) (fun _ _ _ => True) (fun _ _ _ _ _ _ => trivial) hD (by omega) (fun H2 e2 => O.sqT (e.trans e2) hS) (fun i x H2 H3 Fin No hi e2 hacc hy hF => ?_) fun H2 ys e2 hD2 hlen _ => ?_
      · obtain ⟨rfl, hxi⟩ := hy
        obtain ⟨t, l, n, rfl, hT, hk, h1, h2⟩ := hx x (List.mem_of_getElem? hxi)
        exact ⟨rfl, ⟨_, rfl, t, _, _, _, rfl, rfl, O.sqT (e.trans e2) hT, atI_nat (j := 0) rfl, hF _ _ (Same.refl _) trivial⟩⟩
      · exact ⟨D, ys, rfl, .inl (.inl hD2), by omega, fun H3 e3 => q H3 (e.trans (e2.trans e3))⟩
end
end K28

set_option Elab.async false
set_option linter.all false
set_option maxRecDepth 100000
set_option maxHeartbeats 4000000
namespace K28
open PySem PySem.Spec PyProof.Rows L2
/-! ## dict(a tuple of pairs) -/
/-- a tuple without a dict of its own -/
def TupD (K : PySem.W.Frag) (H : Hp) (a : Addr) (xs : List V) : Prop := SqT K H a xs ∧ ((∃ o u, H a = some (.frz o u) ∧ o.dict = none) ∨ ∃ o, K.lookup a = some o ∧ o.dict = none)
section
variable {X : Cx}
theorem tupD_at {pins : List (Addr × Obj)} {σ : L2.St} {H : Hp} {s : Shared} {a : Addr} {xs : List V} (I : Inv X pins σ H s) (h : TupD X.K H a xs) : ∃ its, Vals xs its ∧ PlainSeq "tuple" s.heap a its.toArray := by
  obtain ⟨h1, h2⟩ := h
  obtain ⟨its, rv, ⟨o, ho, hc, n, hd⟩, _⟩ := I.tuple h1
  refine ⟨its, rv, o, n, ho, hc, ?_, hd⟩
  rcases h2 with ⟨o2, u, e, d⟩ | ⟨o2, e, d⟩
  · obtain ⟨e2, _⟩ := I.hok a _ e
    rw [ho] at e2
    cases e2
    exact d
  · have e2 := I.kIn a o2 e
    rw [ho] at e2
    cases e2
    exact d
def rDictT (K : PySem.W.Frag) : List V → Hp → VK → Prop := fun vs H Q => ∃ a : Addr, vs = [.ref a] ∧ ((TupD K H a [] ∧ ∀ p, H p = none → Q (.ref p) (upd H p (.dK []))) ∨ ∃ (t : Addr) (k : Key) (v : V), TupD K H a [.ref t] ∧ SqT K H t [kV k, v] ∧ ∀ p, H p = none → Q (.ref p) (upd H p (.dK [(k, v)])))
theorem call_dictT (hcalm : X.calm = true) : CallR X (.type "dict") (rDictT X.K) := by
  intro pins s σ H xs us Q I r h
  obtain ⟨a, rfl, h⟩ := h
  obtain rfl := Vals.ref1 r
  have hm : (s.heap.objs.size == sysModules) = false := beq_eq_false_iff_ne.mpr (Nat.ne_of_gt I.big)
  rcases h with ⟨hT, q⟩ | ⟨t, k, v, hT, ht, q⟩
  · obtain ⟨its, rv, hp⟩ := tupD_at I hT
    cases rv
    refine PySem.call_dict_pairs (knd := mixKind X.prog X.w) (kvs := []) (PairArg.tuple a #[] (fun _ => 0) []) (I.ok.hd hcalm) ⟨hp, rfl, fun j k v h => by simp at h⟩ ⟨rfl, fun i key v h => by simp [PairRel] at h⟩ (Nat.zero_le _) fun h' tk hd hk => ?_
    exact ⟨.ref s.heap.objs.size, upd H s.heap.objs.size (.dK []), I.laid (t' := tk) (fun b o e => hk b o (by simp) e) (Nat.le_refl _) ⟨Nat.zero_le _, hm, [], .nil, hd⟩, rfl, q _ (I.hok.fresh (Nat.le_refl _))⟩
  · obtain ⟨its, rv, hp⟩ := tupD_at I hT
    obtain ⟨u, rfl, ru⟩ := vals1 rv
    obtain rfl : u = Value.ref t := ru
    obtain ⟨its2, rv2, hp2, _⟩ := I.tuple ht
    obtain ⟨ku, vu, rfl, rk, rvv⟩ := vals2 rv2
    refine PySem.call_dict_pairs (knd := mixKind X.prog X.w) (kvs := [(k, vu)]) (PairArg.tuple a #[.ref t] (fun _ => t) [(ku, vu)]) (I.ok.hd hcalm) ⟨hp, rfl, fun j k2 v2 h => ?_⟩ ⟨rfl, fun i key v2 h => ?_⟩ (by rw [sizeLine_eq]; exact (by decide : 1 ≤ 16777216)) fun h' tk hd hk => ?_
    · cases j with
      | zero =>
        have e : (ku, vu) = (k2, v2) := Option.some.inj h
        cases e
        exact ⟨rfl, .inl (isTuple_of hp2)⟩
      | succ j => simp at h
    · have h : ([(ku, vu)] : List (Value × Value))[i]? = some (key, v2) := h
      cases i with
      | zero =>
        have e : (ku, vu) = (key, v2) := Option.some.inj h
        cases e
        exact ⟨k, rfl, kV_is (P := X.prog) (w := X.w) rk⟩
      | succ i => simp at h
    · exact ⟨.ref s.heap.objs.size, upd H s.heap.objs.size (.dK [(k, v)]), I.laid (t' := tk) (fun b o e => hk b o (by simp) e) (Nat.le_refl _) ⟨by rw [sizeLine_eq]; exact (by decide : 1 ≤ 16777216), hm, [(k, vu)], .cons ⟨rfl, rvv⟩ .nil, hd⟩, rfl, q _ (I.hok.fresh (Nat.le_refl _))⟩
/-- a tuple display: the new object, as it is -/
def tTupF (t : TA) : TE := fun σ H Q => t σ H fun xs H1 => xs.length ≤ 1000 ∧ ∀ p o, H1 p = none → o.dict = none → Q (.ref p) (upd H1 p (.frz o (.tup xs)))
theorem pe_tupF {es : List Expr} {x1 : Nat} {pos : Pos} {t : TA} (h : PA X es t) : PE X (.Tuple es x1 pos) (tTupF t) := by
  refine ⟨fun pins s σ H Q I hq => ?_⟩
  refine wpAny_Tuple_spliced (thn (h.run pos pins s σ H _ I hq) fun us s1 ⟨xs, H1, I1, r, z, q⟩ => ⟨by rw [← r.length, sizeLine_eq]; omega, ?_⟩)
  have hg : (s1.heap.push { cls := .type "tuple", data := .seq us.toArray }).get? s1.heap.objs.size = some { cls := .type "tuple", data := .seq us.toArray } := Heap.get?_push_size _ rfl
  exact ⟨.ref s1.heap.objs.size, _, I1.laid (t' := s1.toks) (fun b o e => Heap.get?_push_of_some _ e) (Nat.le_refl _) (o := .frz { cls := .type "tuple", data := .seq us.toArray } (.tup xs)) ⟨hg, by rw [sizeLine_eq]; omega, us, r, _, hg, rfl, _, rfl⟩, rfl, q _ _ (I1.hok.fresh (Nat.le_refl _)) rfl⟩
end
end K28

set_option Elab.async false
set_option linter.all false
set_option maxRecDepth 100000
set_option maxHeartbeats 4000000
namespace K28
open PySem PySem.Spec PyProof.Rows L2
/-! ## Amounts, Row: made -/
/-- all but x and its dict stays -/
def Ex2 (x dx : Addr) (H H' : Hp) : Prop := ∀ b o, b ≠ x → b ≠ dx → H b = some o → H' b = some o
def PairsX (K : PySem.W.Frag) (H : Hp) (a : Addr) : Prop := TupD K H a [] ∨ ∃ (t : Addr) (l : List Nat) (n : Nat), TupD K H a [.ref t] ∧ SqT K H t [.str (S l), vN n] ∧ KindOk l ∧ 1 ≤ n ∧ n ≤ 1000000
def spAmInit (K : PySem.W.Frag) : Sp := fun vs H Q _ => ∃ (x dx a : Addr), vs = [.ref x, .ref a] ∧ H x = some (.ins (cAm K) dx []) ∧ H dx = some (.own x) ∧ dx ≠ x ∧ PairsX K H a ∧ (∀ H', Ex2 x dx H H' → Q .non H')
theorem slt_same {H H' : Hp} {a C dx : Addr} {vs : List (Option V)} (h : SlX.Slt H a C dx vs) (e : Same H H') : SlX.Slt H' a C dx vs := by
  rcases h with ⟨h1, h2⟩ | ⟨h1, h2⟩
  · exact .inl ⟨e _ _ h1, h2⟩
  · exact .inr ⟨e _ _ h1, e _ _ h2⟩
/-- not an instance's object, not its dict -/
def offX (H : Hp) (x dx a : Addr) : Prop := a ≠ x ∧ a ≠ dx
theorem sqT_slH {K : PySem.W.Frag} {H : Hp} {x C dx a : Addr} {vs : List (Option V)} {xs : List V} (hx : ∀ u, H x = some u → (∀ z, u ≠ .tup z) ∧ ∀ o z, u ≠ .frz o z) (hd : ∀ u, H dx = some u → (∀ z, u ≠ .tup z) ∧ ∀ o z, u ≠ .frz o z) (h : SqT K H a xs) : SqT K (SlX.slH H x C dx vs) a xs := by
  have ne : ∀ u, H a = some u → ((∃ z, u = .tup z) ∨ ∃ o z, u = .frz o z) → a ≠ x ∧ a ≠ dx := fun u e k => by
    constructor
    · intro z
      rw [z] at e
      obtain ⟨n1, n2⟩ := hx u e
      rcases k with ⟨y, k⟩ | ⟨o, y, k⟩
      · exact n1 y k
      · exact n2 o y k
    · intro z
      rw [z] at e
      obtain ⟨n1, n2⟩ := hd u e
      rcases k with ⟨y, k⟩ | ⟨o, y, k⟩
      · exact n1 y k
      · exact n2 o y k
  rcases h with (h | ⟨o, h⟩) | h
  · obtain ⟨n1, n2⟩ := ne _ h (.inl ⟨_, rfl⟩)
    exact .inl (.inl (by rw [SlX.slH_ne n1 n2]; exact h))
  · obtain ⟨n1, n2⟩ := ne _ h (.inr ⟨_, _, rfl⟩)
    exact .inl (.inr ⟨o, by rw [SlX.slH_ne n1 n2]; exact h⟩)
  · exact .inr h
theorem tupD_slH {K : PySem.W.Frag} {H : Hp} {x C dx a : Addr} {vs : List (Option V)} {xs : List V} (hx : ∀ u, H x = some u → (∀ z, u ≠ .tup z) ∧ ∀ o z, u ≠ .frz o z) (hd : ∀ u, H dx = some u → (∀ z, u ≠ .tup z) ∧ ∀ o z, u ≠ .frz o z) (h : TupD K H a xs) : TupD K (SlX.slH H x C dx vs) a xs := by
  refine ⟨sqT_slH hx hd h.1, ?_⟩
  rcases h.2 with ⟨o, u, e, d⟩ | h2
  · refine .inl ⟨o, u, ?_, d⟩
    rw [SlX.slH_ne (fun z => ?_) (fun z => ?_)]
    · exact e
    · rw [z] at e
      exact (hx _ e).2 _ _ rfl
    · rw [z] at e
      exact (hd _ e).2 _ _ rfl
  · exact .inr h2
theorem tupD_same {K : PySem.W.Frag} {H H' : Hp} {a : Addr} {xs : List V} (h : TupD K H a xs) (e : Same H H') : TupD K H' a xs := by
  refine ⟨e.sqT h.1, ?_⟩
  rcases h.2 with ⟨o, u, q, d⟩ | h2
  · exact .inl ⟨o, u, e _ _ q, d⟩
  · exact .inr h2
theorem insNT {H : Hp} {x C dx : Addr} {fs : List (Str × V)} (h : H x = some (.ins C dx fs)) : ∀ u, H x = some u → (∀ z, u ≠ .tup z) ∧ ∀ o z, u ≠ .frz o z := fun u e => by
  rw [h] at e
  cases e
  exact ⟨(fun _ z => nomatch z), (fun _ _ z => nomatch z)⟩
theorem ownNT {H : Hp} {x dx : Addr} (h : H dx = some (.own x)) : ∀ u, H dx = some u → (∀ z, u ≠ .tup z) ∧ ∀ o z, u ≠ .frz o z := fun u e => by
  rw [h] at e
  cases e
  exact ⟨(fun _ z => nomatch z), (fun _ _ z => nomatch z)⟩
theorem imA {p q : Prop} (a : p → q) (b : p) : q := a b
theorem PairsX.t {K : PySem.W.Frag} {H : Hp} {a : Addr} (h : PairsX K H a) : PairsT K H a := by
  rcases h with h | ⟨t, l, n, h1, h2, h3⟩
  · exact .inl h.1
  · exact .inr ⟨t, l, n, h1.1, h2, h3⟩
section
variable {w : World} {K : PySem.W.Frag} {mg : Str → Option Value} {base : Heap}
theorem ok_Amounts_init {d0 : Addr} (T : Ty K mg) {fA : Addr} {fd : FuncData} (F : FunD K "__init__" "Amounts.__init__" (defArgs s_Amounts_init) (defBody s_Amounts_init) (defScope s_Amounts_init) [.ref d0] [] fA fd) : FnOk Er.PRG w K mg base (L2.CX Er.PRG w) 4 fA fd ["self", "pairs"] (spAmInit K) := by
  refine F.ok sc_Amounts_init (fun vs H Q E h => ?_) fun cdv A outer s H vs Q E hr h => ⟨_, PSs.nox (
      (pss_cons (ps_if (pt_not (pt_val (pe_f (ok_are_pairs T.toTx) (hr.mono (by decide)) (pa_cons (pv 1) pa_nil)))) (pss_one ps_never) pss_nil)
      (pss_cons (SlX.ps_sl (pv 0) (pv 1))
      (pss_one (SlX.ps_sl (pv 0) (pe_callTy (call_dictT rfl) (by rfl) T.m_dict (by decide +kernel) (pa_cons (pv 1) pa_nil))))))), ?_⟩
  · obtain ⟨_, _, _, rfl, _⟩ := h
    rfl
  · obtain ⟨x, dx, a, rfl, hx, hd, hdx, hp, q⟩ := h
    obtain ⟨p0, s0⟩ := T.am_0
    obtain ⟨p1, s1⟩ := T.am_1
    refine ⟨_, rfl, a, rfl, hp.t, fun H1 e1 => ⟨_, rfl, ifF rfl ?_⟩⟩
    have hx1 := e1 _ _ hx
    have hd1 := e1 _ _ hd
    refine ⟨_, rfl, _, rfl, x, cAm K, dx, p0, [], 0, rfl, .inl ⟨hx1, rfl⟩, T.am_c, s0, ?_⟩
    have fin : ∀ (p : Addr) (o : HO), SlX.slH H1 x (cAm K) dx (SlX.putS 0 (.ref a) []) p = none → SlX.sSl K (tVar 0) (fun _ H Q => Q (.ref p) H) "own_table" { nx := fun _ H' => Q .non H', rt := Q } (L2.start N_Amounts_init [.ref x, .ref a]) (upd (SlX.slH H1 x (cAm K) dx (SlX.putS 0 (.ref a) [])) p o) := fun p o hp => by
      have e2 : Same (SlX.slH H1 x (cAm K) dx (SlX.putS 0 (.ref a) [])) (upd (SlX.slH H1 x (cAm K) dx (SlX.putS 0 (.ref a) [])) p o) := Same.new hp
      refine ⟨_, rfl, x, cAm K, dx, p1, _, 1, rfl, slt_same (SlX.slH_slt hdx) e2, T.am_c, s1, ?_⟩
      refine q _ fun b u h1 h2 h3 => ?_
      rw [SlX.slH_ne h1 h2]
      refine e2 _ _ ?_
      rw [SlX.slH_ne h1 h2]
      exact e1 _ _ h3
    rcases hp with h | ⟨t, l, n, h1, h2, h3, h4, h5⟩
    · exact ⟨_, rfl, a, rfl, .inl ⟨tupD_slH (insNT hx1) (ownNT hd1) (tupD_same h e1), fun p hp => fin p _ hp⟩⟩
    · exact ⟨_, rfl, a, rfl, .inr ⟨t, .inr (S l), vN n, tupD_slH (insNT hx1) (ownNT hd1) (tupD_same h1 e1), sqT_slH (insNT hx1) (ownNT hd1) (e1.sqT h2), fun p hp => fin p _ hp⟩⟩
/-- x is being built: its slots vs, all else as in H -/
structure Bd (H Hk : Hp) (x dx C : Addr) (vs : List (Option V)) : Prop where
  sl : SlX.Slt Hk x C dx vs
  hx : ∃ u, Hk x = some u ∧ (∀ z, u ≠ .tup z) ∧ ∀ o z, u ≠ .frz o z
  hd : ∃ u, Hk dx = some u ∧ (∀ z, u ≠ .tup z) ∧ ∀ o z, u ≠ .frz o z
  ne : dx ≠ x
  ex : Ex2 x dx H Hk
section
variable {H Hk Hk' : Hp} {x dx C : Addr} {vs : List (Option V)}
theorem Bd.same (B : Bd H Hk x dx C vs) (e : Same Hk Hk') : Bd H Hk' x dx C vs := by
  obtain ⟨u, h1, h2⟩ := B.hx
  obtain ⟨v, h3, h4⟩ := B.hd
  exact ⟨slt_same B.sl e, ⟨u, e _ _ h1, h2⟩, ⟨v, e _ _ h3, h4⟩, B.ne, fun b o n1 n2 h => e _ _ (B.ex b o n1 n2 h)⟩
theorem Bd.store (B : Bd H Hk x dx C vs) (vs' : List (Option V)) : Bd H (SlX.slH Hk x C dx vs') x dx C vs' := by
  have h1 : SlX.slH Hk x C dx vs' x = some (SlX.SlO x C dx vs') := upd_same
  have h2 : SlX.slH Hk x C dx vs' dx = some (.xd []) := by
    unfold SlX.slH
    rw [upd_ne B.ne, upd_same]
  refine ⟨SlX.slH_slt B.ne, ⟨_, h1, fun z e => ?_, fun o z e => ?_⟩, ⟨_, h2, (fun _ z => nomatch z), (fun _ _ z => nomatch z)⟩, B.ne, fun b o n1 n2 h => ?_⟩
  · unfold SlX.SlO at e
    cases e
  · unfold SlX.SlO at e
    cases e
  · rw [SlX.slH_ne n1 n2]
    exact B.ex b o n1 n2 h
theorem Bd.sq {K : PySem.W.Frag} {a : Addr} {xs : List V} (B : Bd H Hk x dx C vs) (vs' : List (Option V)) (h : SqT K Hk a xs) : SqT K (SlX.slH Hk x C dx vs') a xs := by
  obtain ⟨u, h1, h2⟩ := B.hx
  obtain ⟨v, h3, h4⟩ := B.hd
  refine sqT_slH (fun z e => ?_) (fun z e => ?_) h
  · rw [h1] at e
    rw [← Option.some.inj e]
    exact h2
  · rw [h3] at e
    rw [← Option.some.inj e]
    exact h4
end
theorem Bd.sqD {K : PySem.W.Frag} {a : Addr} {xs : List V} {H Hk : Hp} {x dx C : Addr} {vs : List (Option V)} (B : Bd H Hk x dx C vs) (vs' : List (Option V)) (h : TupD K Hk a xs) : TupD K (SlX.slH Hk x C dx vs') a xs := by
  obtain ⟨u, h1, h2⟩ := B.hx
  obtain ⟨v, h3, h4⟩ := B.hd
  refine tupD_slH (fun z e => ?_) (fun z e => ?_) h
  · rw [h1] at e
    rw [← Option.some.inj e]
    exact h2
  · rw [h3] at e
    rw [← Option.some.inj e]
    exact h4
theorem IxN.ints {ns : List Nat} (ix : IxN ns) : Ix (ns.map fun n : Nat => (n : Int)) := by
  refine ⟨by rw [List.length_map]; exact ix.lo, by rw [List.length_map]; exact ix.hi, fun z hz => ?_, List.pairwise_map.mpr (ix.up.imp fun h => by omega)⟩
  obtain ⟨n, hn, rfl⟩ := List.mem_map.mp hz
  have := ix.bd n hn
  omega
/-- what Row's __init__ asks and gives -/
def rngN (f n : Nat) : List V := (List.range n).map fun i => vN (f + i)
def RowAt (K : PySem.W.Frag) (H : Hp) (x : Addr) (f : Nat) (ns : List Nat) : Prop := ∃ (dx : Addr) (vs : List (Option V)) (t1 t2 : Addr), SlX.Slt H x (cRow K) dx vs ∧ vs[1]? = some (some (vN f)) ∧ vs[2]? = some (some (.ref t1)) ∧ TupD K H t1 (ns.map vN) ∧ vs[5]? = some (some (.ref t2)) ∧ SqT K H t2 (rngN f ns.length)
def MostOk (ns : List Nat) (m : V) : Prop := m = .non ∨ ∃ k : Nat, m = vN k ∧ 1 ≤ k ∧ k ≤ ns.length
def spRowInit (K : PySem.W.Frag) : Sp := fun vs H Q _ => ∃ (x dx : Addr) (f : Nat) (t : Addr) (ns : List Nat) (m : V), vs = [.ref x, vN f, .ref t, m] ∧ H x = some (.ins (cRow K) dx []) ∧ H dx = some (.own x) ∧ dx ≠ x ∧ 1 ≤ f ∧ f ≤ 999000 ∧ TupD K H t (ns.map vN) ∧ IxN ns ∧ MostOk ns m ∧
  ∀ H', Ex2 x dx H H' → RowAt K H' x f ns → Q .non H'
theorem rgV_rngN (f n : Nat) : rgV (f : Int) ((f : Int) + (n : Nat)) = rngN f n := by
  unfold rgV rngN vN
  rw [show ((f : Int) + (n : Nat) - f).toNat = n by omega]
  refine List.map_congr_left fun i _ => ?_
  rw [Int.natCast_add]
theorem ex2_same {H H' : Hp} {x dx : Addr} {o1 o2 : HO} (hx : H x = none) (hd : H dx = none) (e : Ex2 x dx (upd (upd H dx o1) x o2) H') : Same H H' := fun b o hb => by
  have n1 : b ≠ x := fun z => by rw [z, hx] at hb; cases hb
  have n2 : b ≠ dx := fun z => by rw [z, hd] at hb; cases hb
  refine e b o n1 n2 ?_
  rw [upd_ne n1, upd_ne n2]
  exact hb
theorem kind_r {f : Nat} (h : f ≤ 999000) : KindOk (114 :: num f) := by
  have hl : (num f).length ≤ 7 := TL.numL_len (by decide) (Nat.lt_of_le_of_lt h (by decide))
  refine ⟨by rw [List.length_cons]; omega, ⟨114, _, rfl, by decide⟩, fun c hc => ?_, fun e => ?_⟩
  · rcases List.mem_cons.mp hc with rfl | hc
    · exact .inl (by decide)
    · have := TL.numL_digits f c hc
      refine .inr ?_
      unfold isDig
      rw [decide_eq_true this.1, decide_eq_true this.2]
      rfl
  · rw [show (Str.ofString "nothing").cps.toList = [110, 111, 116, 104, 105, 110, 103] by decide +kernel] at e
    cases e
theorem ok_Row_init (T : Ty K mg) {fA : Addr} {fd : FuncData} (F : FunD K "__init__" "Row.__init__" (defArgs s_Row_init) (defBody s_Row_init) (defScope s_Row_init) [] [("at_once", .non)] fA fd) : FnOk Er.PRG w K mg base (L2.CX Er.PRG w) 6 fA fd ["self", "first", "indices", "at_once"] (spRowInit K) := by
  obtain ⟨d0, od, nd, fdA, AF, dk, dc, dd, ds⟩ := T.am_f
  obtain ⟨its0, Ad0, AB0⟩ := AF.binds1 (ps := ["self", "pairs"]) 1 0 (by simp) rfl (fun TT kV doc pm an cdv ct us its h1 h2 => match us, its, h1, h2 with | [_], [_], _, _ => ⟨_, rfl, rfl⟩)
  obtain ⟨its2, Ad2, AB2⟩ := AF.binds1 (ps := ["self", "pairs"]) 2 1 (by simp) rfl (fun TT kV doc pm an cdv ct us its h1 h2 => match us, its, h1, h2 with | [_, _], [_], _, _ => ⟨_, rfl, rfl⟩)
  have z2 : its2 = [] := by cases Ad2; rfl
  subst z2
  refine F.ok sc_Row_init (fun vs H Q E h => ?_) fun cdv A outer s H vs Q E hr h => ⟨_, PSs.nox (
      (pss_cons (ps_if (pt_not (pt_val (pe_f (ok_is_from T.toTx) (hr.mono (by decide)) (pa_cons (pv 1) (pa_cons pe_int (pa_cons (pe_gI T.i_MAX_FIRST) pa_nil)))))) (pss_one ps_never) pss_nil)
      (pss_cons (ps_if (pt_not (pt_val (pe_f (ok_are_indices T.toTx) (hr.mono (by decide)) (pa_cons (pv 2) pa_nil)))) (pss_one ps_never) pss_nil)
      (pss_cons (ps_if (PW.pt (pw_and (pt_cmpR op_notN (pv 3) pe_non (nomark _)) (pw_and1 (pt_not (pt_val (pe_f (ok_is_from T.toTx) (hr.mono (by decide)) (pa_cons (pv 3) (pa_cons pe_int (pa_cons (pe_callB call_len (by rfl) T.m_len boot_len (pa_cons (pv 2) pa_nil)) pa_nil))))))))) (pss_one ps_never) pss_nil)
      (pss_cons (SlX.ps_sl (pv 0) (pv 1))
      (pss_cons (SlX.ps_sl (pv 0) (pv 2))
      (pss_cons (SlX.ps_sl (pv 0) (pv 3))
      (pss_cons (SlX.ps_sl (pv 0) (pe_callTy call_tuple_of (by rfl) T.m_tuple (by decide +kernel) (pa_cons (pe_listRg rfl (by rfl) T.m_list (prg_2 (by rfl) T.m_range (pv 1) (pe_op op_add (pv 1) (pe_callB call_len (by rfl) T.m_len boot_len (pa_cons (pv 2) pa_nil))))) pa_nil)))
      (pss_cons (SlX.ps_sl (pv 0) (pe_ifExp (pt_cmpR op_isN (pv 3) pe_non (nomark _)) pe_non (pe_joinS (PJ.cons pe_strS (PJ.cons (pe_show (pv 1)) PJ.nil)))))
      (pss_one (SlX.ps_sl (pv 0) (pe_ifExp (pt_cmpR op_isN (pv 3) pe_non (nomark _)) (pe_make0 T.am_m (ok_Amounts_init T AF) (hr.mono (by decide)) rfl T.g_Amounts AB0 Ad0 passL) (pe_make T.am_m (ok_Amounts_init T AF) (hr.mono (by decide)) rfl T.g_Amounts AB2 .nil passL (pa_cons (pe_tupF (pa_cons (pe_tup (pa_cons (SlX.pe_sl (pv 0)) (pa_cons (pv 3) pa_nil))) pa_nil)) pa_nil)))))))))))))), ?_⟩
  · obtain ⟨_, _, _, _, _, _, rfl, _⟩ := h
    rfl
  · obtain ⟨x, dx, f, t, ns, m, rfl, hx, hd, hdx, hf1, hf2, hS, ix, hm, q⟩ := h
    obtain ⟨p0, s0⟩ := T.row_0
    obtain ⟨p1, s1⟩ := T.row_1
    obtain ⟨p2, s2⟩ := T.row_2
    obtain ⟨p3, s3⟩ := T.row_3
    obtain ⟨p4, s4⟩ := T.row_4
    obtain ⟨p5, s5⟩ := T.row_5
    have hlen : (ns.map vN).length = ns.length := List.length_map ..
    have hi := ix.hi
    have hlo := ix.lo
    have B0 : Bd H H x dx (cRow K) [] := ⟨.inl ⟨hx, rfl⟩, ⟨_, hx, insNT hx _ hx⟩, ⟨_, hd, ownNT hd _ hd⟩, hdx, fun _ _ _ _ h => h⟩
    refine ⟨_, rfl, (f : Int), 1, 999000, rfl, small_sm (by omega), ⟨_, rfl, ifF ?_ ?_⟩⟩
    · rw [decide_eq_true (show (1 : Int) ≤ f by omega), decide_eq_true (show (f : Int) ≤ 999000 by omega)] <;> rfl
    refine ⟨_, rfl, t, ns.map fun n : Nat => (n : Int), rfl, by rw [List.map_map]; exact hS.1, ix.ints, fun H1 e1 => ⟨_, rfl, ifF rfl ?_⟩⟩
    have B1 := B0.same e1
    have hS1 := tupD_same hS e1
    apply imA
    · intro fin
      rcases hm with hm | ⟨k, hm, k1, k2⟩
      · exact ⟨_, rfl, rfl, _, rfl, ifF (by rw [hm]; rfl) (ifF rfl fin)⟩
      · refine ⟨_, rfl, rfl, _, rfl, ifT (by rw [hm]; rfl) ⟨_, rfl, _, rfl, .ref t, (ns.map vN).length, rfl, len_t hS1.1, (k : Int), 1, ((ns.map vN).length : Int), by rw [hm]; rfl, small_sm (by omega), _, rfl, ?_⟩⟩
        exact ifF (by rw [decide_eq_true (show (1 : Int) ≤ k by omega), decide_eq_true (show (k : Int) ≤ ((ns.map vN).length : Int) by omega)]; rfl) fin
    · show tSeq _ _ _ _ _
      refine ⟨_, rfl, _, rfl, x, cRow K, dx, p1, [], 1, rfl, B1.sl, T.row_c, s1, ?_⟩
      have B2 := B1.store (SlX.putS 1 (vN f) [])
      have hS2 := B1.sqD (SlX.putS 1 (vN f) []) hS1
      show tSeq _ _ _ _ (SlX.slH H1 x (cRow K) dx (SlX.putS 1 (vN f) []))
      generalize SlX.slH H1 x (cRow K) dx (SlX.putS 1 (vN f) []) = H2 at B2 hS2 ⊢
      refine ⟨_, rfl, _, rfl, x, cRow K, dx, p2, _, 2, rfl, B2.sl, T.row_c, s2, ?_⟩
      have B3 := B2.store (SlX.putS 2 (.ref t) (SlX.putS 1 (vN f) []))
      have hS3 := B2.sqD (SlX.putS 2 (.ref t) (SlX.putS 1 (vN f) [])) hS2
      show tSeq _ _ _ _ (SlX.slH H2 x (cRow K) dx (SlX.putS 2 (.ref t) (SlX.putS 1 (vN f) [])))
      generalize SlX.slH H2 x (cRow K) dx (SlX.putS 2 (.ref t) (SlX.putS 1 (vN f) [])) = H3 at B3 hS3 ⊢
      refine ⟨_, rfl, _, rfl, x, cRow K, dx, p4, _, 4, rfl, B3.sl, T.row_c, s4, ?_⟩
      have B4 := B3.store (SlX.putS 4 m (SlX.putS 2 (.ref t) (SlX.putS 1 (vN f) [])))
      have hS4 := B3.sqD (SlX.putS 4 m (SlX.putS 2 (.ref t) (SlX.putS 1 (vN f) []))) hS3
      show tSeq _ _ _ _ (SlX.slH H3 x (cRow K) dx (SlX.putS 4 m (SlX.putS 2 (.ref t) (SlX.putS 1 (vN f) []))))
      generalize SlX.slH H3 x (cRow K) dx (SlX.putS 4 m (SlX.putS 2 (.ref t) (SlX.putS 1 (vN f) []))) = H4 at B4 hS4 ⊢
      -- the numbers
      refine ⟨_, rfl, _, rfl, _, rfl, .ref t, (ns.map vN).length, rfl, len_t hS4.1, _, _, rfl, rfl, (f : Int), _, rfl, rfl, ?_, ?_⟩
      · show RgOk (f : Int) (f + ((ns.map vN).length : Nat))
        rw [hlen]
        exact RgOk.of_le (by omega) (by omega) (by omega) (by omega)
      refine fun l hl => ⟨_, _, rfl, .inl ⟨.inl (.inl upd_same), fun l2 hl2 => ⟨_, rfl, x, cRow K, dx, p5, _, 5, rfl, slt_same B4.sl ((Same.new hl).trans (Same.new hl2)), T.row_c, s5, ?_⟩⟩⟩
      have hrg : rgV (f : Int) (f + ((ns.map vN).length : Nat)) = rngN f ns.length := by rw [rgV_rngN, hlen]
      have B5 := (B4.same ((Same.new (o := .lst (rgV (f : Int) (f + ((ns.map vN).length : Nat)))) hl).trans (Same.new (o := .tup (rgV (f : Int) (f + ((ns.map vN).length : Nat)))) hl2))).store (SlX.putS 5 (.ref l2) (SlX.putS 4 m (SlX.putS 2 (.ref t) (SlX.putS 1 (vN f) []))))
      have hS5 := (B4.same ((Same.new (o := .lst (rgV (f : Int) (f + ((ns.map vN).length : Nat)))) hl).trans (Same.new (o := .tup (rgV (f : Int) (f + ((ns.map vN).length : Nat)))) hl2))).sqD (SlX.putS 5 (.ref l2) (SlX.putS 4 m (SlX.putS 2 (.ref t) (SlX.putS 1 (vN f) [])))) (tupD_same hS4 ((Same.new (o := .lst (rgV (f : Int) (f + ((ns.map vN).length : Nat)))) hl).trans (Same.new (o := .tup (rgV (f : Int) (f + ((ns.map vN).length : Nat)))) hl2)))
      have hN5 := (B4.same ((Same.new (o := .lst (rgV (f : Int) (f + ((ns.map vN).length : Nat)))) hl).trans (Same.new (o := .tup (rgV (f : Int) (f + ((ns.map vN).length : Nat)))) hl2))).sq (SlX.putS 5 (.ref l2) (SlX.putS 4 m (SlX.putS 2 (.ref t) (SlX.putS 1 (vN f) [])))) (K := K) (a := l2) (xs := rngN f ns.length) (.inl (.inl (by rw [← hrg]; exact upd_same)))
      show tSeq _ _ _ _ (SlX.slH _ x (cRow K) dx (SlX.putS 5 (.ref l2) (SlX.putS 4 m (SlX.putS 2 (.ref t) (SlX.putS 1 (vN f) [])))))
      generalize SlX.slH _ x (cRow K) dx (SlX.putS 5 (.ref l2) (SlX.putS 4 m (SlX.putS 2 (.ref t) (SlX.putS 1 (vN f) [])))) = H5 at B5 hS5 hN5 ⊢
      have e1 : (SlX.putS 5 (.ref l2) (SlX.putS 4 m (SlX.putS 2 (.ref t) (SlX.putS 1 (vN f) []))))[1]? = some (some (vN f)) := rfl
      have e2 : (SlX.putS 5 (.ref l2) (SlX.putS 4 m (SlX.putS 2 (.ref t) (SlX.putS 1 (vN f) []))))[2]? = some (some (.ref t)) := rfl
      have e5 : (SlX.putS 5 (.ref l2) (SlX.putS 4 m (SlX.putS 2 (.ref t) (SlX.putS 1 (vN f) []))))[5]? = some (some (.ref l2)) := rfl
      generalize SlX.putS 5 (.ref l2) (SlX.putS 4 m (SlX.putS 2 (.ref t) (SlX.putS 1 (vN f) []))) = us at B5 e1 e2 e5 ⊢
      have ends : ∀ (H7 : Hp) (kv : V) (a : Addr) (B7 : Bd H H7 x dx (cRow K) (SlX.putS 3 kv us)) (hS7 : TupD K H7 t (ns.map vN)) (hN7 : SqT K H7 l2 (rngN f ns.length)), Q .non (SlX.slH H7 x (cRow K) dx (SlX.putS 0 (.ref a) (SlX.putS 3 kv us))) := by
        intro H7 kv a B7 hS7 hN7
        have B8 := B7.store (SlX.putS 0 (.ref a) (SlX.putS 3 kv us))
        refine q _ B8.ex ⟨dx, _, t, l2, B8.sl, ?_, ?_, B7.sqD _ hS7, ?_, B7.sq _ hN7⟩
        · exact (SlX.putS_ne (by decide)).mpr ((SlX.putS_ne (by decide)).mpr e1)
        · exact (SlX.putS_ne (by decide)).mpr ((SlX.putS_ne (by decide)).mpr e2)
        · exact (SlX.putS_ne (by decide)).mpr ((SlX.putS_ne (by decide)).mpr e5)
      rcases hm with rfl | ⟨k, rfl, k1, k2⟩
      · refine ⟨_, rfl, rfl, _, rfl, ifT rfl ⟨_, rfl, x, cRow K, dx, p3, _, 3, rfl, B5.sl, T.row_c, s3, ?_⟩⟩
        have B6 := B5.store (SlX.putS 3 .non us)
        have hS6 := B5.sqD (SlX.putS 3 .non us) hS5
        have hN6 := B5.sq (SlX.putS 3 .non us) hN5
        generalize SlX.slH H5 x (cRow K) dx (SlX.putS 3 .non us) = H6 at B6 hS6 hN6 ⊢
        refine ⟨_, rfl, rfl, _, rfl, ifT rfl fun x2 dx2 h1 h2 h3 => ⟨x2, dx2, d0, rfl, upd_same, ?_, h3, .inl ⟨.inr ⟨od, #[], nd, dk, dc, ds, Nat.zero_le _, .nil⟩, .inr ⟨od, dk, dd⟩⟩, fun H' e => ?_⟩⟩
        · rw [upd_ne h3]
          exact upd_same
        · have E6 := ex2_same h1 h2 e
          exact ⟨rfl, _, rfl, x, cRow K, dx, p0, _, 0, rfl, slt_same B6.sl E6, T.row_c, s0, ends _ _ _ (B6.same E6) (tupD_same hS6 E6) (E6.sqT hN6)⟩
      · have h7 : (num f).length ≤ 7 := TL.numL_len (by decide) (Nat.lt_of_le_of_lt hf2 (by decide))
        have hr1 : (Str.ofString "r").cps.toList = [114] := by decide +kernel
        have hr2 : ([] ++ (Str.ofString "r").cps.toList ++ num f : List Nat) = 114 :: num f := by rw [hr1]; rfl
        refine ⟨_, rfl, rfl, _, rfl, ifF rfl ⟨(Str.ofString "r").cps.toList, rfl, by rw [hr1]; decide, _, rfl, num f, .inr ⟨f, rfl, Nat.lt_of_le_of_lt hf2 (by decide), rfl⟩, Nat.le_trans h7 (by decide), _, rfl, by rw [hr2, List.length_cons]; omega, _, rfl, x, cRow K, dx, p3, _, 3, rfl, B5.sl, T.row_c, s3, ?_⟩⟩
        rw [hr2]
        have B6 := B5.store (SlX.putS 3 (.str (S (114 :: num f))) us)
        have hS6 := B5.sqD (SlX.putS 3 (.str (S (114 :: num f))) us) hS5
        have hN6 := B5.sq (SlX.putS 3 (.str (S (114 :: num f))) us) hN5
        generalize SlX.slH H5 x (cRow K) dx (SlX.putS 3 (.str (S (114 :: num f))) us) = H6 at B6 hS6 hN6 ⊢
        refine ⟨_, rfl, rfl, _, rfl, ifF rfl ⟨_, rfl, x, cRow K, dx, p3, _, 3, _, rfl, B6.sl, T.row_c, s3, SlX.putS_get .., _, rfl, by show 2 ≤ _; rw [sizeLine_eq]; decide, fun pt hpt => ⟨by show 1 ≤ 1000; decide, fun pf o hpf ho x2 dx2 h1 h2 h3 => ?_⟩⟩⟩
        have Et : Same H6 (upd (upd H6 pt (.tup [.str (S (114 :: num f)), vN k])) pf (.frz o (.tup [.ref pt]))) := (Same.new hpt).trans (Same.new hpf)
        have hi1 := ix.hi
        refine ⟨x2, dx2, pf, rfl, upd_same, ?_, h3, .inr ⟨pt, 114 :: num f, k, ?_, ?_, kind_r hf2, k1, by omega⟩, fun H' e => ?_⟩
        · rw [upd_ne h3]
          exact upd_same
        · have E7 : Same (upd (upd H6 pt (.tup [.str (S (114 :: num f)), vN k])) pf (.frz o (.tup [.ref pt]))) (upd (upd (upd (upd H6 pt (.tup [.str (S (114 :: num f)), vN k])) pf (.frz o (.tup [.ref pt]))) dx2 (.own x2)) x2 (.ins (cAm K) dx2 [])) := fun b o' hb => by
            rw [upd_ne (fun z => by rw [z, h1] at hb; cases hb), upd_ne (fun z => by rw [z, h2] at hb; cases hb)]
            exact hb
          exact tupD_same ⟨.inl (.inr ⟨o, upd_same⟩), .inl ⟨o, _, upd_same, ho⟩⟩ E7
        · have E7 : Same (upd (upd H6 pt (.tup [.str (S (114 :: num f)), vN k])) pf (.frz o (.tup [.ref pt]))) (upd (upd (upd (upd H6 pt (.tup [.str (S (114 :: num f)), vN k])) pf (.frz o (.tup [.ref pt]))) dx2 (.own x2)) x2 (.ins (cAm K) dx2 [])) := fun b o' hb => by
            rw [upd_ne (fun z => by rw [z, h1] at hb; cases hb), upd_ne (fun z => by rw [z, h2] at hb; cases hb)]
            exact hb
          exact E7.sqT ((Same.new hpf).sqT (.inl (.inl upd_same)))
        · have E6 := Et.trans (ex2_same h1 h2 e)
          exact ⟨rfl, _, rfl, x, cRow K, dx, p0, _, 0, rfl, slt_same B6.sl E6, T.row_c, s0, ends _ _ _ (B6.same E6) (tupD_same hS6 E6) (E6.sqT hN6)⟩
end
end K28

set_option Elab.async false
set_option linter.all false
set_option maxRecDepth 100000
set_option maxHeartbeats 4000000
namespace K28
open PySem PySem.Spec PyProof.Rows L2
/-! ## the members of Row -/
theorem cx_none {P : Program} {w : World} {o : List Env} (H : Hp) (s : Shared) (e : Value) (s' : Shared) (h : L2.CX P w o H s E0 e s') : False := by
  obtain ⟨_, _, _, _, _, _, _, _, _, _, _, _, h⟩ := h
  exact h.elim
/-- x in o, o of a class with an own __contains__ -/
def rInO (C : Addr) (sp : Sp) (neg : Bool) : R2 := fun x y H Q => ∃ (a dx : Addr) (vs : List (Option V)), y = .ref a ∧ SlX.Slt H a C dx vs ∧ sp [.ref a, x] H (fun v H' => ∃ b : Bool, v = .bl b ∧ Q (.bl (if neg = true then !b else b)) H') E0
section
variable {X : Cx} {C g : Addr} {sp : Sp} {k : Nat}
theorem own_in {pins : List (Addr × Obj)} {σ : L2.St} {H : Hp} {s : Shared} {a dx : Addr} {vs : List (Option V)} {x : V} {v : Value} {P : Bool → Hp → Prop} {Q : Bool → Shared → Prop} (hm : Meth X.K C "__contains__" g) (F : FnR X.prog X.w X.K X.mg X.base (L2.CX X.prog X.w) k g sp) (hr : Room k X.A) (I : Inv X pins σ H s) (hs : SlX.Slt H a C dx vs) (rx : RelV x v)
    (h : sp [.ref a, x] H (fun v H' => ∃ b : Bool, v = .bl b ∧ P b H') E0) (hQ : ∀ b H' s', Inv X pins σ H' s' → P b H' → Q b s') : wpAny (model X.prog X.w) X.A (contains (.ref a) v) Q X.xe s := by
  obtain ⟨sl, od, _, J, _⟩ := SlX.slt_inst I hs
  unfold contains
  refine wpAny_holding (wpAny_bind (wpAny_bind (J.type.here ((PySem.W.looks_findIn I.kIn hm.at_).here ?_))))
  rw [if_neg (by simp)]
  refine wpAny_bind (PySem.W.unlessNone_K I.kIn J hm.at_ hm.fn (wpAny_mono (wpAny_call (run_fnR (us := [.ref a, v]) (vs := [.ref a, x]) F hr passL I (.cons rfl (.cons rx .nil)) h)) (fun u s1 z => ?_) fun _ _ z => z))
  obtain ⟨y, H1, I1, ry, b, rfl, hp⟩ := z
  cases ry
  exact wpAny_pure (hQ b H1 s1 I1 hp)
theorem op_inO (hm : Meth X.K C "__contains__" g) (F : FnR X.prog X.w X.K X.mg X.base (L2.CX X.prog X.w) k g sp) (hr : Room k X.A) : OpR X (compareOp .In) (rInO C sp false) := by
  intro pins s σ H x y v u Q I rx ry h
  obtain ⟨a, dx, vs, rfl, hs, q⟩ := h
  cases ry
  exact wpAny_bind (own_in hm F hr I hs rx q fun b H1 s1 I1 z => wpAny_pure ⟨.bl b, H1, I1, rfl, z⟩)
theorem op_notInO (hm : Meth X.K C "__contains__" g) (F : FnR X.prog X.w X.K X.mg X.base (L2.CX X.prog X.w) k g sp) (hr : Room k X.A) : OpR X (compareOp .NotIn) (rInO C sp true) := by
  intro pins s σ H x y v u Q I rx ry h
  obtain ⟨a, dx, vs, rfl, hs, q⟩ := h
  cases ry
  exact wpAny_bind (own_in hm F hr I hs rx q fun b H1 s1 I1 z => wpAny_pure ⟨.bl (!b), H1, I1, rfl, z⟩)
end
theorem inV_nat (j : Nat) (ns : List Nat) : inV (vN j) (ns.map vN) = decide (j ∈ ns) := by
  unfold inV
  rw [List.any_map, Bool.eq_iff_iff, List.any_eq_true, decide_eq_true_iff]
  refine ⟨fun ⟨y, hy, e⟩ => ?_, fun h => ⟨j, h, ?_⟩⟩
  · have e2 : ((y : Int) == (j : Int)) = true := e
    have := eq_of_beq e2
    rwa [show j = y by omega]
  · show ((j : Int) == (j : Int)) = true
    exact beq_self_eq_true _
theorem flat_nat (ns : List Nat) : (ns.map vN).all flatV = true := by
  rw [List.all_map]
  exact List.all_eq_true.mpr fun _ _ => rfl
/-- t.index(n), the first place of a number -/
def rTupIx (K : PySem.W.Frag) : V → List V → Hp → VK → Prop := fun x xs H Q => ∃ (p : Addr) (ns : List Nat) (z j : Nat), x = .ref p ∧ xs = [vN z] ∧ SqT K H p (ns.map vN) ∧ ns[j]? = some z ∧ (∀ m, m < j → ns[m]? ≠ some z) ∧ Q (vN j) H
theorem mt_tupIx {X : Cx} : MtR X "tuple.index" (rTupIx X.K) := by
  intro pins s σ H x xs v us Q I rx rs h
  obtain ⟨p, ns, z, j, rfl, rfl, hq, hy, hno, q⟩ := h
  cases rx
  obtain ⟨u, rfl, t, rfl⟩ := vals1 rs
  obtain ⟨its, r, ⟨⟨cls, dd, dt, sl⟩, ho, hc, n, hd⟩, hz⟩ := I.tuple hq
  simp only at hc hd
  subst hc
  subst hd
  have hl : its.toArray.size = ns.length := by rw [List.size_toArray, ← r.length, List.length_map]
  have hj : j < its.toArray.size := by rw [hl]; exact (List.getElem?_eq_some_iff.mp hy).1
  have place : ∀ (m : Nat) (hm : m < its.toArray.size), ∃ y t', ns[m]? = some y ∧ its.toArray[m] = Value.int (y : Int) t' := fun m hm => by
    have hm2 : m < ns.length := by rw [← hl]; exact hm
    obtain ⟨w, hw, t', hw'⟩ := r.get (i := m) (x := vN ns[m]) (by simp [hm2])
    refine ⟨ns[m], t', List.getElem?_eq_getElem hm2, ?_⟩
    have e := (List.getElem?_eq_some_iff.mp hw).2
    rw [← hw', ← e]
    simp
  refine call_meets PySem.F.slot_tuple_index ⟨_, ho, rfl⟩ PySem.F.entry_tuple_index (PySem.F.args_tuple_index_2 _ _) (TI.tuple_indexAt p its.toArray n dd sl (.int z t) (eqU (vN z)) j hj ?_ ?_)
    ⟨ho, fun w hw => mem_eqAt (x := vN z) ⟨t, rfl⟩ rfl r (flat_nat ns) w (by simpa using hw), ⟨vN j, H, I.tok _, ⟨_, rfl⟩, q⟩⟩
  · obtain ⟨y, t', h1, h2⟩ := place j hj
    rw [hy] at h1
    cases h1
    rw [h2]
    show ((z : Int) == z) = true
    exact beq_self_eq_true _
  · intro m hm hmj
    obtain ⟨y, t', h1, h2⟩ := place m hm
    rw [h2]
    show ((y : Int) == z) = false
    refine beq_eq_false_iff_ne.mpr fun e => hno m hmj ?_
    rw [h1, show y = z by omega]
/-- t.name(e), t a tuple without a dict -/
def tBMT (K : PySem.W.Frag) (r : V → List V → Hp → VK → Prop) (to : TE) (t : TA) : TE := fun σ H Q => to σ H fun x H1 => (∃ p xs, x = .ref p ∧ TupD K H1 p xs) ∧ t σ H1 fun ys H2 => r x ys H2 Q
theorem pe_bmT {X : Cx} {o e : Expr} {to : TE} {t : TA} {name : Str} {apos cpos : Pos} {id : String} {r : V → List V → Hp → VK → Prop} (sl : Slot "tuple" name id) (ty : typeOf (.builtin id) = pure (.type "method_descriptor")) (hm : MtR X id r) (ho : PE X o to) (ha : PA X [e] t)
    (hbase : attributeBase o name X.env (eval o X.env) = eval o X.env := by rfl)
    (hfew : ((backTo cpos (starEach [e] X.env)).all (fun x => !x.1) && (backToKw cpos (keywordEach [] X.env)).all (fun x => x.1.isSome) && decide ([e].length + ([] : List Keyword).length + (if ([] : List Keyword).isEmpty then 0 else 1) < 30)) = true := by rfl)
    (hline : (apos.endLine == cpos.line) = true := by rfl) (hs : starEach [e] X.env = [(false, eval e X.env)] := by rfl) : PE X (.Call (.Attribute o name apos) [e] [] cpos) (tBMT X.K r to t) := by
  refine ⟨fun pins s σ H Q I h => wpAny_Call_method_late hbase hfew hline rfl (thn (ho.run pins s σ H _ I h) fun v s1 ⟨x, H1, I1, r1, ⟨p, xs, hx, ht⟩, q1⟩ => ?_)⟩
  subst hx
  obtain rfl : v = Value.ref p := r1
  obtain ⟨its, _, ob, n, e1, e2, e3, _⟩ := tupD_at I1 ht
  refine ⟨"tuple", id, PySem.F.plainAttrs_tuple, sl, ty, ⟨ob, e1, e2⟩, fun a z => ?_, ?_⟩
  · cases z
    exact ⟨ob, e1, e3⟩
  · have hA := ha.run cpos pins s1 σ H1 _ I1 q1
    rw [hs] at hA ⊢
    exact Calls.callWith_builtin rfl (Calls.evalArgs_plain (thn hA fun us s2 ⟨vs, H2, I2, r2, q2⟩ => hm pins s2 σ H2 (.ref p) vs _ us Q I2 rfl r2 q2))
end K28

set_option Elab.async false
set_option linter.all false
set_option maxRecDepth 100000
set_option maxHeartbeats 4000000
namespace K28
open PySem PySem.Spec PyProof.Rows L2
/-- a row of the heap: its first number, its indices -/
structure RowOk (K : PySem.W.Frag) (H : Hp) (x : Addr) (f : Nat) (ns : List Nat) : Prop where
  at_ : RowAt K H x f ns
  lo : 1 ≤ f
  hi : f ≤ 999000
  ix : IxN ns
theorem Ord.slt {K : PySem.W.Frag} {E : Hp → Hp → Prop} (O : Ord K E) {H H' : Hp} {a C dx : Addr} {vs : List (Option V)} (h : SlX.Slt H a C dx vs) (e : E H H') : SlX.Slt H' a C dx vs := by
  rcases h with ⟨h1, h2⟩ | ⟨h1, h2⟩
  · exact .inl ⟨O.keep e _ _ h1 fun _ z => (nomatch z), h2⟩
  · exact .inr ⟨O.keep e _ _ h1 (fun ps z => by unfold SlX.SlO at z; cases z), O.keep e _ _ h2 fun _ z => (nomatch z)⟩
theorem Ord.tupD {K : PySem.W.Frag} {E : Hp → Hp → Prop} (O : Ord K E) {H H' : Hp} {a : Addr} {xs : List V} (e : E H H') (h : TupD K H a xs) : TupD K H' a xs := by
  refine ⟨O.sqT e h.1, ?_⟩
  rcases h.2 with ⟨o, u, q, d⟩ | h2
  · exact .inl ⟨o, u, O.keep e _ _ q fun _ z => (nomatch z), d⟩
  · exact .inr h2
theorem Ord.rowAt {K : PySem.W.Frag} {E : Hp → Hp → Prop} (O : Ord K E) {H H' : Hp} {x : Addr} {f : Nat} {ns : List Nat} (h : RowAt K H x f ns) (e : E H H') : RowAt K H' x f ns := by
  obtain ⟨dx, vs, t1, t2, h1, h2, h3, h4, h5, h6⟩ := h
  exact ⟨dx, vs, t1, t2, O.slt h1 e, h2, h3, O.tupD e h4, h5, O.sqT e h6⟩
theorem Ord.row {K : PySem.W.Frag} {E : Hp → Hp → Prop} (O : Ord K E) {H H' : Hp} {x : Addr} {f : Nat} {ns : List Nat} (h : RowOk K H x f ns) (e : E H H') : RowOk K H' x f ns := ⟨O.rowAt h.at_ e, h.lo, h.hi, h.ix⟩
def spRowFirst (K : PySem.W.Frag) : Sp := fun vs H Q _ => ∃ (x : Addr) (f : Nat) (ns : List Nat), vs = [.ref x] ∧ RowOk K H x f ns ∧ Q (vN f) H
def spRowIndices (K : PySem.W.Frag) : Sp := fun vs H Q _ => ∃ (x : Addr) (f : Nat) (ns : List Nat), vs = [.ref x] ∧ RowOk K H x f ns ∧ ∀ t, TupD K H t (ns.map vN) → Q (.ref t) H
def spRowNumbers (K : PySem.W.Frag) : Sp := fun vs H Q _ => ∃ (x : Addr) (f : Nat) (ns : List Nat), vs = [.ref x] ∧ RowOk K H x f ns ∧ ∀ t, SqT K H t (rngN f ns.length) → Q (.ref t) H
def inRow (f : Nat) (ns : List Nat) (m : Nat) : Bool := decide (f ≤ m) && decide (m < f + ns.length)
def spRowHas (K : PySem.W.Frag) : Sp := fun vs H Q _ => ∃ (x : Addr) (f : Nat) (ns : List Nat) (m : Nat), vs = [.ref x, vN m] ∧ RowOk K H x f ns ∧ m ≤ 1000000 ∧ Q (.bl (inRow f ns m)) H
def spNumberOf (K : PySem.W.Frag) : Sp := fun vs H Q _ => ∃ (x : Addr) (f : Nat) (ns : List Nat) (j z : Nat), vs = [.ref x, vN z] ∧ RowOk K H x f ns ∧ ns[j]? = some z ∧ Q (vN (f + j)) H
def spIndexOf (K : PySem.W.Frag) : Sp := fun vs H Q _ => ∃ (x : Addr) (f : Nat) (ns : List Nat) (j z : Nat), vs = [.ref x, vN (f + j)] ∧ RowOk K H x f ns ∧ ns[j]? = some z ∧ Q (vN z) H
section
variable {w : World} {K : PySem.W.Frag} {mg : Str → Option Value} {base : Heap}
theorem ok_Row_first (T : Ty K mg) {fA : Addr} {fd : FuncData} (F : FunD K "first" "Row.first" (defArgs s_Row_first) (defBody s_Row_first) (defScope s_Row_first) [] [] fA fd) : FnOk Er.PRG w K mg base (L2.CX Er.PRG w) 1 fA fd ["self"] (spRowFirst K) := by
  refine F.ok sc_Row_first (fun vs H Q E h => ?_) fun cdv A outer s H vs Q E hr h => ⟨_, PSs.nox (
      (pss_one (ps_ret (SlX.pe_sl (pv 0))))), ?_⟩
  · obtain ⟨_, _, _, rfl, _⟩ := h
    rfl
  · obtain ⟨x, f, ns, rfl, ⟨⟨dx, vs, t1, t2, h1, h2, h3, h4, h5, h6⟩, lo, hi, ix⟩, q⟩ := h
    obtain ⟨p1, s1⟩ := T.row_1
    exact ⟨_, rfl, x, cRow K, dx, p1, _, 1, _, rfl, h1, T.row_c, s1, h2, q⟩
theorem ok_Row_indices (T : Ty K mg) {fA : Addr} {fd : FuncData} (F : FunD K "indices" "Row.indices" (defArgs s_Row_indices) (defBody s_Row_indices) (defScope s_Row_indices) [] [] fA fd) : FnOk Er.PRG w K mg base (L2.CX Er.PRG w) 1 fA fd ["self"] (spRowIndices K) := by
  refine F.ok sc_Row_indices (fun vs H Q E h => ?_) fun cdv A outer s H vs Q E hr h => ⟨_, PSs.nox (
      (pss_one (ps_ret (SlX.pe_sl (pv 0))))), ?_⟩
  · obtain ⟨_, _, _, rfl, _⟩ := h
    rfl
  · obtain ⟨x, f, ns, rfl, ⟨⟨dx, vs, t1, t2, h1, h2, h3, h4, h5, h6⟩, lo, hi, ix⟩, q⟩ := h
    obtain ⟨p2, s2⟩ := T.row_2
    exact ⟨_, rfl, x, cRow K, dx, p2, _, 2, _, rfl, h1, T.row_c, s2, h3, q t1 h4⟩
theorem ok_Row_numbers (T : Ty K mg) {fA : Addr} {fd : FuncData} (F : FunD K "numbers" "Row.numbers" (defArgs s_Row_numbers) (defBody s_Row_numbers) (defScope s_Row_numbers) [] [] fA fd) : FnOk Er.PRG w K mg base (L2.CX Er.PRG w) 1 fA fd ["self"] (spRowNumbers K) := by
  refine F.ok sc_Row_numbers (fun vs H Q E h => ?_) fun cdv A outer s H vs Q E hr h => ⟨_, PSs.nox (
      (pss_one (ps_ret (SlX.pe_sl (pv 0))))), ?_⟩
  · obtain ⟨_, _, _, rfl, _⟩ := h
    rfl
  · obtain ⟨x, f, ns, rfl, ⟨⟨dx, vs, t1, t2, h1, h2, h3, h4, h5, h6⟩, lo, hi, ix⟩, q⟩ := h
    obtain ⟨p5, s5⟩ := T.row_5
    exact ⟨_, rfl, x, cRow K, dx, p5, _, 5, _, rfl, h1, T.row_c, s5, h5, q t2 h6⟩
theorem ok_Row_contains (T : Ty K mg) {fA : Addr} {fd : FuncData} (F : FunD K "__contains__" "Row.__contains__" (defArgs s_Row_contains) (defBody s_Row_contains) (defScope s_Row_contains) [] [] fA fd) : FnOk Er.PRG w K mg base (L2.CX Er.PRG w) 3 fA fd ["self", "value"] (spRowHas K) := by
  refine F.ok sc_Row_contains (fun vs H Q E h => ?_) fun cdv A outer s H vs Q E hr h => ⟨_, PSs.nox (
      (pss_one (ps_ret (pe_f (ok_is_from T.toTx) (hr.mono (by decide)) (pa_cons (pv 1) (pa_cons (SlX.pe_sl (pv 0)) (pa_cons (pe_op op_sub (pe_op op_add (SlX.pe_sl (pv 0)) (pe_callB call_len (by rfl) T.m_len boot_len (pa_cons (SlX.pe_sl (pv 0)) pa_nil))) pe_int) pa_nil))))))), ?_⟩
  · obtain ⟨_, _, _, _, rfl, _⟩ := h
    rfl
  · obtain ⟨x, f, ns, m, rfl, ⟨⟨dx, vs, t1, t2, h1, h2, h3, h4, h5, h6⟩, lo, hi, ix⟩, hm, q⟩ := h
    obtain ⟨p1, s1⟩ := T.row_1
    obtain ⟨p2, s2⟩ := T.row_2
    have hl : (ns.map vN).length = ns.length := List.length_map ..
    have e : (decide ((f : Int) ≤ m) && decide ((m : Int) ≤ f + ((ns.map vN).length : Nat) - 1)) = inRow f ns m := by
      unfold inRow
      rw [hl, Bool.eq_iff_iff]
      simp only [Bool.and_eq_true, decide_eq_true_iff]
      omega
    refine ⟨_, rfl, _, rfl, x, cRow K, dx, p1, _, 1, _, rfl, h1, T.row_c, s1, h2, _, rfl, x, cRow K, dx, p1, _, 1, _, rfl, h1, T.row_c, s1, h2, _, rfl, x, cRow K, dx, p2, _, 2, _, rfl, h1, T.row_c, s2, h3, _, _, rfl, len_t h4.1, _, _, rfl, rfl, _, _, rfl, rfl, (m : Int), _, _, rfl, small_sm (by omega), ?_⟩
    rw [e]
    exact q
theorem ok_Row_number_of (T : Ty K mg) {fA : Addr} {fd : FuncData} (F : FunD K "number_of" "Row.number_of" (defArgs s_Row_number_of) (defBody s_Row_number_of) (defScope s_Row_number_of) [] [] fA fd) : FnOk Er.PRG w K mg base (L2.CX Er.PRG w) 3 fA fd ["self", "index"] (spNumberOf K) := by
  refine F.ok sc_Row_number_of (fun vs H Q E h => ?_) fun cdv A outer s H vs Q E hr h => ⟨_, PSs.nox (
      (pss_cons (ps_if (PW.pt (pw_or (pt_not (pt_val (pe_f (ok_is_from T.toTx) (hr.mono (by decide)) (pa_cons (pv 1) (pa_cons pe_int (pa_cons (pe_gI T.i_MAX_INDEX) pa_nil)))))) (pw_or1 (pt_cmpR op_notIn_seq (pv 1) (SlX.pe_sl (pv 0)) (by first | rfl | with_unfolding_all rfl))))) (pss_one ps_never) pss_nil)
      (pss_one (ps_ret (pe_op op_add (SlX.pe_sl (pv 0)) (pe_bmT PySem.F.slot_tuple_index PySem.F.type_tuple_index mt_tupIx (SlX.pe_sl (pv 0)) (pa_cons (pv 1) pa_nil))))))), ?_⟩
  · obtain ⟨_, _, _, _, _, rfl, _⟩ := h
    rfl
  · obtain ⟨x, f, ns, j, z, rfl, ⟨⟨dx, vs, t1, t2, h1, h2, h3, h4, h5, h6⟩, lo, hi, ix⟩, hj, q⟩ := h
    obtain ⟨p1, s1⟩ := T.row_1
    obtain ⟨p2, s2⟩ := T.row_2
    have hz := List.mem_of_getElem? hj
    have bz := ix.bd z hz
    have lt : ∀ m, m < j → ns[m]? ≠ some z := fun m hm e => by
      obtain ⟨g1, g2⟩ := List.getElem?_eq_some_iff.mp hj
      obtain ⟨g3, g4⟩ := List.getElem?_eq_some_iff.mp e
      have h := ix.up
      rw [List.pairwise_iff_getElem] at h
      have := h m j g3 g1 hm
      omega
    refine ⟨_, rfl, (z : Int), 0, 9999, rfl, small_sm (by omega), _, rfl, ?_⟩
    rw [decide_eq_true (show (0 : Int) ≤ z by omega), decide_eq_true (show (z : Int) ≤ 9999 by omega)]
    refine ifF rfl ⟨_, rfl, _, rfl, x, cRow K, dx, p2, _, 2, _, rfl, h1, T.row_c, s2, h3, t1, _, rfl, .inr h4.1, rfl, flat_nat ns, ?_⟩
    rw [inV_nat, decide_eq_true hz]
    exact ⟨_, rfl, ifF rfl ⟨_, rfl, x, cRow K, dx, p1, _, 1, _, rfl, h1, T.row_c, s1, h2, _, rfl, x, cRow K, dx, p2, _, 2, _, rfl, h1, T.row_c, s2, h3, ⟨_, _, rfl, h4⟩, _, rfl, t1, ns, z, j, rfl, rfl, h4.1, hj, lt, _, _, rfl, rfl, (show Q (.int ((f : Int) + (j : Int))) H from by rw [← Int.natCast_add]; exact q)⟩⟩
end
theorem fr_of {w : World} {K : PySem.W.Frag} {mg : Str → Option Value} {base : Heap} {x qual : Str} {st : Stmt} {f : Addr} {fd : FuncData} {ps : List Str} {sp : Sp} {k : Nat} (F : FunD K x qual (defArgs st) (defBody st) (defScope st) [] [] f fd) (o : FnOk Er.PRG w K mg base (L2.CX Er.PRG w) k f fd ps sp) (hb : ∀ (kV doc pm : Value) (an : Option Addr) (cdv ct : Value) (us : List Value), us.length = ps.length → bindArgs (PySem.W.fnOf x qual (defArgs st) (defBody st) (defScope st) .none kV doc pm an cdv ct) ⟨us, []⟩ = pure (ps.zip us)) : FnR Er.PRG w K mg base (L2.CX Er.PRG w) k f sp := by
  have h := o.raw (F.bindsN hb) .nil
  exact h.imp fun vs H Q E z => by rw [List.append_nil]; exact z
section
variable {w : World} {K : PySem.W.Frag} {mg : Str → Option Value} {base : Heap}
theorem fr_has (T : Ty K mg) : FnR Er.PRG w K mg base (L2.CX Er.PRG w) 3 (mRow K "__contains__") (spRowHas K) :=
  let ⟨_, fd, F⟩ := T.mt_contains
  fr_of F (ok_Row_contains T F) fun _ _ _ _ _ _ us hl => match us, hl with | [_, _], _ => rfl
theorem fr_number_of (T : Ty K mg) : FnR Er.PRG w K mg base (L2.CX Er.PRG w) 3 (mRow K "number_of") (spNumberOf K) :=
  let ⟨_, fd, F⟩ := T.mt_number_of
  fr_of F (ok_Row_number_of T F) fun _ _ _ _ _ _ us hl => match us, hl with | [_, _], _ => rfl
theorem ok_Row_index_of (T : Ty K mg) {fA : Addr} {fd : FuncData} (F : FunD K "index_of" "Row.index_of" (defArgs s_Row_index_of) (defBody s_Row_index_of) (defScope s_Row_index_of) [] [] fA fd) : FnOk Er.PRG w K mg base (L2.CX Er.PRG w) 4 fA fd ["self", "number"] (spIndexOf K) := by
  refine F.ok sc_Row_index_of (fun vs H Q E h => ?_) fun cdv A outer s H vs Q E hr h => ⟨_, PSs.nox (
      (pss_cons (ps_if (pt_cmpR (op_notInO T.mt_contains.1 (fr_has T) (hr.mono (by decide))) (pv 1) (pv 0) (by first | rfl | with_unfolding_all rfl)) (pss_one ps_never) pss_nil)
      (pss_one (ps_ret (pe_ix ix_tup (SlX.pe_sl (pv 0)) (pe_op op_sub (pv 1) (SlX.pe_sl (pv 0))) (fun _ _ => rfl)))))), ?_⟩
  · obtain ⟨_, _, _, _, _, rfl, _⟩ := h
    rfl
  · obtain ⟨x, f, ns, j, z, rfl, R, hj, q⟩ := h
    obtain ⟨⟨dx, vs, t1, t2, h1, h2, h3, h4, h5, h6⟩, lo, hi, ix⟩ := _root_.id R
    obtain ⟨p1, s1⟩ := T.row_1
    obtain ⟨p2, s2⟩ := T.row_2
    have hjl := (List.getElem?_eq_some_iff.mp hj).1
    have hx := ix.hi
    have e1 : inRow f ns (f + j) = true := by
      unfold inRow
      rw [decide_eq_true (show f ≤ f + j by omega), decide_eq_true (show f + j < f + ns.length by omega)]
      rfl
    refine ⟨_, rfl, _, rfl, x, dx, vs, rfl, h1, ⟨x, f, ns, f + j, rfl, R, by omega, _, rfl, ?_⟩⟩
    rw [e1]
    refine ⟨_, rfl, ifF rfl ⟨_, rfl, x, cRow K, dx, p2, _, 2, _, rfl, h1, T.row_c, s2, h3, _, rfl, _, rfl, x, cRow K, dx, p1, _, 1, _, rfl, h1, T.row_c, s1, h2, _, _, rfl, rfl, ?_⟩⟩
    exact ⟨t1, _, _, vN z, rfl, congrArg V.int (show ((f + j : Nat) : Int) - (f : Int) = (j : Int) by omega), h4.1, atI_nat (by rw [List.getElem?_map, hj]; rfl), q⟩
theorem fr_index_of (T : Ty K mg) : FnR Er.PRG w K mg base (L2.CX Er.PRG w) 4 (mRow K "index_of") (spIndexOf K) :=
  let ⟨_, fd, F⟩ := T.mt_index_of
  fr_of F (ok_Row_index_of T F) fun _ _ _ _ _ _ us hl => match us, hl with | [_, _], _ => rfl
end
section
variable {X : Cx} {e : Expr} {pos : Pos} {ta : TE}
theorem pe_prop {f : Str} {g : Addr} {sp : Sp} {n : Nat} (P : PropF X.K f g) (T : Ty X.K X.mg) (F : FnR X.prog X.w X.K X.mg X.base (L2.CX X.prog X.w) n g sp) (he : PE X e ta) (hr : Room (n + 1) X.A) (hb : attributeBase e f X.env (eval e X.env) = eval e X.env) : PE X (.Attribute e f pos) (SlX.tPropSl (cRow X.K) sp E0 ta) := by
  obtain ⟨p, rest, a1, a2, a3, a4⟩ := P.ex
  exact SlX.pe_propSl he T.row_c a1 a2 a3 ⟨rest, a4⟩ F hr cx_none hb
theorem pe_first {K : PySem.W.Frag} {mg : Str → Option Value} (T : Ty K mg) (he : PE X e ta) (hr : Room 2 X.A) (hK : X.K = K := by rfl) (hm : X.mg = mg := by rfl) (hp : X.prog = Er.PRG := by rfl) (hb : attributeBase e "first" X.env (eval e X.env) = eval e X.env := by rfl) : PE X (.Attribute e "first" pos) (SlX.tPropSl (cRow K) (spRowFirst K) E0 ta) := by
  subst hK hm
  obtain ⟨g, fd, P, F⟩ := T.pr_first
  refine pe_prop P T ?_ he hr hb
  rw [hp]
  exact fr_of F (ok_Row_first T F) fun _ _ _ _ _ _ us hl => match us, hl with | [_], _ => rfl
theorem pe_indices {K : PySem.W.Frag} {mg : Str → Option Value} (T : Ty K mg) (he : PE X e ta) (hr : Room 2 X.A) (hK : X.K = K := by rfl) (hm : X.mg = mg := by rfl) (hp : X.prog = Er.PRG := by rfl) (hb : attributeBase e "indices" X.env (eval e X.env) = eval e X.env := by rfl) : PE X (.Attribute e "indices" pos) (SlX.tPropSl (cRow K) (spRowIndices K) E0 ta) := by
  subst hK hm
  obtain ⟨g, fd, P, F⟩ := T.pr_indices
  refine pe_prop P T ?_ he hr hb
  rw [hp]
  exact fr_of F (ok_Row_indices T F) fun _ _ _ _ _ _ us hl => match us, hl with | [_], _ => rfl
theorem pe_numbers {K : PySem.W.Frag} {mg : Str → Option Value} (T : Ty K mg) (he : PE X e ta) (hr : Room 2 X.A) (hK : X.K = K := by rfl) (hm : X.mg = mg := by rfl) (hp : X.prog = Er.PRG := by rfl) (hb : attributeBase e "numbers" X.env (eval e X.env) = eval e X.env := by rfl) : PE X (.Attribute e "numbers" pos) (SlX.tPropSl (cRow K) (spRowNumbers K) E0 ta) := by
  subst hK hm
  obtain ⟨g, fd, P, F⟩ := T.pr_numbers
  refine pe_prop P T ?_ he hr hb
  rw [hp]
  exact fr_of F (ok_Row_numbers T F) fun _ _ _ _ _ _ us hl => match us, hl with | [_], _ => rfl
end
end K28

set_option Elab.async false
set_option linter.all false
set_option maxRecDepth 100000
set_option maxHeartbeats 4000000
/-! next(x for x in rows if test, None) : the generator's frame as a context of its own -/
namespace Gn
open PySem PySem.Spec PyProof.Rows L2
/-- the generator's scope: the walked thing at .0, its name x, one name y of the def -/
structure GenS (scope : Scope) (x y : Str) : Prop where
  kind : scope.kind = .function
  co : scope.isCoroutine = false
  cell : ∀ z ∈ scope.names, z.2 ≠ .cell
  dot : scope.names.lookup (".0" : Str) = some NameKind.local
  loc : scope.names.lookup x = some .local
  fr : scope.names.lookup y = some .free
  one : ∀ z ∈ scope.names, z.2 = .free → z.1 = y
/-- the generator's frame -/
abbrev env (X : Cx) (scope : Scope) (C : Addr) (code : Value) : Env := genEnv scope (cloFrom X.env.cells scope.names []) C code builtinsNs X.env
abbrev cx (X : Cx) (s : Shared) (H : Hp) (scope : Scope) (C : Addr) (code : Value) (fp : List Addr) (x y : Str) : Cx :=
  { X with A := X.A.in1.in1.deeper (env X scope C code), N := [x, y], s_0 := s, H_0 := H, env := env X scope C code, outer := X.stack, stack := env X scope C code :: X.stack, ex := fp, fn := fun _ => false, calm := true, pn := [], xe := fun _ _ => False }
section
variable {X : Cx} {pins : List (Addr × Obj)} {σ : L2.St} {H : Hp} {s : Shared} {scope : Scope} {x y : Str} {c0 : Addr}
theorem clo_one (S : GenS scope x y) (hc : X.env.cells.lookup y = some c0) {z : Str} {c : Addr} (h : (cloFrom X.env.cells scope.names []).lookup z = some c) : z = y ∧ c = c0 := by
  rcases cloFrom_mem (PySem.mem_of_lookup h) with q | ⟨q, rfl⟩
  · cases q
  · have e := S.one _ q rfl
    have e : z = y := e
    rw [e, hc]
    exact ⟨rfl, rfl⟩
theorem clo_has (S : GenS scope x y) (hc : X.env.cells.lookup y = some c0) : (cloFrom X.env.cells scope.names []).lookup y = some c0 := by
  obtain ⟨c, h⟩ := mem_lookup (cloFrom_has (cells := X.env.cells) (acc := []) (PySem.mem_of_lookup S.fr))
  rw [h, (clo_one S hc h).2]
theorem start {v : V} {j : Nat} {fp : List Addr} {C : Addr} {code : Value} {h' : Heap} {m : Str → Option Value} {g' : Array GenState} {t' : Nat} (I : Inv X pins σ H s) (S : GenS scope x y) (hh : X.A.handled = none) (hxy : x ≠ y) (hj : X.N[j]? = some y) (hv : σ[j]? = some (some v)) (hcl : X.env.scope.names.lookup y = some .cell)
    (hfp : ∀ b ∈ fp, FpOk X pins H b ∧ b < s.heap.objs.size) (hC : C = s.heap.objs.size) (hn : h'.Ns C m) (hk : ∀ b o, s.heap.get? b = some o → h'.get? b = some o) (hg : AllBare g') :
    Inv (cx X s H scope C code fp x y) [] [none, some v] H { s with heap := h', gens := g', toks := t' } := by
  obtain ⟨u, ru, c0, hc0, hcu⟩ : ∃ u, RelV v u ∧ ∃ c, X.env.cells.lookup y = some c ∧ s.heap.IsCell c (some u) := by
    obtain ⟨mx, hnx, hl⟩ := I.loc
    obtain ⟨u, ru, lk⟩ := hl j y v hj hv (.inr (.inl hcl))
    rcases lk with ⟨k, _⟩ | ⟨_, c, h1, h2⟩
    · have k : X.env.scope.names.lookup y = some .local := k
      rw [hcl] at k
      cases k
    · exact ⟨u, ru, c, h1, h2⟩
  have hcs : c0 < s.heap.objs.size := hcu.lt
  have okB : (cx X s H scope C code fp x y).Ok := by
    refine ⟨I.ok.mod, S.kind, I.ok.glob, rfl, by show s.heap.objs.size ≤ C; rw [hC]; exact Nat.le_refl _, fun z1 z2 c e1 e2 => ?_, fun z hz => ?_, fun z c e => (nomatch e), fun _ => hh, ?_, .inr ⟨rfl, rfl⟩, fun b hb => ⟨?_, fun z c e q => ?_⟩, I.bs, Nat.le_trans I.ok.bsz I.sz, fun b o e hb => ?_, fun b hb q => ?_, I.stack, I.stkFree⟩
    · exact (clo_one S hc0 e1).1.trans (clo_one S hc0 e2).1.symm
    · have e : z = y := by
        rcases hz with hz | hz
        · exact absurd rfl (S.cell _ (PySem.mem_of_lookup hz))
        · exact S.one _ (PySem.mem_of_lookup hz) rfl
      rw [e]
      exact ⟨c0, clo_has S hc0⟩
    · show X.A.frames.map _ = _
      rw [I.ok.frames]
      rfl
    · show b ≠ C
      rw [hC]
      exact Nat.ne_of_lt (hfp b hb).2
    · obtain ⟨_, e2⟩ := clo_one S hc0 e
      rw [e2] at q
      exact (hfp b hb).1.2.2.2.2.1 y c0 hc0 q
    · rcases (hfp b hb).1.2.2.2.1 with z | z
      · exact I.ok.noex b o e z
      · exact absurd (Nat.lt_of_lt_of_le (Heap.lt_size e) (Nat.le_trans I.ok.bsz z)) (Nat.lt_irrefl _)
    · rcases List.mem_cons.mp (I.stkSub b q) with z | z
      · exact (hfp b hb).1.2.1 z
      · exact (hfp b hb).1.2.2.1 z
  refine ⟨okB, rfl, hg, Un.kept hk, ⟨m, hn, fun i z av e1 e2 e3 => ?_⟩, fun z c e => ?_, ?_, fun z c e => ?_, fun p hp => ?_, I.hok.kept hk, rfl⟩
  · match i, e1, e2 with
    | 0, _, e2 => exact absurd e2 (by simp)
    | 1, e1, e2 =>
      have e1 : y = z := Option.some.inj e1
      have e2 : v = av := Option.some.inj (Option.some.inj e2)
      subst e1 e2
      refine ⟨u, ru, .inr ⟨.inr S.fr, c0, clo_has S hc0, ?_⟩⟩
      obtain ⟨o, ho, hd⟩ := hcu
      exact ⟨o, hk _ _ ho, hd⟩
    | i + 2, e1, _ => exact absurd e1 (by simp)
  · obtain ⟨e1, e2⟩ := clo_one S hc0 e
    obtain ⟨o, ho, hd⟩ := hcu
    rw [e2]
    exact ⟨_, o, hk _ _ ho, hd⟩
  · show H C = none
    rw [hC]
    exact I.hok.fresh (Nat.le_refl _)
  · obtain ⟨e1, e2⟩ := clo_one S hc0 e
    rw [e2]
    exact I.freeC y c0 hc0
  · exact absurd (show p ∈ ([] : List (Addr × Obj)) ++ [] from hp) (by simp)
end
end Gn

set_option Elab.async false
set_option linter.all false
set_option maxRecDepth 100000
set_option maxHeartbeats 4000000
namespace Gn
open PySem PySem.Spec PyProof.Rows L2
/-- the generator's wake ends: nothing passed -/
def P0 (X' : Cx) (v : V) (H : Hp) (n : Nat) (bs : List Bool) : Nat → Shared → Shared → Prop := fun _ _ s1 => (∃ w, Inv X' [] [w, some v] H s1) ∧ ∀ j, j < n → bs[j]? = some false
/-- .. it yields the first that passes -/
def Y0 (X' : Cx) (v : V) (H : Hp) (xs : List V) (bs : List Bool) : Protocol := fun _ _ u s1 _ => ∃ (pn : List (Addr × Obj)) (w : Option V) (i : Nat) (z : V), Inv X' pn [w, some v] H s1 ∧ xs[i]? = some z ∧ RelV z u ∧ bs[i]? = some true ∧ ∀ j, j < i → bs[j]? = some false
section
variable {X : Cx} {s4 : Shared} {H : Hp} {scope : Scope} {C : Addr} {code : Value} {fp : List Addr} {x y : Str}
theorem over_gen {elt : Expr} {gs : List Comprehension} {sc : Scope} {gp : Pos} {it : Value} {A : Around} {ce : Env} : A.over (.compLoop (.GeneratorExp elt gs sc gp) 0 it .none ce) [] = A.deeper ce := by
  obtain ⟨hd, d, fr, gs, u⟩ := A
  cases fr <;> cases gs <;> rfl
theorem over_gen0 {elt : Expr} {gs : List Comprehension} {sc : Scope} {gp : Pos} {it : Value} {A : Around} {ce : Env} : A.over (.compStart (.GeneratorExp elt gs sc gp) 0 it .none ce) [] = A.deeper ce := by
  obtain ⟨hd, d, fr, gs, u⟩ := A
  cases fr <;> cases gs <;> rfl
theorem loop {elt iter : Expr} {ifs : List Expr} {px pe : Pos} {gpos : Pos} {tt : TT} {v : V} {xs : List V} {bs : List Bool} {a it : Addr} {tn : Nat → Heap → Prop} (S : GenS scope x y) (hxy : x ≠ y) (hh : X.A.handled = none)
    (T : Turn X.prog X.w X.K (.Name x px) (Itt X.K a) fp it tn) (ht : PTs (cx X s4 H scope C code fp x y) ifs tt) (hx2 : (x == ("__debug__" : Str)) = false) (hx3 : (x == ("__classdict__" : Str)) = false)
    (hS : SqT X.K H a xs) (fpn : ∀ b ∈ fp, H b = none) (hb : ∀ (i : Nat) (z : V), xs[i]? = some z → tt [some z, some v] H fun b H3 => H3 = H ∧ bs[i]? = some b) :
    ∀ (k i : Nat) (s₀ s : Shared) (w : Option V), xs.length - i = k → i ≤ xs.length → Inv (cx X s4 H scope C code fp x y) [] [w, some v] H s → tn i s.heap → (∀ j, j < i → bs[j]? = some false) →
      Seg (model X.prog X.w) X.A.in1.in1 (fun n s₀ r s₁ => r = .ok .next ∧ P0 (cx X s4 H scope C code fp x y) v H xs.length bs n s₀ s₁) (Y0 (cx X s4 H scope C code fp x y) v H xs bs) 1 s₀
        (.compLoop (.GeneratorExp (.Name x pe) [⟨.Name x px, iter, ifs, 0⟩] scope gpos) 0 (.ref it) .none (env X scope C code))
        ((model X.prog X.w).den (.compLoop (.GeneratorExp (.Name x pe) [⟨.Name x px, iter, ifs, 0⟩] scope gpos) 0 (.ref it) .none (env X scope C code))) [] s := by
  have hN : (cx X s4 H scope C code fp x y).N.Nodup := by
    show [x, y].Nodup
    simp [hxy]
  have stat : ∀ {σ' : L2.St} {s' : Shared}, Inv (cx X s4 H scope C code fp x y) [] σ' H s' → (∀ b ∈ fp, H b = none) → ∀ b ∈ fp, FpOk (cx X s4 H scope C code fp x y) [] H b := fun {σ' s'} I' hn b hb =>
    ⟨hn b hb, (I'.ok.exf b hb).1, I'.ok.exfs b hb, .inl hb, fun x c e => (I'.ok.exf b hb).2 x c e, fun p hp => absurd (show p ∈ ([] : List (Addr × Obj)) ++ [] from hp) (by simp)⟩
  intro k
  induction k with
  | zero =>
    intro i s₀ s w hk hi I st hp
    have e : i = xs.length := by omega
    subst e
    show Seg _ X.A.in1.in1 _ _ 1 s₀ _ ((compTurn (.GeneratorExp (.Name x pe) [⟨.Name x px, iter, ifs, 0⟩] scope gpos) 0 (.ref it) .none (env X scope C code)).onRaise (leaving (env X scope C code))) [] s
    rw [compTurn_gen, Sem.onRaise_eq_wrap]
    refine seg_bind_wrap (wpAny_standAt ?_)
    have td := T.done (cx X s4 H scope C code fp x y) rfl rfl rfl rfl xs.length [] s _ H (fun _ _ => False) I (stat I fpn) st ⟨xs, hS, Nat.le_refl _⟩
    refine seg_bind_wrap ?_
    rw [over_gen]
    refine thnF td fun r s6 ⟨hr, I6⟩ => ?_
    subst hr
    exact seg_end (.ok .next) ⟨rfl, ⟨w, I6⟩, hp⟩
  | succ k ih =>
    intro i s₀ s w hk hi I st hp
    have hlt : i < xs.length := by omega
    have hz : xs[i]? = some xs[i] := List.getElem?_eq_getElem hlt
    show Seg _ X.A.in1.in1 _ _ 1 s₀ _ ((compTurn (.GeneratorExp (.Name x pe) [⟨.Name x px, iter, ifs, 0⟩] scope gpos) 0 (.ref it) .none (env X scope C code)).onRaise (leaving (env X scope C code))) [] s
    rw [compTurn_gen, Sem.onRaise_eq_wrap]
    refine seg_bind_wrap (wpAny_standAt ?_)
    have ti := T.item (cx X s4 H scope C code fp x y) rfl rfl rfl rfl i [] s _ H (fun _ _ => False) I (stat I fpn) st ⟨xs, _, hS, hz⟩
    refine seg_bind_wrap ?_
    rw [over_gen]
    refine thnF ti fun r s6 ⟨u, hr, h6⟩ => ?_
    subst hr
    refine seg_bind_wrap ?_
    rw [over_gen]
    refine thnF h6 fun _ s7 ⟨z, H7, I7, r7, ⟨hH, y7⟩, st7, n7⟩ => ?_
    subst hH
    have ez : xs[i] = z := by
      have := y7 xs hS
      rw [hz] at this
      exact Option.some.inj this
    rw [ez] at hz
    have I7' := I7.pinned (stat I7 n7) (T.obj _ _ st7)
    refine seg_bind_wrap ?_
    rw [over_gen]
    have pg := (pg_name (X := cx X s4 H7 scope C code fp x y) (i := 0) (x := x) (pos := px) hN rfl (.inl S.loc) (.inr S.loc)).run _ s7 _ H7 z u (fun σ' H' => σ' = [some z, some v] ∧ H' = H7) I7' r7 ⟨rfl, rfl⟩
    refine thnF pg fun _ s8 ⟨σ8, H8, I8, e8, e8'⟩ => ?_
    subst e8 e8'
    refine seg_bind_wrap ?_
    rw [over_gen]
    refine thnF (ht.run _ s8 _ H8 _ I8 (hb i z hz)) fun b s9 ⟨H9, I9, e9, hbi⟩ => ?_
    subst e9
    have pin' : ∀ b ∈ fp, ∀ o, s7.heap.get? b = some o → s9.heap.get? b = some o := fun b hb o e => (I9.pin (b, o) (List.mem_append_right _ (List.mem_append_right _ (mem_pinsAt hb e)))).1
    cases b with
    | false =>
      simp only [Bool.false_eq_true, if_false]
      exact seg_again rfl (ih (i + 1) s₀ s9 _ (by omega) hlt (I9.unpinned (pins := [])) (T.keep _ _ _ st7 pin') fun j hj => by
        by_cases q : j < i
        · exact hp j q
        · rw [show j = i by omega]
          exact hbi)
    | true =>
      simp only [if_true]
      have hy : ∀ v, yieldOut (env X scope C code) v = yieldValue v := fun v => by simp only [yieldOut]; rw [show (env X scope C code).scope.isCoroutine = false from S.co]; rfl
      simp only [hy]
      rw [Sem.bind_eq_wrap', Sem.bind_eq_wrap', Sem.wrap_wrap, Sem.wrap_wrap]
      refine seg_wrap ?_
      rw [over_gen]
      refine thnF ((pe_var (X := cx X s4 H9 scope C code fp x y) (i := 0) (x := x) (pos := pe) rfl (.inl S.loc) hx2 hx3).run _ s9 _ H9 (fun y H' => y = z ∧ H' = H9) I9 ⟨z, rfl, rfl, rfl⟩) fun q s10 ⟨yv, H10, I10, r10, e10, e10'⟩ => ?_
      subst e10 e10'
      exact seg_at (seg_yield rfl rfl rfl ⟨_, _, i, _, I10, hz, r10, hbi, hp⟩)
end
end Gn

set_option Elab.async false
set_option linter.all false
set_option maxRecDepth 100000
set_option maxHeartbeats 4000000
namespace Gn
open PySem PySem.Spec PyProof.Rows L2
section
variable {X : Cx} {s4 : Shared} {H : Hp} {scope : Scope} {C : Addr} {code : Value} {fp : List Addr} {x y : Str}
theorem begin_ {elt iter : Expr} {ifs : List Expr} {px pe : Pos} {gpos : Pos} {tt : TT} {v : V} {xs : List V} {bs : List Bool} {a it : Addr} {tn : Nat → Heap → Prop} (S : GenS scope x y) (hxy : x ≠ y) (hh : X.A.handled = none)
    (T : Turn X.prog X.w X.K (.Name x px) (Itt X.K a) fp it tn) (ht : PTs (cx X s4 H scope C code fp x y) ifs tt) (hx2 : (x == ("__debug__" : Str)) = false) (hx3 : (x == ("__classdict__" : Str)) = false)
    (hS : SqT X.K H a xs) (fpn : ∀ b ∈ fp, H b = none) (hb : ∀ (i : Nat) (z : V), xs[i]? = some z → tt [some z, some v] H fun b H3 => H3 = H ∧ bs[i]? = some b)
    (s₀ s : Shared) (w : Option V) (I : Inv (cx X s4 H scope C code fp x y) [] [w, some v] H s) (st : tn 0 s.heap) :
      Seg (model X.prog X.w) X.A.in1.in1 (fun n s₀ r s₁ => r = .ok .next ∧ P0 (cx X s4 H scope C code fp x y) v H xs.length bs n s₀ s₁) (Y0 (cx X s4 H scope C code fp x y) v H xs bs) 1 s₀
        (.compStart (.GeneratorExp (.Name x pe) [⟨.Name x px, iter, ifs, 0⟩] scope gpos) 0 (.ref it) .none (env X scope C code))
        ((model X.prog X.w).den (.compStart (.GeneratorExp (.Name x pe) [⟨.Name x px, iter, ifs, 0⟩] scope gpos) 0 (.ref it) .none (env X scope C code))) [] s := by
  have l := loop (elt := .Name x pe) (iter := iter) (px := px) (pe := pe) (gpos := gpos) (C := C) (code := code) (s4 := s4) S hxy hh T ht hx2 hx3 hS fpn hb xs.length 0 s₀ s w (Nat.sub_zero _) (Nat.zero_le _) I st (fun j hj => absurd hj (Nat.not_lt_zero j))
  show Seg _ X.A.in1.in1 _ _ 1 s₀ _ ((compStart (.GeneratorExp (.Name x pe) [⟨.Name x px, iter, ifs, 0⟩] scope gpos) 0 (.ref it) .none (env X scope C code)).onRaise (leaving (env X scope C code))) [] s
  unfold compStart
  rw [Sem.onRaise_eq_wrap]
  show Seg _ X.A.in1.in1 _ _ 1 s₀ _ ((ask >>= _).wrap _ _ _ _) [] s
  refine seg_bind_wrap (wpAny_askSetting ?_)
  split
  · exact seg_again rfl l
  · first
      | exact seg_bind_wrap (wpAny_rule (seg_bind_wrap (wpAny_standAt (seg_bind_wrap (T.self _ 0 s _ _ st (seg_again rfl l))))))
      | (refine seg_bind_wrap (wpAny_rule ?_); show Seg _ X.A.in1.in1 _ _ 1 s₀ _ ((standAt iter.pos >>= _).wrap _ _ _ _) [] s; exact seg_bind_wrap (wpAny_standAt (seg_bind_wrap (T.self _ 0 s _ _ st (seg_again rfl l)))))
/-- next(g, z), g a generator expression that has just been made -/
theorem call_next {g : Nat} {a : Addr} {z : Value} {gs : GenState} {P : Nat → Shared → Shared → Prop} {Y : Protocol} {Q : Value → Shared → Prop} {E : Value → Shared → Prop} {s : Shared} {A : Around} {M : Program} {w : World} (hh : A.handled = none)
    (hl : s.heap.NoLimit) (hroom : A.depth < recursionLimit) (hg : s.heap.IsGen a g) (hgs : s.gens[g]? = some gs)
    (hgo : gs.Goes (model M w) A.in1.in1 (fun n s₀ r s₁ => r = .ok .next ∧ P n s₀ s₁) Y 1 (.send .none) (s.setGen g .running))
    (hY : ∀ u s₁ gs' kap, gs'.bare = true → Y 0 (s.setGen g .running) u s₁ kap → Q u (s₁.setGen g gs'))
    (hP : ∀ s₁, P 1 (s.setGen g .running) s₁ → ∀ h', (∀ b o, s₁.heap.get? b = some o → h'.get? b = some o) → Q z { s₁.setGen g .finished with heap := h' }) :
    wpAny (model M w) A (call (.builtin "next") [.ref a, z]) Q E s := by
  refine Calls.call_function_entry (by decide +kernel) (by decide +kernel) PySem.W.kdk_entry_next (PySem.W.kdk_args_next2 _ _) ?_
  unfold Builtin.«next»
  refine wpAny_bind (m := someArgs "next" 1 2 _) (wpAny_of_eq (a := [Value.ref a, z]) (by first | rfl | kernel_rfl!) ?_)
  dsimp only
  refine wpAny_bind (wpAny_specialOf (name := Str.ofString "__next__") hg.typeIs slot_gen_next.lookup ?_)
  refine wpAny_ite_split (fun hab => absurd hab (by decide)) (fun _ => ?_)
  refine wpAny_bind (wpAny_pyNext_genexpQ (A := A.in1) (P := P) (Y := Y) (n := 1) hh hl hroom hg hgs hgo (fun v s₁ gs' hb hv => ?_) fun s₁ hp h' hk => ?_)
  · exact wpAny_pure ⟨_, rfl, hY _ _ _ _ hb hv⟩
  · exact wpAny_pure ⟨_, rfl, hP s₁ hp h' hk⟩
end
end Gn

set_option Elab.async false
set_option linter.all false
set_option maxRecDepth 100000
set_option maxHeartbeats 4000000
namespace Gn
open PySem PySem.Spec PyProof.Rows L2
/-- the first of the rows that passes, or None; behind it the def's table may have grown -/
def tNext (K : PySem.W.Frag) (P : Addr) (j : Nat) (tt : TT) (ta : TE) : TE := fun σ H Q => iTup K ta σ H fun J H1 => ∃ (a : Addr) (xs : List V) (bs : List Bool) (v : V), J = Itt K a ∧ SqT K H1 a xs ∧ σ[j]? = some (some v) ∧ GxR.TabG H1 P ∧ ∀ H2, GxR.Tabbed P H1 H2 →
  (∀ (i : Nat) (z : V), xs[i]? = some z → tt [some z, some v] H2 fun b H3 => H3 = H2 ∧ bs[i]? = some b) ∧
  (∀ (i : Nat) (z : V), xs[i]? = some z → bs[i]? = some true → (∀ j, j < i → bs[j]? = some false) → Q z H2) ∧ ((∀ j, j < xs.length → bs[j]? = some false) → Q .non H2)
theorem bare_set {s : Shared} {g : Nat} {x : GenState} (h : AllBare s.gens) (hx : x.bare = true) : AllBare (s.setGen g x).gens := by
  intro y hy
  obtain ⟨i, hi, e⟩ := Array.mem_iff_getElem.mp hy
  have hi2 : i < (s.gens.setIfInBounds g x).size := hi
  have e : (s.gens.setIfInBounds g x)[i] = y := e
  rw [Array.getElem_setIfInBounds (by simpa using hi2)] at e
  by_cases q : g = i
  · rw [if_pos q] at e
    rw [← e]
    exact hx
  · rw [if_neg q] at e
    rw [← e]
    exact h _ (Array.getElem_mem _)
section
variable {X : Cx} {c P : Addr} {iter : Expr} {ifs : List Expr} {x y : Str} {px pe p pos gpos pc : Pos} {scope : Scope} {ta : TE} {tt : TT} {j k : Nat}
theorem next_core (hr : Room (k + 1) X.A) (hg : Gl X "next") (hm : X.mg "next" = none) (TB : GxR.TabB X.base X.mg c P) (hcode : X.env.code = .ref c) (S : GenS scope x y) (hxy : x ≠ y) (hi : PE X iter ta) (hj : X.N[j]? = some y) (hcl : X.env.scope.names.lookup y = some .cell)
    (ht : ∀ (s : Shared) (H : Hp) (C : Addr) (code : Value) (fp : List Addr), PTs (cx X s H scope C code fp x y) ifs tt) (hs : ∀ v, genFold iter X.env v = pure v) (hx2 : (x == ("__debug__" : Str)) = false) (hx3 : (x == ("__classdict__" : Str)) = false):
    ∀ s pins (σ : L2.St) H (Q : VK), Inv X pins σ H s → tNext X.K P j tt ta σ H Q →
      wpAny (model X.prog X.w) X.A (eval (.GeneratorExp (.Name x pe) [⟨.Name x px, iter, ifs, 0⟩] scope gpos) X.env) (fun gv s5 => wpAny (model X.prog X.w) X.A (call (.builtin "next") [gv, .none]) (EP X pins σ Q) X.xe s5) X.xe s := by
  intro s pins σ H Q I h
  have hf : ∀ z ∈ scope.names, z.2 = .free → ∃ c, X.env.cells.lookup z.1 = some c := fun z hz hz2 => by
    rw [S.one z hz hz2]
    exact I.ok.has y (.inl hcl)
  refine wpAny_GeneratorExp_make S.co (closure_ok hf) S.cell S.dot S.kind hr.depth ?_ hs
  refine thn ((pi_tup (tg := .Name x px) hi).run pins s σ H _ I h) fun xv s1 h1 => thn h1 fun itv s2 h2 => ?_
  obtain ⟨it, fp, tn, J, H1, rfl, I1, T, st, hfp, a, xs, bs, v, rfl, hS, hv, ⟨ps, hP, htr⟩, q⟩ := h2
  have hPs : s2.heap.get? P = some { cls := .none, data := .fields ps } := I1.hok P _ hP
  have cd : PySem.W.CodeHd s2.heap c P := TB.code.keeps fun b u e => I1.bk b u e
  have fpP : ∀ b ∈ fp, b ≠ P := fun b hb z => by
    have e := (hfp b hb).1
    rw [z, hP] at e
    cases e
  have fpl : ∀ b ∈ fp, b < s2.heap.objs.size := fun b hb => let ⟨o, e, _⟩ := T.obj 0 _ st b hb; Heap.lt_size e
  refine ⟨I1.nolimit, ?_⟩
  have cont : ∀ (code : Value) (h3 : Heap) (tk : Nat) (ps' : Array Value), Heap.ExtBut P s2.heap h3 → h3.get? P = some { cls := .none, data := .fields ps' } → (∃ more, ps' = ps ++ more) → TriplesOk ps'.toList →
      wpAny (model X.prog X.w) X.A (builtinsFor X.env.globals X.env.builtins) (fun bi s₄ => ∀ h', h'.Ns s₄.heap.objs.size (fun y => if y = ".0" then some (.ref it) else none) → Heap.SameBut s₄.heap.objs.size (s₄.heap.push { cls := .type "frame", data := .dict #[] }) h' →
        wpAny (model X.prog X.w) X.A (call (.builtin "next") [.ref h'.objs.size, .none]) (EP X pins σ Q) X.xe { s₄ with
          gens := s₄.gens.push (.fresh (.compStart (.GeneratorExp (.Name x pe) [⟨.Name x px, iter, ifs, 0⟩] scope gpos) 0 (.ref it) .none (genEnv scope (cloFrom X.env.cells scope.names []) s₄.heap.objs.size code bi X.env))),
          toks := s₄.toks + 1 + 1 + 1,
          heap := h'.push { cls := .type "generator", data := .fields #[.int s₄.gens.size 0, .str "<genexpr>" (s₄.toks + 1), .str (X.env.qual ++ "<genexpr>") (s₄.toks + 1 + 1)] } }) X.xe { s2 with heap := h3, toks := tk } := by
    intro code h3 tk ps' hx hP3 ⟨more, em⟩ ht3
    obtain ⟨bm, ob, e1, e2, e3, e4, e5, e6, e7, e8⟩ := TB.bm
    have keep3 : ∀ b u, b ≠ P → s2.heap.get? b = some u → h3.get? b = some u := fun b u hb e => hx b u hb e
    refine wpAny_builtinsFor (m := X.mg) (by rw [I1.ok.glob]; exact (I1.mod.glob.keeps I1.bk).extBut hx TB.gP) e1 e2 (keep3 _ _ e4 (I1.bk _ _ e5)) e6 e7 e8 ?_
    intro h' hn' hs'
    have I4 : Inv X pins σ (upd H1 P (.tbl (ps ++ more))) { s2 with heap := h3, toks := tk } := GxR.inv_tab (more := more) (h' := h3) (g' := s2.gens) (d' := s2.drawn) (t' := tk) I1 hP keep3 (by rw [← em]; exact hP3) I1.bare
    have tb2 : GxR.Tabbed P H1 (upd H1 P (.tbl (ps ++ more))) := ⟨⟨ps ++ more, upd_same, by rw [← em]; exact ht3⟩, fun b hb => upd_ne hb⟩
    obtain ⟨q1, q2, q3⟩ := q _ tb2
    generalize hH2 : upd H1 P (.tbl (ps ++ more)) = H2 at I4 tb2 q1 q2 q3
    have hS2 : SqT X.K H2 a xs := by
      have ne : ∀ u, H1 a = some u → (∀ z, u ≠ .tbl z) → a ≠ P := fun u e n z => by
        rw [z, hP] at e
        exact n ps (Option.some.inj e).symm
      rcases hS with (hS | ⟨o, hS⟩) | hS
      · exact .inl (.inl (by rw [tb2.2 a (ne _ hS fun _ z => (nomatch z))]; exact hS))
      · exact .inl (.inr ⟨o, by rw [tb2.2 a (ne _ hS fun _ z => (nomatch z))]; exact hS⟩)
      · exact .inr hS
    have fp4 : ∀ b ∈ fp, FpOk X pins H2 b ∧ b < h3.objs.size := fun b hb => by
      obtain ⟨g0, g1, g2, g3, g4, g5⟩ := hfp b hb
      obtain ⟨o, e, _⟩ := T.obj 0 _ st b hb
      exact ⟨⟨by rw [tb2.2 b (fpP b hb)]; exact g0, g1, g2, g3, g4, g5⟩, Heap.lt_size (keep3 b o (fpP b hb) e)⟩
    have st3 : tn 0 h3 := T.keep _ _ _ st fun b hb o e => keep3 b o (fpP b hb) e
    have szh : h'.objs.size = h3.objs.size + 1 := by rw [hs'.1, Heap.size_push]
    have keepA : ∀ b o, h3.get? b = some o → h'.get? b = some o := fun b o e => hs'.extBut b o (Nat.ne_of_lt (Heap.lt_size e)) (Heap.get?_push_of_some _ e)
    generalize hgo : ({ cls := .type "generator", data := .fields #[.int s2.gens.size 0, .str "<genexpr>" (tk + 1), .str (X.env.qual ++ "<genexpr>") (tk + 1 + 1)] } : Obj) = gobj
    have keepB : ∀ b o, h3.get? b = some o → (h'.push gobj).get? b = some o := fun b o e => Heap.get?_push_of_some _ (keepA b o e)
    have hbare : AllBare ({ s2 with heap := h'.push gobj, toks := tk + 1 + 1 + 1, gens := s2.gens.push (.fresh (.compStart (.GeneratorExp (.Name x pe) [⟨.Name x px, iter, ifs, 0⟩] scope gpos) 0 (.ref it) .none (genEnv scope (cloFrom X.env.cells scope.names []) h3.objs.size code builtinsNs X.env))) } : Shared).gens := I1.bare.push rfl
    have I5 : Inv (cx X { s2 with heap := h3, toks := tk } H2 scope h3.objs.size code fp x y) [] [none, some v] H2 _ := start (code := code) (g' := (({ s2 with heap := h'.push gobj, toks := tk + 1 + 1 + 1, gens := s2.gens.push (.fresh (.compStart (.GeneratorExp (.Name x pe) [⟨.Name x px, iter, ifs, 0⟩] scope gpos) 0 (.ref it) .none (genEnv scope (cloFrom X.env.cells scope.names []) h3.objs.size code builtinsNs X.env))) } : Shared).setGen s2.gens.size .running).gens) (t' := tk + 1 + 1 + 1) I4 S hr.hd hxy hj hv hcl fp4 rfl (hn'.push gobj) keepB (bare_set hbare rfl)
    have hfpn : ∀ b ∈ fp, H2 b = none := fun b hb => (fp4 b hb).1.1
    have back : ∀ {pn : List (Addr × Obj)} {σ' : L2.St} {s' s'' : Shared}, Inv (cx X { s2 with heap := h3, toks := tk } H2 scope h3.objs.size code fp x y) pn σ' H2 s' → s''.os = s'.os → s''.heap = s'.heap → AllBare s''.gens → Inv X pins σ H2 s'' := fun {pn σ' s' s''} J ho hh hg =>
      I4.call' (ch := fp) (ho.trans J.os) (by rw [hh]; exact J.base) (by rw [hh]; exact J.hok) hg fun b hb => ⟨(fp4 b hb).1.2.2.2.1, (fp4 b hb).1.2.1, (fp4 b hb).1.2.2.2.2.1, (fp4 b hb).1.2.2.2.2.2⟩
    refine call_next (g := s2.gens.size) (P := P0 (cx X { s2 with heap := h3, toks := tk } H2 scope h3.objs.size code fp x y) v H2 xs.length bs) (Y := Y0 (cx X { s2 with heap := h3, toks := tk } H2 scope h3.objs.size code fp x y) v H2 xs bs) hr.hd ((I4.nolimit).keeps keepB) hr.depth ⟨_, _, _, Heap.get?_push_size _ (by rw [← hgo]; rfl), by rw [← hgo], by rw [← hgo], by rw [← hgo]⟩ (Array.getElem?_push_size ..) ⟨rfl, ?_⟩ (fun u s₁ gs' kap hb hy => ?_) fun s₁ hp h'' hk => ?_
    · exact begin_ (elt := .Name x pe) S hxy hr.hd T (ht _ _ _ _ _) hx2 hx3 hS2 hfpn q1 _ _ _ I5 (T.keep _ _ _ st3 fun b _ o e => keepB b o e)
    · obtain ⟨pn, w, i, z, J, hz, rz, hbi, hlt⟩ := hy
      exact ⟨z, H2, back J rfl rfl (bare_set J.bare hb), rz, q2 i z hz hbi hlt⟩
    · obtain ⟨⟨w, J⟩, hall⟩ := hp
      exact ⟨.non, H2, back (J.kept (t' := s₁.toks) hk) rfl rfl (bare_set J.bare rfl), rfl, q3 hall⟩
  cases hf2 : codeAmong gpos ps.toList with
  | none =>
    refine wpAny_genexprCodeX hcode (cd.code hPs htr) (cd.tab hPs) hf2 fun c' h' tk hx hge hlt hco' _ htab' _ => ?_
    obtain ⟨o1, vs, f1, tf, fl, tg, inF, tx, tt2, op, _, _, _, _, _, _, _, _, _, htr2, _⟩ := hco'
    exact cont _ h' tk _ hx htab'.2 ⟨_, rfl⟩ htr2
  | some cv =>
    refine wpAny_genexprCode_hit hcode (cd.code hPs htr) hf2 ?_
    exact cont cv s2.heap s2.toks ps (Heap.ExtBut.refl _ _) hPs ⟨#[], by simp⟩ htr
theorem pe_next {kc : Nat} (hr : Room (k + 1) X.A) (hg : Gl X "next") (hm : X.mg "next" = none) (TB : GxR.TabB X.base X.mg c P) (hcode : X.env.code = .ref c) (S : GenS scope x y) (hxy : x ≠ y) (hi : PE X iter ta) (hj : X.N[j]? = some y) (hcl : X.env.scope.names.lookup y = some .cell)
    (ht : ∀ (s : Shared) (H : Hp) (C : Addr) (code : Value) (fp : List Addr), PTs (cx X s H scope C code fp x y) ifs tt)
    (hs : ∀ v, genFold iter X.env v = pure v := by intro _; rfl) (hx2 : (x == ("__debug__" : Str)) = false := by decide) (hx3 : (x == ("__classdict__" : Str)) = false := by decide) (hb : bootBuiltins "next" = some (.builtin "next") := by decide +kernel)
    (he : starEach [.GeneratorExp (.Name x pe) [⟨.Name x px, iter, ifs, 0⟩] scope gpos, .Constant .none kc pc] X.env = (false, eval (.GeneratorExp (.Name x pe) [⟨.Name x px, iter, ifs, 0⟩] scope gpos) X.env) :: starEach [.Constant .none kc pc] X.env := by rfl)
    (he2 : starEach [.Constant .none kc pc] X.env = [(false, eval (.Constant .none kc pc) X.env)] := by rfl) :
    PE X (.Call (.Name "next" p) [.GeneratorExp (.Name x pe) [⟨.Name x px, iter, ifs, 0⟩] scope gpos, .Constant .none kc pc] [] pos) (tNext X.K P j tt ta) := by
  refine ⟨fun pins s σ H Q I h => ?_⟩
  refine wpAny_Call_Name_kw (ld_blt I hg hm hb ?_)
  refine PyProof.Rows.callWith_builtin1 ?_ he (by rw [he2]; rfl)
  rw [he, he2]
  show wpAny _ _ (spliced ((false, eval (.GeneratorExp (.Name x pe) [⟨.Name x px, iter, ifs, 0⟩] scope gpos) X.env) :: [(false, eval (.Constant .none kc pc) X.env)])) _ _ s
  refine Calls.spliced_cons (wpAny_mono (next_core hr hg hm TB hcode S hxy hi hj hcl ht hs hx2 hx3 s pins σ H Q I h) (fun gv s5 hq => ?_) fun _ _ e => e)
  exact Calls.spliced_cons (wpAny_of_eq (a := Value.none) rfl (Calls.spliced_nil hq))
end
end Gn

set_option Elab.async false
set_option linter.all false
set_option maxRecDepth 100000
set_option maxHeartbeats 4000000
namespace K28
open PySem PySem.Spec PyProof.Rows L2
/-! ## the rows of a house -/
abbrev Rw := Nat × List Nat
/-- a tuple of rows -/
structure RowsT (K : PySem.W.Frag) (H : Hp) (a : Addr) (rs : List Rw) : Prop where
  ex : ∃ ps : List Addr, SqT K H a (ps.map V.ref) ∧ ps.length = rs.length ∧ ∀ (i : Nat) (p : Addr) (r : Rw), ps[i]? = some p → rs[i]? = some r → RowOk K H p r.1 r.2
theorem Ord.rows {K : PySem.W.Frag} {E : Hp → Hp → Prop} (O : Ord K E) {H H' : Hp} {a : Addr} {rs : List Rw} (h : RowsT K H a rs) (e : E H H') : RowsT K H' a rs := by
  obtain ⟨ps, h1, h2, h3⟩ := h.ex
  exact ⟨ps, O.sqT e h1, h2, fun i p r a b => O.row (h3 i p r a b) e⟩
def hasN (m : Nat) (r : Rw) : Bool := inRow r.1 r.2 m
def rowOf (rs : List Rw) (m : Nat) : Option Rw := rs.find? (hasN m)
/-- what a def gives that looks for a row -/
def GivesRow (K : PySem.W.Frag) (H : Hp) (o : Option Rw) (Q : VK) : Prop := ∀ H', Le K H H' → match o with
  | none => Q .non H'
  | some r => ∀ p, RowOk K H' p r.1 r.2 → Q (.ref p) H'
def spRowWith (K : PySem.W.Frag) : Sp := fun vs H Q _ => ∃ (a : Addr) (rs : List Rw) (m : Nat), vs = [.ref a, vN m] ∧ RowsT K H a rs ∧ TbOk K H ∧ m ≤ 1000000 ∧ GivesRow K H (rowOf rs m) Q
theorem Le.tab {K : PySem.W.Frag} {H H2 : Hp} (t : TbOk K H) (h : GxR.Tabbed (cR K).2 H H2) : Le K H H2 := by
  obtain ⟨⟨ps, hP, _⟩, h2⟩ := And.intro t.gen h.2
  refine ⟨fun b o e n => ?_, fun t2 => ⟨?_, h.1, t2.ne⟩, fun b qs e => ?_⟩
  · rw [h2 b fun z => by rw [z, hP] at e; exact n ps (Option.some.inj e).symm]
    exact e
  · obtain ⟨qs, e1, e2, e3⟩ := t2.lam
    refine ⟨qs, by rw [h2 _ (Ne.symm t2.ne)]; exact e1, e2, fun pos cv hc => ?_⟩
    obtain ⟨c, z1, z2⟩ := e3 pos cv hc
    refine ⟨c, z1, ?_⟩
    rw [h2 c fun z => ?_]
    · exact z2
    · rw [z, hP] at z2
      unfold LamX.CodeO at z2
      cases z2
  · by_cases z : b = (cR K).2
    · obtain ⟨qs, e1, _⟩ := h.1
      exact ⟨qs, by rw [z]; exact e1⟩
    · exact ⟨qs, by rw [h2 b z]; exact e⟩
section
variable {w : World} {K : PySem.W.Frag} {mg : Str → Option Value} {base : Heap}
theorem ok_row_with (T : Tz K mg base) : Fk Er.PRG w K mg base "row_with" 7 ["rows", "number"] (spRowWith K) := by
  refine Fk.mkC T.g_row_with T.d_row_with sc_row_with (fun vs H Q E h => ?_) (fun _ _ _ _ _ _ us hl => match us, hl with | [_, _], _ => rfl) fun A outer s H vs Q E hr h => ⟨_,
      (pss_one (ps_ret (Gn.pe_next (k := 5) (c := (cR K).1) (P := (cR K).2) (j := 1) hr (by rfl) T.m_next T.tr rfl ⟨rfl, rfl, by decide +kernel, rfl, rfl, rfl, by decide +kernel⟩ (by decide) (pv 0) rfl rfl (fun _ _ _ _ _ => pts_one (pt_cmpR (op_inO T.mt_contains.1 (fr_has T.toTy) (hr.in1.in1.deeper _)) (pv 1) (pv 0) (by first | rfl | with_unfolding_all rfl)))))), ?_⟩
  · obtain ⟨_, _, _, rfl, _⟩ := h
    rfl
  · obtain ⟨a, rs, m, rfl, R, tb, hm, q⟩ := h
    obtain ⟨ps, hS, hl, hR⟩ := R.ex
    have st : ∀ H2, Le K H H2 → ∀ (i : Nat) (z : V), (ps.map V.ref)[i]? = some z → ∃ p r, z = .ref p ∧ rs[i]? = some r ∧ RowOk K H2 p r.1 r.2 := fun H2 e i z hz => by
      obtain ⟨p, hp, rfl⟩ := map_get hz
      have hi := (List.getElem?_eq_some_iff.mp hp).1
      have hr : rs[i]? = some (rs[i]'(by rw [← hl]; exact hi)) := List.getElem?_eq_getElem (by rw [← hl]; exact hi)
      exact ⟨p, _, rfl, hr, (ordL (K := K)).row (hR i p _ hp hr) e⟩
    refine ⟨_, rfl, a, rfl, ⟨_, hS⟩, a, ps.map V.ref, rs.map (hasN m), vN m, rfl, hS, rfl, tb.gen, fun H2 tb2 => ?_⟩
    have e2 := Le.tab tb tb2
    refine ⟨fun i z hz => ?_, fun i z hz hb hlt => ?_, fun hall => ?_⟩
    · obtain ⟨p, r, rfl, hr, ok⟩ := st H2 e2 i z hz
      obtain ⟨dx, vs, t1, t2, h1, _⟩ := _root_.id ok.at_
      refine ⟨_, rfl, _, rfl, p, dx, vs, rfl, h1, p, r.1, r.2, m, rfl, ok, hm, _, rfl, _, rfl, rfl, ?_⟩
      rw [List.getElem?_map, hr]
      rfl
    · obtain ⟨p, r, rfl, hr, ok⟩ := st H2 e2 i z hz
      have hf : rowOf rs m = some r := by
        unfold rowOf
        rw [List.find?_eq_some_iff_getElem]
        obtain ⟨g1, g2⟩ := List.getElem?_eq_some_iff.mp hr
        refine ⟨?_, i, g1, g2, fun j hj => ?_⟩
        · rw [List.getElem?_map, hr] at hb
          exact Option.some.inj hb
        · have := hlt j hj
          rw [List.getElem?_map, List.getElem?_eq_getElem (Nat.lt_trans hj g1)] at this
          rw [Option.some.inj this]
          rfl
      have := q H2 e2
      rw [hf] at this
      exact this p ok
    · have hf : rowOf rs m = none := by
        unfold rowOf
        rw [List.find?_eq_none]
        intro r hr
        obtain ⟨i, hi, e⟩ := List.getElem_of_mem hr
        have := hall i (by rw [List.length_map, hl]; exact hi)
        rw [List.getElem?_map, List.getElem?_eq_getElem hi, e] at this
        rw [Option.some.inj this]
        decide
      have := q H2 e2
      rw [hf] at this
      exact this
end
end K28

set_option Elab.async false
set_option linter.all false
set_option maxRecDepth 100000
set_option maxHeartbeats 4000000
namespace K28
open PySem PySem.Spec PyProof.Rows L2
/-! ## rows, states: are they? -/
theorem kit_self {K : PySem.W.Frag} {C : Addr} : PySem.W.kitOne K (.ref C) (.ref C) = some true := by
  unfold PySem.W.kitOne
  rw [if_pos (by simp)]
/-- one behind another -/
def UpR : List Rw → Prop
  | [] => True
  | [_] => True
  | r :: q :: l => r.1 + r.2.length ≤ q.1 ∧ UpR (q :: l)
theorem UpR.at : ∀ {rs : List Rw} {i : Nat} {r q : Rw}, UpR rs → rs[i]? = some r → rs[i + 1]? = some q → r.1 + r.2.length ≤ q.1
  | [], _, _, _, _, e, _ => by cases e
  | [_], 0, _, _, _, _, e => by cases e
  | [_], i + 1, _, _, _, e, _ => by cases e
  | r :: q :: l, 0, _, _, h, e1, e2 => by
    cases e1
    cases e2
    exact h.1
  | r :: q :: l, i + 1, _, _, h, e1, e2 => UpR.at h.2 (by simpa using e1) (by simpa using e2)
theorem rng_last (f : Nat) {n : Nat} (h : 1 ≤ n) : atI (rngN f n) (-1) = some (vN (f + (n - 1))) := by
  obtain ⟨m, rfl⟩ : ∃ m, n = m + 1 := ⟨n - 1, by omega⟩
  unfold rngN
  rw [List.range_succ, List.map_append, List.map_singleton]
  exact atI_last _ _
def spAreRows (K : PySem.W.Frag) : Sp := fun vs H Q _ => ∃ (a : Addr) (rs : List Rw), vs = [.ref a] ∧ RowsT K H a rs ∧ rs.length ≤ 60 ∧ UpR rs ∧ ∀ H', Same H H' → Q (.bl true) H'
def spRequireRows (K : PySem.W.Frag) : Sp := fun vs H Q _ => ∃ (a : Addr) (rs : List Rw), vs = [.ref a] ∧ RowsT K H a rs ∧ rs.length ≤ 60 ∧ UpR rs ∧ ∀ H', Same H H' → Q .non H'
section
variable {w : World} {K : PySem.W.Frag} {mg : Str → Option Value} {base : Heap}
theorem ok_are_rows (T : Ty K mg) : Fk Er.PRG w K mg base "are_rows" 4 ["value"] (spAreRows K) := by
  refine Fk.mk0 T.g_are_rows T.d_are_rows sc_are_rows (fun vs H Q E h => ?_) (fun _ _ _ _ _ _ us hl => match us, hl with | [_], _ => rfl) fun cdv A outer s H vs Q E hr h => ⟨_,
      (pss_cons (ps_if (PW.pt (pw_or (pt_not (pt_val (pe_callB call_isi (by rfl) T.m_isinstance boot_isinstance (pa_cons (pv 0) (pa_cons (pe_bltn (v := .ty "tuple") rfl T.m_tuple (by decide +kernel) rfl) pa_nil))))) (pw_or1 (pt_not (pt_val (pe_callB (cr_all rfl) (by rfl) T.m_all (by decide +kernel) (pa_cons (pe_lc (own := [("one", 1)]) (g := gName 1) rfl sc_are_rows.nd (pi_tup (pv 0)) (blkOk_by (own := [("one", 1)]) (N := N_are_rows) (sc := defScope s_are_rows) (by decide +kernel)) (fun _ _ _ _ _ => (pg_name (i := 1) sc_are_rows.nd rfl (Or.inl rfl))) (fun _ _ _ _ _ => pts_nil) (fun _ _ _ _ _ => (pe_callB (show CallR _ _ (SlX.rIsiSl K (.ref (cRow K))) from SlX.call_isiSl (.ref (cRow K))) (by rfl) T.m_isinstance boot_isinstance (pa_cons (pv 1) (pa_cons (pe_glob (v := .ref (cRow K)) rfl T.g_Row rfl) pa_nil))))) pa_nil))))))) (pss_one (ps_ret pe_bl)) pss_nil)
      (pss_one (ps_ret (pe_callB (cr_all rfl) (by rfl) T.m_all (by decide +kernel) (pa_cons (pe_lc (own := [("one", 1), ("later", 2)]) (g := gTup K 2 (gCons (gName 1) (gCons (gName 2) (gNil)))) rfl sc_are_rows.nd (RZ.pi_zipA (by rfl) T.m_zip (pa_cons (pv 0) (pa_cons (pe_slice sl_tupN (pv 0) (po_some pe_int) po_none) pa_nil))) (blkOk_by (own := [("one", 1), ("later", 2)]) (N := N_are_rows) (sc := defScope s_are_rows) (by decide +kernel)) (fun _ _ _ _ _ => (pg_tup rfl (pgs_cons (pg_name (i := 1) sc_are_rows.nd rfl (Or.inl rfl)) (pgs_cons (pg_name (i := 2) sc_are_rows.nd rfl (Or.inl rfl)) pgs_nil)))) (fun _ _ _ _ _ => pts_nil) (fun _ _ _ _ _ => (pe_cmpR op_lt (pe_ix (show IxR _ (rIxT K) from ix_tup) (pe_numbers T (pv 1) (hr.mono (by decide))) (pe_un un_neg pe_int) (fun _ _ => rfl)) (pe_first T (pv 2) (hr.mono (by decide))) (nomark _)))) pa_nil))))), ?_⟩
  · obtain ⟨_, _, rfl, _⟩ := h
    rfl
  · obtain ⟨a, rs, rfl, R, hl60, up, q⟩ := h
    obtain ⟨ps, hS, hl, hR⟩ := R.ex
    have O := ordS (K := K)
    have hpl : (ps.map V.ref).length = ps.length := List.length_map ..
    have st : ∀ H2, Same H H2 → ∀ (i : Nat) (z : V), (ps.map V.ref)[i]? = some z → ∃ p r, z = .ref p ∧ rs[i]? = some r ∧ RowOk K H2 p r.1 r.2 := fun H2 e i z hz => by
      obtain ⟨p, hp, rfl⟩ := map_get hz
      have hi := (List.getElem?_eq_some_iff.mp hp).1
      have hr : rs[i]? = some (rs[i]'(by rw [← hl]; exact hi)) := List.getElem?_eq_getElem (by rw [← hl]; exact hi)
      exact ⟨p, _, rfl, hr, O.row (hR i p _ hp hr) e⟩
    refine ⟨_, rfl, _, _, _, _, true, rfl, .ty "tuple", ty_tup hS, kit_ty (by decide +kernel), true, rfl, iteF ?_⟩
    refine ⟨_, rfl, a, rfl, ⟨_, hS⟩, fun D hD => ?_⟩
    refine lc_pure O (walk_tup (K := K)) (fun _ => some (.bl true)) hD (by rw [hpl]; omega) (fun H1 e => O.sqT e hS) (fun i x H1 H2 Fin No hi e hy hF hN => ?_) fun H1 e hl1 => ?_
    · obtain ⟨rfl, hx⟩ := hy
      obtain ⟨p, r, rfl, hr, ok⟩ := st _ e i x hx
      obtain ⟨dx, vs, t1, t2, h1, _⟩ := _root_.id ok.at_
      exact ⟨rfl, ⟨_, rfl, p, cRow K, dx, vs, .ref (cRow K), true, rfl, rfl, fun w e => e, h1, T.row_c, T.row_k, kit_self, hF _ _ rfl (Same.refl _)⟩⟩
    · refine ⟨D, List.replicate ps.length true, rfl, .of (hl1.trans ?_), true, by simp, ifF rfl ?_⟩
      · rw [hpl, List.map_replicate]
        congr 2
        exact fm_const _ _
      · refine ⟨_, rfl, _, rfl, _, rfl, a, _, rfl, O.sqT e hS, fun p H2 e2 hp => ⟨_, _, _, _, rfl, .inr ⟨O.sqT (e.trans e2) hS, hp, fun D2 hD2 => ?_⟩⟩⟩
        have hc : cutV (ps.map V.ref) (some 1) none = (ps.drop 1).map V.ref := by
          rw [List.map_drop]
          exact cutV_from _ 1
        rw [hc] at hp
        refine lc_pure O (walk_zipT (K := K) (n := ps.length - 1) (xs := ps.map V.ref) (ys := (ps.drop 1).map V.ref) (by simp)) (fun _ => some (.bl true)) hD2 (by omega)
          (fun H3 e3 => ⟨O.sqT ((e.trans e2).trans e3) hS, O.sqT e3 hp⟩) (fun i x H3 H4 Fin No hi e3 hy hF hN => ?_) fun H3 e3 hl3 => ?_
        · obtain ⟨t, x, y, rfl, ht, rfl, hx, hy⟩ := hy
          have hy : (ps.map V.ref)[i + 1]? = some y := by
            have hy : ((ps.drop 1).map V.ref)[i]? = some y := hy
            rw [List.map_drop, List.getElem?_drop, Nat.add_comm] at hy
            exact hy
          have en := ((e.trans e2).trans e3).trans (Same.new (o := .tup [x, y]) ht)
          obtain ⟨p1, r1, rfl, hr1, ok1⟩ := st _ en i x hx
          obtain ⟨p2, r2, rfl, hr2, ok2⟩ := st _ en (i + 1) y hy
          obtain ⟨dx1, vs1, t11, t12, h11, _⟩ := _root_.id ok1.at_
          obtain ⟨dx2, vs2, t21, t22, h21, _⟩ := _root_.id ok2.at_
          refine ⟨_, _, rfl, .of upd_same, rfl, _, _, rfl, _, _, rfl, rfl, rfl, ⟨_, rfl, p1, dx1, vs1, rfl, h11, p1, r1.1, r1.2, rfl, ok1, fun t hN => ⟨_, rfl, t, _, _, vN (r1.1 + (r1.2.length - 1)), rfl, rfl, hN, ?_, _, rfl, p2, dx2, vs2, rfl, h21, p2, r2.1, r2.2, rfl, ok2, _, _, rfl, rfl, ?_⟩⟩⟩
          · exact rng_last _ ok1.ix.lo
          · refine hF _ _ ?_ (Same.new ht)
            have := up.at hr1 hr2
            have := ok1.ix.lo
            show some (V.bl true) = some (V.bl (decide (((r1.1 + (r1.2.length - 1) : Nat) : Int) < (r2.1 : Nat))))
            rw [decide_eq_true (by omega)]
        · refine ⟨D2, List.replicate (ps.length - 1) true, rfl, .of (hl3.trans ?_), bl_q (by simp) (q _ ((e.trans e2).trans e3))⟩
          rw [List.map_replicate]
          congr 2
          exact fm_const _ _
theorem ok_require_rows (T : Ty K mg) : Fk Er.PRG w K mg base "require_rows" 5 ["value"] (spRequireRows K) := by
  refine Fk.mk0 T.g_require_rows T.d_require_rows sc_require_rows (fun vs H Q E h => ?_) (fun _ _ _ _ _ _ us hl => match us, hl with | [_], _ => rfl) fun cdv A outer s H vs Q E hr h => ⟨_,
      (pss_one (ps_if (pt_not (pt_val (pe_f (ok_are_rows T) (hr.mono (by decide)) (pa_cons (pv 0) pa_nil)))) (pss_one ps_never) pss_nil)), ?_⟩
  · obtain ⟨_, _, rfl, _⟩ := h
    rfl
  · obtain ⟨a, rs, rfl, R, hl60, up, q⟩ := h
    exact ⟨_, rfl, a, rs, rfl, R, hl60, up, fun H1 e1 => ⟨_, rfl, ifF rfl (q H1 e1)⟩⟩
end
end K28

set_option Elab.async false
set_option linter.all false
set_option maxRecDepth 100000
set_option maxHeartbeats 4000000
namespace K28
open PySem PySem.Spec PyProof.Rows L2
/-! ## states -/
section
variable {X : Cx}
/-- len of a dict that may be held fast -/
theorem call_lenR : CallR X (.builtin "len") (fun xs H Q => ∃ a kvs, xs = [V.ref a] ∧ Rd H a (.dK kvs) ∧ Q (.int kvs.length) H) := by
  intro pins s σ H xs us Q I r h
  obtain ⟨a, kvs, rfl, ha, q⟩ := h
  obtain ⟨u, rfl, ru⟩ := vals1 r
  cases ru
  exact d_len I ha fun t s' I' => ⟨.int kvs.length, H, I', ⟨t, rfl⟩, q⟩
/-- e, an object of ours: it stands still from now on -/
def tStill (t : TE) : TE := fun σ H Q => t σ H fun v H1 => ∃ d u, v = .ref d ∧ H1 d = some u ∧ Mut (some u) ∧ ∀ od, Q v (upd H1 d (.frz od u))
theorem pe_still {e : Expr} {t : TE} (he : PE X e t) : PE X e (tStill t) := by
  refine ⟨fun pins s σ H Q I h => thn (he.run pins s σ H _ I h) fun w s1 ⟨v, H1, I1, r1, d, u, ev, hd, mu, q⟩ => ?_⟩
  obtain ⟨od, I2⟩ := I1.lock hd mu
  exact ⟨v, _, I2, r1, q od⟩
end
/-- a dict of numbers and words -/
abbrev St1 := List (Nat × List Nat)
def kvS (st : St1) : List (Key × V) := st.map fun p => (.inl (p.1 : Int), .str (S p.2))
def StD (H : Hp) (a : Addr) (st : St1) : Prop := ∃ o, H a = some (.frz o (.dK (kvS st)))
theorem Ord.std {K : PySem.W.Frag} {E : Hp → Hp → Prop} (O : Ord K E) {H H' : Hp} {a : Addr} {st : St1} (h : StD H a st) (e : E H H') : StD H' a st := by
  obtain ⟨o, h⟩ := h
  exact ⟨o, O.keep e _ _ h fun _ z => (nomatch z)⟩
structure StOk (st : St1) : Prop where
  len : st.length ≤ 60
  num : ∀ p ∈ st, 1 ≤ p.1 ∧ p.1 ≤ 1000000
  word : ∀ p ∈ st, wordB p.2 = true
  keys : (st.map Prod.fst).Nodup
theorem kvS_len (st : St1) : (kvS st).length = st.length := List.length_map ..
theorem kvS_get {st : St1} {i : Nat} {k : V} (h : ((kvS st)[i]?).map (fun kv => kV kv.1) = some k) : ∃ p, st[i]? = some p ∧ k = vN p.1 := by
  unfold kvS at h
  rw [List.getElem?_map] at h
  cases e : st[i]? with
  | none => rw [e] at h; cases h
  | some p =>
    rw [e] at h
    exact ⟨p, rfl, (Option.some.inj h).symm⟩
theorem kvS_val {st : St1} {i : Nat} {k : V} (h : ((kvS st)[i]?).map Prod.snd = some k) : ∃ p, st[i]? = some p ∧ k = .str (S p.2) := by
  unfold kvS at h
  rw [List.getElem?_map] at h
  cases e : st[i]? with
  | none => rw [e] at h; cases h
  | some p =>
    rw [e] at h
    exact ⟨p, rfl, (Option.some.inj h).symm⟩
theorem wordB_len {l : List Nat} (h : wordB l = true) : l.length ≤ 8 := by
  unfold wordB at h
  rw [Bool.and_eq_true, Bool.and_eq_true] at h
  exact of_decide_eq_true h.2.1
def spAreStates : Sp := fun vs H Q _ => ∃ (a : Addr) (st : St1), vs = [.ref a] ∧ StD H a st ∧ StOk st ∧ ∀ H', Same H H' → Q (.bl true) H'
section
variable {P : Program} {w : World} {K : PySem.W.Frag} {mg : Str → Option Value} {base : Heap}
theorem ok_are_states (T : Tx K mg) : Fk P w K mg base "are_states" 3 ["value"] spAreStates := by
  refine Fk.mk0 T.g_are_states T.d_are_states sc_are_states (fun vs H Q E h => ?_) (fun _ _ _ _ _ _ us hl => match us, hl with | [_], _ => rfl) fun cdv A outer s H vs Q E hr h => ⟨_,
      (pss_cons (ps_if (PW.pt (pw_or (pt_not (pt_val (pe_callB call_isi (by rfl) T.m_isinstance boot_isinstance (pa_cons (pv 0) (pa_cons (pe_bltn (v := .ty "dict") rfl T.m_dict (by decide +kernel) rfl) pa_nil))))) (pw_or1 (pt_cmpR op_gt (pe_callB call_lenR (by rfl) T.m_len boot_len (pa_cons (pv 0) pa_nil)) (pe_gI T.i_MAX_LINES) (nomark _))))) (pss_one (ps_ret pe_bl)) pss_nil)
      (pss_one (ps_ret (pe_callB (cr_all rfl) (by rfl) T.m_all (by decide +kernel) (pa_cons (pe_lc (own := [("number", 1), ("state", 2)]) (g := gTup K 2 (gCons (gName 1) (gCons (gName 2) (gNil)))) rfl sc_are_states.nd (pi_items (pv 0)) (blkOk_by (own := [("number", 1), ("state", 2)]) (N := N_are_states) (sc := defScope s_are_states) (by decide +kernel)) (fun _ _ _ _ _ => (pg_tup rfl (pgs_cons (pg_name (i := 1) sc_are_states.nd rfl (Or.inl rfl)) (pgs_cons (pg_name (i := 2) sc_are_states.nd rfl (Or.inl rfl)) pgs_nil)))) (fun _ _ _ _ _ => pts_nil) (fun _ _ _ _ _ => (pe_and (pe_f (ok_is_from T) (hr.mono (by decide)) (pa_cons (pv 1) (pa_cons pe_int (pa_cons (pe_gI T.i_MAX_NUMBER) pa_nil)))) (pe_one (pe_f (ok_is_state_word T) (hr.mono (by decide)) (pa_cons (pv 2) pa_nil)))))) pa_nil))))), ?_⟩
  · obtain ⟨_, _, rfl, _⟩ := h
    rfl
  · obtain ⟨a, st, rfl, ⟨o, hd⟩, ok, q⟩ := h
    have O := ordS (K := K)
    have h60 := ok.len
    refine ⟨_, rfl, _, _, _, _, true, rfl, .ty "dict", .fDict hd, kit_ty (by decide +kernel), true, rfl, iteF ?_⟩
    refine ⟨_, rfl, _, _, rfl, .inr ⟨o, hd⟩, _, _, rfl, rfl, _, rfl, ?_⟩
    refine ifF ?_ ?_
    · rw [kvS_len]
      exact decide_eq_false (by omega)
    refine ⟨_, rfl, _, o, _, rfl, hd, fun D hD => ?_⟩
    refine lc_pure O (walk_items) (fun _ => some (.bl true)) hD (by rw [kvS_len]; omega) (fun H1 e => O.keep e _ _ hd fun _ z => (nomatch z)) (fun i x H3 H4 Fin No hi e3 hy hF hN => ?_) fun H1 e hl1 => ?_
    · obtain ⟨t, x, y, rfl, ht, rfl, hx, hy⟩ := hy
      obtain ⟨p, hp, rfl⟩ := kvS_get hx
      obtain ⟨p', hp', rfl⟩ := kvS_val hy
      rw [hp] at hp'
      cases hp'
      have hm := List.mem_of_getElem? hp
      obtain ⟨n1, n2⟩ := ok.num p hm
      have hw := ok.word p hm
      refine ⟨_, _, rfl, .of upd_same, rfl, _, _, rfl, _, _, rfl, rfl, rfl, ⟨_, rfl, (p.1 : Int), 1, 1000000, rfl, small_sm (by omega), ?_⟩⟩
      rw [decide_eq_true (show (1 : Int) ≤ p.1 by omega), decide_eq_true (show (p.1 : Int) ≤ 1000000 by omega)]
      refine ⟨true, rfl, iteT ⟨_, rfl, p.2, rfl, ?_, fun H' e' => hF _ _ ?_ ((Same.new ht).trans e')⟩⟩
      · have := wordB_len hw
        omega
      · rw [hw]
    · refine ⟨D, List.replicate st.length true, rfl, .of (hl1.trans ?_), bl_q (by simp) (q _ e)⟩
      rw [kvS_len, List.map_replicate]
      congr 2
      exact fm_const _ _
end
def spFoldIndices (K : PySem.W.Frag) : Sp := fun vs H Q _ => ∃ (a : Addr) (ns : List Nat), vs = [.ref a] ∧ SqT K H a (ns.map vN) ∧ IxN ns ∧ TbOk K H ∧ ∀ H', Le K H H' → Q (.str (S (leastM ns))) H'
section
variable {w : World} {K : PySem.W.Frag} {mg : Str → Option Value} {base : Heap}
theorem ok_fold_indices (T : Tz K mg base) : Fk Er.PRG w K mg base "fold_indices" 5 ["indices"] (spFoldIndices K) := by
  refine Fk.mk0 T.g_fold_indices T.d_fold_indices sc_fold_indices (fun vs H Q E h => ?_) (fun _ _ _ _ _ _ us hl => match us, hl with | [_], _ => rfl) fun cdv A outer s H vs Q E hr h => ⟨_,
      (pss_cons (ps_if (pt_not (pt_val (pe_f (ok_are_indices T.toTy.toTx) (hr.mono (by decide)) (pa_cons (pv 0) pa_nil)))) (pss_one ps_never) pss_nil)
      (pss_one (ps_ret (pe_f (ok_least_text T) (hr.mono (by decide)) (pa_cons (pv 0) pa_nil))))), ?_⟩
  · obtain ⟨_, _, rfl, _⟩ := h
    rfl
  · obtain ⟨a, ns, rfl, hS, ix, tb, q⟩ := h
    refine ⟨_, rfl, a, ns.map fun n : Nat => (n : Int), rfl, by rw [List.map_map]; exact hS, ix.ints, fun H1 e1 => ⟨_, rfl, ifF rfl ?_⟩⟩
    exact ⟨_, rfl, a, ns, rfl, e1.sqT hS, ix, tb.same e1, fun H2 e2 => q H2 (e1.le.trans e2)⟩
end
end K28

set_option Elab.async false
set_option linter.all false
set_option maxRecDepth 100000
set_option maxHeartbeats 4000000
namespace K28
open PySem PySem.Spec PyProof.Rows L2
/-! ## a folded line -/
def ixs (r : Rw) (ms : List Nat) : List Nat := ms.map fun m => r.2.getD (m - r.1) 0
def lineM (o : Option Rw) (ms w : List Nat) : List Nat := match o with
  | none => num (ms.headD 0) ++ 32 :: w
  | some r => num r.1 ++ 46 :: (if (ixs r ms).length = 1 then leastM (ixs r ms) ++ 32 :: w else 91 :: leastM (ixs r ms) ++ 93 :: 32 :: w)
/-- a row, or None -/
def RowV (K : PySem.W.Frag) (H : Hp) (v : V) : Option Rw → Prop
  | none => v = .non
  | some r => ∃ p, v = .ref p ∧ RowOk K H p r.1 r.2
/-- the numbers of one line -/
structure NumsOk (o : Option Rw) (ms : List Nat) : Prop where
  ne : ms ≠ []
  le : ∀ m ∈ ms, m ≤ 1000000
  up : ms.Pairwise (· < ·)
  inR : ∀ r, o = some r → ∀ m ∈ ms, inRow r.1 r.2 m = true
theorem inRow_iff {f m : Nat} {ns : List Nat} : inRow f ns m = true ↔ f ≤ m ∧ m < f + ns.length := by
  unfold inRow
  rw [Bool.and_eq_true, decide_eq_true_iff, decide_eq_true_iff]
theorem up_len {k n : Nat} : ∀ {ms : List Nat}, ms.Pairwise (· < ·) → (∀ m ∈ ms, k ≤ m ∧ m < n) → ms.length ≤ n - k
  | [], _, _ => Nat.zero_le _
  | m :: r, hp, hb => by
    obtain ⟨h1, h2⟩ := List.pairwise_cons.mp hp
    have hm := hb m (List.mem_cons_self ..)
    have := up_len (k := m + 1) (n := n) h2 fun x hx => ⟨h1 x hx, (hb x (List.mem_cons_of_mem _ hx)).2⟩
    rw [List.length_cons]
    omega
theorem ixs_ok {r : Rw} {ms : List Nat} (ix : IxN r.2) (h : NumsOk (some r) ms) : IxN (ixs r ms) := by
  have hin := h.inR r rfl
  have hl : (ixs r ms).length = ms.length := List.length_map ..
  have hb : ∀ m ∈ ms, r.1 ≤ m ∧ m < r.1 + r.2.length := fun m hm => inRow_iff.mp (hin m hm)
  have h1 := up_len h.up hb
  have h2 := ix.hi
  have at_ : ∀ m ∈ ms, ∃ hh : m - r.1 < r.2.length, r.2.getD (m - r.1) 0 = r.2[m - r.1] := fun m hm => by
    have := hb m hm
    exact ⟨by omega, by rw [List.getD_eq_getElem?_getD, List.getElem?_eq_getElem (by omega)]; rfl⟩
  refine ⟨?_, by omega, fun n hn => ?_, ?_⟩
  · rw [hl]
    exact List.length_pos_iff.mpr h.ne
  · obtain ⟨m, hm, rfl⟩ := List.mem_map.mp hn
    obtain ⟨g1, g2⟩ := at_ m hm
    show r.2.getD (m - r.1) 0 ≤ 9999
    rw [g2]
    exact ix.bd _ (List.getElem_mem _)
  · unfold ixs
    rw [List.pairwise_map]
    refine List.Pairwise.imp_of_mem (fun {a b} ha hb' hab => ?_) h.up
    obtain ⟨g1, g2⟩ := at_ a ha
    obtain ⟨g3, g4⟩ := at_ b hb'
    rw [g2, g4]
    have := hb a ha
    have := hb b hb'
    exact List.pairwise_iff_getElem.mp ix.up _ _ g1 g3 (by omega)
theorem least_small {ns : List Nat} (ix : IxN ns) : (leastM ns).length ≤ 900 := by
  have h := bests_small ns ix.bd
  have hi := ix.hi
  unfold leastM
  cases e : bests ns with
  | nil => exact Nat.zero_le _
  | cons a r =>
    have := h a (by rw [e]; exact List.mem_cons_self ..)
    show a.length ≤ 900
    omega
def spLineOf (K : PySem.W.Frag) : Sp := fun vs H Q _ => ∃ (o : Option Rw) (v : V) (l : Addr) (ms w : List Nat), vs = [v, .ref l, .str (S w)] ∧ RowV K H v o ∧ SqL K H l (ms.map vN) ∧ NumsOk o ms ∧ w.length ≤ 8 ∧ TbOk K H ∧ ∀ H', Le K H H' → Q (.str (S (lineM o ms w))) H'
section
variable {w : World} {K : PySem.W.Frag} {mg : Str → Option Value} {base : Heap}
theorem ok_line_of (T : Tz K mg base) : Fk Er.PRG w K mg base "line_of" 5 ["row", "numbers", "state"] (spLineOf K) := by
  refine Fk.mk0 T.g_line_of T.d_line_of sc_line_of (fun vs H Q E h => ?_) (fun _ _ _ _ _ _ us hl => match us, hl with | [_, _, _], _ => rfl) fun cdv A outer s H vs Q E hr h => ⟨_,
      (pss_cons (ps_if (pt_cmpR op_isN (pv 0) pe_non (nomark _)) (pss_one (ps_ret (pe_joinS (PJ.cons (pe_show (pe_ix ix_list (pv 1) pe_int (fun _ _ => rfl))) (PJ.cons pe_strS (PJ.cons (pe_show (pv 2)) PJ.nil)))))) pss_nil)
      (pss_cons (ps_set (i := 3) sc_line_of.nd rfl (Or.inl rfl) (pe_callTy call_tuple_of (by rfl) T.m_tuple (by decide +kernel) (pa_cons (pe_lc (own := [("number", 5)]) (g := gName 5) rfl sc_line_of.nd (pi_list (pv 1)) (blkOk_by (own := [("number", 5)]) (N := N_line_of) (sc := defScope s_line_of) (by decide +kernel)) (fun _ _ _ _ _ => (pg_name (i := 5) sc_line_of.nd rfl (Or.inl rfl))) (fun _ _ _ _ _ => pts_nil) (fun _ _ _ _ _ => (SlX.pe_methSl (pv 0) T.row_c T.mt_index_of.1 (fr_index_of T.toTy) (hr.mono (by decide)) passL (pa_cons (pv 5) pa_nil)))) pa_nil)))
      (pss_cons (ps_set (i := 4) sc_line_of.nd rfl (Or.inl rfl) (pe_f (ok_least_text T) (hr.mono (by decide)) (pa_cons (pv 3) pa_nil)))
      (pss_one (ps_ret (pe_ifExp (pt_cmpR op_eq (pe_callB call_len (by rfl) T.m_len boot_len (pa_cons (pv 3) pa_nil)) pe_int (nomark _)) (pe_joinS (PJ.cons (pe_show (pe_first T.toTy (pv 0) (hr.mono (by decide)))) (PJ.cons pe_strS (PJ.cons (pe_show (pv 4)) (PJ.cons pe_strS (PJ.cons (pe_show (pv 2)) PJ.nil)))))) (pe_joinS (PJ.cons (pe_show (pe_first T.toTy (pv 0) (hr.mono (by decide)))) (PJ.cons pe_strS (PJ.cons (pe_show (pv 4)) (PJ.cons pe_strS (PJ.cons (pe_show (pv 2)) PJ.nil)))))))))))), ?_⟩
  · obtain ⟨_, _, _, _, _, rfl, _⟩ := h
    rfl
  · obtain ⟨o, v, l, ms, wd, rfl, hv, hS, nk, hw, tb, q⟩ := h
    have hml : (ms.map vN).length = ms.length := List.length_map ..
    cases o with
    | none =>
      obtain rfl : v = .non := hv
      obtain ⟨m0, r0, rfl⟩ := List.exists_cons_of_ne_nil nk.ne
      have b0 := nk.le m0 (List.mem_cons_self ..)
      have l0 : (num m0).length ≤ 7 := TL.numL_len (by decide) (Nat.lt_of_le_of_lt b0 (by decide))
      refine ⟨_, rfl, rfl, _, rfl, ifT rfl ⟨_, rfl, l, _, _, _, rfl, rfl, hS, atI_nat (j := 0) rfl, num m0, .inr ⟨m0, rfl, Nat.lt_of_le_of_lt b0 (by decide), rfl⟩, by omega, num m0, rfl, by simp; omega, [32], rfl, by simp; omega, _, rfl, wd, .inl rfl, by omega, wd, rfl, by simp; omega, ?_⟩⟩
      have := q H (Le.refl H)
      rw [show lineM none (m0 :: r0) wd = [] ++ num m0 ++ [32] ++ wd by simp [lineM]] at this
      exact this
    | some r =>
      obtain ⟨p, rfl, R⟩ := hv
      have ixo := ixs_ok R.ix nk
      have hsm := least_small ixo
      have O := ordS (K := K)
      refine ⟨_, rfl, rfl, _, rfl, ifF rfl ?_⟩
      refine ⟨_, rfl, l, rfl, ⟨_, hS⟩, fun D hD => ?_⟩
      refine lc_pure O (walk_list (K := K)) (fun i => (ms[i]?).map fun m => vN (r.2.getD (m - r.1) 0)) hD (by rw [hml]; have := ixo.hi; rw [show (ixs r ms).length = ms.length from List.length_map ..] at this; omega) (fun H1 e => O.sqL e hS) (fun i x H1 H2 Fin No hi e hy hF hN => ?_) fun H1 e hl1 => ?_
      · obtain ⟨rfl, hx⟩ := hy
        obtain ⟨m, hm, rfl⟩ := map_get hx
        have hin := inRow_iff.mp (nk.inR r rfl m (List.mem_of_getElem? hm))
        have R1 := O.row R e
        obtain ⟨dx, vs, t1, t2, h1, _⟩ := _root_.id R1.at_
        have hz : r.2[m - r.1]? = some (r.2.getD (m - r.1) 0) := by
          rw [List.getD_eq_getElem?_getD, List.getElem?_eq_getElem (by omega)]
          rfl
        refine ⟨rfl, ⟨_, rfl, p, dx, vs, rfl, h1, _, rfl, p, r.1, r.2, m - r.1, _, ?_, R1, hz, ?_⟩⟩
        · rw [show r.1 + (m - r.1) = m by omega]
        · refine hF _ _ ?_ (Same.refl _)
          rw [hm]
          rfl
      · have hq : SqL K H1 D ((ixs r ms).map vN) := by
          refine .inl (.inl (hl1.trans ?_))
          rw [hml, fm_map ms fun m => vN (r.2.getD (m - r.1) 0)]
          unfold ixs
          rw [List.map_map]
          rfl
        refine ⟨D, _, rfl, .inl ⟨hq, fun t ht => ?_⟩⟩
        have e1 := e.trans (Same.new (o := .tup ((ixs r ms).map vN)) ht)
        refine ⟨_, rfl, t, ixs r ms, rfl, .inl (.inl upd_same), ixo, tb.same e1, fun H2 e2 => ?_⟩
        have O2 := ordL (K := K)
        have hT : SqT K H2 t ((ixs r ms).map vN) := e2.sqT (.inl (.inl upd_same))
        have eA : Le K H H2 := e1.le.trans e2
        have R2 := O2.row R eA
        obtain ⟨dx, vs, t1, t2, h1, _⟩ := _root_.id R2.at_
        have l0 : (num r.1).length ≤ 6 := TL.numL_len (by decide) (Nat.lt_of_le_of_lt R.hi (by decide))
        have b70 : r.1 < 10 ^ 70 := Nat.lt_of_le_of_lt R.hi (by decide)
        have hil : ((ixs r ms).map vN).length = (ixs r ms).length := List.length_map ..
        have qq := q H2 eA
        refine ⟨_, rfl, _, _, rfl, len_t hT, rfl, _, rfl, ?_⟩
        rw [hil]
        by_cases h1e : (ixs r ms).length = 1
        · refine ifT (by rw [h1e]; rfl) ⟨_, rfl, p, dx, vs, rfl, h1, p, r.1, r.2, rfl, R2, num r.1, .inr ⟨r.1, rfl, b70, rfl⟩, by omega, num r.1, rfl, by simp; omega, [46], rfl, by simp; omega, _, rfl, leastM (ixs r ms), .inl rfl, by omega, _, rfl, by simp; omega, [32], rfl, by simp; omega, _, rfl, wd, .inl rfl, by omega, wd, rfl, by simp; omega, ?_⟩
          rw [show lineM (some r) ms wd = [] ++ num r.1 ++ [46] ++ leastM (ixs r ms) ++ [32] ++ wd by simp [lineM, h1e]] at qq
          exact qq
        · refine ifF (decide_eq_false fun z => h1e (by injection z with z; omega)) ⟨_, rfl, p, dx, vs, rfl, h1, p, r.1, r.2, rfl, R2, num r.1, .inr ⟨r.1, rfl, b70, rfl⟩, by omega, num r.1, rfl, by simp; omega, [46, 91], rfl, by simp; omega, _, rfl, leastM (ixs r ms), .inl rfl, by omega, _, rfl, by simp; omega, [93, 32], rfl, by simp; omega, _, rfl, wd, .inl rfl, by omega, wd, rfl, by simp; omega, ?_⟩
          rw [show lineM (some r) ms wd = [] ++ num r.1 ++ [46, 91] ++ leastM (ixs r ms) ++ [93, 32] ++ wd by simp [lineM, h1e]] at qq
          exact qq
end
end K28

set_option Elab.async false
set_option linter.all false
set_option maxRecDepth 100000
set_option maxHeartbeats 4000000
/-! dicts whose keys are tuples: setdefault, values -/
namespace DT
open PySem PySem.Spec PyProof.Rows L2
section
variable {X : Cx} {pins : List (Addr × Obj)} {σ : L2.St} {H : Hp} {s : Shared}
/-- d.setdefault(k, z) -/
theorem setd {a b : Addr} {kvs : List (List Key × V)} {k : List Key} {z : V} {r : Value} {A : Around} {E : Value → Shared → Prop} {Q : Value → Shared → Prop} (hu : A.units + 1 < cLine) (I : Inv X pins σ H s) (e : H a = some (.dT kvs)) (eb : H b = some (.tup (k.map kV))) (rz : RelV z r) (hl : kvs.length < sizeLine)
    (h1 : ∀ v, valV kvs k = some v → ∀ (w' : Value) (s' : Shared), Inv X pins σ H s' → RelV v w' → Q w' s') (h2 : valV kvs k = none → ∀ (w' : Value) (s' : Shared), Inv X pins σ (upd H a (.dT (putK kvs k z))) s' → RelV z w' → Q w' s') :
    wpAny (model X.prog X.w) A (call (.builtin "dict.setdefault") [.ref a, .ref b, r]) Q E s := by
  obtain ⟨y, hd, xs, rel, dd⟩ := dt_of I.hok e
  have hz : xs.length ≤ sizeLine := by rw [← Paired.length rel]; exact y
  have hl2 : (putK kvs k z).length ≤ sizeLine := by
    have := length_putK kvs k z
    omega
  have rk := rel.val k
  refine call_setdefault_heap (hsz := hz) (tupleKind_room_in1 hu) (key_of I.hok eb) hd dd (fun p hp => ?_) fun hn h' dd' hs => ?_
  · rw [hp] at rk
    cases q0 : valV kvs k with
    | none =>
      rw [q0] at rk
      exact (show False from rk).elim
    | some v0 =>
      rw [q0] at rk
      exact h1 v0 q0 _ _ (I.tok _) rk
  · rw [hn] at rk
    cases q0 : valV kvs k with
    | some v0 =>
      rw [q0] at rk
      exact (show False from rk).elim
    | none =>
      obtain ⟨q, es, ep, hq, g2, g3, g4, _, g5⟩ := dd'
      refine h2 q0 _ _ (d_write I (by rw [e]; exact True.intro) hs ⟨q, hq⟩ ⟨hl2, hd, _, (rel.put k eb rz).keeps fun c ys ec => ?_, q, es, ep, hq, g2, g3, g4, g5⟩) rz
      rw [upd_ne (ne_of ec e (fun z => nomatch z))]
      exact ec
end
/-- d.setdefault(y, z) -/
def tSetd (td ty tx : TE) : TE := fun σ H Q => td σ H fun x H1 => ∃ a, x = .ref a ∧ IsD H1 a ∧ ty σ H1 fun y H2 => tx σ H2 fun z H3 => ∃ (kvs : List (List Key × V)) (k : List Key) (b : Addr), H3 a = some (.dT kvs) ∧ y = .ref b ∧ H3 b = some (.tup (k.map kV)) ∧ kvs.length < sizeLine ∧
  (∀ v, valV kvs k = some v → Q v H3) ∧ (valV kvs k = none → Q z (upd H3 a (.dT (putK kvs k z))))
section
variable {X : Cx} {o e f : Expr} {td ty tx : TE} {apos cpos : Pos}
theorem pe_setd (hu : X.A.units + 1 < cLine) (ho : PE X o td) (he : PE X e ty) (hf : PE X f tx) (m : M2 X o "setdefault" apos e f cpos) : PE X (.Call (.Attribute o "setdefault" apos) [e, f] [] cpos) (tSetd td ty tx) := by
  refine ⟨fun pins s σ H Q I h => ?_⟩
  refine wpAny_Call_method m.base m.few m.line PySem.F.plainAttrs_dict PySem.F.slot_dict_setdefault PySem.F.type_dict_setdefault (thn (ho.run pins s σ H _ I h) fun u s1 ⟨x, H1, I1, rx, a, ex, d, q1⟩ => ?_)
  subst ex
  obtain rfl : u = Value.ref a := rx
  obtain ⟨t1, t2, _⟩ := isD_at I1 d
  refine ⟨t1, t2, ?_⟩
  rw [m.trees]
  refine Calls.callWith_builtin rfl (Calls.evalArgs_plain (Calls.spliced_cons (thn (he.run pins s1 σ H1 _ I1 q1) fun iv s2 ⟨y, H2, I2, ry, q2⟩ =>
    Calls.spliced_cons (thn (hf.run pins s2 σ H2 _ I2 q2) fun fv s3 ⟨z, H3, I3, rz, kvs, k, b, ea, ey, eb, hl, q3, q4⟩ => Calls.spliced_nil ?_))))
  subst ey
  obtain rfl : iv = Value.ref b := ry
  exact setd hu I3 ea eb rz hl (fun v hv w' s4 I4 rw' => ⟨v, _, I4, rw', q3 v hv⟩) fun hn w' s4 I4 rw' => ⟨z, _, I4, rw', q4 hn⟩
end
/-! ### the values -/
def Itdt (d : Addr) (o : Obj) (kvs : List (List Key × V)) : It :=
  ⟨fun i H => H d = some (.frz o (.dT kvs)) ∧ i < kvs.length, fun i H x H' => H' = H ∧ ∃ k, kvs[i]? = some (k, x), fun i H => H d = some (.frz o (.dT kvs)) ∧ kvs.length ≤ i⟩
theorem walk_vals {d : Addr} {o : Obj} {kvs : List (List Key × V)} : Walk (Itdt d o kvs) kvs.length (fun H => H d = some (.frz o (.dT kvs))) (fun i H x H' => H' = H ∧ ∃ k, kvs[i]? = some (k, x)) :=
  ⟨fun _ _ hi q => ⟨q, hi⟩, fun _ q => ⟨q, Nat.le_refl _⟩, fun _ _ _ _ _ _ y => y⟩
section
variable {X : Cx} {pins : List (Addr × Obj)} {σ : L2.St} {H : Hp} {s : Shared} {d : Addr} {o : Obj}
theorem frz_vals {kvs : List (List Key × V)} (I : Inv X pins σ H s) (h : H d = some (.frz o (.dT kvs))) : (d == sysModules) = false ∧ s.heap.get? d = some o ∧ o.ExactDict ∧ ∃ (es : Array DictEntry) (ep : Nat), o.data = .dict es ep ∧ es.size = kvs.length ∧
      ∀ (i : Nat) (k : List Key) (v : V), kvs[i]? = some (k, v) → ∃ (hi : i < es.size), RelV v es[i].val := by
  obtain ⟨hd, z, hs, xs, pr, o', es, ep, ho, hx, hdt, he, _⟩ := I.hok d _ h
  rw [hd] at ho
  cases ho
  have l1 : es.size = xs.length := by
    have := congrArg List.length he
    simpa using this
  have l2 : kvs.length = xs.length := Paired.length pr
  refine ⟨hs, hd, hx, es, ep, hdt, by omega, fun i k v e => ?_⟩
  have hk := (List.getElem?_eq_some_iff.mp e).1
  refine ⟨by omega, ?_⟩
  obtain ⟨b, hb, _, _, r⟩ := paired_get pr e
  have q : es.toList[i]? = some (entryOfKey (tupleKind (mixKind X.prog X.w)) b) := by rw [he, List.getElem?_map, hb]; rfl
  have q2 : es[i]? = some (entryOfKey (tupleKind (mixKind X.prog X.w)) b) := by rw [← Array.getElem?_toList]; exact q
  obtain ⟨_, q3⟩ := Array.getElem?_eq_some_iff.mp q2
  rw [q3]
  exact r
theorem turn_vals {P : Program} {w : World} {K : PySem.W.Frag} {tg : Expr} {kvs : List (List Key × V)} {es : Array DictEntry} {ep : Nat} (it : Addr) (hod : o.data = .dict es ep) : Turn P w K tg (Itdt d o kvs) [it] it (fun i h => h.IsValIter it d i kvs.length ep) where
  mem := by simp
  obj := fun i h st b hb => by
    obtain rfl : b = it := by simpa using hb
    obtain ⟨oi, e, c, dd⟩ := st
    exact ⟨oi, e, fun v z => by rw [dd] at z; cases z⟩
  keep := fun i h h' st k => st.at fun oi e => k it (by simp) oi e
  item := by
    intro X hP hw hK hc i pins s σ H E I hf st ⟨hd, hi⟩
    subst hP hw hK
    obtain ⟨f0, f1, f2, f3, f4, f5⟩ := hf it (by simp)
    obtain ⟨hs, hgd, hx, es', ep', hdt, hsz, ent⟩ := frz_vals I hd
    rw [hod] at hdt
    cases hdt
    obtain ⟨⟨k, v⟩, hkv⟩ : ∃ p, kvs[i]? = some p := ⟨kvs[i], List.getElem?_eq_getElem hi⟩
    obtain ⟨hi2, rv⟩ := ent i k v hkv
    rw [← hsz] at st
    refine wpAny_pyNext_values_item_raw st ⟨o, hgd, hx, hod⟩ hi2 fun h' st' sb => ?_
    have I1 : Inv X pins σ H { s with heap := h' } := I.turned (t' := s.toks) (fun b ob hb e => (sb.2 b hb).trans e) f0 f1 f3 f4 f5
    obtain ⟨oi, e, c, dd⟩ := id st'
    refine ⟨_, rfl, go_of (s := { s with heap := h' }) e c dd (by decide) ⟨v, H, I1, rv, ⟨rfl, k, hkv⟩, ?_, fun b hb => (hf b hb).1⟩⟩
    show h'.IsValIter it d (i + 1) kvs.length _
    rw [← hsz]
    exact st'
  done := by
    intro X hP hw hK hc i pins s σ H E I hf st ⟨hd, hi⟩
    subst hP hw hK
    obtain ⟨f0, f1, f2, f3, f4, f5⟩ := hf it (by simp)
    obtain ⟨hs, hgd, hx, es', ep', hdt, hsz, ent⟩ := frz_vals I hd
    rw [hod] at hdt
    cases hdt
    rw [← hsz] at st
    exact wpAny_pyNext_values_end_raw (I.ok.hd hc) st ⟨o, hgd, hx, hod⟩ (by omega) fun h' eb => ⟨rfl, I.turned (t' := s.toks) (fun b ob hb e => eb b ob hb e) f0 f1 f3 f4 f5⟩
  self := fun A i s Q E st h => wpAny_pyIter_valiter st h
end
def iVals (td : TE) : TI := fun σ H R => td σ H fun x H1 => ∃ d o kvs, x = .ref d ∧ H1 d = some (.frz o (.dT kvs)) ∧ R (Itdt d o kvs) H1
section
variable {X : Cx} {tg e : Expr} {td : TE} {apos cpos : Pos}
theorem pi_vals (he : PE X e td) (hbase : attributeBase e "values" X.env (eval e X.env) = eval e X.env := by rfl) (hline : (apos.endLine == cpos.line) = true := by rfl) : PI X tg (.Call (.Attribute e "values" apos) [] [] cpos) (iVals td) := by
  refine ⟨fun pins s σ H R I h => ?_⟩
  refine wpAny_Call_method (T := "dict") (id := "dict.values") hbase rfl hline PySem.F.plainAttrs_dict PySem.F.slot_dict_values PySem.F.type_dict_values (thn (he.run pins s σ H _ I h) fun u s1 ⟨x, H1, I1, rx, d, o, kvs, ex, hd, q⟩ => ?_)
  subst ex
  obtain rfl : u = Value.ref d := rx
  obtain ⟨hs, hgd, hx, es, ep, hdt, hsz, _⟩ := frz_vals I1 hd
  have raw : s1.heap.DictRaw d es ep := ⟨o, hgd, hx, hdt⟩
  refine ⟨raw.typeIs, fun b z => ?_, ?_⟩
  · cases z
    exact ⟨o, hgd, hx.2.1⟩
  have I2 : Inv X pins σ H1 { s1 with heap := s1.heap.push { cls := .type "dict_values", data := .fields #[.ref d] } } := I1.kept (t' := s1.toks) fun b ob q => Heap.get?_push_of_some _ q
  have fin : wpAny (model X.prog X.w) X.A (pyIter (.ref s1.heap.objs.size)) (PIE X pins σ tg R) X.xe { s1 with heap := s1.heap.push { cls := .type "dict_values", data := .fields #[.ref d] } } := by
    refine wpAny_pyIter_values_raw (d := d) ⟨_, Heap.get?_push_size _ rfl, rfl, rfl⟩ (raw.at fun ob q => Heap.get?_push_of_some _ q) (pi_one (tk := s1.toks) I2 _ (turn_vals _ hdt) ⟨_, Heap.get?_push_size _ rfl, rfl, ?_⟩ q)
    rw [hsz] <;> rfl
  show wpAny _ _ (callWith cpos (.builtin "dict.values") [.ref d] [] []) _ X.xe s1
  exact method_meetsIn PySem.F.slot_dict_values PySem.F.entry_dict_values rfl (PySem.evalArgs_none ⟨rfl, raw.typeIs, PySem.F.args_dict_values_1 _, _, meets_dict_values_raw d hs, ⟨es, ep, raw⟩, fin⟩)
end
end DT

set_option Elab.async false
set_option linter.all false
set_option maxRecDepth 100000
set_option maxHeartbeats 4000000
namespace K28
open PySem PySem.Spec PyProof.Rows L2
/-! ## the states in groups -/
abbrev GK := Nat × List Nat
def stOf (st : St1) (n : Nat) : List Nat := ((st.find? fun p => decide (p.1 = n)).map Prod.snd).getD []
/-- the group that a number belongs to -/
def key0 (rs : List Rw) (st : St1) (n : Nat) : GK := match rowOf rs n with
  | none => (n, [])
  | some r => (r.1, stOf st n)
def keyP (k : GK) : List Key := [.inl (k.1 : Int), .inr (S k.2)]
theorem keyP_inj {a b : GK} (h : keyP a = keyP b) : a = b := by
  unfold keyP at h
  injection h with h1 h2
  injection h2 with h2
  injection h1 with h1
  injection h2 with h2
  exact Prod.ext (by omega) (S_inj h2)
/-- n comes to its group -/
def grpAdd (k : GK) (n : Nat) (gs : List (GK × List Nat)) : List (GK × List Nat) :=
  if (gs.any fun g => decide (g.1 = k)) = true then gs.map fun g => if g.1 = k then (g.1, g.2 ++ [n]) else g else gs ++ [(k, [n])]
def grps (key : Nat → GK) (ns : List Nat) : List (GK × List Nat) := ns.foldl (fun gs n => grpAdd (key n) n gs) []
/-- all that is known of the groups of ns -/
structure GrpsOk (key : Nat → GK) (ns : List Nat) (gs : List (GK × List Nat)) : Prop where
  ne : ∀ g ∈ gs, g.2 ≠ []
  key : ∀ g ∈ gs, ∀ m ∈ g.2, key m = g.1
  sub : ∀ g ∈ gs, g.2.Sublist ns
  all : ∀ m ∈ ns, ∃ g ∈ gs, m ∈ g.2
  nd : (gs.map Prod.fst).Nodup
theorem grp_step {key : Nat → GK} {ns : List Nat} {gs : List (GK × List Nat)} {n : Nat} (h : GrpsOk key ns gs) : GrpsOk key (ns ++ [n]) (grpAdd (key n) n gs) := by
  unfold grpAdd
  split
  · rename_i c
    obtain ⟨g0, hg0, e0⟩ := List.any_eq_true.mp c
    have e0 := of_decide_eq_true e0
    refine ⟨fun g hg => ?_, fun g hg m hm => ?_, fun g hg => ?_, fun m hm => ?_, ?_⟩
    · obtain ⟨q, hq, rfl⟩ := List.mem_map.mp hg
      split
      · simp
      · exact h.ne q hq
    · obtain ⟨q, hq, rfl⟩ := List.mem_map.mp hg
      split at hm <;> rename_i z
      · rw [if_pos z]
        rcases List.mem_append.mp hm with hm | hm
        · exact h.key q hq m hm
        · rw [List.mem_singleton.mp hm]
          exact z.symm
      · rw [if_neg z]
        exact h.key q hq m hm
    · obtain ⟨q, hq, rfl⟩ := List.mem_map.mp hg
      split
      · exact (h.sub q hq).append (List.Sublist.refl _)
      · exact (h.sub q hq).trans (List.sublist_append_left _ _)
    · rcases List.mem_append.mp hm with hm | hm
      · obtain ⟨g, hg, hmg⟩ := h.all m hm
        refine ⟨_, List.mem_map.mpr ⟨g, hg, rfl⟩, ?_⟩
        split
        · exact List.mem_append_left _ hmg
        · exact hmg
      · refine ⟨_, List.mem_map.mpr ⟨g0, hg0, rfl⟩, ?_⟩
        rw [if_pos e0]
        exact List.mem_append_right _ hm
    · rw [List.map_map]
      rw [show (Prod.fst ∘ fun g : GK × List Nat => if g.1 = key n then (g.1, g.2 ++ [n]) else g) = Prod.fst from funext fun g => by
        show (if g.1 = key n then (g.1, g.2 ++ [n]) else g).1 = g.1
        split <;> rfl]
      exact h.nd
  · rename_i c
    refine ⟨fun g hg => ?_, fun g hg m hm => ?_, fun g hg => ?_, fun m hm => ?_, ?_⟩
    · rcases List.mem_append.mp hg with hg | hg
      · exact h.ne g hg
      · rw [List.mem_singleton.mp hg]
        simp
    · rcases List.mem_append.mp hg with hg | hg
      · exact h.key g hg m hm
      · rw [List.mem_singleton.mp hg] at hm ⊢
        rw [List.mem_singleton.mp hm]
    · rcases List.mem_append.mp hg with hg | hg
      · exact (h.sub g hg).trans (List.sublist_append_left _ _)
      · rw [List.mem_singleton.mp hg]
        exact List.sublist_append_right _ _
    · rcases List.mem_append.mp hm with hm | hm
      · obtain ⟨g, hg, hmg⟩ := h.all m hm
        exact ⟨g, List.mem_append_left _ hg, hmg⟩
      · exact ⟨_, List.mem_append_right _ (List.mem_singleton.mpr rfl), hm⟩
    · rw [List.map_append, List.nodup_append]
      refine ⟨h.nd, by simp, fun a ha b hb z => ?_⟩
      have hb : b = key n := by simpa using hb
      obtain ⟨g, hg, e⟩ := List.mem_map.mp ha
      refine c (List.any_eq_true.mpr ⟨g, hg, decide_eq_true ?_⟩)
      rw [e, z, hb]
theorem grps_ok (key : Nat → GK) (ns : List Nat) : GrpsOk key ns (grps key ns) := by
  have gen : ∀ (l done : List Nat) (gs : List (GK × List Nat)), GrpsOk key done gs → GrpsOk key (done ++ l) (l.foldl (fun gs n => grpAdd (key n) n gs) gs) := by
    intro l
    induction l with
    | nil =>
      intro done gs h
      rw [List.append_nil]
      exact h
    | cons n l ih =>
      intro done gs h
      have := ih (done ++ [n]) _ (grp_step (n := n) h)
      rw [List.append_assoc] at this
      exact this
  exact gen ns [] [] ⟨fun _ h => absurd h List.not_mem_nil, fun _ h => absurd h List.not_mem_nil, fun _ h => absurd h List.not_mem_nil, fun _ h => absurd h List.not_mem_nil, List.nodup_nil⟩
/-- the folded lines -/
def linesM (rs : List Rw) (st : St1) (ns : List Nat) : List (List Nat) := (grps (key0 rs st) ns).map fun g => lineM (rowOf rs (g.2.headD 0)) g.2 (stOf st (g.2.headD 0))
end K28

set_option Elab.async false
set_option linter.all false
set_option maxRecDepth 100000
set_option maxHeartbeats 4000000
namespace K28
open PySem PySem.Spec PyProof.Rows L2
/-! ## the groups in the heap -/
structure Cl where
  k : GK
  ns : List Nat
  rv : V
  ta : Addr
  la : Addr
def kvC (cs : List Cl) : List (List Key × V) := cs.map fun c => (keyP c.k, V.ref c.ta)
def gsC (cs : List Cl) : List (GK × List Nat) := cs.map fun c => (c.k, c.ns)
structure GInv (K : PySem.W.Frag) (H0 H : Hp) (d : Addr) (rs : List Rw) (st : St1) (cs : List Cl) : Prop where
  d0 : H0 d = none
  dict : H d = some (.dT (kvC cs))
  tup : ∀ c ∈ cs, H c.ta = some (.tup [c.rv, .ref c.la, .str (S (stOf st (c.ns.headD 0)))])
  lst : ∀ c ∈ cs, H c.la = some (.lst (c.ns.map vN))
  new : ∀ c ∈ cs, H0 c.la = none
  row : ∀ c ∈ cs, RowV K H c.rv (rowOf rs (c.ns.headD 0))
  injA : ∀ c ∈ cs, ∀ c' ∈ cs, c.la = c'.la → c = c'
  injK : ∀ c ∈ cs, ∀ c' ∈ cs, c.k = c'.k → c = c'
  ne : ∀ c ∈ cs, c.ns ≠ []
section
variable {K : PySem.W.Frag} {H0 H H' : Hp} {d : Addr} {rs : List Rw} {st : St1} {cs : List Cl}
theorem Ord.rowV {E : Hp → Hp → Prop} (O : Ord K E) {v : V} {o : Option Rw} (h : RowV K H v o) (e : E H H') : RowV K H' v o := by
  cases o with
  | none => exact h
  | some r =>
    obtain ⟨p, h1, h2⟩ := h
    exact ⟨p, h1, O.row h2 e⟩
theorem GInv.le (g : GInv K H0 H d rs st cs) (e : Le K H H') : GInv K H0 H' d rs st cs :=
  ⟨g.d0, e.keep _ _ g.dict fun _ z => (nomatch z), fun c hc => e.keep _ _ (g.tup c hc) fun _ z => (nomatch z), fun c hc => e.keep _ _ (g.lst c hc) fun _ z => (nomatch z), g.new, fun c hc => (ordL (K := K)).rowV (g.row c hc) e, g.injA, g.injK, g.ne⟩
def addC (k : GK) (n : Nat) (c : Cl) : Cl := if c.k = k then { c with ns := c.ns ++ [n] } else c
theorem addC_la {k : GK} {n : Nat} {c : Cl} : (addC k n c).la = c.la := by
  unfold addC
  split <;> rfl
theorem addC_ta {k : GK} {n : Nat} {c : Cl} : (addC k n c).ta = c.ta := by
  unfold addC
  split <;> rfl
theorem addC_k {k : GK} {n : Nat} {c : Cl} : (addC k n c).k = c.k := by
  unfold addC
  split <;> rfl
theorem addC_rv {k : GK} {n : Nat} {c : Cl} : (addC k n c).rv = c.rv := by
  unfold addC
  split <;> rfl
theorem addC_head {k : GK} {n : Nat} {c : Cl} (h : c.ns ≠ []) : (addC k n c).ns.headD 0 = c.ns.headD 0 := by
  unfold addC
  split
  · cases e : c.ns with
    | nil => exact absurd e h
    | cons a r => simp [e]
  · rfl
theorem addC_ne {k : GK} {n : Nat} {c : Cl} (h : c.ns ≠ []) : (addC k n c).ns ≠ [] := by
  unfold addC
  split
  · simp
  · exact h
/-- lists, dicts: what is written to -/
def soft : HO → Bool
  | .lst _ => true
  | .dT _ => true
  | .dK _ => true
  | _ => false
section
variable {a : Addr} {u o2 : HO}
theorem soft_ne (ha : H a = some u) (hu : soft u = true) {b : Addr} {o : HO} (hb : H b = some o) (ho : soft o = false) : upd H a o2 b = some o := by
  rw [upd_ne (ne_of hb ha fun z => by rw [z, hu] at ho; cases ho)]
  exact hb
theorem soft_sq (ha : H a = some u) (hu : soft u = true) {b : Addr} {xs : List V} (h : SqT K H b xs) : SqT K (upd H a o2) b xs := by
  rcases h with (h | ⟨o, h⟩) | h
  · exact .inl (.inl (soft_ne ha hu h rfl))
  · exact .inl (.inr ⟨o, soft_ne ha hu h rfl⟩)
  · exact .inr h
theorem soft_row (ha : H a = some u) (hu : soft u = true) {x : Addr} {f : Nat} {ns : List Nat} (h : RowOk K H x f ns) : RowOk K (upd H a o2) x f ns := by
  obtain ⟨⟨dx, vs, t1, t2, h1, h2, h3, ⟨h4, h7⟩, h5, h6⟩, lo, hi, ix⟩ := h
  refine ⟨⟨dx, vs, t1, t2, ?_, h2, h3, ⟨soft_sq ha hu h4, ?_⟩, h5, soft_sq ha hu h6⟩, lo, hi, ix⟩
  · rcases h1 with ⟨g1, g2⟩ | ⟨g1, g2⟩
    · exact .inl ⟨soft_ne ha hu g1 rfl, g2⟩
    · exact .inr ⟨soft_ne ha hu g1 rfl, soft_ne ha hu g2 rfl⟩
  · rcases h7 with ⟨o, w, q, d⟩ | h7
    · exact .inl ⟨o, w, soft_ne ha hu q rfl, d⟩
    · exact .inr h7
theorem soft_rowV (ha : H a = some u) (hu : soft u = true) {v : V} {o : Option Rw} (h : RowV K H v o) : RowV K (upd H a o2) v o := by
  cases o with
  | none => exact h
  | some r =>
    obtain ⟨p, h1, h2⟩ := h
    exact ⟨p, h1, soft_row ha hu h2⟩
end
theorem GInv.app (g : GInv K H0 H d rs st cs) {c0 : Cl} (h0 : c0 ∈ cs) (n : Nat) : GInv K H0 (upd H c0.la (.lst (c0.ns.map vN ++ [vN n]))) d rs st (cs.map (addC c0.k n)) := by
  have hl := g.lst c0 h0
  refine ⟨g.d0, ?_, fun c hc => ?_, fun c hc => ?_, fun c hc => ?_, fun c hc => ?_, fun c hc c' hc' e => ?_, fun c hc c' hc' e => ?_, fun c hc => ?_⟩
  · rw [upd_ne (ne_of g.dict hl (fun z => nomatch z)), g.dict]
    unfold kvC
    rw [List.map_map]
    congr 2
    refine List.map_congr_left fun c _ => ?_
    show _ = (keyP (addC c0.k n c).k, V.ref (addC c0.k n c).ta)
    rw [addC_k, addC_ta]
  · obtain ⟨q, hq, rfl⟩ := List.mem_map.mp hc
    rw [addC_ta, addC_rv, addC_la, addC_head (g.ne q hq), upd_ne (ne_of (g.tup q hq) hl (fun z => nomatch z))]
    exact g.tup q hq
  · obtain ⟨q, hq, rfl⟩ := List.mem_map.mp hc
    rw [addC_la]
    by_cases e : q.k = c0.k
    · obtain rfl := g.injK q hq c0 h0 e
      rw [upd_same]
      unfold addC
      rw [if_pos rfl]
      simp
    · rw [upd_ne fun z => e (by rw [g.injA q hq c0 h0 z])]
      unfold addC
      rw [if_neg e]
      exact g.lst q hq
  · obtain ⟨q, hq, rfl⟩ := List.mem_map.mp hc
    rw [addC_la]
    exact g.new q hq
  · obtain ⟨q, hq, rfl⟩ := List.mem_map.mp hc
    rw [addC_rv, addC_head (g.ne q hq)]
    exact soft_rowV hl rfl (g.row q hq)
  · obtain ⟨q, hq, rfl⟩ := List.mem_map.mp hc
    obtain ⟨q', hq', rfl⟩ := List.mem_map.mp hc'
    rw [addC_la, addC_la] at e
    rw [g.injA q hq q' hq' e]
  · obtain ⟨q, hq, rfl⟩ := List.mem_map.mp hc
    obtain ⟨q', hq', rfl⟩ := List.mem_map.mp hc'
    rw [addC_k, addC_k] at e
    rw [g.injK q hq q' hq' e]
  · obtain ⟨q, hq, rfl⟩ := List.mem_map.mp hc
    exact addC_ne (g.ne q hq)
theorem GInv.snoc (g : GInv K H0 H d rs st cs) {k : GK} {n : Nat} {rv : V} {t0 l0 : Addr} (hk : ∀ c ∈ cs, c.k ≠ k) (hl : H l0 = some (.lst [])) (h0 : H0 l0 = none) (hla : ∀ c ∈ cs, c.la ≠ l0) (ht : H t0 = some (.tup [rv, .ref l0, .str (S (stOf st n))])) (hr : RowV K H rv (rowOf rs n)) :
    GInv K H0 (upd (upd H d (.dT (kvC cs ++ [(keyP k, V.ref t0)]))) l0 (.lst [vN n])) d rs st (cs ++ [⟨k, [n], rv, t0, l0⟩]) := by
  have hld : l0 ≠ d := ne_of hl g.dict (fun z => nomatch z)
  have hl1 : upd H d (.dT (kvC cs ++ [(keyP k, V.ref t0)])) l0 = some (.lst []) := by
    rw [upd_ne hld]
    exact hl
  have two : ∀ {b : Addr} {o : HO}, H b = some o → soft o = false → upd (upd H d (.dT (kvC cs ++ [(keyP k, V.ref t0)]))) l0 (.lst [vN n]) b = some o := fun hb ho => soft_ne hl1 rfl (soft_ne g.dict rfl hb ho) ho
  refine ⟨g.d0, ?_, fun c hc => ?_, fun c hc => ?_, fun c hc => ?_, fun c hc => ?_, fun c hc c' hc' e => ?_, fun c hc c' hc' e => ?_, fun c hc => ?_⟩
  · rw [upd_ne (Ne.symm hld), upd_same]
    unfold kvC
    rw [List.map_append]
    rfl
  · rcases List.mem_append.mp hc with hc | hc
    · exact two (g.tup c hc) rfl
    · rw [List.mem_singleton.mp hc]
      exact two ht rfl
  · rcases List.mem_append.mp hc with hc | hc
    · rw [upd_ne (hla c hc), upd_ne (ne_of (g.lst c hc) g.dict (fun z => nomatch z))]
      exact g.lst c hc
    · rw [List.mem_singleton.mp hc]
      exact upd_same
  · rcases List.mem_append.mp hc with hc | hc
    · exact g.new c hc
    · rw [List.mem_singleton.mp hc]
      exact h0
  · rcases List.mem_append.mp hc with hc | hc
    · exact soft_rowV hl1 rfl (soft_rowV g.dict rfl (g.row c hc))
    · rw [List.mem_singleton.mp hc]
      exact soft_rowV hl1 rfl (soft_rowV g.dict rfl hr)
  · rcases List.mem_append.mp hc with hc | hc <;> rcases List.mem_append.mp hc' with hc' | hc'
    · exact g.injA c hc c' hc' e
    · rw [List.mem_singleton.mp hc'] at e
      exact absurd e (hla c hc)
    · rw [List.mem_singleton.mp hc] at e
      exact absurd e.symm (hla c' hc')
    · rw [List.mem_singleton.mp hc, List.mem_singleton.mp hc']
  · rcases List.mem_append.mp hc with hc | hc <;> rcases List.mem_append.mp hc' with hc' | hc'
    · exact g.injK c hc c' hc' e
    · rw [List.mem_singleton.mp hc'] at e
      exact absurd e (hk c hc)
    · rw [List.mem_singleton.mp hc] at e
      exact absurd e.symm (hk c' hc')
    · rw [List.mem_singleton.mp hc, List.mem_singleton.mp hc']
  · rcases List.mem_append.mp hc with hc | hc
    · exact g.ne c hc
    · rw [List.mem_singleton.mp hc]
      exact List.cons_ne_nil _ _
theorem kvC_some {k : GK} {v : V} (h : valV (kvC cs) (keyP k) = some v) : ∃ c ∈ cs, c.k = k ∧ v = .ref c.ta := by
  unfold valV kvC at h
  obtain ⟨p, hp, rfl⟩ := Option.map_eq_some_iff.mp h
  have h1 := List.mem_of_find?_eq_some hp
  have h2 := List.find?_some hp
  obtain ⟨c, hc, rfl⟩ := List.mem_map.mp h1
  exact ⟨c, hc, keyP_inj (of_decide_eq_true h2), rfl⟩
theorem kvC_none {k : GK} (h : valV (kvC cs) (keyP k) = none) : ∀ c ∈ cs, c.k ≠ k := fun c hc e => by
  unfold valV kvC at h
  rw [Option.map_eq_none_iff, List.find?_eq_none] at h
  refine h _ (List.mem_map.mpr ⟨c, hc, rfl⟩) (decide_eq_true ?_)
  show keyP c.k = keyP k
  rw [e]
theorem gsC_add {c0 : Cl} (h0 : c0 ∈ cs) (n : Nat) : gsC (cs.map (addC c0.k n)) = grpAdd c0.k n (gsC cs) := by
  unfold grpAdd gsC
  rw [if_pos (List.any_eq_true.mpr ⟨(c0.k, c0.ns), List.mem_map.mpr ⟨c0, h0, rfl⟩, decide_eq_true rfl⟩)]
  rw [List.map_map, List.map_map]
  refine List.map_congr_left fun c _ => ?_
  show ((addC c0.k n c).k, (addC c0.k n c).ns) = if c.k = c0.k then (c.k, c.ns ++ [n]) else (c.k, c.ns)
  unfold addC
  split <;> rfl
theorem gsC_new {k : GK} (hk : ∀ c ∈ cs, c.k ≠ k) (n : Nat) (rv : V) (t0 l0 : Addr) : gsC (cs ++ [⟨k, [n], rv, t0, l0⟩]) = grpAdd k n (gsC cs) := by
  unfold grpAdd
  rw [if_neg fun z => ?_]
  · unfold gsC
    rw [List.map_append]
    rfl
  · obtain ⟨g, hg, e⟩ := List.any_eq_true.mp z
    obtain ⟨c, hc, rfl⟩ := List.mem_map.mp hg
    exact hk c hc (of_decide_eq_true e)
end
end K28

set_option Elab.async false
set_option linter.all false
set_option maxRecDepth 100000
set_option maxHeartbeats 4000000
namespace K28
open PySem PySem.Spec PyProof.Rows L2
/-- the numbers of the states, upward -/
def numsM (st : St1) : List Nat := sortU (st.map Prod.fst)
def strsV (ls : List (List Nat)) : List V := ls.map fun l => .str (S l)
theorem givesRow_of {K : PySem.W.Frag} {H : Hp} {o : Option Rw} {Q : VK} (h : ∀ H' v, Le K H H' → RowV K H' v o → Q v H') : GivesRow K H o Q := fun H' e => by
  cases o with
  | none => exact h H' _ e rfl
  | some r => exact fun p hp => h H' _ e ⟨p, rfl, hp⟩
theorem S_nil : (S [] : Str) = Str.ofString "" := by decide +kernel
theorem numsM_len (st : St1) (ok : StOk st) : (numsM st).length = st.length := by
  have h := (sorted_back (zs := (numsM st).map fun n : Nat => (n : Int)) (ks := st.map Prod.fst) ok.keys)
  have hn : (numsM st).Nodup := sortU_nodup _
  have hp : (numsM st).Perm (st.map Prod.fst) := (List.perm_ext_iff_of_nodup hn ok.keys).mpr fun n => mem_sortU
  rw [hp.length_eq, List.length_map]
theorem kvS_valV {st : St1} {n : Nat} (h : n ∈ st.map Prod.fst) : valV (kvS st) (.inl (n : Int)) = some (.str (S (stOf st n))) := by
  induction st with
  | nil => exact absurd h List.not_mem_nil
  | cons p r ih =>
    by_cases e : p.1 = n
    · unfold kvS
      rw [List.map_cons, valV_pos (show (Sum.inl (p.1 : Int) : Key) = .inl (n : Int) by rw [e])]
      unfold stOf
      rw [List.find?_cons, decide_eq_true e]
      rfl
    · have h2 : n ∈ r.map Prod.fst := by
        rcases List.mem_cons.mp h with z | z
        · exact absurd z.symm e
        · exact z
      unfold kvS
      rw [List.map_cons, valV_neg (show ¬ (Sum.inl (p.1 : Int) : Key) = .inl (n : Int) from fun z => e (by injection z with z; omega))]
      have q : stOf (p :: r) n = stOf r n := by
        unfold stOf
        rw [List.find?_cons, decide_eq_false e]
      rw [q]
      exact ih h2
theorem grpAdd_len (k : GK) (n : Nat) (gs : List (GK × List Nat)) : (grpAdd k n gs).length ≤ gs.length + 1 := by
  unfold grpAdd
  split
  · rw [List.length_map]
    omega
  · simp
theorem grps_len (key : Nat → GK) (ns : List Nat) : (grps key ns).length ≤ ns.length := by
  have gen : ∀ (l : List Nat) (gs : List (GK × List Nat)), (l.foldl (fun gs n => grpAdd (key n) n gs) gs).length ≤ gs.length + l.length := by
    intro l
    induction l with
    | nil => exact fun gs => Nat.le_refl _
    | cons n l ih =>
      intro gs
      have h1 := ih (grpAdd (key n) n gs)
      have h2 := grpAdd_len (key n) n gs
      show (l.foldl _ (grpAdd (key n) n gs)).length ≤ _
      rw [List.length_cons]
      omega
  have := gen ns []
  rw [List.length_nil, Nat.zero_add] at this
  exact this
theorem grps_snoc (key : Nat → GK) (ns : List Nat) (n : Nat) : grps key (ns ++ [n]) = grpAdd (key n) n (grps key ns) := by
  unfold grps
  rw [List.foldl_append]
  rfl
theorem stOf_word {st : St1} (ok : StOk st) {n : Nat} (h : n ∈ st.map Prod.fst) : wordB (stOf st n) = true := by
  unfold stOf
  cases e : st.find? fun p => decide (p.1 = n) with
  | none =>
    rw [List.find?_eq_none] at e
    obtain ⟨p, hp, z⟩ := List.mem_map.mp h
    exact absurd (decide_eq_true z) (e p hp)
  | some p => exact ok.word p (List.mem_of_find?_eq_some e)
theorem wordB_ne {l : List Nat} (h : wordB l = true) : l ≠ [] := fun z => by
  rw [z] at h
  cases h
theorem UpR.pw {rs : List Rw} (h : UpR rs) (hl : ∀ r ∈ rs, 1 ≤ r.2.length) : rs.Pairwise fun a b => a.1 + a.2.length ≤ b.1 := by
  induction rs with
  | nil => exact .nil
  | cons r l ih =>
    cases l with
    | nil => exact List.pairwise_singleton ..
    | cons q l =>
      have h2 := ih h.2 fun x hx => hl x (List.mem_cons_of_mem _ hx)
      refine List.pairwise_cons.mpr ⟨fun x hx => ?_, h2⟩
      rcases List.mem_cons.mp hx with rfl | hx
      · exact h.1
      · have h3 := (List.pairwise_cons.mp h2).1 x hx
        have h4 := h.1
        omega
theorem UpR.fst_inj {rs : List Rw} (h : UpR rs) (hl : ∀ r ∈ rs, 1 ≤ r.2.length) {a b : Rw} (ha : a ∈ rs) (hb : b ∈ rs) (e : a.1 = b.1) : a = b := by
  have hp := h.pw hl
  obtain ⟨i, hi, rfl⟩ := List.getElem_of_mem ha
  obtain ⟨j, hj, rfl⟩ := List.getElem_of_mem hb
  rw [List.pairwise_iff_getElem] at hp
  have h1 := hl _ (List.getElem_mem hi)
  have h2 := hl _ (List.getElem_mem hj)
  rcases Nat.lt_trichotomy i j with z | z | z
  · have := hp i j hi hj z
    omega
  · subst z
    rfl
  · have := hp j i hj hi z
    omega
theorem numsOk {rs : List Rw} {st : St1} (up : UpR rs) (hl : ∀ r ∈ rs, 1 ≤ r.2.length) (ok : StOk st) {g : GK × List Nat} (hg : g ∈ grps (key0 rs st) (numsM st)) : NumsOk (rowOf rs (g.2.headD 0)) g.2 := by
  have gok := grps_ok (key0 rs st) (numsM st)
  have hsub := gok.sub g hg
  have hin : ∀ m ∈ g.2, m ∈ st.map Prod.fst := fun m hm => mem_sortU.mp (hsub.subset hm)
  have hh : g.2.headD 0 ∈ g.2 := by
    cases e : g.2 with
    | nil => exact absurd e (gok.ne g hg)
    | cons a r => exact List.mem_cons_self ..
  refine ⟨gok.ne g hg, fun m hm => ?_, (sortU_up _).sublist hsub, fun r hr m hm => ?_⟩
  · obtain ⟨p, hp, z⟩ := List.mem_map.mp (hin m hm)
    rw [← z]
    exact (ok.num p hp).2
  · have k1 := gok.key g hg m hm
    have k2 := gok.key g hg _ hh
    rw [← k2] at k1
    unfold key0 at k1
    rw [hr] at k1
    have hw := wordB_ne (stOf_word ok (hin _ hh))
    cases e : rowOf rs m with
    | none =>
      rw [e] at k1
      exact absurd (congrArg Prod.snd k1).symm hw
    | some r' =>
      rw [e] at k1
      have k1 : (r'.1, stOf st m) = (r.1, stOf st (g.2.headD 0)) := k1
      have e1 : r'.1 = r.1 := (Prod.mk.inj k1).1
      have h1 := List.mem_of_find?_eq_some hr
      have h2 := List.mem_of_find?_eq_some e
      have h3 := up.fst_inj hl h2 h1 e1
      rw [← h3]
      have h5 : hasN m r' = true := List.find?_some (p := hasN m) e
      exact h5
/-- one turn of the folding, its key at hand -/
theorem fold_step {K : PySem.W.Frag} {H H6 : Hp} {a d fd yp kt : Addr} {rs : List Rw} {st : St1} {cs : List Cl} {n : Nat} {rv : V} {x6 x7 : Option V} {ys : List V} {Z : L2.St → Hp → Prop} {B : L2.St → Hp → Prop} {rt : VK} (eH : Le K H H6) (yp0 : H yp = none) (hy : H6 yp = some (.lst ys)) (G : GInv K H H6 fd rs st cs) (hcy : ∀ c ∈ cs, c.la ≠ yp)
    (hk : H6 kt = some (.tup ((keyP (key0 rs st n)).map kV))) (hr : RowV K H6 rv (rowOf rs n)) (hd : StD H6 d st) (hn : n ∈ st.map Prod.fst) (hlen : cs.length ≤ 100) (hns : ∀ c ∈ cs, c.ns.length ≤ 100)
    (fin : ∀ (cs' : List Cl) (H' : Hp), Le K H H' → H' yp = some (.lst ys) → GInv K H H' fd rs st cs' → (∀ c ∈ cs', c.la ≠ yp) → gsC cs' = grpAdd (key0 rs st n) n (gsC cs) → Z [some (.ref a), some (.ref d), some (.ref fd), some (vN n), some rv, some (.ref kt), x6, x7] H') :
    tDrop (tBM K "list" rAppend (tOp (rIxT K) (DT.tSetd (tVar 2) (tVar 5) (tTup (tCons (tVar 4) (tCons (tLst tNil) (tCons (tDGet (tVar 1) (tVar 3)) tNil))))) (tC (V.int 1))) (tCons (tVar 3) tNil)) { nx := Z, ct := Z, bk := B, rt := rt } [some (.ref a), some (.ref d), some (.ref fd), some (vN n), some rv, some (.ref kt), x6, x7] H6 := by
  have O := ordL (K := K)
  obtain ⟨od, hd⟩ := hd
  have sl : sizeLine = 16777216 := sizeLine_eq
  refine ⟨_, rfl, fd, rfl, .inr ⟨_, .inl G.dict⟩, _, rfl, _, rfl, Nat.zero_le _, fun l0 hl0 => ⟨_, rfl, _, rfl, d, .str (S (stOf st n)), rfl, .inl ⟨_, .inl (n : Int), .inr ⟨od, ?_⟩, rfl, (kvS_valV hn).symm⟩, ?_, fun t0 ht0 => ?_⟩⟩
  · rw [upd_ne (ne_of_none hd hl0)]
    exact hd
  · show 3 ≤ sizeLine
    omega
  have e7 : Le K H6 (upd H6 l0 (.lst [])) := Le.new hl0
  have e8 : Le K (upd H6 l0 (.lst [])) (upd (upd H6 l0 (.lst [])) t0 (.tup [rv, .ref l0, .str (S (stOf st n))])) := Le.new ht0
  have e68 := e7.trans e8
  have G8 := G.le e68
  have hl8 : upd (upd H6 l0 (.lst [])) t0 (.tup [rv, .ref l0, .str (S (stOf st n))]) l0 = some (.lst []) := e8.keep _ _ upd_same fun _ z => (nomatch z)
  have ht8 : upd (upd H6 l0 (.lst [])) t0 (.tup [rv, .ref l0, .str (S (stOf st n))]) t0 = some (.tup [rv, .ref l0, .str (S (stOf st n))]) := upd_same
  have hla : ∀ c ∈ cs, c.la ≠ l0 := fun c hc => ne_of_none (G.lst c hc) hl0
  have hy8 := e68.keep _ _ hy fun _ z => (nomatch z)
  have hk8 := e68.keep _ _ hk fun _ z => (nomatch z)
  have hr8 := O.rowV hr e68
  have eH8 := eH.trans e68
  have l00 : H l0 = none := eH.free hl0
  have yl0 : yp ≠ l0 := ne_of_none hy hl0
  generalize upd (upd H6 l0 (.lst [])) t0 (.tup [rv, .ref l0, .str (S (stOf st n))]) = H8 at G8 hl8 ht8 hy8 hk8 hr8 eH8 ⊢
  have hcl : (kvC cs).length = cs.length := List.length_map ..
  refine ⟨kvC cs, keyP (key0 rs st n), kt, G8.dict, rfl, hk8, by omega, fun v hv => ?_, fun hv => ?_⟩
  · obtain ⟨c0, h0, ek, rfl⟩ := kvC_some hv
    have hlst := G8.lst c0 h0
    have hnn := hns c0 h0
    refine ⟨c0.ta, _, 1, .ref c0.la, rfl, rfl, .inl (.inl (G8.tup c0 h0)), rfl, .inl ⟨rfl, _, .inl (.inl hlst)⟩, _, rfl, c0.la, _, vN n, rfl, rfl, hlst, by rw [List.length_map]; omega, ?_⟩
    refine fin (cs.map (addC c0.k n)) _ (O.wr eH8 (G8.new c0 h0) hlst rfl) ?_ (G8.app h0 n) ?_ (by rw [gsC_add h0, ek])
    · rw [upd_ne (Ne.symm (hcy c0 h0))]
      exact hy8
    · intro c hc
      obtain ⟨q, hq, rfl⟩ := List.mem_map.mp hc
      rw [addC_la]
      exact hcy q hq
  · have hk := kvC_none hv
    have hld : l0 ≠ fd := ne_of hl8 G8.dict (fun z => nomatch z)
    have hl9 : upd H8 fd (.dT (putK (kvC cs) (keyP (key0 rs st n)) (.ref t0))) l0 = some (.lst []) := by
      rw [upd_ne hld]
      exact hl8
    have ht9 : upd H8 fd (.dT (putK (kvC cs) (keyP (key0 rs st n)) (.ref t0))) t0 = some (.tup [rv, .ref l0, .str (S (stOf st n))]) := soft_ne G8.dict rfl ht8 rfl
    refine ⟨t0, _, 1, .ref l0, rfl, rfl, .inl (.inl ht9), rfl, .inl ⟨rfl, _, .inl (.inl hl9)⟩, _, rfl, l0, _, vN n, rfl, rfl, hl9, by show 0 < _; omega, ?_⟩
    have e9 : Le K H (upd H8 fd (.dT (putK (kvC cs) (keyP (key0 rs st n)) (.ref t0)))) := O.wr eH8 G8.d0 G8.dict rfl
    have G9 := G8.snoc hk hl8 l00 hla ht8 hr8
    rw [← putK_new (.ref t0) hv] at G9
    refine fin (cs ++ [⟨key0 rs st n, [n], rv, t0, l0⟩]) (upd (upd H8 fd (.dT (putK (kvC cs) (keyP (key0 rs st n)) (.ref t0)))) l0 (.lst [vN n])) (O.wr e9 l00 hl9 rfl) ?_ G9 ?_ (gsC_new hk n rv t0 l0)
    · rw [upd_ne yl0, upd_ne (ne_of hy8 G8.dict (fun z => nomatch z))]
      exact hy8
    · intro c hc
      rcases List.mem_append.mp hc with hc | hc
      · exact hcy c hc
      · rw [List.mem_singleton.mp hc]
        exact Ne.symm yl0
def spFold (K : PySem.W.Frag) : Sp := fun vs H Q _ => ∃ (a d : Addr) (rs : List Rw) (st : St1), vs = [.ref a, .ref d] ∧ RowsT K H a rs ∧ rs.length ≤ 60 ∧ UpR rs ∧ StD H d st ∧ StOk st ∧ TbOk K H ∧
  ∀ H' p, Le K H H' → SqT K H' p (strsV (linesM rs st (numsM st))) → Q (.ref p) H'
section
variable {w : World} {K : PySem.W.Frag} {mg : Str → Option Value} {base : Heap}
theorem ok_fold_states (T : Tz K mg base) : Fk Er.PRG w K mg base "fold_states" 8 ["rows", "states"] (spFold K) := by
  refine Fk.mk0 T.g_fold_states T.d_fold_states sc_fold_states (fun vs H Q E h => ?_) (fun _ _ _ _ _ _ us hl => match us, hl with | [_, _], _ => rfl) fun cdv A outer s H vs Q E hr h => ⟨_,
      (pss_cons (ps_expr (pe_f (ok_require_rows T.toTy) (hr.mono (by decide)) (pa_cons (pv 0) pa_nil)))
      (pss_cons (ps_if (pt_not (pt_val (pe_f (ok_are_states T.toTy.toTx) (hr.mono (by decide)) (pa_cons (pv 1) pa_nil)))) (pss_one ps_never) pss_nil)
      (pss_cons (ps_set (i := 2) sc_fold_states.nd rfl (Or.inl rfl) pe_dnewT)
      (pss_cons (ps_for PassesOwn.never rfl (pi_list (pe_callB (call_sortedDI rfl) (by rfl) T.m_sorted (by decide +kernel) (pa_cons (pv 1) pa_nil))) (pg_name (i := 3) sc_fold_states.nd rfl (Or.inl rfl)) (pss_cons (ps_set (i := 4) sc_fold_states.nd rfl (Or.inl rfl) (pe_f (ok_row_with T) (hr.mono (by decide)) (pa_cons (pv 0) (pa_cons (pv 3) pa_nil))))
      (pss_cons (ps_set (i := 5) sc_fold_states.nd rfl (Or.inl rfl) (pe_ifExp (pt_cmpR op_isN (pv 4) pe_non (nomark _)) (pe_tup (pa_cons (pv 3) (pa_cons pe_str pa_nil))) (pe_tup (pa_cons (pe_first T.toTy (pv 4) (hr.mono (by decide))) (pa_cons (pe_dget (hu_of hr) (pv 1) (pv 3) (fun _ _ => rfl)) pa_nil)))))
      (pss_one (ps_expr (pe_bm PySem.F.plainAttrs_list PySem.F.slot_list_append PySem.F.type_list_append mt_append (pe_ix ix_tup (DT.pe_setd (hu_of hr) (pv 2) (pv 5) (pe_tup (pa_cons (pv 4) (pa_cons (pe_lst pa_nil) (pa_cons (pe_dget (hu_of hr) (pv 1) (pv 3) (fun _ _ => rfl)) pa_nil)))) ⟨rfl, rfl, rfl, rfl⟩) pe_int (fun _ _ => rfl)) (pa_cons (pv 3) pa_nil)))))))
      (pss_one (ps_ret (pe_callTy call_tuple_of (by rfl) T.m_tuple (by decide +kernel) (pa_cons (pe_lc (own := [("row", 4), ("numbers", 6), ("state", 7)]) (g := gTup K 3 (gCons (gName 4) (gCons (gName 6) (gCons (gName 7) (gNil))))) rfl sc_fold_states.nd (DT.pi_vals (pe_still (pv 2))) (blkOk_by (own := [("row", 4), ("numbers", 6), ("state", 7)]) (N := N_fold_states) (sc := defScope s_fold_states) (by decide +kernel)) (fun _ _ _ _ _ => (pg_tup rfl (pgs_cons (pg_name (i := 4) sc_fold_states.nd rfl (Or.inl rfl)) (pgs_cons (pg_name (i := 6) sc_fold_states.nd rfl (Or.inl rfl)) (pgs_cons (pg_name (i := 7) sc_fold_states.nd rfl (Or.inl rfl)) pgs_nil))))) (fun _ _ _ _ _ => pts_nil) (fun _ _ _ _ _ => (pe_f (ok_line_of T) (hr.mono (by decide)) (pa_cons (pv 4) (pa_cons (pv 6) (pa_cons (pv 7) pa_nil)))))) pa_nil)))))))), ?_⟩
  · obtain ⟨_, _, _, _, rfl, _⟩ := h
    rfl
  · obtain ⟨a, d, rs, st, rfl, R, hl60, up, sd, ok, tb, q⟩ := h
    have O := ordL (K := K)
    refine ⟨_, rfl, a, rs, rfl, R, hl60, up, fun H1 e1 => ?_⟩
    refine ⟨_, rfl, d, st, rfl, ordS (K := K) |>.std sd e1, ok, fun H2 e2 => ⟨_, rfl, ifF rfl ?_⟩⟩
    have e12 : Same H H2 := e1.trans e2
    obtain ⟨od, hd⟩ := (ordS (K := K)).std sd e12
    refine fun fd hfd => ?_
    refine ⟨_, rfl, d, kvS st, st.map fun p => (p.1 : Int), rfl, .inr ⟨od, ?_⟩, ?_, ?_, fun ys yp hperm hup hyp => ?_⟩
    · rw [upd_ne (ne_of_none hd hfd)]
      exact hd
    · unfold kvS
      rw [List.map_map, List.map_map]
      rfl
    · rw [List.length_map]
      have := ok.len
      omega
    have hys : ys = (numsM st).map fun n : Nat => (n : Int) := sorted_back ok.keys (by rw [List.map_map]; exact hperm) hup
    subst hys
    have hmap : ((numsM st).map fun n : Nat => (n : Int)).map V.int = (numsM st).map vN := by
      rw [List.map_map]
      rfl
    rw [hmap]
    have fd0 : H fd = none := e12.free hfd
    have yf : yp ≠ fd := fun z => by
      rw [z, upd_same] at hyp
      cases hyp
    have yp0 : H yp = none := by
      rw [upd_ne yf] at hyp
      exact e12.free hyp
    have eL : Le K H (upd (upd H2 fd (.dT [])) yp (.lst ((numsM st).map vN))) := (e12.le.trans (Le.new hfd)).trans (Le.new hyp)
    refine ⟨yp, rfl, ⟨_, .inl (.inl upd_same)⟩, ?_⟩
    refine for_it (walk_list (K := K) (xs := (numsM st).map vN)) (fun i σ H' => ∃ (x3 x4 x5 x6 x7 : Option V) (cs : List Cl), σ = [some (.ref a), some (.ref d), some (.ref fd), x3, x4, x5, x6, x7] ∧ Le K H H' ∧ H' yp = some (.lst ((numsM st).map vN)) ∧ GInv K H H' fd rs st cs ∧ (∀ c ∈ cs, c.la ≠ yp) ∧ gsC cs = grps (key0 rs st) ((numsM st).take i)) ?_ (fun _ _ _ _ ⟨_, _, _, _, _, _, _, _, hy, _⟩ => .inl (.inl hy)) (fun i x σ H3 H4 hi pv hy => ?_) fun σ H3 pv => ?_
    · refine ⟨_, _, _, _, _, [], rfl, eL, upd_same, ⟨fd0, ?_, fun _ h => absurd h List.not_mem_nil, fun _ h => absurd h List.not_mem_nil, fun _ h => absurd h List.not_mem_nil, fun _ h => absurd h List.not_mem_nil, fun _ h => absurd h List.not_mem_nil, fun _ h => absurd h List.not_mem_nil, fun _ h => absurd h List.not_mem_nil⟩, fun _ h => absurd h List.not_mem_nil, rfl⟩
      rw [upd_ne (Ne.symm yf), upd_same]
      rfl
    · obtain ⟨x3, x4, x5, x6, x7, cs, rfl, eH, hyl, G, hcy, hgs⟩ := pv
      obtain ⟨rfl, hx⟩ := hy
      obtain ⟨n, hn, rfl⟩ := map_get hx
      have hnl := numsM_len st ok
      have hst60 := ok.len
      have hmem : n ∈ st.map Prod.fst := mem_sortU.mp (List.mem_of_getElem? hn)
      obtain ⟨pn, hpn, epn⟩ := List.mem_map.mp hmem
      have hn1 : n ≤ 1000000 := by
        rw [← epn]
        exact (ok.num pn hpn).2
      have hcl : cs.length ≤ 100 := by
        have h1 := grps_len (key0 rs st) ((numsM st).take i)
        rw [← hgs] at h1
        unfold gsC at h1
        rw [List.length_map, List.length_take] at h1
        omega
      have hcn : ∀ c ∈ cs, c.ns.length ≤ 100 := fun c hc => by
        have h1 := (grps_ok (key0 rs st) ((numsM st).take i)).sub (c.k, c.ns) (by rw [← hgs]; exact List.mem_map.mpr ⟨c, hc, rfl⟩)
        have h2 := h1.length_le
        rw [List.length_take] at h2
        have h2 : c.ns.length ≤ min i (numsM st).length := h2
        omega
      have hnext : grps (key0 rs st) ((numsM st).take (i + 1)) = grpAdd (key0 rs st n) n (grps (key0 rs st) ((numsM st).take i)) := by
        rw [List.take_succ, hn]
        exact grps_snoc _ _ _
      refine ⟨_, rfl, _, rfl, a, rs, n, rfl, O.rows R eH, eH.tabs tb, hn1, givesRow_of fun H5 rv e5 hrv => ?_⟩
      have eH5 := eH.trans e5
      have step : ∀ kt, H5 kt = none → ∀ (Z B : L2.St → Hp → Prop) (rt : VK), (∀ (cs' : List Cl) (H' : Hp), Le K H H' → H' yp = some (.lst ((numsM st).map vN)) → GInv K H H' fd rs st cs' → (∀ c ∈ cs', c.la ≠ yp) → gsC cs' = grpAdd (key0 rs st n) n (gsC cs) → Z [some (.ref a), some (.ref d), some (.ref fd), some (vN n), some rv, some (.ref kt), x6, x7] H') →
          tDrop (tBM K "list" rAppend (tOp (rIxT K) (DT.tSetd (tVar 2) (tVar 5) (tTup (tCons (tVar 4) (tCons (tLst tNil) (tCons (tDGet (tVar 1) (tVar 3)) tNil))))) (tC (V.int 1))) (tCons (tVar 3) tNil)) { nx := Z, ct := Z, bk := B, rt := rt } [some (.ref a), some (.ref d), some (.ref fd), some (vN n), some rv, some (.ref kt), x6, x7] (upd H5 kt (.tup ((keyP (key0 rs st n)).map kV))) := fun kt hkt Z B rt hZ =>
        have e6 : Le K H5 (upd H5 kt (.tup ((keyP (key0 rs st n)).map kV))) := Le.new hkt
        fold_step (eH5.trans e6) yp0 ((e5.trans e6).keep _ _ hyl fun _ z => (nomatch z)) (G.le (e5.trans e6)) hcy upd_same (O.rowV hrv e6) (O.std sd (eH5.trans e6)) hmem hcl hcn hZ
      have done : ∀ kt (cs' : List Cl) (H' : Hp), Le K H H' → H' yp = some (.lst ((numsM st).map vN)) → GInv K H H' fd rs st cs' → (∀ c ∈ cs', c.la ≠ yp) → gsC cs' = grpAdd (key0 rs st n) n (gsC cs) →
          ∃ (x3 x4 x5 x6' x7' : Option V) (cs : List Cl), [some (.ref a), some (.ref d), some (.ref fd), some (vN n), some rv, some (V.ref kt), x6, x7] = [some (.ref a), some (.ref d), some (.ref fd), x3, x4, x5, x6', x7'] ∧ Le K H H' ∧ H' yp = some (.lst ((numsM st).map vN)) ∧ GInv K H H' fd rs st cs ∧ (∀ c ∈ cs, c.la ≠ yp) ∧ gsC cs = grps (key0 rs st) ((numsM st).take (i + 1)) :=
        fun kt cs' H' h1 h2 h3 h4 h5 => ⟨_, _, _, _, _, cs', rfl, h1, h2, h3, h4, by rw [h5, hgs, hnext]⟩
      have sl : sizeLine = 16777216 := sizeLine_eq
      cases hro : rowOf rs n with
      | none =>
        have hk0 : (keyP (key0 rs st n)).map kV = [vN n, .str (Str.ofString "")] := by
          unfold key0
          rw [hro, ← S_nil]
          rfl
        rw [hk0] at step
        rw [hro] at hrv
        obtain rfl : rv = .non := hrv
        exact ⟨_, rfl, rfl, _, rfl, ifT rfl ⟨_, rfl, by show 2 ≤ sizeLine; omega, fun kt hkt => step kt hkt _ _ _ (done kt)⟩⟩
      | some r =>
        rw [hro] at hrv
        obtain ⟨p, rfl, R5⟩ := hrv
        obtain ⟨dx, vs, t1, t2, h1, _⟩ := _root_.id R5.at_
        have hk0 : (keyP (key0 rs st n)).map kV = [vN r.1, .str (S (stOf st n))] := by
          unfold key0
          rw [hro]
          rfl
        rw [hk0] at step
        obtain ⟨o5, hd5⟩ := O.std sd eH5
        exact ⟨_, rfl, rfl, _, rfl, ifF rfl ⟨_, rfl, p, dx, vs, rfl, h1, p, r.1, r.2, rfl, R5, _, rfl, _, rfl, d, .str (S (stOf st n)), rfl, .inl ⟨_, .inl (n : Int), .inr ⟨o5, hd5⟩, rfl, (kvS_valV hmem).symm⟩, by show 2 ≤ sizeLine; omega, fun kt hkt => step kt hkt _ _ _ (done kt)⟩⟩
    · obtain ⟨x3, x4, x5, x6, x7, cs, rfl, eH, hyl, G, hcy, hgs⟩ := pv
      have hgs : gsC cs = grps (key0 rs st) (numsM st) := by
        rw [hgs, List.length_map, List.take_length]
      have gok := grps_ok (key0 rs st) (numsM st)
      rw [← hgs] at gok
      have hrl : ∀ r ∈ rs, 1 ≤ r.2.length := fun r hr => by
        obtain ⟨ps, hS, hl, hR⟩ := R.ex
        obtain ⟨j, hj, z⟩ := List.getElem_of_mem hr
        exact (hR j (ps[j]'(by rw [hl]; exact hj)) r (List.getElem?_eq_getElem _) (by rw [List.getElem?_eq_getElem hj, z])).ix.lo
      have hcl : cs.length ≤ 100 := by
        have h1 := grps_len (key0 rs st) (numsM st)
        rw [← hgs] at h1
        unfold gsC at h1
        rw [List.length_map, numsM_len st ok] at h1
        have := ok.len
        omega
      refine ⟨_, rfl, fd, _, rfl, G.dict, True.intro, fun od => ⟨fd, od, kvC cs, rfl, upd_same, fun D hD => ?_⟩⟩
      have eF : Le K H (upd H3 fd (.frz od (.dT (kvC cs)))) := O.wr eH fd0 G.dict rfl
      have Ft : ∀ c ∈ cs, upd H3 fd (.frz od (.dT (kvC cs))) c.ta = some (.tup [c.rv, .ref c.la, .str (S (stOf st (c.ns.headD 0)))]) := fun c hc => soft_ne G.dict rfl (G.tup c hc) rfl
      have Fl : ∀ c ∈ cs, upd H3 fd (.frz od (.dT (kvC cs))) c.la = some (.lst (c.ns.map vN)) := fun c hc => by
        rw [upd_ne (ne_of (G.lst c hc) G.dict (fun z => nomatch z))]
        exact G.lst c hc
      have Fr : ∀ c ∈ cs, RowV K (upd H3 fd (.frz od (.dT (kvC cs)))) c.rv (rowOf rs (c.ns.headD 0)) := fun c hc => soft_rowV G.dict rfl (G.row c hc)
      have Fd : upd H3 fd (.frz od (.dT (kvC cs))) fd = some (.frz od (.dT (kvC cs))) := upd_same
      generalize upd H3 fd (.frz od (.dT (kvC cs))) = HF at hD eF Ft Fl Fr Fd ⊢
      refine lc_pure O (DT.walk_vals) (fun i => (cs[i]?).map fun c => .str (S (lineM (rowOf rs (c.ns.headD 0)) c.ns (stOf st (c.ns.headD 0))))) hD (by unfold kvC; rw [List.length_map]; omega) (fun H4 e => O.keep e _ _ Fd fun _ z => (nomatch z)) (fun i x H4 H5 Fin No hi e hy hF hN => ?_) fun H4 e hl1 => ?_
      · obtain ⟨rfl, k, hk⟩ := hy
        obtain ⟨c, hc, ec⟩ : ∃ c, cs[i]? = some c ∧ (keyP c.k, V.ref c.ta) = (k, x) := by
          unfold kvC at hk
          rw [List.getElem?_map] at hk
          cases e : cs[i]? with
          | none => rw [e] at hk; cases hk
          | some c => rw [e] at hk; exact ⟨c, rfl, Option.some.inj hk⟩
        obtain rfl : V.ref c.ta = x := congrArg Prod.snd ec
        have hm := List.mem_of_getElem? hc
        have hg : (c.k, c.ns) ∈ grps (key0 rs st) (numsM st) := by
          rw [← hgs]
          exact List.mem_map.mpr ⟨c, hm, rfl⟩
        have nk := numsOk up hrl ok hg
        have hh : c.ns.headD 0 ∈ st.map Prod.fst := by
          refine mem_sortU.mp (((grps_ok (key0 rs st) (numsM st)).sub _ hg).subset ?_)
          show c.ns.headD 0 ∈ c.ns
          cases e : c.ns with
          | nil => exact absurd e (G.ne c hm)
          | cons a r => exact List.mem_cons_self ..
        have hw := wordB_len (stOf_word ok hh)
        have ht5 := O.keep e _ _ (Ft c hm) fun _ z => (nomatch z)
        have hl5 := O.keep e _ _ (Fl c hm) fun _ z => (nomatch z)
        refine ⟨_, _, rfl, .of ht5, rfl, _, _, rfl, _, _, rfl, _, _, rfl, rfl, rfl, ⟨_, rfl, _, rfl, _, rfl, rowOf rs (c.ns.headD 0), c.rv, c.la, c.ns, stOf st (c.ns.headD 0), rfl, O.rowV (Fr c hm) e, .inl (.inl hl5), nk, by omega, (eF.trans e).tabs tb, fun H6 e6 => hF _ _ ?_ e6⟩⟩
        rw [hc]
        rfl
      · have hq : SqL K H4 D (strsV (linesM rs st (numsM st))) := by
          refine .inl (.inl (hl1.trans ?_))
          congr 2
          rw [show (kvC cs).length = cs.length from List.length_map .., fm_map cs fun c => V.str (S (lineM (rowOf rs (c.ns.headD 0)) c.ns (stOf st (c.ns.headD 0))))]
          unfold strsV linesM
          rw [← hgs]
          unfold gsC
          rw [List.map_map, List.map_map]
          rfl
        exact ⟨D, _, rfl, .inl ⟨hq, fun p hp => q _ _ ((eF.trans e).trans (Le.new hp)) (.inl (.inl upd_same))⟩⟩
end
end K28

set_option Elab.async false
set_option linter.all false
set_option maxRecDepth 100000
set_option maxHeartbeats 4000000
/-! for i, x in enumerate(tuple), enumerate(text) -/
namespace En
open PySem PySem.Spec PyProof.Rows L2 K28
/-- the items of xs with their places, each in a new pair, while G stands -/
def ItE (G : Hp → Prop) (xs : List V) : It :=
  ⟨fun i H => G H ∧ i < xs.length, fun i H v H' => ∃ T x, v = .ref T ∧ H T = none ∧ H' = upd H T (.tup [.int (i : Nat), x]) ∧ xs[i]? = some x, fun i H => G H ∧ xs.length = i⟩
theorem walk_en {G : Hp → Prop} {xs : List V} : Walk (ItE G xs) xs.length G (fun i H v H' => ∃ T x, v = .ref T ∧ H T = none ∧ H' = upd H T (.tup [.int (i : Nat), x]) ∧ xs[i]? = some x) :=
  ⟨fun _ _ hi q => ⟨q, hi⟩, fun _ q => ⟨q, rfl⟩, fun _ _ _ _ _ _ y => y⟩
/-- what draws the items -/
structure Drw (P : Program) (w : World) (K : PySem.W.Frag) (G : Hp → Prop) (xs : List V) (it : Addr) (R : Nat → Heap → Prop) : Prop where
  obj : ∀ i h, R i h → ∃ o, h.get? it = some o ∧ ∀ v, o.data ≠ .cell v
  keep : ∀ i h h', R i h → (∀ o, h.get? it = some o → h'.get? it = some o) → R i h'
  dr : ∀ (X : Cx), X.prog = P → X.w = w → X.K = K → X.calm = true → ∀ (i : Nat) (pins : List (Addr × Obj)) (s : Shared) (σ : L2.St) (H : Hp), Inv X pins σ H s → H it = none → G H → R i s.heap →
    ∃ (fp : List Addr) (Pv : Nat → Value → Prop) (St : Nat → Heap → Prop), Draws P w X.A.in1 it fp xs.length Pv St ∧ St i s.heap ∧ (∀ j h, St j h → R j h) ∧ (∀ j v, Pv j v → ∃ x, xs[j]? = some x ∧ RelV x v) ∧ ∀ (e : Addr) (c : Int) (old : Value), e ≠ it → IsEnum s.heap e it c old → e ∉ fp
theorem turn_en {P : Program} {w : World} {K : PySem.W.Frag} {elts : List Expr} {kk : Nat} {tpos : Pos} {G : Hp → Prop} {xs : List V} {e it : Addr} {R : Nat → Heap → Prop} (D : Drw P w K G xs it R) :
    Turn P w K (.Tuple elts kk tpos) (ItE G xs) [e, it] e (fun i h => (∃ old, IsEnum h e it ((i : Nat) : Int) old) ∧ R i h ∧ e ≠ it) where
  mem := by simp
  obj := fun i h st b hb => by
    obtain ⟨⟨old, he⟩, hR, _⟩ := st
    have e' : b = e ∨ b = it := by simpa using hb
    rcases e' with z | z
    · rw [z]; exact ⟨_, he, fun v q => nomatch q⟩
    · rw [z]; exact D.obj i h hR
  keep := fun i h h' st k => let ⟨⟨old, he⟩, hR, hne⟩ := st; ⟨⟨old, k e (by simp) _ he⟩, D.keep i h h' hR fun o q => k it (by simp) o q, hne⟩
  item := by
    intro X hP hw hK hc i pins s σ H E I hf st hg
    obtain ⟨⟨old, he⟩, hR, hne⟩ := st
    obtain ⟨hG, hi⟩ := hg
    obtain ⟨fp, Pv, St, Dr, st0, toR, rel, nfp⟩ := D.dr X hP hw hK hc i pins s σ H I (hf it (by simp)).1 hG hR
    subst hP hw hK
    have hel : e < s.heap.objs.size := Heap.lt_size he
    have hil : it < s.heap.objs.size := by obtain ⟨_, q, _⟩ := D.obj i _ hR; exact Heap.lt_size q
    refine wpAny_pyNext_enum_itemD Dr he st0 hi hne (nfp e _ _ hne he) fun u h' tk hu ho hit' hT hsz hk => ?_
    obtain ⟨x, hx, ru⟩ := rel i u hu
    refine ⟨_, rfl, wpAny_letOwnedTupleGo_enum (s := { s with heap := h', toks := tk + 1 }) ho fun h'' he' sb => ?_⟩
    have hT2 : h''.get? s.heap.objs.size = some { cls := .type "tuple", data := .seq #[.int i tk, u] } := (sb.2 _ (Nat.ne_of_gt hel)).trans hT
    have new : ObjOk X.prog X.w (upd H s.heap.objs.size (.tup [.int (i : Nat), x])) h'' s.heap.objs.size (.tup [.int (i : Nat), x]) :=
      ⟨by show 2 ≤ sizeLine; decide, [.int i tk, u], .cons ⟨_, rfl⟩ (.cons ru .nil), ⟨_, hT2, rfl, _, rfl⟩⟩
    have I1 : Inv X pins σ (upd H s.heap.objs.size (.tup [.int (i : Nat), x])) { s with heap := h'', toks := tk + 1 } :=
      I.turnedNew (ch := [e, it]) (fun b ob hb q => (sb.2 b (fun z => hb (by simp [z]))).trans (hk b ob (fun z => hb (by simp [z])) (fun z => hb (by simp [z])) q)) hf (Nat.le_refl _) new
    refine ⟨.ref s.heap.objs.size, _, I1, rfl, ⟨_, x, rfl, I.hok.fresh (Nat.le_refl _), rfl, hx⟩, ⟨⟨u, ?_⟩, D.keep _ _ _ (toR _ _ hit') fun o q => (sb.2 it (Ne.symm hne)).trans q, hne⟩, fun b hb => ?_⟩
    · have e1 : ((i + 1 : Nat) : Int) = (i : Int) + 1 := by omega
      rw [e1]; exact he'
    · have hb' : b < s.heap.objs.size := by
        have e' : b = e ∨ b = it := by simpa using hb
        rcases e' with z | z
        · rw [z]; exact hel
        · rw [z]; exact hil
      rw [upd_ne (Nat.ne_of_lt hb')]
      exact (hf b hb).1
  done := by
    intro X hP hw hK hc i pins s σ H E I hf st hg
    obtain ⟨⟨old, he⟩, hR, hne⟩ := st
    obtain ⟨hG, hi⟩ := hg
    obtain ⟨fp, Pv, St, Dr, st0, toR, rel, nfp⟩ := D.dr X hP hw hK hc i pins s σ H I (hf it (by simp)).1 hG hR
    subst hP hw hK
    obtain ⟨f0, f1, f2, f3, f4, f5⟩ := hf it (by simp)
    subst hi
    exact wpAny_pyNext_enum_endD Dr he st0 fun h' eb => ⟨rfl, I.turned (t' := s.toks) (fun b o hb q => eb b o hb q) f0 f1 f3 f4 f5⟩
  self := fun A i s Q E st h => let ⟨⟨_, he⟩, _⟩ := st; wpAny_pyIter_enum he h
/-- a tuple of ours -/
theorem drw_tup {P : Program} {w : World} {K : PySem.W.Frag} {a it : Addr} {xs : List V} (hat : a ≠ it) : Drw P w K (fun H => SqT K H a xs) xs it (fun i h => h.IsTupleIter it a i) where
  obj := fun i h ⟨o, ho, hc, hd⟩ => ⟨o, ho, fun v q => by rw [hd] at q; cases q⟩
  keep := fun i h h' hi k => hi.at fun o q => k o q
  dr := by
    intro X hP hw hK hc i pins s σ H I hit hG hR
    subst hP hw hK
    obtain ⟨its, rv, p, _⟩ := I.tuple hG
    have hn : its.toArray.size = xs.length := by rw [List.size_toArray, ← rv.length]
    have D := Draws.tuple (prog := X.prog) (w := X.w) (A := X.A.in1) (I.ok.hd hc) it a hat its.toArray
    rw [hn] at D
    refine ⟨_, _, _, D, ⟨hR, isTuple_of p⟩, fun j h q => q.1, fun j v hv => ?_, fun e c old he hn => ?_⟩
    · have hv : its[j]? = some v := by simpa using hv
      have hj : j < xs.length := by rw [rv.length]; exact (List.getElem?_eq_some_iff.mp hv).1
      obtain ⟨u, hu, r⟩ := rv.get (List.getElem?_eq_getElem hj)
      rw [hv] at hu
      cases hu
      exact ⟨_, List.getElem?_eq_getElem hj, r⟩
    · intro hm
      rcases List.mem_cons.mp hm with z | hm
      · exact he z
      · rw [List.mem_singleton.mp hm] at hn
        obtain ⟨o, ho, hc2, _⟩ := p
        unfold IsEnum at hn
        rw [hn] at ho
        cases ho
        exact absurd (Value.type.inj hc2) (by decide)
/-- a text -/
theorem drw_str {P : Program} {w : World} {K : PySem.W.Frag} {it : Addr} {z : List Nat} {t : Tok} : Drw P w K (fun _ => True) (z.map fun c => .str (K28.S [c])) it (fun i h => h.IsStrIter it (strIterType (K28.S z)) (K28.S z) t i) where
  obj := fun i h ⟨o, ho, hc, hd⟩ => ⟨o, ho, fun v q => by rw [hd] at q; cases q⟩
  keep := fun i h h' st k => let ⟨o, ho, r⟩ := st; ⟨o, k o ho, r⟩
  dr := by
    intro X hP hw hK hc i pins s σ H I hit hG hR
    subst hP hw hK
    have D := Draws.text (prog := X.prog) (w := X.w) (A := X.A.in1) (I.ok.hd hc) it (K28.S z) t
    have hn : (K28.S z).cps.size = (z.map fun c => V.str (K28.S [c])).length := by rw [List.length_map]; exact K28.S_len z
    rw [hn] at D
    refine ⟨_, _, _, D, hR, fun j h q => q, fun j v hv => ?_, fun e c old he hn hm => he (List.mem_singleton.mp hm)⟩
    obtain ⟨c, u, h1, rfl⟩ := hv
    have h2 : z[j]? = some c := by rw [← Array.getElem?_toList] at h1; exact h1
    exact ⟨.str (K28.S [c]), by rw [List.getElem?_map, h2] <;> rfl, ⟨u, rfl⟩⟩
set_option maxHeartbeats 8000000 in
theorem meets_enum {v : Value} {o : Obj} {H : Heap → Prop} (B : Begins v o H) :
    Meets (Builtin.«enumerate.__new__» ⟨[.type "enumerate", v], []⟩) (fun _ R s => H s.heap ∧
      R (.ok (.ret (.ref (s.heap.push o).objs.size))) { s with heap := (s.heap.push o).push { cls := .type "enumerate", data := .fields #[.none, .bool false, .ref s.heap.objs.size, rawInt 0, .none, .none] } }) :=
  .of_wp fun prog w A R s h => by
    obtain ⟨hp, g, d, tk, os⟩ := s; obtain ⟨h1, h⟩ := h
    have hsub := sub_enumerate
    have q1 : ∀ {A' : Around} {E : Value → Shared → Prop} {Q : Value → Shared → Prop}, Q (.ref hp.objs.size) ⟨hp.push o, g, d, tk, os⟩ → wpAny (model prog w) A' (pyIter v) Q E ⟨hp, g, d, tk, os⟩ :=
      fun q => B.iter prog w _ _ ⟨hp, g, d, tk, os⟩ _ h1 q
    wp_walk using q1
    refine wpAny_stack_any fun st => wpAny_pure ?_
    split
    · rename_i c _ _ _ _ _
      cases (c == Value.type "enumerate")
      · wp_walk using q1
        exact ⟨_, rfl, h⟩
      · wp_walk using q1
        exact ⟨_, rfl, h⟩
    · wp_walk using q1
      exact ⟨_, rfl, h⟩
theorem call_enum {prog : Program} {w : World} {A : Around} {E : Value → Shared → Prop} {s : Shared} {v : Value} {o : Obj} {H : Heap → Prop} {Q : Value → Shared → Prop} (B : Begins v o H) (h1 : H s.heap)
    (h : ∀ h', IsEnum h' (s.heap.objs.size + 1) s.heap.objs.size 0 .none → h'.get? s.heap.objs.size = some o → h'.objs.size = s.heap.objs.size + 2 →
      (∀ b o, s.heap.get? b = some o → h'.get? b = some o) → Q (.ref (s.heap.objs.size + 1)) { s with heap := h' }) :
    wpAny (model prog w) A (call (.type "enumerate") [v]) Q E s := by
  refine callType_new F.called_enumerate (by decide) (F.typeCall_enumerate_1 _) (F.newCall_enumerate_1 _) (fun obj => F.args_object_init_2 obj _) F.entry_enumerate_new
    (meets_enum B) ⟨h1, ?_⟩
  have hz : (s.heap.push o).objs.size = s.heap.objs.size + 1 := Heap.size_push ..
  show _ ∧ _
  rw [hz]
  have he : IsEnum ((s.heap.push o).push { cls := .type "enumerate", data := .fields #[.none, .bool false, .ref s.heap.objs.size, rawInt 0, .none, .none] }) (s.heap.objs.size + 1) s.heap.objs.size 0 .none := by
    have := Heap.get?_push_size (s.heap.push o) (o := { cls := .type "enumerate", data := .fields #[.none, .bool false, .ref s.heap.objs.size, rawInt 0, .none, .none] }) rfl
    rw [hz] at this; exact this
  refine ⟨⟨_, he, rfl⟩, h _ he (Heap.get?_push_of_some _ (Heap.get?_push_size _ B.free)) (by rw [Heap.size_push, hz]) fun b o x => Heap.get?_push_of_some _ (Heap.get?_push_of_some _ x)⟩
section
variable {X : Cx} {e : Expr} {ta : TA} {p pos tpos : Pos} {elts : List Expr} {kk : Nat}
/-- both cells are new -/
theorem en_fp {pins : List (Addr × Obj)} {σ : L2.St} {H1 : Hp} {s1 : Shared} (I1 : Inv X pins σ H1 s1) {b : Addr} (hb : b ∈ [s1.heap.objs.size + 1, s1.heap.objs.size]) : FpOk X pins H1 b := by
  have e' : b = s1.heap.objs.size + 1 ∨ b = s1.heap.objs.size := by simpa using hb
  have hle : s1.heap.objs.size ≤ b := by
    rcases e' with z | z
    · rw [z]; exact Nat.le_add_right _ _
    · rw [z]; exact Nat.le_refl _
  exact I1.fpOk hle (I1.hok.fresh hle)
def iEnT (K : PySem.W.Frag) (ta : TA) : TI := fun σ H R => ta σ H fun vs H1 => ∃ a xs, vs = [.ref a] ∧ SqT K H1 a xs ∧ R (ItE (fun H => SqT K H a xs) xs) H1
theorem pi_enT (hg : Gl X "enumerate") (hm : X.mg "enumerate" = none) (ha : PA X [e] ta) (hs : starEach [e] X.env = [(false, eval e X.env)] := by rfl) :
    PI X (.Tuple elts kk tpos) (.Call (.Name "enumerate" p) [e] [] pos) (iEnT X.K ta) := by
  refine ⟨fun pins s σ H R I h => ?_⟩
  refine Call_ (ld_blt I hg hm boot_enumerate (PyProof.Rows.callWith_type1 (thn (ha.run pos pins s σ H _ I h) fun us s1 ⟨vs, H1, I1, r1, q1⟩ => ?_) hs rfl))
  obtain ⟨a, xs, ex, hq, q⟩ := q1
  subst ex
  cases r1 with
  | cons r rr =>
    cases rr
    cases r
    obtain ⟨its, rv, p', hz⟩ := I1.tuple hq
    refine call_enum (begins_tuple a its.toArray) (isTuple_of p') fun h' he hit hsz hk => wpAny_pyIter_enum he ?_
    have I2 : Inv X pins σ H1 { s1 with heap := h' } := I1.kept (t' := s1.toks) hk
    have hal : a ≠ s1.heap.objs.size := by
      obtain ⟨o, ho, _⟩ := p'
      exact Nat.ne_of_lt (Heap.lt_size ho)
    exact ⟨s1.heap.objs.size + 1, [s1.heap.objs.size + 1, s1.heap.objs.size], _, _, H1, rfl, I2, turn_en (drw_tup hal), ⟨⟨.none, he⟩, ⟨_, hit, rfl, rfl⟩, Nat.succ_ne_self _⟩, fun b hb => en_fp I1 hb, q⟩
def iEnS (ta : TA) : TI := fun σ H R => ta σ H fun vs H1 => ∃ z, vs = [.str (K28.S z)] ∧ R (ItE (fun _ => True) (z.map fun c => .str (K28.S [c]))) H1
theorem pi_enS (hg : Gl X "enumerate") (hm : X.mg "enumerate" = none) (ha : PA X [e] ta) (hs : starEach [e] X.env = [(false, eval e X.env)] := by rfl) :
    PI X (.Tuple elts kk tpos) (.Call (.Name "enumerate" p) [e] [] pos) (iEnS ta) := by
  refine ⟨fun pins s σ H R I h => ?_⟩
  refine Call_ (ld_blt I hg hm boot_enumerate (PyProof.Rows.callWith_type1 (thn (ha.run pos pins s σ H _ I h) fun us s1 ⟨vs, H1, I1, r1, q1⟩ => ?_) hs rfl))
  obtain ⟨z, ex, q⟩ := q1
  subst ex
  cases r1 with
  | cons r rr =>
    cases rr
    obtain ⟨t, rfl⟩ := r
    refine call_enum (begins_text (K28.S z) t) trivial fun h' he hit hsz hk => wpAny_pyIter_enum he ?_
    have I2 : Inv X pins σ H1 { s1 with heap := h' } := I1.kept (t' := s1.toks) hk
    exact ⟨s1.heap.objs.size + 1, [s1.heap.objs.size + 1, s1.heap.objs.size], _, _, H1, rfl, I2, turn_en (drw_str (z := z) (t := t)), ⟨⟨.none, he⟩, ⟨_, hit, rfl, rfl⟩, Nat.succ_ne_self _⟩, fun b hb => en_fp I1 hb, q⟩
end
end En

set_option Elab.async false
set_option linter.all false
set_option maxRecDepth 100000
set_option maxHeartbeats 4000000
namespace K28
open PySem PySem.Spec PyProof.Rows L2
/-! ## what stands ahead of a sign, and behind it -/
def cutAt (c : Nat) : List Nat → List Nat
  | [] => []
  | x :: r => if x = c then [] else x :: cutAt c r
def behind (c : Nat) : List Nat → List Nat
  | [] => []
  | x :: r => if x = c then r else behind c r
theorem cutAt_eq {c : Nat} {l : List Nat} (h : c ∈ l) : l = cutAt c l ++ [c] ++ behind c l := by
  induction l with
  | nil => cases h
  | cons x r ih =>
    unfold cutAt behind
    by_cases e : x = c
    · rw [if_pos e, if_pos e, e]
      rfl
    · rw [if_neg e, if_neg e]
      have h2 : c ∈ r := by
        rcases List.mem_cons.mp h with z | z
        · exact absurd z.symm e
        · exact z
      have := ih h2
      show x :: r = x :: (cutAt c r ++ [c] ++ behind c r)
      rw [← this]
theorem cutAt_no {c : Nat} {l : List Nat} : c ∉ cutAt c l := by
  induction l with
  | nil => exact List.not_mem_nil
  | cons x r ih =>
    unfold cutAt
    split
    · exact List.not_mem_nil
    · rename_i e
      intro h
      rcases List.mem_cons.mp h with z | z
      · exact e z.symm
      · exact ih z
theorem cutAt_none {c : Nat} {l : List Nat} (h : c ∉ l) : cutAt c l = l ∧ behind c l = [] := by
  induction l with
  | nil => exact ⟨rfl, rfl⟩
  | cons x r ih =>
    have e : ¬ x = c := fun z => h (z ▸ List.mem_cons_self ..)
    have := ih fun z => h (List.mem_cons_of_mem _ z)
    unfold cutAt behind
    rw [if_neg e, if_neg e, this.1, this.2]
    exact ⟨rfl, rfl⟩
theorem cutAt_app {c : Nat} {a b : List Nat} (h : c ∉ a) : cutAt c (a ++ c :: b) = a ∧ behind c (a ++ c :: b) = b := by
  induction a with
  | nil =>
    rw [List.nil_append]
    unfold cutAt behind
    rw [if_pos rfl, if_pos rfl]
    exact ⟨rfl, rfl⟩
  | cons x r ih =>
    have e : ¬ x = c := fun z => h (z ▸ List.mem_cons_self ..)
    have := ih fun z => h (List.mem_cons_of_mem _ z)
    rw [List.cons_append]
    unfold cutAt behind
    rw [if_neg e, if_neg e, this.1, this.2]
    exact ⟨rfl, rfl⟩
theorem cut_len (c : Nat) (l : List Nat) : (cutAt c l).length ≤ l.length ∧ (behind c l).length ≤ l.length := by
  induction l with
  | nil => exact ⟨Nat.le_refl _, Nat.le_refl _⟩
  | cons x r ih =>
    unfold cutAt behind
    split
    · exact ⟨Nat.zero_le _, Nat.le_succ _⟩
    · exact ⟨Nat.succ_le_succ ih.1, Nat.le_succ_of_le ih.2⟩
theorem part_eq (c : Nat) (l : List Nat) : Txt.partition (S l) (S [c]) = (S (cutAt c l), S (if c ∈ l then [c] else []), S (behind c l)) := by
  by_cases h : c ∈ l
  · rw [if_pos h]
    have e := cutAt_eq h
    have p := TL.partition_app (y := S [c]) (s := c) (S := []) rfl (a := S (cutAt c l)) (b := S (behind c l)) cutAt_no
    rw [S_app, S_app, ← e] at p
    exact p
  · rw [if_neg h]
    obtain ⟨e1, e2⟩ := cutAt_none h
    rw [e1, e2]
    exact TL.partition_none (y := S [c]) (s := c) (S := []) rfl (a := S l) h
/-! ## what the beginning of a line tells -/
def ixOf (z : Nat) (ns : List Nat) : Nat := ns.findIdx (fun n => decide (n = z))
theorem ixOf_at {z : Nat} {ns : List Nat} (h : z ∈ ns) : ns[ixOf z ns]? = some z := by
  unfold ixOf
  have h1 : ns.findIdx (fun n => decide (n = z)) < ns.length := List.findIdx_lt_length_of_exists ⟨z, h, by simp⟩
  rw [List.getElem?_eq_getElem h1]
  have := List.findIdx_getElem (w := h1)
  rw [of_decide_eq_true this]
def toldN (rs : List Rw) (l : List Nat) : List Nat :=
  match plainM 7 1000000 (cutAt 46 l) with
  | none => []
  | some n =>
    if n = 0 then [] else if 46 ∈ l then
      match rowOf rs n with
      | none => []
      | some r => if r.1 = n ∧ (toldI (behind 46 l)).all (fun z => decide (z ∈ r.2)) = true then (toldI (behind 46 l)).map (fun z => r.1 + ixOf z r.2) else []
    else if (rowOf rs n).isNone = true then [n] else []
def spToldN (K : PySem.W.Frag) : Sp := fun vs H Q _ => ∃ (a : Addr) (rs : List Rw) (l : List Nat), vs = [.ref a, .str (S l)] ∧ RowsT K H a rs ∧ TbOk K H ∧ l.length ≤ 100000 ∧ ∀ H' p, Le K H H' → SqT K H' p ((toldN rs l).map vN) → Q (.ref p) H'
theorem plainM_le {k m : Nat} {l : List Nat} {n : Nat} (h : plainM k m l = some n) : n ≤ m := by
  unfold plainM at h
  split at h
  · split at h
    · cases h
    · rename_i z
      have e := Option.some.inj h
      rw [← e]
      exact Nat.le_of_not_lt fun q => z (.inr q)
  · cases h
theorem rangeN_lt {a b c z : Nat} (h : z ∈ rangeN a b c) : a ≤ z ∧ z < b := by
  unfold rangeN at h
  obtain ⟨i, hi, rfl⟩ := List.mem_map.mp h
  rw [List.mem_range] at hi
  by_cases hab : a < b
  · rw [if_pos hab] at hi
    have h1 : i * c ≤ (b - a - 1) / c * c := Nat.mul_le_mul_right _ (by omega)
    have h2 := Nat.div_mul_le_self (b - a - 1) c
    omega
  · rw [if_neg hab] at hi
    omega
theorem unfM_small {l ns : List Nat} (h : unfM l = some ns) : (∀ z ∈ ns, z ≤ 9999) ∧ ns.length ≤ 60 ∧ ns.Pairwise (· < ·) := by
  unfold unfM at h
  split at h
  · cases h
  · rename_i sps hs
    split at h
    · cases h
    · rename_i bs hb
      split at h
      · rename_i h60
        have e := Option.some.inj h
        subst e
        refine ⟨fun z hz => ?_, h60, sortU_up _⟩
        rw [mem_sortU] at hz
        unfold unionB at hz
        obtain ⟨b, hbm, hz⟩ := List.mem_flatMap.mp hz
        obtain ⟨h1, h2⟩ := allB_at hb
        obtain ⟨i, hi, rfl⟩ := List.getElem_of_mem hbm
        have h3 := h2 i (sps[i]'(by omega)) (List.getElem?_eq_getElem _)
        rw [List.getElem?_eq_getElem hi] at h3
        have h4 := boundsP_small (entriesP_ok hs _ (List.getElem_mem (by omega))) h3
        have := rangeN_lt hz
        omega
      · cases h
theorem toldI_small (l : List Nat) : (∀ z ∈ toldI l, z ≤ 9999) ∧ (toldI l).length ≤ 60 ∧ (toldI l).Pairwise (· < ·) := by
  unfold toldI
  split
  · cases h : unfM (inner l) with
    | none => exact ⟨fun z hz => absurd hz List.not_mem_nil, Nat.zero_le _, .nil⟩
    | some ns => exact unfM_small h
  · split
    · exact ⟨fun z hz => absurd hz List.not_mem_nil, Nat.zero_le _, .nil⟩
    · rename_i n h
      have := plainM_le h
      exact ⟨fun z hz => by rw [List.mem_singleton.mp hz]; exact this, by simp, List.pairwise_singleton ..⟩
theorem toldI_le (l : List Nat) : ∀ z ∈ toldI l, z ≤ 9999 := (toldI_small l).1
theorem toldI_len (l : List Nat) : (toldI l).length ≤ 60 := (toldI_small l).2.1
section
variable {w : World} {K : PySem.W.Frag} {mg : Str → Option Value} {base : Heap}
theorem ok_told_numbers (T : Tz K mg base) : Fk Er.PRG w K mg base "told_numbers" 8 ["rows", "head"] (spToldN K) := by
  refine Fk.mk0 T.g_told_numbers T.d_told_numbers sc_told_numbers (fun vs H Q E h => ?_) (fun _ _ _ _ _ _ us hl => match us, hl with | [_, _], _ => rfl) fun cdv A outer s H vs Q E hr h => ⟨_,
      (pss_cons (ps_asg (pe_partition (pv 1) pe_str) (pg_tup rfl (pgs_cons (pg_name (i := 2) sc_told_numbers.nd rfl (Or.inl rfl)) (pgs_cons (pg_name (i := 3) sc_told_numbers.nd rfl (Or.inl rfl)) (pgs_cons (pg_name (i := 4) sc_told_numbers.nd rfl (Or.inl rfl)) pgs_nil)))))
      (pss_cons (ps_set (i := 5) sc_told_numbers.nd rfl (Or.inl rfl) (pe_f (ok_plain_number T.toTy.toTx) (hr.mono (by decide)) (pa_cons (pv 2) (pa_cons (pe_gI T.i_MAX_NUMBER) pa_nil))))
      (pss_cons (ps_if (PW.pt (pw_or (pt_cmpR op_isN (pv 5) pe_non (nomark _)) (pw_or1 (pt_cmpR op_eq (pv 5) pe_int (nomark _))))) (pss_one (ps_ret (pe_tup pa_nil))) pss_nil)
      (pss_cons (ps_if (pt_cmpR op_eq (pv 3) pe_str (nomark _)) (pss_one (ps_ret (pe_ifExp (pt_cmpR op_isN (pe_f (ok_row_with T) (hr.mono (by decide)) (pa_cons (pv 0) (pa_cons (pv 5) pa_nil))) pe_non (nomark _)) (pe_tup (pa_cons (pv 5) pa_nil)) (pe_tup pa_nil)))) pss_nil)
      (pss_cons (ps_set (i := 6) sc_told_numbers.nd rfl (Or.inr rfl) (pe_f (ok_row_with T) (hr.mono (by decide)) (pa_cons (pv 0) (pa_cons (pv 5) pa_nil))))
      (pss_cons (ps_set (i := 7) sc_told_numbers.nd rfl (Or.inl rfl) (pe_f (ok_told_indices T.toTy) (hr.mono (by decide)) (pa_cons (pv 4) pa_nil)))
      (pss_cons (ps_if (PW.pt (pw_or (pt_cmpR op_isN (pv 6) pe_non (nomark _)) (pw_or (pt_cmpR op_ne (pe_first T.toTy (pv 6) (hr.mono (by decide))) (pv 5) (nomark _)) (pw_or1 (pt_not (pt_val (pe_callB (cr_all rfl) (by rfl) T.m_all (by decide +kernel) (pa_cons (pe_lc (own := [("index", 8)]) (g := gName 8) rfl sc_told_numbers.nd (pi_tup (pv 7)) (blkOk_by (own := [("index", 8)]) (N := N_told_numbers) (sc := defScope s_told_numbers) (by decide +kernel)) (fun _ _ _ _ _ => (pg_name (i := 8) sc_told_numbers.nd rfl (Or.inl rfl))) (fun _ _ _ _ _ => pts_nil) (fun _ _ _ _ _ => (pe_cmpR (show OpR _ _ (rIn K false) from op_in_seq) (pv 8) (pe_indices T.toTy (pv 6) (hr.mono (by decide))) (by first | rfl | with_unfolding_all rfl)))) pa_nil)))))))) (pss_one (ps_ret (pe_tup pa_nil))) pss_nil)
      (pss_one (ps_ret (pe_callTy call_tuple_of (by rfl) T.m_tuple (by decide +kernel) (pa_cons (pe_lc (own := [("index", 8)]) (g := gName 8) rfl sc_told_numbers.nd (pi_tup (pv 7)) (blkOk_by (own := [("index", 8)]) (N := N_told_numbers) (sc := defScope s_told_numbers) (by decide +kernel)) (fun _ _ _ _ _ => (pg_name (i := 8) sc_told_numbers.nd rfl (Or.inl rfl))) (fun _ _ _ _ _ => pts_nil) (fun _ _ _ _ _ => (SlX.pe_methSl (pv 6) T.row_c T.mt_number_of.1 (fr_number_of T.toTy) (hr.mono (by decide)) passL (pa_cons (pv 8) pa_nil)))) pa_nil))))))))))), ?_⟩
  · obtain ⟨_, _, _, rfl, _⟩ := h
    rfl
  · obtain ⟨a, rs, l, rfl, R, tb, hl, q⟩ := h
    have O := ordL (K := K)
    have sl : sizeLine = 16777216 := sizeLine_eq
    obtain ⟨c1, c2⟩ := cut_len 46 l
    refine ⟨_, rfl, ⟨_, rfl⟩, S l, S [46], rfl, rfl, rfl, sz_ok hl, fun p hp => ?_⟩
    have hpe := part_eq 46 l
    have hp1 : upd H p (.tup [.str (Txt.partition (S l) (S [46])).1, .str (Txt.partition (S l) (S [46])).2.1, .str (Txt.partition (S l) (S [46])).2.2]) p = some (.tup [.str (S (cutAt 46 l)), .str (S (if 46 ∈ l then [46] else [])), .str (S (behind 46 l))]) := by
      rw [upd_same, hpe]
    have e1 : Le K H (upd H p (.tup [.str (Txt.partition (S l) (S [46])).1, .str (Txt.partition (S l) (S [46])).2.1, .str (Txt.partition (S l) (S [46])).2.2])) := Le.new hp
    generalize upd H p (.tup [.str (Txt.partition (S l) (S [46])).1, .str (Txt.partition (S l) (S [46])).2.1, .str (Txt.partition (S l) (S [46])).2.2]) = H1 at hp1 e1 ⊢
    refine ⟨_, _, rfl, .of hp1, rfl, _, _, rfl, _, _, rfl, _, _, rfl, rfl, ?_⟩
    have emp : ∀ H2, Le K H H2 → toldN rs l = [] → ∀ p, H2 p = none → Q (.ref p) (upd H2 p (.tup [])) := fun H2 e2 h0 p hp => q _ p (e2.trans (Le.new hp)) (by rw [h0]; exact .of upd_same)
    refine ⟨_, rfl, cutAt 46 l, 7, 1000000, rfl, by omega, .inr ⟨rfl, rfl⟩, fun H2 e2 => ?_⟩
    have e12 := e1.trans e2.le
    refine ⟨_, rfl, rfl, _, rfl, ?_⟩
    cases hpn : plainM 7 1000000 (cutAt 46 l) with
    | none =>
      have h0 : toldN rs l = [] := by
        unfold toldN
        rw [hpn]
      exact ifT (decide_eq_true rfl) ⟨Nat.zero_le _, fun p hp => emp H2 e12 h0 p hp⟩
    | some n =>
      have hn6 := plainM_le hpn
      refine ifF (decide_eq_false fun z => nomatch z) ?_
      refine ⟨_, rfl, rfl, _, rfl, ?_⟩
      by_cases hn0 : n = 0
      · have h0 : toldN rs l = [] := by
          unfold toldN
          rw [hpn]
          exact if_pos hn0
        subst hn0
        exact ifT (decide_eq_true rfl) ⟨Nat.zero_le _, fun p hp => emp H2 e12 h0 p hp⟩
      refine ifF (decide_eq_false fun z => hn0 (by have z : V.int (n : Int) = V.int 0 := z; injection z with z; omega)) ?_
      refine ⟨_, rfl, rfl, _, rfl, ?_⟩
      have hdot : (V.str (S (if 46 ∈ l then [46] else [])) = V.str (Str.ofString "")) ↔ ¬ 46 ∈ l := by
        rw [← S_nil]
        by_cases hm : 46 ∈ l
        · rw [if_pos hm]
          exact ⟨fun z => absurd (S_inj (V.str.inj z)) (by simp), fun z => absurd hm z⟩
        · rw [if_neg hm]
          exact ⟨fun _ => hm, fun _ => rfl⟩
      by_cases hm : 46 ∈ l
      · have hN : toldN rs l = match rowOf rs n with
            | none => []
            | some r => if r.1 = n ∧ (toldI (behind 46 l)).all (fun z => decide (z ∈ r.2)) = true then (toldI (behind 46 l)).map (fun z => r.1 + ixOf z r.2) else [] := by
          unfold toldN
          rw [hpn]
          show (if n = 0 then _ else if 46 ∈ l then _ else _) = _
          rw [if_neg hn0, if_pos hm]
        refine ifF (decide_eq_false fun z => hdot.mp z hm) ?_
        refine ⟨_, rfl, _, rfl, a, rs, n, rfl, O.rows R e12, e12.tabs tb, hn6, givesRow_of fun H3 rv e3 hrv => ?_⟩
        have e13 := e12.trans e3
        refine ⟨_, rfl, behind 46 l, rfl, by omega, fun ip H4 e4 hip => ?_⟩
        have e14 := e13.trans e4.le
        refine ⟨_, rfl, rfl, _, rfl, ?_⟩
        cases hro : rowOf rs n with
        | none =>
          rw [hro] at hrv hN
          obtain rfl : rv = .non := hrv
          exact ifT (decide_eq_true rfl) ⟨Nat.zero_le _, fun p hp => emp H4 e14 hN p hp⟩
        | some r =>
          rw [hro] at hrv hN
          have hN : toldN rs l = if r.1 = n ∧ (toldI (behind 46 l)).all (fun z => decide (z ∈ r.2)) = true then (toldI (behind 46 l)).map (fun z => r.1 + ixOf z r.2) else [] := hN
          obtain ⟨rp, rfl, R3⟩ := hrv
          have R4 := (ordS (K := K)).row R3 e4
          obtain ⟨dx, vs, t1, t2, g1, _⟩ := _root_.id R4.at_
          have ti := toldI_small (behind 46 l)
          refine ifF (decide_eq_false fun z => nomatch z) ⟨_, rfl, rp, dx, vs, rfl, g1, rp, r.1, r.2, rfl, R4, _, rfl, rfl, _, rfl, ?_⟩
          by_cases hr1 : r.1 = n
          · refine ifF (by rw [hr1]; exact congrArg (fun b => !b) (decide_eq_true rfl)) ⟨_, rfl, ip, rfl, ⟨_, .inl (.inl hip)⟩, fun D hD => ?_⟩
            have OS := ordS (K := K)
            refine lc_pure OS (walk_tup (K := K)) (fun i => ((toldI (behind 46 l))[i]?).map fun z => V.bl (decide (z ∈ r.2))) hD (by rw [List.length_map]; omega) (fun H5 e => OS.sqT e (.inl (.inl hip))) (fun i x H5 H6 Fin No hi e hy hF hN => ?_) fun H5 e5 hl5 => ?_
            · obtain ⟨rfl, hx⟩ := hy
              obtain ⟨z, hz, rfl⟩ := map_get hx
              have R5 := OS.row R4 e
              obtain ⟨dx5, vs5, t15, t25, g5, _⟩ := _root_.id R5.at_
              refine ⟨rfl, ⟨_, rfl, _, rfl, rp, dx5, vs5, rfl, g5, rp, r.1, r.2, rfl, R5, fun t ht => ⟨t, _, rfl, .inr ht.1, rfl, flat_nat _, ?_⟩⟩⟩
              refine hF _ _ ?_ (Same.refl _)
              rw [hz, inV_nat]
              rfl
            · have e15 := e14.trans e5.le
              refine ⟨D, (toldI (behind 46 l)).map fun z => decide (z ∈ r.2), rfl, .of (hl5.trans ?_), _, rfl, ?_⟩
              · rw [List.length_map, fm_map (toldI (behind 46 l)) fun z => V.bl (decide (z ∈ r.2)), List.map_map]
                rfl
              · rw [List.all_map]
                by_cases hal : (toldI (behind 46 l)).all (fun z => decide (z ∈ r.2)) = true
                · rw [if_pos ⟨hr1, hal⟩] at hN
                  refine ifF (by rw [show (toldI (behind 46 l)).all (id ∘ fun z => decide (z ∈ r.2)) = (toldI (behind 46 l)).all (fun z => decide (z ∈ r.2)) from rfl, hal] <;> rfl) ?_
                  have hip5 : H5 ip = some (.tup ((toldI (behind 46 l)).map vN)) := OS.tup e5 hip
                  refine ⟨_, rfl, ip, rfl, ⟨_, .inl (.inl hip5)⟩, fun D2 hD2 => ?_⟩
                  refine lc_pure OS (walk_tup (K := K)) (fun i => ((toldI (behind 46 l))[i]?).map fun z => vN (r.1 + ixOf z r.2)) hD2 (by rw [List.length_map]; omega) (fun H6 e => OS.sqT e (.inl (.inl hip5))) (fun i x H6 H7 Fin No hi e hy hF hN => ?_) fun H6 e6 hl6 => ?_
                  · obtain ⟨rfl, hx⟩ := hy
                    obtain ⟨z, hz, rfl⟩ := map_get hx
                    have R5 := OS.row R4 (e5.trans e)
                    obtain ⟨dx5, vs5, t15, t25, g5, _⟩ := _root_.id R5.at_
                    have hzm : z ∈ r.2 := of_decide_eq_true (List.all_eq_true.mp hal z (List.mem_of_getElem? hz))
                    refine ⟨rfl, ⟨_, rfl, rp, dx5, vs5, rfl, g5, _, rfl, rp, r.1, r.2, ixOf z r.2, z, rfl, R5, ixOf_at hzm, ?_⟩⟩
                    refine hF _ _ ?_ (Same.refl _)
                    rw [hz]
                    rfl
                  · refine ⟨D2, _, rfl, .inl ⟨.of hl6, fun p hp => q _ p (e15.trans (e6.le.trans (Le.new hp))) ?_⟩⟩
                    rw [hN]
                    refine .of (upd_same.trans ?_)
                    rw [List.length_map, fm_map (toldI (behind 46 l)) fun z => vN (r.1 + ixOf z r.2), List.map_map]
                    rfl
                · rw [if_neg fun z => hal z.2] at hN
                  exact ifT (by rw [show (toldI (behind 46 l)).all (id ∘ fun z => decide (z ∈ r.2)) = (toldI (behind 46 l)).all (fun z => decide (z ∈ r.2)) from rfl, Bool.not_eq_true _ |>.mp hal] <;> rfl) ⟨Nat.zero_le _, fun p hp => emp H5 e15 hN p hp⟩
          · rw [if_neg fun z => hr1 z.1] at hN
            exact ifT (by rw [decide_eq_false fun z => hr1 (by have z : V.int (r.1 : Int) = V.int (n : Int) := z; injection z with z; omega)] <;> rfl) ⟨Nat.zero_le _, fun p hp => emp H4 e14 hN p hp⟩
      · have hN : toldN rs l = if (rowOf rs n).isNone = true then [n] else [] := by
          unfold toldN
          rw [hpn]
          show (if n = 0 then _ else if 46 ∈ l then _ else _) = _
          rw [if_neg hn0, if_neg hm]
        refine ifT (decide_eq_true (hdot.mpr hm)) ?_
        refine ⟨_, rfl, _, rfl, a, rs, n, rfl, O.rows R e12, e12.tabs tb, hn6, givesRow_of fun H3 rv e3 hrv => ⟨rfl, _, rfl, ?_⟩⟩
        have e13 := e12.trans e3
        cases hro : rowOf rs n with
        | none =>
          rw [hro] at hrv hN
          obtain rfl : rv = .non := hrv
          exact ifT (decide_eq_true rfl) ⟨_, rfl, by show 1 ≤ sizeLine; omega, fun p hp => q _ p (e13.trans (Le.new hp)) (by rw [hN]; exact .of upd_same)⟩
        | some r =>
          rw [hro] at hrv hN
          obtain ⟨rp, rfl, R3⟩ := hrv
          exact ifF (decide_eq_false fun z => nomatch z) ⟨Nat.zero_le _, fun p hp => emp H3 e13 hN p hp⟩
end
end K28

set_option Elab.async false
set_option linter.all false
set_option maxRecDepth 100000
set_option maxHeartbeats 4000000
/-! d.update(dict); dict comprehensions over anything walked -/
namespace DT
open PySem PySem.Spec PyProof.Rows L2
section
variable {X : Cx} {pins : List (Addr × Obj)} {σ : L2.St} {H : Hp} {s : Shared}
theorem upd_dd {a b : Addr} {kvs ls : List (Key × V)} {A : Around} {E : Value → Shared → Prop} {Q : Value → Shared → Prop} (I : Inv X pins σ H s) (ea : H a = some (.dK kvs)) (eb : H b = some (.dK ls)) (hab : a ≠ b) (hl : kvs.length + ls.length ≤ sizeLine)
    (h : ∀ s', Inv X pins σ (upd H a (.dK (mergeK kvs ls))) s' → Q .none s') : wpAny (model X.prog X.w) A (call (.builtin "dict.update") [.ref a, .ref b]) Q E s := by
  obtain ⟨y1, hd1, vs, rel1, dd1⟩ := dk_of I.hok ea
  obtain ⟨y2, hd2, us, rel2, dd2⟩ := dk_of I.hok eb
  have hm : (mergeK kvs ls).length ≤ sizeLine := Nat.le_trans (length_mergeK ls kvs) hl
  refine call_meetsIn PySem.F.slot_dict_update dd1.typeIs PySem.F.entry_dict_update (PySem.F.args_dict_update_2 _ _) (meets_dict_update (mixKind X.prog X.w) a b hab hd2)
    ⟨vs, us, dd1, dd2, by rw [← rel1.length, ← rel2.length]; exact hl, fun h' dd' _ hs => h _ ?_⟩
  have he : ∃ q, h'.get? a = some q := let ⟨q, _, _, hq, _⟩ := dd'; ⟨q, hq⟩
  exact d_write I (by rw [ea]; exact True.intro) hs he (dk_new hm hd1 (KV.merge rel2 rel1) dd')
end
/-- d.update(e), both dicts of ours -/
def tUpd (td tx : TE) : TE := fun σ H Q => td σ H fun x H1 => ∃ a, x = .ref a ∧ IsD H1 a ∧ tx σ H1 fun y H2 => ∃ (b : Addr) (kvs ls : List (Key × V)), y = .ref b ∧ H2 a = some (.dK kvs) ∧ H2 b = some (.dK ls) ∧ a ≠ b ∧ kvs.length + ls.length ≤ sizeLine ∧ Q .non (upd H2 a (.dK (mergeK kvs ls)))
section
variable {X : Cx} {o e : Expr} {td tx : TE} {apos cpos : Pos}
theorem pe_upd (ho : PE X o td) (he : PE X e tx) (m : M1 X o "update" apos e cpos) : PE X (.Call (.Attribute o "update" apos) [e] [] cpos) (tUpd td tx) := by
  refine ⟨fun pins s σ H Q I h => ?_⟩
  refine wpAny_Call_method m.base m.few m.line PySem.F.plainAttrs_dict PySem.F.slot_dict_update PySem.F.type_dict_update (thn (ho.run pins s σ H _ I h) fun u s1 ⟨x, H1, I1, rx, a, ex, d, q1⟩ => ?_)
  subst ex
  obtain rfl : u = Value.ref a := rx
  obtain ⟨t1, t2, _⟩ := isD_at I1 d
  refine ⟨t1, t2, ?_⟩
  rw [m.trees]
  refine Calls.callWith_builtin rfl (Calls.evalArgs_plain (Calls.spliced_cons (thn (he.run pins s1 σ H1 _ I1 q1) fun iv s2 ⟨y, H2, I2, ry, b, kvs, ls, ey, ea, eb, hab, hl, q2⟩ => Calls.spliced_nil ?_)))
  subst ey
  obtain rfl : iv = Value.ref b := ry
  exact upd_dd I2 ea eb hab hl fun s4 I4 => ⟨.non, _, I4, rfl, q2⟩
end
section
variable {J : It} {n : Nat} {G : Hp → Prop} {Y : Nat → Hp → V → Hp → Prop}
theorem dc_it (w : Walk J n G Y) {g : TG} {tt : TT} {tk tv : TE} {vs : List Nat} {σ : L2.St} {H1 : Hp} {D : Addr} {Qd : Hp → Prop} (Pv : Nat → Hp → Prop) (h0 : Pv 0 (upd H1 D (.dK []))) (hG : ∀ i H, i ≤ n → Pv i H → G H)
    (hs : ∀ i x H H', i < n → Pv i H → Y i H x H' → g x (wipe σ vs) H' fun σ2 H2 => wipe σ2 vs = wipe σ vs ∧ tt σ2 H2 fun b H3 =>
      if b = true then tk σ2 H3 fun y H4 => tv σ2 H4 fun z H5 => ∃ kvs k, y = kV k ∧ H5 D = some (.dK kvs) ∧ kvs.length < sizeLine ∧ Pv (i + 1) (upd H5 D (.dK (putK kvs k z))) else Pv (i + 1) H3) (hd : ∀ H, Pv n H → Qd H) :
    ∃ W : Nat → Nat → Hp → Prop, (∃ m, W 0 m (upd H1 D (.dK []))) ∧ ∀ i m H, W i m H →
      (J.stop i H ∧ Qd H) ∨ (J.go i H ∧ ∃ Nx : Hp → Prop, (∀ H', Nx H' → ∃ m', m' < m ∧ W (i + 1) m' H') ∧ ∀ x H', J.yld i H x H' → g x (wipe σ vs) H' fun σ2 H2 => wipe σ2 vs = wipe σ vs ∧ tt σ2 H2 fun b H3 =>
        if b = true then tk σ2 H3 fun y H4 => tv σ2 H4 fun z H5 => ∃ kvs k, y = kV k ∧ H5 D = some (.dK kvs) ∧ kvs.length < sizeLine ∧ Nx (upd H5 D (.dK (putK kvs k z))) else Nx H3) := by
  refine ⟨fun i m H => m = n - i ∧ i ≤ n ∧ Pv i H, ⟨n, by simp, Nat.zero_le _, h0⟩, ?_⟩
  rintro i m H ⟨rfl, hi, p⟩
  have q := hG i H hi p
  by_cases hlt : i < n
  · refine .inr ⟨w.goes i H hlt q, Pv (i + 1), fun H' p' => ⟨n - (i + 1), by omega, rfl, hlt, p'⟩, fun x H' y => hs i x H H' hlt p (w.yields i H x H' hlt q y)⟩
  · have e : i = n := by omega
    subst e
    exact .inl ⟨w.stops H q, hd H p⟩
end
end DT
namespace K28
open PySem PySem.Spec PyProof.Rows L2
/-! ## the states that lines tell -/
def lineN (rs : List Rw) (l : List Nat) : List Nat := if wordB (behind 32 l) = true then toldN rs (cutAt 32 l) else []
def hasS (f : St1) (n : Nat) : Bool := f.any fun p => decide (p.1 = n)
def readM (rs : List Rw) : List (List Nat) → Nat → St1 → Sum Nat St1
  | [], _, f => .inr f
  | l :: ls, i, f => if lineN rs l = [] ∨ (lineN rs l).any (hasS f) = true then .inl i else readM rs ls (i + 1) (f ++ (lineN rs l).map fun n => (n, behind 32 l))
theorem hasS_iff {f : St1} {n : Nat} : hasS f n = true ↔ n ∈ f.map Prod.fst := by
  unfold hasS
  rw [List.any_eq_true, List.mem_map]
  constructor
  · rintro ⟨p, h1, h2⟩
    exact ⟨p, h1, of_decide_eq_true h2⟩
  · rintro ⟨p, h1, h2⟩
    exact ⟨p, h1, decide_eq_true h2⟩
theorem kvS_isSome (f : St1) (n : Nat) : (valV (kvS f) (.inl (n : Int))).isSome = hasS f n := by
  by_cases h : n ∈ f.map Prod.fst
  · rw [kvS_valV h, hasS_iff.mpr h]
    rfl
  · rw [Bool.eq_iff_iff, hasS_iff]
    refine ⟨fun z => ?_, fun z => absurd z h⟩
    unfold valV kvS at z
    rw [Option.isSome_map, List.find?_isSome] at z
    obtain ⟨q, hq, e⟩ := z
    obtain ⟨p, hp, rfl⟩ := List.mem_map.mp hq
    have e : (Sum.inl (p.1 : Int) : Key) = .inl (n : Int) := of_decide_eq_true e
    injection e with e
    exact List.mem_map.mpr ⟨p, hp, by omega⟩
theorem putK_new1 {kvs : List (Key × V)} {k : Key} (v : V) (h : valV kvs k = none) : putK kvs k v = kvs ++ [(k, v)] := putK_new v h
theorem kvS_put {f : St1} {n : Nat} {w : List Nat} (h : n ∉ f.map Prod.fst) : putK (kvS f) (.inl (n : Int)) (.str (S w)) = kvS (f ++ [(n, w)]) := by
  have e : valV (kvS f) (.inl (n : Int)) = none := by
    have := kvS_isSome f n
    rw [Bool.eq_false_iff.mpr (fun z => h (hasS_iff.mp z))] at this
    exact Option.isNone_iff_eq_none.mp (by rw [← Option.not_isSome, this]; rfl)
  rw [putK_new1 _ e]
  unfold kvS
  rw [List.map_append]
  rfl
theorem kvS_merge : ∀ (g f : St1), (g.map Prod.fst).Nodup → (∀ p ∈ g, p.1 ∉ f.map Prod.fst) → mergeK (kvS f) (kvS g) = kvS (f ++ g)
  | [], f, _, _ => by rw [List.append_nil]; rfl
  | p :: g, f, hn, hd => by
    have h1 := hd p (List.mem_cons_self ..)
    rw [List.map_cons, List.nodup_cons] at hn
    have e : mergeK (kvS f) (kvS (p :: g)) = mergeK (putK (kvS f) (.inl (p.1 : Int)) (.str (S p.2))) (kvS g) := rfl
    rw [e, kvS_put h1, kvS_merge g (f ++ [(p.1, p.2)]) hn.2 fun q hq => ?_]
    · rw [List.append_assoc]
      rfl
    · rw [List.map_append, List.mem_append]
      rintro (z | z)
      · exact hd q (List.mem_cons_of_mem _ hq) z
      · have z : q.1 = p.1 := by simpa using z
        exact hn.1 (List.mem_map.mpr ⟨q, hq, z⟩)
/-! ### how many they are -/
def partsN (rs : List Rw) : List Nat := rs.flatMap fun r => (List.range r.2.length).map fun i => r.1 + i
theorem ixOf_lt {z : Nat} {ns : List Nat} (h : z ∈ ns) : ixOf z ns < ns.length := (List.getElem?_eq_some_iff.mp (ixOf_at h)).1
theorem ixOf_inj {z z' : Nat} {ns : List Nat} (h : z ∈ ns) (h' : z' ∈ ns) (e : ixOf z ns = ixOf z' ns) : z = z' := by
  have h1 := ixOf_at h
  rw [e, ixOf_at h'] at h1
  exact (Option.some.inj h1).symm
theorem toldN_cases (rs : List Rw) (l : List Nat) : (toldN rs l).Nodup ∧ ((∃ n, toldN rs l = [n] ∧ 1 ≤ n ∧ n ≤ 1000000 ∧ rowOf rs n = none) ∨ (toldN rs l = [] ∨ ∃ r ∈ rs, ∀ n ∈ toldN rs l, r.1 ≤ n ∧ n < r.1 + r.2.length)) := by
  unfold toldN
  split
  · exact ⟨List.nodup_nil, .inr (.inl rfl)⟩
  · rename_i n hn
    have := plainM_le hn
    split
    · exact ⟨List.nodup_nil, .inr (.inl rfl)⟩
    · split
      · split
        · exact ⟨List.nodup_nil, .inr (.inl rfl)⟩
        · rename_i r hr
          split
          · rename_i h2
            have hal := h2.2
            have hmem : ∀ z ∈ toldI (behind 46 l), z ∈ r.2 := fun z hz => of_decide_eq_true (List.all_eq_true.mp hal z hz)
            have hnd : (toldI (behind 46 l)).Nodup := (toldI_small (behind 46 l)).2.2.imp fun h => Nat.ne_of_lt h
            refine ⟨?_, .inr (.inr ⟨r, List.mem_of_find?_eq_some hr, fun m hm => ?_⟩)⟩
            · revert hmem hnd
              generalize toldI (behind 46 l) = zs
              intro hmem hnd
              induction zs with
              | nil => exact List.nodup_nil
              | cons z zs ih =>
                rw [List.nodup_cons] at hnd
                rw [List.map_cons, List.nodup_cons]
                refine ⟨fun hm => ?_, ih (fun y hy => hmem y (List.mem_cons_of_mem _ hy)) hnd.2⟩
                obtain ⟨y, hy, e⟩ := List.mem_map.mp hm
                exact hnd.1 (ixOf_inj (hmem y (List.mem_cons_of_mem _ hy)) (hmem z (List.mem_cons_self ..)) (by omega) ▸ hy)
            · obtain ⟨z, hz, rfl⟩ := List.mem_map.mp hm
              have := ixOf_lt (hmem z hz)
              omega
          · exact ⟨List.nodup_nil, .inr (.inl rfl)⟩
      · split
        · rename_i h0 h1 h2
          exact ⟨List.nodup_cons.mpr ⟨List.not_mem_nil, List.nodup_nil⟩, .inl ⟨n, rfl, by omega, this, Option.isNone_iff_eq_none.mp h2⟩⟩
        · exact ⟨List.nodup_nil, .inr (.inl rfl)⟩
theorem mem_parts {rs : List Rw} {r : Rw} {n : Nat} (hr : r ∈ rs) (h1 : r.1 ≤ n) (h2 : n < r.1 + r.2.length) : n ∈ partsN rs :=
  List.mem_flatMap.mpr ⟨r, hr, List.mem_map.mpr ⟨n - r.1, List.mem_range.mpr (by omega), by omega⟩⟩
theorem lineN_nodup (rs : List Rw) (l : List Nat) : (lineN rs l).Nodup := by
  unfold lineN
  split
  · exact (toldN_cases rs _).1
  · exact List.nodup_nil
theorem lineN_le (rs : List Rw) (l : List Nat) : ((lineN rs l).filter fun n => decide (n ∉ partsN rs)).length ≤ 1 := by
  have nil : (([] : List Nat).filter fun n => decide (n ∉ partsN rs)).length ≤ 1 := Nat.zero_le _
  unfold lineN
  split
  · rcases (toldN_cases rs (cutAt 32 l)).2 with ⟨n, e, _⟩ | e | ⟨r, hr, e⟩
    · rw [e]
      exact Nat.le_trans (List.length_filter_le _ _) (Nat.le_refl _)
    · rw [e]
      exact nil
    · rw [List.filter_eq_nil_iff.mpr fun n hn => ?_]
      · exact Nat.zero_le _
      · have := mem_parts hr (e n hn).1 (e n hn).2
        simp [this]
  · exact nil
theorem readM_few {rs : List Rw} {f : St1} {k : Nat} (hn : (f.map Prod.fst).Nodup) (h : ((f.map Prod.fst).filter fun n => decide (n ∉ partsN rs)).length ≤ k) : f.length ≤ (partsN rs).length + k := by
  have h1 : ((f.map Prod.fst).filter fun n => decide (n ∈ partsN rs)).length ≤ (partsN rs).length := nodup_len (hn.filter _) fun n hm => of_decide_eq_true (List.mem_filter.mp hm).2
  have h2 : ∀ (p : Nat → Bool) (l : List Nat), l.length = (l.filter p).length + (l.filter fun n => !p n).length := fun p l => by
    induction l with
    | nil => rfl
    | cons a r ih =>
      rw [List.filter_cons, List.filter_cons]
      cases p a <;> simp <;> omega
  have h3 := h2 (fun n => decide (n ∈ partsN rs)) (f.map Prod.fst)
  rw [List.length_map] at h3
  have h4 : ((f.map Prod.fst).filter fun n => !decide (n ∈ partsN rs)) = (f.map Prod.fst).filter fun n => decide (n ∉ partsN rs) := by
    refine List.filter_congr fun n _ => ?_
    rw [decide_not]
  rw [h4] at h3
  omega
/-- the states by their numbers, upward -/
def sortS (f : St1) : St1 := (numsM f).map fun n => (n, stOf f n)
end K28

set_option Elab.async false
set_option linter.all false
set_option maxRecDepth 100000
set_option maxHeartbeats 4000000
namespace K28
open PySem PySem.Spec PyProof.Rows L2
theorem take_fresh {l : List Nat} (h : l.Nodup) {j n : Nat} (hn : l[j]? = some n) : n ∉ l.take j := fun hm => by
  obtain ⟨g1, g2⟩ := List.getElem?_eq_some_iff.mp hn
  have e : l = l.take j ++ n :: l.drop (j + 1) := by
    rw [← g2, ← List.drop_eq_getElem_cons g1, List.take_append_drop]
  rw [e, List.nodup_append] at h
  exact h.2.2 n hm n (List.mem_cons_self ..) rfl
theorem map_fst_mem {g : Nat → List Nat} {l : List Nat} {n : Nat} (h : n ∈ (l.map fun n => (n, g n)).map Prod.fst) : n ∈ l := by
  rw [List.map_map] at h
  obtain ⟨y, hy, e⟩ := List.mem_map.mp h
  have e : y = n := e
  rw [← e]
  exact hy
theorem lineN_len (rs : List Rw) (l : List Nat) : (lineN rs l).length ≤ 60 := by
  have h : (toldN rs (cutAt 32 l)).length ≤ 60 := by
    unfold toldN
    split
    · exact Nat.zero_le _
    · split
      · exact Nat.zero_le _
      · split
        · split
          · exact Nat.zero_le _
          · split
            · rw [List.length_map]
              exact toldI_len _
            · exact Nat.zero_le _
        · split
          · simp
          · exact Nat.zero_le _
  unfold lineN
  split
  · exact h
  · exact Nat.zero_le _
theorem log_small' {n : Nat} (h : n < 10 ^ 6) : ((n : Int)).natAbs.log2 < 1920 := log_small (n := n) (Nat.lt_trans h (by decide))
def spUnfS (K : PySem.W.Frag) : Sp := fun vs H Q E => ∃ (a b : Addr) (rs : List Rw) (ls : List (List Nat)), vs = [.ref a, .ref b] ∧ RowsT K H a rs ∧ rs.length ≤ 60 ∧ UpR rs ∧ SqT K H b (strsV ls) ∧ (∀ l ∈ ls, l.length ≤ 100000) ∧ (partsN rs).length + ls.length ≤ 60 ∧ TbOk K H ∧
  (∀ i d H', readM rs ls 0 [] = .inl i → Le K H H' → H' d = some (.xd [("spot", vN i)]) → E (.ref (cPE K)) (some d) H') ∧
  ∀ f p H', readM rs ls 0 [] = .inr f → Le K H H' → H' p = some (.dK (kvS (sortS f))) → Q (.ref p) H'
section
variable {w : World} {K : PySem.W.Frag} {mg : Str → Option Value} {base : Heap}
theorem ok_unfold_states (T : Tz K mg base) : Fk Er.PRG w K mg base "unfold_states" 9 ["rows", "lines"] (spUnfS K) := by
  refine Fk.mk T.g_unfold_states T.d_unfold_states sc_unfold_states (fun vs H Q E h => ?_) (fun _ _ _ _ _ _ us hl => match us, hl with | [_, _], _ => rfl) fun cdv A outer s H vs Q E hr h => ⟨_,
      (pss_cons (ps_expr (pe_f (ok_require_rows T.toTy) (hr.mono (by decide)) (pa_cons (pv 0) pa_nil)))
      (pss_cons (ps_if (PW.pt (pw_or (pt_not (pt_val (pe_callB call_isi (by rfl) T.m_isinstance boot_isinstance (pa_cons (pv 1) (pa_cons (pe_bltn (v := .ty "tuple") rfl T.m_tuple (by decide +kernel) rfl) pa_nil))))) (pw_or (pt_cmpR op_gt (pe_callB call_len (by rfl) T.m_len boot_len (pa_cons (pv 1) pa_nil)) (pe_gI T.i_MAX_LINES) (nomark _)) (pw_or1 (pt_not (pt_val (pe_callB (cr_all rfl) (by rfl) T.m_all (by decide +kernel) (pa_cons (pe_lc (own := [("one", 10)]) (g := gName 10) rfl sc_unfold_states.nd (pi_tup (pv 1)) (blkOk_by (own := [("one", 10)]) (N := N_unfold_states) (sc := defScope s_unfold_states) (by decide +kernel)) (fun _ _ _ _ _ => (pg_name (i := 10) sc_unfold_states.nd rfl (Or.inl rfl))) (fun _ _ _ _ _ => pts_nil) (fun _ _ _ _ _ => (pe_callB (show CallR _ _ (rIsi K) from call_isi) (by rfl) T.m_isinstance boot_isinstance (pa_cons (pv 10) (pa_cons (pe_bltn (v := .ty "str") rfl T.m_str (by decide +kernel) rfl) pa_nil))))) pa_nil)))))))) (pss_one ps_never) pss_nil)
      (pss_cons (ps_set (i := 2) sc_unfold_states.nd rfl (Or.inr rfl) pe_dnewK)
      (pss_cons (ps_for (passes_of rfl) rfl (En.pi_enT (by rfl) T.m_enumerate (pa_cons (pv 1) pa_nil)) (pg_tup rfl (pgs_cons (pg_name (i := 3) sc_unfold_states.nd rfl (Or.inl rfl)) (pgs_cons (pg_name (i := 4) sc_unfold_states.nd rfl (Or.inl rfl)) pgs_nil))) (pss_cons (ps_asg (pe_partition (pv 4) pe_str) (pg_tup rfl (pgs_cons (pg_name (i := 5) sc_unfold_states.nd rfl (Or.inl rfl)) (pgs_cons (pg_name (i := 6) sc_unfold_states.nd rfl (Or.inl rfl)) (pgs_cons (pg_name (i := 7) sc_unfold_states.nd rfl (Or.inr rfl)) pgs_nil)))))
      (pss_cons (ps_set (i := 8) sc_unfold_states.nd rfl (Or.inl rfl) (pe_ifExp (pt_val (pe_f (ok_is_state_word T.toTy.toTx) (hr.mono (by decide)) (pa_cons (pv 7) pa_nil))) (pe_f (ok_told_numbers T) (hr.mono (by decide)) (pa_cons (pv 0) (pa_cons (pv 5) pa_nil))) (pe_tup pa_nil)))
      (pss_cons (ps_if (PW.pt (pw_or (pt_cmpR (op_eqE hr.units0) (pv 8) (pe_tup pa_nil) (nomark _)) (pw_or1 (pt_val (pe_callB (cr_any rfl) (by rfl) T.m_any (by decide +kernel) (pa_cons (pe_lc (own := [("number", 9)]) (g := gName 9) rfl sc_unfold_states.nd (pi_tup (pv 8)) (blkOk_by (own := [("number", 9)]) (N := N_unfold_states) (sc := defScope s_unfold_states) (by decide +kernel)) (fun _ _ _ _ _ => (pg_name (i := 9) sc_unfold_states.nd rfl (Or.inl rfl))) (fun _ _ _ _ _ => pts_nil) (fun _ _ _ _ _ => (pe_cmp (pc_din (hu_of hr) (pv 9) (pv 2))))) pa_nil)))))) (pss_one (ps_raise rfl (takes_of rfl rfl rfl rfl) (Er.pmk_ParseError rfl T.pe T.m_super T.m_str hr (pa_cons (pv 3) pa_nil)))) pss_nil)
      (pss_one (ps_expr (DT.pe_upd (pv 2) (pe_dc (own := [("number", 9)]) (g := gName 9) rfl sc_unfold_states.nd (pi_tup (pv 8)) (blkOk_by (own := [("number", 9)]) (N := N_unfold_states) (sc := defScope s_unfold_states) (by decide +kernel)) (fun _ _ _ _ _ => (pg_name (i := 9) sc_unfold_states.nd rfl (Or.inl rfl))) (fun _ _ _ _ _ => pts_nil) (fun _ _ _ _ _ => (pv 9)) (fun _ _ _ _ _ => (pv 7))) ⟨rfl, rfl, rfl, rfl⟩)))))))
      (pss_one (ps_ret (pe_dc (own := [("number", 9)]) (g := gName 9) rfl sc_unfold_states.nd (pi_list (pe_callB (call_sortedDI rfl) (by rfl) T.m_sorted (by decide +kernel) (pa_cons (pv 2) pa_nil))) (blkOk_by (own := [("number", 9)]) (N := N_unfold_states) (sc := defScope s_unfold_states) (by decide +kernel)) (fun _ _ _ _ _ => (pg_name (i := 9) sc_unfold_states.nd rfl (Or.inl rfl))) (fun _ _ _ _ _ => pts_nil) (fun _ _ _ _ _ => (pv 9)) (fun _ _ _ _ _ => (pe_dget (hu_of hr) (pv 2) (pv 9) (fun _ _ => rfl)))))))))), ?_⟩
  · obtain ⟨_, _, _, _, rfl, _⟩ := h
    rfl
  · obtain ⟨a, b, rs, ls, rfl, R, hl60, up, hL, hll, hcnt, tb, qE, qQ⟩ := h
    have O := ordL (K := K)
    have OS := ordS (K := K)
    have sl : sizeLine = 16777216 := sizeLine_eq
    refine ⟨_, rfl, a, rs, rfl, R, hl60, up, fun H1 e1 => ?_⟩
    have h60 : ls.length ≤ 60 := by omega
    have hsl : (strsV ls).length = ls.length := List.length_map ..
    have hL1 := OS.sqT e1 hL
    refine ⟨_, rfl, _, _, _, _, true, rfl, .ty "tuple", ty_tup hL1, kit_ty (by decide +kernel), true, rfl, iteF ?_⟩
    refine ⟨_, rfl, _, _, rfl, len_t hL1, _, _, rfl, rfl, _, rfl, ?_⟩
    refine ifF (decide_eq_false (by rw [hsl]; omega)) ?_
    refine ⟨_, rfl, b, rfl, ⟨_, hL1⟩, fun D hD => ?_⟩
    refine lc_pure OS (walk_tup (K := K)) (fun i => some (V.bl true)) hD (by rw [hsl]; omega) (fun H2 e => OS.sqT e hL1) (fun i x H2 H3 Fin No hi e hy hF hN => ?_) fun H2 e2 hl2 => ?_
    · obtain ⟨rfl, hx⟩ := hy
      obtain ⟨l, hl, rfl⟩ := map_get hx
      exact ⟨rfl, _, rfl, _, _, _, _, true, rfl, .ty "str", .base (.str (S l)), kit_ty (by decide +kernel), hF _ _ rfl (Same.refl _)⟩
    refine ⟨D, List.replicate ls.length true, rfl, .of (hl2.trans ?_), true, by simp, iteF ?_⟩
    · rw [hsl, List.map_replicate]
      congr 2
      exact fm_const _ _
    have e12 : Same H H2 := e1.trans e2
    refine fun fd hfd => ?_
    have fd0 : H fd = none := e12.free hfd
    have hL3 : SqT K (upd H2 fd (.dK [])) b (strsV ls) := OS.sqT (e12.trans (Same.new hfd)) hL
    refine ⟨_, rfl, b, _, rfl, hL3, ?_⟩
    refine for_it En.walk_en (fun i σ H' => ∃ (x3 x4 x5 x6 x7 x8 x9 x10 : Option V) (f : St1), σ = [some (.ref a), some (.ref b), some (.ref fd), x3, x4, x5, x6, x7, x8, x9, x10] ∧ Le K H H' ∧ H' fd = some (.dK (kvS f)) ∧ (f.map Prod.fst).Nodup ∧ ((f.map Prod.fst).filter fun n => decide (n ∉ partsN rs)).length ≤ i ∧ readM rs (ls.drop i) i f = readM rs ls 0 [])
      ⟨_, _, _, _, _, _, _, _, [], rfl, e12.le.trans (Le.new hfd), upd_same, List.nodup_nil, Nat.zero_le _, rfl⟩ (fun _ _ _ _ ⟨_, _, _, _, _, _, _, _, _, _, e, _⟩ => O.sqT e hL) (fun i x σ H3 H4 hi pv hy => ?_) fun σ H3 pv => ?_
    · obtain ⟨x3, x4, x5, x6, x7, x8, x9, x10, f, rfl, eH, hf, hnd, hfil, hrd⟩ := pv
      obtain ⟨T', x, rfl, hT, rfl, hx⟩ := hy
      obtain ⟨l, hl, rfl⟩ := map_get hx
      rw [hsl] at hi
      have hll1 := hll l (List.mem_of_getElem? hl)
      obtain ⟨c1, c2⟩ := cut_len 32 l
      have e4 : Le K H (upd H3 T' (.tup [vN i, .str (S l)])) := eH.trans (Le.new hT)
      have hf4 : upd H3 T' (.tup [vN i, .str (S l)]) fd = some (.dK (kvS f)) := (Le.new (K := K) hT).keep _ _ hf fun _ z => (nomatch z)
      have ht4 : upd H3 T' (.tup [vN i, .str (S l)]) T' = some (.tup [vN i, .str (S l)]) := upd_same
      generalize upd H3 T' (.tup [vN i, .str (S l)]) = H4 at e4 hf4 ht4 ⊢
      refine ⟨_, _, rfl, .of ht4, rfl, _, _, rfl, _, _, rfl, rfl, ?_⟩
      refine ⟨_, rfl, ⟨_, rfl⟩, S l, S [32], rfl, rfl, rfl, sz_ok hll1, fun p hp => ?_⟩
      have hp5 : upd H4 p (.tup [.str (Txt.partition (S l) (S [32])).1, .str (Txt.partition (S l) (S [32])).2.1, .str (Txt.partition (S l) (S [32])).2.2]) p = some (.tup [.str (S (cutAt 32 l)), .str (S (if 32 ∈ l then [32] else [])), .str (S (behind 32 l))]) := by
        rw [upd_same, part_eq 32 l]
      have e45 : Le K H4 (upd H4 p (.tup [.str (Txt.partition (S l) (S [32])).1, .str (Txt.partition (S l) (S [32])).2.1, .str (Txt.partition (S l) (S [32])).2.2])) := Le.new hp
      generalize upd H4 p (.tup [.str (Txt.partition (S l) (S [32])).1, .str (Txt.partition (S l) (S [32])).2.1, .str (Txt.partition (S l) (S [32])).2.2]) = H5 at hp5 e45 ⊢
      have e5 := e4.trans e45
      have hf5 : H5 fd = some (.dK (kvS f)) := e45.keep _ _ hf4 fun _ z => (nomatch z)
      refine ⟨_, _, rfl, .of hp5, rfl, _, _, rfl, _, _, rfl, _, _, rfl, rfl, ?_⟩
      -- the numbers
      have hdrop : ls.drop i = l :: ls.drop (i + 1) := by
        obtain ⟨g1, g2⟩ := List.getElem?_eq_some_iff.mp hl
        rw [List.drop_eq_getElem_cons g1, g2]
      have hln1 : wordB (behind 32 l) = true → lineN rs l = toldN rs (cutAt 32 l) := fun hw => by
        unfold lineN
        rw [if_pos hw]
      have hln2 : ¬ wordB (behind 32 l) = true → lineN rs l = [] := fun hw => by
        unfold lineN
        rw [if_neg hw]
      refine (fun (fin : ∀ (np : Addr) (H6 : Hp), Le K H5 H6 ∧ SqT K H6 np ((lineN rs l).map vN) → _) => ⟨_, rfl, behind 32 l, rfl, by omega, fun H6 e6 => ⟨_, rfl, ite2
        (fun hw => ⟨_, rfl, _, rfl, a, rs, cutAt 32 l, rfl, O.rows R (e5.trans e6.le), (e5.trans e6.le).tabs tb, by omega, fun H7 np e7 hnp => fin np H7 ⟨e6.le.trans e7, by rw [hln1 hw]; exact hnp⟩⟩)
        fun hw => ⟨Nat.zero_le _, fun np hnp => fin np _ ⟨e6.le.trans (Le.new hnp), by rw [hln2 hw]; exact .of upd_same⟩⟩⟩⟩) ?_
      rintro np H6 ⟨e56, hnp⟩
      have e6 := e5.trans e56
      have hf6 : H6 fd = some (.dK (kvS f)) := e56.keep _ _ hf5 fun _ z => (nomatch z)
      have hrd6 := hrd
      rw [hdrop] at hrd6
      have hsp : ∀ d H', (lineN rs l = [] ∨ (lineN rs l).any (hasS f) = true) → Le K H H' → H' d = some (.xd [("spot", vN i)]) → E (.ref (cPE K)) (some d) H' := fun d H' h1 h2 h3 => by
        refine qE i d H' ?_ h2 h3
        rw [← hrd6]
        show (if lineN rs l = [] ∨ (lineN rs l).any (hasS f) = true then Sum.inl i else _) = _
        rw [if_pos h1]
      have hin : i < 10 ^ 6 := by omega
      have raise : ∀ H7, Le K H H7 → (lineN rs l = [] ∨ (lineN rs l).any (hasS f) = true) → ∀ d, H7 d = none → E (.ref (cPE K)) (some d) (upd H7 d (.xd [("spot", vN i)])) := fun H7 e7 h1 d hd => hsp d _ h1 (e7.trans (Le.new hd)) upd_same
      have e6q : ∀ q : Addr, H6 q = none → Le K H (upd H6 q (.tup [])) := fun q hq => e6.trans (Le.new hq)
      refine ⟨_, rfl, Nat.zero_le _, fun q hq => ⟨np, q, _, rfl, rfl, .inr ⟨OS.sqT (Same.new hq) hnp, .of upd_same⟩, _, rfl, ?_⟩⟩
      by_cases hne : lineN rs l = []
      · refine ifT (by rw [hne]; rfl) ?_
        refine ⟨_, rfl, (i : Int), rfl, log_small' hin, fun d hd => raise _ (e6q q hq) (.inl hne) d hd⟩
      · refine ifF (by cases h : lineN rs l with
          | nil => exact absurd h hne
          | cons _ _ => rfl) ?_
        have hnp7 : SqT K (upd H6 q (.tup [])) np ((lineN rs l).map vN) := OS.sqT (Same.new hq) hnp
        have hf7 : upd H6 q (.tup []) fd = some (.dK (kvS f)) := OS.dK (Same.new hq) hf6
        have e7 := e6q q hq
        have fl : f.length ≤ 60 := by
          have := readM_few hnd hfil
          omega
        have hnl : (lineN rs l).length ≤ 60 := lineN_len rs l
        refine ⟨_, rfl, np, rfl, ⟨_, hnp7⟩, fun D3 hD3 => ?_⟩
        refine lc_pure OS (walk_tup (K := K)) (fun j => ((lineN rs l)[j]?).map fun n => V.bl (hasS f n)) hD3 (by rw [List.length_map]; omega) (fun H8 e => OS.sqT e hnp7) (fun j x H8 H9 Fin No hj e hy hF hN => ?_) fun H8 e8 hl8 => ?_
        · obtain ⟨rfl, hx⟩ := hy
          obtain ⟨n, hn, rfl⟩ := map_get hx
          refine ⟨rfl, ⟨_, rfl, _, rfl, fd, _, rfl, DGet.k (k := .inl (n : Int)) (OS.dK e hf7), ?_⟩⟩
          refine hF _ _ ?_ (Same.refl _)
          rw [kvS_isSome, hn]
          rfl
        · have e08 : Le K H H8 := e7.trans e8.le
          refine ⟨D3, (lineN rs l).map (hasS f), rfl, .of (hl8.trans ?_), _, rfl, ?_⟩
          · rw [List.length_map, fm_map (lineN rs l) fun n => V.bl (hasS f n), List.map_map]
            rfl
          · rw [List.any_map]
            by_cases hany : (lineN rs l).any (hasS f) = true
            · refine ifT hany ?_
              refine ⟨_, rfl, (i : Int), rfl, log_small' hin, fun d hd => raise _ e08 (.inr hany) d hd⟩
            · refine ifF (Bool.not_eq_true _ |>.mp hany) ?_
              have hf8 := OS.dK e8 hf7
              have hnp8 := OS.sqT e8 hnp7
              refine ⟨_, rfl, fd, rfl, .inl ⟨_, .inl hf8⟩, _, rfl, np, rfl, ⟨_, hnp8⟩, fun D4 hD4 => ?_⟩
              have nd := lineN_nodup rs l
              refine DT.dc_it (walk_tup (K := K)) (fun j H' => Same H8 H' ∧ H' D4 = some (.dK (kvS (((lineN rs l).take j).map fun n => (n, behind 32 l))))) ⟨Same.new hD4, upd_same⟩ (fun j H' _ pv => OS.sqT pv.1 hnp8) (fun j x H9 H10 hj pv hy => ?_) fun H9 pv => ?_
              · obtain ⟨rfl, hx⟩ := hy
                obtain ⟨n, hn, rfl⟩ := map_get hx
                obtain ⟨e9, hd9⟩ := pv
                refine ⟨rfl, ⟨_, rfl, _, rfl, _, .inl (n : Int), rfl, hd9, ?_, e9.mut hD4, ?_⟩⟩
                · rw [kvS_len, List.length_map, List.length_take]
                  omega
                · rw [upd_same, kvS_put, List.take_succ, hn, List.map_append]
                  · rfl
                  · exact fun hm => take_fresh nd hn (map_fst_mem (g := fun _ => behind 32 l) hm)
              · obtain ⟨e9, hd9⟩ := pv
                rw [List.length_map, List.take_length] at hd9
                have hf9 := OS.dK e9 hf8
                have hne9 : fd ≠ D4 := ne_of_none hf8 hD4
                have hkeys : ∀ p ∈ (lineN rs l).map fun n => (n, behind 32 l), p.1 ∉ f.map Prod.fst := fun p hp hm => by
                  obtain ⟨n, hn, rfl⟩ := List.mem_map.mp hp
                  exact hany (List.any_eq_true.mpr ⟨n, hn, hasS_iff.mpr hm⟩)
                have hfst : ((lineN rs l).map fun n => (n, behind 32 l)).map Prod.fst = lineN rs l := by
                  rw [List.map_map]
                  exact List.map_id _
                refine ⟨D4, _, _, rfl, hf9, hd9, hne9, ?_, ⟨_, _, _, _, _, _, _, _, f ++ (lineN rs l).map fun n => (n, behind 32 l), rfl, O.wr (e08.trans e9.le) fd0 hf9 rfl, ?_, ?_, ?_, ?_⟩⟩
                · rw [kvS_len, kvS_len, List.length_map]
                  omega
                · rw [upd_same, kvS_merge _ _ (by rw [hfst]; exact nd) hkeys]
                · rw [List.map_append, hfst, List.nodup_append]
                  refine ⟨hnd, nd, fun x hx y hy z => ?_⟩
                  subst z
                  exact hany (List.any_eq_true.mpr ⟨x, hy, hasS_iff.mpr hx⟩)
                · rw [List.map_append, hfst, List.filter_append, List.length_append]
                  have := lineN_le rs l
                  omega
                · rw [← hrd6]
                  show _ = (if lineN rs l = [] ∨ (lineN rs l).any (hasS f) = true then Sum.inl i else readM rs (ls.drop (i + 1)) (i + 1) (f ++ (lineN rs l).map fun n => (n, behind 32 l)))
                  rw [if_neg fun z => z.elim hne hany]
    · obtain ⟨x3, x4, x5, x6, x7, x8, x9, x10, f, rfl, eH, hf, hnd, hfil, hrd⟩ := pv
      rw [hsl] at hrd hfil
      rw [List.drop_length] at hrd
      have hrd : Sum.inr f = readM rs ls 0 [] := hrd
      have fl : f.length ≤ 60 := by
        have := readM_few hnd hfil
        omega
      refine ⟨_, rfl, fd, kvS f, f.map fun p => (p.1 : Int), rfl, .inl hf, ?_, by rw [List.length_map]; omega, fun ys yp hperm hup hyp => ?_⟩
      · unfold kvS
        rw [List.map_map, List.map_map]
        rfl
      have hys : ys = (numsM f).map fun n : Nat => (n : Int) := sorted_back hnd (by rw [List.map_map]; exact hperm) hup
      subst hys
      have hmap : ((numsM f).map fun n : Nat => (n : Int)).map V.int = (numsM f).map vN := by
        rw [List.map_map]
        rfl
      rw [hmap]
      refine ⟨yp, rfl, ⟨_, .inl (.inl upd_same)⟩, fun D5 hD5 => ?_⟩
      have eY : Le K H (upd H3 yp (.lst ((numsM f).map vN))) := eH.trans (Le.new hyp)
      have hfY : upd H3 yp (.lst ((numsM f).map vN)) fd = some (.dK (kvS f)) := (Same.new hyp) _ _ hf
      have hyY : upd H3 yp (.lst ((numsM f).map vN)) yp = some (.lst ((numsM f).map vN)) := upd_same
      generalize upd H3 yp (.lst ((numsM f).map vN)) = HY at hD5 eY hfY hyY ⊢
      have nn : (numsM f).Nodup := sortU_nodup _
      have nlen : (numsM f).length ≤ 60 := by
        have := nodup_len nn (k := f.map Prod.fst) fun n hn => mem_sortU.mp hn
        rw [List.length_map] at this
        omega
      refine DT.dc_it (walk_list (K := K)) (fun j H' => Same HY H' ∧ H' D5 = some (.dK (kvS (((numsM f).take j).map fun n => (n, stOf f n))))) ⟨Same.new hD5, upd_same⟩ (fun j H' _ pv => .inl (.inl (pv.1 _ _ hyY))) (fun j x H9 H10 hj pv hy => ?_) fun H9 pv => ?_
      · obtain ⟨rfl, hx⟩ := hy
        obtain ⟨n, hn, rfl⟩ := map_get hx
        obtain ⟨e9, hd9⟩ := pv
        have hmem : n ∈ f.map Prod.fst := mem_sortU.mp (List.mem_of_getElem? hn)
        refine ⟨rfl, ⟨_, rfl, _, rfl, _, rfl, fd, .str (S (stOf f n)), rfl, .inl ⟨_, .inl (n : Int), .inl (e9 _ _ hfY), rfl, (kvS_valV hmem).symm⟩, _, .inl (n : Int), rfl, hd9, ?_, e9.mut hD5, ?_⟩⟩
        · rw [kvS_len, List.length_map, List.length_take]
          omega
        · rw [upd_same, kvS_put, List.take_succ, hn, List.map_append]
          · rfl
          · exact fun hm => take_fresh nn hn (map_fst_mem (g := stOf f) hm)
      · obtain ⟨e9, hd9⟩ := pv
        rw [List.length_map, List.take_length] at hd9
        exact qQ f D5 H9 hrd.symm (eY.trans e9.le) hd9
end
end K28

set_option Elab.async false
set_option linter.all false
set_option maxRecDepth 100000
set_option maxHeartbeats 4000000
namespace K28
open PySem PySem.Spec PyProof.Rows L2
/-! ## the law's dice -/
def diceO (x y z : Int) : HO := .lst [.int x, .int y, .int z]
def Dice (H : Hp) (d : Addr) : Prop := ∃ x y z : Int, H d = some (diceO x y z)
/-- all but the dice stays -/
structure Ld (K : PySem.W.Frag) (d : Addr) (H H' : Hp) : Prop where
  keep : ∀ b o, b ≠ d → H b = some o → (∀ ps, o ≠ .tbl ps) → H' b = some o
  tabs : TbOk K H → TbOk K H'
  tbl : ∀ b ps, b ≠ d → H b = some (.tbl ps) → ∃ qs, H' b = some (.tbl qs)
  dice : Dice H d → Dice H' d
section
variable {K : PySem.W.Frag} {d : Addr} {H H' H1 : Hp}
theorem Ld.refl (H : Hp) : Ld K d H H := ⟨fun _ _ _ h _ => h, fun t => t, fun _ ps _ h => ⟨ps, h⟩, fun t => t⟩
theorem Ld.trans (a : Ld K d H H1) (b : Ld K d H1 H') : Ld K d H H' :=
  ⟨fun c o n h t => b.keep c o n (a.keep c o n h t) t, fun t => b.tabs (a.tabs t), fun c ps n h => let ⟨qs, q⟩ := a.tbl c ps n h; b.tbl c qs n q, fun t => b.dice (a.dice t)⟩
theorem Le.ld (e : Le K H H') : Ld K d H H' := ⟨fun b o _ h t => e.keep b o h t, e.tabs, fun b ps _ h => e.tbl b ps h, fun ⟨x, y, z, h⟩ => ⟨x, y, z, e.keep _ _ h fun _ q => (nomatch q)⟩⟩
theorem Ld.new {p : Addr} {o : HO} (h : H p = none) : Ld K d H (upd H p o) := (Le.new h).ld
theorem Ld.roll {x y z : Int} (h : Dice H d) : Ld K d H (upd H d (diceO x y z)) := by
  obtain ⟨x0, y0, z0, h⟩ := h
  exact ⟨fun b o n q _ => by rw [upd_ne n]; exact q, fun t => t.upd h rfl, fun b ps n q => ⟨ps, by rw [upd_ne n]; exact q⟩, fun _ => ⟨x, y, z, upd_same⟩⟩
/-- what is written to that came later -/
theorem Ld.mut {p : Addr} {u o : HO} (e : Ld K d H H') (hd : Dice H d) (h : H p = none) (hp : H' p = some u) (hu : plainO u = true := by rfl) : Ld K d H (upd H' p o) := by
  have hne : p ≠ d := fun z => by
    obtain ⟨x0, y0, z0, q⟩ := hd
    rw [z, q] at h
    cases h
  refine ⟨fun b v n q t => ?_, fun t => (e.tabs t).upd hp hu, fun b ps n q => ?_, fun t => ?_⟩
  · rw [upd_ne (ne_of_none q h)]
    exact e.keep b v n q t
  · rw [upd_ne (ne_of_none q h)]
    exact e.tbl b ps n q
  · obtain ⟨x, y, z, q⟩ := e.dice t
    exact ⟨x, y, z, by rw [upd_ne (Ne.symm hne)]; exact q⟩
theorem Ld.free (e : Ld K d H H') (hd : Dice H d) {l : Addr} (h : H' l = none) : H l = none := by
  cases q : H l with
  | none => rfl
  | some o =>
    exfalso
    by_cases hl : l = d
    · obtain ⟨x, y, z, q⟩ := e.dice hd
      rw [hl, q] at h
      cases h
    · by_cases ht : ∃ ps, o = .tbl ps
      · obtain ⟨ps, rfl⟩ := ht
        obtain ⟨qs, h1⟩ := e.tbl l ps hl q
        rw [h] at h1
        cases h1
      · rw [e.keep l o hl q fun ps z => ht ⟨ps, z⟩] at h
        cases h
theorem Dice.ne {b : Addr} {o : HO} (hd : Dice H d) (h : H b = some o) (ho : ∀ x y z, o ≠ diceO x y z) : b ≠ d := fun e => by
  obtain ⟨x, y, z, q⟩ := hd
  rw [e, q] at h
  exact ho x y z (Option.some.inj h).symm
theorem Dice.ne0 {b : Addr} (hd : Dice H d) (h : H b = none) : b ≠ d := fun e => by
  obtain ⟨x, y, z, q⟩ := hd
  rw [e, q] at h
  cases h
theorem Dice.le (hd : Dice H d) (e : Le K H H') : Dice H' d := by
  obtain ⟨x, y, z, q⟩ := hd
  exact ⟨x, y, z, e.keep _ _ q fun _ z => (nomatch z)⟩
theorem Ld.sqT {a : Addr} {xs : List V} (e : Ld K d H H') (hd : Dice H d) (h : SqT K H a xs) : SqT K H' a xs := by
  rcases h with (h | ⟨o, h⟩) | h
  · exact .inl (.inl (e.keep _ _ (hd.ne h fun _ _ _ z => (nomatch z)) h fun _ z => (nomatch z)))
  · exact .inl (.inr ⟨o, e.keep _ _ (hd.ne h fun _ _ _ z => (nomatch z)) h fun _ z => (nomatch z)⟩)
  · exact .inr h
theorem Ld.sqL {a : Addr} {xs : List V} (e : Ld K d H H') (ha : a ≠ d) (h : SqL K H a xs) : SqL K H' a xs := by
  rcases h with (h | ⟨o, h⟩) | h
  · exact .inl (.inl (e.keep _ _ ha h fun _ z => (nomatch z)))
  · exact .inl (.inr ⟨o, e.keep _ _ ha h fun _ z => (nomatch z)⟩)
  · exact .inr h
theorem Ld.tupD {a : Addr} {xs : List V} (e : Ld K d H H') (hd : Dice H d) (h : TupD K H a xs) : TupD K H' a xs := by
  obtain ⟨h1, h2⟩ := h
  refine ⟨e.sqT hd h1, ?_⟩
  rcases h2 with ⟨o, u, q, z⟩ | h2
  · exact .inl ⟨o, u, e.keep _ _ (hd.ne q fun _ _ _ z => (nomatch z)) q fun _ z => (nomatch z), z⟩
  · exact .inr h2
end
def spDice (K : PySem.W.Frag) : Sp := fun vs H Q _ => ∃ (a : Addr) (xs : List Int) (i : Nat), vs = [.ref a, vN i] ∧ SqL K H a (xs.map V.int) ∧ xs.length ≤ 63 ∧ i < 3 ∧ ∀ p x y z, H p = none → Q (.ref p) (upd H p (diceO x y z))
def spRoll : Sp := fun vs H Q _ => ∃ (d : Addr) (n : Nat), vs = [.ref d, vN n] ∧ Dice H d ∧ 1 ≤ n ∧ n ≤ 1000000 ∧ ∀ (r : Nat) x y z, r < n → Q (vN r) (upd H d (diceO x y z))
section
variable {P : Program} {w : World} {K : PySem.W.Frag} {mg : Str → Option Value} {base : Heap}
theorem ok_l_dice (T : Tx K mg) : Fk P w K mg base "_law_dice" 1 ["_law_script", "_law_spot"] (spDice K) := by
  refine Fk.mk0 T.g_l_dice T.d_l_dice sc_l_dice (fun vs H Q E h => ?_) (fun _ _ _ _ _ _ us hl => match us, hl with | [_, _], _ => rfl) fun cdv A outer s H vs Q E hr h => ⟨_,
      (pss_cons (ps_set (i := 2) sc_l_dice.nd rfl (Or.inl rfl) (pe_ifExp (pt_cmpR op_lt (pv 1) (pe_callB call_len (by rfl) T.m_len boot_len (pa_cons (pv 0) pa_nil)) (nomark _)) (pe_callTy call_int1 (by rfl) T.m_int (by decide +kernel) (pa_cons (pe_ix ix_list (pv 0) (pv 1) (fun _ _ => rfl)) pa_nil)) (pe_op op_add (pe_op op_mul pe_int (pv 1)) pe_int)))
      (pss_cons (ps_set (i := 3) sc_l_dice.nd rfl (Or.inl rfl) (pe_op op_mod (pe_callB (call_max2 rfl) (by rfl) T.m_max (by decide +kernel) (pa_cons pe_int (pa_cons (pe_op op_sub (pe_callB call_abs (by rfl) T.m_abs (by decide +kernel) (pa_cons (pv 2) pa_nil)) (pe_op op_pow pe_int pe_int)) pa_nil))) (pe_op op_mulW (pe_op op_pow pe_int pe_int) (pe_op op_pow pe_int pe_int))))
      (pss_one (ps_ret (pe_lst (pa_cons (pv 3) (pa_cons (pe_op op_add (pe_op op_add (pe_op op_add (pe_op op_mul (pe_op op_mod (pe_callB call_abs (by rfl) T.m_abs (by decide +kernel) (pa_cons (pv 2) pa_nil)) pe_int) pe_int) (pe_op op_mul pe_int (pv 1))) (pe_op op_mul pe_int (pe_callTy call_int1 (by rfl) T.m_int (by decide +kernel) (pa_cons (pe_cmpR op_lt (pv 2) pe_int (nomark _)) pa_nil)))) pe_int) (pa_cons pe_int pa_nil)))))))), ?_⟩
  · obtain ⟨_, _, _, rfl, _⟩ := h
    rfl
  · obtain ⟨a, xs, i, rfl, hL, hl, hi, q⟩ := h
    have hlen : (xs.map V.int).length = xs.length := List.length_map ..
    have sl : sizeLine = 16777216 := sizeLine_eq
    refine ⟨_, rfl, _, rfl, _, _, rfl, len_l hL, _, _, rfl, rfl, _, rfl, ite2 (fun h => ⟨_, rfl, _, rfl, a, _, _, .int (xs.getD i 0), rfl, rfl, hL, atI_nat (j := i) (by
          have h : i < xs.length := by
            rw [hlen] at h
            have := of_decide_eq_true h
            omega
          rw [List.getElem?_map, List.getD_eq_getElem?_getD, List.getElem?_eq_getElem h] <;> rfl), .inl ⟨_, rfl, ?_⟩⟩) fun h => ⟨_, rfl, _, _, rfl, rfl, .inl (by decide), _, _, rfl, rfl, ?_⟩⟩
    all_goals
      dsimp only
      refine ⟨_, rfl, _, rfl, _, _, rfl, rfl, ⟨by decide, by decide, by decide⟩, _, _, rfl, rfl, _, _, rfl, _, _, rfl, rfl, ⟨by decide, by decide, by decide⟩, _, _, rfl, rfl, ⟨by decide, by decide, by decide⟩, _, _, rfl, rfl, wide_mul (a := 200) (b := 200) (by decide) (by decide) (by decide) (by decide) (by decide), _, _, rfl, rfl, (by show (0 : Int) < 10 ^ 60 * 10 ^ 60; decide), ?_⟩
      dsimp only
      refine ⟨_, rfl, _, rfl, _, rfl, _, _, rfl, rfl, (by show (0 : Int) < 1152921504606846697; decide), _, _, rfl, rfl, .inr (by decide), _, rfl, _, _, rfl, rfl, .inl (by decide), _, _, rfl, rfl, _, rfl, _, _, rfl, rfl, .inr ⟨_, rfl, _, _, rfl, rfl, .inl (by decide), _, _, rfl, rfl, _, _, rfl, rfl, by show 3 ≤ sizeLine; omega, fun p hp => q p _ _ _ hp⟩⟩
theorem ok_l_roll (T : Tx K mg) : Fk P w K mg base "_law_roll" 1 ["_law_dice_here", "_law_total"] spRoll := by
  refine Fk.mk0 T.g_l_roll T.d_l_roll sc_l_roll (fun vs H Q E h => ?_) (fun _ _ _ _ _ _ us hl => match us, hl with | [_, _], _ => rfl) fun cdv A outer s H vs Q E hr h => ⟨_,
      (pss_cons (ps_if (pt_cmpR op_gt (pe_ix ix_list (pv 0) pe_int (fun _ _ => rfl)) pe_int (nomark _)) (pss_cons (ps_set (i := 2) sc_l_roll.nd rfl (Or.inl rfl) (pe_op op_mod (pe_callTy call_int1 (by rfl) T.m_int (by decide +kernel) (pa_cons (pe_ix ix_list (pv 0) pe_int (fun _ _ => rfl)) pa_nil)) (pv 1)))
      (pss_cons (ps_asg (pe_op op_fdiv (pe_ix ix_list (pv 0) pe_int (fun _ _ => rfl)) (pv 1)) (pg_sub (pv 0) pe_int set_list))
      (pss_one (ps_ret (pv 2))))) pss_nil)
      (pss_cons (ps_asg (pe_op op_add (pe_ix ix_list (pv 0) pe_int (fun _ _ => rfl)) pe_int) (pg_sub (pv 0) pe_int set_list))
      (pss_cons (ps_set (i := 3) sc_l_roll.nd rfl (Or.inl rfl) (pe_op op_mod (pe_callTy call_int1 (by rfl) T.m_int (by decide +kernel) (pa_cons (pe_op op_add (pe_ix ix_list (pv 0) pe_int (fun _ _ => rfl)) (pe_op op_mul pe_int (pe_ix ix_list (pv 0) pe_int (fun _ _ => rfl)))) pa_nil)) pe_int))
      (pss_cons (ps_set (i := 4) sc_l_roll.nd rfl (Or.inl rfl) (pe_op op_add (pe_op op_mul (pe_op op_mod (pe_callTy call_int1 (by rfl) T.m_int (by decide +kernel) (pa_cons (pe_op op_add (pe_op op_mul (pv 3) (pv 3)) (pe_op op_mul pe_int (pe_ix ix_list (pv 0) pe_int (fun _ _ => rfl)))) pa_nil)) pe_int) pe_int) (pv 3)))
      (pss_one (ps_ret (pe_op op_mod (pe_callTy call_int1 (by rfl) T.m_int (by decide +kernel) (pa_cons (pe_op op_fdiv (pv 4) pe_int) pa_nil)) (pv 1)))))))), ?_⟩
  · obtain ⟨_, _, rfl, _⟩ := h
    rfl
  · obtain ⟨d, n, rfl, ⟨x, y, z, hd⟩, hn1, hn2, q⟩ := h
    have hL : SqL K H d [.int x, .int y, .int z] := .inl (.inl hd)
    have hpos : (0 : Int) < (n : Int) := by omega
    have fin : ∀ i : Int, ∃ r : Nat, i % (n : Int) = (r : Int) ∧ r < n := fun i => by
      have h1 := Int.emod_nonneg i (b := (n : Int)) (by omega)
      have h2 := Int.emod_lt_of_pos i hpos
      exact ⟨(i % (n : Int)).toNat, by omega, by omega⟩
    refine ⟨_, rfl, d, _, _, _, rfl, rfl, hL, atI_nat (j := 0) rfl, _, _, rfl, rfl, _, rfl, ?_⟩
    refine ite2 (fun _ => ?_) fun _ => ?_
    · obtain ⟨r, hr, hlt⟩ := fin x
      refine ⟨_, rfl, d, _, _, _, rfl, rfl, hL, atI_nat (j := 0) rfl, .inl ⟨_, rfl, _, rfl, _, _, rfl, rfl, hpos, ?_⟩⟩
      refine ⟨_, rfl, d, _, _, _, rfl, rfl, hL, atI_nat (j := 0) rfl, _, rfl, _, _, rfl, rfl, ⟨hpos, by omega⟩, _, rfl, d, _, _, 0, rfl, rfl, hd, rfl, _, rfl, ?_⟩
      dsimp only
      rw [hr]
      exact q r (x / n) y z hlt
    · refine ⟨_, rfl, d, _, _, _, rfl, rfl, hL, atI_nat (j := 2) rfl, _, _, rfl, rfl, _, rfl, d, _, _, 2, rfl, rfl, hd, rfl, ?_⟩
      have hL2 : SqL K (upd H d (.lst ([.int x, .int y, .int z].set 2 (.int (z + 1))))) d [.int x, .int y, .int (z + 1)] := .inl (.inl upd_same)
      refine ⟨_, rfl, d, _, _, _, rfl, rfl, hL2, atI_nat (j := 1) rfl, _, rfl, d, _, _, _, rfl, rfl, hL2, atI_nat (j := 2) rfl, _, _, rfl, rfl, .inl (by decide), _, _, rfl, rfl, .inl ⟨_, rfl, _, _, rfl, rfl, (by show (0 : Int) < 2305843009213693561; decide), ?_⟩⟩
      dsimp only
      have b1 := Int.emod_nonneg (y + 67867967 * (z + 1)) (b := 2305843009213693561) (by decide)
      have b2 := Int.emod_lt_of_pos (y + 67867967 * (z + 1)) (b := 2305843009213693561) (by decide)
      generalize (y + 67867967 * (z + 1)) % 2305843009213693561 = o at b1 b2 ⊢
      refine ⟨_, rfl, _, rfl, _, _, rfl, rfl, .inl ⟨by omega, by omega⟩, _, rfl, d, _, _, _, rfl, rfl, hL2, atI_nat (j := 2) rfl, _, _, rfl, rfl, .inl (by decide), _, _, rfl, rfl, .inl ⟨_, rfl, _, _, rfl, rfl, (by show (0 : Int) < 2305843009213693907; decide), _, _, rfl, rfl, ?_, _, rfl, _, _, rfl, rfl, ?_⟩⟩
      · exact .inr (by decide)
      dsimp only
      generalize (o * o + 101 * (z + 1)) % 2305843009213693907 * 7368847 + o = t
      obtain ⟨r, hr, hlt⟩ := fin (t / 65536)
      refine ⟨_, rfl, _, _, rfl, rfl, ⟨(by show (0 : Int) < 65536; decide), (by show (65536 : Int) < 1073741824; decide)⟩, .inl ⟨_, rfl, _, rfl, _, _, rfl, rfl, hpos, ?_⟩⟩
      dsimp only
      rw [hr]
      exact q r x y (z + 1) hlt
end
theorem erase_perm {α : Type} : ∀ {l : List α} {r : Nat} (h : r < l.length), ([l[r]] ++ l.eraseIdx r).Perm l
  | a :: l, 0, _ => List.Perm.refl _
  | a :: l, r + 1, h => by
    have hr : r < l.length := Nat.lt_of_succ_lt_succ h
    have ih := erase_perm (l := l) (r := r) hr
    show ([l[r]] ++ a :: l.eraseIdx r).Perm (a :: l)
    refine List.Perm.trans ?_ (ih.cons a)
    exact List.Perm.swap _ _ _
theorem ix_nat {r n : Nat} (h : r < n) : seqIndex? (r : Int) n = some r := by
  unfold seqIndex?
  simp
  omega
def spPick (K : PySem.W.Frag) : Sp := fun vs H Q _ => ∃ (d a : Addr) (xs : List V), vs = [.ref d, .ref a] ∧ Dice H d ∧ SqL K H a xs ∧ a ≠ d ∧ 1 ≤ xs.length ∧ xs.length ≤ 1000 ∧ ∀ v ∈ xs, ∀ x y z, Q v (upd H d (diceO x y z))
def spMixed (K : PySem.W.Frag) : Sp := fun vs H Q _ => ∃ (d a : Addr) (xs : List V), vs = [.ref d, .ref a] ∧ Dice H d ∧ SqL K H a xs ∧ a ≠ d ∧ xs.length ≤ 1000 ∧ ∀ H' p ys, Ld K d H H' → H p = none → H' p = some (.lst ys) → ys.Perm xs → Q (.ref p) H'
section
variable {P : Program} {w : World} {K : PySem.W.Frag} {mg : Str → Option Value} {base : Heap}
theorem ok_l_pick (T : Tx K mg) : Fk P w K mg base "_law_pick" 2 ["_law_dice_here", "_law_items"] (spPick K) := by
  refine Fk.mk0 T.g_l_pick T.d_l_pick sc_l_pick (fun vs H Q E h => ?_) (fun _ _ _ _ _ _ us hl => match us, hl with | [_, _], _ => rfl) fun cdv A outer s H vs Q E hr h => ⟨_,
      (pss_one (ps_ret (pe_ix ix_list (pv 1) (pe_f (ok_l_roll T) (hr.mono (by decide)) (pa_cons (pv 0) (pa_cons (pe_callB call_len (by rfl) T.m_len boot_len (pa_cons (pv 1) pa_nil)) pa_nil))) (fun _ _ => rfl)))), ?_⟩
  · obtain ⟨_, _, _, rfl, _⟩ := h
    rfl
  · obtain ⟨d, a, xs, rfl, hd, hL, had, hl1, hl2, q⟩ := h
    refine ⟨_, rfl, _, rfl, _, rfl, _, _, rfl, len_l hL, d, xs.length, rfl, hd, hl1, by omega, fun r x y z hr => ?_⟩
    exact ⟨a, _, _, xs[r], rfl, rfl, (Ld.roll hd).sqL had hL, atI_nat (j := r) (List.getElem?_eq_getElem hr), q _ (List.getElem_mem hr) x y z⟩
theorem ok_l_mixed (T : Tx K mg) : Fk P w K mg base "_law_mixed" 2 ["_law_dice_here", "_law_items"] (spMixed K) := by
  refine Fk.mk0 T.g_l_mixed T.d_l_mixed sc_l_mixed (fun vs H Q E h => ?_) (fun _ _ _ _ _ _ us hl => match us, hl with | [_, _], _ => rfl) fun cdv A outer s H vs Q E hr h => ⟨_,
      (pss_cons (ps_par (i := 2) (j := 3) rfl sc_l_mixed.nd rfl rfl (by decide) rfl rfl (pa_cons (pe_callTy call_list_of (by rfl) T.m_list (by decide +kernel) (pa_cons (pv 1) pa_nil)) (pa_cons (pe_lst pa_nil) pa_nil)) (by rfl))
      (pss_cons (ps_for PassesOwn.never rfl (pi_range1 (by rfl) T.m_range (pa_cons (pe_callB call_len (by rfl) T.m_len boot_len (pa_cons (pv 1) pa_nil)) pa_nil)) (pg_name (i := 4) sc_l_mixed.nd rfl (Or.inl rfl)) (pss_one (ps_expr (pe_bm PySem.F.plainAttrs_list PySem.F.slot_list_append PySem.F.type_list_append mt_append (pv 3) (pa_cons (pe_bm PySem.F.plainAttrs_list PySem.F.slot_list_pop PySem.F.type_list_pop mt_popAt (pv 2) (pa_cons (pe_f (ok_l_roll T) (hr.mono (by decide)) (pa_cons (pv 0) (pa_cons (pe_callB call_len (by rfl) T.m_len boot_len (pa_cons (pv 2) pa_nil)) pa_nil))) pa_nil)) pa_nil)))))
      (pss_one (ps_ret (pv 3))))), ?_⟩
  · obtain ⟨_, _, _, rfl, _⟩ := h
    rfl
  · obtain ⟨d, a, xs, rfl, hd, hL, had, hl, q⟩ := h
    have sl : sizeLine = 16777216 := sizeLine_eq
    refine ⟨_, rfl, a, _, rfl, .inl hL, fun lp hlp => ⟨Nat.zero_le _, fun fp hfp => ?_⟩⟩
    have e1 : Ld K d H (upd H lp (.lst xs)) := Ld.new hlp
    have e2 : Ld K d H (upd (upd H lp (.lst xs)) fp (.lst [])) := e1.trans (Ld.new hfp)
    have hlf : lp ≠ fp := ne_of_none upd_same hfp
    have hld : lp ≠ d := hd.ne0 hlp
    have hfd : fp ≠ d := (e1.dice hd).ne0 hfp
    have hf0 : H fp = none := e1.free hd hfp
    have hL2 := e2.sqL had hL
    refine ⟨_, _, rfl, _, rfl, _, _, rfl, len_l hL2, (xs.length : Int), rfl, by omega, by omega, ?_⟩
    refine for_it walk_range (fun i σ H' => ∃ (x4 : Option V) (left ys : List V), σ = [some (.ref d), some (.ref a), some (.ref lp), some (.ref fp), x4] ∧ Ld K d H H' ∧ H' lp = some (.lst left) ∧ H' fp = some (.lst ys) ∧ left.length + i = xs.length ∧ (ys ++ left).Perm xs)
      ⟨_, xs, [], rfl, e2, by rw [upd_ne hlf, upd_same], upd_same, rfl, by rw [List.nil_append]⟩ (fun _ _ _ _ _ => trivial) (fun i x σ H3 H4 hi pv hy => ?_) fun σ H3 pv => ?_
    · obtain ⟨x4, left, ys, rfl, eH, hl3, hf3, hlen, hp⟩ := pv
      obtain ⟨rfl, rfl⟩ := hy
      have hd3 := eH.dice hd
      have hlt : i < xs.length := by omega
      have hpl := hp.length_eq
      rw [List.length_append] at hpl
      refine ⟨_, rfl, .inl ⟨rfl, _, .inl (.inl hf3)⟩, _, rfl, .inl ⟨rfl, _, .inl (.inl hl3)⟩, _, rfl, _, rfl, _, _, rfl, len_l (.inl (.inl hl3)), d, left.length, rfl, hd3, by omega, by omega, fun r x y z hr => ?_⟩
      have hl4 : upd H4 d (diceO x y z) lp = some (.lst left) := by rw [upd_ne hld]; exact hl3
      have hf4 : upd H4 d (diceO x y z) fp = some (.lst ys) := by rw [upd_ne hfd]; exact hf3
      have e4 : Ld K d H (upd H4 d (diceO x y z)) := eH.trans (Ld.roll hd3)
      refine ⟨lp, left, _, r, left[r], rfl, rfl, hl4, by omega, by omega, ix_nat hr, List.getElem?_eq_getElem hr, ?_⟩
      have hf5 : upd (upd H4 d (diceO x y z)) lp (.lst (left.eraseIdx r)) fp = some (.lst ys) := by rw [upd_ne (Ne.symm hlf)]; exact hf4
      have e5 := e4.mut (o := .lst (left.eraseIdx r)) hd hlp hl4
      refine ⟨fp, _, _, rfl, rfl, hf5, by omega, ⟨_, left.eraseIdx r, ys ++ [left[r]], rfl, e5.mut hd hf0 hf5, ?_, upd_same, ?_, ?_⟩⟩
      · rw [upd_ne hlf, upd_same]
      · rw [List.length_eraseIdx, if_pos hr]
        omega
      · refine List.Perm.trans ?_ hp
        rw [List.append_assoc]
        refine List.Perm.append_left ys ?_
        exact erase_perm hr
    · obtain ⟨x4, left, ys, rfl, eH, hl3, hf3, hlen, hp⟩ := pv
      obtain rfl : left = [] := List.length_eq_zero_iff.mp (by omega)
      rw [List.append_nil] at hp
      exact ⟨_, rfl, q H3 fp ys eH hf0 hf3 hp⟩
end
end K28

set_option Elab.async false
set_option linter.all false
set_option maxRecDepth 100000
set_option maxHeartbeats 4000000
namespace K28
open PySem PySem.Spec PyProof.Rows L2
/-! ## drawn rows -/
section
variable {X : Cx}
/-- tuple(list): the new object, as it is -/
theorem call_tupleF : CallR X (.type "tuple") (fun xs H Q => ∃ p ys, xs = [.ref p] ∧ SqL X.K H p ys ∧ ∀ l o, H l = none → o.dict = none → Q (.ref l) (upd H l (.frz o (.tup ys)))) := by
  intro pins s σ H xs us Q I r h
  obtain ⟨p, ys, rfl, hq, q⟩ := h
  obtain ⟨u, rfl, rx⟩ := vals1 r
  cases rx
  obtain ⟨its, r', pl, hz⟩ := I.list hq
  have hlen := r'.length
  refine call_tuple_list pl.isList (fun h' kp => ?_) (by simp only [List.size_toArray] <;> omega)
  have I1 : Inv X pins σ H { s with heap := h' } := I.kept (t' := s.toks) kp
  have hg : (h'.push { cls := .type "tuple", data := .seq its.toArray }).get? h'.objs.size = some { cls := .type "tuple", data := .seq its.toArray } := Heap.get?_push_size _ rfl
  exact ⟨.ref h'.objs.size, _, I1.laid (t' := s.toks) (fun b o e => Heap.get?_push_of_some _ e) (Nat.le_refl _) (o := .frz { cls := .type "tuple", data := .seq its.toArray } (.tup ys)) ⟨hg, hz, its, r', _, hg, rfl, _, rfl⟩, rfl, q _ _ (I1.hok.fresh (Nat.le_refl _)) rfl⟩
end
theorem tupD_frz {K : PySem.W.Frag} {H : Hp} {p : Addr} {o : Obj} {xs : List V} (h : H p = some (.frz o (.tup xs))) (ho : o.dict = none) : TupD K H p xs := ⟨.inl (.inr ⟨o, h⟩), .inl ⟨o, _, h, ho⟩⟩
theorem mem_nat {l : List Nat} {v : V} (h : v ∈ l.map vN) : ∃ n ∈ l, v = vN n := by
  obtain ⟨n, hn, e⟩ := List.mem_map.mp h
  exact ⟨n, hn, e.symm⟩
def spDrawn (K : PySem.W.Frag) : Sp := fun vs H Q _ => ∃ d : Addr, vs = [.ref d, .int 9] ∧ Dice H d ∧ ∀ H' p ns, Ld K d H H' → H p = none → TupD K H' p (ns.map vN) → IxN ns → ns.length ≤ 9 → Q (.ref p) H'
section
variable {P : Program} {w : World} {K : PySem.W.Frag} {mg : Str → Option Value} {base : Heap}
theorem ok_l_likes_drawn (T : Tx K mg) : Fk P w K mg base "_law_likes_drawn" 3 ["_law_dice_here", "_law_most"] (spDrawn K) := by
  refine Fk.mk0 T.g_l_likes_drawn T.d_l_likes_drawn sc_l_likes_drawn (fun vs H Q E h => ?_) (fun _ _ _ _ _ _ us hl => match us, hl with | [_, _], _ => rfl) fun cdv A outer s H vs Q E hr h => ⟨_,
      (pss_cons (ps_par (i := 2) (j := 3) rfl sc_l_likes_drawn.nd rfl rfl (by decide) rfl rfl (pa_cons (pe_lst pa_nil) (pa_cons (pe_f (ok_l_pick T) (hr.mono (by decide)) (pa_cons (pv 0) (pa_cons (pe_lst (pa_cons pe_int (pa_cons pe_int (pa_cons pe_int (pa_cons pe_int (pa_cons pe_int pa_nil)))))) pa_nil))) pa_nil)) (by rfl))
      (pss_cons (ps_for PassesOwn.never rfl (pi_range1 (by rfl) T.m_range (pa_cons (pe_op op_add pe_int (pe_f (ok_l_roll T) (hr.mono (by decide)) (pa_cons (pv 0) (pa_cons pe_int pa_nil)))) pa_nil)) (pg_name (i := 4) sc_l_likes_drawn.nd rfl (Or.inl rfl)) (pss_cons (ps_set (i := 5) sc_l_likes_drawn.nd rfl (Or.inl rfl) (pe_f (ok_l_pick T) (hr.mono (by decide)) (pa_cons (pv 0) (pa_cons (pe_lst (pa_cons pe_int (pa_cons pe_int (pa_cons pe_int (pa_cons pe_int (pa_cons pe_int (pa_cons pe_int (pa_cons pe_int pa_nil)))))))) pa_nil))))
      (pss_cons (ps_for PassesOwn.never rfl (pi_range1 (by rfl) T.m_range (pa_cons (pe_op op_add pe_int (pe_f (ok_l_roll T) (hr.mono (by decide)) (pa_cons (pv 0) (pa_cons pe_int pa_nil)))) pa_nil)) (pg_name (i := 6) sc_l_likes_drawn.nd rfl (Or.inl rfl)) (pss_cons (ps_expr (pe_bm PySem.F.plainAttrs_list PySem.F.slot_list_append PySem.F.type_list_append mt_append (pv 2) (pa_cons (pv 3) pa_nil)))
      (pss_one (ps_set (i := 3) sc_l_likes_drawn.nd rfl (Or.inl rfl) (pe_op op_add (pv 3) (pv 5))))))
      (pss_one (ps_set (i := 3) sc_l_likes_drawn.nd rfl (Or.inl rfl) (pe_op op_add (pv 3) (pe_f (ok_l_pick T) (hr.mono (by decide)) (pa_cons (pv 0) (pa_cons (pe_lst (pa_cons pe_int (pa_cons pe_int (pa_cons pe_int (pa_cons pe_int pa_nil))))) pa_nil)))))))))
      (pss_one (ps_ret (pe_callTy call_tupleF (by rfl) T.m_tuple (by decide +kernel) (pa_cons (pe_slice sl_list (pv 2) po_none (po_some (pv 1))) pa_nil)))))), ?_⟩
  · obtain ⟨_, rfl, _⟩ := h
    rfl
  · obtain ⟨d, rfl, hd, q⟩ := h
    have sl : sizeLine = 16777216 := sizeLine_eq
    refine ⟨Nat.zero_le _, fun fp hfp => ⟨_, rfl, by show 5 ≤ sizeLine; omega, fun p1 hp1 => ?_⟩⟩
    have hfd : fp ≠ d := hd.ne0 hfp
    have e1 : Ld K d H (upd H fp (.lst [])) := Ld.new hfp
    have hpd1 : p1 ≠ d := (e1.dice hd).ne0 hp1
    have e2 := e1.trans (Ld.new (K := K) (d := d) (o := .lst [.int 0, .int 1, .int 7, .int 95, .int 998]) hp1)
    refine ⟨d, p1, ([0, 1, 7, 95, 998] : List Nat).map vN, rfl, e2.dice hd, .inl (.inl upd_same), hpd1, by decide, by decide, fun v hv x y z => ?_⟩
    obtain ⟨m0, hm0, rfl⟩ := mem_nat hv
    have hm0 : m0 ≤ 998 := (by decide : ∀ n ∈ ([0, 1, 7, 95, 998] : List Nat), n ≤ 998) m0 hm0
    have e3 := e2.trans (Ld.roll (K := K) (x := x) (y := y) (z := z) (e2.dice hd))
    have hfp3 : upd (upd (upd H fp (.lst [])) p1 (.lst [.int 0, .int 1, .int 7, .int 95, .int 998])) d (diceO x y z) fp = some (.lst []) := by
      rw [upd_ne hfd, upd_ne (ne_of_none upd_same hp1), upd_same]
    generalize upd (upd (upd H fp (.lst [])) p1 (.lst [.int 0, .int 1, .int 7, .int 95, .int 998])) d (diceO x y z) = H3 at e3 hfp3 ⊢
    refine ⟨_, _, rfl, _, rfl, d, 4, rfl, e3.dice hd, by decide, by decide, fun r x y z hr => ⟨_, _, rfl, rfl, ((1 + r : Nat) : Int), congrArg (fun n => [V.int n]) (by omega), by omega, by omega, ?_⟩⟩
    have e4 := e3.trans (Ld.roll (K := K) (x := x) (y := y) (z := z) (e3.dice hd))
    have hfp4 : upd H3 d (diceO x y z) fp = some (.lst []) := by rw [upd_ne hfd]; exact hfp3
    generalize upd H3 d (diceO x y z) = H4 at e4 hfp4 ⊢
    refine for_it walk_range (fun i σ H' => ∃ (x4 x5 x6 : Option V) (m : Nat) (ns : List Nat), σ = [some (.ref d), some (.int 9), some (.ref fp), some (vN m), x4, x5, x6] ∧ Ld K d H H' ∧ H' fp = some (.lst (ns.map vN)) ∧ ns.Pairwise (· < ·) ∧ (∀ n ∈ ns, n < m) ∧ m ≤ 998 + i * 428 ∧ i ≤ ns.length ∧ ns.length ≤ 4 * i)
      ⟨_, _, _, m0, [], rfl, e4, hfp4, .nil, fun _ h => absurd h List.not_mem_nil, by omega, Nat.le_refl _, Nat.le_refl _⟩ (fun _ _ _ _ _ => trivial) (fun i x σ H5 H6 hi pv hy => ?_) fun σ H5 pv => ?_
    · obtain ⟨x4, x5, x6, m, ns, rfl, e5, hf5, hup, hlt, hm, hl1, hl2⟩ := pv
      obtain ⟨rfl, rfl⟩ := hy
      have hi : i < 1 + r := by omega
      have hd5 := e5.dice hd
      refine ⟨_, rfl, by show 7 ≤ sizeLine; omega, fun p2 hp2 => ?_⟩
      have e6 := e5.trans (Ld.new (K := K) (d := d) (o := .lst [.int 1, .int 1, .int 2, .int 3, .int 5, .int 10, .int 97]) hp2)
      have hf6 : upd H6 p2 (.lst [.int 1, .int 1, .int 2, .int 3, .int 5, .int 10, .int 97]) fp = some (.lst (ns.map vN)) := (Same.new hp2) _ _ hf5
      refine ⟨d, p2, ([1, 1, 2, 3, 5, 10, 97] : List Nat).map vN, rfl, e6.dice hd, .inl (.inl upd_same), hd5.ne0 hp2, by decide, by decide, fun v hv x y z => ?_⟩
      obtain ⟨st, hst, rfl⟩ := mem_nat hv
      obtain ⟨s1, s2⟩ := (by decide : ∀ n ∈ ([1, 1, 2, 3, 5, 10, 97] : List Nat), 1 ≤ n ∧ n ≤ 97) st hst
      have e7 := e6.trans (Ld.roll (K := K) (x := x) (y := y) (z := z) (e6.dice hd))
      have hf7 : upd (upd H6 p2 (.lst [.int 1, .int 1, .int 2, .int 3, .int 5, .int 10, .int 97])) d (diceO x y z) fp = some (.lst (ns.map vN)) := by rw [upd_ne hfd]; exact hf6
      generalize upd (upd H6 p2 (.lst [.int 1, .int 1, .int 2, .int 3, .int 5, .int 10, .int 97])) d (diceO x y z) = H7 at e7 hf7 ⊢
      refine ⟨_, rfl, d, 4, rfl, e7.dice hd, by decide, by decide, fun r2 x y z hr2 => ⟨_, _, rfl, rfl, ((1 + r2 : Nat) : Int), congrArg (fun n => [V.int n]) (by omega), by omega, by omega, ?_⟩⟩
      have e8 := e7.trans (Ld.roll (K := K) (x := x) (y := y) (z := z) (e7.dice hd))
      have hf8 : upd H7 d (diceO x y z) fp = some (.lst (ns.map vN)) := by rw [upd_ne hfd]; exact hf7
      generalize upd H7 d (diceO x y z) = H8 at e8 hf8 ⊢
      refine for_it walk_range (fun j σ H' => ∃ (x6 : Option V) (m2 : Nat) (ns2 : List Nat), σ = [some (.ref d), some (.int 9), some (.ref fp), some (vN m2), some (.int (0 + (i : Int))), some (vN st), x6] ∧ Ld K d H H' ∧ H' fp = some (.lst (ns2.map vN)) ∧ ns2.Pairwise (· < ·) ∧ (∀ n ∈ ns2, n < m2 ∨ (j = 0 ∧ n < m2)) ∧ m2 ≤ m + j * 97 ∧ ns2.length = ns.length + j)
        ⟨_, m, ns, rfl, e8, hf8, hup, fun n hn => .inl (hlt n hn), by omega, by omega⟩ (fun _ _ _ _ _ => trivial) (fun j x σ H9 H10 hj pv hy => ?_) fun σ H9 pv => ?_
      · obtain ⟨x6, m2, ns2, rfl, e9, hf9, hup2, hlt2, hm2, hl2'⟩ := pv
        obtain ⟨rfl, rfl⟩ := hy
        refine ⟨_, rfl, .inl ⟨rfl, _, .inl (.inl hf9)⟩, _, rfl, fp, _, _, rfl, rfl, hf9, by rw [List.length_map]; omega, _, rfl, _, rfl, _, _, rfl, rfl, ⟨some (V.int (0 + (j : Int))), m2 + st, ns2 ++ [m2], ?_, e9.mut hd hfp hf9, by rw [upd_same, List.map_append] <;> rfl, ?_, ?_, ?_, ?_⟩⟩
        · rfl
        · rw [List.pairwise_append]
          refine ⟨hup2, List.pairwise_singleton .., fun a ha b hb => ?_⟩
          rw [List.mem_singleton.mp hb]
          have := hlt2 a ha
          omega
        · intro n hn
          rcases List.mem_append.mp hn with hn | hn
          · have := hlt2 n hn
            omega
          · rw [List.mem_singleton.mp hn]
            omega
        · have : (j + 1) * 97 = j * 97 + 97 := by omega
          omega
        · rw [List.length_append, List.length_singleton]
          omega
      · obtain ⟨x6, m2, ns2, rfl, e9, hf9, hup2, hlt2, hm2, hl2'⟩ := pv
        have hjn : ((1 + r2 : Nat) : Int).toNat = 1 + r2 := by omega
        rw [hjn] at hlt2 hm2 hl2'
        refine ⟨_, rfl, _, rfl, by show 4 ≤ sizeLine; omega, fun p3 hp3 => ?_⟩
        have e10 := e9.trans (Ld.new (K := K) (d := d) (o := .lst [.int 0, .int 1, .int 6, .int 40]) hp3)
        have hf10 : upd H9 p3 (.lst [.int 0, .int 1, .int 6, .int 40]) fp = some (.lst (ns2.map vN)) := (Same.new hp3) _ _ hf9
        refine ⟨d, p3, ([0, 1, 6, 40] : List Nat).map vN, rfl, e10.dice hd, .inl (.inl upd_same), (e9.dice hd).ne0 hp3, by decide, by decide, fun v hv x y z => ?_⟩
        obtain ⟨ad, had, rfl⟩ := mem_nat hv
        have a2 := (by decide : ∀ n ∈ ([0, 1, 6, 40] : List Nat), n ≤ 40) ad had
        refine ⟨_, _, rfl, rfl, ⟨some (V.int (0 + (i : Int))), some (vN st), x6, m2 + ad, ns2, rfl, e10.trans (Ld.roll (e10.dice hd)), by rw [upd_ne hfd]; exact hf10, hup2, fun n hn => ?_, ?_, ?_, ?_⟩⟩
        · have := hlt2 n hn
          omega
        · have : (1 + r2) * 97 ≤ 4 * 97 := Nat.mul_le_mul_right _ (by omega)
          omega
        · omega
        · omega
    · obtain ⟨x4, x5, x6, m, ns, rfl, e5, hf5, hup, hlt, hm, hl1, hl2⟩ := pv
      have hin : ((1 + r : Nat) : Int).toNat = 1 + r := by omega
      rw [hin] at hm hl1 hl2
      refine ⟨_, rfl, _, rfl, _, rfl, fp, _, rfl, .inl (.inl hf5), fun p4 hp4 => ⟨p4, _, rfl, .inl (.inl upd_same), fun l o hl ho => ?_⟩⟩
      have hc : cutV (ns.map vN) none (some 9) = (ns.take 9).map vN := by
        rw [List.map_take]
        exact cutV_to _ 9
      have e6 := (e5.trans (Ld.new (o := .lst (cutV (ns.map vN) none (some 9))) hp4)).trans (Ld.new (o := .frz o (.tup (cutV (ns.map vN) none (some 9)))) hl)
      refine q _ l (ns.take 9) e6 (e5.free hd (((Same.new hp4).free hl))) (by rw [← hc]; exact tupD_frz upd_same ho) ⟨?_, ?_, fun n hn => ?_, hup.sublist (List.take_sublist _ _)⟩ (by rw [List.length_take]; omega)
      · rw [List.length_take]
        omega
      · rw [List.length_take]
        omega
      · have h1 := hlt n (List.mem_of_mem_take hn)
        have h2 : (1 + r) * 428 ≤ 4 * 428 := Nat.mul_le_mul_right _ (by omega)
        omega
end
end K28

set_option Elab.async false
set_option linter.all false
set_option maxRecDepth 100000
set_option maxHeartbeats 4000000
namespace K28
open PySem PySem.Spec PyProof.Rows L2
/-- what is not written to stays -/
def Hd (H H' : Hp) : Prop := ∀ b o, H b = some o → soft o = false → (∀ ps, o ≠ .tbl ps) → H' b = some o
section
variable {K : PySem.W.Frag} {H H' H1 : Hp} {d a : Addr} {xs : List V}
theorem Hd.trans (a : Hd H H1) (b : Hd H1 H') : Hd H H' := fun c o h s t => b c o (a c o h s t) s t
theorem Hd.refl (H : Hp) : Hd H H := fun _ _ h _ _ => h
theorem Ld.hd (e : Ld K d H H') (h : Dice H d) : Hd H H' := fun b o q s t => e.keep b o (fun z => by
  obtain ⟨x, y, z', g⟩ := h
  rw [z, g] at q
  rw [← Option.some.inj q] at s
  cases s) q t
theorem Le.hd (e : Le K H H') : Hd H H' := fun b o q _ t => e.keep b o q t
theorem Hd.soft {p : Addr} {u o : HO} (hp : H p = some u) (hu : soft u = true) : Hd H (upd H p o) := fun b v q s _ => soft_ne hp hu q s
theorem Hd.sqT (e : Hd H H') (h : SqT K H a xs) : SqT K H' a xs := by
  rcases h with (h | ⟨o, h⟩) | h
  · exact .inl (.inl (e _ _ h rfl fun _ z => nomatch z))
  · exact .inl (.inr ⟨o, e _ _ h rfl fun _ z => nomatch z⟩)
  · exact .inr h
theorem Hd.tupD (e : Hd H H') (h : TupD K H a xs) : TupD K H' a xs := by
  refine ⟨e.sqT h.1, ?_⟩
  rcases h.2 with ⟨o, u, q, z⟩ | h
  · exact .inl ⟨o, u, e _ _ q rfl fun _ z => (nomatch z), z⟩
  · exact .inr h
end
/-- the law's own rows: triples -/
def LRow (K : PySem.W.Frag) (H : Hp) (p : Addr) (r : Rw) : Prop := ∃ (t : Addr) (m : V), SqT K H p [vN r.1, .ref t, m] ∧ TupD K H t (r.2.map vN) ∧ MostOk r.2 m ∧ IxN r.2
theorem Hd.lrow {K : PySem.W.Frag} {H H' : Hp} {p : Addr} {r : Rw} (e : Hd H H') (h : LRow K H p r) : LRow K H' p r := by
  obtain ⟨t, m, h1, h2, h3, h4⟩ := h
  exact ⟨t, m, e.sqT h1, e.tupD h2, h3, h4⟩
/-- some of them -/
def LRs (K : PySem.W.Frag) (H : Hp) (ps : List Addr) (rs : List Rw) : Prop := ps.length = rs.length ∧ ∀ (i : Nat) (p : Addr) (r : Rw), ps[i]? = some p → rs[i]? = some r → LRow K H p r
theorem Hd.lrs {K : PySem.W.Frag} {H H' : Hp} {ps : List Addr} {rs : List Rw} (e : Hd H H') (h : LRs K H ps rs) : LRs K H' ps rs := ⟨h.1, fun i p r a b => e.lrow (h.2 i p r a b)⟩
theorem LRs.snoc {K : PySem.W.Frag} {H : Hp} {ps : List Addr} {rs : List Rw} {p : Addr} {r : Rw} (h : LRs K H ps rs) (hr : LRow K H p r) : LRs K H (ps ++ [p]) (rs ++ [r]) := by
  refine ⟨by rw [List.length_append, List.length_append, h.1]; rfl, fun i q s a b => ?_⟩
  by_cases hi : i < ps.length
  · rw [List.getElem?_append_left hi] at a
    rw [List.getElem?_append_left (by rw [← h.1]; exact hi)] at b
    exact h.2 i q s a b
  · rw [List.getElem?_append_right (by omega)] at a
    rw [List.getElem?_append_right (by rw [← h.1]; omega)] at b
    have e1 := (List.getElem?_eq_some_iff.mp a).1
    have e0 : i - ps.length = 0 := by simpa using e1
    rw [e0] at a
    rw [← h.1, e0] at b
    have := Option.some.inj a
    have := Option.some.inj b
    subst_vars
    exact hr
theorem UpR.of_pw : ∀ {rs : List Rw}, (rs.Pairwise fun a b => a.1 + a.2.length ≤ b.1) → UpR rs
  | [], _ => True.intro
  | [_], _ => True.intro
  | r :: q :: l, h => by
    rw [List.pairwise_cons] at h
    exact ⟨h.1 q (List.mem_cons_self ..), UpR.of_pw h.2⟩
def spLRow (K : PySem.W.Frag) : Sp := fun vs H Q _ => ∃ (d : Addr) (f : Nat), vs = [.ref d, vN f] ∧ Dice H d ∧ ∀ H' p ns, Ld K d H H' → H p = none → LRow K H' p (f, ns) → ns.length ≤ 9 → Q (.ref p) H'
def spLRows (K : PySem.W.Frag) : Sp := fun vs H Q _ => ∃ d : Addr, vs = [.ref d] ∧ Dice H d ∧ ∀ H' p ps rs, Ld K d H H' → H p = none → H' p = some (.lst (ps.map V.ref)) → LRs K H' ps rs → rs.length ≤ 3 → UpR rs → (∀ r ∈ rs, 1 ≤ r.1 ∧ r.1 ≤ 200 ∧ r.2.length ≤ 9) → Q (.ref p) H'
section
variable {P : Program} {w : World} {K : PySem.W.Frag} {mg : Str → Option Value} {base : Heap}
theorem ok_l_likes_row (T : Tx K mg) : Fk P w K mg base "_law_likes_row" 4 ["_law_dice_here", "_law_first"] (spLRow K) := by
  refine Fk.mk0 T.g_l_likes_row T.d_l_likes_row sc_l_likes_row (fun vs H Q E h => ?_) (fun _ _ _ _ _ _ us hl => match us, hl with | [_, _], _ => rfl) fun cdv A outer s H vs Q E hr h => ⟨_,
      (pss_cons (ps_set (i := 2) sc_l_likes_row.nd rfl (Or.inl rfl) (pe_f (ok_l_likes_drawn T) (hr.mono (by decide)) (pa_cons (pv 0) (pa_cons pe_int pa_nil))))
      (pss_one (ps_ret (pe_tup (pa_cons (pv 1) (pa_cons (pv 2) (pa_cons (pe_f (ok_l_pick T) (hr.mono (by decide)) (pa_cons (pv 0) (pa_cons (pe_lst (pa_cons pe_non (pa_cons pe_int (pa_cons (pe_callB call_len (by rfl) T.m_len boot_len (pa_cons (pv 2) pa_nil)) (pa_cons (pe_op op_add pe_int (pe_f (ok_l_roll T) (hr.mono (by decide)) (pa_cons (pv 0) (pa_cons (pe_callB call_len (by rfl) T.m_len boot_len (pa_cons (pv 2) pa_nil)) pa_nil)))) pa_nil))))) pa_nil))) pa_nil))))))), ?_⟩
  · obtain ⟨_, _, rfl, _⟩ := h
    rfl
  · obtain ⟨d, f, rfl, hd, q⟩ := h
    have sl : sizeLine = 16777216 := sizeLine_eq
    refine ⟨_, rfl, d, rfl, hd, fun H1 t ns e1 ht0 ht ix hl9 => ?_⟩
    have hlen : (ns.map vN).length = ns.length := List.length_map ..
    have hd1 := e1.dice hd
    have hlo := ix.lo
    refine ⟨_, rfl, _, rfl, _, rfl, _, rfl, _, _, rfl, len_t ht.1, _, rfl, _, rfl, _, _, rfl, len_t ht.1, d, ns.length, congrArg (fun n => [V.ref d, V.int n]) (by rw [hlen]), hd1, hlo, by omega, fun r x y z hr => ?_⟩
    have e2 := e1.trans (Ld.roll (x := x) (y := y) (z := z) hd1)
    refine ⟨_, _, rfl, rfl, by show 4 ≤ sizeLine; omega, fun p1 hp1 => ?_⟩
    have e3 := e2.trans (Ld.new (K := K) (d := d) (o := .lst [.non, .int 1, .int (ns.map vN).length, .int (1 + (r : Int))]) hp1)
    refine ⟨d, p1, _, rfl, e3.dice hd, .inl (.inl upd_same), (e2.dice hd).ne0 hp1, by show 1 ≤ 4; omega, by show 4 ≤ 1000; omega, fun v hv x y z => ?_⟩
    have e4 := e3.trans (Ld.roll (K := K) (x := x) (y := y) (z := z) (e3.dice hd))
    have ht4 := ((e4.hd hd).tupD (K := K) (a := t) (xs := ns.map vN))
    have hm : MostOk ns v := by
      have hv : v = .non ∨ v = .int 1 ∨ v = .int (ns.map vN).length ∨ v = .int (1 + (r : Int)) := by simpa using hv
      rcases hv with rfl | rfl | rfl | rfl
      · exact .inl rfl
      · exact .inr ⟨1, rfl, by omega, hlo⟩
      · exact .inr ⟨ns.length, by rw [hlen], by omega, Nat.le_refl _⟩
      · exact .inr ⟨1 + r, by congr 1, by omega, by omega⟩
    refine ⟨by show 3 ≤ sizeLine; omega, fun p hp => q _ p ns (e4.trans (Ld.new hp)) (e4.free hd hp) ⟨t, v, .of upd_same, ?_, hm, ix⟩ hl9⟩
    have h14 : Hd H1 (upd (upd (upd H1 d (diceO _ _ _)) p1 _) d (diceO x y z)) := ((Ld.roll (K := K) hd1).hd hd1).trans (((Le.new (K := K) hp1).hd).trans ((Ld.roll (K := K) (e3.dice hd)).hd (e3.dice hd)))
    exact ((Le.new (K := K) hp).hd).tupD (h14.tupD ht)
theorem ok_l_likes_rows (T : Tx K mg) : Fk P w K mg base "_law_likes_rows" 5 ["_law_dice_here"] (spLRows K) := by
  refine Fk.mk0 T.g_l_likes_rows T.d_l_likes_rows sc_l_likes_rows (fun vs H Q E h => ?_) (fun _ _ _ _ _ _ us hl => match us, hl with | [_], _ => rfl) fun cdv A outer s H vs Q E hr h => ⟨_,
      (pss_cons (ps_par (i := 1) (j := 2) rfl sc_l_likes_rows.nd rfl rfl (by decide) rfl rfl (pa_cons (pe_lst pa_nil) (pa_cons (pe_op op_add pe_int (pe_f (ok_l_roll T) (hr.mono (by decide)) (pa_cons (pv 0) (pa_cons pe_int pa_nil)))) pa_nil)) (by rfl))
      (pss_cons (ps_for PassesOwn.never rfl (pi_range1 (by rfl) T.m_range (pa_cons (pe_f (ok_l_roll T) (hr.mono (by decide)) (pa_cons (pv 0) (pa_cons pe_int pa_nil))) pa_nil)) (pg_name (i := 3) sc_l_likes_rows.nd rfl (Or.inl rfl)) (pss_cons (ps_expr (pe_bm PySem.F.plainAttrs_list PySem.F.slot_list_append PySem.F.type_list_append mt_append (pv 1) (pa_cons (pe_f (ok_l_likes_row T) (hr.mono (by decide)) (pa_cons (pv 0) (pa_cons (pv 2) pa_nil))) pa_nil)))
      (pss_one (ps_set (i := 2) sc_l_likes_rows.nd rfl (Or.inl rfl) (pe_op op_add (pe_op op_add (pv 2) (pe_callB call_len (by rfl) T.m_len boot_len (pa_cons (pe_ix ix_tup (pe_ix ix_list (pv 1) (pe_un un_neg pe_int) (fun _ _ => rfl)) pe_int (fun _ _ => rfl)) pa_nil))) (pe_f (ok_l_roll T) (hr.mono (by decide)) (pa_cons (pv 0) (pa_cons pe_int pa_nil))))))))
      (pss_one (ps_ret (pv 1))))), ?_⟩
  · obtain ⟨_, rfl, _⟩ := h
    rfl
  · obtain ⟨d, rfl, hd, q⟩ := h
    have sl : sizeLine = 16777216 := sizeLine_eq
    refine ⟨Nat.zero_le _, fun fp hfp => ⟨_, rfl, d, 20, rfl, (Ld.new (K := K) hfp).dice hd, by decide, by decide, fun r x y z hr => ⟨_, _, rfl, rfl, ?_⟩⟩⟩
    have hfd : fp ≠ d := hd.ne0 hfp
    have e1 : Ld K d H (upd H fp (.lst [])) := Ld.new hfp
    have e2 := e1.trans (Ld.roll (x := x) (y := y) (z := z) (e1.dice hd))
    have hf2 : upd (upd H fp (.lst [])) d (diceO x y z) fp = some (.lst []) := by rw [upd_ne hfd, upd_same]
    generalize upd (upd H fp (.lst [])) d (diceO x y z) = H2 at e2 hf2 ⊢
    refine ⟨_, _, rfl, _, rfl, d, 4, rfl, e2.dice hd, by decide, by decide, fun r2 x y z hr2 => ⟨(r2 : Int), rfl, by omega, by omega, ?_⟩⟩
    have e3 := e2.trans (Ld.roll (x := x) (y := y) (z := z) (e2.dice hd))
    have hf3 : upd H2 d (diceO x y z) fp = some (.lst []) := by rw [upd_ne hfd]; exact hf2
    generalize upd H2 d (diceO x y z) = H3 at e3 hf3 ⊢
    refine for_it walk_range (fun i σ H' => ∃ (x3 : Option V) (f : Nat) (ps : List Addr) (rs : List Rw), σ = [some (.ref d), some (.ref fp), some (vN f), x3] ∧ Ld K d H H' ∧ H' fp = some (.lst (ps.map V.ref)) ∧ LRs K H' ps rs ∧ rs.length = i ∧ rs.Pairwise (fun a b => a.1 + a.2.length ≤ b.1) ∧ (∀ r ∈ rs, r.1 + r.2.length ≤ f ∧ 1 ≤ r.1 ∧ r.1 ≤ 200 ∧ r.2.length ≤ 9) ∧ 1 ≤ f ∧ f ≤ 20 + i * 20)
      ⟨_, 1 + r, [], [], congrArg (fun v => [some (V.ref d), some (V.ref fp), some v, none]) (by show V.int (1 + (r : Int)) = V.int ((1 + r : Nat) : Int); congr 1), e3, hf3, ⟨rfl, fun i p r a => by simp at a⟩, rfl, .nil, fun _ h => absurd h List.not_mem_nil, by omega, by omega⟩ (fun _ _ _ _ _ => trivial) (fun i x σ H5 H6 hi pv hy => ?_) fun σ H5 pv => ?_
    · obtain ⟨x3, f, ps, rs, rfl, e5, hf5, lr, hlen, hpw, hbd, hf1, hf20⟩ := pv
      obtain ⟨rfl, rfl⟩ := hy
      have hi : i < r2 := hi
      have hd5 := e5.dice hd
      refine ⟨_, rfl, .inl ⟨rfl, _, .inl (.inl hf5)⟩, _, rfl, _, rfl, d, f, rfl, hd5, fun H7 p ns e7 hp0 hrow hl9 => ?_⟩
      have hf7 : H7 fp = some (.lst (ps.map V.ref)) := e7.keep _ _ hfd hf5 fun _ z => (nomatch z)
      have hpl : ps.length = i := by rw [lr.1, hlen]
      refine ⟨fp, _, _, rfl, rfl, hf7, by rw [List.length_map]; omega, ?_⟩
      have hrow8 : LRow K (upd H7 fp (.lst (ps.map V.ref ++ [V.ref p]))) p (f, ns) := (Hd.soft hf7 rfl).lrow hrow
      have lr8 : LRs K (upd H7 fp (.lst (ps.map V.ref ++ [V.ref p]))) ps rs := (Hd.soft hf7 rfl).lrs ((e7.hd hd5).lrs lr)
      have e8 := (e5.trans e7).mut (o := .lst (ps.map V.ref ++ [V.ref p])) hd hfp hf7
      have hf8 : upd H7 fp (.lst (ps.map V.ref ++ [V.ref p])) fp = some (.lst (ps.map V.ref ++ [V.ref p])) := upd_same
      generalize upd H7 fp (.lst (ps.map V.ref ++ [V.ref p])) = H8 at hrow8 lr8 e8 hf8 ⊢
      obtain ⟨t, m, g1, g2, g3, g4⟩ := _root_.id hrow8
      refine ⟨_, rfl, _, rfl, _, rfl, fp, _, _, _, rfl, rfl, .inl (.inl hf8), atI_last _ _, p, _, _, _, rfl, rfl, g1, atI_nat (j := 1) rfl, _, _, rfl, len_t g2.1, _, _, rfl, rfl, _, rfl, d, 12, rfl, e8.dice hd, by decide, by decide, fun r3 x y z hr3 => ⟨_, _, rfl, rfl, ?_⟩⟩
      have hd8 := e8.dice hd
      have e9 := e8.trans (Ld.roll (x := x) (y := y) (z := z) hd8)
      have h89 : Hd H8 (upd H8 d (diceO x y z)) := (Ld.roll (K := K) hd8).hd hd8
      refine ⟨some (V.int (0 + (i : Int))), f + ns.length + r3, ps ++ [p], rs ++ [(f, ns)], ?_, e9, ?_, (h89.lrs lr8).snoc (h89.lrow hrow8), by rw [List.length_append, hlen]; rfl, ?_, fun r hr => ?_, by omega, by omega⟩
      · show [some (V.ref d), some (V.ref fp), some (V.int ((f : Int) + ((ns.map vN).length : Int) + (r3 : Int))), some (V.int (0 + (i : Int)))] = _
        rw [List.length_map]
        congr 3
      · rw [upd_ne hfd, hf8, List.map_append]
        rfl
      · rw [List.pairwise_append]
        refine ⟨hpw, List.pairwise_singleton .., fun a ha b hb => ?_⟩
        rw [List.mem_singleton.mp hb]
        exact (hbd a ha).1
      · rcases List.mem_append.mp hr with hr | hr
        · have := hbd r hr
          omega
        · rw [List.mem_singleton.mp hr]
          refine ⟨by show f + ns.length ≤ _; omega, hf1, ?_, hl9⟩
          show f ≤ 200
          omega
    · obtain ⟨x3, f, ps, rs, rfl, e5, hf5, lr, hlen, hpw, hbd, hf1, hf20⟩ := pv
      have hlen : rs.length = r2 := hlen
      exact ⟨_, rfl, q H5 fp ps rs e5 hfp hf5 lr (by omega) (UpR.of_pw hpw) fun r hr => (hbd r hr).2⟩
end
end K28

set_option Elab.async false
set_option linter.all false
set_option maxRecDepth 100000
set_option maxHeartbeats 4000000
namespace K28
open PySem PySem.Spec PyProof.Rows L2
/-! ## drawn states -/
def putS (f : St1) (n : Nat) (w : List Nat) : St1 := if hasS f n = true then f.map (fun p => if p.1 = n then (p.1, w) else p) else f ++ [(n, w)]
theorem kvS_putS (f : St1) (n : Nat) (w : List Nat) : putK (kvS f) (.inl (n : Int)) (.str (S w)) = kvS (putS f n w) := by
  by_cases h : hasS f n = true
  · unfold putS
    rw [if_pos h]
    unfold putK
    have h2 : ((kvS f).any fun kv => decide (kv.1 = (.inl (n : Int) : Key))) = true := by
      obtain ⟨p, hp, e⟩ := List.any_eq_true.mp h
      exact List.any_eq_true.mpr ⟨_, List.mem_map.mpr ⟨p, hp, rfl⟩, decide_eq_true (by rw [of_decide_eq_true e])⟩
    rw [if_pos h2]
    unfold kvS
    rw [List.map_map, List.map_map]
    refine List.map_congr_left fun p _ => ?_
    show (if (Sum.inl (p.1 : Int) : Key) = .inl (n : Int) then ((Sum.inl (p.1 : Int) : Key), V.str (S w)) else (.inl (p.1 : Int), .str (S p.2))) = (.inl (((if p.1 = n then (p.1, w) else p).1 : Nat) : Int), .str (S (if p.1 = n then (p.1, w) else p).2))
    by_cases e : p.1 = n
    · rw [if_pos e, if_pos (by rw [e])]
    · rw [if_neg e, if_neg fun z => e (by injection z with z; omega)]
  · unfold putS
    rw [if_neg h]
    exact kvS_put fun z => h (hasS_iff.mpr z)
theorem putS_keys (f : St1) (n : Nat) (w : List Nat) : (putS f n w).map Prod.fst = if hasS f n = true then f.map Prod.fst else f.map Prod.fst ++ [n] := by
  unfold putS
  split
  · rw [List.map_map]
    refine List.map_congr_left fun p _ => ?_
    show (if p.1 = n then (p.1, w) else p).1 = p.1
    split <;> rfl
  · rw [List.map_append]
    rfl
theorem putS_ok {f : St1} {n : Nat} {w : List Nat} (h : StOk f) (hl : f.length < 60) (hn : 1 ≤ n ∧ n ≤ 1000000) (hw : wordB w = true) : StOk (putS f n w) ∧ (putS f n w).length ≤ f.length + 1 := by
  have hlen : (putS f n w).length ≤ f.length + 1 := by
    unfold putS
    split
    · rw [List.length_map]
      omega
    · simp
  have hmem : ∀ p ∈ putS f n w, (p ∈ f ∨ p = (n, w)) := by
    intro p hp
    unfold putS at hp
    split at hp
    · obtain ⟨q, hq, rfl⟩ := List.mem_map.mp hp
      split
      · rename_i e
        exact .inr (by rw [e])
      · exact .inl hq
    · rcases List.mem_append.mp hp with hp | hp
      · exact .inl hp
      · exact .inr (List.mem_singleton.mp hp)
  refine ⟨⟨by omega, fun p hp => ?_, fun p hp => ?_, ?_⟩, hlen⟩
  · rcases hmem p hp with hp | rfl
    · exact h.num p hp
    · exact hn
  · rcases hmem p hp with hp | rfl
    · exact h.word p hp
    · exact hw
  · rw [putS_keys]
    split
    · exact h.keys
    · rename_i c
      rw [List.nodup_append]
      refine ⟨h.keys, by simp, fun a ha b hb z => ?_⟩
      rw [List.mem_singleton.mp hb] at z
      exact c (hasS_iff.mpr (z ▸ ha))
structure LBd (rs : List Rw) : Prop where
  few : rs.length ≤ 3
  bd : ∀ r ∈ rs, 1 ≤ r.1 ∧ r.1 ≤ 200 ∧ r.2.length ≤ 9
  up : UpR rs
def wordsL : List (List Nat) := (["waits", "runs", "over", "held", "a"] : List Str).map fun z => z.cps.toList
theorem wordsL_ok : ∀ z ∈ wordsL, wordB z = true := by decide +kernel
def spLStates (K : PySem.W.Frag) : Sp := fun vs H Q _ => ∃ (d a : Addr) (ps : List Addr) (rs : List Rw), vs = [.ref d, .ref a] ∧ Dice H d ∧ H a = some (.lst (ps.map V.ref)) ∧ a ≠ d ∧ LRs K H ps rs ∧ LBd rs ∧ ∀ H' p st, Ld K d H H' → H p = none → H' p = some (.dK (kvS st)) → StOk st → st.length ≤ 24 → Q (.ref p) H'
section
variable {P : Program} {w : World} {K : PySem.W.Frag} {mg : Str → Option Value} {base : Heap}
theorem ok_l_likes_states (T : Tx K mg) : Fk P w K mg base "_law_likes_states" 3 ["_law_dice_here", "_law_rows"] (spLStates K) := by
  refine Fk.mk0 T.g_l_likes_states T.d_l_likes_states sc_l_likes_states (fun vs H Q E h => ?_) (fun _ _ _ _ _ _ us hl => match us, hl with | [_, _], _ => rfl) fun cdv A outer s H vs Q E hr h => ⟨_,
      (pss_cons (ps_set (i := 2) sc_l_likes_states.nd rfl (Or.inl rfl) (pe_listRg rfl (by rfl) T.m_list (prg_2 (by rfl) T.m_range pe_int pe_int)))
      (pss_cons (ps_for PassesOwn.never rfl (pi_list (pv 1)) (pg_tup rfl (pgs_cons (pg_name (i := 3) sc_l_likes_states.nd rfl (Or.inl rfl)) (pgs_cons (pg_name (i := 4) sc_l_likes_states.nd rfl (Or.inl rfl)) (pgs_cons (pg_name (i := 5) sc_l_likes_states.nd rfl (Or.inl rfl)) pgs_nil)))) (pss_one (ps_set (i := 2) sc_l_likes_states.nd rfl (Or.inl rfl) (pe_op op_cat (pv 2) (pe_op op_rep (pe_listRg rfl (by rfl) T.m_list (prg_2 (by rfl) T.m_range (pv 3) (pe_op op_add (pv 3) (pe_callB call_len (by rfl) T.m_len boot_len (pa_cons (pv 4) pa_nil))))) pe_int)))))
      (pss_cons (ps_set (i := 6) sc_l_likes_states.nd rfl (Or.inl rfl) pe_dnewK)
      (pss_cons (ps_for PassesOwn.never rfl (pi_range1 (by rfl) T.m_range (pa_cons (pe_f (ok_l_roll T) (hr.mono (by decide)) (pa_cons (pv 0) (pa_cons pe_int pa_nil))) pa_nil)) (pg_name (i := 7) sc_l_likes_states.nd rfl (Or.inl rfl)) (pss_one (ps_dput (hu_of hr) (pv 6) (pe_f (ok_l_pick T) (hr.mono (by decide)) (pa_cons (pv 0) (pa_cons (pv 2) pa_nil))) (pe_f (ok_l_pick T) (hr.mono (by decide)) (pa_cons (pv 0) (pa_cons (pe_lst (pa_cons pe_str (pa_cons pe_str (pa_cons pe_str (pa_cons pe_str (pa_cons pe_str pa_nil)))))) pa_nil))) rfl)))
      (pss_one (ps_ret (pv 6))))))), ?_⟩
  · obtain ⟨_, _, _, _, rfl, _⟩ := h
    rfl
  · obtain ⟨d, a, ps, rs, rfl, hd, ha, had, lr, bd, q⟩ := h
    have sl : sizeLine = 16777216 := sizeLine_eq
    refine ⟨1, 90, rfl, rfl, RgOk.of_le (by omega) (by omega) (by omega) (by omega), fun np hnp => ?_⟩
    have e1 : Ld K d H (upd H np (.lst (rgV 1 90))) := Ld.new hnp
    refine ⟨_, rfl, a, rfl, ⟨_, e1.sqL had (.inl (.inl ha))⟩, ?_⟩
    have hpl : ps.length ≤ 3 := by rw [lr.1]; exact bd.few
    refine for_it (walk_list (K := K) (xs := ps.map V.ref)) (fun i σ H' => ∃ (x3 x4 x5 x6 x7 : Option V) (np : Addr) (ns : List Nat), σ = [some (.ref d), some (.ref a), some (.ref np), x3, x4, x5, x6, x7] ∧ Ld K d H H' ∧ H' a = some (.lst (ps.map V.ref)) ∧ H' np = some (.lst (ns.map vN)) ∧ np ≠ d ∧ (∀ n ∈ ns, 1 ≤ n ∧ n ≤ 400) ∧ 1 ≤ ns.length ∧ ns.length ≤ 89 + i * 36)
      ?_ (fun _ _ _ _ ⟨_, _, _, _, _, _, _, _, _, h, _⟩ => .inl (.inl h)) (fun i x σ H5 H6 hi pv hy => ?_) fun σ H5 pv => ?_
    · refine ⟨_, _, _, _, _, np, (List.range 89).map (1 + ·), rfl, e1, e1.keep _ _ had ha fun _ z => (nomatch z), ?_, hd.ne0 hnp, fun n hn => ?_, by decide, by decide⟩
      · rw [upd_same]
        congr 2
      · obtain ⟨i, hi, rfl⟩ := List.mem_map.mp hn
        rw [List.mem_range] at hi
        omega
    · obtain ⟨x3, x4, x5, x6, x7, np, ns, rfl, eH, ha5, hn5, hnd, hb, hl1, hl2⟩ := pv
      obtain ⟨rfl, hx⟩ := hy
      obtain ⟨p, hp, rfl⟩ := map_get hx
      rw [List.length_map] at hi
      have hri : i < rs.length := by rw [← lr.1]; exact hi
      obtain ⟨t, m, g1, g2, g3, g4⟩ := (eH.hd hd).lrow (lr.2 i p rs[i] hp (List.getElem?_eq_getElem hri))
      have bi := bd.bd _ (List.getElem_mem hri)
      generalize rs[i] = r at g1 g2 g3 g4 bi
      have hlen : (r.2.map vN).length = r.2.length := List.length_map ..
      refine ⟨p, _, rfl, g1, rfl, _, _, rfl, _, _, rfl, _, _, rfl, rfl, ?_⟩
      refine ⟨_, rfl, _, rfl, _, rfl, _, rfl, _, _, rfl, len_t g2.1, _, _, rfl, rfl, (r.1 : Int), _, rfl, rfl, ?_, ?_⟩
      · show RgOk (r.1 : Int) (r.1 + ((r.2.map vN).length : Nat))
        rw [hlen]
        exact RgOk.of_le (by omega) (by omega) (by omega) (by omega)
      have hrg : rgV (r.1 : Int) (r.1 + ((r.2.map vN).length : Nat)) = ((List.range r.2.length).map (r.1 + ·)).map vN := by
        rw [hlen, rgV_rngN, List.map_map]
        rfl
      intro l1 hl1'
      have e6 : Ld K d H (upd H6 l1 (.lst (rgV (r.1 : Int) (r.1 + ((r.2.map vN).length : Nat))))) := eH.trans (Ld.new hl1')
      have hn6 : upd H6 l1 (.lst (rgV (r.1 : Int) (r.1 + ((r.2.map vN).length : Nat)))) np = some (.lst (ns.map vN)) := (Same.new hl1') _ _ hn5
      have ha6 : upd H6 l1 (.lst (rgV (r.1 : Int) (r.1 + ((r.2.map vN).length : Nat)))) a = some (.lst (ps.map V.ref)) := (Same.new hl1') _ _ ha5
      refine ⟨l1, _, _, rfl, rfl, upd_same, by decide, by decide, ?_, fun l2 hl2' => ⟨np, l2, _, _, rfl, rfl, (Same.new hl2') _ _ hn6, upd_same, ?_, fun l3 hl3 => ?_⟩⟩
      · rw [hrg, List.length_map, List.length_map, List.length_range]
        show r.2.length * 4 ≤ _
        omega
      · rw [hrg, List.length_map, List.length_flatten, List.map_replicate, List.length_map, List.length_map, List.length_range]
        show ns.length + (List.replicate 4 r.2.length).sum ≤ _
        simp
        omega
      · refine ⟨_, _, _, _, _, l3, ns ++ (List.replicate 4 ((List.range r.2.length).map (r.1 + ·))).flatten, rfl, (e6.trans (Ld.new hl2')).trans (Ld.new hl3), (Same.new hl3) _ _ ((Same.new hl2') _ _ ha6), ?_, ?_, fun n hn => ?_, ?_, ?_⟩
        · rw [upd_same, hrg, List.map_append, List.map_flatten, List.map_replicate]
          rfl
        · exact ((e6.trans (Ld.new hl2')).dice hd).ne0 hl3
        · rcases List.mem_append.mp hn with hn | hn
          · exact hb n hn
          · obtain ⟨l, hl, hn⟩ := List.mem_flatten.mp hn
            rw [(List.mem_replicate.mp hl).2] at hn
            obtain ⟨j, hj, rfl⟩ := List.mem_map.mp hn
            rw [List.mem_range] at hj
            omega
        · rw [List.length_append]
          omega
        · rw [List.length_append, List.length_flatten, List.map_replicate, List.length_map, List.length_range]
          simp
          omega
    · obtain ⟨x3, x4, x5, x6, x7, np, ns, rfl, eH, ha5, hn5, hnd, hb, hl1, hl2⟩ := pv
      have hnl : ns.length ≤ 200 := by
        rw [List.length_map] at hl2
        omega
      refine fun fd hfd => ?_
      have hfd' : fd ≠ d := (eH.dice hd).ne0 hfd
      have fd0 : H fd = none := eH.free hd hfd
      have e6 : Ld K d H (upd H5 fd (.dK [])) := eH.trans (Ld.new hfd)
      have hn6 : upd H5 fd (.dK []) np = some (.lst (ns.map vN)) := (Same.new hfd) _ _ hn5
      have hf6 : upd H5 fd (.dK []) fd = some (.dK []) := upd_same
      generalize upd H5 fd (.dK []) = H6 at e6 hn6 hf6 ⊢
      refine ⟨_, rfl, d, 25, rfl, e6.dice hd, by decide, by decide, fun r x y z hr => ⟨(r : Int), rfl, by omega, by omega, ?_⟩⟩
      have e7 := e6.trans (Ld.roll (x := x) (y := y) (z := z) (e6.dice hd))
      refine for_it walk_range (fun i σ H' => ∃ (x7 : Option V) (st : St1), σ = [some (.ref d), some (.ref a), some (.ref np), x3, x4, x5, some (.ref fd), x7] ∧ Ld K d H H' ∧ H' np = some (.lst (ns.map vN)) ∧ H' fd = some (.dK (kvS st)) ∧ StOk st ∧ st.length ≤ i)
        ⟨_, [], rfl, e7, by rw [upd_ne hnd]; exact hn6, by rw [upd_ne hfd']; exact hf6, ⟨Nat.zero_le _, fun _ h => absurd h List.not_mem_nil, fun _ h => absurd h List.not_mem_nil, List.nodup_nil⟩, Nat.le_refl _⟩ (fun _ _ _ _ _ => trivial) (fun i x σ H8 H9 hi pv hy => ?_) fun σ H8 pv => ?_
      · obtain ⟨x7, st, rfl, e8, hn8, hf8, ok, hst⟩ := pv
        obtain ⟨rfl, rfl⟩ := hy
        have hi : i < r := hi
        refine ⟨_, rfl, by show 5 ≤ sizeLine; omega, fun p1 hp1 => ?_⟩
        have e9 := e8.trans (Ld.new (K := K) (d := d) (o := .lst (wordsL.map fun z => .str (S z))) hp1)
        have hd9 := e9.dice hd
        refine ⟨d, p1, wordsL.map fun z => .str (S z), rfl, hd9, .inl (.inl upd_same), (e8.dice hd).ne0 hp1, by decide, by decide, fun v hv x1 y1 z1 => ?_⟩
        obtain ⟨wd, hwd, rfl⟩ := List.mem_map.mp hv
        have e10 := e9.trans (Ld.roll (x := x1) (y := y1) (z := z1) hd9)
        have hn10 : upd (upd H9 p1 (.lst (wordsL.map fun z => .str (S z)))) d (diceO x1 y1 z1) np = some (.lst (ns.map vN)) := by
          rw [upd_ne hnd]
          exact (Same.new hp1) _ _ hn8
        have hf10 : upd (upd H9 p1 (.lst (wordsL.map fun z => .str (S z)))) d (diceO x1 y1 z1) fd = some (.dK (kvS st)) := by
          rw [upd_ne hfd']
          exact (Same.new hp1) _ _ hf8
        refine ⟨_, rfl, _, rfl, _, rfl, d, np, ns.map vN, rfl, e10.dice hd, .inl (.inl hn10), hnd, by rw [List.length_map]; exact hl1, by rw [List.length_map]; omega, fun v hv x y z => ?_⟩
        obtain ⟨n, hn, rfl⟩ := mem_nat hv
        have e11 := e10.trans (Ld.roll (x := x) (y := y) (z := z) (e10.dice hd))
        have hf11 : upd (upd (upd H9 p1 (.lst (wordsL.map fun z => .str (S z)))) d (diceO x1 y1 z1)) d (diceO x y z) fd = some (.dK (kvS st)) := by
          rw [upd_ne hfd']
          exact hf10
        have hnb := hb n hn
        have hok := putS_ok (n := n) ok (by omega) (by omega) (wordsL_ok wd hwd)
        refine ⟨fd, _, rfl, DPut.k (k := .inl (n : Int)) hf11 (by rw [kvS_len]; omega), ⟨some (V.int (0 + (i : Int))), putS st n wd, rfl, e11.mut hd fd0 hf11, ?_, ?_, hok.1, by omega⟩⟩
        · rw [upd_ne (ne_of hn10 hf10 fun z => nomatch z), upd_ne hnd]
          exact hn10
        · rw [upd_same, kvS_putS]
      · obtain ⟨x7, st, rfl, e8, hn8, hf8, ok, hst⟩ := pv
        have hst : st.length ≤ r := hst
        exact ⟨_, rfl, q H8 fd st e8 fd0 hf8 ok (by omega)⟩
end
end K28

set_option Elab.async false
set_option linter.all false
set_option maxRecDepth 100000
set_option maxHeartbeats 4000000
namespace K28
open PySem PySem.Spec PyProof.Rows L2
def rLenK (K : PySem.W.Frag) : List V → Hp → VK → Prop := fun xs H Q => ∃ x n, xs = [x] ∧ LenV K x H n ∧ Q (.int n) H
/-- texts put together -/
theorem op_addS {X : Cx} : OpR X (binaryOp .Add) (fun x y H Q => ∃ a b : List Nat, x = .str (S a) ∧ y = .str (S b) ∧ (a ++ b).length ≤ 100000 ∧ Q (.str (S (a ++ b))) H) := by
  intro pins s σ H x y v u Q I rx ry h
  obtain ⟨a, b, rfl, rfl, hz, q⟩ := h
  refine op_add_str pins s σ H _ _ v u Q I rx ry ⟨_, _, rfl, rfl, ?_, by rw [S_app]; exact q⟩
  rw [S_len, S_len, sizeLine_eq]
  rw [List.length_append] at hz
  omega
/-! ## the law's lines -/
/-- the rows among rs that have n, by their addresses -/
def lofF (ps : List Addr) (rs : List Rw) (n i : Nat) : Option V := (rs[i]?).bind fun r => if hasN n r = true then (ps[i]?).map V.ref else none
theorem lof_head (n : Nat) : ∀ (rs : List Rw) (ps : List Addr), ps.length = rs.length →
    match rowOf rs n with
    | none => (List.range rs.length).filterMap (lofF ps rs n) = []
    | some r => ∃ (j : Nat) (p : Addr) (rest : List V), (List.range rs.length).filterMap (lofF ps rs n) = .ref p :: rest ∧ ps[j]? = some p ∧ rs[j]? = some r
  | [], _, _ => rfl
  | r :: rs, [], h => by simp at h
  | r :: rs, p :: ps, h => by
    have ih := lof_head n rs ps (by simpa using h)
    have e : (List.range (r :: rs).length).filterMap (lofF (p :: ps) (r :: rs) n) = (if hasN n r = true then [V.ref p] else []) ++ (List.range rs.length).filterMap (lofF ps rs n) := by
      rw [List.length_cons, List.range_succ_eq_map, List.filterMap_cons, List.filterMap_map]
      have e1 : (lofF (p :: ps) (r :: rs) n ∘ Nat.succ) = lofF ps rs n := rfl
      rw [e1]
      have e2 : lofF (p :: ps) (r :: rs) n 0 = if hasN n r = true then some (V.ref p) else none := rfl
      rw [e2]
      by_cases hn : hasN n r = true
      · rw [if_pos hn, if_pos hn]
        rfl
      · rw [if_neg hn, if_neg hn]
        rfl
    rw [e]
    have e3 : rowOf (r :: rs) n = if hasN n r = true then some r else rowOf rs n := by
      show List.find? (hasN n) (r :: rs) = if hasN n r = true then some r else List.find? (hasN n) rs
      rw [List.find?_cons]
      by_cases hn : hasN n r = true
      · rw [hn]
        rfl
      · rw [Bool.not_eq_true _ |>.mp hn]
        rfl
    rw [e3]
    by_cases hn : hasN n r = true
    · rw [if_pos hn, if_pos hn]
      exact ⟨0, p, _, rfl, rfl, rfl⟩
    · rw [if_neg hn, if_neg hn, List.nil_append]
      revert ih
      cases rowOf rs n with
      | none => exact fun ih => ih
      | some q => exact fun ⟨j, a, rest, h1, h2, h3⟩ => ⟨j + 1, a, rest, h1, h2, h3⟩
/-- the value for a row -/
def LRowV (K : PySem.W.Frag) (H : Hp) (v : V) : Option Rw → Prop
  | none => v = .non
  | some r => ∃ p, v = .ref p ∧ LRow K H p r
def spLOf (K : PySem.W.Frag) : Sp := fun vs H Q _ => ∃ (a : Addr) (n : Nat) (ps : List Addr) (rs : List Rw), vs = [.ref a, vN n] ∧ SqL K H a (ps.map V.ref) ∧ LRs K H ps rs ∧ rs.length ≤ 60 ∧ ∀ H' v, Same H H' → LRowV K H' v (rowOf rs n) → Q v H'
section
variable {P : Program} {w : World} {K : PySem.W.Frag} {mg : Str → Option Value} {base : Heap}
theorem ok_l_likes_of (T : Tx K mg) : Fk P w K mg base "_law_likes_of" 1 ["_law_rows", "_law_number"] (spLOf K) := by
  refine Fk.mk0 T.g_l_likes_of T.d_l_likes_of sc_l_likes_of (fun vs H Q E h => ?_) (fun _ _ _ _ _ _ us hl => match us, hl with | [_, _], _ => rfl) fun cdv A outer s H vs Q E hr h => ⟨_,
      (pss_cons (ps_setLc (i := 2) (own := [("_law_row", 3)]) (g := gName 3) rfl sc_l_likes_of.nd rfl rfl (sw_true rfl rfl rfl (by decide +kernel)) (pi_list (pv 0)) (blkOk_by (own := [("_law_row", 3)]) (N := N_l_likes_of) (sc := defScope s_l_likes_of) (by decide +kernel)) (fun _ _ _ _ _ => (pg_name (i := 3) sc_l_likes_of.nd rfl (Or.inl rfl))) (fun _ _ _ _ _ => pts_one (pt_chain op_le op_lt (pe_ix (show IxR _ (rIxT K) from ix_tup) (pv 3) pe_int (fun _ _ => rfl)) (pv 1) (pe_op op_add (pe_ix (show IxR _ (rIxT K) from ix_tup) (pv 3) pe_int (fun _ _ => rfl)) (pe_callB (show CallR _ _ (rLenK K) from call_len) (by rfl) T.m_len boot_len (pa_cons (pe_ix (show IxR _ (rIxT K) from ix_tup) (pv 3) pe_int (fun _ _ => rfl)) pa_nil))))) (fun _ _ _ _ _ => (pv 3)))
      (pss_one (ps_ret (pe_ifExp (pt_cmpR (op_neE hr.units0) (pv 2) (pe_lst pa_nil) (nomark _)) (pe_ix ix_list (pv 2) pe_int (fun _ _ => rfl)) pe_non)))), ?_⟩
  · obtain ⟨_, _, _, _, rfl, _⟩ := h
    rfl
  · obtain ⟨a, n, ps, rs, rfl, hS, lr, hl, q⟩ := h
    have OS := ordS (K := K)
    have hml : (ps.map V.ref).length = rs.length := by rw [List.length_map, lr.1]
    refine ⟨_, rfl, a, rfl, ⟨_, hS⟩, fun D hD => ?_⟩
    refine lc_pure OS (walk_list (K := K)) (lofF ps rs n) hD (by rw [hml]; omega) (fun H1 e => OS.sqL e hS) (fun i x H1 H2 Fin No hi e hy hF hN => ?_) fun H1 e hl1 => ?_
    · obtain ⟨rfl, hx⟩ := hy
      obtain ⟨p, hp, rfl⟩ := map_get hx
      rw [hml] at hi
      have hr : rs[i]? = some rs[i] := List.getElem?_eq_getElem hi
      obtain ⟨t, m, g1, g2, g3, g4⟩ := (Le.hd (K := K) e.le).lrow (lr.2 i p rs[i] hp hr)
      have hf : lofF ps rs n i = if hasN n rs[i] = true then some (V.ref p) else none := by
        unfold lofF
        rw [hr, hp]
        rfl
      generalize rs[i] = r at g1 g2 g3 g4 hf
      have hlen : (r.2.map vN).length = r.2.length := List.length_map ..
      refine ⟨rfl, ⟨_, rfl, p, _, _, _, rfl, rfl, g1, atI_nat (j := 0) rfl, _, rfl, _, _, rfl, rfl, _, rfl, ?_⟩⟩
      have hin : hasN n r = (decide (r.1 ≤ n) && decide (n < r.1 + r.2.length)) := rfl
      by_cases c1 : r.1 ≤ n
      · refine ifT (decide_eq_true (by omega)) ?_
        refine ⟨_, rfl, p, _, _, _, rfl, rfl, g1, atI_nat (j := 0) rfl, _, rfl, p, _, _, _, rfl, rfl, g1, atI_nat (j := 1) rfl, _, _, rfl, len_t g2.1, _, _, rfl, rfl, _, _, rfl, rfl, _, rfl, ?_⟩
        rw [hlen]
        by_cases c2 : n < r.1 + r.2.length
        · refine ifT (decide_eq_true (by show (n : Int) < (r.1 : Int) + (r.2.length : Int); omega)) ⟨_, rfl, hF _ _ ?_ (Same.refl _)⟩
          rw [hf, hin, decide_eq_true c1, decide_eq_true c2]
          rfl
        · refine ifF (decide_eq_false (by show ¬ (n : Int) < (r.1 : Int) + (r.2.length : Int); omega)) (hN _ ?_ (Same.refl _))
          rw [hf, hin, decide_eq_false c2, Bool.and_false]
          rfl
      · refine ifF (decide_eq_false (by omega)) ⟨_, rfl, ?_⟩
        refine ifF rfl (hN _ ?_ (Same.refl _))
        rw [hf, hin, decide_eq_false c1]
        rfl
    · rw [hml] at hl1
      have hh := lof_head n rs ps lr.1
      refine ⟨_, rfl, Nat.zero_le _, fun E hE => ⟨D, E, _, rfl, rfl, .inl ⟨.inl (.inl ((Same.new hE) _ _ hl1)), .inl (.inl upd_same)⟩, _, rfl, ?_⟩⟩
      cases hro : rowOf rs n with
      | none =>
        rw [hro] at hh
        have hh : (List.range rs.length).filterMap (lofF ps rs n) = [] := hh
        rw [hh]
        exact ifF rfl (q _ _ (e.trans (Same.new hE)) (by rw [hro]; rfl))
      | some r =>
        rw [hro] at hh
        obtain ⟨j, p, rest, h1, h2, h3⟩ := hh
        rw [h1] at hl1 ⊢
        refine ifT rfl ⟨_, rfl, D, _, _, _, rfl, rfl, .inl (.inl ((Same.new hE) _ _ hl1)), atI_nat (j := 0) rfl, q _ _ (e.trans (Same.new hE)) ?_⟩
        rw [hro]
        exact ⟨p, rfl, (Le.hd (K := K) (e.trans (Same.new hE)).le).lrow (lr.2 j p r h2 h3)⟩
end
end K28

set_option Elab.async false
set_option linter.all false
set_option maxRecDepth 100000
set_option maxHeartbeats 4000000
namespace K28
open PySem PySem.Spec PyProof.Rows L2
def spLLine (K : PySem.W.Frag) : Sp := fun vs H Q _ => ∃ (a l : Addr) (ps : List Addr) (rs : List Rw) (ms w : List Nat), vs = [.ref a, .ref l, .str (S w)] ∧ SqL K H a (ps.map V.ref) ∧ LRs K H ps rs ∧ rs.length ≤ 60 ∧ SqL K H l (ms.map vN) ∧ NumsOk (rowOf rs (ms.headD 0)) ms ∧ w.length ≤ 8 ∧ TbOk K H ∧ (∀ r ∈ rs, r.1 ≤ 999000) ∧
  ∀ H', Le K H H' → Q (.str (S (lineM (rowOf rs (ms.headD 0)) ms w))) H'
section
variable {w : World} {K : PySem.W.Frag} {mg : Str → Option Value} {base : Heap}
theorem ok_l_line (T : Tz K mg base) : Fk Er.PRG w K mg base "_law_line" 6 ["_law_rows", "_law_numbers_here", "_law_state"] (spLLine K) := by
  refine Fk.mk0 T.g_l_line T.d_l_line sc_l_line (fun vs H Q E h => ?_) (fun _ _ _ _ _ _ us hl => match us, hl with | [_, _, _], _ => rfl) fun cdv A outer s H vs Q E hr h => ⟨_,
      (pss_cons (ps_set (i := 3) sc_l_line.nd rfl (Or.inr rfl) (pe_f (ok_l_likes_of T.toTy.toTx) (hr.mono (by decide)) (pa_cons (pv 0) (pa_cons (pe_ix ix_list (pv 1) pe_int (fun _ _ => rfl)) pa_nil))))
      (pss_cons (ps_if (pt_cmpR op_isN (pv 3) pe_non (nomark _)) (pss_one (ps_ret (pe_op op_addS (pe_op op_addS (pe_callTy call_strN (by rfl) T.m_str (by decide +kernel) (pa_cons (pe_ix ix_list (pv 1) pe_int (fun _ _ => rfl)) pa_nil)) pe_str) (pv 2)))) pss_nil)
      (pss_cons (ps_set (i := 4) sc_l_line.nd rfl (Or.inl rfl) (pe_callTy call_tuple_of (by rfl) T.m_tuple (by decide +kernel) (pa_cons (pe_lc (own := [("_law_number", 6)]) (g := gName 6) rfl sc_l_line.nd (pi_list (pv 1)) (blkOk_by (own := [("_law_number", 6)]) (N := N_l_line) (sc := defScope s_l_line) (by decide +kernel)) (fun _ _ _ _ _ => (pg_name (i := 6) sc_l_line.nd rfl (Or.inl rfl))) (fun _ _ _ _ _ => pts_nil) (fun _ _ _ _ _ => (pe_ix (show IxR _ (rIxT K) from ix_tup) (pe_ix (show IxR _ (rIxT K) from ix_tup) (pv 3) pe_int (fun _ _ => rfl)) (pe_op op_sub (pv 6) (pe_ix (show IxR _ (rIxT K) from ix_tup) (pv 3) pe_int (fun _ _ => rfl))) (fun _ _ => rfl)))) pa_nil)))
      (pss_cons (ps_set (i := 5) sc_l_line.nd rfl (Or.inl rfl) (pe_f (ok_fold_indices T) (hr.mono (by decide)) (pa_cons (pv 4) pa_nil)))
      (pss_one (ps_ret (pe_op op_addS (pe_op op_addS (pe_op op_addS (pe_op op_addS (pe_callTy call_strN (by rfl) T.m_str (by decide +kernel) (pa_cons (pe_ix ix_tup (pv 3) pe_int (fun _ _ => rfl)) pa_nil)) pe_str) (pe_ifExp (pt_cmpR op_eq (pe_callB call_len (by rfl) T.m_len boot_len (pa_cons (pv 4) pa_nil)) pe_int (nomark _)) (pv 5) (pe_op op_addS (pe_op op_addS pe_str (pv 5)) pe_str))) pe_str) (pv 2)))))))), ?_⟩
  · obtain ⟨_, _, _, _, _, _, rfl, _⟩ := h
    rfl
  · obtain ⟨a, l, ps, rs, ms, wd, rfl, hA, lr, hl, hS, nk, hw, tb, hb9, q⟩ := h
    have OS := ordS (K := K)
    have sl : sizeLine = 16777216 := sizeLine_eq
    obtain ⟨m0, r0, rfl⟩ := List.exists_cons_of_ne_nil nk.ne
    have b0 := nk.le m0 (List.mem_cons_self ..)
    refine ⟨_, rfl, _, rfl, l, _, _, _, rfl, rfl, hS, atI_nat (j := 0) rfl, a, m0, ps, rs, rfl, hA, lr, hl, fun H1 v e1 hv => ?_⟩
    refine ⟨_, rfl, rfl, _, rfl, ?_⟩
    have nk0 := nk
    generalize hro : rowOf rs ((m0 :: r0).headD 0) = ro at nk q
    have hro : rowOf rs m0 = ro := hro
    rw [hro] at hv
    have hS1 := OS.sqL e1 hS
    cases ro with
    | none =>
      obtain rfl : v = .non := hv
      have l0 : (num m0).length ≤ 7 := TL.numL_len (by decide) (Nat.lt_of_le_of_lt b0 (by decide))
      refine ifT rfl ⟨_, rfl, l, _, _, _, rfl, rfl, hS1, atI_nat (j := 0) rfl, m0, rfl, Nat.lt_of_le_of_lt b0 (by decide), num m0, [32], rfl, rfl, by simp; omega, _, rfl, num m0 ++ [32], wd, rfl, rfl, by simp; omega, ?_⟩
      have := q H1 e1.le
      rw [show lineM none (m0 :: r0) wd = num m0 ++ [32] ++ wd by simp [lineM]] at this
      exact this
    | some r =>
      obtain ⟨p, rfl, t, m, g1, g2, g3, g4⟩ := hv
      refine ifF rfl ?_
      have ixo := ixs_ok g4 nk
      have hsm := least_small ixo
      have hml : ((m0 :: r0).map vN).length = (m0 :: r0).length := List.length_map ..
      have hixl : (ixs r (m0 :: r0)).length = (m0 :: r0).length := List.length_map ..
      have h60 := ixo.hi
      have l9 : (num r.1).length ≤ 6 := TL.numL_len (by decide) (Nat.lt_of_le_of_lt (hb9 r (List.mem_of_find?_eq_some hro)) (by decide))
      have b9 : r.1 < 10 ^ 70 := Nat.lt_of_le_of_lt (hb9 r (List.mem_of_find?_eq_some hro)) (by decide)
      refine ⟨_, rfl, l, rfl, ⟨_, hS1⟩, fun D hD => ?_⟩
      refine lc_pure OS (walk_list (K := K)) (fun i => ((m0 :: r0)[i]?).map fun m => vN (r.2.getD (m - r.1) 0)) hD (by rw [hml, ← hixl]; omega) (fun H2 e => OS.sqL e hS1) (fun i x H2 H3 Fin No hi e hy hF hN => ?_) fun H2 e2 hl2 => ?_
      · obtain ⟨rfl, hx⟩ := hy
        obtain ⟨mm, hm, rfl⟩ := map_get hx
        have hin := inRow_iff.mp (nk.inR r rfl mm (List.mem_of_getElem? hm))
        have g1' := OS.sqT e g1
        have g2' := OS.sqT e g2.1
        have hz : r.2[mm - r.1]? = some (r.2.getD (mm - r.1) 0) := by
          rw [List.getD_eq_getElem?_getD, List.getElem?_eq_getElem (by omega)]
          rfl
        have hat : atI (r.2.map vN) ((mm : Int) - (r.1 : Int)) = some (vN (r.2.getD (mm - r.1) 0)) := by
          rw [show (mm : Int) - (r.1 : Int) = ((mm - r.1 : Nat) : Int) by omega]
          refine atI_nat ?_
          rw [List.getElem?_map, hz]
          rfl
        refine ⟨rfl, ⟨_, rfl, p, _, _, _, rfl, rfl, g1', atI_nat (j := 1) rfl, _, rfl, _, rfl, p, _, _, _, rfl, rfl, g1', atI_nat (j := 0) rfl, _, _, rfl, rfl, t, _, _, _, rfl, rfl, g2', hat, ?_⟩⟩
        refine hF _ _ ?_ (Same.refl _)
        rw [hm]
        rfl
      · have e12 := e1.trans e2
        have hq : SqL K H2 D ((ixs r (m0 :: r0)).map vN) := by
          refine .inl (.inl (hl2.trans ?_))
          rw [hml, fm_map (m0 :: r0) fun m => vN (r.2.getD (m - r.1) 0)]
          unfold ixs
          rw [List.map_map]
          rfl
        refine ⟨D, _, rfl, .inl ⟨hq, fun tp htp => ?_⟩⟩
        have e3 : Same H (upd H2 tp (.tup ((ixs r (m0 :: r0)).map vN))) := e12.trans (Same.new htp)
        have ht3 : SqT K (upd H2 tp (.tup ((ixs r (m0 :: r0)).map vN))) tp ((ixs r (m0 :: r0)).map vN) := .of upd_same
        have g13 := OS.sqT (e2.trans (Same.new (o := .tup ((ixs r (m0 :: r0)).map vN)) htp)) g1
        generalize upd H2 tp (.tup ((ixs r (m0 :: r0)).map vN)) = H3 at e3 ht3 g13 ⊢
        refine ⟨_, rfl, tp, _, rfl, ht3, ixo, tb.same e3, fun H4 e4 => ?_⟩
        have g14 := (ordL (K := K)).sqT e4 g13
        have ht4 := (ordL (K := K)).sqT e4 ht3
        have fin := q H4 (e3.le.trans e4)
        unfold lineM at fin
        refine ⟨_, rfl, p, _, _, _, rfl, rfl, g14, atI_nat (j := 0) rfl, r.1, rfl, b9, num r.1, [46], rfl, rfl, by simp; omega, _, rfl, _, _, rfl, len_t ht4, rfl, _, rfl, ?_⟩
        rw [List.length_map]
        by_cases h1 : (ixs r (m0 :: r0)).length = 1
        · dsimp only at fin
          rw [if_pos h1] at fin
          refine ifT (decide_eq_true (by rw [h1]; rfl)) ⟨_, rfl, num r.1 ++ [46], leastM (ixs r (m0 :: r0)), rfl, rfl, by simp; omega, _, [32], rfl, rfl, by simp; omega, _, rfl, _, wd, rfl, rfl, by simp; omega, ?_⟩
          simpa using fin
        · dsimp only at fin
          rw [if_neg h1] at fin
          refine ifF (decide_eq_false fun z => h1 (by have z : V.int (((ixs r (m0 :: r0)).length : Nat) : Int) = V.int 1 := z; injection z with z; omega)) ⟨_, rfl, [91], leastM (ixs r (m0 :: r0)), rfl, rfl, by simp; omega, _, [93], rfl, rfl, by simp; omega, num r.1 ++ [46], [91] ++ leastM (ixs r (m0 :: r0)) ++ [93], rfl, rfl, by simp; omega, _, [32], rfl, rfl, by simp; omega, _, rfl, _, wd, rfl, rfl, by simp; omega, ?_⟩
          simpa using fin
end
end K28

set_option Elab.async false
set_option linter.all false
set_option maxRecDepth 100000
set_option maxHeartbeats 4000000
/-! sorted(list) of data that stand in order already -/
namespace So
open PySem PySem.W PyProof.Rows
theorem each_zip {R : Value → PyData → Prop} : ∀ {vs : List Value} {ds : List PyData}, vs.length = ds.length → (∀ (i : Nat) (v : Value) (d : PyData), vs[i]? = some v → ds[i]? = some d → R v d) → EachIs R vs ds
  | [], [], _, _ => .nil
  | v :: vs, d :: ds, h, k => .cons (k 0 v d rfl rfl) (each_zip (by simpa using h) fun i a b x y => k (i + 1) a b x y)
  | [], _ :: _, h, _ => by cases h
  | _ :: _, [], h, _ => by cases h
theorem each_self {vs : List Value} {ds : List PyData} (h : vs.length = ds.length) : EachIs (fun (v : Value) (b : Value × PyData) => v = b.1) vs (vs.zip ds) := by
  induction vs generalizing ds with
  | nil =>
    cases ds with
    | nil => exact .nil
    | cons => cases h
  | cons v vs ih =>
    cases ds with
    | nil => cases h
    | cons d ds => exact .cons rfl (ih (by simpa using h))
theorem each_fst {out : List Value} {bs : List (Value × PyData)} (h : EachIs (fun (v : Value) (b : Value × PyData) => v = b.1) out bs) : out = bs.map Prod.fst := by
  induction h with
  | nil => rfl
  | cons e _ ih => rw [List.map_cons, ← e, ← ih]
theorem each_snd {R : Value → PyData → Prop} {vs : List Value} {ds : List PyData} (h : EachIs R vs ds) : EachIs (fun (v : Value) (b : Value × PyData) => R v b.2) vs (vs.zip ds) := by
  induction h with
  | nil => exact .nil
  | cons e _ ih => exact .cons e ih
theorem each_get {R : Value → PyData → Prop} {vs : List Value} {ds : List PyData} (h : EachIs R vs ds) : vs.length = ds.length := by
  induction h with
  | nil => rfl
  | cons _ _ ih => rw [List.length_cons, List.length_cons, ih]
theorem sort_same {h' : Heap} {vs : List Value} {ds : List PyData} (e : EachIs (fun v d => ∃ as, Reads h' v d as) vs ds) (hal : AllAlike ds) (hp : ds.Pairwise fun d d' => dataLt d' d = false) : sortVals (dataKind h' ds) false vs vs = vs := by
  have hl := each_get e
  have hm : (vs.zip ds).map Prod.snd = ds := List.map_snd_zip (Nat.le_of_eq hl.symm)
  have hf : (vs.zip ds).map Prod.fst = vs := List.map_fst_zip (Nat.le_of_eq hl)
  have k := sortVals_data (h' := h') (R := fun (v : Value) (b : Value × PyData) => v = b.1) (enc := Prod.snd) false (each_self hl) (each_snd e) (by rw [hm]; exact hal)
  rw [hm] at k
  have hs : (vs.zip ds).mergeSort (dataLe false Prod.snd) = vs.zip ds := by
    refine List.mergeSort_of_pairwise ?_
    have hp2 : ((vs.zip ds).map Prod.snd).Pairwise fun d d' => dataLt d' d = false := by rw [hm]; exact hp
    refine (List.pairwise_map.mp hp2).imp fun {a b} q => ?_
    show (!PySem.W.dataLt b.2 a.2) = true
    rw [q]
    rfl
  rw [hs] at k
  rw [each_fst k, hf]
end So
namespace K28
open PySem PySem.Spec PyProof.Rows L2
theorem dpAll_get {K : PySem.W.Frag} {H : Hp} : ∀ {vs : List V} {ds : List PyData}, DpAll K H vs ds → vs.length = ds.length ∧ ∀ (i : Nat) (v : V) (d : PyData), vs[i]? = some v → ds[i]? = some d → Dp K H v d := by
  intro vs
  induction vs with
  | nil =>
    intro ds h
    cases h
    exact ⟨rfl, fun i v d a => by simp at a⟩
  | cons x vs ih =>
    intro ds h
    cases h with
    | cons h1 h2 =>
      obtain ⟨e, k⟩ := ih h2
      refine ⟨by rw [List.length_cons, List.length_cons, e], fun i v d a b => ?_⟩
      cases i with
      | zero =>
        have a := Option.some.inj a
        have b := Option.some.inj b
        subst a b
        exact h1
      | succ i => exact k i v d a b
/-- sorted(xs), xs in order already -/
def rSortedD (K : PySem.W.Frag) : List V → Hp → VK → Prop := fun xs H Q => ∃ (a : Addr) (ys : List V) (ds : List PyData), xs = [.ref a] ∧ SqL K H a ys ∧ DpAll K H ys ds ∧ PySem.W.AllAlike ds ∧ PySem.W.Sortable ds ∧ (∀ d ∈ ds, d.depth ≤ 30) ∧ (ds.Pairwise fun d d' => PySem.W.dataLt d' d = false) ∧
  ∀ p, H p = none → Q (.ref p) (upd H p (.lst ys))
theorem cr_sortedD {X : Cx} (hu : X.A.units + 64 < cLine) : CallR X (.builtin "sorted") (rSortedD X.K) := by
  intro pins s σ H xs us Q I r h
  obtain ⟨a, ys, ds, rfl, hq, hdp, hal, hso, hdep, hpw, q⟩ := h
  rw [Vals.ref1 r]
  obtain ⟨its, rv, pl, hz⟩ := I.list hq
  have hil := rv.length
  obtain ⟨hl, hg⟩ := dpAll_get hdp
  have e0 : ∀ h' : Heap, (∀ b o, s.heap.get? b = some o → h'.get? b = some o) → PySem.W.EachIs (fun v d => ∃ as, Reads h' v d as) its ds := fun h' hk => by
    refine So.each_zip (by omega) fun i v d a b => ?_
    have hi : i < ys.length := by rw [hil]; exact (List.getElem?_eq_some_iff.mp a).1
    obtain ⟨u, hu1, ru⟩ := rv.get (List.getElem?_eq_getElem hi)
    rw [a] at hu1
    cases hu1
    obtain ⟨as, rd⟩ := Dp.reads I d _ _ (hg i _ d (List.getElem?_eq_getElem hi) b) ru
    exact ⟨as, Reads.keeps hk rd⟩
  have hkeep : ∀ b o, s.heap.get? b = some o → (PySem.W.sortingHeap (PySem.W.copyHeap s.heap its) (s.heap.objs.size + 1) its).get? b = some o := fun b o e => PySem.W.sorting_copy_old e
  have S := PySem.W.SortsAt.data (prog := X.prog) (w := X.w) (A := X.A.in1.in1) (s := { s with heap := PySem.W.sortingHeap (PySem.W.copyHeap s.heap its) (s.heap.objs.size + 1) its }) (e0 _ hkeep) hal hso fun d hd => by
    have := hdep d hd
    show X.A.units + 1 + 1 + d.depth < cLine
    omega
  refine PySem.W.sorted_vals pl.isList S (by omega) ?_
  rw [So.sort_same (e0 _ hkeep) hal hpw]
  obtain ⟨ep, he'⟩ := PyProof.Rows.sortedAll_at s.heap its its.toArray
  exact ⟨.ref _, upd H (s.heap.objs.size + 1) (.lst ys), I.laid (t' := s.toks) (fun _ _ => PyProof.Rows.sortedAll_old) (Nat.le_succ _) ⟨hz, its, ep, rv, he'⟩, rfl, q _ (I.hok.fresh (Nat.le_succ _))⟩
end K28

set_option Elab.async false
set_option linter.all false
set_option maxRecDepth 100000
set_option maxHeartbeats 4000000
namespace K28
open PySem PySem.Spec PyProof.Rows L2
/-! ## the law's groups -/
structure Cm where
  k : GK
  ns : List Nat
  la : Addr
def kJob : Str := Str.ofString "job"
def kRow : Str := Str.ofString "row"
def keyL (k : GK) : List Key := if k.2 = [] then [.inr kJob, .inl (k.1 : Int)] else [.inr kRow, .inl (k.1 : Int), .inr (S k.2)]
theorem keyL_inj {a b : GK} (h : keyL a = keyL b) : a = b := by
  unfold keyL at h
  split at h <;> split at h <;> rename_i h1 h2
  · injection h with _ h
    injection h with h _
    injection h with h
    exact Prod.ext (by omega) (by rw [h1, h2])
  · injection h with _ h
    injection h with _ h
    cases h
  · injection h with _ h
    injection h with _ h
    cases h
  · injection h with _ h
    injection h with h3 h
    injection h with h
    injection h with h
    injection h3 with h3
    exact Prod.ext (by omega) (S_inj h)
def kvM (cs : List Cm) : List (List Key × V) := cs.map fun c => (keyL c.k, V.ref c.la)
def gsM (cs : List Cm) : List (GK × List Nat) := cs.map fun c => (c.k, c.ns)
structure MInv (H0 H : Hp) (d : Addr) (cs : List Cm) : Prop where
  d0 : H0 d = none
  dict : H d = some (.dT (kvM cs))
  lst : ∀ c ∈ cs, H c.la = some (.lst (c.ns.map vN))
  new : ∀ c ∈ cs, H0 c.la = none
  injA : ∀ c ∈ cs, ∀ c' ∈ cs, c.la = c'.la → c = c'
  injK : ∀ c ∈ cs, ∀ c' ∈ cs, c.k = c'.k → c = c'
  ne : ∀ c ∈ cs, c.ns ≠ []
section
variable {K : PySem.W.Frag} {H0 H H' : Hp} {d : Addr} {cs : List Cm}
theorem MInv.le (g : MInv H0 H d cs) (e : Le K H H') : MInv H0 H' d cs :=
  ⟨g.d0, e.keep _ _ g.dict fun _ z => (nomatch z), fun c hc => e.keep _ _ (g.lst c hc) fun _ z => (nomatch z), g.new, g.injA, g.injK, g.ne⟩
def addM (k : GK) (n : Nat) (c : Cm) : Cm := if c.k = k then { c with ns := c.ns ++ [n] } else c
theorem addM_la {k : GK} {n : Nat} {c : Cm} : (addM k n c).la = c.la := by
  unfold addM
  split <;> rfl
theorem addM_k {k : GK} {n : Nat} {c : Cm} : (addM k n c).k = c.k := by
  unfold addM
  split <;> rfl
theorem addM_ne {k : GK} {n : Nat} {c : Cm} (h : c.ns ≠ []) : (addM k n c).ns ≠ [] := by
  unfold addM
  split
  · simp
  · exact h
theorem MInv.app (g : MInv H0 H d cs) {c0 : Cm} (h0 : c0 ∈ cs) (n : Nat) : MInv H0 (upd H c0.la (.lst (c0.ns.map vN ++ [vN n]))) d (cs.map (addM c0.k n)) := by
  have hl := g.lst c0 h0
  refine ⟨g.d0, ?_, fun c hc => ?_, fun c hc => ?_, fun c hc c' hc' e => ?_, fun c hc c' hc' e => ?_, fun c hc => ?_⟩
  · rw [upd_ne (ne_of g.dict hl (fun z => nomatch z)), g.dict]
    unfold kvM
    rw [List.map_map]
    congr 2
    refine List.map_congr_left fun c _ => ?_
    show _ = (keyL (addM c0.k n c).k, V.ref (addM c0.k n c).la)
    rw [addM_k, addM_la]
  · obtain ⟨q, hq, rfl⟩ := List.mem_map.mp hc
    rw [addM_la]
    by_cases e : q.k = c0.k
    · obtain rfl := g.injK q hq c0 h0 e
      rw [upd_same]
      unfold addM
      rw [if_pos rfl]
      simp
    · rw [upd_ne fun z => e (by rw [g.injA q hq c0 h0 z])]
      unfold addM
      rw [if_neg e]
      exact g.lst q hq
  · obtain ⟨q, hq, rfl⟩ := List.mem_map.mp hc
    rw [addM_la]
    exact g.new q hq
  · obtain ⟨q, hq, rfl⟩ := List.mem_map.mp hc
    obtain ⟨q', hq', rfl⟩ := List.mem_map.mp hc'
    rw [addM_la, addM_la] at e
    rw [g.injA q hq q' hq' e]
  · obtain ⟨q, hq, rfl⟩ := List.mem_map.mp hc
    obtain ⟨q', hq', rfl⟩ := List.mem_map.mp hc'
    rw [addM_k, addM_k] at e
    rw [g.injK q hq q' hq' e]
  · obtain ⟨q, hq, rfl⟩ := List.mem_map.mp hc
    exact addM_ne (g.ne q hq)
theorem MInv.snoc (g : MInv H0 H d cs) {k : GK} {n : Nat} {l0 : Addr} (hk : ∀ c ∈ cs, c.k ≠ k) (hl : H l0 = some (.lst [])) (h0 : H0 l0 = none) (hla : ∀ c ∈ cs, c.la ≠ l0) :
    MInv H0 (upd (upd H d (.dT (kvM cs ++ [(keyL k, V.ref l0)]))) l0 (.lst [vN n])) d (cs ++ [⟨k, [n], l0⟩]) := by
  have hld : l0 ≠ d := ne_of hl g.dict (fun z => nomatch z)
  refine ⟨g.d0, ?_, fun c hc => ?_, fun c hc => ?_, fun c hc c' hc' e => ?_, fun c hc c' hc' e => ?_, fun c hc => ?_⟩
  · rw [upd_ne (Ne.symm hld), upd_same]
    unfold kvM
    rw [List.map_append]
    rfl
  · rcases List.mem_append.mp hc with hc | hc
    · rw [upd_ne (hla c hc), upd_ne (ne_of (g.lst c hc) g.dict (fun z => nomatch z))]
      exact g.lst c hc
    · rw [List.mem_singleton.mp hc]
      exact upd_same
  · rcases List.mem_append.mp hc with hc | hc
    · exact g.new c hc
    · rw [List.mem_singleton.mp hc]
      exact h0
  · rcases List.mem_append.mp hc with hc | hc <;> rcases List.mem_append.mp hc' with hc' | hc'
    · exact g.injA c hc c' hc' e
    · rw [List.mem_singleton.mp hc'] at e
      exact absurd e (hla c hc)
    · rw [List.mem_singleton.mp hc] at e
      exact absurd e.symm (hla c' hc')
    · rw [List.mem_singleton.mp hc, List.mem_singleton.mp hc']
  · rcases List.mem_append.mp hc with hc | hc <;> rcases List.mem_append.mp hc' with hc' | hc'
    · exact g.injK c hc c' hc' e
    · rw [List.mem_singleton.mp hc'] at e
      exact absurd e (hk c hc)
    · rw [List.mem_singleton.mp hc] at e
      exact absurd e.symm (hk c' hc')
    · rw [List.mem_singleton.mp hc, List.mem_singleton.mp hc']
  · rcases List.mem_append.mp hc with hc | hc
    · exact g.ne c hc
    · rw [List.mem_singleton.mp hc]
      exact List.cons_ne_nil _ _
theorem kvM_some {k : GK} {v : V} (h : valV (kvM cs) (keyL k) = some v) : ∃ c ∈ cs, c.k = k ∧ v = .ref c.la := by
  unfold valV kvM at h
  obtain ⟨p, hp, rfl⟩ := Option.map_eq_some_iff.mp h
  have h1 := List.mem_of_find?_eq_some hp
  have h2 := List.find?_some hp
  obtain ⟨c, hc, rfl⟩ := List.mem_map.mp h1
  exact ⟨c, hc, keyL_inj (of_decide_eq_true h2), rfl⟩
theorem kvM_none {k : GK} (h : valV (kvM cs) (keyL k) = none) : ∀ c ∈ cs, c.k ≠ k := fun c hc e => by
  unfold valV kvM at h
  rw [Option.map_eq_none_iff, List.find?_eq_none] at h
  refine h _ (List.mem_map.mpr ⟨c, hc, rfl⟩) (decide_eq_true ?_)
  show keyL c.k = keyL k
  rw [e]
theorem gsM_add {c0 : Cm} (h0 : c0 ∈ cs) (n : Nat) : gsM (cs.map (addM c0.k n)) = grpAdd c0.k n (gsM cs) := by
  unfold grpAdd gsM
  rw [if_pos (List.any_eq_true.mpr ⟨(c0.k, c0.ns), List.mem_map.mpr ⟨c0, h0, rfl⟩, decide_eq_true rfl⟩)]
  rw [List.map_map, List.map_map]
  refine List.map_congr_left fun c _ => ?_
  show ((addM c0.k n c).k, (addM c0.k n c).ns) = if c.k = c0.k then (c.k, c.ns ++ [n]) else (c.k, c.ns)
  unfold addM
  split <;> rfl
theorem gsM_new {k : GK} (hk : ∀ c ∈ cs, c.k ≠ k) (n : Nat) (l0 : Addr) : gsM (cs ++ [⟨k, [n], l0⟩]) = grpAdd k n (gsM cs) := by
  unfold grpAdd
  rw [if_neg fun z => ?_]
  · unfold gsM
    rw [List.map_append]
    rfl
  · obtain ⟨g, hg, e⟩ := List.any_eq_true.mp z
    obtain ⟨c, hc, rfl⟩ := List.mem_map.mp hg
    exact hk c hc (of_decide_eq_true e)
end
/-! ### the groups stand by their first numbers -/
theorem grps_heads {key : Nat → GK} : ∀ {ns : List Nat}, ns.Pairwise (· < ·) → (grps key ns).Pairwise fun g g' => g.2.headD 0 < g'.2.headD 0 := by
  intro ns
  -- from the right
  have gen : ∀ (l : List Nat), l.reverse.Pairwise (· < ·) → (grps key l.reverse).Pairwise fun g g' => g.2.headD 0 < g'.2.headD 0 := by
    intro l
    induction l with
    | nil => exact fun _ => .nil
    | cons n l ih =>
      intro h
      rw [List.reverse_cons] at h ⊢
      rw [grps_snoc]
      obtain ⟨h1, _, h3⟩ := List.pairwise_append.mp h
      have ok := grps_ok key l.reverse
      have ih := ih h1
      unfold grpAdd
      split
      · refine List.pairwise_map.mpr (ih.imp_of_mem fun {a b} ha hb q => ?_)
        have hd : ∀ g ∈ grps key l.reverse, (if g.1 = key n then (g.1, g.2 ++ [n]) else g).2.headD 0 = g.2.headD 0 := fun g hg => by
          split
          · cases e : g.2 with
            | nil => exact absurd e (ok.ne g hg)
            | cons x r => simp
          · rfl
        rw [hd a ha, hd b hb]
        exact q
      · rw [List.pairwise_append]
        refine ⟨ih, List.pairwise_singleton .., fun a ha b hb => ?_⟩
        rw [List.mem_singleton.mp hb]
        show a.2.headD 0 < n
        refine h3 _ ?_ n (List.mem_singleton.mpr rfl)
        refine (ok.sub a ha).subset ?_
        cases e : a.2 with
        | nil => exact absurd e (ok.ne a ha)
        | cons x r => exact List.mem_cons_self ..
  intro h
  have := gen ns.reverse (by rw [List.reverse_reverse]; exact h)
  rw [List.reverse_reverse] at this
  exact this
/-! ### pairs of numbers and a word, as data -/
def encG (ns w : List Nat) : PyData := .tuple [.list (ns.map fun n : Nat => .int (n : Int)), .str (S w)]
theorem encG_all : ∀ (a b : List Nat), PySem.W.alikeAll (a.map fun n : Nat => PyData.int (n : Int)) (b.map fun n : Nat => PyData.int (n : Int)) = true
  | [], _ => by unfold PySem.W.alikeAll; rfl
  | _ :: _, [] => by unfold PySem.W.alikeAll; rfl
  | x :: a, y :: b => by
    rw [List.map_cons, List.map_cons]
    unfold PySem.W.alikeAll
    rw [encG_all a b]
    unfold PySem.W.alike
    rfl
theorem encG_alike (a b w v : List Nat) : PySem.W.alike (encG a w) (encG b v) = true := by
  unfold encG
  simp only [PySem.W.alike, PySem.W.alikeAll, encG_all, Bool.and_true]
theorem encG_lt {a b w v : List Nat} (ha : a ≠ []) (hb : b ≠ []) (h : a.headD 0 < b.headD 0) : PySem.W.dataLt (encG b v) (encG a w) = false := by
  obtain ⟨x, a, rfl⟩ := List.exists_cons_of_ne_nil ha
  obtain ⟨y, b, rfl⟩ := List.exists_cons_of_ne_nil hb
  have h : x < y := h
  have tk : ∀ (x : Nat) (a w : List Nat), ∃ t, PySem.W.keyToks (encG (x :: a) w) = .inl 1 :: .inl 1 :: .inl (x : Int) :: t := fun x a w => by
    unfold encG PySem.W.keyToks PySem.W.keyToksAll PySem.W.keyToks
    rw [List.map_cons]
    unfold PySem.W.keyToksAll PySem.W.keyToks
    exact ⟨_, rfl⟩
  obtain ⟨t1, e1⟩ := tk x a w
  obtain ⟨t2, e2⟩ := tk y b v
  unfold PySem.W.dataLt
  rw [e1, e2, PyProof.Rows.lex_cons, PyProof.Rows.lex_cons, PyProof.Rows.lex_cons]
  have i1 : PyProof.Rows.itemOrd.blt (.inl 1) (.inl 1) = false := rfl
  have i2 : PyProof.Rows.itemOrd.blt (.inl (y : Int)) (.inl (x : Int)) = false := decide_eq_false (by omega)
  have i3 : PyProof.Rows.itemOrd.blt (.inl (x : Int)) (.inl (y : Int)) = true := decide_eq_true (by omega)
  rw [i1, i2, i3]
  rfl
theorem encG_depth (a w : List Nat) : (encG a w).depth ≤ 30 := by
  have h : ∀ l : List Nat, PyData.depthAll (l.map fun n : Nat => PyData.int (n : Int)) ≤ 1 := fun l => by
    induction l with
    | nil => simp only [List.map_nil, PyData.depthAll]; omega
    | cons x l ih =>
      rw [List.map_cons]
      simp only [PyData.depth, PyData.depthAll]
      omega
  have := h a
  unfold encG
  simp only [PyData.depth, PyData.depthAll]
  omega
theorem encG_ok (gs : List (GK × List Nat)) (wf : GK × List Nat → List Nat) (ne : ∀ g ∈ gs, g.2 ≠ []) (hp : gs.Pairwise fun g g' => g.2.headD 0 < g'.2.headD 0) :
    PySem.W.AllAlike (gs.map fun g => encG g.2 (wf g)) ∧ PySem.W.Sortable (gs.map fun g => encG g.2 (wf g)) ∧ (∀ d ∈ gs.map fun g => encG g.2 (wf g), d.depth ≤ 30) ∧ (gs.map fun g => encG g.2 (wf g)).Pairwise fun d d' => PySem.W.dataLt d' d = false := by
  refine ⟨fun d hd d' hd' => ?_, .inl fun d hd => ?_, fun d hd => ?_, List.pairwise_map.mpr (hp.imp_of_mem fun {a b} ha hb q => encG_lt (ne a ha) (ne b hb) q)⟩
  · obtain ⟨g, _, rfl⟩ := List.mem_map.mp hd
    obtain ⟨g', _, rfl⟩ := List.mem_map.mp hd'
    exact encG_alike _ _ _ _
  · obtain ⟨g, _, rfl⟩ := List.mem_map.mp hd
    exact ⟨_, _, rfl⟩
  · obtain ⟨g, _, rfl⟩ := List.mem_map.mp hd
    exact encG_depth _ _
end K28

set_option Elab.async false
set_option linter.all false
set_option maxRecDepth 100000
set_option maxHeartbeats 4000000
namespace K28
open PySem PySem.Spec PyProof.Rows L2
def spLLines (K : PySem.W.Frag) : Sp := fun vs H Q _ => ∃ (a d : Addr) (ps : List Addr) (rs : List Rw) (st : St1), vs = [.ref a, .ref d] ∧ SqL K H a (ps.map V.ref) ∧ LRs K H ps rs ∧ rs.length ≤ 60 ∧ UpR rs ∧ (∀ r ∈ rs, r.1 ≤ 999000 ∧ 1 ≤ r.2.length) ∧ StD H d st ∧ StOk st ∧ TbOk K H ∧
  ∀ H' p, Le K H H' → H' p = some (.lst (strsV (linesM rs st (numsM st)))) → Q (.ref p) H'
theorem dpAll_of {K : PySem.W.Frag} {H : Hp} : ∀ {vs : List V} {ds : List PyData}, vs.length = ds.length → (∀ (i : Nat) (v : V) (d : PyData), vs[i]? = some v → ds[i]? = some d → Dp K H v d) → DpAll K H vs ds
  | [], [], _, _ => .nil
  | v :: vs, d :: ds, h, k => .cons (k 0 v d rfl rfl) (dpAll_of (by simpa using h) fun i a b x y => k (i + 1) a b x y)
  | [], _ :: _, h, _ => by cases h
  | _ :: _, [], h, _ => by cases h
theorem dp_ints {K : PySem.W.Frag} {H : Hp} : ∀ ns : List Nat, DpAll K H (ns.map vN) (ns.map fun n : Nat => PyData.int (n : Int))
  | [] => .nil
  | n :: ns => .cons (.int _) (dp_ints ns)
theorem kS_job : (Str.ofString "job" : Str) = kJob := rfl
/-- one turn of the grouping, its key at hand -/
theorem group_step {K : PySem.W.Frag} {H H6 : Hp} {a d fd yp kt : Addr} {rs : List Rw} {st : St1} {cs : List Cm} {n : Nat} {rv : V} {x6 x7 x8 : Option V} {ys : List V} {Z : L2.St → Hp → Prop} {B : L2.St → Hp → Prop} {rt : VK} (eH : Le K H H6) (yp0 : H yp = none) (hy : H6 yp = some (.lst ys)) (G : MInv H H6 fd cs) (hcy : ∀ c ∈ cs, c.la ≠ yp)
    (hk : H6 kt = some (.tup ((keyL (key0 rs st n)).map kV))) (hlen : cs.length ≤ 100) (hns : ∀ c ∈ cs, c.ns.length ≤ 100)
    (fin : ∀ (cs' : List Cm) (H' : Hp), Le K H H' → H' yp = some (.lst ys) → MInv H H' fd cs' → (∀ c ∈ cs', c.la ≠ yp) → gsM cs' = grpAdd (key0 rs st n) n (gsM cs) → Z [some (.ref a), some (.ref d), some (.ref fd), some (vN n), some rv, some (.ref kt), x6, x7, x8] H') :
    tDrop (tBM K "list" rAppend (DT.tSetd (tVar 2) (tVar 5) (tLst tNil)) (tCons (tVar 3) tNil)) { nx := Z, ct := Z, bk := B, rt := rt } [some (.ref a), some (.ref d), some (.ref fd), some (vN n), some rv, some (.ref kt), x6, x7, x8] H6 := by
  have O := ordL (K := K)
  have sl : sizeLine = 16777216 := sizeLine_eq
  refine ⟨_, rfl, fd, rfl, .inr ⟨_, .inl G.dict⟩, _, rfl, Nat.zero_le _, fun l0 hl0 => ?_⟩
  have e7 : Le K H6 (upd H6 l0 (.lst [])) := Le.new hl0
  have G8 := G.le e7
  have hl8 : upd H6 l0 (.lst []) l0 = some (.lst []) := upd_same
  have hla : ∀ c ∈ cs, c.la ≠ l0 := fun c hc => ne_of_none (G.lst c hc) hl0
  have hy8 := e7.keep _ _ hy fun _ z => (nomatch z)
  have hk8 := e7.keep _ _ hk fun _ z => (nomatch z)
  have eH8 := eH.trans e7
  have l00 : H l0 = none := eH.free hl0
  have yl0 : yp ≠ l0 := ne_of_none hy hl0
  generalize upd H6 l0 (.lst []) = H8 at G8 hl8 hy8 hk8 eH8 ⊢
  have hcl : (kvM cs).length = cs.length := List.length_map ..
  refine ⟨kvM cs, keyL (key0 rs st n), kt, G8.dict, rfl, hk8, by omega, fun v hv => ?_, fun hv => ?_⟩
  · obtain ⟨c0, h0, ek, rfl⟩ := kvM_some hv
    have hlst := G8.lst c0 h0
    have hnn := hns c0 h0
    refine ⟨.inl ⟨rfl, _, .inl (.inl hlst)⟩, _, rfl, c0.la, _, vN n, rfl, rfl, hlst, by rw [List.length_map]; omega, ?_⟩
    refine fin (cs.map (addM c0.k n)) _ (O.wr eH8 (G8.new c0 h0) hlst rfl) ?_ (G8.app h0 n) ?_ (by rw [gsM_add h0, ek])
    · rw [upd_ne (Ne.symm (hcy c0 h0))]
      exact hy8
    · intro c hc
      obtain ⟨q, hq, rfl⟩ := List.mem_map.mp hc
      rw [addM_la]
      exact hcy q hq
  · have hk := kvM_none hv
    have hld : l0 ≠ fd := ne_of hl8 G8.dict (fun z => nomatch z)
    have hl9 : upd H8 fd (.dT (putK (kvM cs) (keyL (key0 rs st n)) (.ref l0))) l0 = some (.lst []) := by
      rw [upd_ne hld]
      exact hl8
    refine ⟨.inl ⟨rfl, _, .inl (.inl hl9)⟩, _, rfl, l0, _, vN n, rfl, rfl, hl9, by show 0 < _; omega, ?_⟩
    have e9 : Le K H (upd H8 fd (.dT (putK (kvM cs) (keyL (key0 rs st n)) (.ref l0)))) := O.wr eH8 G8.d0 G8.dict rfl
    have G9 := G8.snoc (n := n) hk hl8 l00 hla
    rw [← putK_new (.ref l0) hv] at G9
    refine fin (cs ++ [⟨key0 rs st n, [n], l0⟩]) (upd (upd H8 fd (.dT (putK (kvM cs) (keyL (key0 rs st n)) (.ref l0)))) l0 (.lst [vN n])) (O.wr e9 l00 hl9 rfl) ?_ G9 ?_ (gsM_new hk n l0)
    · rw [upd_ne yl0, upd_ne (ne_of hy8 G8.dict (fun z => nomatch z))]
      exact hy8
    · intro c hc
      rcases List.mem_append.mp hc with hc | hc
      · exact hcy c hc
      · rw [List.mem_singleton.mp hc]
        exact Ne.symm yl0
section
variable {w : World} {K : PySem.W.Frag} {mg : Str → Option Value} {base : Heap}
theorem ok_l_lines (T : Tz K mg base) : Fk Er.PRG w K mg base "_law_lines" 7 ["_law_rows", "_law_states"] (spLLines K) := by
  refine Fk.mk0 T.g_l_lines T.d_l_lines sc_l_lines (fun vs H Q E h => ?_) (fun _ _ _ _ _ _ us hl => match us, hl with | [_, _], _ => rfl) fun cdv A outer s H vs Q E hr h => ⟨_,
      (pss_cons (ps_set (i := 2) sc_l_lines.nd rfl (Or.inl rfl) pe_dnewT)
      (pss_cons (ps_for PassesOwn.never rfl (pi_list (pe_callB (call_sortedDI rfl) (by rfl) T.m_sorted (by decide +kernel) (pa_cons (pv 1) pa_nil))) (pg_name (i := 3) sc_l_lines.nd rfl (Or.inl rfl)) (pss_cons (ps_set (i := 4) sc_l_lines.nd rfl (Or.inl rfl) (pe_f (ok_l_likes_of T.toTy.toTx) (hr.mono (by decide)) (pa_cons (pv 0) (pa_cons (pv 3) pa_nil))))
      (pss_cons (ps_set (i := 5) sc_l_lines.nd rfl (Or.inl rfl) (pe_ifExp (pt_cmpR op_isN (pv 4) pe_non (nomark _)) (pe_tup (pa_cons pe_str (pa_cons (pv 3) pa_nil))) (pe_tup (pa_cons pe_str (pa_cons (pe_ix ix_tup (pv 4) pe_int (fun _ _ => rfl)) (pa_cons (pe_dget (hu_of hr) (pv 1) (pv 3) (fun _ _ => rfl)) pa_nil))))))
      (pss_one (ps_expr (pe_bm PySem.F.plainAttrs_list PySem.F.slot_list_append PySem.F.type_list_append mt_append (DT.pe_setd (hu_of hr) (pv 2) (pv 5) (pe_lst pa_nil) ⟨rfl, rfl, rfl, rfl⟩) (pa_cons (pv 3) pa_nil)))))))
      (pss_cons (ps_set (i := 6) sc_l_lines.nd rfl (Or.inl rfl) (pe_callB (cr_sortedD hr.units) (by rfl) T.m_sorted (by decide +kernel) (pa_cons (pe_lc (own := [("_law_numbers_here", 7)]) (g := gName 7) rfl sc_l_lines.nd (DT.pi_vals (pe_still (pv 2))) (blkOk_by (own := [("_law_numbers_here", 7)]) (N := N_l_lines) (sc := defScope s_l_lines) (by decide +kernel)) (fun _ _ _ _ _ => (pg_name (i := 7) sc_l_lines.nd rfl (Or.inl rfl))) (fun _ _ _ _ _ => pts_nil) (fun _ _ _ _ _ => (pe_tup (pa_cons (pv 7) (pa_cons (pe_dget (hu_of hr) (pv 1) (pe_ix (show IxR _ (rIxL K) from ix_list) (pv 7) pe_int (fun _ _ => rfl)) (fun _ _ => rfl)) pa_nil))))) pa_nil)))
      (pss_one (ps_ret (pe_lc (own := [("_law_numbers_here", 7), ("_law_state", 8)]) (g := gTup K 2 (gCons (gName 7) (gCons (gName 8) (gNil)))) rfl sc_l_lines.nd (pi_list (pv 6)) (blkOk_by (own := [("_law_numbers_here", 7), ("_law_state", 8)]) (N := N_l_lines) (sc := defScope s_l_lines) (by decide +kernel)) (fun _ _ _ _ _ => (pg_tup rfl (pgs_cons (pg_name (i := 7) sc_l_lines.nd rfl (Or.inl rfl)) (pgs_cons (pg_name (i := 8) sc_l_lines.nd rfl (Or.inl rfl)) pgs_nil)))) (fun _ _ _ _ _ => pts_nil) (fun _ _ _ _ _ => (pe_f (ok_l_line T) (hr.mono (by decide)) (pa_cons (pv 0) (pa_cons (pv 7) (pa_cons (pv 8) pa_nil))))))))))), ?_⟩
  · obtain ⟨_, _, _, _, _, rfl, _⟩ := h
    rfl
  · obtain ⟨a, d, ps, rs, st, rfl, hA, lr, hl60, up, hrb, sd, ok, tb, q⟩ := h
    have O := ordL (K := K)
    have OS := ordS (K := K)
    have sl : sizeLine = 16777216 := sizeLine_eq
    obtain ⟨od, hd⟩ := _root_.id sd
    refine fun fd hfd => ?_
    refine ⟨_, rfl, d, kvS st, st.map fun p => (p.1 : Int), rfl, .inr ⟨od, ?_⟩, ?_, ?_, fun ys yp hperm hup hyp => ?_⟩
    · rw [upd_ne (ne_of_none hd hfd)]
      exact hd
    · unfold kvS
      rw [List.map_map, List.map_map]
      rfl
    · rw [List.length_map]
      have := ok.len
      omega
    have hys : ys = (numsM st).map fun n : Nat => (n : Int) := sorted_back ok.keys (by rw [List.map_map]; exact hperm) hup
    subst hys
    have hmap : ((numsM st).map fun n : Nat => (n : Int)).map V.int = (numsM st).map vN := by
      rw [List.map_map]
      rfl
    rw [hmap]
    have yf : yp ≠ fd := fun z => by
      rw [z, upd_same] at hyp
      cases hyp
    have yp0 : H yp = none := by
      rw [upd_ne yf] at hyp
      exact hyp
    have eL : Le K H (upd (upd H fd (.dT [])) yp (.lst ((numsM st).map vN))) := (Le.new hfd).trans (Le.new hyp)
    have hnl := numsM_len st ok
    have hst60 := ok.len
    refine ⟨yp, rfl, ⟨_, .inl (.inl upd_same)⟩, ?_⟩
    refine for_it (walk_list (K := K) (xs := (numsM st).map vN)) (fun i σ H' => ∃ (x3 x4 x5 x6 x7 x8 : Option V) (cs : List Cm), σ = [some (.ref a), some (.ref d), some (.ref fd), x3, x4, x5, x6, x7, x8] ∧ Le K H H' ∧ H' yp = some (.lst ((numsM st).map vN)) ∧ MInv H H' fd cs ∧ (∀ c ∈ cs, c.la ≠ yp) ∧ gsM cs = grps (key0 rs st) ((numsM st).take i)) ?_ (fun _ _ _ _ ⟨_, _, _, _, _, _, _, _, _, hy, _⟩ => .inl (.inl hy)) (fun i x σ H3 H4 hi pv hy => ?_) fun σ H3 pv => ?_
    · refine ⟨_, _, _, _, _, _, [], rfl, eL, upd_same, ⟨hfd, ?_, fun _ h => absurd h List.not_mem_nil, fun _ h => absurd h List.not_mem_nil, fun _ h => absurd h List.not_mem_nil, fun _ h => absurd h List.not_mem_nil, fun _ h => absurd h List.not_mem_nil⟩, fun _ h => absurd h List.not_mem_nil, rfl⟩
      rw [upd_ne (Ne.symm yf), upd_same]
      rfl
    · obtain ⟨x3, x4, x5, x6, x7, x8, cs, rfl, eH, hyl, G, hcy, hgs⟩ := pv
      obtain ⟨rfl, hx⟩ := hy
      obtain ⟨n, hn, rfl⟩ := map_get hx
      have hmem : n ∈ st.map Prod.fst := mem_sortU.mp (List.mem_of_getElem? hn)
      have hcl : cs.length ≤ 100 := by
        have h1 := grps_len (key0 rs st) ((numsM st).take i)
        rw [← hgs] at h1
        unfold gsM at h1
        rw [List.length_map, List.length_take] at h1
        omega
      have hcn : ∀ c ∈ cs, c.ns.length ≤ 100 := fun c hc => by
        have h1 := (grps_ok (key0 rs st) ((numsM st).take i)).sub (c.k, c.ns) (by rw [← hgs]; exact List.mem_map.mpr ⟨c, hc, rfl⟩)
        have h2 := h1.length_le
        rw [List.length_take] at h2
        have h2 : c.ns.length ≤ min i (numsM st).length := h2
        omega
      have hnext : grps (key0 rs st) ((numsM st).take (i + 1)) = grpAdd (key0 rs st n) n (grps (key0 rs st) ((numsM st).take i)) := by
        rw [List.take_succ, hn]
        exact grps_snoc _ _ _
      refine ⟨_, rfl, _, rfl, a, n, ps, rs, rfl, O.sqL eH hA, eH.hd.lrs lr, hl60, fun H5 rv e5 hrv => ?_⟩
      have e5 : Le K H4 H5 := e5.le
      have eH5 := eH.trans e5
      have step : ∀ kt, H5 kt = none → ∀ (Z B : L2.St → Hp → Prop) (rt : VK), (∀ (cs' : List Cm) (H' : Hp), Le K H H' → H' yp = some (.lst ((numsM st).map vN)) → MInv H H' fd cs' → (∀ c ∈ cs', c.la ≠ yp) → gsM cs' = grpAdd (key0 rs st n) n (gsM cs) → Z [some (.ref a), some (.ref d), some (.ref fd), some (vN n), some rv, some (.ref kt), x6, x7, x8] H') →
          tDrop (tBM K "list" rAppend (DT.tSetd (tVar 2) (tVar 5) (tLst tNil)) (tCons (tVar 3) tNil)) { nx := Z, ct := Z, bk := B, rt := rt } [some (.ref a), some (.ref d), some (.ref fd), some (vN n), some rv, some (.ref kt), x6, x7, x8] (upd H5 kt (.tup ((keyL (key0 rs st n)).map kV))) := fun kt hkt Z B rt hZ =>
        have e6 : Le K H5 (upd H5 kt (.tup ((keyL (key0 rs st n)).map kV))) := Le.new hkt
        group_step (eH5.trans e6) yp0 ((e5.trans e6).keep _ _ hyl fun _ z => (nomatch z)) (G.le (e5.trans e6)) hcy upd_same hcl hcn hZ
      have done : ∀ kt (cs' : List Cm) (H' : Hp), Le K H H' → H' yp = some (.lst ((numsM st).map vN)) → MInv H H' fd cs' → (∀ c ∈ cs', c.la ≠ yp) → gsM cs' = grpAdd (key0 rs st n) n (gsM cs) →
          ∃ (x3 x4 x5 x6' x7' x8' : Option V) (cs : List Cm), [some (.ref a), some (.ref d), some (.ref fd), some (vN n), some rv, some (V.ref kt), x6, x7, x8] = [some (.ref a), some (.ref d), some (.ref fd), x3, x4, x5, x6', x7', x8'] ∧ Le K H H' ∧ H' yp = some (.lst ((numsM st).map vN)) ∧ MInv H H' fd cs ∧ (∀ c ∈ cs, c.la ≠ yp) ∧ gsM cs = grps (key0 rs st) ((numsM st).take (i + 1)) :=
        fun kt cs' H' h1 h2 h3 h4 h5 => ⟨_, _, _, _, _, _, cs', rfl, h1, h2, h3, h4, by rw [h5, hgs, hnext]⟩
      cases hro : rowOf rs n with
      | none =>
        have hk0 : (keyL (key0 rs st n)).map kV = [.str kJob, vN n] := by
          unfold key0
          rw [hro]
          rfl
        rw [hk0] at step
        rw [hro] at hrv
        obtain rfl : rv = .non := hrv
        exact ⟨_, rfl, rfl, _, rfl, ifT rfl ⟨_, rfl, by show 2 ≤ sizeLine; omega, fun kt hkt => step kt hkt _ _ _ (done kt)⟩⟩
      | some r =>
        rw [hro] at hrv
        obtain ⟨p, rfl, t, m, g1, g2, g3, g4⟩ := hrv
        have hw := wordB_ne (stOf_word ok hmem)
        have hk0 : (keyL (key0 rs st n)).map kV = [.str kRow, vN r.1, .str (S (stOf st n))] := by
          unfold key0
          rw [hro]
          show (keyL (r.1, stOf st n)).map kV = _
          unfold keyL
          rw [if_neg hw]
          rfl
        rw [hk0] at step
        obtain ⟨o5, hd5⟩ := O.std sd eH5
        exact ⟨_, rfl, rfl, _, rfl, ifF rfl ⟨_, rfl, p, _, _, _, rfl, rfl, g1, atI_nat (j := 0) rfl, _, rfl, _, rfl, d, .str (S (stOf st n)), rfl, .inl ⟨_, .inl (n : Int), .inr ⟨o5, hd5⟩, rfl, (kvS_valV hmem).symm⟩, by show 3 ≤ sizeLine; omega, fun kt hkt => step kt hkt _ _ _ (done kt)⟩⟩
    · obtain ⟨x3, x4, x5, x6, x7, x8, cs, rfl, eH, hyl, G, hcy, hgs⟩ := pv
      have hgs : gsM cs = grps (key0 rs st) (numsM st) := by
        rw [hgs, List.length_map, List.take_length]
      have hcl : cs.length ≤ 100 := by
        have h1 := grps_len (key0 rs st) (numsM st)
        rw [← hgs] at h1
        unfold gsM at h1
        rw [List.length_map] at h1
        omega
      have hkl : (kvM cs).length = cs.length := List.length_map ..
      have hcns : ∀ c ∈ cs, (c.k, c.ns) ∈ grps (key0 rs st) (numsM st) := fun c hc => by
        rw [← hgs]
        exact List.mem_map.mpr ⟨c, hc, rfl⟩
      have hhead : ∀ c ∈ cs, c.ns.headD 0 ∈ st.map Prod.fst := fun c hc => by
        refine mem_sortU.mp (((grps_ok (key0 rs st) (numsM st)).sub _ (hcns c hc)).subset ?_)
        show c.ns.headD 0 ∈ c.ns
        cases e : c.ns with
        | nil => exact absurd e (G.ne c hc)
        | cons a r => exact List.mem_cons_self ..
      refine ⟨_, rfl, fd, _, rfl, G.dict, True.intro, fun od2 => ⟨fd, od2, kvM cs, rfl, upd_same, fun D hD => ?_⟩⟩
      have eF : Le K H (upd H3 fd (.frz od2 (.dT (kvM cs)))) := O.wr eH hfd G.dict rfl
      have Fl : ∀ c ∈ cs, upd H3 fd (.frz od2 (.dT (kvM cs))) c.la = some (.lst (c.ns.map vN)) := fun c hc => by
        rw [upd_ne (ne_of (G.lst c hc) G.dict (fun z => nomatch z))]
        exact G.lst c hc
      have Fd : upd H3 fd (.frz od2 (.dT (kvM cs))) fd = some (.frz od2 (.dT (kvM cs))) := upd_same
      generalize upd H3 fd (.frz od2 (.dT (kvM cs))) = HF at hD eF Fl Fd ⊢
      refine lc_rel OS (DT.walk_vals) (fun i v H => ∃ (c : Cm) (t : Addr), cs[i]? = some c ∧ v = .ref t ∧ t ≠ D ∧ H t = some (.tup [.ref c.la, .str (S (stOf st (c.ns.headD 0)))])) (fun i v H H' ⟨c, t, h1, h2, h3, h4⟩ ex => ⟨c, t, h1, h2, h3, ex t _ h3 h4 fun _ z => (nomatch z)⟩) hD (by rw [hkl]; omega) (fun H4 e => e _ _ Fd) (fun i x H4 H5 Fin No hi e hacc hy hF => ?_) fun H4 ys4 e hl1 hlen4 hR => ?_
      · obtain ⟨rfl, k, hk⟩ := hy
        obtain ⟨c, hc, ec⟩ : ∃ c, cs[i]? = some c ∧ (keyL c.k, V.ref c.la) = (k, x) := by
          unfold kvM at hk
          rw [List.getElem?_map] at hk
          cases e : cs[i]? with
          | none => rw [e] at hk; cases hk
          | some c => rw [e] at hk; exact ⟨c, rfl, Option.some.inj hk⟩
        obtain rfl : V.ref c.la = x := congrArg Prod.snd ec
        have hm := List.mem_of_getElem? hc
        have hl5 := e _ _ (Fl c hm)
        obtain ⟨o5, hd5⟩ := OS.std (O.std sd eF) e
        have hat : atI (c.ns.map vN) 0 = some (vN (c.ns.headD 0)) := by
          cases e : c.ns with
          | nil => exact absurd e (G.ne c hm)
          | cons m r => exact atI_nat (j := 0) rfl
        obtain ⟨acc, hacc⟩ := hacc
        refine ⟨rfl, ⟨_, rfl, _, rfl, _, rfl, c.la, _, _, _, rfl, rfl, .inl (.inl hl5), hat, d, .str (S (stOf st (c.ns.headD 0))), rfl, .inl ⟨_, .inl ((c.ns.headD 0 : Nat) : Int), .inr ⟨o5, hd5⟩, rfl, (kvS_valV (hhead c hm)).symm⟩, by show 2 ≤ sizeLine; omega, fun t ht => ?_⟩⟩
        exact hF _ _ (Same.new ht) ⟨c, t, hc, rfl, (ne_of_none hacc ht).symm, upd_same⟩
      · rw [hkl] at hlen4
        have e4 : Le K H H4 := eF.trans e.le
        have wf : GK × List Nat → List Nat := fun g => stOf st (g.2.headD 0)
        have hds : DpAll K H4 ys4 ((gsM cs).map fun g => encG g.2 (stOf st (g.2.headD 0))) := by
          unfold gsM
          rw [List.map_map]
          refine dpAll_of (by rw [List.length_map]; exact hlen4) fun i v dd hv hdd => ?_
          obtain ⟨c, t, h1, rfl, h3, h4⟩ := hR i v hv
          rw [List.getElem?_map, h1] at hdd
          have hdd := Option.some.inj hdd
          subst hdd
          exact .tup (.of h4) (.cons (.lst (.inl (.inl (e _ _ (Fl c (List.mem_of_getElem? h1))))) (dp_ints c.ns)) (.cons (.str _) .nil))
        have gok := grps_ok (key0 rs st) (numsM st)
        have hok := encG_ok (gsM cs) (fun g => stOf st (g.2.headD 0)) (by rw [hgs]; exact gok.ne) (by rw [hgs]; exact grps_heads (sortU_up _))
        refine ⟨D, ys4, _, rfl, .inl (.inl hl1), hds, hok.1, hok.2.1, hok.2.2.1, hok.2.2.2, fun pl hpl => ?_⟩
        have e5 : Same H4 (upd H4 pl (.lst ys4)) := Same.new hpl
        have hpl5 : upd H4 pl (.lst ys4) pl = some (.lst ys4) := upd_same
        generalize upd H4 pl (.lst ys4) = H5 at e5 hpl5 ⊢
        have e05 := e4.trans e5.le
        refine ⟨_, rfl, pl, rfl, ⟨_, .inl (.inl hpl5)⟩, fun D2 hD2 => ?_⟩
        refine lc_pure O (walk_list (K := K)) (fun i => (cs[i]?).map fun c => .str (S (lineM (rowOf rs (c.ns.headD 0)) c.ns (stOf st (c.ns.headD 0))))) hD2 (by omega) (fun H6 e6 => O.sqL e6 (.inl (.inl hpl5))) (fun i x H6 H7 Fin No hi e6 hy hF hN => ?_) fun H6 e6 hl6 => ?_
        · obtain ⟨rfl, hx⟩ := hy
          obtain ⟨c, t, h1, rfl, h3, h4⟩ := hR i x hx
          have hm := List.mem_of_getElem? h1
          have ht6 := O.keep e6 _ _ (e5 _ _ h4) fun _ z => (nomatch z)
          have hl6 := O.keep e6 _ _ (e5 _ _ (e _ _ (Fl c hm))) fun _ z => (nomatch z)
          have e06 := e05.trans e6
          have nk := numsOk up (fun r hr => (hrb r hr).2) ok (hcns c hm)
          have hw := wordB_len (stOf_word ok (hhead c hm))
          refine ⟨_, _, rfl, .of ht6, rfl, _, _, rfl, _, _, rfl, rfl, rfl, ⟨_, rfl, _, rfl, _, rfl, a, c.la, ps, rs, c.ns, stOf st (c.ns.headD 0), rfl, O.sqL e06 hA, e06.hd.lrs lr, hl60, .inl (.inl hl6), nk, by omega, e06.tabs tb, fun r hr => (hrb r hr).1, fun H8 e8 => hF _ _ ?_ e8⟩⟩
          rw [h1]
          rfl
        · refine q _ D2 (e05.trans e6) (hl6.trans ?_)
          congr 2
          rw [hlen4, fm_map cs fun c => V.str (S (lineM (rowOf rs (c.ns.headD 0)) c.ns (stOf st (c.ns.headD 0))))]
          unfold strsV linesM
          rw [← hgs]
          unfold gsM
          rw [List.map_map, List.map_map]
          rfl
end
end K28

set_option Elab.async false
set_option linter.all false
set_option maxRecDepth 100000
set_option maxHeartbeats 4000000
namespace K28
open PySem PySem.Spec PyProof.Rows L2
/-! ## the law's reader: where a text goes wrong -/
/-- part, size, zero: the state of the reader; at: how many signs are read -/
def spotGo : List Nat → Nat → Nat → Nat → Bool → Option Nat
  | [], at_, _, s, _ => if 0 < s then none else some at_
  | c :: r, at_, p, s, z => if isDig c = true then (if s = 4 ∨ z = true then some at_ else spotGo r (at_ + 1) p (s + 1) (decide (s = 0) && decide (c = 48)))
    else if 0 < s ∧ (c = 44 ∨ (c = 45 ∧ p = 0) ∨ (c = 58 ∧ p = 1)) then spotGo r (at_ + 1) (if c = 44 then 0 else p + 1) 0 false else some at_
def spotM (l : List Nat) : Option Nat := spotGo l 0 0 0 false
theorem sgn {c k : Nat} {z : Str} (hz : z = S [k]) : decide (V.str (S [c]) = V.str z) = decide (c = k) := by
  subst hz
  by_cases h : c = k
  · rw [h]
    simp
  · rw [decide_eq_false h, decide_eq_false fun q => h ?_]
    simpa using S_inj (V.str.inj q)
theorem nmr {n k : Nat} : decide (V.int (n : Int) = V.int (k : Int)) = decide (n = k) := by
  by_cases h : n = k
  · rw [h]
    simp
  · rw [decide_eq_false h, decide_eq_false fun q => h ?_]
    injection q with q
    omega
def spSpot : Sp := fun vs H Q _ => ∃ l : List Nat, vs = [.str (S l)] ∧ l.length ≤ 100000 ∧ ∀ H', Same H H' → Q (optN (spotM l)) H'
section
variable {P : Program} {w : World} {K : PySem.W.Frag} {mg : Str → Option Value} {base : Heap}
theorem ok_l_likes_spot (T : Tx K mg) : Fk P w K mg base "_law_likes_spot" 1 ["_law_text"] spSpot := by
  refine Fk.mk0 T.g_l_likes_spot T.d_l_likes_spot sc_l_likes_spot (fun vs H Q E h => ?_) (fun _ _ _ _ _ _ us hl => match us, hl with | [_], _ => rfl) fun cdv A outer s H vs Q E hr h => ⟨_,
      (pss_cons (ps_asg (pe_tup (pa_cons pe_int (pa_cons pe_int (pa_cons pe_bl pa_nil)))) (pg_tup rfl (pgs_cons (pg_name (i := 1) sc_l_likes_spot.nd rfl (Or.inl rfl)) (pgs_cons (pg_name (i := 2) sc_l_likes_spot.nd rfl (Or.inl rfl)) (pgs_cons (pg_name (i := 3) sc_l_likes_spot.nd rfl (Or.inl rfl)) pgs_nil)))))
      (pss_cons (ps_for PassesOwn.never rfl (En.pi_enS (by rfl) T.m_enumerate (pa_cons (pv 0) pa_nil)) (pg_tup rfl (pgs_cons (pg_name (i := 4) sc_l_likes_spot.nd rfl (Or.inl rfl)) (pgs_cons (pg_name (i := 5) sc_l_likes_spot.nd rfl (Or.inl rfl)) pgs_nil))) (pss_one (ps_if (pt_cmpR op_in_sign (pv 5) pe_str rfl) (pss_cons (ps_if (PW.pt (pw_or (pt_cmpR op_eq (pv 2) pe_int (nomark _)) (pw_or1 (pt_val (pv 3))))) (pss_one (ps_ret (pv 4))) pss_nil)
      (pss_one (ps_par (i := 3) (j := 2) rfl sc_l_likes_spot.nd rfl rfl (by decide) rfl rfl (pa_cons (pe_and (pe_cmpR op_eq (pv 2) pe_int (nomark _)) (pe_one (pe_cmpR op_eq (pv 5) pe_str (nomark _)))) (pa_cons (pe_op op_add (pv 2) pe_int) pa_nil)) (by rfl)))) (pss_one (ps_if (PW.pt (pw_and (pt_cmpR op_gt (pv 2) pe_int (nomark _)) (pw_and1 (PW.pt (pw_or (pt_cmpR op_eq (pv 5) pe_str (nomark _)) (pw_or (PW.pt (pw_and (pt_cmpR op_eq (pv 5) pe_str (nomark _)) (pw_and1 (pt_cmpR op_eq (pv 1) pe_int (nomark _))))) (pw_or1 (PW.pt (pw_and (pt_cmpR op_eq (pv 5) pe_str (nomark _)) (pw_and1 (pt_cmpR op_eq (pv 1) pe_int (nomark _)))))))))))) (pss_one (ps_par3 (i := 1) (j := 2) (l := 3) rfl sc_l_likes_spot.nd rfl rfl rfl (by decide) (by decide) (by decide) rfl rfl rfl (pa_cons (pe_ifExp (pt_cmpR op_eq (pv 5) pe_str (nomark _)) pe_int (pe_op op_add (pv 1) pe_int)) (pa_cons pe_int (pa_cons pe_bl pa_nil))) (by rfl))) (pss_one (ps_ret (pv 4))))))))
      (pss_one (ps_ret (pe_ifExp (pt_cmpR op_gt (pv 2) pe_int (nomark _)) pe_non (pe_callB call_len (by rfl) T.m_len boot_len (pa_cons (pv 0) pa_nil))))))), ?_⟩
  · obtain ⟨_, rfl, _⟩ := h
    rfl
  · obtain ⟨l, rfl, hl, q⟩ := h
    have hlen : (l.map fun c => V.str (S [c])).length = l.length := List.length_map ..
    refine ⟨by show 3 ≤ sizeLine; rw [sizeLine_eq]; omega, fun p0 hp0 => ⟨p0, _, rfl, .of upd_same, rfl, _, _, rfl, _, _, rfl, _, _, rfl, rfl, ?_⟩⟩
    refine ⟨_, rfl, l, rfl, ?_⟩
    refine for_it En.walk_en (fun i σ H' => ∃ (p s : Nat) (z : Bool) (x4 x5 : Option V), σ = [some (.str (S l)), some (vN p), some (vN s), some (.bl z), x4, x5] ∧ Same H H' ∧ spotGo (l.drop i) i p s z = spotM l)
      ⟨0, 0, false, _, _, rfl, Same.new hp0, rfl⟩ (fun _ _ _ _ _ => trivial) (fun i x σ H3 H4 hi pv hy => ?_) fun σ H3 pv => ?_
    · obtain ⟨p, s, z, x4, x5, rfl, eH, hgo⟩ := pv
      obtain ⟨T', x, rfl, hT, rfl, hx⟩ := hy
      obtain ⟨c, hc, rfl⟩ := map_get hx
      have e4 : Same H (upd H3 T' (.tup [vN i, .str (S [c])])) := eH.trans (Same.new hT)
      have ht4 : upd H3 T' (.tup [vN i, .str (S [c])]) T' = some (.tup [vN i, .str (S [c])]) := upd_same
      generalize upd H3 T' (.tup [vN i, .str (S [c])]) = H4 at e4 ht4 ⊢
      have hdrop : l.drop i = c :: l.drop (i + 1) := by
        obtain ⟨g1, g2⟩ := List.getElem?_eq_some_iff.mp hc
        rw [List.drop_eq_getElem_cons g1, g2]
      rw [hdrop] at hgo
      unfold spotGo at hgo
      refine ⟨_, _, rfl, .of ht4, rfl, _, _, rfl, _, _, rfl, rfl, ?_⟩
      refine ⟨_, rfl, c, _, rfl, rfl, ?_⟩
      rw [mem_digits]
      have e48 : decide (V.str (S [c]) = V.str (Str.ofString "0")) = decide (c = 48) := sgn rfl
      have e44 : decide (V.str (S [c]) = V.str (Str.ofString ",")) = decide (c = 44) := sgn rfl
      have e45 : decide (V.str (S [c]) = V.str (Str.ofString "-")) = decide (c = 45) := sgn rfl
      have e58 : decide (V.str (S [c]) = V.str (Str.ofString ":")) = decide (c = 58) := sgn rfl
      have stop : ∀ {A : Prop}, (some i = spotM l) → Q (vN i) H4 := fun {A} h => by
        have := q H4 e4
        rw [← h] at this
        exact this
      refine ⟨_, rfl, ?_⟩
      by_cases hd : isDig c = true
      · rw [if_pos hd] at hgo
        refine ifT hd ?_
        refine ⟨_, rfl, rfl, _, rfl, ?_⟩
        rw [show decide (V.int (s : Int) = V.int 4) = decide (s = 4) from nmr (k := 4)]
        by_cases h4 : s = 4
        · rw [if_pos (.inl h4)] at hgo
          exact ifT (decide_eq_true h4) ⟨_, rfl, stop (A := True) hgo⟩
        · refine ifF (decide_eq_false h4) ⟨_, rfl, _, rfl, ?_⟩
          by_cases hz : z = true
          · rw [if_pos (.inr hz)] at hgo
            exact ifT hz ⟨_, rfl, stop (A := True) hgo⟩
          · rw [if_neg fun k => k.elim h4 hz] at hgo
            refine ifF (Bool.not_eq_true _ |>.mp hz) ?_
            refine ⟨_, rfl, rfl, _, rfl, ?_⟩
            rw [show decide (V.int (s : Int) = V.int 0) = decide (s = 0) from nmr (k := 0)]
            by_cases h0 : s = 0
            · rw [decide_eq_true h0, Bool.true_and] at hgo
              refine ifT (decide_eq_true h0) ⟨_, rfl, rfl, ?_⟩
              rw [e48]
              exact ⟨_, rfl, _, _, rfl, rfl, _, _, rfl, p, s + 1, decide (c = 48), some (vN i), some (.str (S [c])), rfl, e4, hgo⟩
            · rw [decide_eq_false h0, Bool.false_and] at hgo
              refine ifF (decide_eq_false h0) ?_
              exact ⟨_, rfl, _, _, rfl, rfl, _, _, rfl, p, s + 1, false, some (vN i), some (.str (S [c])), rfl, e4, hgo⟩
      · rw [if_neg hd] at hgo
        refine ifF (Bool.not_eq_true _ |>.mp hd) ?_
        refine ⟨_, rfl, _, _, rfl, rfl, _, rfl, ?_⟩
        have done : (0 < s ∧ (c = 44 ∨ (c = 45 ∧ p = 0) ∨ (c = 58 ∧ p = 1))) → tPar3 1 2 3 (tCons (tIf (tTest (tOp rEq (tVar 5) (tC (.str (Str.ofString ","))))) (tC (.int 0)) (tOp (rI0 fun i j => V.int (i + j)) (tVar 1) (tC (.int 1)))) (tCons (tC (.int 0)) (tCons (tC (.bl false)) tNil)))
            { nx := fun σ H' => ∃ (p s : Nat) (z : Bool) (x4 x5 : Option V), σ = [some (.str (S l)), some (vN p), some (vN s), some (.bl z), x4, x5] ∧ Same H H' ∧ spotGo (l.drop (i + 1)) (i + 1) p s z = spotM l, rt := Q, ct := fun σ H' => ∃ (p s : Nat) (z : Bool) (x4 x5 : Option V), σ = [some (.str (S l)), some (vN p), some (vN s), some (.bl z), x4, x5] ∧ Same H H' ∧ spotGo (l.drop (i + 1)) (i + 1) p s z = spotM l }
            [some (.str (S l)), some (vN p), some (vN s), some (.bl z), some (vN i), some (.str (S [c]))] H4 := fun hcond => by
          rw [if_pos hcond] at hgo
          refine ⟨_, rfl, rfl, _, rfl, ?_⟩
          rw [e44]
          by_cases h44 : c = 44
          · rw [if_pos h44] at hgo
            exact ifT (decide_eq_true h44) ⟨_, _, _, rfl, 0, 0, false, some (vN i), some (.str (S [c])), rfl, e4, hgo⟩
          · rw [if_neg h44] at hgo
            exact ifF (decide_eq_false h44) ⟨_, rfl, _, _, rfl, rfl, _, _, _, rfl, p + 1, 0, false, some (vN i), some (.str (S [c])), rfl, e4, hgo⟩
        have fail : ¬ (0 < s ∧ (c = 44 ∨ (c = 45 ∧ p = 0) ∨ (c = 58 ∧ p = 1))) → Q (vN i) H4 := fun hc => by
          rw [if_neg hc] at hgo
          exact stop (A := True) hgo
        by_cases h0 : 0 < s
        · refine ifT (decide_eq_true (by omega)) ?_
          refine ⟨_, rfl, rfl, _, rfl, ?_⟩
          rw [e44]
          by_cases h44 : c = 44
          · exact ifT (decide_eq_true h44) (ifT rfl (done ⟨h0, .inl h44⟩))
          refine ifF (decide_eq_false h44) ?_
          refine ⟨_, rfl, rfl, _, rfl, ?_⟩
          rw [e45]
          by_cases h45 : c = 45
          · refine ifT (decide_eq_true h45) ?_
            refine ⟨_, rfl, rfl, _, rfl, ?_⟩
            rw [show decide (V.int (p : Int) = V.int 0) = decide (p = 0) from nmr (k := 0)]
            by_cases hp : p = 0
            · rw [decide_eq_true hp]
              exact done ⟨h0, .inr (.inl ⟨h45, hp⟩)⟩
            · rw [decide_eq_false hp]
              refine ⟨_, rfl, rfl, _, rfl, ?_⟩
              rw [e58]
              refine ifF (decide_eq_false (by omega)) ⟨_, rfl, fail fun z => ?_⟩
              rcases z.2 with z | z | z
              · exact h44 z
              · exact hp z.2
              · omega
          · refine ifF (decide_eq_false h45) ?_
            refine ⟨_, rfl, rfl, _, rfl, ?_⟩
            rw [e58]
            by_cases h58 : c = 58
            · refine ifT (decide_eq_true h58) ?_
              refine ⟨_, rfl, rfl, _, rfl, ?_⟩
              rw [show decide (V.int (p : Int) = V.int 1) = decide (p = 1) from nmr (k := 1)]
              by_cases hp : p = 1
              · rw [decide_eq_true hp]
                exact done ⟨h0, .inr (.inr ⟨h58, hp⟩)⟩
              · rw [decide_eq_false hp]
                refine ⟨_, rfl, fail fun z => ?_⟩
                rcases z.2 with z | z | z
                · exact h44 z
                · exact h45 z.1
                · exact hp z.2
            · refine ifF (decide_eq_false h58) ⟨_, rfl, fail fun z => ?_⟩
              rcases z.2 with z | z | z
              · exact h44 z
              · exact h45 z.1
              · exact h58 z.1
        · refine ifF (decide_eq_false (by omega)) ⟨_, rfl, fail fun z => h0 z.1⟩
    · obtain ⟨p, s, z, x4, x5, rfl, eH, hgo⟩ := pv
      rw [hlen, List.drop_length] at hgo
      have hgo : (if 0 < s then none else some l.length) = spotM l := hgo
      have := q H3 eH
      rw [← hgo] at this
      refine ⟨_, rfl, _, _, rfl, rfl, _, rfl, ?_⟩
      by_cases h0 : 0 < s
      · rw [if_pos h0] at this
        exact ifT (decide_eq_true (by omega)) this
      · rw [if_neg h0] at this
        refine ifF (decide_eq_false (by omega)) ⟨_, rfl, _, _, rfl, ⟨sz_ok hl, rfl⟩, ?_⟩
        rw [S_len]
        exact this
end
end K28

set_option Elab.async false
set_option linter.all false
set_option maxRecDepth 100000
set_option maxHeartbeats 4000000
/-! ## rules that carry a token: a loop over split parts, a comprehension over a replaced text -/
namespace L2
namespace BT
open PySem PySem.Spec PyProof.Rows
theorem lcT_core {X : Cx} {pins : List (Addr × Obj)} {s : Shared} {σ : St} {H : Hp} {Q : VK} {elt tg iter : Expr} {ifs : List Expr} {scope : Scope} {own : List (Str × Nat)} {pos pos' : Pos} {wi : TI} {g : TG} {tt : TT} {te : TE} {use : Option (Value → Sem Unit)} {Qf : Value → Shared → Prop}
    (hc : X.calm = true) (hN : X.N.Nodup) (I : Inv X pins σ H s) (hiR : ∀ R, wi σ H R → wpAny (model X.prog X.w) X.A (eval iter X.env) (fun v s1 => wpAny (model X.prog X.w) X.A (pyIter v) (PIE X pins σ tg R) X.xe s1) X.xe s) (ok : BlkOk X.N X.env.scope scope own)
    (hg : ∀ (s : Shared) (H : Hp) (C : Addr) (cl : List (Str × Addr)) (fp : List Addr), PG (X.blk s H scope (compEnvC scope cl C X.env) fp) tg g) (ht : ∀ (s : Shared) (H : Hp) (C : Addr) (cl : List (Str × Addr)) (fp : List Addr), PTs (X.blk s H scope (compEnvC scope cl C X.env) fp) ifs tt)
    (he : ∀ (s : Shared) (H : Hp) (C : Addr) (cl : List (Str × Addr)) (fp : List Addr), PE (X.blk s H scope (compEnvC scope cl C X.env) fp) elt te) (hs : ∀ x, foldedSetIterable iter X.env x = pure x)
    (h : tLc wi g tt te (own.map (·.2)) σ H Q)
    (hRR : ∀ D C s' m H', Inv X pins σ H' s' → Q (.ref D) H' → s'.heap.Ns C m → FpOk X pins H' C → compPost (model X.prog X.w) X.A X.xe use Qf (.ref D) C (.ok .next) s') :
    wpAny (model X.prog X.w) X.A (comprehension (.ListComp elt [⟨tg, iter, ifs, 0⟩] scope pos) scope X.env pos' (newList []) false (eval iter X.env) use) Qf X.xe s := by
  have hfree : ∀ y ∈ scope.names, y.2 = .free → ∃ c, X.env.cells.lookup y.1 = some c := fun y hy e => by
    rcases ok.free y hy e with k | k
    · exact I.ok.has _ (.inl k)
    · exact I.ok.has _ (.inr k)
  refine wpAny_comprehension_free (use := use) rfl hs (closure_ok hfree) ok.kind (fun y hy e => by rw [ok.uniq y hy, e])
    (thn (hiR _ h) fun xv s1 hx => thn hx fun itv s2 h2 => ?_)
  obtain ⟨it, fp, tn, J, H2, e, I2, T, st2, f2, q⟩ := h2
  subst e
  refine wpAny_newObj_type (newEnv_comp ?_) (by show 0 ≤ sizeLine; decide)
  generalize hD : s2.heap.objs.size = D
  have hDn : H2 D = none := I2.hok.fresh (Nat.le_of_eq hD)
  obtain ⟨W, ⟨m0, w0⟩, turn⟩ := q D hDn
  -- the new list
  generalize hs3 : ({ s2 with heap := s2.heap.push { cls := .type "list", data := .seq ([] : List Value).toArray } } : Shared) = s3
  have I3 : Inv X pins σ (upd H2 D (.lst [])) s3 := by
    rw [← hs3]
    refine I2.laid (t' := s2.toks) (fun b o e => Heap.get?_push_of_some _ e) (Nat.le_of_eq hD) ⟨Nat.zero_le _, [], 0, .nil, ?_⟩
    rw [← hD]
    exact Heap.get?_push_size _ rfl
  have h3 : s3.heap = s2.heap.push { cls := .type "list", data := .seq ([] : List Value).toArray } := by rw [← hs3]
  have sz : ∀ b ∈ fp, b < s2.heap.objs.size := fun b hb => by
    obtain ⟨o, e, _⟩ := T.obj _ _ st2 b hb
    exact Heap.lt_size e
  have f3 : ∀ b ∈ fp, FpOk X pins (upd H2 D (.lst [])) b ∧ b < s3.heap.objs.size := fun b hb => by
    have hlt := sz b hb
    refine ⟨⟨?_, (f2 b hb).2⟩, by rw [h3, Heap.size_push]; exact Nat.lt_succ_of_lt hlt⟩
    rw [upd_ne (by rw [← hD]; exact Nat.ne_of_lt hlt)]
    exact (f2 b hb).1
  have st3 : tn 0 s3.heap := T.keep _ _ _ st2 fun b _ o e => by rw [h3]; exact Heap.get?_push_of_some _ e
  have I4 := block_start I3 ok hN f3
  have pg := hg s3 (upd H2 D (.lst [])) s3.heap.objs.size (cellsFrom (s3.heap.objs.size + 1) scope.names (cloFrom X.env.cells scope.names [])) fp
  have pt := ht s3 (upd H2 D (.lst [])) s3.heap.objs.size (cellsFrom (s3.heap.objs.size + 1) scope.names (cloFrom X.env.cells scope.names [])) fp
  have pe := he s3 (upd H2 D (.lst [])) s3.heap.objs.size (cellsFrom (s3.heap.objs.size + 1) scope.names (cloFrom X.env.cells scope.names [])) fp
  show codeAny _ _ (.compStart (.ListComp elt [⟨tg, iter, ifs, 0⟩] scope pos) 0 (.ref it) (.ref D) (compEnvC scope (cellsFrom (s3.heap.objs.size + 1) scope.names (cloFrom X.env.cells scope.names [])) s3.heap.objs.size X.env)) (compPost (model X.prog X.w) X.A X.xe use Qf (.ref D) s3.heap.objs.size) { s3 with heap := pushCells (s3.heap.push { cls := .type "dict", data := .dict #[] }) scope.names }
  have nfp : ∀ b ∈ fp, (upd H2 D (.lst [])) b = none := fun b hb => (f3 b hb).1.1
  generalize hce : compEnvC scope (cellsFrom (s3.heap.objs.size + 1) scope.names (cloFrom X.env.cells scope.names [])) s3.heap.objs.size X.env = ce at I4 pg pt pe ⊢
  have cL : ce.locals = s3.heap.objs.size := by subst hce; rfl
  generalize hH3 : upd H2 D (.lst []) = H3 at I3 I4 pg pt pe w0 nfp f3
  generalize hs4 : ({ s3 with heap := pushCells (s3.heap.push { cls := .type "dict", data := .dict #[] }) scope.names } : Shared) = s4 at I4 ⊢
  have st4 : tn 0 s4.heap := T.keep _ _ _ st3 fun b _ o e => by rw [← hs4]; exact pushCells_keeps _ _ _ _ (Heap.get?_push_of_some _ e)
  have stat : ∀ {σ' : St} {H' : Hp} {s' : Shared}, Inv (X.blk s3 H3 scope ce fp) [] σ' H' s' → (∀ b ∈ fp, H' b = none) → ∀ b ∈ fp, FpOk (X.blk s3 H3 scope ce fp) [] H' b := fun {σ' H' s'} I' hn b hb =>
    ⟨hn b hb, (I'.ok.exf b hb).1, I'.ok.exfs b hb, .inl hb, fun x c e => (I'.ok.exf b hb).2 x c e, fun p hp => absurd (show p ∈ ([] : List (Addr × Obj)) ++ [] from hp) (by simp)⟩
  have loop : codeAny (model X.prog X.w) X.A (.compLoop (.ListComp elt [⟨tg, iter, ifs, 0⟩] scope pos) 0 (.ref it) (.ref D) ce) (compPost (model X.prog X.w) X.A X.xe use Qf (.ref D) s3.heap.objs.size) s4 := by
    refine compLoop_any (fun n s' => ∃ i H', Inv (X.blk s3 H3 scope ce fp) [] (wipe σ (own.map (·.2))) H' s' ∧ tn i s'.heap ∧ (∀ b ∈ fp, H' b = none) ∧ W i n H') ?_ m0 ⟨0, H3, I4, st4, nfp, w0⟩
    rintro n s5 ⟨i, H5, I5, st5, n5, w5⟩
    rcases turn i n H5 w5 with ⟨stop, qq⟩ | ⟨go, Nx, hNx, step⟩
    · have td := T.done (X.blk s3 H3 scope ce fp) rfl rfl rfl hc i [] s5 _ H5 (fun _ _ => False) I5 (stat I5 n5) st5 stop
      refine thnF td fun r s6 ⟨hr, I6⟩ => ?_
      subst hr
      -- back in the def's context
      have I7 : Inv X pins σ H5 s6 := I3.call' (ch := fp) I6.os I6.base I6.hok I6.bare fun b hb => ⟨(f3 b hb).1.2.2.2.1, (f3 b hb).1.2.1, (f3 b hb).1.2.2.2.2.1, (f3 b hb).1.2.2.2.2.2⟩
      have nC : H5 s3.heap.objs.size = none := by
        have z : H5 ce.locals = none := I6.free
        rw [cL] at z
        exact z
      obtain ⟨m, hn, _⟩ := I6.loc
      have hn : s6.heap.Ns ce.locals m := hn
      rw [cL] at hn
      exact hRR D s3.heap.objs.size s6 m H5 I7 qq hn (I3.fpOk (Nat.le_refl _) nC)
    · have ti := T.item (X.blk s3 H3 scope ce fp) rfl rfl rfl hc i [] s5 _ H5 (fun _ _ => False) I5 (stat I5 n5) st5 go
      refine thnF ti fun r s6 ⟨u, hr, h6⟩ => ?_
      subst hr
      refine thnF h6 fun _ s7 ⟨x, H7, I7, r7, y7, st7, n7⟩ => ?_
      have I7' := I7.pinned (stat I7 n7) (T.obj _ _ st7)
      refine thnF (pg.run _ s7 _ H7 x u _ I7' r7 (step x H7 y7)) fun _ s8 ⟨σ8, H8, I8, hw8, q8⟩ => ?_
      refine thnF (pt.run _ s8 σ8 H8 _ I8 q8) fun b s9 ⟨H9, I9, q9⟩ => ?_
      -- the turn's end
      have fin : ∀ {s' : Shared} {H' : Hp}, Inv (X.blk s3 H3 scope ce fp) ([] ++ pinsAt fp s7.heap) σ8 H' s' → Nx H' → ∃ m, m < n ∧ ∃ i H', Inv (X.blk s3 H3 scope ce fp) [] (wipe σ (own.map (·.2))) H' s' ∧ tn i s'.heap ∧ (∀ b ∈ fp, H' b = none) ∧ W i m H' := fun {s' H'} I' nx => by
        obtain ⟨m', hm, w'⟩ := hNx H' nx
        have pin' : ∀ b ∈ fp, ∀ o, s7.heap.get? b = some o → s'.heap.get? b = some o ∧ H' b = none := fun b hb o e =>
          let z := I'.pin (b, o) (List.mem_append_right _ (List.mem_append_right _ (mem_pinsAt hb e)))
          ⟨z.1, z.2.1⟩
        have hl : (wipe σ (own.map (·.2))).length = σ8.length := by rw [← hw8, wipe_length]
        refine ⟨m', hm, i + 1, H', (I'.unpinned (pins := [])).weak hl (fun j v e => ?_), T.keep _ _ _ st7 fun b hb o e => (pin' b hb o e).1, fun b hb => ?_, w'⟩
        · rw [← hw8] at e
          exact (wipe_some e).1
        · obtain ⟨o, e, _⟩ := T.obj _ _ st7 b hb
          exact (pin' b hb o e).2
      cases b with
      | false =>
        simp only [Bool.false_eq_true, if_false] at q9 ⊢
        exact fin I9 q9
      | true =>
        simp only [if_true] at q9 ⊢
        refine thnF (pe.run _ s9 σ8 H9 _ I9 q9) fun z s10 ⟨yv, H10, I10, r10, acc, hD10, hz10, nx⟩ => ?_
        exact app_ok (X := X.blk s3 H3 scope ce fp) I10 hD10 hz10 r10 fun s11 I11 => fin I11 nx
  exact codeAny_compStart_list loop (T.self X.A 0 _ _ _ st4 loop)


theorem thnT {α : Type} {M : Model} {A : Around} {t : Sem α} {P Q : α → Shared → Prop} {E : Value → Shared → Prop} {s : Shared} {n : Nat} (hn : n ≤ s.toks) (h : wpAny M A t P E s) (f : ∀ a s', P a s' → n ≤ s'.toks → Q a s') : wpAny M A t Q E s :=
  wpAny_mono (PySem.wpAny_toks_of hn h) (fun a s' z => f a s' z.2 z.1) fun _ _ z => z.2
/-- an iterable that gives out a token -/
def PI1 (X : Cx) (tg iter : Expr) (wi : TI) : Prop :=
  ∀ (pins : List (Addr × Obj)) (s : Shared) (σ : St) (H : Hp) (R : It → Hp → Prop), Inv X pins σ H s → wi σ H R →
    wpAny (model X.prog X.w) X.A (eval iter X.env) (fun v s1 => 1 ≤ s1.toks ∧ wpAny (model X.prog X.w) X.A (pyIter v) (PIE X pins σ tg R) X.xe s1) X.xe s
abbrev tSpl (to : TE) (y : Str) : TE := tM1 (fun x xs H Q => ∃ a b, x = .str a ∧ xs = [.str b] ∧ (b.length == 0) = false ∧ a.length + 2 ≤ sizeLine ∧ rNewStrs (Txt.split a b) H Q) to (tC (.str y))
section
variable {X : Cx}
/-- for .. in e.split("sep") gives out a token -/
theorem pi1_split {tg o : Expr} {to : TE} {y : Str} {j : Nat} {c0 apos pos : Pos} (ho : PE X o to)
    (hst : starEach [.Constant (.str y) j c0] X.env = [(false, eval (.Constant (.str y) j c0) X.env)] := by rfl)
    (hbase : attributeBase o "split" X.env (eval o X.env) = eval o X.env := by rfl) (hline : (apos.endLine == pos.line) = true := by rfl) :
    PI1 X tg (.Call (.Attribute o "split" apos) [.Constant (.str y) j c0] [] pos) (iList X.K (tSpl to y)) := by
  intro pins s σ H R I h
  refine PySem.Call_method1 hbase hst hline (thn (ho.run pins s σ H _ I h) fun v s1 ⟨x, H1, I1, r1, q1⟩ => ?_)
  obtain ⟨⟨a, rfl⟩, q1⟩ := q1
  obtain ⟨t, rfl⟩ := _root_.id r1
  refine ⟨"str", _, F.plainAttrs_str, F.slot_str_split, F.type_str_split, typeIs_str _ _ _, (fun _ e => nomatch e), Calls.callWith_builtin rfl (Calls.evalArgs_plain (Calls.spliced_cons ?_))⟩
  refine Calls.Constant_str (Calls.spliced_nil ?_)
  have I2 : Inv X pins σ H1 { s1 with toks := s1.toks + 1 } := I1.tok _
  refine thnT (n := 1) (by show 1 ≤ s1.toks + 1; omega) (mt_split pins { s1 with toks := s1.toks + 1 } σ H1 _ [.str y] _ [.str y s1.toks] _ I2 r1 (.cons ⟨_, rfl⟩ .nil) q1) fun u s2 q2 hk => ⟨hk, ?_⟩
  obtain ⟨z, H2, I3, r3, a, e, ⟨xs, hq⟩, q⟩ := q2
  subst e
  cases r3
  obtain ⟨its, rv, p, hz⟩ := I3.list hq
  refine wpAny_pyIter_list p.isList ?_
  refine ⟨s2.heap.objs.size, [s2.heap.objs.size], _, _, H2, rfl, I3.kept (t' := s2.toks) fun b o e => Heap.get?_push_of_some _ e, turn_list a _, ⟨_, Heap.get?_push_size _ rfl, rfl, rfl⟩, fun b hb => ?_, q⟩
  have e : b = s2.heap.objs.size := by simpa using hb
  subst e
  exact I3.fpOk (Nat.le_refl _) (I3.hok.fresh (Nat.le_refl _))
/-- an iterable without leave to a token, where one is out -/
theorem pit_split {tg o e : Expr} {to te : TE} {apos pos : Pos} (ho : PET X o to) (he : PE X e te) (hs : starEach [e] X.env = [(false, eval e X.env)] := by rfl)
    (hbase : attributeBase o "split" X.env (eval o X.env) = eval o X.env := by rfl) (hline : (apos.endLine == pos.line) = true := by rfl) :
    PIT X tg (.Call (.Attribute o "split" apos) [e] [] pos) (iList X.K (tM1 (fun x xs H Q => ∃ a b, x = .str a ∧ xs = [.str b] ∧ (b.length == 0) = false ∧ a.length + 2 ≤ sizeLine ∧ rNewStrs (Txt.split a b) H Q) to te)) :=
  pit_list (by
    intro pins s σ H Q h0 I h
    refine PySem.Call_method1 hbase hs hline (thn (ho pins s σ H _ h0 I h) fun v s1 ⟨x, H1, I1, r1, q1⟩ => ?_)
    obtain ⟨⟨a, rfl⟩, q1⟩ := q1
    obtain ⟨t, rfl⟩ := _root_.id r1
    refine ⟨"str", _, F.plainAttrs_str, F.slot_str_split, F.type_str_split, typeIs_str _ _ _, (fun _ e => nomatch e), Calls.callWith_builtin rfl (Calls.evalArgs_plain (Calls.spliced_cons ?_))⟩
    exact thn (he.run pins s1 σ H1 _ I1 q1) fun u s2 ⟨y, H2, I2, r2, q2⟩ => Calls.spliced_nil (mt_split pins s2 σ H2 _ [y] _ [u] Q I2 r1 (.cons r2 .nil) q2))
/-- for, one token out in the body -/
theorem ps_forT {tg iter : Expr} {body : List Stmt} {wi : TI} {g : TG} {tb : TS} {pos : Pos} (hp : PassesOwn (model X.prog X.w) X.A X.env X.xe) (hc : X.calm = true) (hi : PI1 X tg iter wi) (hg : PG X tg g) (hb : PSsT X body tb)
    (hs : ∀ x, foldedSetIterable iter X.env x = pure x := by intro _; rfl) : PS X (.For tg iter body [] pos) (tFor wi g tb) := by
  refine ⟨fun pins s σ H D I h => ?_⟩
  refine wpAny_For (thn (hi pins s σ H _ I h) fun v s1 ⟨k1, h1⟩ => thnT k1 h1 fun itv s2 h2 k2 => ?_) hs
  obtain ⟨it, fp, tn, J, H2, e, I2, T, st2, f2, W, ⟨m0, w0⟩, turn⟩ := h2
  subst e
  have stat : ∀ {H' : Hp}, (∀ b ∈ fp, H' b = none) → ∀ b ∈ fp, FpOk X pins H' b := fun hn b hb => ⟨hn b hb, (f2 b hb).2⟩
  refine codeAny_forLoop_any (fun n s' => 1 ≤ s'.toks ∧ ∃ i σ' H', Inv X pins σ' H' s' ∧ tn i s'.heap ∧ (∀ b ∈ fp, H' b = none) ∧ W i n σ' H') ?_ m0 ⟨k2, 0, σ, H2, I2, st2, fun b hb => (f2 b hb).1, w0⟩
  rintro n s3 ⟨k3, i, σ3, H3, I3, st3, fr3, w3⟩
  rcases turn i n σ3 H3 w3 with ⟨stop, qn⟩ | ⟨go, N, hN, step⟩
  · refine wpAny_passesOwn hp (thn (T.done X rfl rfl rfl hc i pins s3 σ3 H3 X.xe I3 (stat fr3) st3 stop) fun r s4 ⟨hr, I4⟩ => ?_)
    subst hr
    exact wpAny_execs_nil ⟨σ3, H3, I4, qn⟩
  · refine wpAny_passesOwn hp (thnT k3 (T.item X rfl rfl rfl hc i pins s3 σ3 H3 X.xe I3 (stat fr3) st3 go) fun r s4 ⟨u, hr, h4⟩ k4 => ?_)
    subst hr
    refine wpAny_passesOwn hp (thnT k4 h4 fun _ s5 ⟨x, H5, I5, r5, y5, st5, fr5⟩ k5 => ?_)
    have I5' := I5.pinned (stat fr5) (T.obj _ _ st5)
    refine wpAny_passesOwn hp (thnT k5 (hg.run _ s5 σ3 H5 x u _ I5' r5 (step x H5 y5)) fun _ s6 ⟨σ6, H6, I6, q6⟩ k6 => ?_)
    refine wpAny_passesOwn hp (thnT k6 (hb _ s6 σ6 H6 _ k6 I6 q6) fun f s7 q7 k7 => ?_)
    have again : ∀ {σ7 : St} {H7 : Hp}, Inv X (pins ++ pinsAt fp s5.heap) σ7 H7 s7 → N σ7 H7 → ∃ m, m < n ∧ 1 ≤ s7.toks ∧ ∃ i σ' H', Inv X pins σ' H' s7 ∧ tn i s7.heap ∧ (∀ b ∈ fp, H' b = none) ∧ W i m σ' H' := fun {σ7 H7} I7 n7 => by
      obtain ⟨m', hm, w7⟩ := hN σ7 H7 n7
      refine ⟨m', hm, k7, i + 1, σ7, H7, I7.unpinned, T.keep _ _ _ st5 fun b hb o e => (I7.pin (b, o) (List.mem_append_right _ (List.mem_append_right _ (mem_pinsAt hb e)))).1, fun b hb => ?_, w7⟩
      obtain ⟨o, e, d⟩ := T.obj _ _ st5 b hb
      exact (I7.pin (b, o) (List.mem_append_right _ (List.mem_append_right _ (mem_pinsAt hb e)))).2.1
    cases f with
    | next => obtain ⟨σ7, H7, I7, n7⟩ := q7; exact again I7 n7
    | cont => obtain ⟨σ7, H7, I7, n7⟩ := q7; exact again I7 n7
    | brk => obtain ⟨σ7, H7, I7, q7⟩ := q7; exact ⟨σ7, H7, I7.unpinned, q7⟩
    | ret v => obtain ⟨x7, σ7, H7, I7, r7, q7⟩ := q7; exact ⟨x7, σ7, H7, I7.unpinned, r7, q7⟩

end
theorem pst_setLc {X : Cx} {i : Nat} {y : Str} {py : Pos} {elt tg iter : Expr} {ifs : List Expr} {scope : Scope} {own : List (Str × Nat)} {pos spos : Pos} {wi : TI} {g : TG} {tt : TT} {te : TE} (hc : X.calm = true) (hN : X.N.Nodup) (hy : X.N[i]? = some y) (hyl : X.env.scope.names.lookup y = some .local)
    (hsw : swapsWith (.ListComp elt [⟨tg, iter, ifs, 0⟩] scope pos) (some (.Name y py)) spos.line X.env = pure true) (hi : PIT X tg iter wi) (ok : BlkOk X.N X.env.scope scope own)
    (hg : ∀ (s : Shared) (H : Hp) (C : Addr) (cl : List (Str × Addr)) (fp : List Addr), PG (X.blk s H scope (compEnvC scope cl C X.env) fp) tg g) (ht : ∀ (s : Shared) (H : Hp) (C : Addr) (cl : List (Str × Addr)) (fp : List Addr), PTs (X.blk s H scope (compEnvC scope cl C X.env) fp) ifs tt)
    (he : ∀ (s : Shared) (H : Hp) (C : Addr) (cl : List (Str × Addr)) (fp : List Addr), PE (X.blk s H scope (compEnvC scope cl C X.env) fp) elt te) (hs : ∀ x, foldedSetIterable iter X.env x = pure x := by intro _; rfl) :
    PST X (.Assign [.Name y py] (.ListComp elt [⟨tg, iter, ifs, 0⟩] scope pos) spos) (tAsg (tLc wi g tt te (own.map (·.2))) (gName i)) := by
  intro pins s σ H D h0 I h
  rw [exec_Assign_Name_used _ _ _ _ hsw]
  refine wpAny_bind (wpAny_standAt (wpAny_bind ?_))
  show wpAny _ X.A (do let _ ← comprehension (.ListComp elt [⟨tg, iter, ifs, 0⟩] scope pos) scope X.env (firstIterPos [⟨tg, iter, ifs, 0⟩] pos) (newList []) false (eval iter X.env) (some (assign (.Name y py) X.env))) _ _ s
  have h : tLc wi g tt te (own.map (·.2)) σ H (fun x H1 => gName i x σ H1 D.nx) := h
  refine wpAny_bind (thn (lcT_core (Qf := fun _ s' => SP X pins D .next s') hc hN I (fun R q => hi pins s σ H R h0 I q) ok hg ht he hs h fun L C s' m H' I' q hn f => ?_) fun _ s' hq => wpAny_pure (wpAny_pure hq))
  show wpAny _ _ (assign (.Name y py) X.env (.ref L)) _ _ _
  refine wpAny_assign_Name (store_ok2 (v := V.ref L) I' hN hy (.inl hyl) rfl (fun s2 I2 ⟨a, sb, ha⟩ => ?_) (.inr hyl))
  obtain ⟨f0, f1, f2, f3, f4, f5⟩ := f
  have haC : C ≠ a := by
    rcases ha with z | z
    · rw [z]; exact f1
    · exact fun e => f4 y a z e.symm
  refine ⟨m, hn.sameBut sb haC, fun h3 sb3 => ?_⟩
  exact ⟨_, H', I2.turned (t' := s2.toks) (fun b o hb e => (sb3.2 b hb).trans e) f0 f1 f3 f4 f5, q⟩

end BT
end L2

set_option Elab.async false
set_option linter.all false
set_option maxRecDepth 100000
set_option maxHeartbeats 4000000
namespace K28
open PySem PySem.Spec PyProof.Rows L2
/-! ## texts of indices: what they are -/
def NumT (d : List Nat) : Prop := d ≠ [] ∧ d.length ≤ 4 ∧ d.all isDig = true ∧ (d.head? = some 48 → d.length = 1)
def moreR : Nat → List (List Nat) → List Nat
  | _, [] => []
  | p, b :: m => (if p = 0 then 45 else 58) :: (b ++ moreR (p + 1) m)
def entR : List (List Nat) → List Nat
  | [] => []
  | a :: m => a ++ moreR 0 m
def restR : List (List (List Nat)) → List Nat
  | [] => []
  | e :: r => 44 :: (entR e ++ restR r)
def txtR : List (List (List Nat)) → List Nat
  | [] => []
  | e :: r => entR e ++ restR r
structure EntT (e : List (List Nat)) : Prop where
  ne : e ≠ []
  le : e.length ≤ 3
  num : ∀ d ∈ e, NumT d
/-- no digit ahead -/
def NoDig (l : List Nat) : Prop := ∀ c r, l = c :: r → isDig c = false
theorem cntD_app : ∀ (n : Nat) (d rest : List Nat), d.all isDig = true → d.length ≤ n → NoDig rest → cntD n (d ++ rest) = d.length
  | 0, d, rest, _, hl, _ => by
    cases d with
    | nil => rfl
    | cons c r => simp at hl
  | n + 1, [], rest, _, _, hn => by
    cases rest with
    | nil => rfl
    | cons c r =>
      show (if isDig c = true then 1 + cntD n r else 0) = 0
      rw [hn c r rfl, if_neg (by decide)]
  | n + 1, c :: r, rest, hd, hl, hn => by
    rw [List.all_cons, Bool.and_eq_true] at hd
    show (if isDig c = true then 1 + cntD n (r ++ rest) else 0) = r.length + 1
    rw [if_pos hd.1, cntD_app n r rest hd.2 (by simp at hl; omega) hn]
    omega
theorem num1_app {d rest : List Nat} (h : NumT d) (hn : NoDig rest) : num1 (d ++ rest) = some d.length := by
  obtain ⟨ne, le, al, z⟩ := h
  cases d with
  | nil => exact absurd rfl ne
  | cons c r =>
    rw [List.all_cons, Bool.and_eq_true] at al
    show (if isDig c = true then some (if c = 48 then 1 else 1 + cntD 3 (r ++ rest)) else none) = some (r.length + 1)
    rw [if_pos al.1]
    by_cases h0 : c = 48
    · have := z (by rw [h0]; rfl)
      rw [if_pos h0]
      simp at this
      simp [this]
    · rw [if_neg h0, cntD_app 3 r rest al.2 (by simp at le; omega) hn, Nat.add_comm]
theorem cntD_get : ∀ (n : Nat) (l : List Nat), cntD n l ≤ n ∧ cntD n l ≤ l.length ∧ (l.take (cntD n l)).all isDig = true
  | 0, l => ⟨Nat.le_refl _, Nat.zero_le _, rfl⟩
  | n + 1, [] => ⟨Nat.zero_le _, Nat.le_refl _, rfl⟩
  | n + 1, c :: r => by
    unfold cntD
    split
    · rename_i hc
      obtain ⟨h1, h2, h3⟩ := cntD_get n r
      refine ⟨by omega, by simp; omega, ?_⟩
      rw [Nat.add_comm, List.take_succ_cons, List.all_cons, hc, h3]
      rfl
    · exact ⟨Nat.zero_le _, Nat.zero_le _, rfl⟩
theorem num1_get {l : List Nat} {n : Nat} (h : num1 l = some n) : NumT (l.take n) ∧ n ≤ l.length ∧ 1 ≤ n := by
  cases l with
  | nil => cases h
  | cons c r =>
    have h : (if isDig c = true then some (if c = 48 then 1 else 1 + cntD 3 r) else none) = some n := h
    by_cases hc : isDig c = true
    · rw [if_pos hc] at h
      have e := Option.some.inj h
      by_cases h0 : c = 48
      · rw [if_pos h0] at e
        subst e
        refine ⟨⟨by simp, by simp, ?_, fun _ => by simp⟩, by simp, Nat.le_refl _⟩
        rw [List.take_succ_cons, List.take_zero, List.all_cons, hc]
        rfl
      · rw [if_neg h0] at e
        obtain ⟨h1, h2, h3⟩ := cntD_get 3 r
        subst e
        rw [Nat.add_comm 1]
        refine ⟨⟨by simp, by simp; omega, ?_, fun z => ?_⟩, by simp; omega, by omega⟩
        · rw [List.take_succ_cons, List.all_cons, hc, h3]
          rfl
        · rw [List.take_succ_cons] at z
          exact absurd (Option.some.inj z) h0
    · rw [if_neg hc] at h
      cases h
def marks (p : Nat) : List Nat := if p = 0 then [45, 58] else if p = 1 then [58] else []
theorem marks_lt {p : Nat} (h : p < 2) : marks p = (if p = 0 then 45 else 58) :: marks (p + 1) := by
  match p, h with
  | 0, _ => rfl
  | 1, _ => rfl
theorem drop_cons {l : List Nat} {b c : Nat} (h : l[b]? = some c) : l.drop b = c :: l.drop (b + 1) := by
  obtain ⟨h1, h2⟩ := List.getElem?_eq_some_iff.mp h
  rw [List.drop_eq_getElem_cons h1, h2]
theorem get_of_drop {l r : List Nat} {b c : Nat} (h : l.drop b = c :: r) : l[b]? = some c ∧ l.drop (b + 1) = r := by
  constructor
  · rw [← List.head?_drop, h]
    rfl
  · rw [← List.tail_drop, h]
    rfl
theorem span_take (l : List Nat) (b n : Nat) : spanT l (b, b + n) = (l.drop b).take n := by
  unfold spanT
  show (l.drop b).take (b + n - b) = _
  rw [Nat.add_sub_cancel_left]
theorem drop_split (l : List Nat) (b n : Nat) : l.drop b = spanT l (b, b + n) ++ l.drop (b + n) := by
  rw [span_take, ← List.drop_drop, List.take_append_drop]
theorem contP_txt (l : List Nat) : ∀ (k p : Nat) (sp0 : List (Nat × Nat)) (a b : Nat) (sp : List (Nat × Nat)), p + k = 2 → b ≤ l.length → contP l (marks p) (sp0 ++ [(a, b)]) b = some sp →
    ∃ tl : List (Nat × Nat), sp = (sp0 ++ [(a, b)]) ++ tl ∧ tl.length ≤ k ∧ (∀ s ∈ tl, NumT (spanT l s)) ∧ b ≤ lastEnd sp ∧ lastEnd sp ≤ l.length ∧ l.drop b = moreR p (tl.map (spanT l)) ++ l.drop (lastEnd sp)
  | 0, p, sp0, a, b, sp, hp, hb, h => by
    obtain rfl : p = 2 := by omega
    have e := Option.some.inj h
    subst e
    refine ⟨[], by simp, Nat.le_refl _, fun s hs => absurd hs List.not_mem_nil, ?_, ?_, ?_⟩ <;> rw [lastEnd_app]
    · exact Nat.le_refl _
    · exact hb
    · rfl
  | k + 1, p, sp0, a, b, sp, hp, hb, h => by
    rw [marks_lt (by omega)] at h
    unfold contP at h
    generalize hcc : (if p = 0 then 45 else 58 : Nat) = cc at h
    split at h
    · rename_i hc
      split at h
      · cases h
      · rename_i n hn
        obtain ⟨g1, g2, g3⟩ := num1_get hn
        rw [List.length_drop] at g2
        have hlt := (List.getElem?_eq_some_iff.mp hc).1
        obtain ⟨tl, e1, e2, e3, e4, e5, e6⟩ := contP_txt l k (p + 1) (sp0 ++ [(a, b)]) (b + 1) (b + 1 + n) sp (by omega) (by omega) h
        refine ⟨(b + 1, b + 1 + n) :: tl, by rw [e1]; simp, by simp; omega, fun s hs => ?_, by omega, e5, ?_⟩
        · rcases List.mem_cons.mp hs with rfl | hs
          · rw [span_take]
            exact g1
          · exact e3 s hs
        · rw [drop_cons hc, drop_split l (b + 1) n, e6, List.map_cons]
          show _ = (if p = 0 then 45 else 58) :: (spanT l (b + 1, b + 1 + n) ++ moreR (p + 1) (tl.map (spanT l))) ++ l.drop (lastEnd sp)
          rw [hcc]
          simp
    · have e := Option.some.inj h
      subst e
      refine ⟨[], by simp, Nat.zero_le _, fun s hs => absurd hs List.not_mem_nil, ?_, ?_, ?_⟩ <;> rw [lastEnd_app]
      · exact Nat.le_refl _
      · exact hb
      · rfl
theorem entryP_txt {l : List Nat} {i : Nat} {sp : List (Nat × Nat)} (hi : i ≤ l.length) (h : entryP l i = some sp) : EntT (sp.map (spanT l)) ∧ i < lastEnd sp ∧ lastEnd sp ≤ l.length ∧ l.drop i = entR (sp.map (spanT l)) ++ l.drop (lastEnd sp) := by
  unfold entryP at h
  split at h
  · cases h
  · rename_i n hn
    obtain ⟨g1, g2, g3⟩ := num1_get hn
    rw [List.length_drop] at g2
    obtain ⟨tl, e1, e2, e3, e4, e5, e6⟩ := contP_txt l 2 0 [] i (i + n) sp rfl (by omega) h
    rw [List.nil_append] at e1
    refine ⟨⟨by rw [e1]; simp, by rw [e1]; simp; omega, fun d hd => ?_⟩, by omega, e5, ?_⟩
    · obtain ⟨s, hs, rfl⟩ := List.mem_map.mp hd
      rw [e1] at hs
      rcases List.mem_cons.mp hs with rfl | hs
      · rw [span_take]
        exact g1
      · exact e3 s hs
    · rw [drop_split l i n, e6, e1]
      show _ = spanT l (i, i + n) ++ moreR 0 (tl.map (spanT l)) ++ _
      rw [List.append_assoc]
theorem entriesP_txt {l : List Nat} : ∀ {f i : Nat} {sps : List (List (Nat × Nat))}, i ≤ l.length → entriesP l f i = some sps → ∃ es : List (List (List Nat)), es = sps.map (fun sp => sp.map (spanT l)) ∧ es ≠ [] ∧ (∀ e ∈ es, EntT e) ∧ l.drop i = txtR es
  | 0, _, _, _, h => by cases h
  | f + 1, i, sps, hi, h => by
    unfold entriesP at h
    split at h
    · cases h
    · rename_i sp hsp
      obtain ⟨g1, g2, g3, g4⟩ := entryP_txt hi hsp
      split at h
      · rename_i hend
        have e := Option.some.inj h
        subst e
        refine ⟨[sp.map (spanT l)], rfl, List.cons_ne_nil _ _, fun e he => by rw [List.mem_singleton.mp he]; exact g1, ?_⟩
        rw [g4, hend, List.drop_length]
        rfl
      · split at h
        · rename_i hc
          obtain ⟨q, hq, rfl⟩ := Option.map_eq_some_iff.mp h
          have hlt := (List.getElem?_eq_some_iff.mp hc).1
          obtain ⟨es, rfl, e2, e3, e4⟩ := entriesP_txt (by omega) hq
          refine ⟨_, rfl, List.cons_ne_nil _ _, fun e he => ?_, ?_⟩
          · rcases List.mem_cons.mp he with rfl | he
            · exact g1
            · exact e3 e he
          · rw [g4, drop_cons hc, e4]
            show _ = entR (sp.map (spanT l)) ++ restR (q.map fun sp => sp.map (spanT l))
            cases q with
            | nil => exact absurd rfl e2
            | cons s r => rfl
        · cases h
/-! ### and back -/
theorem nodig_more {p : Nat} {m : List (List Nat)} {rest : List Nat} (h : NoDig rest) : NoDig (moreR p m ++ rest) := by
  cases m with
  | nil => exact h
  | cons b m =>
    intro c r e
    have e : (if p = 0 then 45 else 58) :: (b ++ moreR (p + 1) m ++ rest) = c :: r := e
    have := (List.cons.inj e).1
    rw [← this]
    split <;> rfl
/-- nothing more comes: the end, or a comma -/
def EndT (l : List Nat) : Prop := l = [] ∨ ∃ r, l = 44 :: r
theorem EndT.nodig {l : List Nat} (h : EndT l) : NoDig l := by
  intro c r e
  rcases h with rfl | ⟨q, rfl⟩
  · cases e
  · rw [← (List.cons.inj e).1]
    rfl
theorem contP_back (l : List Nat) : ∀ (k p : Nat) (m : List (List Nat)) (rest : List Nat) (sp0 : List (Nat × Nat)) (a b : Nat), p + k = 2 → m.length ≤ k → (∀ d ∈ m, NumT d) → EndT rest → b ≤ l.length → l.drop b = moreR p m ++ rest →
    ∃ tl : List (Nat × Nat), contP l (marks p) (sp0 ++ [(a, b)]) b = some (sp0 ++ [(a, b)] ++ tl) ∧ tl.map (spanT l) = m ∧ l.drop (lastEnd (sp0 ++ [(a, b)] ++ tl)) = rest ∧ lastEnd (sp0 ++ [(a, b)] ++ tl) ≤ l.length
  | k, p, [], rest, sp0, a, b, hp, _, _, hr, hb, h => by
    have h : l.drop b = rest := h
    refine ⟨[], ?_, rfl, by rw [List.append_nil, lastEnd_app]; exact h, by rw [List.append_nil, lastEnd_app]; exact hb⟩
    rw [List.append_nil]
    cases k with
    | zero =>
      obtain rfl : p = 2 := by omega
      rfl
    | succ k =>
      rw [marks_lt (by omega)]
      unfold contP
      rw [if_neg]
      intro hc
      have := drop_cons hc
      rw [h] at this
      rcases hr with rfl | ⟨q, rfl⟩
      · cases this
      · have := (List.cons.inj this).1
        split at this <;> cases this
  | 0, p, d :: m, rest, sp0, a, b, _, hl, _, _, _, _ => by simp at hl
  | k + 1, p, d :: m, rest, sp0, a, b, hp, hl, hd, hr, hb, h => by
    have h : l.drop b = (if p = 0 then 45 else 58) :: (d ++ moreR (p + 1) m ++ rest) := h
    obtain ⟨h1, h2⟩ := get_of_drop h
    have hlt := (List.getElem?_eq_some_iff.mp h1).1
    have dn := hd d (List.mem_cons_self ..)
    have hn := num1_app dn (nodig_more (p := p + 1) (m := m) hr.nodig)
    rw [← List.append_assoc, ← h2] at hn
    have hle : d.length ≤ (l.drop (b + 1)).length := by
      rw [h2]
      simp
    rw [List.length_drop] at hle
    have hsp : spanT l (b + 1, b + 1 + d.length) = d := by
      rw [span_take, h2, List.append_assoc, List.take_left]
    have hdr : l.drop (b + 1 + d.length) = moreR (p + 1) m ++ rest := by
      rw [← List.drop_drop, h2, List.append_assoc, List.drop_left]
    obtain ⟨tl, e1, e2, e3, e4⟩ := contP_back l k (p + 1) m rest (sp0 ++ [(a, b)]) (b + 1) (b + 1 + d.length) (by omega) (by simp at hl; omega) (fun x hx => hd x (List.mem_cons_of_mem _ hx)) hr (by omega) hdr
    refine ⟨(b + 1, b + 1 + d.length) :: tl, ?_, ?_, ?_, ?_⟩
    · rw [marks_lt (by omega)]
      unfold contP
      rw [if_pos h1, hn]
      show contP l (marks (p + 1)) _ _ = _
      rw [e1]
      simp
    · rw [List.map_cons, hsp, e2]
    · rw [← e3]
      simp
    · rw [show sp0 ++ [(a, b)] ++ (b + 1, b + 1 + d.length) :: tl = sp0 ++ [(a, b)] ++ [(b + 1, b + 1 + d.length)] ++ tl by simp]
      exact e4
theorem entryP_back {l : List Nat} {i : Nat} {e : List (List Nat)} {rest : List Nat} (he : EntT e) (hr : EndT rest) (hi : i ≤ l.length) (h : l.drop i = entR e ++ rest) : ∃ sp, entryP l i = some sp ∧ sp.map (spanT l) = e ∧ l.drop (lastEnd sp) = rest ∧ lastEnd sp ≤ l.length := by
  cases e with
  | nil => exact absurd rfl he.ne
  | cons d m =>
    have h : l.drop i = d ++ moreR 0 m ++ rest := h
    have dn := he.num d (List.mem_cons_self ..)
    have hn := num1_app dn (nodig_more (p := 0) (m := m) hr.nodig)
    rw [← List.append_assoc, ← h] at hn
    have hle : d.length ≤ (l.drop i).length := by
      rw [h]
      simp
    rw [List.length_drop] at hle
    have hsp : spanT l (i, i + d.length) = d := by
      rw [span_take, h, List.append_assoc, List.take_left]
    have hdr : l.drop (i + d.length) = moreR 0 m ++ rest := by
      rw [← List.drop_drop, h, List.append_assoc, List.drop_left]
    obtain ⟨tl, e1, e2, e3, e4⟩ := contP_back l 2 0 m rest [] i (i + d.length) rfl (by have := he.le; simp at this; omega) (fun x hx => he.num x (List.mem_cons_of_mem _ hx)) hr (by omega) hdr
    refine ⟨(i, i + d.length) :: tl, ?_, by rw [List.map_cons, hsp, e2], e3, e4⟩
    unfold entryP
    rw [hn]
    exact e1
theorem entR_len {e : List (List Nat)} (he : EntT e) : 1 ≤ (entR e).length := by
  cases e with
  | nil => exact absurd rfl he.ne
  | cons d m =>
    have := (he.num d (List.mem_cons_self ..)).1
    have := List.length_pos_iff.mpr this
    show 1 ≤ (d ++ moreR 0 m).length
    rw [List.length_append]
    omega
theorem restR_end (r : List (List (List Nat))) : EndT (restR r) := by
  cases r with
  | nil => exact .inl rfl
  | cons e r => exact .inr ⟨_, rfl⟩
theorem entriesP_back {l : List Nat} : ∀ {es : List (List (List Nat))} {f i : Nat}, es ≠ [] → (∀ e ∈ es, EntT e) → es.length ≤ f → i ≤ l.length → l.drop i = txtR es → ∃ sps, entriesP l f i = some sps ∧ sps.map (fun sp => sp.map (spanT l)) = es
  | [], _, _, h, _, _, _, _ => absurd rfl h
  | e :: r, 0, _, _, _, hf, _, _ => by simp at hf
  | e :: r, f + 1, i, _, he, hf, hi, h => by
    have h : l.drop i = entR e ++ restR r := h
    obtain ⟨sp, e1, e2, e3, e4⟩ := entryP_back (he e (List.mem_cons_self ..)) (restR_end r) hi h
    cases r with
    | nil =>
      have e3 : l.drop (lastEnd sp) = [] := e3
      have e5 : lastEnd sp = l.length := by
        have := congrArg List.length e3
        rw [List.length_drop, List.length_nil] at this
        omega
      refine ⟨[sp], ?_, by rw [List.map_cons, e2, List.map_nil]⟩
      unfold entriesP
      rw [e1]
      show (if lastEnd sp = l.length then some [sp] else _) = _
      rw [if_pos e5]
    | cons e' r =>
      have e3 : l.drop (lastEnd sp) = 44 :: (entR e' ++ restR r) := e3
      obtain ⟨g1, g2⟩ := get_of_drop e3
      have hlt := (List.getElem?_eq_some_iff.mp g1).1
      obtain ⟨sps, q1, q2⟩ := entriesP_back (l := l) (es := e' :: r) (f := f) (i := lastEnd sp + 1) (List.cons_ne_nil _ _) (fun x hx => he x (List.mem_cons_of_mem _ hx)) (by simp at hf ⊢; omega) (by omega) g2
      refine ⟨sp :: sps, ?_, by rw [List.map_cons, e2, q2]⟩
      unfold entriesP
      rw [e1]
      show (if lastEnd sp = l.length then some [sp] else if l[lastEnd sp]? = some 44 then _ else none) = _
      rw [if_neg (by omega), if_pos g1, q1]
      rfl
theorem txtR_len : ∀ {es : List (List (List Nat))}, (∀ e ∈ es, EntT e) → es.length ≤ (txtR es).length
  | [], _ => Nat.le_refl _
  | [e], he => by
    have := entR_len (he e (List.mem_cons_self ..))
    show 1 ≤ (entR e ++ restR []).length
    rw [List.length_append]
    omega
  | e :: e' :: r, he => by
    have h1 := entR_len (he e (List.mem_cons_self ..))
    have h2 := txtR_len (es := e' :: r) fun x hx => he x (List.mem_cons_of_mem _ hx)
    show _ ≤ (entR e ++ 44 :: (txtR (e' :: r))).length
    rw [List.length_append, List.length_cons]
    rw [List.length_cons (as := txtR (e' :: r))]
    omega
/-- what the entries tell -/
def allE : List (List (List Nat)) → Option (List (Nat × Nat × Nat))
  | [] => some []
  | e :: r => match boundsN (e.map val) with
    | none => none
    | some b => (allE r).map (b :: ·)
def unfE (es : List (List (List Nat))) : Option (List Nat) := match allE es with
  | none => none
  | some bs => if (sortU (unionB bs)).length ≤ 60 then some (sortU (unionB bs)) else none
theorem allB_E (l : List Nat) : ∀ sps : List (List (Nat × Nat)), allB l sps = allE (sps.map fun sp => sp.map (spanT l))
  | [] => rfl
  | sp :: r => by
    have ih := allB_E l r
    unfold allB
    rw [List.map_cons]
    unfold allE
    rw [ih]
    unfold boundsP
    rw [List.map_map]
    rfl
def TxtOk (es : List (List (List Nat))) : Prop := es ≠ [] ∧ ∀ e ∈ es, EntT e
theorem unfM_txt {es : List (List (List Nat))} (h : TxtOk es) : unfM (txtR es) = unfE es := by
  obtain ⟨sps, e1, e2⟩ := entriesP_back (l := txtR es) (f := (txtR es).length + 1) (i := 0) h.1 h.2 (Nat.le_succ_of_le (txtR_len h.2)) (Nat.zero_le _) rfl
  unfold unfM
  rw [e1]
  show (match allB (txtR es) sps with | none => none | some bs => _) = _
  rw [allB_E, e2]
  rfl
theorem unfM_no {l : List Nat} (h : ¬ ∃ es, TxtOk es ∧ l = txtR es) : unfM l = none := by
  unfold unfM
  cases e : entriesP l (l.length + 1) 0 with
  | none => rfl
  | some sps =>
    obtain ⟨es, e1, e2, e3, e4⟩ := entriesP_txt (Nat.zero_le _) e
    exact absurd ⟨es, ⟨e2, e3⟩, e4⟩ h
/-! ### the law's reader sees the same texts -/
theorem spot_shape : ∀ (l : List Nat) (at_ p s : Nat) (z : Bool), p ≤ 2 → s ≤ 4 → spotGo l at_ p s z = none →
    ∃ d m es, l = d ++ (moreR p m ++ restR es) ∧ d.all isDig = true ∧ 0 < s + d.length ∧ s + d.length ≤ 4 ∧ (z = true → d = []) ∧ (s = 0 → d.head? = some 48 → d.length = 1) ∧ p + m.length ≤ 2 ∧ (∀ x ∈ m, NumT x) ∧ ∀ e ∈ es, EntT e
  | [], at_, p, s, z, hp, hs, h => by
    unfold spotGo at h
    by_cases h0 : 0 < s
    · exact ⟨[], [], [], rfl, rfl, by simpa using h0, by simpa using hs, fun _ => rfl, fun _ h => by simp at h, by simpa using hp, fun x hx => absurd hx List.not_mem_nil, fun x hx => absurd hx List.not_mem_nil⟩
    · rw [if_neg h0] at h
      cases h
  | c :: r, at_, p, s, z, hp, hs, h => by
    unfold spotGo at h
    by_cases hd : isDig c = true
    · rw [if_pos hd] at h
      by_cases hz : s = 4 ∨ z = true
      · rw [if_pos hz] at h
        cases h
      · rw [if_neg hz] at h
        obtain ⟨d, m, es, e1, e2, e3, e4, e5, e6, e7, e8, e9⟩ := spot_shape r (at_ + 1) p (s + 1) _ hp (by omega) h
        refine ⟨c :: d, m, es, by rw [e1]; rfl, by rw [List.all_cons, hd, e2]; rfl, by rw [List.length_cons]; omega, by rw [List.length_cons]; omega, fun q => absurd (.inr q) hz, fun q1 q2 => ?_, e7, e8, e9⟩
        have hc : c = 48 := Option.some.inj q2
        rw [e5 (by rw [decide_eq_true q1, decide_eq_true hc]; rfl)]
        rfl
    · rw [if_neg hd] at h
      by_cases hc : 0 < s ∧ (c = 44 ∨ (c = 45 ∧ p = 0) ∨ (c = 58 ∧ p = 1))
      · rw [if_pos hc] at h
        obtain ⟨h0, hc⟩ := hc
        by_cases h44 : c = 44
        · rw [if_pos h44] at h
          obtain ⟨d, m, es, e1, e2, e3, e4, e5, e6, e7, e8, e9⟩ := spot_shape r (at_ + 1) 0 0 false (by omega) (by omega) h
          refine ⟨[], [], (d :: m) :: es, ?_, rfl, by simpa using h0, by simpa using hs, fun _ => rfl, fun _ h => by simp at h, by simpa using hp, fun x hx => absurd hx List.not_mem_nil, fun e he => ?_⟩
          · rw [h44, e1]
            show _ = 44 :: ((d ++ moreR 0 m) ++ restR es)
            rw [List.append_assoc]
          · rcases List.mem_cons.mp he with rfl | he
            · refine ⟨List.cons_ne_nil _ _, by rw [List.length_cons]; omega, fun x hx => ?_⟩
              rcases List.mem_cons.mp hx with rfl | hx
              · exact ⟨fun z => by rw [z] at e3; simp at e3, by omega, e2, e6 rfl⟩
              · exact e8 x hx
            · exact e9 e he
        · rw [if_neg h44] at h
          have hp1 : p < 2 := by omega
          obtain ⟨d, m, es, e1, e2, e3, e4, e5, e6, e7, e8, e9⟩ := spot_shape r (at_ + 1) (p + 1) 0 false (by omega) (by omega) h
          refine ⟨[], d :: m, es, ?_, rfl, by simpa using h0, by simpa using hs, fun _ => rfl, fun _ h => by simp at h, by rw [List.length_cons]; omega, fun x hx => ?_, e9⟩
          · rw [e1]
            show _ = ((if p = 0 then 45 else 58) :: (d ++ moreR (p + 1) m)) ++ restR es
            have : c = (if p = 0 then 45 else 58) := by
              rcases hc with h | h | h
              · exact absurd h h44
              · rw [if_pos h.2, h.1]
              · rw [if_neg (by omega), h.1]
            rw [← this]
            show c :: (d ++ (moreR (p + 1) m ++ restR es)) = c :: ((d ++ moreR (p + 1) m) ++ restR es)
            rw [List.append_assoc]
          · rcases List.mem_cons.mp hx with rfl | hx
            · exact ⟨fun z => by rw [z] at e3; simp at e3, by omega, e2, e6 rfl⟩
            · exact e8 x hx
      · rw [if_neg hc] at h
        cases h
theorem shape_spot : ∀ (l : List Nat) (at_ p s : Nat) (z : Bool) (d : List Nat) (m : List (List Nat)) (es : List (List (List Nat))), l = d ++ (moreR p m ++ restR es) → d.all isDig = true → 0 < s + d.length → s + d.length ≤ 4 → (z = true → d = []) → (s = 0 → d.head? = some 48 → d.length = 1) → p + m.length ≤ 2 → (∀ x ∈ m, NumT x) → (∀ e ∈ es, EntT e) →
    spotGo l at_ p s z = none
  | [], at_, p, s, z, d, m, es, e1, e2, e3, e4, e5, e6, e7, e8, e9 => by
    have hd : d = [] := (List.append_eq_nil_iff.mp e1.symm).1
    subst hd
    unfold spotGo
    exact if_pos (by simpa using e3)
  | c :: r, at_, p, s, z, x :: d, m, es, e1, e2, e3, e4, e5, e6, e7, e8, e9 => by
    obtain ⟨rfl, e0⟩ := List.cons.inj (show c :: r = x :: (d ++ (moreR p m ++ restR es)) from e1)
    rw [List.all_cons, Bool.and_eq_true] at e2
    rw [List.length_cons] at e4
    unfold spotGo
    rw [if_pos e2.1, if_neg]
    · refine shape_spot r (at_ + 1) p (s + 1) _ d m es e0 e2.2 (by omega) (by omega) (fun q => ?_) (fun q => by omega) e7 e8 e9
      rw [Bool.and_eq_true] at q
      have := e6 (of_decide_eq_true q.1) (by rw [of_decide_eq_true q.2]; rfl)
      exact List.eq_nil_of_length_eq_zero (by rw [List.length_cons] at this; omega)
    · rintro (q | q)
      · omega
      · cases e5 q
  | c :: r, at_, p, s, z, [], x :: m, es, e1, e2, e3, e4, e5, e6, e7, e8, e9 => by
    have e1 : c :: r = (if p = 0 then 45 else 58) :: ((x ++ moreR (p + 1) m) ++ restR es) := e1
    obtain ⟨hc, e1⟩ := List.cons.inj e1
    rw [List.length_cons] at e7
    obtain ⟨g1, g2, g3, g4⟩ := e8 x (List.mem_cons_self ..)
    have hs : 0 < s := by simpa using e3
    unfold spotGo
    rw [if_neg (by rw [hc]; split <;> decide), if_pos ⟨hs, by rw [hc]; by_cases h : p = 0 <;> simp [h]; omega⟩, if_neg (by rw [hc]; split <;> decide)]
    exact shape_spot r (at_ + 1) (p + 1) 0 false x m es (by rw [e1, List.append_assoc]) g3 (by have := List.length_pos_iff.mpr g1; omega) (by omega) (fun q => by cases q) (fun _ => g4) (by omega) (fun y hy => e8 y (List.mem_cons_of_mem _ hy)) e9
  | c :: r, at_, p, s, z, [], [], e :: es, e1, e2, e3, e4, e5, e6, e7, e8, e9 => by
    have e1 : c :: r = 44 :: (entR e ++ restR es) := e1
    obtain ⟨hc, e1⟩ := List.cons.inj e1
    have he := e9 e (List.mem_cons_self ..)
    have hs : 0 < s := by simpa using e3
    unfold spotGo
    rw [if_neg (by rw [hc]; decide), if_pos ⟨hs, .inl hc⟩, if_pos hc]
    cases e with
    | nil => exact absurd rfl he.ne
    | cons x m =>
      obtain ⟨g1, g2, g3, g4⟩ := he.num x (List.mem_cons_self ..)
      have hl := he.le
      rw [List.length_cons] at hl
      refine shape_spot r (at_ + 1) 0 0 false x m es ?_ g3 (by have := List.length_pos_iff.mpr g1; omega) (by omega) (fun q => by cases q) (fun _ => g4) (by omega) (fun y hy => he.num y (List.mem_cons_of_mem _ hy)) fun y hy => e9 y (List.mem_cons_of_mem _ hy)
      rw [e1]
      show (x ++ moreR 0 m) ++ restR es = _
      rw [List.append_assoc]
  | c :: r, at_, p, s, z, [], [], [], e1, e2, e3, e4, e5, e6, e7, e8, e9 => by cases e1
theorem spot_txt {l : List Nat} (h : spotM l = none) : ∃ es, TxtOk es ∧ l = txtR es := by
  obtain ⟨d, m, es, e1, e2, e3, e4, e5, e6, e7, e8, e9⟩ := spot_shape l 0 0 0 false (by omega) (by omega) h
  refine ⟨(d :: m) :: es, ⟨List.cons_ne_nil _ _, fun e he => ?_⟩, by rw [e1]; show _ = (d ++ moreR 0 m) ++ restR es; rw [List.append_assoc]⟩
  rcases List.mem_cons.mp he with rfl | he
  · refine ⟨List.cons_ne_nil _ _, by rw [List.length_cons]; omega, fun x hx => ?_⟩
    rcases List.mem_cons.mp hx with rfl | hx
    · exact ⟨fun z => by rw [z] at e3; simp at e3, by omega, e2, e6 rfl⟩
    · exact e8 x hx
  · exact e9 e he
theorem txt_spot {es : List (List (List Nat))} (h : TxtOk es) : spotM (txtR es) = none := by
  obtain ⟨ne, he⟩ := h
  cases es with
  | nil => exact absurd rfl ne
  | cons e es =>
    have h0 := he e (List.mem_cons_self ..)
    cases e with
    | nil => exact absurd rfl h0.ne
    | cons x m =>
      obtain ⟨g1, g2, g3, g4⟩ := h0.num x (List.mem_cons_self ..)
      have hl := h0.le
      rw [List.length_cons] at hl
      exact shape_spot _ 0 0 0 false x m es (by show (x ++ moreR 0 m) ++ restR es = _; rw [List.append_assoc]) g3 (by have := List.length_pos_iff.mpr g1; omega) (by omega) (fun q => by cases q) (fun _ => g4) (by omega) (fun y hy => h0.num y (List.mem_cons_of_mem _ hy)) fun y hy => he y (List.mem_cons_of_mem _ hy)
theorem unfM_spot {l : List Nat} {k : Nat} (h : spotM l = some k) : unfM l = none := unfM_no fun ⟨es, h1, h2⟩ => by
  rw [h2, txt_spot h1] at h
  cases h
/-! ### splitting -/
theorem num_no {d : List Nat} (h : NumT d) {c : Nat} (hc : c < 48 ∨ 57 < c) : c ∉ d := fun hm => by
  have := List.all_eq_true.mp h.2.2.1 c hm
  unfold isDig at this
  rw [Bool.and_eq_true] at this
  have h1 := of_decide_eq_true this.1
  have h2 := of_decide_eq_true this.2
  omega
theorem more_no {c : Nat} (h1 : c ≠ 45) (h2 : c ≠ 58) (hc : c < 48 ∨ 57 < c) : ∀ (m : List (List Nat)) (p : Nat), (∀ d ∈ m, NumT d) → c ∉ moreR p m
  | [], _, _ => List.not_mem_nil
  | d :: m, p, h => fun hm => by
    have hm : c ∈ (if p = 0 then 45 else 58) :: (d ++ moreR (p + 1) m) := hm
    rcases List.mem_cons.mp hm with z | z
    · split at z
      · exact h1 z
      · exact h2 z
    · rcases List.mem_append.mp z with z | z
      · exact num_no (h d (List.mem_cons_self ..)) hc z
      · exact more_no h1 h2 hc m (p + 1) (fun x hx => h x (List.mem_cons_of_mem _ hx)) z
theorem ent_no {e : List (List Nat)} (he : EntT e) {c : Nat} (h1 : c ≠ 45) (h2 : c ≠ 58) (hc : c < 48 ∨ 57 < c) : c ∉ entR e := by
  cases e with
  | nil => exact List.not_mem_nil
  | cons d m =>
    intro hm
    rcases List.mem_append.mp (show c ∈ d ++ moreR 0 m from hm) with z | z
    · exact num_no (he.num d (List.mem_cons_self ..)) hc z
    · exact more_no h1 h2 hc m 0 (fun x hx => he.num x (List.mem_cons_of_mem _ hx)) z
theorem txtR_join : ∀ es : List (List (List Nat)), txtR es = TL.joinL [44] (es.map entR)
  | [] => rfl
  | [e] => by
    show entR e ++ [] = entR e
    rw [List.append_nil]
  | e :: e' :: r => by
    show entR e ++ 44 :: (txtR (e' :: r)) = entR e ++ ([44] ++ TL.joinL [44] ((e' :: r).map entR))
    rw [txtR_join (e' :: r)]
    rfl
theorem split_txt {es : List (List (List Nat))} (h : TxtOk es) : Txt.split (SX.S (txtR es)) (SX.S [44]) = es.map fun e => SX.S (entR e) := by
  rw [SX.split_S (by simp) (by decide), txtR_join, SX.spl_join (fun z => h.1 (List.map_eq_nil_iff.mp z)) fun p hp => ?_, List.map_map]
  · rfl
  · obtain ⟨e, he, rfl⟩ := List.mem_map.mp hp
    exact ent_no (h.2 e he) (by decide) (by decide) (by decide)
theorem replL_one (a b : Nat) : ∀ l : List Nat, StrLaws.replL [a] [b] l = l.map fun c => if c = a then b else c
  | [] => StrLaws.replL_nil
  | c :: r => by
    by_cases h : c = a
    · rw [StrLaws.replL_hit (by simp) (by rw [h]; rfl), List.map_cons, if_pos h]
      show [b] ++ StrLaws.replL [a] [b] r = _
      rw [replL_one a b r]
      rfl
    · rw [StrLaws.replL_miss fun z => h (by simpa using z), List.map_cons, if_neg h, replL_one a b r]
theorem repl_ent {e : List (List Nat)} (he : EntT e) : Txt.replace (SX.S (entR e)) (SX.S [45]) (SX.S [58]) = SX.S (TL.joinL [58] e) := by
  have key : (entR e).map (fun c => if c = 45 then 58 else c) = TL.joinL [58] e := by
    have hn : ∀ d ∈ e, d.map (fun c => if c = 45 then 58 else c) = d := fun d hd => by
      rw [List.map_congr_left (g := id) fun c hc => ?_, List.map_id]
      exact if_neg fun z => num_no (he.num d hd) (by decide) (z ▸ hc)
    have hl := he.le
    match e, he.ne, hn, hl with
    | [a], _, hn, _ =>
      show (a ++ []).map _ = a
      rw [List.append_nil]
      exact hn a (by simp)
    | [a, b], _, hn, _ =>
      show (a ++ 45 :: (b ++ [])).map _ = a ++ ([58] ++ b)
      rw [List.map_append, List.map_cons, List.append_nil, hn a (by simp), hn b (by simp)]
      rfl
    | [a, b, c], _, hn, _ =>
      show (a ++ 45 :: (b ++ 58 :: (c ++ []))).map _ = a ++ ([58] ++ (b ++ ([58] ++ c)))
      rw [List.map_append, List.map_cons, List.append_nil, List.map_append, List.map_cons, hn a (by simp), hn b (by simp), hn c (by simp)]
      rfl
    | _ :: _ :: _ :: _ :: _, _, _, hl => simp at hl
  have h := StrLaws.replace_list (x := SX.S (entR e)) (y := SX.S [45]) (z := SX.S [58]) (by decide)
  have h2 : (Txt.replace (SX.S (entR e)) (SX.S [45]) (SX.S [58])).cps.toList = TL.joinL [58] e := by
    rw [h, ← key]
    exact replL_one 45 58 (entR e)
  rw [← SX.S_tl (Txt.replace _ _ _), h2]
theorem split_col {e : List (List Nat)} (he : EntT e) : Txt.split (SX.S (TL.joinL [58] e)) (SX.S [58]) = e.map SX.S := by
  rw [SX.split_S (by simp) (by decide), SX.spl_join he.ne fun d hd => num_no (he.num d hd) (by decide)]

end K28

set_option Elab.async false
set_option linter.all false
set_option maxRecDepth 100000
set_option maxHeartbeats 4000000
/-! ## list(range(a, b, c)) -/
namespace L2
open PySem PySem.Spec PyProof.Rows K28
def tLstRg3 (ta : TA) : TE := fun σ H Q => ta σ H fun xs H1 => ∃ i j k : Nat, xs = [vN i, vN j, vN k] ∧ i ≤ 100000 ∧ j ≤ 100000 ∧ 1 ≤ k ∧ k ≤ 9999 ∧ ∀ q, H1 q = none → Q (.ref q) (upd H1 q (.lst ((rangeN i j k).map vN)))
theorem rangeN_get {a b c i : Nat} (h : i < (rangeN a b c).length) : (rangeN a b c)[i] = a + i * c := by
  simp [rangeN]
theorem vals_rgc {a b c n : Nat} (hn : (rangeN a b c).length = n) {acc : Array Value} (h : ItemsOf (fun i v => ∃ t, v = .int ((a : Int) + i * (c : Int)) t) acc n) : Vals ((rangeN a b c).map vN) acc.toList := by
  have e : acc.toList.length = n := by rw [Array.length_toList]; exact h.1
  have e2 : (rangeN a b c).map vN = (List.range acc.toList.length).map fun i => V.int ((a : Int) + (i : Nat) * (c : Int)) := by
    apply List.ext_getElem
    · rw [List.length_map, List.length_map, List.length_range, hn, e]
    · intro i h1 h2
      rw [List.getElem_map, List.getElem_map, List.getElem_range, rangeN_get]
      show V.int ((a + i * c : Nat) : Int) = _
      rw [Int.natCast_add, Int.natCast_mul]
  rw [e2]
  refine vals_of_get acc.toList _ fun j u hj => ?_
  obtain ⟨t, rfl⟩ := h.2 j u (by rw [← hj, Array.getElem?_toList])
  exact ⟨t, rfl⟩
section
variable {X : Cx} {a b c : Expr} {ta : TA}
theorem pe_listRg3 {p pos p' pos' : Pos} (hc : X.calm = true) (hg : Gl X "list") (hm : X.mg "list" = none) (hg' : Gl X "range") (hm' : X.mg "range" = none) (ha : PA X [a, b, c] ta)
    (hs : starEach [a, b, c] X.env = (false, eval a X.env) :: starEach [b, c] X.env := by rfl) (hpl : (backTo pos (starEach [b, c] X.env)).any (·.1) = false := by rfl)
    (na : starEach [.Call (.Name "range" p) [a, b, c] [] pos] X.env = (false, eval (.Call (.Name "range" p) [a, b, c] [] pos) X.env) :: starEach [] X.env := by rfl) :
    PE X (.Call (.Name "list" p') [.Call (.Name "range" p) [a, b, c] [] pos] [] pos') (tLstRg3 ta) := by
  refine ⟨fun pins s σ H Q I h => ?_⟩
  refine Call_ (ld_blt I hg hm boot_list (PyProof.Rows.callWith_type1 (args_cons ?_ na) na))
  refine Call_ (ld_blt I hg' hm' boot_range (PyProof.Rows.callWith_type1 (thn (ha.run pos pins s σ H _ I h) fun us s1 ⟨vs, H1, I1, r1, q1⟩ => ?_) hs hpl))
  obtain ⟨i, j, k, e, hi, hj, hk1, hk2, q⟩ := q1
  subst e
  have hr := rgc hi hj hk1 hk2
  have hlen := rangeN_len i j k
  obtain ⟨c0, c1, c2, c3⟩ := hr
  cases r1 with
  | cons r rr =>
    cases rr with
    | cons r' rr =>
      cases rr with
      | cons r'' rr =>
        cases rr
        obtain ⟨t, rfl⟩ := r
        obtain ⟨t', rfl⟩ := r'
        obtain ⟨t'', rfl⟩ := r''
        refine call_range_3 c0 ?_ (.inl (PyProof.noPylong_small c1))
        have I2 : Inv X pins σ H1 { s1 with heap := s1.heap.push { cls := .type "range", data := .fields #[.int (i : Int) t, .int (j : Int) t', .int (k : Int) t''] } } := I1.kept (t' := s1.toks) fun b o e => Heap.get?_push_of_some _ e
        refine args_nil ?_
        have hz : (if i < j then (j - i - 1) / k + 1 else 0) ≤ 100001 := by
          split
          · have := Nat.div_le_self (j - i - 1) k
            omega
          · omega
        refine call_list_range (I2.ok.hd hc) (IsRange.new ..) c2 c3 (by omega) fun h' tk acc c' hk e' hi => ?_
        refine ⟨.ref _, upd H1 _ (.lst ((rangeN i j k).map vN)), I2.laid hk (Nat.le_refl _) (show ObjOk X.prog X.w _ _ _ (.lst _) from ⟨?_, acc.toList, c', vals_rgc hlen hi, ?_⟩), rfl, q _ (I2.hok.fresh (Nat.le_refl _))⟩
        · rw [List.length_map, hlen, sizeLine_eq]; omega
        · rw [Array.toArray_toList]; exact e'
end
end L2

set_option Elab.async false
set_option linter.all false
set_option maxRecDepth 100000
set_option maxHeartbeats 4000000
namespace K28
namespace Tb
open PySem PySem.Spec PyProof.Rows L2
/-! ## The round of i -> 5 i + 1 modulo any power of two -/
def fiv : Nat → Nat
  | 0 => 0
  | n + 1 => fiv n * 5 + 1
theorem fiv_add (b : Nat) : ∀ a, fiv (a + b) = fiv b * 5 ^ a + fiv a
  | 0 => by simp [fiv]
  | a + 1 => by
    rw [Nat.succ_add]
    show fiv (a + b) * 5 + 1 = fiv b * 5 ^ (a + 1) + (fiv a * 5 + 1)
    rw [fiv_add b a, Nat.pow_succ, Nat.add_mul, Nat.mul_assoc, Nat.add_assoc]
theorem fiv_pow : ∀ a, 5 ^ a = 4 * fiv a + 1
  | 0 => rfl
  | a + 1 => by
    show 5 ^ a * 5 = 4 * (fiv a * 5 + 1) + 1
    rw [fiv_pow a]
    omega
theorem odd_mul {a b : Nat} (ha : ∃ q, a = 2 * q + 1) (hb : ∃ q, b = 2 * q + 1) : ∃ q, a * b = 2 * q + 1 := by
  obtain ⟨p, rfl⟩ := ha
  obtain ⟨q, rfl⟩ := hb
  refine ⟨p * (2 * q + 1) + q, ?_⟩
  rw [Nat.add_mul, Nat.one_mul, Nat.mul_add 2, Nat.mul_assoc]
  omega
theorem fiv_two : ∀ k, ∃ q, fiv (2 ^ k) = 2 ^ k * (2 * q + 1)
  | 0 => ⟨0, rfl⟩
  | k + 1 => by
    obtain ⟨q, e⟩ := fiv_two k
    have h : fiv (2 ^ (k + 1)) = fiv (2 ^ k) * 2 * (2 * fiv (2 ^ k) + 1) := by
      rw [Nat.pow_succ, show 2 ^ k * 2 = 2 ^ k + 2 ^ k by omega, fiv_add, fiv_pow]
      rw [show fiv (2 ^ k) * (4 * fiv (2 ^ k) + 1) + fiv (2 ^ k) = fiv (2 ^ k) * (4 * fiv (2 ^ k) + 1 + 1) from (Nat.mul_succ _ _).symm, Nat.mul_assoc]
      exact congrArg _ (by omega)
    obtain ⟨r, er⟩ := odd_mul (a := 2 * q + 1) (b := 2 * fiv (2 ^ k) + 1) ⟨q, rfl⟩ ⟨_, rfl⟩
    refine ⟨r, ?_⟩
    rw [h, ← er]
    conv => lhs; rw [show fiv (2 ^ k) * 2 = 2 ^ (k + 1) * (2 * q + 1) by rw [e, Nat.pow_succ, Nat.mul_right_comm]]
    rw [Nat.mul_assoc]
theorem pow_odd (b : Nat) : ∃ q, 5 ^ b = 2 * q + 1 := ⟨2 * fiv b, by rw [fiv_pow]; omega⟩
/-- each rest is met -/
theorem fiv_all : ∀ k j, j < 2 ^ k → ∃ b, b < 2 ^ k ∧ fiv b % 2 ^ k = j
  | 0, j, h => ⟨0, by decide, by
    have : j = 0 := by simpa using h
    rw [this]
    rfl⟩
  | k + 1, j, h => by
    have hp : 0 < 2 ^ k := Nat.pow_pos (by decide)
    have h2 : 2 ^ (k + 1) = 2 ^ k * 2 := Nat.pow_succ ..
    obtain ⟨b, hb, e⟩ := fiv_all k (j % 2 ^ k) (Nat.mod_lt _ hp)
    have hj : j = j % 2 ^ k + 2 ^ k * (j / 2 ^ k) := (Nat.mod_add_div ..).symm
    have hv : j / 2 ^ k < 2 := Nat.div_lt_of_lt_mul (by rw [← h2]; exact h)
    have h1 : fiv b % 2 ^ (k + 1) = j % 2 ^ k + 2 ^ k * (fiv b / 2 ^ k % 2) := by rw [h2, Nat.mod_mul, e]
    by_cases c : fiv b / 2 ^ k % 2 = j / 2 ^ k
    · exact ⟨b, by omega, by rw [h1, c, ← hj]⟩
    · obtain ⟨q, eq⟩ := fiv_two k
      obtain ⟨r, er⟩ := odd_mul (a := 2 * q + 1) (b := 5 ^ b) ⟨q, rfl⟩ (pow_odd b)
      have e3 : fiv (b + 2 ^ k) = fiv b + 2 ^ k * (2 * r + 1) := by
        rw [fiv_add, eq, Nat.mul_assoc, er, Nat.add_comm]
      refine ⟨b + 2 ^ k, by omega, ?_⟩
      rw [h2, Nat.mod_mul, e3, Nat.add_mul_mod_self_left, e, Nat.add_mul_div_left _ _ hp]
      have : (fiv b / 2 ^ k + (2 * r + 1)) % 2 = j / 2 ^ k := by
        clear hj h1 e3 hp er eq e h
        generalize fiv b / 2 ^ k = u at c ⊢
        generalize j / 2 ^ k = v at c hv ⊢
        omega
      rw [this, ← hj]
theorem lcg_fiv {k m : Nat} (hm : m + 1 = 2 ^ k) : ∀ b, lcgN m b = fiv b % (m + 1)
  | 0 => by
    show 0 = 0 % (m + 1)
    rw [Nat.zero_mod]
  | b + 1 => by
    show (lcgN m b * 5 + 1) % (m + 1) = (fiv b * 5 + 1) % (m + 1)
    rw [lcg_fiv hm b, Nat.add_mod, Nat.mod_mul_mod, ← Nat.add_mod]
/-- a mask: 2^k - 1 -/
def Mask (m : Nat) : Prop := ∃ k, m + 1 = 2 ^ (k + 1)
theorem Mask.odd {m : Nat} (h : Mask m) : m % 2 = 1 := by
  obtain ⟨k, e⟩ := h
  rw [Nat.pow_succ] at e
  omega
theorem lcg_met {m : Nat} (hm : Mask m) {i j : Nat} (hi : i ≤ m) (hj : j ≤ m) : ∃ k, k ≤ m ∧ lcgI m i k = j := by
  obtain ⟨k, e⟩ := hm
  obtain ⟨a, ha, ea⟩ := fiv_all (k + 1) i (by omega)
  obtain ⟨b, hb, eb⟩ := fiv_all (k + 1) j (by omega)
  rw [← e] at ha hb ea eb
  have per : ∀ c, fiv (m + 1 + c) % (m + 1) = fiv c % (m + 1) := fun c => by
    obtain ⟨q, eq⟩ := fiv_two (k + 1)
    rw [Nat.add_comm (m + 1) c, fiv_add, e, eq, Nat.mul_assoc, Nat.add_comm, Nat.add_mul_mod_self_left]
  have hi' : lcgN m a = i := by rw [lcg_fiv e, ea]
  rw [← hi']
  rcases Nat.lt_or_ge b a with c | c
  · refine ⟨b + (m + 1) - a, by omega, ?_⟩
    rw [lcgN_add, show a + (b + (m + 1) - a) = m + 1 + b by omega, lcg_fiv e, per, eb]
  · refine ⟨b - a, by omega, ?_⟩
    rw [lcgN_add, show a + (b - a) = b by omega, lcg_fiv e, eb]
/-! ## The way of a search -/
theorem runs_met {m : Nat} (hm : Mask m) (h : Int) {j : Nat} (hj : j ≤ m) : ∃ n, n ≤ m + 12 ∧ runI m (SetTable.bits h) n = j := by
  obtain ⟨k, hk, e⟩ := lcg_met hm (runI_le m (SetTable.bits h) 12) hj
  refine ⟨12 + k, by omega, ?_⟩
  rw [runI_tail (bits_lt h), e]
theorem slots_met {m : Nat} (hm : Mask m) (h : Int) {j : Nat} (hj : j ≤ m) : ∃ k, k < 10 * SetTable.turns m ∧ way m h k = j := by
  obtain ⟨n, hn, e⟩ := runs_met hm h hj
  obtain ⟨k, hk, e2⟩ := run_nth m (SetTable.bits h) n
  refine ⟨k, by unfold SetTable.turns; omega, ?_⟩
  show (nth m (runAt m (SetTable.bits h % (m + 1)) (SetTable.bits h)) k).j = j
  rw [e2]
  exact e
theorem way_in {m : Nat} {h : Int} {k : Nat} : way m h k ≤ m := by
  have hi : SetTable.bits h % (m + 1) ≤ m := Nat.le_of_lt_succ (Nat.mod_lt _ (Nat.succ_pos _))
  have r := runEnd_bd hi
  have q := nth_in (m := m) k (runAt m (SetTable.bits h % (m + 1)) (SetTable.bits h)) (by
    show SetTable.bits h % (m + 1) + (SetTable.runEnd m (SetTable.bits h % (m + 1)) - SetTable.bits h % (m + 1)) ≤ m
    omega)
  exact Nat.le_trans (Nat.le_add_right _ _) q
/-! ## A table without dummies -/
theorem slot_or {t : SetTable} (hd : t.dummies = #[]) (j : Nat) : (t.slot j = .empty ∧ t.place[SetTable.below t.place j]? ≠ some j) ∨ ∃ i, i < t.place.size ∧ t.place[i]? = some j ∧ t.slot j = .live i := by
  unfold SetTable.slot
  by_cases c : (t.place[SetTable.below t.place j]? == some j) = true
  · refine .inr ⟨SetTable.below t.place j, ?_, beq_iff_eq.mp c, ?_⟩
    · exact (Array.getElem?_eq_some_iff.mp (beq_iff_eq.mp c)).1
    · simp only [c]
      rfl
  · refine .inl ⟨?_, fun z => c (beq_iff_eq.mpr z)⟩
    rw [hd, L2.has_none]
    simp only [c]
    rfl
/-- what a search meets: an empty slot, or an entry of that hash -/
def MetOk (t : SetTable) (hashAt : Nat → Int) (h : Int) (r : Option SetTable.Met) : Prop := (∃ j, r = some (.empty j none) ∧ t.place[SetTable.below t.place j]? ≠ some j) ∨ ∃ j i nx, r = some (.candidate j i nx) ∧ i < t.place.size ∧ hashAt i = h
theorem go_met {t : SetTable} (hd : t.dummies = #[]) (hashAt : Nat → Int) (h : Int) : ∀ (f n : Nat) (p : SetTable.Probe), p.dummy = none → n < f → (nth t.mask p n).j ∉ t.place.toList → MetOk t hashAt h (SetTable.probe.go t hashAt h f p)
  | 0, n, _, _, hn, _ => absurd hn (Nat.not_lt_zero _)
  | f + 1, n, p, hp, hn, hne => by
    unfold SetTable.probe.go
    rcases slot_or hd p.j with ⟨e, ne⟩ | ⟨i, hi, he, e⟩
    · rw [e]
      exact .inl ⟨p.j, by rw [← hp], ne⟩
    · rw [e]
      dsimp only
      by_cases c : (hashAt i == h) = true
      · rw [if_pos c]
        exact .inr ⟨p.j, i, _, rfl, hi, beq_iff_eq.mp c⟩
      · rw [if_neg c]
        cases n with
        | zero => exact absurd (List.mem_of_getElem? (by rw [Array.getElem?_toList]; exact he)) hne
        | succ n =>
          refine go_met hd hashAt h f n (t.advance p) ?_ (by omega) ?_
          · rw [adv_eq]
            unfold adv
            split <;> exact hp
          · rw [adv_eq]
            exact hne
theorem probe_met {t : SetTable} (hd : t.dummies = #[]) (hm : Mask t.mask) (hs : t.place.size ≤ t.mask) (hashAt : Nat → Int) (h : Int) : MetOk t hashAt h (t.probe hashAt h (t.probeStart h)) := by
  obtain ⟨j, hj, hne⟩ := st_missing t.place.toList (t.mask + 1) (by rw [Array.length_toList]; omega)
  obtain ⟨n, hn, e⟩ := slots_met hm h (Nat.le_of_lt_succ hj)
  unfold SetTable.probe
  rw [start_run]
  refine go_met hd hashAt h _ n _ rfl hn ?_
  rw [show (nth t.mask (runAt t.mask (SetTable.bits h % (t.mask + 1)) (SetTable.bits h)) n).j = j from e]
  exact hne
theorem free_met {t : SetTable} (hd : t.dummies = #[]) (hm : Mask t.mask) (hs : t.place.size ≤ t.mask) (h : Int) : ∃ j, t.freeSlot h = some (j, false) := by
  unfold SetTable.freeSlot
  rcases probe_met hd hm hs (fun _ => h + 1) h with ⟨j, e, _⟩ | ⟨j, i, nx, e, _, z⟩
  · exact ⟨j, by rw [e]; rfl⟩
  · exact absurd z (show h + 1 ≠ h by omega)
/-- one put in -/
theorem put_ok {t : SetTable} (hd : t.dummies = #[]) (j : Nat) : (t.put j).1.mask = t.mask ∧ (t.put j).1.dummies = #[] ∧ (t.put j).1.place.size = t.place.size + 1 ∧ (t.put j).1.plain = t.plain ∧ (t.put j).1.led = t.led := by
  refine ⟨rfl, put_dm hd j, ?_, rfl, rfl⟩
  show (SetTable.insertAt t.place (SetTable.below t.place j) j).size = _
  have := (SetTable.insertAt_perm t.place (SetTable.below t.place j) j).length_eq
  rw [Array.length_toList, Array.length_toList, Array.size_push] at this
  exact this
/-! ## Laying anew -/
theorem free_one {m : Nat} (hm : Mask m) (owner : Array (Option Nat)) (h : Int) {j : Nat} (hj : j ≤ m) (hf : oAt owner j = none) :
    ∃ i, SetTable.layClean.free m owner (SetTable.turns m) (SetTable.bits h % (m + 1)) (SetTable.bits h) = some i ∧ oAt owner i = none ∧ i ≤ m := by
  obtain ⟨n, hn, e⟩ := runs_met hm h hj
  have hw : way m h (off m (SetTable.bits h % (m + 1)) (SetTable.bits h) n) = j := by
    show (nth m (runAt m (SetTable.bits h % (m + 1)) (SetTable.bits h)) (off m (SetTable.bits h % (m + 1)) (SetTable.bits h) n)).j = j
    rw [nth_off, itL_run]
    exact e
  obtain ⟨K, k1, k2, k3⟩ := st_least (p := fun k => oAt owner (way m h k) = none) (off m (SetTable.bits h % (m + 1)) (SetTable.bits h) n) (by
    show oAt owner (way m h (off m (SetTable.bits h % (m + 1)) (SetTable.bits h) n)) = none
    rw [hw]
    exact hf)
  refine ⟨way m h K, free_spec m owner (SetTable.turns m) n _ _ K (by unfold SetTable.turns; omega) k1 (fun k hk => ?_) ?_, k2, way_in⟩
  · have q := k3 k hk
    show (oAt owner (way m h k)).isNone = false
    cases z : oAt owner (way m h k) with
    | none => exact absurd z q
    | some _ => rfl
  · show (oAt owner (way m h K)).isNone = true
    rw [k2]
    rfl
theorem set_some : ∀ (l : List (Option Nat)) (j k : Nat), l[j]? = some none → ((l.set j (some k)).filterMap id).Perm (k :: l.filterMap id)
  | [], j, k, h => by simp at h
  | x :: l, 0, k, h => by
    have hx : x = none := by simpa using h
    subst hx
    exact List.Perm.refl _
  | x :: l, j + 1, k, h => by
    have ih := set_some l j k (by simpa using h)
    cases x with
    | none => exact ih
    | some y => exact (ih.cons y).trans (List.Perm.swap k y _)
theorem none_in : ∀ (l : List (Option Nat)), (l.filterMap id).length < l.length → ∃ j : Nat, l[j]? = some none
  | [], h => by simp at h
  | none :: l, _ => ⟨0, rfl⟩
  | some y :: l, h => by
    obtain ⟨j, e⟩ := none_in l (by simpa using h)
    exact ⟨j + 1, e⟩
/-- who sits where, n of them so far -/
structure Owns (m n : Nat) (owner : Array (Option Nat)) : Prop where
  sz : owner.size = m + 1
  pm : (owner.toList.filterMap id).Perm (List.range n)
theorem Owns.step {m n : Nat} {owner : Array (Option Nat)} (W : Owns m n owner) (hm : Mask m) (hn : n ≤ m) (h : Int) : ∃ j, SetTable.layClean.free m owner (SetTable.turns m) (SetTable.bits h % (m + 1)) (SetTable.bits h) = some j ∧ Owns m (n + 1) (owner.setIfInBounds j (some n)) := by
  have hl : (owner.toList.filterMap id).length = n := by rw [W.pm.length_eq, List.length_range]
  obtain ⟨j0, e0⟩ := none_in owner.toList (by rw [hl, Array.length_toList, W.sz]; omega)
  have hj0 : j0 < owner.size := by
    have := (List.getElem?_eq_some_iff.mp e0).1
    rwa [Array.length_toList] at this
  have at0 : ∀ j, j < owner.size → (oAt owner j = none ↔ owner.toList[j]? = some none) := fun j hj => by
    rw [Array.getElem?_toList]
    unfold oAt
    rw [Array.getD_eq_getD_getElem?, Array.getElem?_eq_getElem hj]
    simp
  obtain ⟨j, e, h1, h2⟩ := free_one hm owner h (j := j0) (by have := W.sz; omega) ((at0 j0 hj0).mpr e0)
  have hj : j < owner.size := by rw [W.sz]; omega
  refine ⟨j, e, by rw [Array.size_setIfInBounds]; exact W.sz, ?_⟩
  rw [Array.toList_setIfInBounds]
  refine (set_some _ j n ((at0 j hj).mp h1)).trans ?_
  rw [List.range_succ]
  exact (W.pm.cons n).trans (List.perm_append_singleton n _).symm
theorem fold_own {m : Nat} (hm : Mask m) : ∀ (hs : List Int) (n : Nat) (owner : Array (Option Nat)), Owns m n owner → n + hs.length ≤ m + 1 →
    ∃ owner', hs.foldl (stepF m) (some (owner, n)) = some (owner', n + hs.length) ∧ Owns m (n + hs.length) owner'
  | [], n, owner, W, _ => ⟨owner, rfl, W⟩
  | h :: hs, n, owner, W, hl => by
    rw [List.length_cons] at hl
    obtain ⟨j, e, W'⟩ := W.step hm (by omega) h
    obtain ⟨owner', f, W2⟩ := fold_own hm hs (n + 1) _ W' (by omega)
    have ea : n + 1 + hs.length = n + (h :: hs).length := by rw [List.length_cons]; omega
    rw [ea] at f W2
    exact ⟨owner', by rw [List.foldl_cons, stepF_some e]; exact f, W2⟩
theorem Owns.init (m : Nat) : Owns m 0 (Array.replicate (m + 1) none) where
  sz := by simp
  pm := by
    rw [Array.toList_replicate]
    have : ∀ n : Nat, (List.replicate n (none : Option Nat)).filterMap id = [] := fun n => by
      induction n with
      | zero => rfl
      | succ n ih => exact ih
    rw [this]
    exact List.Perm.refl _
theorem live_snd (m : Nat) (owner : Array (Option Nat)) (hs : owner.size = m + 1) : (liveOf m owner).map (·.2) = owner.toList.filterMap id := by
  unfold liveOf
  rw [List.map_filterMap]
  have h1 : (fun x => Option.map (fun x : Nat × Nat => x.snd) (Option.map (fun x_1 => (x, x_1)) (owner.getD x none))) = fun j => owner.getD j none := funext fun j => by
    cases owner.getD j none <;> rfl
  rw [h1]
  have h2 : (List.range (m + 1)).map (fun j => owner.getD j none) = owner.toList := by
    refine List.ext_getElem (by rw [List.length_map, List.length_range, Array.length_toList, hs]) fun i h3 h4 => ?_
    rw [List.getElem_map, List.getElem_range, Array.getElem_toList]
    rw [Array.length_toList] at h4
    rw [Array.getD_eq_getD_getElem?, Array.getElem?_eq_getElem h4]
    rfl
  rw [← h2, List.filterMap_map]
  rfl
/-- the table laid anew -/
theorem relaid_met (t : SetTable) {hs : Array Int} {wanted : Nat} (hM : Mask (SetTable.sizeAbove wanted - 1)) (hn : hs.size ≤ SetTable.sizeAbove wanted - 1 + 1) :
    ∃ t' order, t.relaid hs wanted = some (t', order) ∧ order.toList.Perm (List.range hs.size) ∧ t'.mask = SetTable.sizeAbove wanted - 1 ∧ t'.place.size = hs.size ∧ t'.dummies = #[] ∧ t'.led = t.led ∧ t'.plain = t.plain ∧ Ris t'.place.toList := by
  obtain ⟨owner, f, W⟩ := fold_own hM hs.toList 0 _ (Owns.init _) (by rw [Array.length_toList, Nat.zero_add]; exact hn)
  rw [Nat.zero_add, Array.length_toList] at W f
  have e : SetTable.layClean (SetTable.sizeAbove wanted - 1) hs = some owner := by
    rw [layClean_eq, f]
    rfl
  have hp : ((liveOf (SetTable.sizeAbove wanted - 1) owner).map (·.2)).Perm (List.range hs.size) := by
    rw [live_snd _ _ W.sz]
    exact W.pm
  refine ⟨tabOf t (SetTable.sizeAbove wanted - 1) owner, ((liveOf (SetTable.sizeAbove wanted - 1) owner).map (·.2)).toArray, by rw [relaid_eq, e]; rfl, hp, rfl, ?_, rfl, rfl, rfl, ?_⟩
  · show ((liveOf (SetTable.sizeAbove wanted - 1) owner).map (·.1)).toArray.size = hs.size
    have := hp.length_eq
    rw [List.length_map, List.length_range] at this
    rw [List.size_toArray, List.length_map, this]
  · exact (ris_live (fun j => owner.getD j none) (List.range (SetTable.sizeAbove wanted - 1 + 1)) (by
      unfold Ris
      first | exact List.pairwise_lt_range | exact List.pairwise_lt_range _)).1
/-- the entries in the new order -/
theorem reord {α : Type} (es : Array α) {order : Array Nat} (h : order.toList.Perm (List.range es.size)) : (order.filterMap (es[·]?)).toList.Perm es.toList := by
  rw [Array.toList_filterMap]
  have := h.filterMap (fun i => es[i]?)
  rw [filterMap_getElem?_range] at this
  exact this
/-! ## The size of a new table -/
theorem size_go : ∀ (f k n : Nat), n < 2 ^ (k + f) → ∃ j, SetTable.sizeAbove.go n f (2 ^ k) = 2 ^ j ∧ k ≤ j ∧ n < 2 ^ j ∧ (2 ^ j = 2 ^ k ∨ 2 ^ j ≤ 2 * n)
  | 0, k, n, h => ⟨k, rfl, Nat.le_refl _, h, .inl rfl⟩
  | f + 1, k, n, h => by
    unfold SetTable.sizeAbove.go
    by_cases c : 2 ^ k ≤ n
    · rw [if_pos c, ← Nat.pow_succ]
      obtain ⟨j, e, h1, h2, h3⟩ := size_go f (k + 1) n (by rw [show k + 1 + f = k + (f + 1) by omega]; exact h)
      refine ⟨j, e, by omega, h2, .inr ?_⟩
      rcases h3 with h3 | h3
      · rw [h3, Nat.pow_succ]
        omega
      · exact h3
    · rw [if_neg c]
      exact ⟨k, rfl, Nat.le_refl _, by omega, .inl rfl⟩
theorem size_above {n : Nat} (h : n < 2 ^ 60) : Mask (SetTable.sizeAbove n - 1) ∧ n < SetTable.sizeAbove n ∧ (SetTable.sizeAbove n ≤ 8 ∨ SetTable.sizeAbove n ≤ 2 * n) := by
  obtain ⟨j, e, h1, h2, h3⟩ := size_go 64 3 n (Nat.lt_of_lt_of_le h (Nat.pow_le_pow_right (by decide) (by decide)))
  have e' : SetTable.sizeAbove n = 2 ^ j := e
  have hp : 0 < 2 ^ j := Nat.pow_pos (by decide)
  rw [e']
  refine ⟨⟨j - 1, ?_⟩, h2, ?_⟩
  · rw [show j - 1 + 1 = j by omega]
    omega
  · rcases h3 with h3 | h3
    · exact .inl (by rw [h3]; decide)
    · exact .inr h3
end Tb
end K28

set_option Elab.async false
set_option linter.all false
set_option maxRecDepth 100000
set_option maxHeartbeats 4000000
namespace K28
namespace Tb
open PySem PySem.Spec PyProof.Rows L2
/-! ## A set of small numbers -/
theorem hash_n {n : Nat} (h : n ≤ 9999) : hashInt (n : Int) = n := by
  have h1 : rawHash (n : Int) = n := by
    have h2 : (((n : Int).natAbs : Int) % ((2 ^ 61 - 1 : Nat) : Int)) = n := by
      rw [Int.natAbs_natCast]
      exact Int.emod_eq_of_lt (by omega) (by have : ((2 ^ 61 - 1 : Nat) : Int) = 2305843009213693951 := rfl; omega)
    unfold rawHash
    simp only [h2]
    have h3 : ¬ ((n : Int) < 0) := by omega
    rw [if_neg h3, if_neg (by rw [beq_iff_eq]; omega)]
  unfold hashInt
  rw [h1, if_neg (by rw [beq_iff_eq]; omega)]
/-- an entry -/
def EnOk (e : Int × Value) : Prop := ∃ (n : Nat) (tk : Tok), n ≤ 9999 ∧ e = (hashInt n, .int n tk)
def enN (e : Int × Value) : Nat := match e.2 with
  | .int i _ => i.toNat
  | _ => 0
theorem enN_of (n : Nat) (tk : Tok) (h : Int) : enN (h, .int n tk) = n := rfl
structure SetN (w : World) (h : Heap) (a : Addr) (es : Array (Int × Value)) (ep : Nat) (t : SetTable) : Prop where
  ob : ∃ o, h.get? a = some o ∧ o.ExactSet ∧ o.data = .set es ep t
  el : ∀ e ∈ es.toList, EnOk e
  plain : t.plain = true
  led : w.params.followText "set-order" = true ∨ t.led = true
  dm : t.dummies = #[]
  msk : Mask t.mask
  sz : t.place.size = es.size
  room : es.size * 5 < t.mask * 3
  ris : Ris t.place.toList
section
variable {P : Program} {w : World} {A : Around} {E : Value → Shared → Prop} {s : Shared} {a : Addr} {es : Array (Int × Value)} {ep : Nat} {t : SetTable}
theorem fits_n {t : SetTable} {n : Nat} (hd : t.dummies = #[]) (h : t.place.size = n) (hm : n ≤ t.mask) : t.fits n = true := by
  unfold SetTable.fits SetTable.fill
  rw [hd, Bool.and_eq_true, beq_iff_eq, decide_eq_true_eq]
  refine ⟨h, ?_⟩
  show t.place.size + 0 ≤ t.mask
  omega
theorem SetN.fits (R : SetN w s.heap a es ep t) : t.fits es.size = true := fits_n R.dm R.sz (by have := R.room; omega)
theorem SetN.gw (R : SetN w s.heap a es ep t) : ¬ t.gaveWay = true := by
  unfold SetTable.gaveWay
  rw [R.msk.odd]
  decide
theorem els_of {l : List (Int × Value)} (h : ∀ e ∈ l, EnOk e) : ElemsOf (intKind P w) l := fun e he => by
  obtain ⟨n, tk, _, rfl⟩ := h e he
  exact ⟨⟨(n : Int), by show Value.isInt (n : Int) (.int n tk) = true; simp [Value.isInt], rfl⟩, rfl⟩
theorem ins_size {α : Type} (xs : Array α) (p : Nat) (x : α) : (SetTable.insertAt xs p x).size = xs.size + 1 := by
  have q := (SetTable.insertAt_perm xs p x).length_eq
  rw [Array.length_toList, Array.length_toList, Array.size_push] at q
  exact q
theorem ins_perm {α : Type} (xs : Array α) (p : Nat) (x : α) : (SetTable.insertAt xs p x).toList.Perm (x :: xs.toList) := by
  have q := SetTable.insertAt_perm xs p x
  rw [Array.toList_push] at q
  exact q.trans (List.perm_append_singleton x _)
/-- no int is asked anything -/
theorem seen_ints {n : Int} {tk : Tok} {ys : List Value} (hy : ∀ y ∈ ys, ∃ i u, y = Value.int i u) {Q : Bool → Shared → Prop} (h : Q false s) : wpAny (model P w) A (searchCouldBeSeen (.int n tk) ys) Q E s := by
  unfold searchCouldBeSeen
  refine wpAny_bind ?_
  refine wpAny_forIn_list _ (fun rest r s' => r.1 = none ∧ s' = s ∧ ∀ y ∈ rest, ∃ i u, y = Value.int i u) _ ?_ ?_ _ _ ⟨rfl, rfl, hy⟩
  · rintro v rest r s' ⟨hr, rfl, hall⟩
    obtain ⟨i, u, rfl⟩ := hall v List.mem_cons_self
    exact wpAny_pure ⟨rfl, rfl, fun y hy' => hall y (List.mem_cons_of_mem _ hy')⟩
  · rintro ⟨r1, r2⟩ s' ⟨hr, rfl, _⟩
    simp only at hr
    subst hr
    exact wpAny_pure h
/-- the search, by the table -/
theorem search_n (R : SetN w s.heap a es ep t) {n : Nat} {tk : Tok} (hn : n ≤ 9999) {Q : SetFound → Shared → Prop} (hin : n ∈ es.toList.map enN → Q (.there none) s) (hout : ∀ j, t.place[SetTable.below t.place j]? ≠ some j → Q (.free j false) s) :
    wpAny (model P w) A (setSearch a (.int n tk) (hashInt n) true) Q E s := by
  obtain ⟨o, ho, hex, hd⟩ := R.ob
  unfold setSearch
  rw [show (100000 : Nat) = 99999 + 1 from rfl, setSearchFrom_succ]
  refine wpAny_bind (wpAny_setState_of ho hd R.fits ?_)
  dsimp only
  refine wp_if_neg R.gw ?_
  try refine wpAny_bind (wpAny_pure ?_)
  rcases probe_met R.dm R.msk (by have := R.sz; have := R.room; omega) (fun i => (es[i]?.map (·.1)).getD 0) (hashInt n) with ⟨j, e, ne⟩ | ⟨j, i, nx, e, hi, hh⟩
  · rw [show (none : Option SetTable.Probe).getD (t.probeStart (hashInt (n : Int))) = t.probeStart (hashInt (n : Int)) from rfl, e]
    dsimp only
    exact wpAny_pure (hout j ne)
  · rw [show (none : Option SetTable.Probe).getD (t.probeStart (hashInt (n : Int))) = t.probeStart (hashInt (n : Int)) from rfl, e]
    dsimp only
    have hi2 : i < es.size := by rw [← R.sz]; exact hi
    have hg : es[i]? = some es[i] := Array.getElem?_eq_getElem hi2
    have hmem : es[i] ∈ es.toList := by rw [Array.mem_toList_iff]; exact Array.getElem_mem hi2
    generalize es[i] = en at hg hmem
    obtain ⟨m, tm, hm, rfl⟩ := R.el en hmem
    have hmn : m = n := by
      have h1 : ((es[i]?).map (·.1)).getD 0 = hashInt (n : Int) := hh
      rw [hg] at h1
      have h2 : hashInt (m : Int) = hashInt (n : Int) := h1
      rw [hash_n hm, hash_n hn] at h2
      exact Int.ofNat.inj h2
    subst hmn
    have rest : wpAny (model P w) A (searchRest a (.int m tk) (hashInt m) true 99999 es t j i nx) Q E s := by
      unfold searchRest
      rw [hg]
      dsimp only
      refine wpAny_bind (wpAny_holding (wpAny_eqBool_int ?_))
      refine wpAny_bind (wpAny_setState_of ho hd R.fits ?_)
      dsimp only
      refine wp_if_pos (by simp) ?_
      exact wpAny_pure (hin (List.mem_map.mpr ⟨_, hmem, rfl⟩))
    by_cases hl : t.led = true
    · refine wp_if_neg (by simp [hl]) ?_
      try refine wpAny_bind (wpAny_pure ?_)
      exact rest
    · refine wp_if_pos (by simp [hl]) ?_
      refine wpAny_bind (seen_ints (fun y hy => ?_) ?_)
      · obtain ⟨e1, he1, rfl⟩ := List.mem_map.mp hy
        have he2 : e1 ∈ es ∧ e1.1 = hashInt (m : Int) := by simpa using he1
        obtain ⟨n2, t2, _, e3⟩ := R.el e1 (by rw [Array.mem_toList_iff]; exact he2.1)
        exact ⟨n2, t2, by rw [e3]⟩
      · refine wp_if_neg (by decide) ?_
        try refine wpAny_bind (wpAny_pure ?_)
        exact rest
end
end Tb
end K28

set_option Elab.async false
set_option linter.all false
set_option maxRecDepth 100000
set_option maxHeartbeats 4000000
namespace K28
namespace Tb
open PySem PySem.Spec PyProof.Rows L2
theorem size_le {n K : Nat} (h : n < 2 ^ K) (h3 : 3 ≤ K) (h60 : K ≤ 60) : SetTable.sizeAbove n ≤ 2 ^ K := by
  obtain ⟨j, e, h1, h2, h4⟩ := size_go 64 3 n (Nat.lt_of_lt_of_le h (Nat.pow_le_pow_right (by decide) (by omega)))
  have e' : SetTable.sizeAbove n = 2 ^ j := e
  rw [e']
  rcases h4 with h4 | h4
  · rw [h4]
    exact Nat.pow_le_pow_right (by decide) h3
  · refine Nat.pow_le_pow_right (by decide) (Nat.le_of_lt_succ ?_)
    refine (Nat.pow_lt_pow_iff_right (a := 2) (by decide)).mp ?_
    rw [Nat.pow_succ]
    omega
/-- what adding leaves -/
def AddN (n : Nat) (es es' : Array (Int × Value)) : Prop := (n ∈ es.toList.map enN ∧ es'.toList.Perm es.toList) ∨ ∃ tk, es'.toList.Perm ((hashInt n, .int n tk) :: es.toList) ∧ (es.size < 4096 → n ∉ es.toList.map enN)
theorem Mask.pos {m : Nat} (h : Mask m) : 1 ≤ m := by
  obtain ⟨k, e⟩ := h
  have : 0 < 2 ^ k := Nat.pow_pos (by decide)
  rw [Nat.pow_succ] at e
  omega
section
variable {P : Program} {w : World} {A : Around} {E : Value → Shared → Prop} {s : Shared} {a : Addr} {es : Array (Int × Value)} {ep : Nat} {t : SetTable}
theorem grown_ok {n : Nat} (h1 : 1 ≤ n) (h : n ≤ 8000000) : 2 * n ≤ SetTable.grown n ∧ SetTable.grown n < 2 ^ 24 := by
  unfold SetTable.grown
  split <;> omega
/-- a table that is too full, laid anew -/
theorem anew (hd : t.dummies = #[]) (hp : t.plain = true) (h1 : 1 ≤ es.size) (hl : es.size ≤ 8000000) :
    ∃ t' order, t.relaid (es.map (·.1)) (SetTable.grown es.size) = some (t', order) ∧ order.toList.Perm (List.range es.size) ∧ (order.filterMap (es[·]?)).toList.Perm es.toList ∧ (order.filterMap (es[·]?)).size = es.size ∧
      t'.dummies = #[] ∧ Mask t'.mask ∧ t'.place.size = es.size ∧ es.size * 5 < t'.mask * 3 ∧ t'.led = t.led ∧ t'.plain = true ∧ Ris t'.place.toList := by
  obtain ⟨g1, g2⟩ := grown_ok h1 hl
  obtain ⟨s1, s2, s3⟩ := size_above (n := SetTable.grown es.size) (Nat.lt_trans g2 (by decide))
  obtain ⟨t', order, e, pm, em, ez, ed, el, ep, er⟩ := relaid_met t (hs := es.map (·.1)) (wanted := SetTable.grown es.size) s1 (by rw [Array.size_map]; omega)
  rw [Array.size_map] at pm ez
  have hr := reord es pm
  refine ⟨t', order, e, pm, hr, ?_, ed, by rw [em]; exact s1, ez, by rw [em]; omega, el, by rw [ep]; exact hp, er⟩
  have := hr.length_eq
  rwa [Array.length_toList, Array.length_toList] at this
theorem relay_n {o : Obj} (ho : s.heap.get? a = some o) (hex : o.ExactSet) (hd : o.data = .set es ep t) (hel : ∀ e ∈ es.toList, EnOk e) (pl : t.plain = true) (ld : w.params.followText "set-order" = true ∨ t.led = true)
    (hdm : t.dummies = #[]) (hsz : t.place.size = es.size) (hfl : es.size ≤ t.mask) (h1 : 1 ≤ es.size) (hl : es.size ≤ 8000000) {Q : Unit → Shared → Prop}
    (hQ : ∀ h' es' ep' t', Heap.SameBut a s.heap h' → SetN w h' a es' ep' t' → es'.toList.Perm es.toList → Q () { s with heap := h' }) : wpAny (model P w) A (setRelay a (SetTable.grown es.size)) Q E s := by
  obtain ⟨t', order, e, pm, hr, hz, ed, em, ez, er, el, ep2, eris⟩ := anew (t := t) hdm pl h1 hl
  have g2 := (grown_ok h1 hl).2
  have hsl : sizeLine = 2 ^ 24 := sizeLine_eq
  rw [setRelay_eq]
  refine wpAny_bind (wpAny_setState_of ho hd (fits_n hdm hsz hfl) ?_)
  dsimp only
  refine wp_if_neg (by rw [hsl]; exact Nat.not_lt.mpr (size_le g2 (by decide) (by decide))) ?_
  try refine wpAny_bind (wpAny_pure ?_)
  rw [e]
  dsimp only
  refine wpAny_bind ?_
  refine wp_if_neg (by rw [hz]; simp) ?_
  try refine wpAny_bind (wpAny_pure ?_)
  refine wpAny_pure ?_
  dsimp only
  refine wpAny_storeSet_of ho hd ?_ (by rw [hz, sizeLine_eq]; omega)
  have sb : Heap.SameBut a s.heap (s.heap.update a (Obj.putSet (order.filterMap (es[·]?)) t')) := Heap.SameBut.update ..
  refine hQ _ (order.filterMap (es[·]?)) (ep + 1) t' sb ⟨⟨_, store_at ho hd, ⟨hex.1, hex.2.1, hex.2.2⟩, rfl⟩, fun x hx => hel x (hr.mem_iff.mp hx), ep2, by rw [el]; exact ld, ed, em, by rw [ez, hz], by rw [hz]; exact er, eris⟩ hr
theorem relayAll_n (hd : t.dummies = #[]) (hp : t.plain = true) (h1 : 1 ≤ es.size) (hl : es.size ≤ 8000000) :
    ∃ es' t', relayAll t es (SetTable.grown es.size) = (es', t', false) ∧ es'.toList.Perm es.toList ∧ es'.size = es.size ∧ t'.dummies = #[] ∧ Mask t'.mask ∧ t'.place.size = es.size ∧ es.size * 5 < t'.mask * 3 ∧ t'.led = t.led ∧ t'.plain = true ∧ Ris t'.place.toList := by
  obtain ⟨t', order, e, pm, hr, hz, ed, em, ez, er, el, ep2, eris⟩ := anew (t := t) hd hp h1 hl
  refine ⟨order.filterMap (es[·]?), t', ?_, hr, hz, ed, em, ez, er, el, ep2, eris⟩
  unfold relayAll
  rw [e]
  dsimp only
  have c1 : coversAll order es.size = true := List.isPerm_iff.mpr pm
  have c2 : t'.fits (order.filterMap (es[·]?)).size = true := fits_n ed (by rw [ez, hz]) (by rw [hz]; omega)
  rw [c1, c2]
  rfl
theorem layNew_n {h : Int} {x : Value} {j : Nat} (e : t.freeSlot h = some (j, false)) (hd : t.dummies = #[]) (hs : t.place.size = es.size) (hf : es.size + 1 ≤ t.mask) :
    layNew t es h x = (SetTable.insertAt es (t.put j).2 (h, x), (t.put j).1, false, false) := by
  obtain ⟨p1, p2, p3, p4, p5⟩ := put_ok hd j
  have f : (t.put j).1.fits (SetTable.insertAt es (t.put j).2 (h, x)).size = true := fits_n p2 (by rw [p3, ins_size, hs]) (by rw [ins_size, p1]; exact hf)
  unfold layNew
  rw [e]
  dsimp only
  unfold SetTable.orStandIn
  rw [f]
  rfl
/-- ADDING -/
theorem add_n (R : SetN w s.heap a es ep t) {n : Nat} {tk : Tok} (hn : n ≤ 9999) (hlim : es.size + 1 ≤ 8000000) {Q : Bool → Shared → Prop}
    (hQ : ∀ b h' es' ep' t', Heap.SameBut a s.heap h' → SetN w h' a es' ep' t' → AddN n es es' → Q b { s with heap := h' }) :
    wpAny (model P w) A (setAddHashed a (.int n tk) (hashInt n)) Q E s := by
  obtain ⟨o, ho, hex, hd⟩ := R.ob
  have hroom := R.room
  have hsz := R.sz
  have hmp := R.msk.pos
  have slq : sizeLine = 16777216 := sizeLine_eq
  -- behind the new entry
  have key : ∀ (j : Nat) (ne : t.place[SetTable.below t.place j]? ≠ some j) (c : es.size < 4096 → n ∉ es.toList.map enN), (SetN w (s.heap.update a (Obj.putSet (SetTable.insertAt es (t.put j).2 (hashInt n, .int n tk)) (t.put j).1)) a (SetTable.insertAt es (t.put j).2 (hashInt n, .int n tk)) (ep + 1) (t.put j).1 ∨ (t.put j).1.tooFull = true) ∧
      AddN n es (SetTable.insertAt es (t.put j).2 (hashInt n, .int n tk)) ∧ ∀ e ∈ (SetTable.insertAt es (t.put j).2 (hashInt n, Value.int n tk)).toList, EnOk e := fun j ne c => by
    obtain ⟨p1, p2, p3, p4, p5⟩ := put_ok R.dm j
    have pm := ins_perm es (t.put j).2 ((hashInt n, Value.int n tk) : Int × Value)
    have hel : ∀ e ∈ (SetTable.insertAt es (t.put j).2 (hashInt n, Value.int n tk)).toList, EnOk e := fun e he => by
      rcases List.mem_cons.mp (pm.mem_iff.mp he) with z | z
      · exact ⟨n, tk, hn, z⟩
      · exact R.el e z
    refine ⟨?_, .inr ⟨tk, pm, c⟩, hel⟩
    by_cases hf : (t.put j).1.tooFull = true
    · exact .inr hf
    · refine .inl ⟨⟨_, store_at ho hd, ⟨hex.1, hex.2.1, hex.2.2⟩, rfl⟩, hel, by rw [p4]; exact R.plain, by rw [p5]; exact R.led, p2, by rw [p1]; exact R.msk, by rw [p3, ins_size, hsz], ?_, ris_insert R.ris ne⟩
      unfold SetTable.tooFull SetTable.fill at hf
      rw [decide_eq_true_eq, p2, p3, hsz] at hf
      rw [ins_size]
      have h0 : (#[] : Array Nat).size = 0 := rfl
      omega
  unfold setAddHashed
  refine wpAny_holding ?_
  rw [show (100000 : Nat) = 99999 + 1 from rfl, setAddHashedIn_succ]
  refine wpAny_bind (wpAny_setState_of ho hd R.fits ?_)
  dsimp only
  by_cases hb : es.size < scanBound
  · refine wp_if_pos (byScan_of rfl hb (els_of (P := P) (w := w) R.el)) ?_
    refine wpAny_bind ?_
    unfold setAddByScan
    refine wpAny_bind (wpAny_rule ?_)
    refine wpAny_bind (wpAny_setScan_of (knd := intKind P w) (k := (n : Int)) (by show Value.isInt (n : Int) (.int n tk) = true; simp [Value.isInt]) ho hd R.fits (els_of R.el) ?_)
    cases hr : List.findIdx? (fun e => (intKind P w).is (n : Int) e.2) es.toList with
    | some i =>
      dsimp only
      obtain ⟨hj, hpj, _⟩ := List.findIdx?_eq_some_iff_getElem.mp hr
      refine wpAny_pure (wpAny_pure (hQ false s.heap es ep t (Heap.SameBut.refl a s.heap) R (.inl ⟨?_, List.Perm.refl _⟩)))
      have hm := List.getElem_mem hj
      generalize es.toList[i] = en at hpj hm
      obtain ⟨m, tm, _, rfl⟩ := R.el en hm
      have e1 : (m : Int) = n := by
        have z : Value.isInt (n : Int) (.int m tm) = true := hpj
        simpa [Value.isInt] using z
      have e2 : m = n := Int.ofNat.inj e1
      rw [← e2]
      exact List.mem_map.mpr ⟨_, hm, rfl⟩
    | none =>
      dsimp only
      have habs : n ∉ es.toList.map enN := fun hm => by
        obtain ⟨en, h1, h2⟩ := List.mem_map.mp hm
        have z := List.findIdx?_eq_none_iff.mp hr en h1
        obtain ⟨m, tm, _, rfl⟩ := R.el en h1
        have e2 : m = n := h2
        rw [e2] at z
        have z2 : Value.isInt (n : Int) (.int n tm) = false := z
        simp [Value.isInt] at z2
      obtain ⟨j, ej⟩ := free_met R.dm R.msk (by omega) (hashInt n)
      obtain ⟨p1, p2, p3, p4, p5⟩ := put_ok R.dm j
      obtain ⟨k1, k2, k3⟩ := key j (free_slot ej) fun _ => habs
      have hfull1 : es.size + 1 ≤ t.mask := by omega
      rw [layNew_n ej R.dm hsz hfull1]
      dsimp only
      generalize hes1 : SetTable.insertAt es (t.put j).2 ((hashInt n, Value.int n tk) : Int × Value) = es1 at k1 k2 k3 ⊢
      have hes : es1.size = es.size + 1 := by rw [← hes1, ins_size]
      generalize ht1 : (t.put j).1 = t1 at p1 p2 p3 p4 p5 k1 ⊢
      refine wpAny_bind (show wpAny _ _ (pure ()) _ _ _ from wpAny_pure ?_)
      have hp1 : t1.plain = true := by rw [p4]; exact R.plain
      first
        | (refine wpAny_bind ?_; refine wp_if_pos hp1 ?_; rw [hashBy_int]; refine wpAny_pure ?_)
        | (refine wp_if_pos hp1 (wpAny_bind ?_); rw [hashBy_int]; refine wpAny_pure ?_)
      simp only [if_true]
      refine wpAny_bind (wpAny_storeSet_of ho hd ?_ (by rw [hes]; omega))
      have sb : Heap.SameBut a s.heap (s.heap.update a (Obj.putSet es1 t1)) := Heap.SameBut.update ..
      have ho1 := store_at (es' := es1) (t' := t1) ho hd
      generalize s.heap.update a (Obj.putSet es1 t1) = h1 at sb ho1 k1 ⊢
      by_cases hf : t1.tooFull = true
      · refine wp_if_pos (by simp [hf]) ?_
        obtain ⟨es2, t2, er, pm2, z2, d2, m2, pz2, rm2, l2, pl2, ris2⟩ := relayAll_n (es := es1) (t := t1) p2 hp1 (by omega) (by omega)
        rw [er]
        dsimp only
        refine wpAny_bind (show wpAny _ _ (pure ()) _ _ _ from wpAny_pure ?_)
        refine wpAny_bind (wpAny_storeSet_of ho1 rfl ?_ (by rw [z2, hes]; omega))
        refine wpAny_pure ?_
        dsimp only
        refine wpAny_pure (hQ true _ es2 _ t2 (sb.trans (Heap.SameBut.update ..)) ⟨⟨_, store_at ho1 rfl, ⟨hex.1, hex.2.1, hex.2.2⟩, rfl⟩, fun x hx => k3 x (pm2.mem_iff.mp hx), pl2, by rw [l2, p5]; exact R.led, d2, m2, by rw [pz2, z2], by rw [z2]; exact rm2, ris2⟩ ?_)
        rcases k2 with ⟨y1, y2⟩ | ⟨tk2, y1, y2⟩
        · exact .inl ⟨y1, pm2.trans y2⟩
        · exact .inr ⟨tk2, pm2.trans y1, y2⟩
      · refine wp_if_neg (by simp [hf]) ?_
        refine wpAny_pure ?_
        dsimp only
        rcases k1 with k1 | k1
        · exact wpAny_pure (hQ true h1 es1 (ep + 1) t1 sb k1 k2)
        · exact absurd k1 hf
  · refine wp_if_neg (by simp [byScan, hb]) ?_
    try refine wpAny_bind (wpAny_pure ?_)
    have hbig : ¬ es.size < 4096 := hb
    refine wpAny_bind (search_n R hn (fun hm => ?_) fun j ne => ?_)
    · dsimp only
      exact wpAny_pure (hQ false s.heap es ep t (Heap.SameBut.refl a s.heap) R (.inl ⟨hm, List.Perm.refl _⟩))
    · dsimp only
      refine wpAny_bind (wpAny_setState_of ho hd R.fits ?_)
      dsimp only
      obtain ⟨p1, p2, p3, p4, p5⟩ := put_ok R.dm j
      obtain ⟨k1, k2, k3⟩ := key j ne fun z => absurd z hbig
      have hp1 : (t.put j).1.plain = true := by rw [p4]; exact R.plain
      generalize hpt : t.put j = pt at p1 p2 p3 p4 p5 k1 k2 k3 hp1 ⊢
      obtain ⟨t1, p⟩ := pt
      dsimp only at p1 p2 p3 p4 p5 k1 k2 k3 hp1 ⊢
      first
        | (refine wpAny_bind ?_; refine wp_if_pos hp1 ?_; rw [hashBy_int]; refine wpAny_pure ?_)
        | (refine wp_if_pos hp1 (wpAny_bind ?_); rw [hashBy_int]; refine wpAny_pure ?_)
      simp only [if_true]
      have hes : (SetTable.insertAt es p ((hashInt n, Value.int n tk) : Int × Value)).size = es.size + 1 := ins_size ..
      generalize SetTable.insertAt es p ((hashInt n, Value.int n tk) : Int × Value) = es1 at k1 k2 k3 hes ⊢
      refine wpAny_bind (wpAny_storeSet_of ho hd ?_ (by rw [hes]; omega))
      have sb : Heap.SameBut a s.heap (s.heap.update a (Obj.putSet es1 t1)) := Heap.SameBut.update ..
      have ho1 := store_at (es' := es1) (t' := t1) ho hd
      generalize s.heap.update a (Obj.putSet es1 t1) = h1 at sb ho1 k1 ⊢
      by_cases hf : t1.tooFull = true
      · first
          | (refine wpAny_bind ?_; refine wp_if_pos (by simp [hf]) ?_)
          | (refine wp_if_pos (by simp [hf]) ?_; refine wpAny_bind ?_)
        rw [← hes]
        refine relay_n (s := { s with heap := h1 }) ho1 ⟨hex.1, hex.2.1, hex.2.2⟩ rfl k3 hp1 (by rw [p5]; exact R.led) p2 (by rw [p3, hes, hsz]) (by rw [hes, p1]; omega) (by omega) (by omega) fun h2 es2 ep2 t2 sb2 R2 pm2 => ?_
        refine wpAny_pure (hQ true h2 es2 ep2 t2 (sb.trans sb2) R2 ?_)
        rcases k2 with ⟨y1, y2⟩ | ⟨tk2, y1, y2⟩
        · exact .inl ⟨y1, pm2.trans y2⟩
        · exact .inr ⟨tk2, pm2.trans y1, y2⟩
      · first
          | refine wp_if_neg (by simp [hf]) ?_
          | (refine wpAny_bind ?_; refine wp_if_neg (by simp [hf]) ?_; refine wpAny_pure ?_)
        rcases k1 with k1 | k1
        · exact wpAny_pure (hQ true h1 es1 (ep + 1) t1 sb k1 k2)
        · exact absurd k1 hf
end
end Tb
end K28

set_option Elab.async false
set_option linter.all false
set_option maxRecDepth 100000
set_option maxHeartbeats 4000000
namespace K28
namespace Tb
open PySem PySem.Spec PyProof.Rows L2
/-! ## The members, in some order -/
section
variable {P : Program} {w : World} {A : Around} {E : Value → Shared → Prop} {s : Shared} {a : Addr} {es : Array (Int × Value)} {ep : Nat} {t : SetTable}
theorem iter_n {Q : Value → Shared → Prop} (R : SetN w s.heap a es ep t) (hQ : ∀ s2 I, SetIt P w s a es s2 I → Q (.ref I) s2) : wpAny (model P w) A (pyIter (.ref a)) Q E s := by
  obtain ⟨o, ho, hex, hd⟩ := R.ob
  have hc := hex.1
  have ha : SetAt s.heap a es ep t := ⟨o, ho, hc, hd⟩
  have hf := R.fits
  have isS : s.TypeIs (.ref a) "set" := ⟨o, ho, hc⟩
  have old : a < s.heap.objs.size := Heap.lt_size ho
  have ne : a ≠ s.heap.objs.size := Nat.ne_of_lt old
  have hdr : (!t.plain && decide (es.size > 1)) = false := by rw [R.plain]; rfl
  refine wpAny_pyIter_slot isS F.slot_set_iter (wpAny_call_entry F.slot_set_iter isS entry_s_iter ?_ (F.args_set_iter_1 _))
  unfold Builtin.«frozenset.__iter__»
  refine wpAny_bind (m := Builtin.Frozenset.slot0 "__iter__" _) (wpAny_of_eq (a := a) (by rfl) ?_)
  refine wpAny_bind (m := Builtin.Frozenset.sizeOf a) ?_
  unfold Builtin.Frozenset.sizeOf
  refine wpAny_bind (wpAny_setEntries_of ho hd hf (wpAny_pure ?_))
  first | refine wpAny_bind (setDrawn_at ha hf ?_) | refine wpAny_bind (wpAny_bind (setDrawn_at ha hf ?_))
  cases hb : w.params.followText "set-order" with
  | true =>
    refine wp_if_neg (by simp) ?_
    first | refine wpAny_bind (wpAny_pure ?_) | refine wpAny_pure ?_
    refine wpAny_bind (wpAny_setEpoch_of ho hd hf ?_)
    refine wpAny_bind (wpAny_newObj_type (wpAny_pure ⟨_, rfl, "set_iterator", _, ⟨_, Heap.get?_push_size _ rfl, rfl⟩, slot_si_next.lookup, ?_⟩))
    refine hQ _ _ (SetIt.of (fun A' hA' => walks_text (P := P) (ep := ep) hA' ne hf hb) (by rw [List.length_map, Array.length_toList]) (fun b u e => Heap.get?_push_of_some _ e) rfl rfl rfl (Nat.le_refl _) (fun b hb' => ?_)
      ((pick_perm (w.params.setOrder a ep) es).map _) (fun j v q => ?_) ⟨⟨_, Heap.get?_push_size _ rfl, rfl, rfl⟩, ha.at fun u e => Heap.get?_push_of_some _ e⟩)
    · rcases List.mem_cons.mp hb' with z | z
      · exact .inr (Nat.le_of_eq z.symm)
      · exact .inl (List.mem_singleton.mp z)
    · rw [List.getElem?_map, Array.getElem?_toList]
      exact q
  | false =>
    have hled : t.led = true := R.led.resolve_left (by rw [hb]; exact Bool.false_ne_true)
    refine wp_if_neg (by rw [hdr]; simp) ?_
    first | refine wpAny_bind (wpAny_pure ?_) | refine wpAny_pure ?_
    refine wpAny_bind (wpAny_setEpoch_of ho hd hf ?_)
    refine wpAny_bind (wpAny_newObj_type (wpAny_pure ⟨_, rfl, "set_iterator", _, ⟨_, Heap.get?_push_size _ rfl, rfl⟩, slot_si_next.lookup, ?_⟩))
    refine hQ _ _ (SetIt.of (fun A' hA' => walks_led (P := P) (ep := ep) hA' ne hf R.ris hb hdr hled) (by rw [List.length_map, Array.length_toList]) (fun b u e => Heap.get?_push_of_some _ e) rfl rfl rfl (Nat.le_refl _) (fun b hb' => ?_)
      (List.Perm.refl _) (fun j v q => ?_) ⟨⟨_, Heap.get?_push_size _ rfl, rfl, rfl⟩, ha.at fun u e => Heap.get?_push_of_some _ e⟩)
    · rcases List.mem_cons.mp hb' with z | z
      · exact .inr (Nat.le_of_eq z.symm)
      · exact .inl (List.mem_singleton.mp z)
    · rw [List.getElem?_map, Array.getElem?_toList]
      exact q
/-- .. gathered into a list -/
theorem collect_n {Q : List Value → Shared → Prop} (hh : A.handled = none) (R : SetN w s.heap a es ep t) (hz : es.size ≤ sizeLine)
    (hQ : ∀ s' out, (∀ b o, s.heap.get? b = some o → s'.heap.get? b = some o) → s.heap.objs.size ≤ s'.heap.objs.size → s'.gens = s.gens → s'.os = s.os → out.Perm (es.toList.map (·.2)) → Q out s') :
    wpAny (model P w) A (collect (.ref a)) Q E s := by
  obtain ⟨o, ho, hex, hd⟩ := R.ob
  have hc := hex.1
  have old : a < s.heap.objs.size := Heap.lt_size ho
  have ne : s.heap.objs.size ≠ a := Nat.ne_of_gt old
  unfold collect
  refine wpAny_bind (wpAny_runValue (codeAny_builtin F.entry_proto_collect ?_))
  rw [Around.under_plainId F.plain_proto_collect _]
  show wpAny _ A.in1 (newList [] >>= fun l => again (.builtin "list.__iadd__" ⟨[l, .ref a], []⟩)) _ _ s
  refine wpAny_bind (wpAny_newObj_type ?_)
  refine wpAny_pure ⟨plainId_quiet F.plain_list_iadd _, codeAny_builtin F.entry_list_iadd ?_⟩
  rw [Around.under_plainId F.plain_list_iadd _]
  have atL : (s.heap.push { cls := .type "list", data := .seq ([] : List Value).toArray }).get? s.heap.objs.size = some { cls := .type "list", data := .seq ([] : List Value).toArray } := Heap.get?_push_size _ rfl
  have R1 : SetN w (s.heap.push { cls := .type "list", data := .seq ([] : List Value).toArray }) a es ep t := { R with ob := ⟨o, Heap.get?_push_of_some _ ho, hex, hd⟩ }
  have hz1 : (s.heap.push { cls := .type "list", data := .seq ([] : List Value).toArray }).objs.size = s.heap.objs.size + 1 := size_push' _ _
  show wpAny _ A.in1 (Builtin.List.listExtendWith (.ref s.heap.objs.size) (.ref a) (.ref s.heap.objs.size)) _ _ _
  unfold Builtin.List.listExtendWith
  refine wpAny_bind (wpAny_typeOf (T := "set") ⟨o, Heap.get?_push_of_some _ ho, hc⟩ ?_)
  have n1 : Builtin.List.listSameRef (.ref s.heap.objs.size) (.ref a) = false := by simp [Builtin.List.listSameRef, ne]
  have n2 : (Value.type "set" == Value.type "list") = false := by decide
  have n3 : (Value.type "set" == Value.type "tuple") = false := by decide
  simp only [n1, n2, n3, Bool.or_false, Bool.false_eq_true, if_false]
  refine wpAny_bind (iter_n (s := { s with heap := s.heap.push { cls := .type "list", data := .seq ([] : List Value).toArray } }) R1 fun s2 I it => ?_)
  obtain ⟨fp, St, out, Pv, k2, g2, o2, t2, hI, hfp, hp, hW, hPv, hst⟩ := it
  have hI1 : s.heap.objs.size + 1 ≤ I := by rw [← hz1]; exact hI
  have out1 : s.heap.objs.size ∉ fp := fun hm => by
    rcases hfp _ hm with z | z
    · exact ne z
    · have z1 : s.heap.objs.size + 1 ≤ s.heap.objs.size := by rw [← hz1]; exact z
      omega
  have ho2 := k2 a o (Heap.get?_push_of_some _ ho)
  have isS2 : s2.TypeIs (.ref a) "set" := ⟨o, ho2, hc⟩
  refine wpAny_bind (wpAny_holding ?_)
  unfold Builtin.List.listLengthHint
  refine wpAny_bind (wpAny_specialOf isS2 F.slot_set_len.lookup ?_)
  (generalize hid : ("set.__len__" : String) = id0; (fail_if_success (clear hid id0)); wp_delta; rw [show splitId id0 = some ("set", "__len__") from by subst hid; decide +kernel]; subst hid)
  refine wpAny_bind (wpAny_isInstance (b := true) isS2 sub_set_self ?_)
  show wpAny _ A.in1 (typeOf (.ref a) >>= _) _ _ _
  refine wpAny_bind (wpAny_typeOf isS2 ?_)
  refine wpAny_pure ?_
  show wpAny _ A.in1 (rule "list.extend.makes-room" >>= fun _ => Builtin.List.listTouch (.ref s.heap.objs.size) >>= fun _ =>
    again (.builtin "list.extend.loop" ⟨[.ref s.heap.objs.size, .ref I, .ref s.heap.objs.size], []⟩)) _ _ _
  refine wpAny_bind (wpAny_rule ?_)
  have at2 := k2 _ _ atL
  refine wpAny_bind ?_
  show wpAny _ A.in1 (updateSeq s.heap.objs.size (·.push .none) >>= fun _ => updateSeq s.heap.objs.size (·.pop)) _ _ _
  refine wpAny_bind (wpAny_updateSeq at2 rfl ?_)
  have at3 := Heap.get?_update_self (Obj.mapSeq (·.push Value.none)) at2 rfl
  refine wpAny_updateSeq at3 rfl ?_
  have at4 := Heap.get?_update_self (Obj.mapSeq (·.pop)) at3 rfl
  have oth : ∀ b u, b ≠ s.heap.objs.size → s2.heap.get? b = some u → ((s2.heap.update s.heap.objs.size (Obj.mapSeq (·.push Value.none))).update s.heap.objs.size (Obj.mapSeq (·.pop))).get? b = some u :=
    fun b u hb e => (Heap.get?_update_other _ _ (Ne.symm hb)).trans ((Heap.get?_update_other _ _ (Ne.symm hb)).trans e)
  have hn : out.length ≤ sizeLine := by
    rw [hp.length_eq, List.length_map, Array.length_toList]
    exact hz
  have W := hW A.in1 hh
  have st2 : St 0 ((s2.heap.update s.heap.objs.size (Obj.mapSeq (·.push Value.none))).update s.heap.objs.size (Obj.mapSeq (·.pop))) :=
    W.frame 0 _ _ hst fun b hb u e => oth b u (fun z => out1 (z ▸ hb)) e
  refine wpAny_pure ⟨plainId_quiet F.plain_extend_loop _, codeAny_extend_loopS W.toS hn _ out1 _ out.length 0 _ _ _ rfl (Nat.zero_le _) st2 at4 (ItemsOf.nil Pv) fun s' acc' c' hm atZ hacc => ?_⟩
  show wpAny _ A (load s.heap.objs.size >>= _) _ _ s'
  refine wpAny_bind (wpAny_load atZ ?_)
  have eo := items_out hacc hPv
  refine wpAny_pure ?_
  show Q acc'.toList s'
  rw [eo]
  refine hQ s' out (fun b u e => ?_) (Nat.le_of_lt (Heap.lt_size atZ)) (Eq.trans hm.gens g2) (Eq.trans hm.os o2) hp
  have bl : b < s.heap.objs.size := Heap.lt_size e
  refine hm.heap b u (fun z => ?_) (oth b u (Nat.ne_of_lt bl) (k2 b u (Heap.get?_push_of_some _ e)))
  have far : ¬ I < s.heap.objs.size := Nat.not_lt_of_le (Nat.le_of_succ_le hI1)
  rcases List.mem_cons.mp z with y | y
  · first
      | exact absurd bl (by rw [y]; exact Nat.lt_irrefl _)
      | exact far (by rw [← y]; exact bl)
  · have x := List.mem_singleton.mp y
    first
      | exact absurd bl (by rw [x]; exact Nat.lt_irrefl _)
      | exact far (by rw [← x]; exact bl)
/-! ## What has come in so far -/
structure GotN (ns : List Nat) (i : Nat) (es : Array (Int × Value)) : Prop where
  mem : ∀ n, n ∈ es.toList.map enN ↔ n ∈ ns.take i
  nd : es.size ≤ 4096 → (es.toList.map enN).Nodup
  len : es.size ≤ i
  big : 4096 < es.size → ∃ l : List Nat, l.Nodup ∧ 60 < l.length ∧ ∀ n ∈ l, n ∈ es.toList.map enN
theorem GotN.zero (ns : List Nat) : GotN ns 0 #[] := ⟨fun n => by simp, fun _ => List.nodup_nil, Nat.le_refl _, fun z => absurd z (by decide)⟩
theorem GotN.step {ns : List Nat} {i n : Nat} {es es' : Array (Int × Value)} (g : GotN ns i es) (hi : ns[i]? = some n) (h : AddN n es es') : GotN ns (i + 1) es' := by
  have tk : ns.take (i + 1) = ns.take i ++ [n] := by rw [List.take_add_one, hi]; rfl
  rcases h with ⟨h1, h2⟩ | ⟨u, h1, h2⟩
  · have sz : es'.size = es.size := by have := h2.length_eq; rwa [Array.length_toList, Array.length_toList] at this
    have pm := h2.map enN
    refine ⟨fun m => ?_, fun hl => pm.nodup_iff.mpr (g.nd (by omega)), by have := g.len; omega, fun z => let ⟨l, l1, l2, l3⟩ := g.big (by omega); ⟨l, l1, l2, fun m hm => pm.mem_iff.mpr (l3 m hm)⟩⟩
    rw [pm.mem_iff, g.mem, tk, List.mem_append, List.mem_singleton]
    refine ⟨.inl, fun z => z.elim id fun z => ?_⟩
    rw [z]
    exact (g.mem n).mp h1
  · have sz : es'.size = es.size + 1 := by have := h1.length_eq; rwa [Array.length_toList, List.length_cons, Array.length_toList] at this
    have pm : (es'.toList.map enN).Perm (n :: es.toList.map enN) := h1.map enN
    refine ⟨fun m => ?_, fun hl => pm.nodup_iff.mpr (List.nodup_cons.mpr ⟨h2 (by omega), g.nd (by omega)⟩), by have := g.len; omega, fun z => ?_⟩
    case refine_2 =>
      by_cases c : 4096 < es.size
      · obtain ⟨l, l1, l2, l3⟩ := g.big c
        exact ⟨l, l1, l2, fun m hm => pm.mem_iff.mpr (List.mem_cons_of_mem _ (l3 m hm))⟩
      · refine ⟨es.toList.map enN, g.nd (by omega), ?_, fun m hm => pm.mem_iff.mpr (List.mem_cons_of_mem _ hm)⟩
        rw [List.length_map, Array.length_toList]
        omega
    rw [pm.mem_iff, tk, List.mem_append, List.mem_singleton, List.mem_cons, g.mem]
    exact Or.comm
theorem SetN.keep {h h' : Heap} (R : SetN w h a es ep t) (ha : ∀ o, h.get? a = some o → h'.get? a = some o) : SetN w h' a es ep t :=
  { R with ob := let ⟨o, h1, h2⟩ := R.ob; ⟨o, ha o h1, h2⟩ }
theorem fresh_n {h : Heap} (ho : h.get? a = some { cls := .type "set", dict := none, data := .set #[] 0 (.fresh 0 0 (!w.params.followText "set-order")) }) : SetN w h a #[] 0 (.fresh 0 0 (!w.params.followText "set-order")) where
  ob := ⟨_, ho, ⟨rfl, rfl, rfl⟩, rfl⟩
  el := fun e he => nomatch he
  plain := rfl
  led := by
    show _ ∨ (!w.params.followText "set-order") = true
    cases w.params.followText "set-order"
    · exact .inr rfl
    · exact .inl rfl
  dm := rfl
  msk := ⟨2, rfl⟩
  sz := rfl
  room := by
    show 0 * 5 < 7 * 3
    decide
  ris := List.Pairwise.nil
/-- set.update's loop over numbers -/
theorem update_n {I : Addr} {fp wr : List Addr} {G : Array GenState → Array GenState → Prop} {n : Nat} {Pv : Nat → Value → Prop} {St : Nat → Shared → Prop} {R : Result → Shared → Prop}
    (W : WalksS P w A.in1 I fp wr G n Pv St) (S : Addr) (nS : S ∉ fp) (ns : List Nat) (hn : n = ns.length) (few : ns.length ≤ 8000000) (hval : ∀ i v, Pv i v → ∃ m tk, ns[i]? = some m ∧ m ≤ 9999 ∧ v = .int (m : Int) tk)
    (h0 : Heap) (hS0 : h0.get? S = none) (hw0 : ∀ b ∈ wr, h0.get? b = none) :
    ∀ (k i : Nat) (s : Shared), n - i = k → i ≤ n → St i s → (∀ b o, h0.get? b = some o → s.heap.get? b = some o) → (∃ es ep t, SetN w s.heap S es ep t ∧ GotN ns i es) →
      (∀ s' es ep t, Moved (S :: wr) G s s' → SetN w s'.heap S es ep t → GotN ns n es → (∀ b o, h0.get? b = some o → s'.heap.get? b = some o) → R (.ok (.ret .none)) s') →
      codeAny (model P w) A (.builtin "set.update.loop" ⟨[.ref S, .ref I], []⟩) R s := by
  have nSw : S ∉ wr := fun z => nS (W.sub _ z)
  have wid : ∀ b ∈ wr, b ∈ S :: wr := fun b z => List.mem_cons_of_mem _ z
  have kept : ∀ {s s' : Shared}, Moved wr G s s' → (∀ b o, h0.get? b = some o → s.heap.get? b = some o) → ∀ b o, h0.get? b = some o → s'.heap.get? b = some o := fun m c b o e =>
    m.heap b o (fun z => by rw [hw0 b z] at e; cases e) (c b o e)
  intro k
  induction k with
  | zero =>
    intro i s hk hi st c ⟨es, ep, t, hS, g⟩ hR
    have ein : i = n := by omega
    subst ein
    refine codeAny_builtin F.entry_set_update_loop ?_
    rw [Around.under_plainId F.plain_set_update_loop _]
    show wpAny _ A.in1 (pyNext (.ref I) >>= _) _ _ s
    refine wpAny_bind (W.done s _ _ st fun s' m => ?_)
    show wpAny _ A.in1 (ret Value.none) _ _ s'
    exact wpAny_pure (hR s' es ep t (m.mono wid) (hS.keep fun o e => m.heap S o nSw e) g (kept m c))
  | succ k ih =>
    intro i s hk hi st c ⟨es, ep, t, hS, g⟩ hR
    have lt : i < n := by omega
    refine codeAny_builtin F.entry_set_update_loop ?_
    rw [Around.under_plainId F.plain_set_update_loop _]
    show wpAny _ A.in1 (pyNext (.ref I) >>= _) _ _ s
    refine wpAny_bind (W.item i s _ _ lt st fun v s' pv st' m => ?_)
    obtain ⟨x, tk, hx, hb, rfl⟩ := hval i v pv
    have c1 := kept m c
    have hS1 : SetN w s'.heap S es ep t := hS.keep fun o e => m.heap S o nSw e
    show wpAny _ A.in1 (holding [Value.int (x : Int) tk] (setAdd S (.int x tk)) >>= _) _ _ s'
    refine wpAny_bind (wpAny_holding ?_)
    unfold setAdd
    refine wpAny_holding ?_
    refine wpAny_bind (wpAny_pyHash_int ?_)
    refine add_n (s := { s' with toks := s'.toks + 1 }) hS1 hb (by have := g.len; omega) fun b h' es' ep' t' sb hS2 ad => ?_
    have c2 : ∀ b o, h0.get? b = some o → h'.get? b = some o := fun b o e => (sb.2 b (fun z => by rw [z, hS0] at e; cases e)).trans (c1 b o e)
    refine wpAny_pure ⟨plainId_quiet F.plain_set_update_loop _, ih (i + 1) _ (by omega) lt (W.frame _ s' _ _ st' (Nat.le_add_right _ _) fun b hb o e => ?_) c2 ⟨es', ep', t', hS2, g.step hx ad⟩ fun s2 es2 ep2 t2 m2 hS3 g2 c3 => ?_⟩
    · rw [sb.2 b (fun z : b = S => nS (by rw [← z]; exact hb))]
      exact e
    · refine hR s2 es2 ep2 t2 (Moved.trans W.gtrans ((m.mono wid).then_heap (Nat.le_add_right _ _) fun b o hb e => ?_) m2) hS3 g2 c3
      rw [sb.2 b (fun z : b = S => hb (by rw [z]; exact List.mem_cons_self))]
      exact e
end
end Tb
end K28

set_option Elab.async false
set_option linter.all false
set_option maxRecDepth 100000
set_option maxHeartbeats 4000000
/-! ## sorted(set(xs)) of many small ints -/
namespace K28
namespace Tb
open PySem PySem.Spec PyProof.Rows L2
section
variable {P : Program} {w : World} {A : Around} {E : Value → Shared → Prop} {s : Shared} {a : Addr} {es : Array (Int × Value)} {ep : Nat} {t : SetTable}
/-- set(xs) -/
theorem call_n {l : Addr} {items : Array Value} (ns : List Nat) {Q : Value → Shared → Prop} (hh : A.handled = none) (hl : s.heap.IsList l items) (hisz : items.size = ns.length) (hval : ∀ (i : Nat) (v : Value), items[i]? = some v → ∃ m tk, ns[i]? = some m ∧ m ≤ 9999 ∧ v = .int (m : Int) tk)
    (few : ns.length ≤ 8000000)
    (h : ∀ (h' : Heap) (tk : Nat) es ep t, SetN w h' s.heap.objs.size es ep t → GotN ns ns.length es → (∀ b o, s.heap.get? b = some o → h'.get? b = some o) → Q (.ref s.heap.objs.size) { s with heap := h', toks := tk }) :
    wpAny (model P w) A (call (.type "set") [.ref l]) Q E s := by
  obtain ⟨c, tl, hmro⟩ := F.called_set.mro
  have hmade := F.called_set.made
  have hsub := F.called_set.sub
  refine wpAny_call (codeAny_of_tree ?_)
  show wpAny _ _ (callAny (.type "set") _) _ _ _
  refine wpAny_pure ⟨Code.quiet_builtin _ (by decide +kernel), codeAny_builtin F.entry_type_call ?_⟩
  rw [Around.under_plain (weight_type_call_type "set" [.ref l] []) rfl]
  have h1 := F.called_set.notType
  have h2 := F.called_set.canCreate
  have hct := F.typeCall_set_1 (.ref l)
  repeat (any_goals (first | assumption | wp_step))
  refine codeAny_mono (code_set_led1 (.ref l) (E := E) (Q₁ := fun obj s1 => obj = .ref s.heap.objs.size ∧ s1 = { s with heap := s.heap.push { cls := .type "set", dict := none, data := .set #[] 0 (.fresh 0 0 (!w.params.followText "set-order")) } }) ⟨rfl, rfl⟩) fun r s1 hr => ?_
  cases r with
  | error e => exact hr
  | ok fl =>
    cases fl with
    | ret obj =>
      obtain ⟨rfl, rfl⟩ := hr
      have atS : (s.heap.push { cls := .type "set", dict := none, data := .set #[] 0 (.fresh 0 0 (!w.params.followText "set-order")) }).get? s.heap.objs.size = some { cls := .type "set", dict := none, data := .set #[] 0 (.fresh 0 0 (!w.params.followText "set-order")) } := Heap.get?_push_size _ rfl
      have isS : Shared.TypeIs { s with heap := s.heap.push { cls := .type "set", dict := none, data := .set #[] 0 (.fresh 0 0 (!w.params.followText "set-order")) } } (.ref s.heap.objs.size) "set" := ⟨_, atS, rfl⟩
      have hli := F.called_set.init.lookup
      have hbi := F.called_set.init.bind (.ref s.heap.objs.size)
      repeat (any_goals (first | assumption | wp_step))
      refine codeAny_mono (codeAny_call_builtin (R := wants (fun r s2 => r = .none ∧ ∃ h' tk es ep t, s2 = { s with heap := h', toks := tk } ∧ SetN w h' s.heap.objs.size es ep t ∧ GotN ns ns.length es ∧
          (∀ b o, s.heap.get? b = some o → h'.get? b = some o)) E) F.called_set.init.plain F.entry_set_init (check_set_init_1 isS ?_)) fun r2 s2 hr2 => ?_
      · obtain ⟨ol, hol, hcl, nl, hdl⟩ := hl
        obtain ⟨ocls, odict, odata, oslots⟩ := ol
        simp only at hcl hdl
        subst hcl; subst hdl
        have hol1 : (s.heap.push { cls := .type "set", dict := none, data := .set #[] 0 (.fresh 0 0 (!w.params.followText "set-order")) }).get? l = some { cls := .type "list", dict := odict, data := .seq items nl, slots := oslots } := Heap.get?_push_of_some _ hol
        have hsls := F.sub_list_set
        have hslf := F.sub_list_frozenset
        have hne : (Value.type "list" == Value.type "dict") = false := by decide
        have hl1 : (s.heap.push { cls := .type "set", dict := none, data := .set #[] 0 (.fresh 0 0 (!w.params.followText "set-order")) }).IsList l items := ⟨_, hol1, rfl, nl, rfl⟩
        unfold Builtin.«set.__init__» noKeywords Builtin.Frozenset.updateFrom
        generalize hPI : pyIter = PI
        wp_walk
        subst hPI
        refine wpAny_pyIter_list hl1 ?_
        refine wpAny_bind (wpAny_runValue ?_)
        have lS : l < s.heap.objs.size := Heap.lt_size hol
        have hh3 : A.in1.in1.in1.handled = none := by simp [hh]
        have neI : l ≠ (s.heap.push { cls := .type "set", dict := none, data := .set #[] 0 (.fresh 0 0 (!w.params.followText "set-order")) }).objs.size := by
          rw [Heap.size_push]
          exact Nat.ne_of_lt (Nat.lt_succ_of_lt lS)
        have nSf : s.heap.objs.size ∉ [(s.heap.push { cls := .type "set", dict := none, data := .set #[] 0 (.fresh 0 0 (!w.params.followText "set-order")) }).objs.size, l] := by
          rw [Heap.size_push]
          simp only [List.mem_cons, List.mem_singleton, List.not_mem_nil, or_false, not_or]
          exact ⟨Nat.ne_of_lt (Nat.lt_succ_self _), Nat.ne_of_gt lS⟩
        have none_of : ∀ b, s.heap.objs.size ≤ b → s.heap.get? b = none := fun b hb => by
          cases q : s.heap.get? b with
          | none => rfl
          | some o => exact absurd (Nat.lt_of_lt_of_le (Heap.lt_size q) hb) (Nat.lt_irrefl _)
        refine update_n ((Walks.list hh3 _ l neI items).toS) s.heap.objs.size
          nSf ns hisz few hval s.heap (none_of _ (Nat.le_refl _)) (fun b hb => none_of b (by
            rw [List.mem_singleton.mp hb, Heap.size_push]
            exact Nat.le_succ _)) (items.size - 0) 0 _ (by omega) (Nat.zero_le _)
          ⟨⟨_, Heap.get?_push_size _ rfl, rfl, rfl⟩, (hl1.push _)⟩ (fun b o e => Heap.get?_push_of_some _ (Heap.get?_push_of_some _ e)) ?hS0 ?hR
        case hS0 =>
          exact ⟨#[], 0, _, fresh_n (Heap.get?_push_of_some _ atS), GotN.zero ns⟩
        case hR =>
          intro s' es ep t hm hS1 g1 hkp
          obtain ⟨h', g2, d', tk', os'⟩ := s'
          have eg : g2 = s.gens := hm.gens
          have ed : d' = s.drawn := hm.drawn
          have eo : os' = s.os := hm.os
          subst eg; subst ed; subst eo
          show wpAny _ _ _ _ _ _
          refine wpAny_pure ?_
          show wpAny _ _ (ret Value.none) _ _ _
          rw [hisz] at g1
          exact wpAny_pure ⟨rfl, h', tk', es, ep, t, rfl, hS1, g1, hkp⟩
      · cases r2 with
        | error e => exact hr2
        | ok fl2 =>
          cases fl2 with
          | ret r =>
            obtain ⟨rfl, h', tk, es, ep, t, rfl, hS1, g1, hk1⟩ := hr2
            repeat (any_goals (first | assumption | wp_step))
            exact h _ _ _ _ _ hS1 g1 hk1
          | _ => exact hr2.elim
    | _ => exact hr.elim
/-- sorted(set) -/
theorem sorted_n {Q : Value → Shared → Prop} (R : SetN w s.heap a es ep t) (hh : A.handled = none) (hz : es.size ≤ sizeLine)
    (hQ : ∀ s' p (out : Array Value) (c : Nat) (ns : List Int), (∀ b o, s.heap.get? b = some o → s'.heap.get? b = some o) → s'.gens = s.gens → s'.os = s.os → s.heap.objs.size ≤ p →
      s'.heap.get? p = some (seqObj "list" out c) → IntsAre out.toList ns → ns.Pairwise (· ≤ ·) → ns.Perm ((es.toList.map enN).map fun n : Nat => (n : Int)) → Q (.ref p) s') :
    wpAny (model P w) A (call (.builtin "sorted") [.ref a]) Q E s := by
  refine Calls.call_function_entry kind_sorted plain_sorted entry_sorted (args_sorted1 _) ?_
  unfold Builtin.«sorted»
  refine wpAny_bind (m := checkCount "sorted" 1 1 _) (wpAny_pure ?_)
  refine wpAny_bind (collect_n (A := A.in1) hh R hz fun s1 vs k1 hz1 g1 o1 pm => ?_)
  have hI : IntsAre vs (vs.map SrtO.iv) := SrtO.ints_iv fun v hv => by
    obtain ⟨e, he, q⟩ := List.mem_map.mp (pm.mem_iff.mp hv)
    obtain ⟨n, tk, _, rfl⟩ := R.el e he
    exact ⟨n, tk, q.symm⟩
  have pk : (vs.map SrtO.iv).Perm ((es.toList.map enN).map fun n : Nat => (n : Int)) := by
    have q := pm.map SrtO.iv
    rw [List.map_map] at q ⊢
    have e : es.toList.map (SrtO.iv ∘ fun x => x.2) = es.toList.map ((fun n : Nat => (n : Int)) ∘ enN) := List.map_congr_left fun e he => by
      obtain ⟨n, tk, _, rfl⟩ := R.el e he
      rfl
    rw [← e]
    exact q
  have hvl : vs.length = es.size := by rw [pm.length_eq, List.length_map, Array.length_toList]
  refine wpAny_bind (wpAny_newList ?_ (by rw [hvl]; exact hz))
  have hoL : (s1.heap.push (seqObj "list" vs.toArray 0)).get? s1.heap.objs.size = some (seqObj "list" vs.toArray 0) := Heap.get?_push_size _ rfl
  refine wpAny_bind (wpAny_holding (wpAny_call_entry slot_list_sort ⟨_, hoL, rfl⟩ entry_list_sort (SrtO.list_sort_ord SrtO.swo_int hoL (by rw [hvl]; exact hz) (fun h2 => SrtO.ints_sortable hI h2) fun out a1 a2 => ⟨_, rfl, ?_⟩) (args_list_sort _)))
  obtain ⟨c, hc⟩ := sortedHeap_at (vs := vs) (out := out.toArray) hoL
  obtain ⟨i1, i2, i3⟩ := SrtO.ints_out hI a1 a2
  refine wpAny_pure ⟨_, rfl, hQ _ s1.heap.objs.size out.toArray c _ (fun b u e => ?_) g1 o1 hz1 hc i1 i3 (i2.trans pk)⟩
  have q := k1 b u e
  have lt := Heap.lt_size q
  show (sortedHeap (s1.heap.push (seqObj "list" vs.toArray 0)) s1.heap.objs.size vs out.toArray).get? b = some u
  rw [sortedHeap_old (Nat.ne_of_lt lt) (by rw [size_push']; exact Nat.lt_succ_of_lt lt)]
  exact Heap.get?_push_of_some _ q
end
theorem ints_at : ∀ {vs : List Value} {zs : List Int}, IntsAre vs zs → ∀ (i : Nat) (v : Value), vs[i]? = some v → ∃ z tk, zs[i]? = some z ∧ v = .int z tk
  | _, _, .nil, i, v, h => by simp at h
  | _, _, .cons n t r, 0, v, h => ⟨n, t, rfl, (Option.some.inj h).symm⟩
  | _, _, .cons n t r, i + 1, v, h => ints_at r i v h
/-- the sorted members, against the plain sort -/
theorem got_sort {ns : List Nat} {es : Array (Int × Value)} {zs : List Int} (g : GotN ns ns.length es) (hp : zs.Perm ((es.toList.map enN).map fun n : Nat => (n : Int))) (hu : zs.Pairwise (· ≤ ·)) :
    ∃ L : List Nat, zs = L.map (fun n : Nat => (n : Int)) ∧ (L = sortU ns ∨ (60 < L.length ∧ 60 < (sortU ns).length)) := by
  have hm : ∀ n, n ∈ es.toList.map enN ↔ n ∈ ns := fun n => by rw [g.mem, List.take_length]
  by_cases c : es.size ≤ 4096
  · have z := sorted_back (g.nd c) hp hu
    refine ⟨_, z, .inl ?_⟩
    refine sortU_of (sortU_up _) fun n => ?_
    rw [mem_sortU, hm]
  · obtain ⟨l, l1, l2, l3⟩ := g.big (by omega)
    refine ⟨zs.map Int.toNat, ?_, .inr ⟨?_, ?_⟩⟩
    · rw [List.map_map]
      refine (List.map_id zs).symm.trans (List.map_congr_left fun z hz => ?_)
      obtain ⟨n, _, rfl⟩ := List.mem_map.mp (hp.mem_iff.mp hz)
      rfl
    · rw [List.length_map, hp.length_eq, List.length_map, List.length_map, Array.length_toList]
      omega
    · have := nat_nodup_len l (sortU ns) l1 fun n hn => mem_sortU.mpr ((hm n).mp (l3 n hn))
      omega
end Tb
end K28
namespace L2
open PySem PySem.Spec PyProof.Rows K28
def tSSet (K : PySem.W.Frag) (te : TE) : TE := fun σ H Q => te σ H fun x H1 => ∃ (l : Addr) (ns : List Nat), x = .ref l ∧ SqL K H1 l (ns.map vN) ∧ (∀ n ∈ ns, n ≤ 9999) ∧ ns.length ≤ 8000000 ∧
  ∀ (L : List Nat) (p : Addr), (L = sortU ns ∨ (60 < L.length ∧ 60 < (sortU ns).length)) → H1 p = none → Q (.ref p) (upd H1 p (.lst (L.map vN)))
section
variable {X : Cx} {e : Expr} {te : TE}
theorem pe_sset {p pos p' pos' : Pos} (hc : X.calm = true) (hu : X.A.units + 64 < cLine) (hg : Gl X "sorted") (hm : X.mg "sorted" = none) (hg' : Gl X "set") (hm' : X.mg "set" = none) (he : PE X e te)
    (na : starEach [e] X.env = (false, eval e X.env) :: starEach [] X.env := by rfl) : PE X (.Call (.Name "sorted" p') [.Call (.Name "set" p) [e] [] pos] [] pos') (tSSet X.K te) := by
  refine ⟨fun pins s σ H Q I h => ?_⟩
  refine Call_ (ld_blt I hg hm PyProof.Rows.boot_sorted ?_)
  refine PyProof.Rows.callWith_builtin1 (PyProof.Rows.args_cons ?_ rfl) rfl rfl
  refine Call_ (ld_blt I hg' hm' PyProof.Rows.boot_set ?_)
  refine PyProof.Rows.callWith_type1 (PyProof.Rows.args_cons (thn (he.run pins s σ H _ I h) fun v s1 ⟨x, H1, I1, r1, q1⟩ => PyProof.Rows.args_nil ?_) na) na rfl
  obtain ⟨l, ns, rfl, hq, hb, hl, q1⟩ := q1
  cases r1
  obtain ⟨its, r, pl, hz⟩ := I1.list hq
  have hil : its.toArray.size = ns.length := by rw [List.size_toArray, ← r.length, List.length_map]
  refine Tb.call_n (P := X.prog) (w := X.w) ns (I1.ok.hd hc) pl.isList hil (fun i v hv => ?_) hl fun h' tk es ep t R g hk => ?_
  · have hv2 : its[i]? = some v := by simpa using hv
    have hI : IntsAre its (ns.map fun n : Nat => (n : Int)) := by
      have z : Vals ((ns.map fun n : Nat => (n : Int)).map V.int) its := by
        rw [List.map_map]
        exact r
      exact z.ints
    obtain ⟨z, tk, h1, h2⟩ := Tb.ints_at hI i v hv2
    rw [List.getElem?_map] at h1
    obtain ⟨n, h3, rfl⟩ := Option.map_eq_some_iff.mp h1
    exact ⟨n, tk, h3, hb _ (List.mem_of_getElem? h3), h2⟩
  · refine PyProof.Rows.args_nil ?_
    have I2 : Inv X pins σ H1 { s1 with heap := h', toks := tk } := I1.kept fun b o e => hk b o e
    have hes : es.size ≤ 8000000 := Nat.le_trans g.len hl
    refine Tb.sorted_n (s := { s1 with heap := h', toks := tk }) R (I1.ok.hd hc) (by rw [sizeLine_eq]; omega) fun s' p out c zs k g1 o1 hp hg2 hI hup hpm => ?_
    obtain ⟨L, rfl, hL⟩ := Tb.got_sort g hpm hup
    have hn : H1 p = none := I2.hok.fresh hp
    have hlen : (L.map vN).length ≤ sizeLine := by
      have h2 : L.length = es.size := by simpa using hpm.length_eq
      rw [List.length_map, h2, sizeLine_eq]
      omega
    have hv : Vals (L.map vN) out.toList := by
      have z := vals_of_ints hI
      rw [List.map_map] at z
      exact z
    have J : Inv X pins σ (upd H1 p (.lst (L.map vN))) s' := I2.call' (ch := []) o1 (Un.laid k hp hn) (I2.hok.laid k hp ⟨hlen, out.toList, c, hv, hg2⟩) (by rw [g1]; exact I2.bare) fun _ z => nomatch z
    exact ⟨.ref p, _, J, rfl, q1 L p hL hn⟩
end
end L2

set_option Elab.async false
set_option linter.all false
set_option maxRecDepth 100000
set_option maxHeartbeats 4000000
namespace K28
open PySem PySem.Spec PyProof.Rows L2
/-! ## what the law's reader is told by a text -/
/-- the pair it gives -/
def ToldR (l : List Nat) (H : Hp) (p : Addr) : Prop := match unfM l with
  | none => ∃ x xs, H p = some (.tup (.str x :: xs)) ∧ x ≠ Str.ofString "fine"
  | some ns => ∃ q, H p = some (.tup [.str (Str.ofString "fine"), .ref q]) ∧ H q = some (.lst (ns.map vN))
theorem txtR_len2 : ∀ {es : List (List (List Nat))}, (∀ e ∈ es, EntT e) → 2 * es.length ≤ (txtR es).length + 1
  | [], _ => Nat.zero_le _
  | [e], he => by
    have := entR_len (he e (List.mem_cons_self ..))
    show 2 * 1 ≤ (entR e ++ restR []).length + 1
    rw [List.length_append]
    omega
  | e :: e' :: r, he => by
    have h1 := entR_len (he e (List.mem_cons_self ..))
    have h2 := txtR_len2 (es := e' :: r) fun x hx => he x (List.mem_cons_of_mem _ hx)
    show _ ≤ (entR e ++ 44 :: (txtR (e' :: r))).length + 1
    rw [List.length_append, List.length_cons]
    rw [List.length_cons (as := txtR (e' :: r))]
    omega
def spToldT : Sp := fun vs H Q _ => ∃ l : List Nat, vs = [.str (S l)] ∧ l.length ≤ 1000 ∧ ∀ H' p, Same H H' → ToldR l H' p → Q (.ref p) H'
theorem allE_snoc : ∀ (xs : List (List (List Nat))) (e : List (List Nat)) (bs : List (Nat × Nat × Nat)), allE xs = some bs → allE (xs ++ [e]) = (boundsN (e.map val)).map fun b => bs ++ [b]
  | [], e, bs, h => by
    obtain rfl := Option.some.inj h
    show (match boundsN (e.map val) with | none => none | some b => (allE []).map (b :: ·)) = _
    cases boundsN (e.map val) <;> rfl
  | x :: xs, e, bs, h => by
    have h : (match boundsN (x.map val) with | none => none | some b => (allE xs).map (b :: ·)) = some bs := h
    show (match boundsN (x.map val) with | none => none | some b => (allE (xs ++ [e])).map (b :: ·)) = _
    cases hb : boundsN (x.map val) with
    | none =>
      rw [hb] at h
      cases h
    | some b =>
      rw [hb] at h
      obtain ⟨bs', h1, rfl⟩ := Option.map_eq_some_iff.mp h
      show (allE (xs ++ [e])).map (b :: ·) = _
      rw [allE_snoc xs e bs' h1]
      cases boundsN (e.map val) <;> rfl
theorem allE_no : ∀ {es : List (List (List Nat))} {e : List (List Nat)}, e ∈ es → boundsN (e.map val) = none → allE es = none
  | x :: xs, e, hm, h => by
    show (match boundsN (x.map val) with | none => none | some b => (allE xs).map (b :: ·)) = _
    rcases List.mem_cons.mp hm with rfl | hm
    · rw [h]
    · cases boundsN (x.map val) with
      | none => rfl
      | some b =>
        show (allE xs).map (b :: ·) = none
        rw [allE_no hm h]
        rfl
theorem num_val {d : List Nat} (h : NumT d) : val d ≤ 9999 := by
  have h1 := val_lt h.2.2.1
  have h2 : 10 ^ d.length ≤ 10 ^ 4 := Nat.pow_le_pow_right (by decide) h.2.1
  omega
theorem unionB_snoc (bs : List (Nat × Nat × Nat)) (b : Nat × Nat × Nat) : unionB (bs ++ [b]) = unionB bs ++ rangeN b.1 b.2.1 b.2.2 := by
  unfold unionB
  rw [List.flatMap_append]
  simp
theorem more_len : ∀ (m : List (List Nat)) (p : Nat), (∀ d ∈ m, NumT d) → (moreR p m).length ≤ 5 * m.length
  | [], _, _ => Nat.le_refl _
  | d :: m, p, h => by
    have h1 := (h d (List.mem_cons_self ..)).2.1
    have h2 := more_len m (p + 1) fun x hx => h x (List.mem_cons_of_mem _ hx)
    show ((if p = 0 then 45 else 58) :: (d ++ moreR (p + 1) m)).length ≤ _
    rw [List.length_cons, List.length_append, List.length_cons]
    omega
theorem ent_len {e : List (List Nat)} (he : EntT e) : (entR e).length ≤ 14 := by
  cases e with
  | nil => exact absurd rfl he.ne
  | cons d m =>
    have h1 := (he.num d (List.mem_cons_self ..)).2.1
    have h2 := more_len m 0 fun x hx => he.num x (List.mem_cons_of_mem _ hx)
    have h3 := he.le
    rw [List.length_cons] at h3
    show (d ++ moreR 0 m).length ≤ _
    rw [List.length_append]
    omega
theorem ent_join {e : List (List Nat)} (he : EntT e) : (TL.joinL [58] e).length = (entR e).length := by
  have hl := he.le
  match e, he.ne, hl with
  | [a], _, _ =>
    show a.length = (a ++ []).length
    rw [List.append_nil]
  | [a, b], _, _ =>
    show (a ++ ([58] ++ b)).length = (a ++ 45 :: (b ++ [])).length
    simp
  | [a, b, c], _, _ =>
    show (a ++ ([58] ++ (b ++ ([58] ++ c)))).length = (a ++ 45 :: (b ++ 58 :: (c ++ []))).length
    simp
  | _ :: _ :: _ :: _ :: _, _, hl => simp at hl
theorem ent_cases {e : List (List Nat)} (he : EntT e) : (∃ a, e = [a]) ∨ (∃ a b, e = [a, b]) ∨ ∃ a b c, e = [a, b, c] := by
  have hl := he.le
  match e, he.ne, hl with
  | [a], _, _ => exact .inl ⟨a, rfl⟩
  | [a, b], _, _ => exact .inr (.inl ⟨a, b, rfl⟩)
  | [a, b, c], _, _ => exact .inr (.inr ⟨a, b, c, rfl⟩)
  | _ :: _ :: _ :: _ :: _, _, hl => simp at hl
section
variable {P : Program} {w : World} {K : PySem.W.Frag} {mg : Str → Option Value} {base : Heap}
theorem ok_l_likes_told (T : Tx K mg) : Fk P w K mg base "_law_likes_told" 2 ["_law_text"] spToldT := by
  refine Fk.mk0 T.g_l_likes_told T.d_l_likes_told sc_l_likes_told (fun vs H Q E h => ?_) (fun _ _ _ _ _ _ us hl => match us, hl with | [_], _ => rfl) fun cdv A outer s H vs Q E hr h => ⟨_,
      (pss_cons (ps_par3 (i := 1) (j := 2) (l := 3) rfl sc_l_likes_told.nd rfl rfl rfl (by decide) (by decide) (by decide) rfl rfl rfl (pa_cons (pe_f (ok_l_likes_spot T) (hr.mono (by decide)) (pa_cons (pv 0) pa_nil)) (pa_cons (pe_lst pa_nil) (pa_cons pe_int pa_nil))) (by rfl))
      (pss_cons (ps_if (pt_cmpR op_notN (pv 1) pe_non (nomark _)) (pss_one (ps_ret (pe_tup (pa_cons pe_str (pa_cons (pv 1) pa_nil))))) pss_nil)
      (pss_cons (BT.ps_forT PassesOwn.never rfl (BT.pi1_split (pv 0)) (pg_name (i := 4) sc_l_likes_told.nd rfl (Or.inl rfl)) (psst_cons (BT.pst_setLc (i := 5) (own := [("_law_part", 7)]) (g := gName 7) rfl sc_l_likes_told.nd rfl rfl (sw_true rfl rfl rfl (by decide +kernel)) (BT.pit_split (CwR.pet_replC (pv 4)) pe_str) (blkOk_by (own := [("_law_part", 7)]) (N := N_l_likes_told) (sc := defScope s_l_likes_told) (by decide +kernel)) (fun _ _ _ _ _ => (pg_name (i := 7) sc_l_likes_told.nd rfl (Or.inl rfl))) (fun _ _ _ _ _ => pts_nil) (fun _ _ _ _ _ => (pe_callTy call_int_str (by rfl) T.m_int (by decide +kernel) (pa_cons (pv 7) pa_nil))))
      (PSsT.of (pss_cons (ps_if (PW.pt (pw_and (pt_cmpR op_gt (pe_callB call_len (by rfl) T.m_len boot_len (pa_cons (pv 5) pa_nil)) pe_int (nomark _)) (pw_and1 (pt_cmpR op_ge (pe_ix ix_list (pv 5) pe_int (fun _ _ => rfl)) (pe_ix ix_list (pv 5) pe_int (fun _ _ => rfl)) (nomark _))))) (pss_one (ps_ret (pe_tup (pa_cons pe_str (pa_cons (pe_op op_add (pe_op op_add (pv 3) (pe_callB call_len (by rfl) T.m_len boot_len (pa_cons (pe_callTy call_strN (by rfl) T.m_str (by decide +kernel) (pa_cons (pe_ix ix_list (pv 5) pe_int (fun _ _ => rfl)) pa_nil)) pa_nil))) pe_int) pa_nil))))) pss_nil)
      (pss_cons (ps_if (PW.pt (pw_and (pt_cmpR op_gt (pe_callB call_len (by rfl) T.m_len boot_len (pa_cons (pv 5) pa_nil)) pe_int (nomark _)) (pw_and1 (pt_cmpR op_eq (pe_ix ix_list (pv 5) pe_int (fun _ _ => rfl)) pe_int (nomark _))))) (pss_one (ps_ret (pe_tup (pa_cons pe_str (pa_cons (pe_op op_sub (pe_op op_add (pv 3) (pe_callB call_len (by rfl) T.m_len boot_len (pa_cons (pv 4) pa_nil))) pe_int) pa_nil))))) pss_nil)
      (pss_cons (ps_set (i := 6) sc_l_likes_told.nd rfl (Or.inl rfl) (pe_ifExp (pt_cmpR op_gt (pe_callB call_len (by rfl) T.m_len boot_len (pa_cons (pv 5) pa_nil)) pe_int (nomark _)) (pe_ix ix_list (pv 5) pe_int (fun _ _ => rfl)) (pe_ix ix_list (pv 5) pe_int (fun _ _ => rfl))))
      (pss_cons (ps_set (i := 2) sc_l_likes_told.nd rfl (Or.inl rfl) (pe_op op_cat (pv 2) (pe_listRg3 rfl (by rfl) T.m_list (by rfl) T.m_range (pa_cons (pe_ix ix_list (pv 5) pe_int (fun _ _ => rfl)) (pa_cons (pe_op op_add (pv 6) pe_int) (pa_cons (pe_ifExp (pt_cmpR op_gt (pe_callB call_len (by rfl) T.m_len boot_len (pa_cons (pv 5) pa_nil)) pe_int (nomark _)) (pe_ix ix_list (pv 5) pe_int (fun _ _ => rfl)) pe_int) pa_nil))))))
      (pss_one (ps_set (i := 3) sc_l_likes_told.nd rfl (Or.inl rfl) (pe_op op_add (pe_op op_add (pv 3) (pe_callB call_len (by rfl) T.m_len boot_len (pa_cons (pv 4) pa_nil))) pe_int))))))))))
      (pss_cons (ps_set (i := 2) sc_l_likes_told.nd rfl (Or.inl rfl) (pe_sset rfl hr.units (by rfl) T.m_sorted (by rfl) T.m_set (pv 2)))
      (pss_one (ps_ret (pe_ifExp (pt_cmpR op_gt (pe_callB call_len (by rfl) T.m_len boot_len (pa_cons (pv 2) pa_nil)) pe_int (nomark _)) (pe_tup (pa_cons pe_str pa_nil)) (pe_tup (pa_cons pe_str (pa_cons (pv 2) pa_nil)))))))))), ?_⟩
  · obtain ⟨_, rfl, _⟩ := h
    rfl
  · obtain ⟨l, rfl, hl, q⟩ := h
    have sl : sizeLine = 16777216 := sizeLine_eq
    refine ⟨_, rfl, l, rfl, by omega, fun H1 e1 => ?_⟩
    refine ⟨Nat.zero_le _, fun np hnp => ?_⟩
    have e2 : Same H (upd H1 np (.lst [])) := e1.trans (Same.new hnp)
    have hn2 : upd H1 np (.lst []) np = some (.lst []) := upd_same
    generalize upd H1 np (.lst []) = H2 at e2 hn2 ⊢
    refine ⟨_, _, _, rfl, _, rfl, rfl, _, rfl, ?_⟩
    cases hs : spotM l with
    | some k =>
      refine ifT rfl ⟨_, rfl, by show 2 ≤ sizeLine; omega, fun T hT => q _ T (e2.trans (Same.new hT)) ?_⟩
      unfold ToldR
      rw [unfM_spot hs]
      exact ⟨_, _, upd_same, by decide⟩
    | none =>
      refine ifF rfl ?_
      obtain ⟨es, tok, rfl⟩ := spot_txt hs
      have hu := unfM_txt tok
      have hlen := txtR_len tok.2
      refine ⟨_, rfl, ⟨_, rfl⟩, S (txtR es), S [44], rfl, rfl, rfl, by rw [S_len]; omega, fun sp hsp => ?_⟩
      rw [split_txt tok]
      have hspn : sp ≠ np := fun z => by rw [z, hn2] at hsp; cases hsp
      have e3 : Same H (upd H2 sp (.lst ((es.map fun e => S (entR e)).map V.str))) := e2.trans (Same.new hsp)
      have hn3 : upd H2 sp (.lst ((es.map fun e => S (entR e)).map V.str)) np = some (.lst []) := (Same.new hsp) _ _ hn2
      have hs3 : upd H2 sp (.lst ((es.map fun e => S (entR e)).map V.str)) sp = some (.lst ((es.map fun e => S (entR e)).map V.str)) := upd_same
      generalize upd H2 sp (.lst ((es.map fun e => S (entR e)).map V.str)) = H3 at e3 hn3 hs3 ⊢
      have hlm : ((es.map fun e => S (entR e)).map V.str).length = es.length := by rw [List.length_map, List.length_map]
      refine ⟨sp, rfl, ⟨_, .inl (.inl hs3)⟩, ?_⟩
      refine for_it (walk_list (K := K) (xs := (es.map fun e => S (entR e)).map V.str)) (fun i σ H' => ∃ (np : Addr) (at_ : Int) (bs : List (Nat × Nat × Nat)) (x4 x5 x6 x7 : Option V), σ = [some (.str (S (txtR es))), some .non, some (.ref np), some (.int at_), x4, x5, x6, x7] ∧ Same H H' ∧ Same H3 H' ∧ H' np = some (.lst ((unionB bs).map vN)) ∧ allE (es.take i) = some bs ∧ (∀ n ∈ unionB bs, n ≤ 9999) ∧ (unionB bs).length ≤ i * 10000)
        ⟨np, 0, [], _, _, _, _, rfl, e3, Same.refl _, hn3, rfl, fun n hn => absurd hn List.not_mem_nil, Nat.le_refl _⟩ (fun _ _ _ _ ⟨_, _, _, _, _, _, _, _, _, h, _⟩ => .inl (.inl (h _ _ hs3))) (fun i x σ H5 H6 hi pv hy => ?_) fun σ H5 pv => ?_
      · obtain ⟨np, at_, bs, x4, x5, x6, x7, rfl, eH, e35, hn5, hall, hbd, hbl⟩ := pv
        obtain ⟨rfl, hx⟩ := hy
        obtain ⟨y, hy1, rfl⟩ := map_get hx
        rw [List.getElem?_map] at hy1
        obtain ⟨e, he1, rfl⟩ := Option.map_eq_some_iff.mp hy1
        rw [hlm] at hi
        have hem := List.mem_of_getElem? he1
        have et := tok.2 e hem
        have hel : (entR e).length ≤ 14 := ent_len et
        have hrep : Txt.replace (S (entR e)) (Str.ofString "-") (Str.ofString ":") = S (TL.joinL [58] e) := repl_ent et
        have hjl : (TL.joinL [58] e).length ≤ 14 := by rw [ent_join et]; exact hel
        refine ⟨_, rfl, S (entR e), rfl, by rw [S_len]; show _ + _ * 1 ≤ _; omega, ⟨_, rfl⟩, S (TL.joinL [58] e), S [58], by rw [hrep], rfl, rfl, by rw [S_len]; omega, fun sq hsq => ?_⟩
        rw [split_col et]
        have e6 : Same H (upd H6 sq (.lst ((e.map S).map V.str))) := eH.trans (Same.new hsq)
        have hs6 : upd H6 sq (.lst ((e.map S).map V.str)) sq = some (.lst ((e.map S).map V.str)) := upd_same
        have hn6 := (Same.new hsq (o := .lst ((e.map S).map V.str))) _ _ hn5
        have e36 := e35.trans (Same.new hsq (o := .lst ((e.map S).map V.str)))
        generalize upd H6 sq (.lst ((e.map S).map V.str)) = H7 at e6 hs6 hn6 e36 ⊢
        have O := ordS (K := K)
        have hel2 : ((e.map S).map V.str).length = e.length := by rw [List.length_map, List.length_map]
        have he3 := et.le
        refine ⟨sq, rfl, ⟨_, .inl (.inl hs6)⟩, fun D hD => ?_⟩
        refine lc_pure O (walk_list (K := K)) (fun i => (e[i]?).map fun d => vN (val d)) hD (by omega) (fun H8 e8 => O.sqL e8 (.inl (.inl hs6))) (fun i x H8 H9 Fin No hi e8 hy hF hN => ?_) fun H8 e8 hl8 => ?_
        · obtain ⟨rfl, hx⟩ := hy
          obtain ⟨y, hy1, rfl⟩ := map_get hx
          rw [List.getElem?_map] at hy1
          obtain ⟨d, hd, rfl⟩ := Option.map_eq_some_iff.mp hy1
          have dt := et.num d (List.mem_of_getElem? hd)
          refine ⟨rfl, ⟨_, rfl, S d, _, rfl, SX.int_S dt.2.2.1 dt.1 (by have := dt.2.1; omega), by rw [S_len]; have := dt.2.1; omega, ?_⟩⟩
          refine hF _ _ ?_ (Same.refl _)
          rw [hd]
          rfl
        · rw [hel2, fm_map e fun d => vN (val d)] at hl8
          have e68 : Same H H8 := e6.trans e8
          have hn8 := O.lst e8 hn6
          have e38 := e36.trans e8
          have hD8 : SqL K H8 D (e.map fun d => vN (val d)) := .inl (.inl hl8)
          have hen8 : (S (entR e)).length ≤ sizeLine := by rw [S_len]; omega
          have hen9 : (S (entR e)).length = (entR e).length := S_len _
          have hsnoc := allE_snoc (es.take i) e bs hall
          have htk : es.take (i + 1) = es.take i ++ [e] := by rw [List.take_succ, he1]; rfl
          rw [← htk] at hsnoc
          have bad : ∀ (x : V) (T : Addr) (H9 : Hp), boundsN (e.map val) = none → H9 T = none → Same H H9 → Q (.ref T) (upd H9 T (.tup [.str (Str.ofString "spot"), x]))   := fun x T H9 hb hT e9 => q _ T (e9.trans (Same.new hT)) (by
            unfold ToldR
            rw [hu, unfE, allE_no hem hb]
            exact ⟨_, _, upd_same, by decide⟩)
          clear hl8 hel hjl hel2 hx hy1
          generalize hee : entR e = et0 at hen8 hen9 ⊢
          have hcase : (∃ a, e = [a]) ∨ (∃ a b, e = [a, b]) ∨ ∃ a b c, e = [a, b, c] := ent_cases et
          have hnum := et.num
          rcases hcase with ⟨a, rfl⟩ | ⟨a, b, rfl⟩ | ⟨a, b, c, rfl⟩
          · have ha := num_val (hnum a (by simp))
            have hbn : boundsN ([a].map val) = some (val a, val a + 1, 1) := rfl
            refine ⟨_, rfl, _, _, rfl, len_l hD8, _, _, rfl, rfl, _, rfl, ?_⟩
            refine ifF (decide_eq_false (by simp)) ?_
            refine ⟨_, rfl, _, _, rfl, len_l hD8, _, _, rfl, rfl, _, rfl, ?_⟩
            refine ifF (decide_eq_false (by simp)) ?_
            refine ⟨_, rfl, _, _, rfl, len_l hD8, _, _, rfl, rfl, _, rfl, ?_⟩
            refine ifF (decide_eq_false (by simp)) ⟨_, rfl, D, _, 0, _, rfl, rfl, hD8, rfl, ?_⟩
            refine ⟨_, rfl, _, rfl, D, _, 0, _, rfl, rfl, hD8, rfl, _, rfl, _, _, rfl, rfl, _, rfl, _, _, rfl, len_l hD8, _, _, rfl, rfl, _, rfl, ?_⟩
            refine ifF (decide_eq_false (by simp)) ?_
            refine ⟨val a, val a + 1, 1, rfl, by omega, by omega, by omega, by omega, fun rp hrp => ?_⟩
            have hcl := rangeN_len (val a) (val a + 1) (1)
            have hcl2 : (rangeN (val a) (val a + 1) (1)).length ≤ 10000 := by
              rw [hcl]
              split
              · have := Nat.div_le_self ((val a + 1) - (val a) - 1) (1)
                omega
              · omega
            have hrn : rp ≠ np := fun z => by rw [z, hn8] at hrp; cases hrp
            refine ⟨np, rp, _, _, rfl, rfl, (Same.new hrp) _ _ hn8, upd_same, by rw [List.length_map, List.length_map]; omega, fun fp hfp => ?_⟩
            refine ⟨_, rfl, _, rfl, _, _, rfl, ⟨hen8, rfl⟩, _, _, rfl, rfl, _, _, rfl, rfl, ?_⟩
            refine ⟨fp, _, bs ++ [((val a), (val a + 1), (1))], _, _, _, _, rfl, (e68.trans (Same.new hrp)).trans (Same.new hfp), (e38.trans (Same.new hrp)).trans (Same.new hfp), ?_, ?_, ?_, ?_⟩
            · rw [upd_same, unionB_snoc, List.map_append]
            · rw [hsnoc, hbn]
              rfl
            · intro n hn
              rw [unionB_snoc] at hn
              rcases List.mem_append.mp hn with hn | hn
              · exact hbd n hn
              · have hlt := (rangeN_lt hn).2
                have hlt : n < _ + 1 := hlt
                omega
            · rw [unionB_snoc, List.length_append, Nat.add_mul]
              show _ + (rangeN (val a) (val a + 1) (1)).length ≤ _
              omega
          · have ha := num_val (hnum a (by simp))
            have hb := num_val (hnum b (by simp))
            refine ⟨_, rfl, _, _, rfl, len_l hD8, _, _, rfl, rfl, _, rfl, ?_⟩
            refine ifT (decide_eq_true (by simp)) ?_
            refine ⟨_, rfl, D, _, 0, _, rfl, rfl, hD8, rfl, _, rfl, D, _, 1, _, rfl, rfl, hD8, rfl, _, _, rfl, rfl, _, rfl, ?_⟩
            by_cases hba : val b ≤ val a
            · have hbn : boundsN ([a, b].map val) = none := if_pos hba
              refine ifT (decide_eq_true (by omega)) ⟨_, rfl, _, rfl, D, _, 0, _, rfl, rfl, hD8, rfl, val a, rfl, by omega, _, _, rfl, ⟨by rw [S_len]; have := num_len ha; omega, rfl⟩, _, _, rfl, rfl, _, _, rfl, rfl, by show 2 ≤ sizeLine; omega, fun T hT => bad _ T H8 hbn hT e68⟩
            · have hbn : boundsN ([a, b].map val) = some (val a, val b + 1, 1) := if_neg hba
              refine ifF (decide_eq_false (by omega)) ?_
              refine ⟨_, rfl, _, _, rfl, len_l hD8, _, _, rfl, rfl, _, rfl, ?_⟩
              refine ifF (decide_eq_false (by simp)) ?_
              refine ⟨_, rfl, _, _, rfl, len_l hD8, _, _, rfl, rfl, _, rfl, ?_⟩
              refine ifT (decide_eq_true (by simp)) ⟨_, rfl, D, _, 1, _, rfl, rfl, hD8, rfl, ?_⟩
              refine ⟨_, rfl, _, rfl, D, _, 0, _, rfl, rfl, hD8, rfl, _, rfl, _, _, rfl, rfl, _, rfl, _, _, rfl, len_l hD8, _, _, rfl, rfl, _, rfl, ?_⟩
              refine ifF (decide_eq_false (by simp)) ?_
              refine ⟨val a, val b + 1, 1, rfl, by omega, by omega, by omega, by omega, fun rp hrp => ?_⟩
              have hcl := rangeN_len (val a) (val b + 1) (1)
              have hcl2 : (rangeN (val a) (val b + 1) (1)).length ≤ 10000 := by
                rw [hcl]
                split
                · have := Nat.div_le_self ((val b + 1) - (val a) - 1) (1)
                  omega
                · omega
              have hrn : rp ≠ np := fun z => by rw [z, hn8] at hrp; cases hrp
              refine ⟨np, rp, _, _, rfl, rfl, (Same.new hrp) _ _ hn8, upd_same, by rw [List.length_map, List.length_map]; omega, fun fp hfp => ?_⟩
              refine ⟨_, rfl, _, rfl, _, _, rfl, ⟨hen8, rfl⟩, _, _, rfl, rfl, _, _, rfl, rfl, ?_⟩
              refine ⟨fp, _, bs ++ [((val a), (val b + 1), (1))], _, _, _, _, rfl, (e68.trans (Same.new hrp)).trans (Same.new hfp), (e38.trans (Same.new hrp)).trans (Same.new hfp), ?_, ?_, ?_, ?_⟩
              · rw [upd_same, unionB_snoc, List.map_append]
              · rw [hsnoc, hbn]
                rfl
              · intro n hn
                rw [unionB_snoc] at hn
                rcases List.mem_append.mp hn with hn | hn
                · exact hbd n hn
                · have hlt := (rangeN_lt hn).2
                  have hlt : n < _ + 1 := hlt
                  omega
              · rw [unionB_snoc, List.length_append, Nat.add_mul]
                show _ + (rangeN (val a) (val b + 1) (1)).length ≤ _
                omega
          · have ha := num_val (hnum a (by simp))
            have hb := num_val (hnum b (by simp))
            have hc := num_val (hnum c (by simp))
            refine ⟨_, rfl, _, _, rfl, len_l hD8, _, _, rfl, rfl, _, rfl, ?_⟩
            refine ifT (decide_eq_true (by simp)) ?_
            refine ⟨_, rfl, D, _, 0, _, rfl, rfl, hD8, rfl, _, rfl, D, _, 1, _, rfl, rfl, hD8, rfl, _, _, rfl, rfl, _, rfl, ?_⟩
            by_cases hba : val b ≤ val a
            · have hbn : boundsN ([a, b, c].map val) = none := if_pos hba
              refine ifT (decide_eq_true (by omega)) ⟨_, rfl, _, rfl, D, _, 0, _, rfl, rfl, hD8, rfl, val a, rfl, by omega, _, _, rfl, ⟨by rw [S_len]; have := num_len ha; omega, rfl⟩, _, _, rfl, rfl, _, _, rfl, rfl, by show 2 ≤ sizeLine; omega, fun T hT => bad _ T H8 hbn hT e68⟩
            · refine ifF (decide_eq_false (by omega)) ?_
              refine ⟨_, rfl, _, _, rfl, len_l hD8, _, _, rfl, rfl, _, rfl, ?_⟩
              refine ifT (decide_eq_true (by simp)) ?_
              refine ⟨_, rfl, D, _, 2, _, rfl, rfl, hD8, rfl, rfl, _, rfl, ?_⟩
              by_cases hc0 : val c = 0
              · have hbn : boundsN ([a, b, c].map val) = none := (if_neg hba).trans (if_pos hc0)
                refine ifT (decide_eq_true (by show V.int (val c : Int) = _; rw [hc0]; rfl)) ⟨_, rfl, _, rfl, _, _, rfl, ⟨hen8, rfl⟩, _, _, rfl, rfl, _, _, rfl, rfl, by show 2 ≤ sizeLine; omega, fun T hT => bad _ T H8 hbn hT e68⟩
              · have hbn : boundsN ([a, b, c].map val) = some (val a, val b + 1, val c) := (if_neg hba).trans (if_neg hc0)
                refine ifF (decide_eq_false fun z => hc0 (by have z : V.int (val c : Int) = V.int 0 := z; injection z with z; omega)) ?_
                refine ⟨_, rfl, _, _, rfl, len_l hD8, _, _, rfl, rfl, _, rfl, ?_⟩
                refine ifT (decide_eq_true (by simp)) ⟨_, rfl, D, _, 1, _, rfl, rfl, hD8, rfl, ?_⟩
                refine ⟨_, rfl, _, rfl, D, _, 0, _, rfl, rfl, hD8, rfl, _, rfl, _, _, rfl, rfl, _, rfl, _, _, rfl, len_l hD8, _, _, rfl, rfl, _, rfl, ?_⟩
                refine ifT (decide_eq_true (by simp)) ⟨_, rfl, D, _, 2, _, rfl, rfl, hD8, rfl, ?_⟩
                refine ⟨val a, val b + 1, val c, rfl, by omega, by omega, by omega, by omega, fun rp hrp => ?_⟩
                have hcl := rangeN_len (val a) (val b + 1) (val c)
                have hcl2 : (rangeN (val a) (val b + 1) (val c)).length ≤ 10000 := by
                  rw [hcl]
                  split
                  · have := Nat.div_le_self ((val b + 1) - (val a) - 1) (val c)
                    omega
                  · omega
                have hrn : rp ≠ np := fun z => by rw [z, hn8] at hrp; cases hrp
                refine ⟨np, rp, _, _, rfl, rfl, (Same.new hrp) _ _ hn8, upd_same, by rw [List.length_map, List.length_map]; omega, fun fp hfp => ?_⟩
                refine ⟨_, rfl, _, rfl, _, _, rfl, ⟨hen8, rfl⟩, _, _, rfl, rfl, _, _, rfl, rfl, ?_⟩
                refine ⟨fp, _, bs ++ [((val a), (val b + 1), (val c))], _, _, _, _, rfl, (e68.trans (Same.new hrp)).trans (Same.new hfp), (e38.trans (Same.new hrp)).trans (Same.new hfp), ?_, ?_, ?_, ?_⟩
                · rw [upd_same, unionB_snoc, List.map_append]
                · rw [hsnoc, hbn]
                  rfl
                · intro n hn
                  rw [unionB_snoc] at hn
                  rcases List.mem_append.mp hn with hn | hn
                  · exact hbd n hn
                  · have hlt := (rangeN_lt hn).2
                    have hlt : n < _ + 1 := hlt
                    omega
                · rw [unionB_snoc, List.length_append, Nat.add_mul]
                  show _ + (rangeN (val a) (val b + 1) (val c)).length ≤ _
                  omega
      · obtain ⟨np, at_, bs, x4, x5, x6, x7, rfl, eH, e35, hn5, hall, hbd, hbl⟩ := pv
        rw [hlm, List.take_length] at hall
        have hue : unfM (txtR es) = if (sortU (unionB bs)).length ≤ 60 then some (sortU (unionB bs)) else none := by
          rw [hu]
          unfold unfE
          rw [hall]
        have hn5' : SqL K H5 np ((unionB bs).map vN) := .inl (.inl hn5)
        have hlen2 := txtR_len2 tok.2
        rw [hlm] at hbl
        refine ⟨_, rfl, np, unionB bs, rfl, hn5', hbd, by omega, fun L sp2 hL hsp2 => ?_⟩
        have e7 : Same H (upd H5 sp2 (.lst (L.map vN))) := eH.trans (Same.new hsp2)
        have hs7 : upd H5 sp2 (.lst (L.map vN)) sp2 = some (.lst (L.map vN)) := upd_same
        generalize upd H5 sp2 (.lst (L.map vN)) = H7 at e7 hs7 ⊢
        refine ⟨_, rfl, _, _, rfl, len_l (.inl (.inl hs7)), _, _, rfl, rfl, _, rfl, ?_⟩
        rw [List.length_map]
        by_cases h60 : (sortU (unionB bs)).length ≤ 60
        · have hL1 : L = sortU (unionB bs) := hL.elim id fun z => absurd z.2 (by omega)
          subst hL1
          refine ifF (decide_eq_false (by omega)) ⟨_, rfl, by show 2 ≤ sizeLine; omega, fun T hT => q _ T (e7.trans (Same.new hT)) ?_⟩
          unfold ToldR
          rw [hue, if_pos h60]
          exact ⟨sp2, upd_same, (Same.new hT) _ _ hs7⟩
        · have hL1 : 60 < L.length := by
            rcases hL with z | z
            · rw [z]
              omega
            · exact z.1
          refine ifT (decide_eq_true (by omega)) ⟨by show 1 ≤ sizeLine; omega, fun T hT => q _ T (e7.trans (Same.new hT)) ?_⟩
          unfold ToldR
          rw [hue, if_neg h60]
          exact ⟨_, _, upd_same, by decide⟩
end
end K28

set_option Elab.async false
set_option linter.all false
set_option maxRecDepth 100000
set_option maxHeartbeats 4000000
namespace K28
open PySem PySem.Spec PyProof.Rows L2
/-! ## the law's reader of numbers -/
theorem fm_bind {α β : Type} (g : α → Option β) : ∀ l : List α, (List.range l.length).filterMap (fun i => (l[i]?).bind g) = l.filterMap g
  | [] => rfl
  | a :: l => by
    have ih := fm_bind g l
    rw [List.length_cons, List.range_succ_eq_map, List.filterMap_cons, List.filterMap_cons, List.filterMap_map, ← ih]
    rfl
theorem fm_dig (f : Nat → V) : ∀ l : List Nat, (l.filterMap fun x => if isDig x = true then none else some (f x)) = [] ↔ l.all isDig = true
  | [] => ⟨fun _ => rfl, fun _ => rfl⟩
  | a :: l => by
    have ih := fm_dig f l
    rw [List.filterMap_cons, List.all_cons]
    by_cases h : isDig a = true
    · rw [if_pos h, h, Bool.true_and]
      exact ih
    · rw [if_neg h, Bool.not_eq_true _ |>.mp h, Bool.false_and]
      exact ⟨fun z => (nomatch z), fun z => (nomatch z)⟩
def plainN (l : List Nat) : Nat := (plainM 7 1000000 l).getD 0
def spPlainT : Sp := fun vs H Q _ => ∃ l : List Nat, vs = [.str (S l)] ∧ l.length ≤ 100000 ∧ ∀ H', Same H H' → Q (vN (plainN l)) H'
section
variable {P : Program} {w : World} {K : PySem.W.Frag} {mg : Str → Option Value} {base : Heap}
theorem ok_l_plain (T : Tx K mg) : Fk P w K mg base "_law_plain" 1 ["_law_text"] spPlainT := by
  refine Fk.mk0 T.g_l_plain T.d_l_plain sc_l_plain (fun vs H Q E h => ?_) (fun _ _ _ _ _ _ us hl => match us, hl with | [_], _ => rfl) fun cdv A outer s H vs Q E hr h => ⟨_,
      (pss_cons (ps_if (PW.pt (pw_or (pt_not (pt_chain op_lt op_lt pe_int (pe_callB call_len (by rfl) T.m_len boot_len (pa_cons (pv 0) pa_nil)) pe_int)) (pw_or (pt_cmpR op_eq (pe_ix ix_str (pv 0) pe_int (fun _ _ => rfl)) pe_str (nomark _)) (pw_or1 (pt_cmpR (op_neE hr.units0) (pe_lc (own := [("_law_sign", 1)]) (g := gName 1) rfl sc_l_plain.nd (pi_str (pv 0)) (blkOk_by (own := [("_law_sign", 1)]) (N := N_l_plain) (sc := defScope s_l_plain) (by decide +kernel)) (fun _ _ _ _ _ => (pg_name (i := 1) sc_l_plain.nd rfl (Or.inl rfl))) (fun _ _ _ _ _ => pts_one (pt_cmpR op_notIn_sign (pv 1) pe_str rfl)) (fun _ _ _ _ _ => (pv 1))) (pe_lst pa_nil) (nomark _)))))) (pss_one (ps_ret pe_int)) pss_nil)
      (pss_one (ps_ret (pe_ifExp (pt_cmpR op_le (pe_callTy call_int_str (by rfl) T.m_int (by decide +kernel) (pa_cons (pv 0) pa_nil)) pe_int (nomark _)) (pe_callTy call_int_str (by rfl) T.m_int (by decide +kernel) (pa_cons (pv 0) pa_nil)) pe_int)))), ?_⟩
  · obtain ⟨_, rfl, _⟩ := h
    rfl
  · obtain ⟨l, rfl, hl, q⟩ := h
    have sl : sizeLine = 16777216 := sizeLine_eq
    have hzl : (S l).length ≤ sizeLine := by rw [S_len]; omega
    have O := ordS (K := K)
    have no : plainN l = 0 → ∀ H', Same H H' → Q (vN 0) H' := fun h H' e => by
      have := q H' e
      rw [h] at this
      exact this
    refine ⟨_, rfl, _, _, rfl, ⟨hzl, rfl⟩, _, _, rfl, rfl, _, rfl, ?_⟩
    rw [S_len]
    have hpl : plainM 7 1000000 l = if (1 ≤ l.length ∧ l.length ≤ 7) ∧ l.all isDig = true then (if (l.head? = some 48 ∧ 1 < l.length) ∨ 1000000 < val l then none else some (val l)) else none := rfl
    by_cases h1 : 0 < l.length
    · refine ifT (decide_eq_true (by omega)) ⟨_, _, rfl, rfl, _, rfl, ?_⟩
      by_cases h2 : l.length < 8
      · refine ifF (by rw [decide_eq_true (show (l.length : Int) < 8 by omega)]; rfl) ?_
        obtain ⟨c, r, rfl⟩ : ∃ c r, l = c :: r := by
          cases l with
          | nil => simp at h1
          | cons c r => exact ⟨c, r, rfl⟩
        have h0 : atI (S (c :: r)).cps.toList 0 = some c := atI_nat (xs := (S (c :: r)).cps.toList) (j := 0) rfl
        refine ⟨_, rfl, _, _, c, rfl, rfl, hzl, h0, rfl, _, rfl, ?_⟩
        rw [show decide (V.str (S [c]) = V.str (Str.ofString "0")) = decide (c = 48) from sgn rfl]
        by_cases h48 : c = 48
        · refine ifT (decide_eq_true h48) ?_
          refine ifT rfl (no ?_ H (Same.refl _))
          unfold plainN
          rw [hpl]
          by_cases ha : (1 ≤ (c :: r).length ∧ (c :: r).length ≤ 7) ∧ (c :: r).all isDig = true
          · rw [if_pos ha]
            by_cases hl1 : 1 < (c :: r).length
            · rw [if_pos (.inl ⟨by rw [h48]; rfl, hl1⟩)]
              rfl
            · have hr : r = [] := List.eq_nil_of_length_eq_zero (by rw [List.length_cons] at hl1; omega)
              rw [hr, h48]
              rfl
          · rw [if_neg ha]
            rfl
        · refine ifF (decide_eq_false h48) ?_
          have e4 : (S (c :: r)).cps.size = (c :: r).length := S_len _
          refine ⟨_, rfl, _, rfl, fun D hD => ?_⟩
          refine lc_pure O walk_str (fun i => ((c :: r)[i]?).bind fun x => if isDig x = true then none else some (.str (S [x]))) hD (by show (S (c :: r)).length ≤ _; rw [S_len]; omega) (fun H1 e => trivial) (fun i x H1 H2 Fin No hi e hy hF hN => ?_) fun H1 e hl1 => ?_
          · obtain ⟨rfl, hx⟩ := hy
            obtain ⟨d, hd, rfl⟩ := sign_at hx
            refine ⟨rfl, ⟨_, rfl, d, _, rfl, rfl, _, rfl, ?_⟩⟩
            rw [mem_digits]
            by_cases hdig : isDig d = true
            · refine ifF (by rw [hdig]; rfl) (hN _ ?_ (Same.refl _))
              rw [hd]
              exact if_pos hdig
            · refine ifT (by rw [Bool.not_eq_true _ |>.mp hdig]; rfl) ⟨_, rfl, hF _ _ ?_ (Same.refl _)⟩
              rw [hd]
              exact if_neg hdig
          · rw [e4, fm_bind] at hl1
            have hfd := fm_dig (fun x => .str (S [x])) (c :: r)
            refine ⟨Nat.zero_le _, fun E hE => ⟨D, E, _, rfl, rfl, .inl ⟨.inl (.inl ((Same.new hE) _ _ hl1)), .inl (.inl upd_same)⟩, _, rfl, ?_⟩⟩
            have e2 : Same H (upd H1 E (.lst [])) := e.trans (Same.new hE)
            generalize upd H1 E (.lst []) = H2 at e2 ⊢
            rw [show ((c :: r).filterMap fun x => if isDig x = true then none else some (V.str (S [x]))).isEmpty = (c :: r).all isDig from by
              rw [Bool.eq_iff_iff, List.isEmpty_iff]
              exact hfd]
            by_cases ha : (c :: r).all isDig = true
            · refine ifF (by rw [ha]; rfl) ?_
              have hv : PySem.intText? (S (c :: r)) = some ((val (c :: r) : Nat) : Int) := SX.int_S ha (by simp) (by omega)
              have hz : (S (c :: r)).length ≤ 640 := by rw [S_len]; omega
              have hpn : plainN (c :: r) = if val (c :: r) ≤ 1000000 then val (c :: r) else 0 := by
                unfold plainN
                rw [hpl, if_pos ⟨⟨h1, by omega⟩, ha⟩]
                by_cases hv : val (c :: r) ≤ 1000000
                · rw [if_neg fun z => z.elim (fun z => h48 (Option.some.inj z.1)) fun z => by omega, if_pos hv]
                  rfl
                · rw [if_pos (.inr (by omega)), if_neg hv]
                  rfl
              have q2 := q H2 e2
              refine ⟨_, rfl, S (c :: r), _, rfl, hv, hz, _, _, rfl, rfl, _, rfl, ?_⟩
              by_cases hv1 : val (c :: r) ≤ 1000000
              · rw [hpn, if_pos hv1] at q2
                exact ifT (decide_eq_true (by omega)) ⟨_, rfl, S (c :: r), _, rfl, hv, hz, q2⟩
              · rw [hpn, if_neg hv1] at q2
                exact ifF (decide_eq_false (by omega)) q2
            · refine ifT (by rw [Bool.not_eq_true _ |>.mp ha]; rfl) (no ?_ H2 e2)
              unfold plainN
              rw [hpl, if_neg fun z => ha z.2]
              rfl
      · refine ifT (by rw [decide_eq_false (show ¬ (l.length : Int) < 8 by omega)]; rfl) (ifT rfl (no ?_ H (Same.refl _)))
        unfold plainN
        rw [hpl, if_neg fun z => h2 (by omega)]
        rfl
    · refine ifF (decide_eq_false (by omega)) ⟨_, rfl, ?_⟩
      refine ifT rfl (ifT rfl (no ?_ H (Same.refl _)))
      unfold plainN
      rw [hpl, if_neg fun z => h1 (by omega)]
      rfl
end
end K28

set_option Elab.async false
set_option linter.all false
set_option maxRecDepth 100000
set_option maxHeartbeats 4000000
namespace K28
open PySem PySem.Spec PyProof.Rows L2
/-! ## what the law's reader is told by the beginning of a line -/
theorem one_ok {a : List Nat} (h : NumT a) : TxtOk [[a]] ∧ a = txtR [[a]] := by
  refine ⟨⟨List.cons_ne_nil _ _, fun e he => ?_⟩, ?_⟩
  · rw [List.mem_singleton.mp he]
    exact ⟨List.cons_ne_nil _ _, by simp, fun d hd => by rw [List.mem_singleton.mp hd]; exact h⟩
  · show a = (a ++ []) ++ []
    simp
theorem num_unf {a : List Nat} (h : NumT a) : unfM a = some [val a] := by
  obtain ⟨h1, h2⟩ := one_ok h
  have h3 := unfM_txt h1
  rw [← h2] at h3
  rw [h3]
  have e : allE [[a]] = some [(val a, val a + 1, 1)] := rfl
  unfold unfE
  rw [e]
  show (if (sortU (unionB [(val a, val a + 1, 1)])).length ≤ 60 then some (sortU (unionB [(val a, val a + 1, 1)])) else none) = _
  have e2 : unionB [(val a, val a + 1, 1)] = [val a] := by
    unfold unionB rangeN
    simp
  rw [e2]
  rfl
theorem plain_num {l : List Nat} {n : Nat} (h : plainM 4 9999 l = some n) : NumT l ∧ n = val l := by
  unfold plainM at h
  by_cases h1 : (1 ≤ l.length ∧ l.length ≤ 4) ∧ l.all isDig = true
  · rw [if_pos h1] at h
    by_cases h2 : (l.head? = some 48 ∧ 1 < l.length) ∨ 9999 < val l
    · rw [if_pos h2] at h
      cases h
    · rw [if_neg h2] at h
      refine ⟨⟨fun z => by rw [z] at h1; simp at h1, h1.1.2, h1.2, fun z => ?_⟩, (Option.some.inj h).symm⟩
      have : ¬ 1 < l.length := fun q => h2 (.inl ⟨z, q⟩)
      omega
  · rw [if_neg h1] at h
    cases h
theorem num_plain {l : List Nat} (h : NumT l) : plainM 4 9999 l = some (val l) := by
  have hv := num_val h
  obtain ⟨h1, h2, h3, h4⟩ := h
  have := List.length_pos_iff.mpr h1
  unfold plainM
  rw [if_pos ⟨⟨by omega, h2⟩, h3⟩, if_neg]
  rintro (z | z)
  · have := h4 z.1
    omega
  · omega
theorem told_plain {l : List Nat} (hb : brackB l = false) : toldI l = if 44 ∈ l ∨ 45 ∈ l then [] else (unfM l).getD [] := by
  unfold toldI
  rw [if_neg (by rw [hb]; decide)]
  cases hp : plainM 4 9999 l with
  | some n =>
    obtain ⟨h1, rfl⟩ := plain_num hp
    rw [if_neg (fun z => z.elim (num_no h1 (by decide)) (num_no h1 (by decide))), num_unf h1]
    rfl
  | none =>
    by_cases h : 44 ∈ l ∨ 45 ∈ l
    · rw [if_pos h]
    · rw [if_neg h, unfM_no, Option.getD_none]
      rintro ⟨es, tok, rfl⟩
      match es, tok with
      | [], tok => exact tok.1 rfl
      | [[]], tok => exact (tok.2 [] (by simp)).ne rfl
      | [[a]], tok =>
        have := (tok.2 [a] (by simp)).num a (by simp)
        rw [← (one_ok this).2, num_plain this] at hp
        cases hp
      | [a :: b :: m], tok =>
        refine h (.inr ?_)
        show 45 ∈ (a ++ 45 :: (b ++ moreR 1 m)) ++ []
        simp
      | e :: e' :: r, tok =>
        refine h (.inl ?_)
        show 44 ∈ entR e ++ 44 :: (entR e' ++ restR r)
        simp
theorem pe_bmTK {X : Cx} {K : PySem.W.Frag} (hK : X.K = K) {o e : Expr} {to : TE} {t : TA} {name : Str} {apos cpos : Pos} {id : String} {r : V → List V → Hp → VK → Prop} (sl : Slot "tuple" name id) (ty : typeOf (.builtin id) = pure (.type "method_descriptor")) (hm : MtR X id r) (ho : PE X o to) (ha : PA X [e] t)
    (hbase : attributeBase o name X.env (eval o X.env) = eval o X.env := by rfl)
    (hfew : ((backTo cpos (starEach [e] X.env)).all (fun x => !x.1) && (backToKw cpos (keywordEach [] X.env)).all (fun x => x.1.isSome) && decide ([e].length + ([] : List Keyword).length + (if ([] : List Keyword).isEmpty then 0 else 1) < 30)) = true := by rfl)
    (hline : (apos.endLine == cpos.line) = true := by rfl) (hs : starEach [e] X.env = [(false, eval e X.env)] := by rfl) : PE X (.Call (.Attribute o name apos) [e] [] cpos) (tBMT K r to t) := by
  subst hK
  exact pe_bmT sl ty hm ho ha hbase hfew hline hs
theorem tNext_use {D : Ends} {σ : L2.St} {H : Hp} (h : D.nx σ H) : tNext D σ H := h
theorem tSeq_use {t u : TS} {D : Ends} {σ : L2.St} {H : Hp} (h : t { D with nx := u D } σ H) : tSeq t u D σ H := h
theorem tAsg_use {te : TE} {g : TG} {D : Ends} {σ : L2.St} {H : Hp} (h : te σ H fun x H1 => g x σ H1 D.nx) : tAsg te g D σ H := h
theorem tIf_use {t : VK → Prop} {v : V} {H : Hp} {C : VK} (h : ∀ C : VK, C v H → t C) (c : C v H) : t C := h C c
theorem inner_law {b : List Nat} (hb : b.length ≤ 1000) : ∃ ib : List Nat, ib.length ≤ 1000 ∧ (toldI b = if ib = b ∧ (44 ∈ b ∨ 45 ∈ b) then [] else (unfM ib).getD []) ∧ (brackB b = true → 2 ≤ b.length ∧ ib = inner b) ∧ (brackB b = false → ib = b) := by
  cases hbr : brackB b with
  | false =>
    refine ⟨b, hb, ?_, fun z => (nomatch z), fun _ => rfl⟩
    rw [told_plain hbr]
    simp
  | true =>
    have hti : toldI b = (unfM (inner b)).getD [] := by
      unfold toldI
      exact if_pos hbr
    unfold brackB at hbr
    rw [Bool.and_eq_true, decide_eq_true_iff, decide_eq_true_iff] at hbr
    obtain ⟨h1, h2⟩ := hbr
    have hl2 : 2 ≤ b.length := by
      match b, h1, h2 with
      | [a], h1, h2 =>
        rw [List.head?_cons] at h1
        rw [List.getLast?_singleton] at h2
        rw [h1] at h2
        exact absurd (Option.some.inj h2) (by decide)
      | a :: b :: r, _, _ => simp
    have hil : (inner b).length = b.length - 2 := by
      unfold inner
      rw [List.length_take, List.length_drop]
      omega
    refine ⟨inner b, by omega, ?_, fun _ => ⟨hl2, rfl⟩, fun z => (nomatch z)⟩
    rw [if_neg fun z => by have := congrArg List.length z.1; omega]
    exact hti
theorem ixOf_first {z : Nat} {ns : List Nat} : ∀ m, m < ixOf z ns → ns[m]? ≠ some z := fun m hm e => by
  have h1 := List.not_of_lt_findIdx (p := fun n => decide (n = z)) hm
  obtain ⟨h2, h3⟩ := List.getElem?_eq_some_iff.mp e
  rw [h3] at h1
  simp at h1
theorem fm_in (ks : List Nat) : ∀ ns : List Nat, (ns.filterMap fun z => if z ∈ ks then none else some (vN z)) = [] ↔ ns.all (fun z => decide (z ∈ ks)) = true
  | [] => ⟨fun _ => rfl, fun _ => rfl⟩
  | a :: l => by
    have ih := fm_in ks l
    rw [List.filterMap_cons, List.all_cons]
    by_cases h : a ∈ ks
    · rw [if_pos h, decide_eq_true h, Bool.true_and]
      exact ih
    · rw [if_neg h, decide_eq_false h, Bool.false_and]
      exact ⟨fun z => (nomatch z), fun z => (nomatch z)⟩
def spLNums (K : PySem.W.Frag) : Sp := fun vs H Q _ => ∃ (a : Addr) (ps : List Addr) (rs : List Rw) (l : List Nat), vs = [.ref a, .str (S l)] ∧ SqL K H a (ps.map V.ref) ∧ LRs K H ps rs ∧ rs.length ≤ 60 ∧ l.length ≤ 1000 ∧ ∀ H' p, Same H H' → H' p = some (.lst ((toldN rs l).map vN)) → Q (.ref p) H'
section
variable {P : Program} {w : World} {K : PySem.W.Frag} {mg : Str → Option Value} {base : Heap}
theorem ok_l_numbers (T : Tx K mg) : Fk P w K mg base "_law_numbers" 3 ["_law_rows", "_law_head"] (spLNums K) := by
  refine Fk.mk0 T.g_l_numbers T.d_l_numbers sc_l_numbers (fun vs H Q E h => ?_) (fun _ _ _ _ _ _ us hl => match us, hl with | [_, _], _ => rfl) fun cdv A outer s H vs Q E hr h => ⟨_,
      (pss_cons (ps_asg (pe_partition (pv 1) pe_str) (pg_tup rfl (pgs_cons (pg_name (i := 2) sc_l_numbers.nd rfl (Or.inl rfl)) (pgs_cons (pg_name (i := 3) sc_l_numbers.nd rfl (Or.inl rfl)) (pgs_cons (pg_name (i := 4) sc_l_numbers.nd rfl (Or.inl rfl)) pgs_nil)))))
      (pss_cons (ps_set (i := 5) sc_l_numbers.nd rfl (Or.inl rfl) (pe_f (ok_l_plain T) (hr.mono (by decide)) (pa_cons (pv 2) pa_nil)))
      (pss_cons (ps_if (pt_cmpR op_eq (pv 5) pe_int (nomark _)) (pss_one (ps_ret (pe_lst pa_nil))) pss_nil)
      (pss_cons (ps_set (i := 6) sc_l_numbers.nd rfl (Or.inr rfl) (pe_f (ok_l_likes_of T) (hr.mono (by decide)) (pa_cons (pv 0) (pa_cons (pv 5) pa_nil))))
      (pss_cons (ps_if (pt_cmpR op_eq (pv 3) pe_str (nomark _)) (pss_one (ps_ret (pe_ifExp (pt_cmpR op_isN (pv 6) pe_non (nomark _)) (pe_lst (pa_cons (pv 5) pa_nil)) (pe_lst pa_nil)))) pss_nil)
      (pss_cons (ps_if (PW.pt (pw_or (pt_cmpR op_isN (pv 6) pe_non (nomark _)) (pw_or1 (pt_cmpR op_ne (pe_ix ix_tup (pv 6) pe_int (fun _ _ => rfl)) (pv 5) (nomark _))))) (pss_one (ps_ret (pe_lst pa_nil))) pss_nil)
      (pss_cons (ps_set (i := 7) sc_l_numbers.nd rfl (Or.inl rfl) (pe_ifExp (PW.pt (pw_and (pt_cmpR op_eq (pe_slice sl_str (pv 4) po_none (po_some pe_int)) pe_str (nomark _)) (pw_and1 (pt_cmpR op_eq (pe_slice sl_str (pv 4) (po_some (pe_un un_neg pe_int)) po_none) pe_str (nomark _))))) (pe_slice sl_str (pv 4) (po_some pe_int) (po_some (pe_un un_neg pe_int))) (pv 4)))
      (pss_cons (ps_set (i := 8) sc_l_numbers.nd rfl (Or.inl rfl) (pe_f (ok_l_likes_told T) (hr.mono (by decide)) (pa_cons (pv 7) pa_nil)))
      (pss_cons (ps_if (PW.pt (pw_or (pt_cmpR op_ne (pe_ix ix_tup (pv 8) pe_int (fun _ _ => rfl)) pe_str (nomark _)) (pw_or1 (pt_cmpR (op_neE hr.units0) (pe_lc (own := [("_law_one", 9)]) (g := gName 9) rfl sc_l_numbers.nd (pi_list (pe_ix ix_tup (pv 8) pe_int (fun _ _ => rfl))) (blkOk_by (own := [("_law_one", 9)]) (N := N_l_numbers) (sc := defScope s_l_numbers) (by decide +kernel)) (fun _ _ _ _ _ => (pg_name (i := 9) sc_l_numbers.nd rfl (Or.inl rfl))) (fun _ _ _ _ _ => pts_one (pt_cmpR (show OpR _ _ (rIn K true) from op_notIn_seq) (pv 9) (pe_ix (show IxR _ (rIxT K) from ix_tup) (pv 6) pe_int (fun _ _ => rfl)) (by first | rfl | with_unfolding_all rfl))) (fun _ _ _ _ _ => (pv 9))) (pe_lst pa_nil) (nomark _))))) (pss_one (ps_ret (pe_lst pa_nil))) pss_nil)
      (pss_cons (ps_if (PW.pt (pw_and (pt_cmpR op_eq (pv 7) (pv 4) (nomark _)) (pw_and1 (PW.pt (pw_or (pt_cmpR op_in_sign pe_str (pv 4) rfl) (pw_or1 (pt_cmpR op_in_sign pe_str (pv 4) rfl))))))) (pss_one (ps_ret (pe_lst pa_nil))) pss_nil)
      (pss_one (ps_ret (pe_lc (own := [("_law_one", 9)]) (g := gName 9) rfl sc_l_numbers.nd (pi_list (pe_ix ix_tup (pv 8) pe_int (fun _ _ => rfl))) (blkOk_by (own := [("_law_one", 9)]) (N := N_l_numbers) (sc := defScope s_l_numbers) (by decide +kernel)) (fun _ _ _ _ _ => (pg_name (i := 9) sc_l_numbers.nd rfl (Or.inl rfl))) (fun _ _ _ _ _ => pts_nil) (fun _ _ _ _ _ => (pe_op op_add (pe_ix (show IxR _ (rIxT K) from ix_tup) (pv 6) pe_int (fun _ _ => rfl)) (pe_bmTK (K := K) rfl PySem.F.slot_tuple_index PySem.F.type_tuple_index (show MtR _ _ (rTupIx K) from mt_tupIx) (pe_ix (show IxR _ (rIxT K) from ix_tup) (pv 6) pe_int (fun _ _ => rfl)) (pa_cons (pv 9) pa_nil))))))))))))))))), ?_⟩
  · obtain ⟨_, _, _, _, rfl, _⟩ := h
    rfl
  · obtain ⟨a, ps, rs, l, rfl, hS, lr, hr60, hl, q⟩ := h
    have sl : sizeLine = 16777216 := sizeLine_eq
    have O := ordS (K := K)
    obtain ⟨c1, c2⟩ := cut_len 46 l
    refine ⟨_, rfl, ⟨_, rfl⟩, S l, S [46], rfl, rfl, rfl, by rw [S_len]; omega, fun p hp => ?_⟩
    have hpe := part_eq 46 l
    have hp1 : upd H p (.tup [.str (Txt.partition (S l) (S [46])).1, .str (Txt.partition (S l) (S [46])).2.1, .str (Txt.partition (S l) (S [46])).2.2]) p = some (.tup [.str (S (cutAt 46 l)), .str (S (if 46 ∈ l then [46] else [])), .str (S (behind 46 l))]) := by
      rw [upd_same, hpe]
    have e1 : Same H (upd H p (.tup [.str (Txt.partition (S l) (S [46])).1, .str (Txt.partition (S l) (S [46])).2.1, .str (Txt.partition (S l) (S [46])).2.2])) := Same.new hp
    generalize upd H p (.tup [.str (Txt.partition (S l) (S [46])).1, .str (Txt.partition (S l) (S [46])).2.1, .str (Txt.partition (S l) (S [46])).2.2]) = H1 at hp1 e1 ⊢
    refine ⟨_, _, rfl, .of hp1, rfl, _, _, rfl, _, _, rfl, _, _, rfl, rfl, ?_⟩
    have emp : ∀ H2, Same H H2 → toldN rs l = [] → ∀ p, H2 p = none → Q (.ref p) (upd H2 p (.lst [])) := fun H2 e2 h0 p hp => q _ p (e2.trans (Same.new hp)) (by rw [h0]; exact upd_same)
    refine ⟨_, rfl, cutAt 46 l, rfl, by omega, fun H2 e2 => ?_⟩
    have e12 := e1.trans e2
    generalize hnn : plainN (cutAt 46 l) = n
    refine ⟨_, rfl, rfl, _, rfl, ?_⟩
    by_cases hn0 : n = 0
    · have h0 : toldN rs l = [] := by
        unfold plainN at hnn
        unfold toldN
        cases hpn : plainM 7 1000000 (cutAt 46 l) with
        | none => rfl
        | some m =>
          rw [hpn] at hnn
          have hnn : m = n := hnn
          exact if_pos (hnn.trans hn0)
      exact ifT (decide_eq_true (by rw [hn0]; rfl)) ⟨Nat.zero_le _, fun p hp => emp H2 e12 h0 p hp⟩
    have hpn : plainM 7 1000000 (cutAt 46 l) = some n := by
      unfold plainN at hnn
      cases hpn : plainM 7 1000000 (cutAt 46 l) with
      | none =>
        rw [hpn] at hnn
        exact absurd hnn.symm hn0
      | some m =>
        rw [hpn] at hnn
        exact congrArg some hnn
    refine ifF (decide_eq_false fun z => hn0 (by have z : V.int (n : Int) = V.int 0 := z; injection z with z; omega)) ?_
    refine ⟨_, rfl, _, rfl, a, n, ps, rs, rfl, O.sqL e12 hS, (Le.hd (K := K) e12.le).lrs lr, hr60, fun H3 rv e3 hrv => ?_⟩
    have e13 := e12.trans e3
    refine ⟨_, rfl, rfl, _, rfl, ?_⟩
    have hdot : (V.str (S (if 46 ∈ l then [46] else [])) = V.str (Str.ofString "")) ↔ ¬ 46 ∈ l := by
      rw [← S_nil]
      by_cases hm : 46 ∈ l
      · rw [if_pos hm]
        exact ⟨fun z => absurd (S_inj (V.str.inj z)) (by simp), fun z => absurd hm z⟩
      · rw [if_neg hm]
        exact ⟨fun _ => hm, fun _ => rfl⟩
    by_cases hm : 46 ∈ l
    · have hN : toldN rs l = match rowOf rs n with
          | none => []
          | some r => if r.1 = n ∧ (toldI (behind 46 l)).all (fun z => decide (z ∈ r.2)) = true then (toldI (behind 46 l)).map (fun z => r.1 + ixOf z r.2) else [] := by
        unfold toldN
        rw [hpn]
        show (if n = 0 then _ else if 46 ∈ l then _ else _) = _
        rw [if_neg hn0, if_pos hm]
        all_goals (cases rowOf rs n <;> rfl)
      refine ifF (decide_eq_false fun z => hdot.mp z hm) ?_
      refine ⟨_, rfl, rfl, _, rfl, ?_⟩
      cases hro : rowOf rs n with
      | none =>
        rw [hro] at hrv hN
        obtain rfl : rv = .non := hrv
        exact ifT (decide_eq_true rfl) (ifT rfl ⟨Nat.zero_le _, fun p hp => emp H3 e13 hN p hp⟩)
      | some r =>
        rw [hro] at hrv hN
        have hN : toldN rs l = if r.1 = n ∧ (toldI (behind 46 l)).all (fun z => decide (z ∈ r.2)) = true then (toldI (behind 46 l)).map (fun z => r.1 + ixOf z r.2) else [] := hN
        obtain ⟨rp, rfl, R3⟩ := hrv
        obtain ⟨t, mv, g1, g2, g3, g4⟩ := _root_.id R3
        refine ifF (decide_eq_false fun z => nomatch z) ?_
        refine ⟨_, rfl, rp, _, 0, _, rfl, rfl, g1, rfl, _, rfl, rfl, _, rfl, ?_⟩
        by_cases hr1 : r.1 = n
        · refine ifF (by rw [hr1]; exact congrArg (fun b => !b) (decide_eq_true rfl)) ?_
          have hzb : (S (behind 46 l)).length ≤ sizeLine := by rw [S_len]; omega
          have hbl : (behind 46 l).length ≤ 1000 := by omega
          generalize behind 46 l = b at hN hzb hbl hp1 hpe ⊢
          obtain ⟨ib, hi1, hi2, hi3, hi4⟩ := inner_law hbl
          refine tNext_use ?_
          dsimp only
          refine tSeq_use ?_
          refine tAsg_use ?_
          refine tIf_use (t := tIf _ _ _ _ _) (v := V.str (S ib)) (H := H3) (fun C hC => ?_) ?_
          · refine ⟨_, rfl, _, rfl, _, rfl, hzb, rfl, _, rfl, ?_⟩
            rw [show cutS (S b) none (some 1) = S (b.take 1) from cutS_to b 1]
            by_cases h1 : b.head? = some 91
            · have e1 : S (b.take 1) = S [91] := congrArg S (head_take.mpr h1)
              have hne : b ≠ [] := fun z => by
                rw [z] at h1
                cases h1
              refine ifT (by rw [e1] <;> rfl) ⟨_, rfl, _, rfl, _, rfl, _, rfl, hzb, rfl, _, rfl, ?_⟩
              rw [show cutS (S b) (some (-1)) none = S (b.drop (b.length - 1)) from cutS_last hne]
              by_cases h2 : b.getLast? = some 93
              · have e2 : S (b.drop (b.length - 1)) = S [93] := congrArg S (last_drop.mpr h2)
                have hbr : brackB b = true := by
                  unfold brackB
                  rw [decide_eq_true h1, decide_eq_true h2]
                  rfl
                obtain ⟨g5, g6⟩ := hi3 hbr
                refine ifT (by rw [e2] <;> rfl) ?_
                have hx := cutS_in g5
                refine ⟨_, rfl, _, rfl, _, rfl, _, rfl, _, rfl, hzb, ?_⟩
                rw [hx, ← g6]
                exact hC
              · have hbr : brackB b = false := by
                  unfold brackB
                  rw [decide_eq_false h2, Bool.and_false]
                refine ifF (decide_eq_false fun z => h2 (last_drop.mp (S_inj (V.str.inj z)))) ⟨_, rfl, ?_⟩
                rw [← hi4 hbr]
                exact hC
            · have hbr : brackB b = false := by
                unfold brackB
                rw [decide_eq_false h1, Bool.false_and]
              refine ifF (decide_eq_false fun z => h1 (head_take.mp (S_inj (V.str.inj z)))) ?_
              refine ifF rfl ?_
              refine ⟨_, rfl, ?_⟩
              rw [← hi4 hbr]
              exact hC
          · refine ⟨_, rfl, ib, rfl, hi1, fun H4 tp e4 ht => ?_⟩
            have e14 := e13.trans e4
            have g14 := O.sqT e4 g1
            have gT4 : TupD K H4 t (r.2.map vN) := (Le.hd (K := K) e4.le).tupD g2
            have g24 : SqT K H4 t (r.2.map vN) := O.sqT e4 g2.1
            cases hu : unfM ib with
            | none =>
              rw [hu] at hi2
              have ht : ∃ x xs, H4 tp = some (.tup (.str x :: xs)) ∧ x ≠ Str.ofString "fine" := by
                unfold ToldR at ht
                rw [hu] at ht
                exact ht
              obtain ⟨x, xs, ht, hx⟩ := ht
              have h0 : toldI b = [] := by
                rw [hi2]
                split <;> rfl
              rw [h0] at hN
              refine ⟨_, rfl, tp, _, _, _, rfl, rfl, .of ht, atI_nat (j := 0) rfl, rfl, _, rfl, ?_⟩
              refine ifT (by rw [decide_eq_false fun z => hx (V.str.inj z)]; rfl) ?_
              exact ifT rfl ⟨Nat.zero_le _, fun p hp => emp H4 e14 (by rw [hN]; split <;> rfl) p hp⟩
            | some ns =>
              rw [hu] at hi2
              have ht : ∃ q, H4 tp = some (.tup [.str (Str.ofString "fine"), .ref q]) ∧ H4 q = some (.lst (ns.map vN)) := by
                unfold ToldR at ht
                rw [hu] at ht
                exact ht
              obtain ⟨lp, ht, hlp⟩ := ht
              obtain ⟨b1, b2, b3⟩ := unfM_small hu
              have hi2 : toldI b = if ib = b ∧ (44 ∈ b ∨ 45 ∈ b) then [] else ns := hi2
              have hml : (ns.map vN).length = ns.length := List.length_map ..
              refine ⟨_, rfl, tp, _, _, _, rfl, rfl, .of ht, atI_nat (j := 0) rfl, rfl, _, rfl, ?_⟩
              refine ifF (by decide) ?_
              refine ⟨_, rfl, tp, _, 1, _, rfl, rfl, .of ht, rfl, lp, rfl, ⟨_, .inl (.inl hlp)⟩, fun D hD => ?_⟩
              refine lc_pure O (walk_list (K := K)) (fun i => (ns[i]?).bind fun z => if z ∈ r.2 then none else some (vN z)) hD (by omega) (fun H5 e => O.sqL e (.inl (.inl hlp))) (fun i x H5 H6 Fin No hi e hy hF hN => ?_) fun H5 e5 hl5 => ?_
              · obtain ⟨rfl, hx⟩ := hy
                obtain ⟨z, hz, rfl⟩ := map_get hx
                refine ⟨rfl, ⟨_, rfl, _, rfl, rp, _, 1, _, rfl, rfl, O.sqT e g14, rfl, t, _, rfl, .inr (O.sqT e g24), rfl, flat_nat _, ?_⟩⟩
                rw [inV_nat]
                refine ⟨_, rfl, ?_⟩
                by_cases hzr : z ∈ r.2
                · refine ifF (by rw [decide_eq_true hzr]; rfl) (hN _ ?_ (Same.refl _))
                  rw [hz]
                  exact if_pos hzr
                · refine ifT (by rw [decide_eq_false hzr]; rfl) ⟨_, rfl, hF _ _ ?_ (Same.refl _)⟩
                  rw [hz]
                  exact if_neg hzr
              · rw [hml, fm_bind] at hl5
                have e15 := e14.trans e5
                have hfi := fm_in r.2 ns
                refine ⟨Nat.zero_le _, fun E hE => ⟨D, E, _, rfl, rfl, .inl ⟨.inl (.inl ((Same.new hE) _ _ hl5)), .inl (.inl upd_same)⟩, _, rfl, ?_⟩⟩
                have e16 : Same H (upd H5 E (.lst [])) := e15.trans (Same.new hE)
                have hlp6 : upd H5 E (.lst []) lp = some (.lst (ns.map vN)) := (Same.new hE) _ _ (O.lst e5 hlp)
                have ht6 : upd H5 E (.lst []) tp = some (.tup [.str (Str.ofString "fine"), .ref lp]) := (Same.new hE) _ _ (O.tup e5 ht)
                have g16 := O.sqT (e5.trans (Same.new (o := .lst []) hE)) g14
                have g26 := O.sqT (e5.trans (Same.new (o := .lst []) hE)) g24
                have gT6 : TupD K (upd H5 E (.lst [])) t (r.2.map vN) := (Le.hd (K := K) (e5.trans (Same.new (o := .lst []) hE)).le).tupD gT4
                generalize upd H5 E (.lst []) = H6 at e16 hlp6 ht6 g16 g26 gT6 ⊢
                rw [show (ns.filterMap fun z => if z ∈ r.2 then none else some (vN z)).isEmpty = ns.all (fun z => decide (z ∈ r.2)) from by
                  rw [Bool.eq_iff_iff, List.isEmpty_iff]
                  exact hfi]
                by_cases ha : ns.all (fun z => decide (z ∈ r.2)) = true
                · refine ifF (by rw [ha]; rfl) ?_
                  refine ⟨_, rfl, _, rfl, rfl, _, rfl, ?_⟩
                  have fine_ : ¬ (ib = b ∧ (44 ∈ b ∨ 45 ∈ b)) → tRet (tLc (iList K (tOp (rIxT K) (tVar 8) (tC (.int 1)))) (gName 9) tYes (tOp (rI0 fun i j => V.int (i + j)) (tOp (rIxT K) (tVar 6) (tC (V.int 0)))
                        (tBMT K (rTupIx K) (tOp (rIxT K) (tVar 6) (tC (V.int 1))) (tCons (tVar 9) tNil))) [9]) { nx := fun _ H' => Q .non H', rt := Q }
                        [some (.ref a), some (.str (S l)), some (.str (S (cutAt 46 l))), some (.str (S (if 46 ∈ l then [46] else []))), some (.str (S b)), some (vN n), some (.ref rp), some (.str (S ib)), some (.ref tp), none] H6 := fun hno => by
                    rw [if_neg hno] at hi2
                    rw [hi2, if_pos ⟨hr1, ha⟩] at hN
                    refine ⟨_, rfl, tp, _, _, _, rfl, rfl, .of ht6, atI_nat (j := 1) rfl, lp, rfl, ⟨_, .inl (.inl hlp6)⟩, fun D2 hD2 => ?_⟩
                    refine lc_pure O (walk_list (K := K)) (fun i => (ns[i]?).map fun z => vN (r.1 + ixOf z r.2)) hD2 (by omega) (fun H7 e => O.sqL e (.inl (.inl hlp6))) (fun i x H7 H8 Fin No hi e hy hF hN => ?_) fun H7 e7 hl7 => ?_
                    · obtain ⟨rfl, hx⟩ := hy
                      obtain ⟨z, hz, rfl⟩ := map_get hx
                      have hzm : z ∈ r.2 := of_decide_eq_true (List.all_eq_true.mp ha z (List.mem_of_getElem? hz))
                      refine ⟨rfl, ⟨_, rfl, rp, _, _, _, rfl, rfl, O.sqT e g16, atI_nat (j := 0) rfl, _, rfl, rp, _, _, _, rfl, rfl, O.sqT e g16, atI_nat (j := 1) rfl, ⟨t, _, rfl, (Le.hd (K := K) e.le).tupD gT6⟩, _, rfl, t, r.2, z, ixOf z r.2, rfl, rfl, O.sqT e g26, ixOf_at hzm, ixOf_first, _, _, rfl, rfl, ?_⟩⟩
                      refine hF _ _ ?_ (Same.refl _)
                      rw [hz]
                      rfl
                    · rw [hml, fm_map ns fun z => vN (r.1 + ixOf z r.2)] at hl7
                      refine q _ D2 (e16.trans e7) (hl7.trans ?_)
                      rw [hN, List.map_map]
                      rfl
                  have stop : ib = b ∧ (44 ∈ b ∨ 45 ∈ b) → ∀ p, H6 p = none → Q (.ref p) (upd H6 p (.lst [])) := fun hc p hp => emp H6 e16 (by
                    rw [if_pos hc] at hi2
                    rw [hN, hi2]
                    split <;> rfl) p hp
                  by_cases hib : ib = b
                  · refine ifT (decide_eq_true (by rw [hib])) ?_
                    refine ⟨_, rfl, 44, S b, rfl, rfl, _, rfl, ?_⟩
                    by_cases h44 : 44 ∈ b
                    · exact ifT (decide_eq_true h44) (ifT rfl ⟨Nat.zero_le _, stop ⟨hib, .inl h44⟩⟩)
                    · refine ifF (decide_eq_false h44) ?_
                      refine ⟨_, rfl, 45, S b, rfl, rfl, _, rfl, ?_⟩
                      by_cases h45 : 45 ∈ b
                      · exact ifT (decide_eq_true h45) ⟨Nat.zero_le _, stop ⟨hib, .inr h45⟩⟩
                      · refine ifF (decide_eq_false h45) ?_
                        exact fine_ fun z => z.2.elim h44 h45
                  · refine ifF (decide_eq_false fun z => hib (S_inj (V.str.inj z))) ?_
                    refine ifF rfl ?_
                    exact fine_ fun z => hib z.1
                · refine ifT (by rw [Bool.not_eq_true _ |>.mp ha]; rfl) ⟨Nat.zero_le _, fun p hp => emp H6 e16 ?_ p hp⟩
                  rw [hN, hi2]
                  split
                  · split <;> rfl
                  · rw [if_neg fun z => ha z.2]
        · rw [if_neg fun z => hr1 z.1] at hN
          refine ifT (by rw [decide_eq_false fun z => hr1 (by have z : V.int (r.1 : Int) = V.int (n : Int) := z; injection z with z; omega)] <;> rfl) ?_
          exact ⟨Nat.zero_le _, fun p hp => emp H3 e13 hN p hp⟩
    · have hN : toldN rs l = if (rowOf rs n).isNone = true then [n] else [] := by
        unfold toldN
        rw [hpn]
        show (if n = 0 then _ else if 46 ∈ l then _ else _) = _
        rw [if_neg hn0, if_neg hm]
      refine ifT (decide_eq_true (hdot.mpr hm)) ?_
      refine ⟨_, rfl, rfl, _, rfl, ?_⟩
      cases hro : rowOf rs n with
      | none =>
        rw [hro] at hrv hN
        obtain rfl : rv = .non := hrv
        exact ifT (decide_eq_true rfl) ⟨_, rfl, by show 1 ≤ sizeLine; omega, fun p hp => q _ p (e13.trans (Same.new hp)) (by rw [hN]; exact upd_same)⟩
      | some r =>
        rw [hro] at hrv hN
        obtain ⟨rp, rfl, R3⟩ := hrv
        exact ifF (decide_eq_false fun z => nomatch z) ⟨Nat.zero_le _, fun p hp => emp H3 e13 hN p hp⟩
end
end K28

set_option Elab.async false
set_option linter.all false
set_option maxRecDepth 100000
set_option maxHeartbeats 4000000
namespace K28
open PySem PySem.Spec PyProof.Rows L2
/-! ## the law's reader of lines -/
def spRead (K : PySem.W.Frag) : Sp := fun vs H Q _ => ∃ (a b : Addr) (ps : List Addr) (rs : List Rw) (ls : List (List Nat)), vs = [.ref a, .ref b] ∧ SqL K H a (ps.map V.ref) ∧ LRs K H ps rs ∧ rs.length ≤ 60 ∧ SqT K H b (strsV ls) ∧ (∀ l ∈ ls, l.length ≤ 1000) ∧ (partsN rs).length + ls.length ≤ 60 ∧
  (∀ i H', readM rs ls 0 [] = .inl i → Same H H' → Q (vN i) H') ∧
  ∀ f p H', readM rs ls 0 [] = .inr f → Same H H' → H' p = some (.dK (kvS f)) → Q (.ref p) H'
theorem lt_one (c k : Nat) : decide ([c] < [k]) = decide (c < k) := by
  rw [Bool.eq_iff_iff, decide_eq_true_iff, decide_eq_true_iff, List.cons_lt_cons_iff]
  constructor
  · rintro (h | ⟨_, h⟩)
    · exact h
    · exact absurd h (List.not_lt_nil _)
  · exact .inl
theorem fm_let (f : Nat → V) : ∀ l : List Nat, (l.filterMap fun x => if isLet x = true then none else some (f x)) = [] ↔ l.all isLet = true
  | [] => ⟨fun _ => rfl, fun _ => rfl⟩
  | a :: l => by
    have ih := fm_let f l
    rw [List.filterMap_cons, List.all_cons]
    by_cases h : isLet a = true
    · rw [if_pos h, h, Bool.true_and]
      exact ih
    · rw [if_neg h, Bool.not_eq_true _ |>.mp h, Bool.false_and]
      exact ⟨fun z => (nomatch z), fun z => (nomatch z)⟩
theorem fm_has (f : St1) : ∀ l : List Nat, (l.filterMap fun n => if hasS f n = true then some (vN n) else none) = [] ↔ l.any (hasS f) = false
  | [] => ⟨fun _ => rfl, fun _ => rfl⟩
  | a :: l => by
    have ih := fm_has f l
    rw [List.filterMap_cons, List.any_cons]
    by_cases h : hasS f a = true
    · rw [if_pos h, h, Bool.true_or]
      exact ⟨fun z => (nomatch z), fun z => (nomatch z)⟩
    · rw [if_neg h, Bool.not_eq_true _ |>.mp h, Bool.false_or]
      exact ih
theorem tV_use {t : VK → Prop} {R : V → Hp → Prop} {C : VK} (h : ∀ C : VK, (∀ x H', R x H' → C x H') → t C) (c : ∀ x H', R x H' → C x H') : t C := h C c
section
variable {P : Program} {w : World} {K : PySem.W.Frag} {mg : Str → Option Value} {base : Heap}
theorem ok_l_read (T : Tx K mg) : Fk P w K mg base "_law_read" 4 ["_law_rows", "_law_lines_here"] (spRead K) := by
  refine Fk.mk0 T.g_l_read T.d_l_read sc_l_read (fun vs H Q E h => ?_) (fun _ _ _ _ _ _ us hl => match us, hl with | [_, _], _ => rfl) fun cdv A outer s H vs Q E hr h => ⟨_,
      (pss_cons (ps_set (i := 2) sc_l_read.nd rfl (Or.inr rfl) pe_dnewK)
      (pss_cons (ps_for PassesOwn.never rfl (En.pi_enT (by rfl) T.m_enumerate (pa_cons (pv 1) pa_nil)) (pg_tup rfl (pgs_cons (pg_name (i := 3) sc_l_read.nd rfl (Or.inl rfl)) (pgs_cons (pg_name (i := 4) sc_l_read.nd rfl (Or.inl rfl)) pgs_nil))) (pss_cons (ps_asg (pe_partition (pv 4) pe_str) (pg_tup rfl (pgs_cons (pg_name (i := 5) sc_l_read.nd rfl (Or.inl rfl)) (pgs_cons (pg_name (i := 6) sc_l_read.nd rfl (Or.inl rfl)) (pgs_cons (pg_name (i := 7) sc_l_read.nd rfl (Or.inl rfl)) pgs_nil)))))
      (pss_cons (ps_set (i := 8) sc_l_read.nd rfl (Or.inl rfl) (pe_and (pe_chain op_lt op_lt pe_int (pe_callB call_len (by rfl) T.m_len boot_len (pa_cons (pv 7) pa_nil)) pe_int) (pe_one (pe_cmpR (op_eqE hr.units0) (pe_lc (own := [("_law_sign", 11)]) (g := gName 11) rfl sc_l_read.nd (pi_str (pv 7)) (blkOk_by (own := [("_law_sign", 11)]) (N := N_l_read) (sc := defScope s_l_read) (by decide +kernel)) (fun _ _ _ _ _ => (pg_name (i := 11) sc_l_read.nd rfl (Or.inl rfl))) (fun _ _ _ _ _ => pts_one (pt_not (pt_chain op_le_str op_le_str pe_str (pv 11) pe_str))) (fun _ _ _ _ _ => (pv 11))) (pe_lst pa_nil) (nomark _)))))
      (pss_cons (ps_set (i := 9) sc_l_read.nd rfl (Or.inl rfl) (pe_ifExp (pt_val (pv 8)) (pe_f (ok_l_numbers T) (hr.mono (by decide)) (pa_cons (pv 0) (pa_cons (pv 5) pa_nil))) (pe_lst pa_nil)))
      (pss_cons (ps_if (PW.pt (pw_or (pt_cmpR (op_eqE hr.units0) (pv 9) (pe_lst pa_nil) (nomark _)) (pw_or1 (pt_cmpR (op_neE hr.units0) (pe_lc (own := [("_law_number", 10)]) (g := gName 10) rfl sc_l_read.nd (pi_list (pv 9)) (blkOk_by (own := [("_law_number", 10)]) (N := N_l_read) (sc := defScope s_l_read) (by decide +kernel)) (fun _ _ _ _ _ => (pg_name (i := 10) sc_l_read.nd rfl (Or.inl rfl))) (fun _ _ _ _ _ => pts_one (pt_cmp (pc_din (hu_of hr) (pv 10) (pv 2)))) (fun _ _ _ _ _ => (pv 10))) (pe_lst pa_nil) (nomark _))))) (pss_one (ps_ret (pv 3))) pss_nil)
      (pss_one (ps_for PassesOwn.never rfl (pi_list (pv 9)) (pg_name (i := 10) sc_l_read.nd rfl (Or.inl rfl)) (pss_one (ps_dput (hu_of hr) (pv 2) (pv 10) (pv 7) rfl)))))))))
      (pss_one (ps_ret (pv 2))))), ?_⟩
  · obtain ⟨_, _, _, _, _, rfl, _⟩ := h
    rfl
  · obtain ⟨a, b, ps, rs, ls, rfl, hS, lr, hr60, hL, hll, hcnt, qE, qQ⟩ := h
    have O := ordS (K := K)
    have sl : sizeLine = 16777216 := sizeLine_eq
    have h60 : ls.length ≤ 60 := by omega
    have hsl : (strsV ls).length = ls.length := List.length_map ..
    refine fun fd hfd => ?_
    have hL3 : SqT K (upd H fd (.dK [])) b (strsV ls) := O.sqT (Same.new hfd) hL
    refine ⟨_, rfl, b, _, rfl, hL3, ?_⟩
    refine for_it En.walk_en (fun i σ H' => ∃ (x3 x4 x5 x6 x7 x8 x9 x10 x11 : Option V) (f : St1), σ = [some (.ref a), some (.ref b), some (.ref fd), x3, x4, x5, x6, x7, x8, x9, x10, x11] ∧ Same H H' ∧ H' fd = some (.dK (kvS f)) ∧ (f.map Prod.fst).Nodup ∧ ((f.map Prod.fst).filter fun n => decide (n ∉ partsN rs)).length ≤ i ∧ readM rs (ls.drop i) i f = readM rs ls 0 [])
      ⟨_, _, _, _, _, _, _, _, _, [], rfl, Same.new hfd, upd_same, List.nodup_nil, Nat.zero_le _, rfl⟩ (fun _ _ _ _ ⟨_, _, _, _, _, _, _, _, _, _, _, e, _⟩ => O.sqT e hL) (fun i x σ H3 H4 hi pv hy => ?_) fun σ H3 pv => ?_
    · obtain ⟨x3, x4, x5, x6, x7, x8, x9, x10, x11, f, rfl, eH, hf, hnd, hfil, hrd⟩ := pv
      obtain ⟨T', x, rfl, hT, rfl, hx⟩ := hy
      obtain ⟨l, hl, rfl⟩ := map_get hx
      rw [hsl] at hi
      have hll1 := hll l (List.mem_of_getElem? hl)
      obtain ⟨c1, c2⟩ := cut_len 32 l
      have e4 : Same H (upd H3 T' (.tup [vN i, .str (S l)])) := eH.trans (Same.new hT)
      have hf4 : upd H3 T' (.tup [vN i, .str (S l)]) fd = some (.dK (kvS f)) := (Same.new hT) _ _ hf
      have ht4 : upd H3 T' (.tup [vN i, .str (S l)]) T' = some (.tup [vN i, .str (S l)]) := upd_same
      generalize upd H3 T' (.tup [vN i, .str (S l)]) = H4 at e4 hf4 ht4 ⊢
      refine ⟨_, _, rfl, .of ht4, rfl, _, _, rfl, _, _, rfl, rfl, ?_⟩
      refine ⟨_, rfl, ⟨_, rfl⟩, S l, S [32], rfl, rfl, rfl, by rw [S_len]; omega, fun p hp => ?_⟩
      have hp5 : upd H4 p (.tup [.str (Txt.partition (S l) (S [32])).1, .str (Txt.partition (S l) (S [32])).2.1, .str (Txt.partition (S l) (S [32])).2.2]) p = some (.tup [.str (S (cutAt 32 l)), .str (S (if 32 ∈ l then [32] else [])), .str (S (behind 32 l))]) := by
        rw [upd_same, part_eq 32 l]
      have e45 : Same H4 (upd H4 p (.tup [.str (Txt.partition (S l) (S [32])).1, .str (Txt.partition (S l) (S [32])).2.1, .str (Txt.partition (S l) (S [32])).2.2])) := Same.new hp
      generalize upd H4 p (.tup [.str (Txt.partition (S l) (S [32])).1, .str (Txt.partition (S l) (S [32])).2.1, .str (Txt.partition (S l) (S [32])).2.2]) = H5 at hp5 e45 ⊢
      have e5 := e4.trans e45
      have hf5 : H5 fd = some (.dK (kvS f)) := e45 _ _ hf4
      refine ⟨_, _, rfl, .of hp5, rfl, _, _, rfl, _, _, rfl, _, _, rfl, rfl, ?_⟩
      have hdrop : ls.drop i = l :: ls.drop (i + 1) := by
        obtain ⟨g1, g2⟩ := List.getElem?_eq_some_iff.mp hl
        rw [List.drop_eq_getElem_cons g1, g2]
      have hrd6 := hrd
      rw [hdrop] at hrd6
      generalize hst : behind 32 l = st at c2 hp5 ⊢
      have hzs : (S st).length ≤ sizeLine := by rw [S_len]; omega
      -- a word or not
      dsimp only
      refine tSeq_use (tAsg_use ?_)
      refine tV_use (t := tAndV _ _ _ _) (R := fun x H' => x = .bl (wordB st) ∧ Same H5 H') (fun C hC => ?_) fun x H6 hx6 => ?_
      · refine ⟨_, rfl, _, _, rfl, ⟨hzs, rfl⟩, _, _, rfl, rfl, _, rfl, ?_⟩
        rw [S_len]
        unfold wordB at hC
        by_cases h1 : 0 < st.length
        · refine ifT (decide_eq_true (by omega)) ⟨_, _, rfl, rfl, ?_⟩
          by_cases h8 : st.length < 9
          · refine ⟨_, rfl, ifT (decide_eq_true (by omega)) ?_⟩
            have e4 : (S st).cps.size = st.length := S_len st
            refine ⟨_, rfl, _, rfl, fun D hD => ?_⟩
            refine lc_pure O walk_str (fun i => (st[i]?).bind fun c => if isLet c = true then none else some (.str (S [c]))) hD (by show (S st).length ≤ _; rw [S_len]; omega) (fun H1 e => trivial) (fun i x H1 H2 Fin No hi e hy hF hN => ?_) fun H6 e6 hl6 => ?_
            · obtain ⟨rfl, hx⟩ := hy
              obtain ⟨c, hc, rfl⟩ := sign_at hx
              have k1 : decide ([c] < (Str.ofString "a").cps.toList) = decide (c < 97) := lt_one c 97
              have k2 : decide ((Str.ofString "z").cps.toList < [c]) = decide (122 < c) := lt_one 122 c
              refine ⟨rfl, ⟨_, rfl, _, _, rfl, rfl, _, rfl, ?_⟩⟩
              rw [k1]
              have hlt : isLet c = (decide (97 ≤ c) && decide (c ≤ 122)) := rfl
              by_cases ha : c < 97
              · refine ifF (by rw [decide_eq_true ha]; rfl) ⟨_, rfl, ?_⟩
                refine ifT rfl ⟨_, rfl, hF _ _ ?_ (Same.refl _)⟩
                rw [hc]
                exact if_neg (by rw [hlt, decide_eq_false (show ¬ 97 ≤ c by omega)]; simp)
              · refine ifT (by rw [decide_eq_false ha]; rfl) ⟨_, _, rfl, rfl, _, rfl, ?_⟩
                rw [k2]
                by_cases hb : 122 < c
                · refine ifT (by rw [decide_eq_true hb]; rfl) ⟨_, rfl, hF _ _ ?_ (Same.refl _)⟩
                  rw [hc]
                  exact if_neg (by rw [hlt, decide_eq_false (show ¬ c ≤ 122 by omega)]; simp)
                · refine ifF (by rw [decide_eq_false hb]; rfl) (hN _ ?_ (Same.refl _))
                  rw [hc]
                  exact if_pos (by rw [hlt, decide_eq_true (show 97 ≤ c by omega), decide_eq_true (show c ≤ 122 by omega)]; rfl)
            · rw [e4, fm_bind] at hl6
              have hfl := fm_let (fun c => .str (S [c])) st
              refine ⟨Nat.zero_le _, fun E hE => ⟨D, E, _, rfl, rfl, .inl ⟨.inl (.inl ((Same.new hE) _ _ hl6)), .inl (.inl upd_same)⟩, ?_⟩⟩
              refine hC _ _ ⟨?_, e6.trans (Same.new hE)⟩
              rw [decide_eq_true (show 1 ≤ st.length from h1), decide_eq_true (show st.length ≤ 8 by omega), Bool.true_and, Bool.true_and]
              refine congrArg V.bl ?_
              rw [show (st.filterMap fun c => if isLet c = true then none else some (V.str (S [c]))).isEmpty = st.all isLet from by
                rw [Bool.eq_iff_iff, List.isEmpty_iff]
                exact hfl]
              simp
          · refine ⟨_, rfl, ifF (decide_eq_false (by omega)) (hC _ _ ⟨?_, Same.refl _⟩)⟩
            rw [decide_eq_false (show ¬ st.length ≤ 8 by omega), Bool.false_and, Bool.and_false]
        · refine ifF (decide_eq_false (by omega)) ⟨_, rfl, ifF rfl (hC _ _ ⟨?_, Same.refl _⟩)⟩
          rw [decide_eq_false (show ¬ 1 ≤ st.length by omega), Bool.false_and]
      obtain ⟨rfl, e56⟩ := hx6
      have e6 := e5.trans e56
      have hf6 : H6 fd = some (.dK (kvS f)) := e56 _ _ hf5
      dsimp only [gName]
      refine tSeq_use ?_
      refine tAsg_use ?_
      refine tV_use (t := tIf _ _ _ _ _) (R := fun x H' => ∃ np, x = .ref np ∧ Same H6 H' ∧ H' np = some (.lst ((lineN rs l).map vN))) (fun C hC => ?_) fun x H7 hx7 => ?_
      · have hln : lineN rs l = if wordB st = true then toldN rs (cutAt 32 l) else [] := by
          unfold lineN
          rw [hst]
        refine ⟨_, rfl, wordB st, rfl, ite2 (fun hw => ?_) fun hw => ?_⟩
        · rw [if_pos hw] at hln
          exact ⟨_, rfl, _, rfl, a, ps, rs, cutAt 32 l, rfl, O.sqL e6 hS, (Le.hd (K := K) e6.le).lrs lr, hr60, by omega, fun H7 np e7 hnp => hC _ _ ⟨np, rfl, e7, by rw [hln]; exact hnp⟩⟩
        · rw [if_neg hw] at hln
          exact ⟨Nat.zero_le _, fun np hnp => hC _ _ ⟨np, rfl, Same.new hnp, by rw [hln]; exact upd_same⟩⟩
      obtain ⟨np, rfl, e67, hnp⟩ := hx7
      have e7 := e6.trans e67
      have hf7 : H7 fd = some (.dK (kvS f)) := e67 _ _ hf6
      have stop : ∀ H', (lineN rs l = [] ∨ (lineN rs l).any (hasS f) = true) → Same H H' → Q (vN i) H' := fun H' h1 h2 => by
        refine qE i H' ?_ h2
        rw [← hrd6]
        show (if lineN rs l = [] ∨ (lineN rs l).any (hasS f) = true then Sum.inl i else _) = _
        rw [if_pos h1]
      have fl : f.length ≤ 60 := by
        have := readM_few hnd hfil
        omega
      have hnl : (lineN rs l).length ≤ 60 := lineN_len rs l
      have nd := lineN_nodup rs l
      have hml : ((lineN rs l).map vN).length = (lineN rs l).length := List.length_map ..
      refine ⟨_, rfl, Nat.zero_le _, fun q0 hq0 => ⟨np, q0, _, rfl, rfl, .inl ⟨.inl (.inl ((Same.new hq0) _ _ hnp)), .inl (.inl upd_same)⟩, _, rfl, ?_⟩⟩
      have e8 : Same H (upd H7 q0 (.lst [])) := e7.trans (Same.new hq0)
      have hf8 : upd H7 q0 (.lst []) fd = some (.dK (kvS f)) := (Same.new hq0) _ _ hf7
      have hnp8 : upd H7 q0 (.lst []) np = some (.lst ((lineN rs l).map vN)) := (Same.new hq0) _ _ hnp
      generalize upd H7 q0 (.lst []) = H8 at e8 hf8 hnp8 ⊢
      by_cases hne : lineN rs l = []
      · refine ifT (by rw [hne]; rfl) ?_
        refine ifT rfl ⟨_, rfl, stop H8 (.inl hne) e8⟩
      · refine ifF (by cases h : lineN rs l with
          | nil => exact absurd h hne
          | cons _ _ => rfl) ?_
        refine ⟨_, rfl, np, rfl, ⟨_, .inl (.inl hnp8)⟩, fun D hD => ?_⟩
        refine lc_pure O (walk_list (K := K)) (fun j => ((lineN rs l)[j]?).bind fun n => if hasS f n = true then some (vN n) else none) hD (by omega) (fun H9 e => O.sqL e (.inl (.inl hnp8))) (fun j x H9 H10 Fin No hj e hy hF hN => ?_) fun H9 e9 hl9 => ?_
        · obtain ⟨rfl, hx⟩ := hy
          obtain ⟨n, hn, rfl⟩ := map_get hx
          refine ⟨rfl, ⟨_, rfl, _, rfl, fd, _, rfl, DGet.k (k := .inl (n : Int)) (O.dK e hf8), _, rfl, ?_⟩⟩
          rw [kvS_isSome]
          by_cases hh : hasS f n = true
          · refine ifT hh ⟨_, rfl, hF _ _ ?_ (Same.refl _)⟩
            rw [hn]
            exact if_pos hh
          · refine ifF (Bool.not_eq_true _ |>.mp hh) (hN _ ?_ (Same.refl _))
            rw [hn]
            exact if_neg hh
        · rw [hml, fm_bind] at hl9
          have e09 : Same H H9 := e8.trans e9
          have hfa := fm_has f (lineN rs l)
          refine ⟨Nat.zero_le _, fun q2 hq2 => ⟨D, q2, _, rfl, rfl, .inl ⟨.inl (.inl ((Same.new hq2) _ _ hl9)), .inl (.inl upd_same)⟩, _, rfl, ?_⟩⟩
          have e10 : Same H (upd H9 q2 (.lst [])) := e09.trans (Same.new hq2)
          have hf10 : upd H9 q2 (.lst []) fd = some (.dK (kvS f)) := (Same.new hq2) _ _ (O.dK e9 hf8)
          have hnp10 : upd H9 q2 (.lst []) np = some (.lst ((lineN rs l).map vN)) := (Same.new hq2) _ _ (O.lst e9 hnp8)
          generalize upd H9 q2 (.lst []) = H10 at e10 hf10 hnp10 ⊢
          rw [show ((lineN rs l).filterMap fun n => if hasS f n = true then some (vN n) else none).isEmpty = !(lineN rs l).any (hasS f) from by
            rw [Bool.eq_iff_iff, List.isEmpty_iff, Bool.not_eq_true']
            exact hfa]
          by_cases hany : (lineN rs l).any (hasS f) = true
          · exact ifT (by rw [hany]; rfl) ⟨_, rfl, stop H10 (.inr hany) e10⟩
          · refine ifF (by rw [Bool.not_eq_true _ |>.mp hany]; rfl) ?_
            have fd0 : H fd = none := hfd
            have hno : ∀ n ∈ lineN rs l, n ∉ f.map Prod.fst := fun n hn hm => hany (List.any_eq_true.mpr ⟨n, hn, hasS_iff.mpr hm⟩)
            have hfst : ∀ j, (((lineN rs l).take j).map fun n => (n, st)).map Prod.fst = (lineN rs l).take j := fun j => by
              rw [List.map_map]
              exact List.map_id _
            refine ⟨_, rfl, np, rfl, ⟨_, .inl (.inl hnp10)⟩, ?_⟩
            refine for_it (walk_list (K := K) (xs := (lineN rs l).map vN)) (fun j σ H' => ∃ x10 : Option V, σ = [some (.ref a), some (.ref b), some (.ref fd), some (vN i), some (.str (S l)), some (.str (S (cutAt 32 l))), some (.str (S (if 32 ∈ l then [32] else []))), some (.str (S st)), some (.bl (wordB st)), some (.ref np), x10, x11] ∧ Same H H' ∧ H' np = some (.lst ((lineN rs l).map vN)) ∧ H' fd = some (.dK (kvS (f ++ ((lineN rs l).take j).map fun n => (n, st)))))
              ⟨_, rfl, e10, hnp10, by rw [List.take_zero, List.map_nil, List.append_nil]; exact hf10⟩ (fun _ _ _ _ ⟨_, _, _, h, _⟩ => .inl (.inl h)) (fun j x σ H11 H12 hj pv hy => ?_) fun σ H11 pv => ?_
            · obtain ⟨x10, rfl, e11, hnp11, hf11⟩ := pv
              obtain ⟨rfl, hx⟩ := hy
              obtain ⟨n, hn, rfl⟩ := map_get hx
              refine ⟨_, rfl, _, rfl, _, rfl, fd, _, rfl, DPut.k (k := .inl (n : Int)) hf11 ?_, ⟨_, rfl, e11.mut fd0, ?_, ?_⟩⟩
              · rw [kvS_len, List.length_append, List.length_map, List.length_take]
                omega
              · rw [upd_ne (ne_of hnp11 hf11 fun z => nomatch z)]
                exact hnp11
              · rw [upd_same, kvS_put, List.take_succ, hn, List.map_append, List.append_assoc]
                · rfl
                · rw [List.map_append, hfst]
                  intro hm
                  rcases List.mem_append.mp hm with hm | hm
                  · exact hno n (List.mem_of_getElem? hn) hm
                  · refine take_fresh nd hn hm
            · obtain ⟨x10, rfl, e11, hnp11, hf11⟩ := pv
              rw [hml, List.take_length] at hf11
              have hfst := hfst (lineN rs l).length
              rw [List.take_length] at hfst
              refine ⟨_, _, _, _, _, _, _, _, _, f ++ (lineN rs l).map fun n => (n, st), rfl, e11, hf11, ?_, ?_, ?_⟩
              · rw [List.map_append, hfst, List.nodup_append]
                refine ⟨hnd, nd, fun x hx y hy z => ?_⟩
                subst z
                exact hno x hy hx
              · rw [List.map_append, hfst, List.filter_append, List.length_append]
                have := lineN_le rs l
                omega
              · rw [← hrd6]
                show _ = (if lineN rs l = [] ∨ (lineN rs l).any (hasS f) = true then Sum.inl i else readM rs (ls.drop (i + 1)) (i + 1) (f ++ (lineN rs l).map fun n => (n, behind 32 l)))
                rw [if_neg fun z => z.elim hne hany, hst]
    · obtain ⟨x3, x4, x5, x6, x7, x8, x9, x10, x11, f, rfl, eH, hf, hnd, hfil, hrd⟩ := pv
      rw [hsl] at hrd hfil
      rw [List.drop_length] at hrd
      have hrd : Sum.inr f = readM rs ls 0 [] := hrd
      exact ⟨_, rfl, qQ f fd H3 hrd.symm eH hf⟩
end
end K28

set_option Elab.async false
set_option linter.all false
set_option maxRecDepth 100000
set_option maxHeartbeats 4000000
namespace K28
open PySem PySem.Spec PyProof.Rows L2
/-! ## what the package reads, or the index of the line that it refuses -/
/-- .. and what the law asks of the classes -/
structure Tw (K : PySem.W.Frag) (mg : Str → Option Value) (base : Heap) : Prop extends Tz K mg base where
  xf : xfB K (cPE K) = true
  xs : PySem.W.findIn K (.ref (cPE K)) "spot" = some none
  xm : PySem.W.exmOne K (.ref (cPE K)) (.ref (cPE K)) = some true
theorem takes0 {X : Cx} : Takes X (fun _ _ _ _ => False) := fun u s' x => by
  obtain ⟨a, B, sI, pins, σ, H, cls, d, e, I, nb, up, sky, na, os, ag, w⟩ := x
  exact w.elim
def spToldL (K : PySem.W.Frag) : Sp := fun vs H Q _ => ∃ (a b : Addr) (rs : List Rw) (ls : List (List Nat)), vs = [.ref a, .ref b] ∧ RowsT K H a rs ∧ rs.length ≤ 60 ∧ UpR rs ∧ SqT K H b (strsV ls) ∧ (∀ l ∈ ls, l.length ≤ 100000) ∧ (partsN rs).length + ls.length ≤ 60 ∧ TbOk K H ∧
  (∀ i H', readM rs ls 0 [] = .inl i → Le K H H' → Q (vN i) H') ∧
  ∀ f p H', readM rs ls 0 [] = .inr f → Le K H H' → H' p = some (.dK (kvS (sortS f))) → Q (.ref p) H'
section
variable {w : World} {K : PySem.W.Frag} {mg : Str → Option Value} {base : Heap}
theorem ok_l_told (T : Tw K mg base) : Fk Er.PRG w K mg base "_law_told" 10 ["_law_rows", "_law_lines_here"] (spToldL K) := by
  refine Fk.mk0 T.g_l_told T.d_l_told sc_l_told (fun vs H Q E h => ?_) (fun _ _ _ _ _ _ us hl => match us, hl with | [_, _], _ => rfl) fun cdv A outer s H vs Q E hr h => ⟨_,
      (pss_one (ps_try_as (i := 2) rfl rfl sc_l_told.nd rfl rfl ⟨rfl, by decide, Or.inl T.pe.gC⟩ takes0 (fun W pn xe tk po => (pss_one (ps_ret (pe_fX (ok_unfold_states T.toTz) (hr.mono (by decide)) tk (pa_cons (pv 0) (pa_cons (pv 1) pa_nil)))))) (fun a oe cls d pn hz hf => (pss_one (ps_ret (pe_xf (xfB_ok T.xf) T.xs hz hf (pv 2))))))), ?_⟩
  · obtain ⟨_, _, _, _, rfl, _⟩ := h
    rfl
  · obtain ⟨a, b, rs, ls, rfl, R, hl60, up, hL, hll, hcnt, tb, qE, qQ⟩ := h
    refine ⟨_, rfl, _, rfl, a, b, rs, ls, rfl, R, hl60, up, hL, hll, hcnt, tb, fun i d H' hi e hd => ⟨true, T.xm, fun _ x hx => ?_, fun z => nomatch z⟩, fun f p H' hf e hp => qQ f p H' hf e hp⟩
    exact ⟨_, rfl, rfl, rfl, d, _, _, rfl, hd, rfl, qE i H' hi e⟩
end
end K28

set_option Elab.async false
set_option linter.all false
set_option maxRecDepth 100000
set_option maxHeartbeats 4000000
namespace K28
open PySem PySem.Spec PyProof.Rows L2
/-! ## bent lines -/
def rCatN (K : PySem.W.Frag) : R2 := fun x y H Q => ∃ a b xs ys, x = .ref a ∧ y = .ref b ∧ SqT K H a xs ∧ SqT K H b ys ∧ xs.length + ys.length ≤ sizeLine ∧ ∀ p H', Same H H' → SqT K H' p (xs ++ ys) → Q (.ref p) H'
theorem op_catN {X : Cx} : OpR X (binaryOp .Add) (rCatN X.K) := by
  intro pins s σ H x y v u Q I rx ry h
  obtain ⟨a, b, xs, ys, rfl, rfl, ha, hb, hz, q⟩ := h
  refine op_catA pins s σ H _ _ v u Q I rx ry ⟨a, b, xs, ys, rfl, rfl, ha, hb, hz, fun hx => ?_, fun _ hy => ?_, fun _ _ p hp => q p _ (Same.new hp) (.of upd_same)⟩
  · subst hx
    exact q b H (Same.refl H) hb
  · subst hy
    exact q a H (Same.refl H) (by rw [List.append_nil]; exact ha)
theorem cutS_from (l : List Nat) (j : Nat) : cutS (S l) (some (j : Int)) none = S (l.drop j) := by
  unfold cutS
  rw [HT.sIx_none, HT.sIx_nat, S_len]
  have e : l.drop (min j l.length) = l.drop j := by
    by_cases h : j ≤ l.length
    · rw [Nat.min_eq_left h]
    · rw [Nat.min_eq_right (by omega), List.drop_eq_nil_of_le (Nat.le_refl _), List.drop_eq_nil_of_le (by omega)]
  show S ((l.drop (min j l.length)).take _) = _
  rw [e, List.take_of_length_le (by rw [List.length_drop]; omega)]
def signsL : List (List Nat) := (["", "1", "0", "9", "a", ".", "[", "]", ",", "-", " ", "Z", ":", "runs"] : List Str).map fun z => z.cps.toList
theorem signsL_len : ∀ z ∈ signsL, z.length ≤ 4 := by decide +kernel
def spBent (K : PySem.W.Frag) : Sp := fun vs H Q _ => ∃ (d b : Addr) (ls : List (List Nat)), vs = [.ref d, .ref b] ∧ Dice H d ∧ SqT K H b (strsV ls) ∧ 1 ≤ ls.length ∧ ls.length ≤ 1000 ∧ (∀ l ∈ ls, 1 ≤ l.length ∧ l.length ≤ 900) ∧
  ∀ H' p ls', Ld K d H H' → SqT K H' p (strsV ls') → (∀ l ∈ ls', l.length ≤ 1000) → ls'.length ≤ ls.length + 1 → Q (.ref p) H'
section
variable {P : Program} {w : World} {K : PySem.W.Frag} {mg : Str → Option Value} {base : Heap}
theorem ok_l_bent (T : Tx K mg) : Fk P w K mg base "_law_bent" 3 ["_law_dice_here", "_law_lines_here"] (spBent K) := by
  refine Fk.mk0 T.g_l_bent T.d_l_bent sc_l_bent (fun vs H Q E h => ?_) (fun _ _ _ _ _ _ us hl => match us, hl with | [_, _], _ => rfl) fun cdv A outer s H vs Q E hr h => ⟨_,
      (pss_cons (ps_par (i := 2) (j := 3) rfl sc_l_bent.nd rfl rfl (by decide) rfl rfl (pa_cons (pe_f (ok_l_roll T) (hr.mono (by decide)) (pa_cons (pv 0) (pa_cons (pe_callB call_len (by rfl) T.m_len boot_len (pa_cons (pv 1) pa_nil)) pa_nil))) (pa_cons (pe_f (ok_l_roll T) (hr.mono (by decide)) (pa_cons (pv 0) (pa_cons pe_int pa_nil))) pa_nil)) (by rfl))
      (pss_cons (ps_if (pt_cmpR op_eq (pv 3) pe_int (nomark _)) (pss_one (ps_ret (pe_op op_catN (pe_op op_catN (pe_slice sl_tupN (pv 1) po_none (po_some (pv 2))) (pe_slice sl_tupN (pv 1) (po_some (pv 2)) (po_some (pe_op op_add (pv 2) pe_int)))) (pe_slice sl_tupN (pv 1) (po_some (pv 2)) po_none)))) pss_nil)
      (pss_cons (ps_set (i := 4) sc_l_bent.nd rfl (Or.inl rfl) (pe_ix ix_tup (pv 1) (pv 2) (fun _ _ => rfl)))
      (pss_cons (ps_set (i := 5) sc_l_bent.nd rfl (Or.inl rfl) (pe_f (ok_l_roll T) (hr.mono (by decide)) (pa_cons (pv 0) (pa_cons (pe_callB call_len (by rfl) T.m_len boot_len (pa_cons (pv 4) pa_nil)) pa_nil))))
      (pss_cons (ps_set (i := 6) sc_l_bent.nd rfl (Or.inl rfl) (pe_f (ok_l_pick T) (hr.mono (by decide)) (pa_cons (pv 0) (pa_cons (pe_lst (pa_cons pe_str (pa_cons pe_str (pa_cons pe_str (pa_cons pe_str (pa_cons pe_str (pa_cons pe_str (pa_cons pe_str (pa_cons pe_str (pa_cons pe_str (pa_cons pe_str (pa_cons pe_str (pa_cons pe_str (pa_cons pe_str (pa_cons pe_str pa_nil))))))))))))))) pa_nil))))
      (pss_cons (ps_set (i := 7) sc_l_bent.nd rfl (Or.inl rfl) (pe_op op_addS (pe_op op_addS (pe_slice sl_str (pv 4) po_none (po_some (pv 5))) (pv 6)) (pe_slice sl_str (pv 4) (po_some (pe_op op_add (pv 5) (pe_ifExp (pt_cmpR op_lt (pv 3) pe_int (nomark _)) pe_int pe_int))) po_none)))
      (pss_one (ps_ret (pe_op op_catN (pe_op op_catN (pe_slice sl_tupN (pv 1) po_none (po_some (pv 2))) (pe_tup (pa_cons (pv 7) pa_nil))) (pe_slice sl_tupN (pv 1) (po_some (pe_op op_add (pv 2) pe_int)) po_none)))))))))), ?_⟩
  · obtain ⟨_, _, _, rfl, _⟩ := h
    rfl
  · obtain ⟨d, b, ls, rfl, hd, hL, h1, h1000, hll, q⟩ := h
    have sl : sizeLine = 16777216 := sizeLine_eq
    have hsl : (strsV ls).length = ls.length := List.length_map ..
    refine ⟨_, rfl, _, rfl, _, _, rfl, len_t hL, d, ls.length, congrArg (fun k : Nat => [V.ref d, .int (k : Int)]) hsl, hd, h1, by omega, fun sp x1 y1 z1 hsp => ?_⟩
    have e1 : Ld K d H (upd H d (diceO x1 y1 z1)) := Ld.roll hd
    refine ⟨_, rfl, d, 5, rfl, e1.dice hd, by decide, by decide, fun way x2 y2 z2 _ => ?_⟩
    have e2 := e1.trans (Ld.roll (x := x2) (y := y2) (z := z2) (e1.dice hd))
    generalize upd (upd H d (diceO x1 y1 z1)) d (diceO x2 y2 z2) = H2 at e2 ⊢
    have hL2 := e2.sqT hd hL
    refine ⟨_, _, rfl, _, rfl, rfl, _, rfl, ?_⟩
    have hto : cutV (strsV ls) none (some (sp : Int)) = strsV (ls.take sp) := by
      rw [cutV_to]
      exact List.map_take.symm
    have O := ordS (K := K)
    refine ite2 (fun hw => ?_) fun hw => ?_
    · refine ⟨_, rfl, _, rfl, _, rfl, b, _, rfl, hL2, fun p1 H3 e3 hp1 => ?_⟩
      rw [hto] at hp1
      refine ⟨_, rfl, _, rfl, _, rfl, _, rfl, _, _, rfl, rfl, _, rfl, b, _, rfl, O.sqT e3 hL2, fun p2 H4 e4 hp2 => ?_⟩
      have h2 : cutV (strsV ls) (some (sp : Int)) (some ((sp : Int) + 1)) = strsV ((ls.drop sp).take 1) := by
        rw [show (sp : Int) + 1 = ((sp + 1 : Nat) : Int) from rfl, cutV_two, Nat.add_sub_cancel_left]
        unfold strsV
        rw [List.map_take, List.map_drop]
      rw [h2] at hp2
      refine ⟨p1, p2, _, _, rfl, rfl, O.sqT e4 hp1, hp2, ?_, fun p3 H5 e5 hp3 => ?_⟩
      · unfold strsV
        rw [List.length_map, List.length_map, List.length_take, List.length_take]
        omega
      refine ⟨_, rfl, _, rfl, _, rfl, b, _, rfl, O.sqT ((e3.trans e4).trans e5) hL2, fun p4 H6 e6 hp4 => ?_⟩
      have h4 : cutV (strsV ls) (some (sp : Int)) none = strsV (ls.drop sp) := by
        rw [cutV_from]
        exact List.map_drop.symm
      rw [h4] at hp4
      refine ⟨p3, p4, _, _, rfl, rfl, O.sqT e6 hp3, hp4, ?_, fun p5 H7 e7 hp5 => ?_⟩
      · unfold strsV
        rw [List.length_append, List.length_map, List.length_map, List.length_map, List.length_take, List.length_take, List.length_drop]
        omega
      refine q H7 p5 (ls.take sp ++ (ls.drop sp).take 1 ++ ls.drop sp) (e2.trans ((((e3.trans e4).trans e5).trans e6).trans e7).le.ld) ?_ (fun l hl => ?_) ?_
      · unfold strsV at hp5 ⊢
        rw [List.map_append, List.map_append]
        exact hp5
      · have hm : l ∈ ls := by
          rcases List.mem_append.mp hl with hl | hl
          · rcases List.mem_append.mp hl with hl | hl
            · exact List.mem_of_mem_take hl
            · exact List.mem_of_mem_drop (List.mem_of_mem_take hl)
          · exact List.mem_of_mem_drop hl
        have := hll l hm
        omega
      · rw [List.length_append, List.length_append, List.length_take, List.length_take, List.length_drop]
        omega
    · obtain ⟨l, hl⟩ : ∃ l, ls[sp]? = some l := ⟨_, List.getElem?_eq_getElem hsp⟩
      have hlb := hll l (List.mem_of_getElem? hl)
      have hget : atI (strsV ls) (sp : Int) = some (.str (S l)) := atI_nat (by unfold strsV; rw [List.getElem?_map, hl]; rfl)
      have hzl : (S l).length ≤ sizeLine := by rw [S_len]; omega
      refine ⟨_, rfl, _, rfl, b, _, _, _, rfl, rfl, hL2, hget, ?_⟩
      refine ⟨_, rfl, _, rfl, _, _, rfl, ⟨hzl, rfl⟩, d, l.length, congrArg (fun k : Nat => [V.ref d, .int (k : Int)]) (S_len l), e2.dice hd, hlb.1, by omega, fun at_ x3 y3 z3 hat => ?_⟩
      have e3 := e2.trans (Ld.roll (x := x3) (y := y3) (z := z3) (e2.dice hd))
      generalize upd H2 d (diceO x3 y3 z3) = H3 at e3 ⊢
      refine ⟨_, rfl, by show 14 ≤ sizeLine; omega, fun lp hlp => ?_⟩
      have hne := (e3.dice hd).ne0 hlp
      have e4 := e3.trans (Ld.new (o := .lst (signsL.map fun z => .str (S z))) hlp)
      refine ⟨d, lp, signsL.map fun z => .str (S z), rfl, e4.dice hd, .inl (.inl upd_same), hne, by decide, by decide, fun v hv x4 y4 z4 => ?_⟩
      obtain ⟨sg, hsg, rfl⟩ := List.mem_map.mp hv
      have hsl4 := signsL_len sg hsg
      have e5 := e4.trans (Ld.roll (x := x4) (y := y4) (z := z4) (e4.dice hd))
      change gName 6 _ _ (upd (upd H3 lp (.lst (signsL.map fun z => .str (S z)))) d (diceO x4 y4 z4)) _
      generalize upd (upd H3 lp (.lst (signsL.map fun z => .str (S z)))) d (diceO x4 y4 z4) = H5 at e5 ⊢
      have hL5 := e5.sqT hd hL
      have htl : (l.take at_ ++ sg).length ≤ 904 := by
        rw [List.length_append, List.length_take]
        omega
      refine ⟨_, rfl, _, rfl, _, rfl, S l, rfl, hzl, _, rfl, l.take at_, sg, congrArg V.str (cutS_to l at_), rfl, by omega, ?_⟩
      refine ⟨_, rfl, _, rfl, ?_⟩
      refine tV_use (t := tIf _ _ _ _ _) (R := fun x H' => ∃ k : Nat, k ≤ 1 ∧ x = vN k ∧ H' = H5) (fun C hC => ?_) fun x H6 hx6 => ?_
      · refine ⟨_, rfl, _, _, rfl, rfl, _, rfl, ?_⟩
        by_cases hw3 : (way : Int) < 3
        · exact ifT (decide_eq_true hw3) (hC _ _ ⟨1, Nat.le_refl _, rfl, rfl⟩)
        · exact ifF (decide_eq_false hw3) (hC _ _ ⟨0, Nat.zero_le _, rfl, rfl⟩)
      obtain ⟨k, hk, rfl, rfl⟩ := hx6
      have hdl : (l.take at_ ++ sg ++ l.drop (at_ + k)).length ≤ 904 := by
        rw [List.length_append, List.length_append, List.length_take, List.length_drop]
        omega
      refine ⟨_, _, rfl, rfl, _, rfl, S l, rfl, hzl, l.take at_ ++ sg, l.drop (at_ + k), rfl, congrArg V.str (cutS_from l (at_ + k)), by omega, ?_⟩
      generalize l.take at_ ++ sg ++ l.drop (at_ + k) = bl at hdl ⊢
      refine ⟨_, rfl, _, rfl, _, rfl, b, _, rfl, hL5, fun p1 H7 e7 hp1 => ?_⟩
      rw [hto] at hp1
      refine ⟨_, rfl, by show 1 ≤ sizeLine; omega, fun p2 hp2 => ?_⟩
      have e8 : Same H7 (upd H7 p2 (.tup [.str (S bl)])) := Same.new hp2
      have hp28 : SqT K (upd H7 p2 (.tup [.str (S bl)])) p2 (strsV [bl]) := .of upd_same
      generalize upd H7 p2 (.tup [.str (S bl)]) = H8 at e8 hp28 ⊢
      refine ⟨p1, p2, _, _, rfl, rfl, O.sqT e8 hp1, hp28, ?_, fun p3 H9 e9 hp3 => ?_⟩
      · unfold strsV
        rw [List.length_map, List.length_map, List.length_take]
        show _ + 1 ≤ _
        omega
      refine ⟨_, rfl, _, rfl, _, _, rfl, rfl, _, rfl, b, _, rfl, O.sqT ((e7.trans e8).trans e9) hL5, fun p4 H10 e10 hp4 => ?_⟩
      have h4 : cutV (strsV ls) (some ((sp : Int) + 1)) none = strsV (ls.drop (sp + 1)) := by
        rw [show (sp : Int) + 1 = ((sp + 1 : Nat) : Int) from rfl, cutV_from]
        exact List.map_drop.symm
      rw [h4] at hp4
      refine ⟨p3, p4, _, _, rfl, rfl, O.sqT e10 hp3, hp4, ?_, fun p5 H11 e11 hp5 => ?_⟩
      · unfold strsV
        rw [List.length_append, List.length_map, List.length_map, List.length_map, List.length_take, List.length_drop]
        show _ + 1 + _ ≤ _
        omega
      refine q H11 p5 (ls.take sp ++ [bl] ++ ls.drop (sp + 1)) (e5.trans ((((e7.trans e8).trans e9).trans e10).trans e11).le.ld) ?_ (fun z hz => ?_) ?_
      · unfold strsV at hp5 ⊢
        rw [List.map_append, List.map_append]
        exact hp5
      · rcases List.mem_append.mp hz with hz | hz
        · rcases List.mem_append.mp hz with hz | hz
          · have := hll z (List.mem_of_mem_take hz)
            omega
          · rw [List.mem_singleton.mp hz]
            omega
        · have := hll z (List.mem_of_mem_drop hz)
          omega
      · rw [List.length_append, List.length_append, List.length_take, List.length_drop]
        show _ + 1 + _ ≤ _
        omega
end
end K28

set_option Elab.async false
set_option linter.all false
set_option maxRecDepth 100000
set_option maxHeartbeats 4000000
namespace K28
open PySem PySem.Spec PyProof.Rows L2
/-! ## least texts read back -/
theorem numL_head : ∀ n : Nat, (TL.numL n).head? = some 48 → (TL.numL n).length = 1 := by
  intro n
  induction n using Nat.strongRecOn with
  | _ n ih =>
    intro h
    by_cases h10 : n < 10
    · rw [TL.numL_lt h10]
      rfl
    · rw [TL.numL_step (by omega)] at h
      have hne := TL.numL_ne (n / 10)
      have h2 : (TL.numL (n / 10)).head? = some 48 := by
        rw [List.head?_append] at h
        cases e : (TL.numL (n / 10)).head? with
        | none => exact absurd (List.head?_eq_none_iff.mp e) hne
        | some c =>
          rw [e] at h
          exact h
      have h3 := ih (n / 10) (by omega) h2
      have h4 : TL.numL (n / 10) = [48] := by
        obtain ⟨c, hc⟩ := List.length_eq_one_iff.mp h3
        rw [hc] at h2
        rw [hc, Option.some.inj h2]
      have h5 := TL.numL_val (n / 10)
      rw [h4] at h5
      have h6 : n / 10 = 0 := h5.symm
      omega
theorem num_all (n : Nat) : (num n).all isDig = true := List.all_eq_true.mpr fun c hc => by
  have := TL.numL_digits n c hc
  unfold isDig
  rw [decide_eq_true this.1, decide_eq_true this.2]
  rfl
theorem num_T {n : Nat} (h : n ≤ 9999) : NumT (num n) := ⟨TL.numL_ne n, num_len h, num_all n, numL_head n⟩
theorem val_num (n : Nat) : val (num n) = n := TL.numL_val n
theorem plain_of {k m n : Nat} (h1 : (num n).length ≤ k) (h2 : n ≤ m) : plainM k m (num n) = some n := by
  have := List.length_pos_iff.mpr (TL.numL_ne n)
  unfold plainM
  rw [if_pos ⟨⟨by exact this, h1⟩, num_all n⟩, if_neg, val_num]
  rintro (z | z)
  · have h3 : (num n).length = 1 := numL_head n z.1
    have := z.2
    omega
  · rw [val_num] at z
    omega
theorem num_pm {n : Nat} (h : n ≤ 1000000) : plainM 7 1000000 (num n) = some n := plain_of (TL.numL_len (by decide) (Nat.lt_of_le_of_lt h (by decide))) h
/-! ### steps -/
theorem steps_get {d : Nat} : ∀ {l : List Nat} {a : Nat}, stepsB d (a :: l) = true → (a :: l).Pairwise (· < ·) → ∀ (i : Nat) (h : i < (a :: l).length), (a :: l)[i] = a + i * d
  | [], a, _, _, i, h => by
    have : i = 0 := by simpa using h
    subst this
    simp
  | b :: r, a, hs, hp, i, h => by
    have hs : ((b - a == d) && stepsB d (b :: r)) = true := hs
    rw [Bool.and_eq_true, beq_iff_eq] at hs
    obtain ⟨hp1, hp2⟩ := List.pairwise_cons.mp hp
    have hab := hp1 b (List.mem_cons_self ..)
    cases i with
    | zero => simp
    | succ i =>
      rw [List.getElem_cons_succ, steps_get hs.2 hp2 i (by simpa using h), Nat.succ_mul]
      omega
theorem steps_range {a b : Nat} {r : List Nat} (hs : stepsB (b - a) (a :: b :: r) = true) (hp : (a :: b :: r).Pairwise (· < ·)) : rangeN a (lastN (b :: r) + 1) (b - a) = a :: b :: r ∧ a < lastN (b :: r) := by
  have hab := (List.pairwise_cons.mp hp).1 b (List.mem_cons_self ..)
  have hlast : lastN (b :: r) = a + (r.length + 1) * (b - a) := by
    have h := steps_get hs hp (r.length + 1) (by simp)
    unfold lastN
    rw [List.getLast?_eq_getElem?]
    rw [List.getElem_cons_succ] at h
    show ((b :: r)[r.length]?).getD 0 = _
    rw [List.getElem?_eq_getElem (by simp)]
    exact h
  have hd : 1 ≤ b - a := by omega
  have hm : b - a ≤ (r.length + 1) * (b - a) := Nat.le_mul_of_pos_left _ (by omega)
  refine ⟨?_, by omega⟩
  have hlen : (rangeN a (lastN (b :: r) + 1) (b - a)).length = r.length + 2 := by
    rw [rangeN_len, if_pos (by omega), hlast]
    have : a + (r.length + 1) * (b - a) + 1 - a - 1 = (r.length + 1) * (b - a) := by omega
    rw [this, Nat.mul_div_cancel _ (by omega)]
  apply List.ext_getElem
  · rw [hlen]
    rfl
  · intro i h1 h2
    rw [rangeN_get, steps_get hs hp i h2]
theorem entry_txt {l e : List Nat} (hb : ∀ n ∈ l, n ≤ 9999) (hp : l.Pairwise (· < ·)) (h : entryM l = some e) : ∃ ds, EntT ds ∧ e = entR ds ∧ ∃ b, boundsN (ds.map val) = some b ∧ rangeN b.1 b.2.1 b.2.2 = l := by
  match l, hb, hp, h with
  | [a], hb, hp, h =>
    have e1 : num a = e := Option.some.inj h
    have ta := num_T (hb a (by simp))
    refine ⟨[num a], ⟨List.cons_ne_nil _ _, by simp, fun d hd => by rw [List.mem_singleton.mp hd]; exact ta⟩, ?_, (a, a + 1, 1), ?_, ?_⟩
    · rw [← e1]
      show num a = num a ++ []
      rw [List.append_nil]
    · show some (val (num a), val (num a) + 1, 1) = _
      rw [val_num]
    · unfold rangeN
      simp
  | a :: b :: r, hb, hp, h =>
    have h : (if stepsB (b - a) (a :: b :: r) = true then some (num a ++ 45 :: num (lastN (b :: r)) ++ (if b - a = 1 then [] else 58 :: num (b - a))) else none) = some e := h
    by_cases hs : stepsB (b - a) (a :: b :: r) = true
    · rw [if_pos hs] at h
      have e1 := Option.some.inj h
      obtain ⟨h1, h2⟩ := steps_range hs hp
      have hab := (List.pairwise_cons.mp hp).1 b (List.mem_cons_self ..)
      have bb := hb b (by simp)
      have bl := hb (lastN (b :: r)) (List.mem_cons_of_mem _ last_mem)
      have ta := num_T (hb a (by simp))
      have tl := num_T bl
      have td := num_T (n := b - a) (by omega)
      by_cases h0 : b - a = 1
      · refine ⟨[num a, num (lastN (b :: r))], ⟨List.cons_ne_nil _ _, by simp, fun d hd => ?_⟩, ?_, (a, lastN (b :: r) + 1, 1), ?_, by rw [← h1, h0]⟩
        · rcases List.mem_cons.mp hd with rfl | hd
          · exact ta
          · rw [List.mem_singleton.mp hd]
            exact tl
        · rw [← e1, if_pos h0]
          show _ = num a ++ 45 :: (num (lastN (b :: r)) ++ [])
          simp
        · show (if val (num (lastN (b :: r))) ≤ val (num a) then none else some (val (num a), val (num (lastN (b :: r))) + 1, 1)) = _
          rw [val_num, val_num, if_neg (by omega)]
      · refine ⟨[num a, num (lastN (b :: r)), num (b - a)], ⟨List.cons_ne_nil _ _, by simp, fun d hd => ?_⟩, ?_, (a, lastN (b :: r) + 1, b - a), ?_, h1⟩
        · rcases List.mem_cons.mp hd with rfl | hd
          · exact ta
          · rcases List.mem_cons.mp hd with rfl | hd
            · exact tl
            · rw [List.mem_singleton.mp hd]
              exact td
        · rw [← e1, if_neg h0]
          show _ = num a ++ 45 :: (num (lastN (b :: r)) ++ 58 :: (num (b - a) ++ []))
          simp
        · show (if val (num (lastN (b :: r))) ≤ val (num a) then none else if val (num (b - a)) = 0 then none else some (val (num a), val (num (lastN (b :: r))) + 1, val (num (b - a)))) = _
          rw [val_num, val_num, val_num, if_neg (by omega), if_neg (by omega)]
    · rw [if_neg hs] at h
      cases h
theorem bests_at : ∀ (s : List Nat) (k : Nat), k ≤ s.length → (bests s).getD k [] = leastM (s.drop k)
  | [], 0, _ => rfl
  | a :: r, 0, _ => rfl
  | a :: r, k + 1, h => by
    show (Mk.minW _ :: bests r).getD (k + 1) [] = leastM (r.drop k)
    rw [List.getD_cons_succ]
    exact bests_at r k (by simpa using h)
/-- THE READ-BACK of a shortest text -/
theorem least_txt : ∀ (n : Nat) (s : List Nat), s.length = n → s ≠ [] → (∀ z ∈ s, z ≤ 9999) → s.Pairwise (· < ·) → ∃ es, TxtOk es ∧ leastM s = txtR es ∧ ∃ bs, allE es = some bs ∧ unionB bs = s := by
  intro n
  induction n using Nat.strongRecOn with
  | _ n ih =>
    intro s hn hne hb hp
    cases s with
    | nil => exact absurd rfl hne
    | cons a r =>
      have hm : leastM (a :: r) ∈ waysM (a :: r) (bests r) (r.length + 1) 1 := Mk.minW_mem (ways_ne hne)
      obtain ⟨j, e, h1, h2, h3, h4⟩ := ways_mem hm
      have hjl : j ≤ (a :: r).length := by rw [List.length_cons]; omega
      obtain ⟨ds, dt, rfl, b, hbd, hrg⟩ := entry_txt (fun z hz => hb z (List.mem_of_mem_take hz)) (hp.sublist (List.take_sublist _ _)) h3
      by_cases hlast : j + 1 = 1 + (r.length + 1)
      · rw [if_pos hlast] at h4
        refine ⟨[ds], ⟨List.cons_ne_nil _ _, fun x hx => by rw [List.mem_singleton.mp hx]; exact dt⟩, ?_, [b], ?_, ?_⟩
        · rw [h4]
          show entR ds = entR ds ++ []
          rw [List.append_nil]
        · show (match boundsN (ds.map val) with | none => none | some b => (allE []).map (b :: ·)) = _
          rw [hbd]
          rfl
        · have hj : (a :: r).take j = a :: r := List.take_of_length_le (by rw [List.length_cons]; omega)
          rw [hj] at hrg
          unfold unionB
          rw [List.flatMap_cons, List.flatMap_nil, List.append_nil]
          exact hrg
      · rw [if_neg hlast] at h4
        have hjr : j - 1 ≤ r.length := by omega
        have hdr : r.drop (j - 1) = (a :: r).drop j := by
          cases j with
          | zero => omega
          | succ j => rfl
        rw [bests_at r (j - 1) hjr, hdr] at h4
        have hlen : ((a :: r).drop j).length = r.length + 1 - j := by rw [List.length_drop, List.length_cons]
        obtain ⟨es, t1, t2, bs, t3, t4⟩ := ih ((a :: r).drop j).length (by rw [hlen, ← hn, List.length_cons]; omega) ((a :: r).drop j) rfl (fun z => by rw [z] at hlen; simp at hlen; omega) (fun z hz => hb z (List.mem_of_mem_drop hz)) (hp.sublist (List.drop_sublist _ _))
        refine ⟨ds :: es, ⟨List.cons_ne_nil _ _, fun x hx => ?_⟩, ?_, b :: bs, ?_, ?_⟩
        · rcases List.mem_cons.mp hx with rfl | hx
          · exact dt
          · exact t1.2 x hx
        · rw [h4, t2]
          cases es with
          | nil => exact absurd rfl t1.1
          | cons e es => rfl
        · show (match boundsN (ds.map val) with | none => none | some b => (allE es).map (b :: ·)) = _
          rw [hbd, t3]
          rfl
        · show rangeN b.1 b.2.1 b.2.2 ++ unionB bs = _
          rw [hrg, t4, List.take_append_drop]
theorem unf_least {ns : List Nat} (ix : IxN ns) : unfM (leastM ns) = some ns := by
  have hlo := ix.lo
  obtain ⟨es, t1, t2, bs, t3, t4⟩ := least_txt ns.length ns rfl (fun z => by rw [z] at hlo; simp at hlo) ix.bd ix.up
  have hs : sortU ns = ns := (sortU_of ix.up fun n => Iff.rfl).symm
  rw [t2, unfM_txt t1]
  unfold unfE
  rw [t3]
  show (if (sortU (unionB bs)).length ≤ 60 then some (sortU (unionB bs)) else none) = _
  rw [t4, hs, if_pos ix.hi]
theorem least_one (z : Nat) : leastM [z] = num z := rfl
end K28

set_option Elab.async false
set_option linter.all false
set_option maxRecDepth 100000
set_option maxHeartbeats 4000000
namespace K28
open PySem PySem.Spec PyProof.Rows L2
/-! ## lines read back -/
theorem num_free {n c : Nat} (h : c < 48 ∨ 57 < c) : c ∉ num n := TL.numL_free h
theorem txt_no {c : Nat} (h1 : c ≠ 45) (h2 : c ≠ 58) (h3 : c ≠ 44) (hc : c < 48 ∨ 57 < c) : ∀ {es : List (List (List Nat))}, (∀ e ∈ es, EntT e) → c ∉ restR es
  | [], _ => List.not_mem_nil
  | e :: es, h => fun hm => by
    rcases List.mem_cons.mp (show c ∈ 44 :: (entR e ++ restR es) from hm) with z | z
    · exact h3 z
    · rcases List.mem_append.mp z with z | z
      · exact ent_no (h e (List.mem_cons_self ..)) h1 h2 hc z
      · exact txt_no h1 h2 h3 hc (fun x hx => h x (List.mem_cons_of_mem _ hx)) z
theorem least_no {ns : List Nat} (ix : IxN ns) {c : Nat} (h1 : c ≠ 45) (h2 : c ≠ 58) (h3 : c ≠ 44) (hc : c < 48 ∨ 57 < c) : c ∉ leastM ns := by
  have hlo := ix.lo
  obtain ⟨es, t1, t2, _⟩ := least_txt ns.length ns rfl (fun z => by rw [z] at hlo; simp at hlo) ix.bd ix.up
  rw [t2]
  cases es with
  | nil => exact absurd rfl t1.1
  | cons e es =>
    intro hm
    rcases List.mem_append.mp (show c ∈ entR e ++ restR es from hm) with z | z
    · exact ent_no (t1.2 e (List.mem_cons_self ..)) h1 h2 hc z
    · exact txt_no h1 h2 h3 hc (fun x hx => t1.2 x (List.mem_cons_of_mem _ hx)) z
theorem least_len {ns : List Nat} (ix : IxN ns) : (leastM ns).length ≤ 15 * ns.length := by
  have h := bests_small ns ix.bd
  unfold leastM
  cases e : bests ns with
  | nil => exact Nat.zero_le _
  | cons a r => exact h a (by rw [e]; exact List.mem_cons_self ..)
structure RsOk (rs : List Rw) : Prop where
  up : UpR rs
  bd : ∀ r ∈ rs, 1 ≤ r.1 ∧ r.1 ≤ 999000
  ix : ∀ r ∈ rs, IxN r.2
theorem rowOf_mem {rs : List Rw} {m : Nat} {r : Rw} (h : rowOf rs m = some r) : r ∈ rs ∧ inRow r.1 r.2 m = true := ⟨List.mem_of_find?_eq_some h, List.find?_some (p := hasN m) h⟩
theorem rowOf_first {rs : List Rw} (ok : RsOk rs) {r : Rw} (hr : r ∈ rs) {m : Nat} (hm : inRow r.1 r.2 m = true) : rowOf rs m = some r := by
  have hl : ∀ r ∈ rs, 1 ≤ r.2.length := fun r hr => (ok.ix r hr).lo
  have hp := ok.up.pw hl
  cases e : rowOf rs m with
  | none =>
    have := List.find?_eq_none.mp e r hr
    exact absurd hm this
  | some q =>
    obtain ⟨hq, hqm⟩ := rowOf_mem e
    rw [inRow_iff] at hm hqm
    obtain ⟨i, hi, rfl⟩ := List.getElem_of_mem hr
    obtain ⟨j, hj, rfl⟩ := List.getElem_of_mem hq
    rw [List.pairwise_iff_getElem] at hp
    rcases Nat.lt_trichotomy i j with z | z | z
    · have := hp i j hi hj z
      omega
    · subst z
      rfl
    · have := hp j i hj hi z
      omega
theorem ixOf_get {ns : List Nat} (hp : ns.Pairwise (· < ·)) {i : Nat} (hi : i < ns.length) : ixOf ns[i] ns = i := by
  have h1 := ixOf_at (List.getElem_mem hi)
  obtain ⟨h2, h3⟩ := List.getElem?_eq_some_iff.mp h1
  rw [List.pairwise_iff_getElem] at hp
  rcases Nat.lt_trichotomy (ixOf ns[i] ns) i with z | z | z
  · have := hp _ _ h2 hi z
    omega
  · exact z
  · have := hp _ _ hi h2 z
    omega
theorem line_back {rs : List Rw} (ok : RsOk rs) {ms w : List Nat} (nk : NumsOk (rowOf rs (ms.headD 0)) ms) (hone : rowOf rs (ms.headD 0) = none → ms.length = 1) (hpos : ∀ m ∈ ms, 1 ≤ m) (hw : wordB w = true) :
    lineN rs (lineM (rowOf rs (ms.headD 0)) ms w) = ms ∧ behind 32 (lineM (rowOf rs (ms.headD 0)) ms w) = w ∧ 1 ≤ (lineM (rowOf rs (ms.headD 0)) ms w).length ∧ (lineM (rowOf rs (ms.headD 0)) ms w).length ≤ 15 * ms.length + 30 := by
  have hwl := wordB_len hw
  obtain ⟨m0, r0, rfl⟩ := List.exists_cons_of_ne_nil nk.ne
  have h0 : (m0 :: r0).headD 0 = m0 := rfl
  rw [h0] at nk hone ⊢
  have b0 := nk.le m0 (List.mem_cons_self ..)
  have p0 := hpos m0 (List.mem_cons_self ..)
  have l0 : (num m0).length ≤ 7 := TL.numL_len (by decide) (Nat.lt_of_le_of_lt b0 (by decide))
  have key : ∀ hd : List Nat, 32 ∉ hd → toldN rs hd = m0 :: r0 → lineN rs (hd ++ 32 :: w) = m0 :: r0 ∧ behind 32 (hd ++ 32 :: w) = w := fun hd h1 h2 => by
    obtain ⟨c1, c2⟩ := cutAt_app (b := w) h1
    unfold lineN
    rw [c2, c1, if_pos hw, h2]
    exact ⟨rfl, rfl⟩
  cases hro : rowOf rs m0 with
  | none =>
    have h1 := hone hro
    have hr0 : r0 = [] := List.eq_nil_of_length_eq_zero (by rw [List.length_cons] at h1; omega)
    subst hr0
    obtain ⟨k1, k2⟩ := key (num m0) (num_free (by decide)) (by
      obtain ⟨c1, c2⟩ := cutAt_none (num_free (n := m0) (c := 46) (by decide))
      unfold toldN
      rw [c1, num_pm b0]
      show (if m0 = 0 then _ else if 46 ∈ num m0 then _ else if (rowOf rs m0).isNone = true then [m0] else []) = _
      rw [if_neg (by omega), if_neg (num_free (by decide)), hro]
      rfl)
    refine ⟨k1, k2, ?_, ?_⟩
    · show 1 ≤ (num m0 ++ 32 :: w).length
      rw [List.length_append, List.length_cons]
      omega
    · show (num m0 ++ 32 :: w).length ≤ _
      rw [List.length_append, List.length_cons]
      omega
  | some r =>
    rw [hro] at nk
    obtain ⟨hrm, _⟩ := rowOf_mem hro
    have ixr := ok.ix r hrm
    obtain ⟨f1, f2⟩ := ok.bd r hrm
    have hrf : rowOf rs r.1 = some r := rowOf_first ok hrm (inRow_iff.mpr ⟨Nat.le_refl _, by have := ixr.lo; omega⟩)
    have ix := ixs_ok ixr nk
    have lr : (num r.1).length ≤ 7 := TL.numL_len (by decide) (Nat.lt_of_le_of_lt f2 (by decide))
    have hil : (ixs r (m0 :: r0)).length = (m0 :: r0).length := List.length_map ..
    have hll := least_len ix
    rw [hil] at hll
    have at_ : ∀ m ∈ m0 :: r0, ∃ hh : m - r.1 < r.2.length, r.2.getD (m - r.1) 0 = r.2[m - r.1] ∧ r.1 ≤ m := fun m hm => by
      have := inRow_iff.mp (nk.inR r rfl m hm)
      exact ⟨by omega, by rw [List.getD_eq_getElem?_getD, List.getElem?_eq_getElem (by omega)]; rfl, this.1⟩
    have hall : (ixs r (m0 :: r0)).all (fun z => decide (z ∈ r.2)) = true := List.all_eq_true.mpr fun z hz => by
      obtain ⟨m, hm, rfl⟩ := List.mem_map.mp hz
      obtain ⟨g1, g2, _⟩ := at_ m hm
      rw [decide_eq_true_iff]
      show r.2.getD (m - r.1) 0 ∈ r.2
      rw [g2]
      exact List.getElem_mem _
    have hmap : (ixs r (m0 :: r0)).map (fun z => r.1 + ixOf z r.2) = m0 :: r0 := by
      unfold ixs
      rw [List.map_map]
      rw [List.map_congr_left (g := id) fun m hm => ?_, List.map_id]
      obtain ⟨g1, g2, g3⟩ := at_ m hm
      show r.1 + ixOf (r.2.getD (m - r.1) 0) r.2 = m
      rw [g2, ixOf_get ixr.up g1]
      omega
    have told : ∀ X : List Nat, toldI X = ixs r (m0 :: r0) → toldN rs (num r.1 ++ 46 :: X) = m0 :: r0 := fun X hX => by
      obtain ⟨c1, c2⟩ := cutAt_app (b := X) (num_free (n := r.1) (c := 46) (by decide))
      unfold toldN
      rw [c1, num_pm (show r.1 ≤ 1000000 by omega)]
      show (if r.1 = 0 then _ else if 46 ∈ num r.1 ++ 46 :: X then (match rowOf rs r.1 with | none => [] | some q => _) else _) = _
      rw [if_neg (by omega), if_pos (List.mem_append_right _ (List.mem_cons_self ..)), hrf, c2, hX]
      show (if r.1 = r.1 ∧ _ then _ else _) = _
      rw [if_pos ⟨rfl, hall⟩]
      exact hmap
    have nb : brackB (num ((ixs r (m0 :: r0)).headD 0)) = false := by
      unfold brackB
      rw [decide_eq_false, Bool.false_and]
      intro z
      exact num_free (c := 91) (by decide) (List.mem_of_mem_head? z)
    by_cases h1 : (ixs r (m0 :: r0)).length = 1
    · obtain ⟨z, hz⟩ := List.length_eq_one_iff.mp h1
      have hzb := ix.bd z (by rw [hz]; exact List.mem_singleton.mpr rfl)
      have hX : toldI (leastM (ixs r (m0 :: r0))) = ixs r (m0 :: r0) := by
        rw [hz] at nb ⊢
        rw [least_one]
        unfold toldI
        rw [if_neg (by rw [show brackB (num z) = false from nb]; decide), num_plain (num_T hzb), val_num]
      have n32 := least_no ix (c := 32) (by decide) (by decide) (by decide) (by decide)
      obtain ⟨k1, k2⟩ := key (num r.1 ++ 46 :: leastM (ixs r (m0 :: r0))) (fun hm => by
        rcases List.mem_append.mp hm with hm | hm
        · exact num_free (by decide) hm
        · rcases List.mem_cons.mp hm with hm | hm
          · exact absurd hm (by decide)
          · exact n32 hm) (told _ hX)
      have el : lineM (some r) (m0 :: r0) w = (num r.1 ++ 46 :: leastM (ixs r (m0 :: r0))) ++ 32 :: w := by
        show num r.1 ++ 46 :: (if (ixs r (m0 :: r0)).length = 1 then leastM (ixs r (m0 :: r0)) ++ 32 :: w else _) = _
        rw [if_pos h1]
        simp
      rw [el]
      refine ⟨k1, k2, ?_, ?_⟩ <;> simp only [List.length_append, List.length_cons] at hll ⊢ <;> omega
    · have hX : toldI (91 :: (leastM (ixs r (m0 :: r0)) ++ [93])) = ixs r (m0 :: r0) := by
        unfold toldI
        have hb : brackB (91 :: (leastM (ixs r (m0 :: r0)) ++ [93])) = true := by
          unfold brackB
          rw [show (91 :: (leastM (ixs r (m0 :: r0)) ++ [93])).head? = some 91 from rfl]
          rw [show 91 :: (leastM (ixs r (m0 :: r0)) ++ [93]) = (91 :: leastM (ixs r (m0 :: r0))) ++ [93] from rfl, List.getLast?_concat]
          rfl
        rw [if_pos hb]
        have hin : inner (91 :: (leastM (ixs r (m0 :: r0)) ++ [93])) = leastM (ixs r (m0 :: r0)) := by
          unfold inner
          rw [List.drop_succ_cons, List.drop_zero, List.length_cons, List.length_append]
          show List.take ((leastM (ixs r (m0 :: r0))).length + 1 + 1 - 2) _ = _
          rw [show (leastM (ixs r (m0 :: r0))).length + 1 + 1 - 2 = (leastM (ixs r (m0 :: r0))).length by omega, List.take_left]
        rw [hin, unf_least ix]
        rfl
      have n32 := least_no ix (c := 32) (by decide) (by decide) (by decide) (by decide)
      obtain ⟨k1, k2⟩ := key (num r.1 ++ 46 :: (91 :: (leastM (ixs r (m0 :: r0)) ++ [93]))) (fun hm => by
        rcases List.mem_append.mp hm with hm | hm
        · exact num_free (by decide) hm
        · rcases List.mem_cons.mp hm with hm | hm
          · exact absurd hm (by decide)
          · rcases List.mem_cons.mp hm with hm | hm
            · exact absurd hm (by decide)
            · rcases List.mem_append.mp hm with hm | hm
              · exact n32 hm
              · exact absurd (List.mem_singleton.mp hm) (by decide)) (told _ hX)
      have el : lineM (some r) (m0 :: r0) w = (num r.1 ++ 46 :: (91 :: (leastM (ixs r (m0 :: r0)) ++ [93]))) ++ 32 :: w := by
        show num r.1 ++ 46 :: (if (ixs r (m0 :: r0)).length = 1 then _ else 91 :: leastM (ixs r (m0 :: r0)) ++ 93 :: 32 :: w) = _
        rw [if_neg h1]
        simp
      rw [el]
      refine ⟨k1, k2, ?_, ?_⟩ <;> simp only [List.length_append, List.length_cons, List.length_nil] at hll ⊢ <;> omega
/-! ### many lines -/
/-- the piece of a line: its numbers and its word -/
structure PieceOk (rs : List Rw) (g : List Nat × List Nat) : Prop where
  nk : NumsOk (rowOf rs (g.1.headD 0)) g.1
  one : rowOf rs (g.1.headD 0) = none → g.1.length = 1
  pos : ∀ m ∈ g.1, 1 ≤ m
  word : wordB g.2 = true
def pieceL (rs : List Rw) (g : List Nat × List Nat) : List Nat := lineM (rowOf rs (g.1.headD 0)) g.1 g.2
def pieceS (g : List Nat × List Nat) : St1 := g.1.map fun n => (n, g.2)
theorem read_pieces {rs : List Rw} (ok : RsOk rs) : ∀ (gs : List (List Nat × List Nat)) (i : Nat) (f : St1), (∀ g ∈ gs, PieceOk rs g) → ((f ++ gs.flatMap pieceS).map Prod.fst).Nodup → readM rs (gs.map (pieceL rs)) i f = .inr (f ++ gs.flatMap pieceS)
  | [], i, f, _, _ => by
    show Sum.inr f = Sum.inr (f ++ [])
    rw [List.append_nil]
  | g :: gs, i, f, hg, hnd => by
    have g0 := hg g (List.mem_cons_self ..)
    obtain ⟨k1, k2, _⟩ := line_back ok g0.nk g0.one g0.pos g0.word
    have e : pieceL rs g = lineM (rowOf rs (g.1.headD 0)) g.1 g.2 := rfl
    rw [List.flatMap_cons, ← List.append_assoc] at hnd ⊢
    have hfst : (pieceS g).map Prod.fst = g.1 := by
      unfold pieceS
      rw [List.map_map]
      exact List.map_id _
    have ih := read_pieces ok gs (i + 1) (f ++ pieceS g) (fun x hx => hg x (List.mem_cons_of_mem _ hx)) hnd
    show (if lineN rs (pieceL rs g) = [] ∨ (lineN rs (pieceL rs g)).any (hasS f) = true then Sum.inl i else readM rs (gs.map (pieceL rs)) (i + 1) (f ++ (lineN rs (pieceL rs g)).map fun n => (n, behind 32 (pieceL rs g)))) = _
    rw [e, k1, k2, if_neg]
    · exact ih
    · rintro (z | z)
      · exact g0.nk.ne z
      · obtain ⟨n, hn, hh⟩ := List.any_eq_true.mp z
        have hm := hasS_iff.mp hh
        rw [List.append_assoc, List.map_append, List.nodup_append] at hnd
        exact hnd.2.2 n hm n (by rw [List.map_append, hfst]; exact List.mem_append_left _ hn) rfl
end K28

set_option Elab.async false
set_option linter.all false
set_option maxRecDepth 100000
set_option maxHeartbeats 4000000
namespace K28
open PySem PySem.Spec PyProof.Rows L2
/-! ## the folded lines are pieces of the states -/
theorem perm_map_inv {α β : Type} {f : α → β} : ∀ {l k : List β}, l.Perm k → ∀ {m : List α}, k = m.map f → ∃ m' : List α, m'.Perm m ∧ l = m'.map f := by
  intro l k h
  induction h with
  | nil => intro m e; exact ⟨m, List.Perm.refl _, e⟩
  | cons x _ ih =>
    intro m e
    cases m with
    | nil => cases e
    | cons a m =>
      obtain ⟨e1, e2⟩ := List.cons.inj e
      obtain ⟨m', p, e3⟩ := ih e2
      exact ⟨a :: m', p.cons a, by rw [List.map_cons, ← e1, e3]⟩
  | swap x y l =>
    intro m e
    match m, e with
    | a :: b :: m, e =>
      obtain ⟨e1, e2⟩ := List.cons.inj e
      obtain ⟨e3, e4⟩ := List.cons.inj e2
      exact ⟨b :: a :: m, List.Perm.swap a b m, by rw [List.map_cons, List.map_cons, ← e1, ← e3, e4]⟩
  | trans _ _ ih1 ih2 =>
    intro m e
    obtain ⟨m', p, e1⟩ := ih2 e
    obtain ⟨m'', p2, e2⟩ := ih1 e1
    exact ⟨m'', p2.trans p, e2⟩
theorem stOf_get {st : St1} (hk : (st.map Prod.fst).Nodup) {p : Nat × List Nat} (hp : p ∈ st) : stOf st p.1 = p.2 := by
  unfold stOf
  induction st with
  | nil => cases hp
  | cons q st ih =>
    rw [List.map_cons, List.nodup_cons] at hk
    rw [List.find?_cons]
    rcases List.mem_cons.mp hp with rfl | hp
    · rw [decide_eq_true rfl]
      rfl
    · rw [decide_eq_false (show ¬ q.1 = p.1 from fun z => hk.1 (by rw [z]; exact List.mem_map.mpr ⟨p, hp, rfl⟩))]
      exact ih hk.2 hp
theorem st_eq {st : St1} (hk : (st.map Prod.fst).Nodup) : (st.map Prod.fst).map (fun n => (n, stOf st n)) = st := by
  rw [List.map_map]
  rw [List.map_congr_left (g := id) fun p hp => ?_, List.map_id]
  show (p.1, stOf st p.1) = p
  rw [stOf_get hk hp]
theorem numsM_perm {st : St1} (hk : (st.map Prod.fst).Nodup) : (numsM st).Perm (st.map Prod.fst) := (List.perm_ext_iff_of_nodup (sortU_nodup _) hk).mpr fun n => mem_sortU
theorem sortS_perm {st : St1} (hk : (st.map Prod.fst).Nodup) : (sortS st).Perm st := by
  have h := (numsM_perm hk).map fun n => (n, stOf st n)
  rw [st_eq hk] at h
  exact h
theorem perm_same {f st : St1} (hp : f.Perm st) (hk : (st.map Prod.fst).Nodup) : (∀ n ∈ st.map Prod.fst, stOf f n = stOf st n) ∧ numsM f = numsM st ∧ sortS f = sortS st := by
  have hkf : (f.map Prod.fst).Nodup := ((hp.map Prod.fst).nodup_iff).mpr hk
  have h1 : ∀ n ∈ st.map Prod.fst, stOf f n = stOf st n := fun n hn => by
    obtain ⟨p, hp1, rfl⟩ := List.mem_map.mp hn
    rw [stOf_get hk hp1, stOf_get hkf (hp.mem_iff.mpr hp1)]
  have h2 : numsM f = numsM st := up_same (sortU_up _) (sortU_up _) fun n => by
    show n ∈ sortU _ ↔ n ∈ sortU _
    rw [mem_sortU, mem_sortU]
    exact (hp.map Prod.fst).mem_iff
  refine ⟨h1, h2, ?_⟩
  unfold sortS
  rw [h2]
  exact List.map_congr_left fun n hn => by rw [h1 n (mem_sortU.mp hn)]
/-- the pieces that fold_states makes -/
def piecesM (rs : List Rw) (st : St1) : List (List Nat × List Nat) := (grps (key0 rs st) (numsM st)).map fun g => (g.2, stOf st (g.2.headD 0))
theorem pieces_lines (rs : List Rw) (st : St1) : (piecesM rs st).map (pieceL rs) = linesM rs st (numsM st) := by
  unfold piecesM linesM
  rw [List.map_map]
  rfl
theorem word_ne {w : List Nat} (h : wordB w = true) : w ≠ [] := fun e => by
  rw [e] at h
  exact absurd h (by decide)
theorem group_same {rs : List Rw} {st : St1} (ok : StOk st) {g : GK × List Nat} (hg : g ∈ grps (key0 rs st) (numsM st)) : (∀ m ∈ g.2, stOf st m = stOf st (g.2.headD 0)) ∧ (rowOf rs (g.2.headD 0) = none → g.2.length = 1) := by
  have gok := grps_ok (key0 rs st) (numsM st)
  have hsub := gok.sub g hg
  have hin : ∀ m ∈ g.2, m ∈ st.map Prod.fst := fun m hm => mem_sortU.mp (hsub.subset hm)
  have hup : g.2.Pairwise (· < ·) := (sortU_up _).sublist hsub
  have hkey := gok.key g hg
  obtain ⟨m0, r0, e⟩ := List.exists_cons_of_ne_nil (gok.ne g hg)
  rw [e] at hin hup hkey ⊢
  have h0 : (m0 :: r0).headD 0 = m0 := rfl
  rw [h0]
  have k0 := hkey m0 (List.mem_cons_self ..)
  cases hro : rowOf rs m0 with
  | none =>
    have e0 : key0 rs st m0 = (m0, []) := by
      unfold key0
      rw [hro]
    have heq : ∀ m ∈ m0 :: r0, m = m0 := fun m hm => by
      have km := hkey m hm
      rw [← k0, e0] at km
      unfold key0 at km
      cases hrm : rowOf rs m with
      | none =>
        rw [hrm] at km
        exact congrArg Prod.fst km
      | some r =>
        rw [hrm] at km
        exact absurd (congrArg Prod.snd km) (word_ne (stOf_word ok (hin m hm)))
    have hr0 : r0 = [] := by
      cases r0 with
      | nil => rfl
      | cons a r =>
        have h1 := (List.pairwise_cons.mp hup).1 a (List.mem_cons_self ..)
        have h2 := heq a (by simp)
        omega
    subst hr0
    exact ⟨fun m hm => by rw [List.mem_singleton.mp hm], fun _ => rfl⟩
  | some r =>
    refine ⟨fun m hm => ?_, fun z => nomatch z⟩
    have km := hkey m hm
    rw [← k0] at km
    have e0 : key0 rs st m0 = (r.1, stOf st m0) := by
      unfold key0
      rw [hro]
    rw [e0] at km
    unfold key0 at km
    cases hrm : rowOf rs m with
    | none =>
      rw [hrm] at km
      exact absurd (congrArg Prod.snd km).symm (word_ne (stOf_word ok (hin m0 (List.mem_cons_self ..))))
    | some q =>
      rw [hrm] at km
      exact congrArg Prod.snd km
theorem pieces_ok {rs : List Rw} (rok : RsOk rs) {st : St1} (ok : StOk st) : ∀ g ∈ piecesM rs st, PieceOk rs g := by
  intro g hg
  obtain ⟨g0, h0, rfl⟩ := List.mem_map.mp hg
  have gok := grps_ok (key0 rs st) (numsM st)
  have hin : ∀ m ∈ g0.2, m ∈ st.map Prod.fst := fun m hm => mem_sortU.mp ((gok.sub g0 h0).subset hm)
  have hh : g0.2.headD 0 ∈ g0.2 := by
    cases e : g0.2 with
    | nil => exact absurd e (gok.ne g0 h0)
    | cons a r => exact List.mem_cons_self ..
  exact ⟨numsOk rok.up (fun r hr => (rok.ix r hr).lo) ok h0, (group_same ok h0).2, fun m hm => by
    obtain ⟨p, hp, rfl⟩ := List.mem_map.mp (hin m hm)
    exact (ok.num p hp).1, stOf_word ok (hin _ hh)⟩
theorem flat_nodup {α : Type} : ∀ {gs : List (α × List Nat)} {key : Nat → α}, (gs.map Prod.fst).Nodup → (∀ g ∈ gs, g.2.Nodup ∧ ∀ m ∈ g.2, key m = g.1) → (gs.flatMap Prod.snd).Nodup
  | [], _, _, _ => List.nodup_nil
  | g :: gs, key, hn, h => by
    rw [List.map_cons, List.nodup_cons] at hn
    rw [List.flatMap_cons, List.nodup_append]
    refine ⟨(h g (List.mem_cons_self ..)).1, flat_nodup (key := key) hn.2 fun x hx => h x (List.mem_cons_of_mem _ hx), fun a ha b hb z => ?_⟩
    subst z
    obtain ⟨g', hg', hb⟩ := List.mem_flatMap.mp hb
    have h1 := (h g (List.mem_cons_self ..)).2 a ha
    have h2 := (h g' (List.mem_cons_of_mem _ hg')).2 a hb
    exact hn.1 (List.mem_map.mpr ⟨g', hg', by rw [← h2, h1]⟩)
theorem pieces_perm {rs : List Rw} {st : St1} (ok : StOk st) : ((piecesM rs st).flatMap pieceS).Perm st := by
  have gok := grps_ok (key0 rs st) (numsM st)
  have hmap : (piecesM rs st).flatMap pieceS = ((grps (key0 rs st) (numsM st)).flatMap Prod.snd).map fun n => (n, stOf st n) := by
    unfold piecesM
    rw [List.flatMap_map, List.map_flatMap]
    have : ∀ gs : List (GK × List Nat), (∀ g ∈ gs, g ∈ grps (key0 rs st) (numsM st)) → (gs.flatMap fun g => pieceS (g.2, stOf st (g.2.headD 0))) = gs.flatMap fun g => g.2.map fun n => (n, stOf st n) := by
      intro gs
      induction gs with
      | nil => intro _; rfl
      | cons g gs ih =>
        intro h
        rw [List.flatMap_cons, List.flatMap_cons, ih fun x hx => h x (List.mem_cons_of_mem _ hx)]
        congr 1
        unfold pieceS
        refine List.map_congr_left fun n hn => ?_
        rw [(group_same ok (h g (List.mem_cons_self ..))).1 n hn]
    exact this _ fun _ h => h
  rw [hmap]
  have hp : ((grps (key0 rs st) (numsM st)).flatMap Prod.snd).Perm (numsM st) := by
    refine (List.perm_ext_iff_of_nodup (flat_nodup (key := key0 rs st) gok.nd fun g hg => ⟨(sortU_nodup _).sublist (gok.sub g hg), gok.key g hg⟩) (sortU_nodup _)).mpr fun n => ?_
    rw [List.mem_flatMap]
    constructor
    · rintro ⟨g, hg, hn⟩
      exact (gok.sub g hg).subset hn
    · exact gok.all n
  exact (hp.map _).trans (sortS_perm ok.keys)
/-- lines of such pieces, in any order, read back -/
theorem read_perm {rs : List Rw} (rok : RsOk rs) {st : St1} (hk : (st.map Prod.fst).Nodup) {gs gs' : List (List Nat × List Nat)} (hp : gs'.Perm gs) (hg : ∀ g ∈ gs, PieceOk rs g) (hs : (gs.flatMap pieceS).Perm st) :
    ∃ f, readM rs (gs'.map (pieceL rs)) 0 [] = .inr f ∧ f.Perm st := by
  have h1 : (gs'.flatMap pieceS).Perm st := (hp.flatMap_right pieceS).trans hs
  refine ⟨gs'.flatMap pieceS, ?_, h1⟩
  have := read_pieces rok gs' 0 [] (fun g h => hg g (hp.mem_iff.mp h)) (by rw [List.nil_append]; exact ((h1.map Prod.fst).nodup_iff).mpr hk)
  rw [List.nil_append] at this
  exact this
/-- each job told singly -/
def singlesM (st : St1) : List (List Nat × List Nat) := st.map fun p => ([p.1], p.2)
theorem singles_flat : ∀ st : St1, (singlesM st).flatMap pieceS = st
  | [] => rfl
  | p :: st => by
    show [(p.1, p.2)] ++ (singlesM st).flatMap pieceS = _
    rw [singles_flat st]
    rfl
theorem singles_ok {rs : List Rw} (rok : RsOk rs) {st : St1} (ok : StOk st) : ∀ g ∈ singlesM st, PieceOk rs g := by
  intro g hg
  obtain ⟨p, hp, rfl⟩ := List.mem_map.mp hg
  obtain ⟨n1, n2⟩ := ok.num p hp
  refine ⟨⟨List.cons_ne_nil _ _, fun m hm => by rw [List.mem_singleton.mp hm]; exact n2, List.pairwise_singleton .., fun r hr m hm => ?_⟩, fun _ => rfl, fun m hm => by rw [List.mem_singleton.mp hm]; exact n1, ok.word p hp⟩
  rw [List.mem_singleton.mp hm]
  exact (rowOf_mem hr).2
theorem piece_len {rs : List Rw} (rok : RsOk rs) (h9 : ∀ r ∈ rs, r.2.length ≤ 9) {g : List Nat × List Nat} (hg : PieceOk rs g) : 1 ≤ (pieceL rs g).length ∧ (pieceL rs g).length ≤ 900 := by
  obtain ⟨_, _, l1, l2⟩ := line_back rok hg.nk hg.one hg.pos hg.word
  refine ⟨l1, Nat.le_trans l2 ?_⟩
  have : g.1.length ≤ 9 := by
    cases e : rowOf rs (g.1.headD 0) with
    | none =>
      have := hg.one e
      omega
    | some r =>
      have nk := hg.nk
      rw [e] at nk
      have h1 := up_len (k := r.1) (n := r.1 + r.2.length) nk.up fun m hm => inRow_iff.mp (nk.inR r rfl m hm)
      have := h9 r (rowOf_mem e).1
      omega
  omega
end K28

set_option Elab.async false
set_option linter.all false
set_option maxRecDepth 100000
set_option maxHeartbeats 4000000
/-! ## rules for the law's last two defs -/
namespace L2
open PySem PySem.Spec PyProof.Rows K28
/-- x != y of two whole numbers that are equal, or of two dicts that are -/
def rNeR : R2 := fun x y H Q => (∃ n : Int, x = .int n ∧ y = .int n ∧ Q (.bl false) H) ∨ ∃ a b ks ls, x = .ref a ∧ y = .ref b ∧ Rd H a (.dK ks) ∧ Rd H b (.dK ls) ∧ ks.length = ls.length ∧ (∀ p ∈ ks, valV ls p.1 = some p.2 ∧ flatB p.2 = true) ∧ Q (.bl false) H
theorem op_neR {X : Cx} (hu : X.A.units < cLine) : OpR X (compareOp .NotEq) rNeR := by
  intro pins s σ H x y v u Q I rx ry h
  rcases h with ⟨n, rfl, rfl, q⟩ | ⟨a, b, ks, ls, rfl, rfl, ea, eb, hlen, hp, q⟩
  · refine op_ne pins s σ H _ _ v u Q I rx ry ⟨rfl, ?_⟩
    rw [decide_eq_true rfl]
    exact q
  · obtain rfl : v = Value.ref a := rx
    obtain rfl : u = Value.ref b := ry
    obtain ⟨_, ya, va, ra, da⟩ := dk_rd I.hok ea
    obtain ⟨_, yb, vb, rb, db⟩ := dk_rd I.hok eb
    have hl : va.length = vb.length := by rw [← ra.length, ← rb.length]; exact hlen
    exact PySem.W.keq_ne (knd := mixKind X.prog X.w) (r := true) ya yb da db hu (fun _ => hits_all rb ra hp) (fin_bl I q (by simp [hl]))
/-- f(e, .., k = v): no positional defaults, all parameters given -/
theorem FunD.kbindsAll {K : PySem.W.Frag} {x qual : Str} {params : Arguments} {body : List Stmt} {scope : Scope} {kws : List (Str × V)} {f : Addr} {fd : FuncData} {ps ks : List Str} {n : Nat} (F : FunD K x qual params body scope [] kws f fd)
    (h : ∀ (kV doc pm : Value) (an : Option Addr) (cdv ct : Value) (us ws : List Value), us.length = n → ws.length = ks.length → bindArgs (PySem.W.fnOf x qual params body scope .none kV doc pm an cdv ct) ⟨us, ks.zip ws⟩ = pure (ps.zip (us ++ ws))) :
    KBn K fd ps n ks (fun us ws => us ++ ws) (fun vs zs => vs ++ zs) := by
  obtain ⟨oc, od, dV, kV, doc, pm, an, cdv, ct, osl, rfl, lk, hcd, hD, hK⟩ := F.ex
  rcases hD with ⟨_, rfl⟩ | ⟨e, _⟩
  · exact ⟨fun s us ws _ l1 l2 => .of_eq (h kV doc pm an cdv ct us ws l1 l2), fun r1 r2 => r1.append r2⟩
  · exact absurd rfl e
end L2
namespace K28
open PySem PySem.Spec PyProof.Rows L2
theorem kvS_same {f st : St1} (hp : f.Perm st) (hk : (st.map Prod.fst).Nodup) : (kvS f).length = (kvS st).length ∧ ∀ p ∈ kvS f, valV (kvS st) p.1 = some p.2 ∧ flatB p.2 = true := by
  refine ⟨by rw [kvS_len, kvS_len, hp.length_eq], fun p hm => ?_⟩
  obtain ⟨q, hq, rfl⟩ := List.mem_map.mp hm
  have hq2 := hp.mem_iff.mp hq
  refine ⟨?_, rfl⟩
  show valV (kvS st) (.inl (q.1 : Int)) = some (.str (S q.2))
  rw [kvS_valV (List.mem_map.mpr ⟨q, hq2, rfl⟩), stOf_get hk hq2]
section
variable {K : PySem.W.Frag} {d : Addr} {H H' : Hp}
theorem Ld.get {b : Addr} {o : HO} (e : Ld K d H H') (hd : Dice H d) (h : H b = some o) (ho : ∀ x y z, o ≠ diceO x y z) (ht : ∀ ps, o ≠ .tbl ps) : H' b = some o := e.keep b o (hd.ne h ho) h ht
theorem Ld.slt {a C dx : Addr} {vs : List (Option V)} (e : Ld K d H H') (hd : Dice H d) (h : SlX.Slt H a C dx vs) : SlX.Slt H' a C dx vs := by
  rcases h with ⟨h1, h2⟩ | ⟨h1, h2⟩
  · exact .inl ⟨e.get hd h1 (fun _ _ _ z => nomatch z) fun _ z => (nomatch z), h2⟩
  · exact .inr ⟨e.get hd h1 (fun _ _ _ z => by unfold SlX.SlO diceO at z; cases z) (fun ps z => by unfold SlX.SlO at z; cases z), e.get hd h2 (fun _ _ _ z => nomatch z) fun _ z => (nomatch z)⟩
theorem Ld.row {x : Addr} {f : Nat} {ns : List Nat} (e : Ld K d H H') (hd : Dice H d) (h : RowOk K H x f ns) : RowOk K H' x f ns := by
  obtain ⟨⟨dx, vs, t1, t2, h1, h2, h3, h4, h5, h6⟩, lo, hi, ix⟩ := h
  exact ⟨⟨dx, vs, t1, t2, e.slt hd h1, h2, h3, e.tupD hd h4, h5, e.sqT hd h6⟩, lo, hi, ix⟩
theorem Ld.rows {a : Addr} {rs : List Rw} (e : Ld K d H H') (hd : Dice H d) (h : RowsT K H a rs) : RowsT K H' a rs := by
  obtain ⟨ps, h1, h2, h3⟩ := h.ex
  exact ⟨ps, e.sqT hd h1, h2, fun i p r a b => e.row hd (h3 i p r a b)⟩
theorem Ld.std {a : Addr} {st : St1} (e : Ld K d H H') (hd : Dice H d) (h : StD H a st) : StD H' a st := by
  obtain ⟨o, h⟩ := h
  exact ⟨o, e.get hd h (fun _ _ _ z => nomatch z) fun _ z => (nomatch z)⟩
theorem StD.rd {a : Addr} {st : St1} (h : StD H a st) : Rd H a (.dK (kvS st)) := by
  obtain ⟨o, h⟩ := h
  exact .inr ⟨o, h⟩
end
end K28

set_option Elab.async false
set_option linter.all false
set_option maxRecDepth 100000
set_option maxHeartbeats 4000000
namespace K28
open PySem PySem.Spec PyProof.Rows L2
/-! ## one cell -/
section
variable {K : PySem.W.Frag} {H H' : Hp}
theorem Hd.slt {a C dx : Addr} {vs : List (Option V)} (e : Hd H H') (h : SlX.Slt H a C dx vs) : SlX.Slt H' a C dx vs := by
  rcases h with ⟨h1, h2⟩ | ⟨h1, h2⟩
  · exact .inl ⟨e _ _ h1 rfl fun _ z => (nomatch z), h2⟩
  · exact .inr ⟨e _ _ h1 rfl (fun ps z => by unfold SlX.SlO at z; cases z), e _ _ h2 rfl fun _ z => (nomatch z)⟩
theorem Hd.row {x : Addr} {f : Nat} {ns : List Nat} (e : Hd H H') (h : RowOk K H x f ns) : RowOk K H' x f ns := by
  obtain ⟨⟨dx, vs, t1, t2, h1, h2, h3, h4, h5, h6⟩, lo, hi, ix⟩ := h
  exact ⟨⟨dx, vs, t1, t2, e.slt h1, h2, h3, e.tupD h4, h5, e.sqT h6⟩, lo, hi, ix⟩
def Sgn (ls : List (List Nat)) : Prop := ∀ l ∈ ls, ∀ c ∈ l, c < 1114112
theorem canLay_strs : ∀ ls : List (List Nat), Sgn ls → PyData.canLayAll0 (ls.map fun l => PyData.str (S l)) = true
  | [], _ => by simp [PyData.canLayAll0]
  | l :: ls, h => by
    have h1 : PyData.strOk (S l) = true := by
      show (S l).cps.all (fun c => decide (c < 0x110000)) = true
      rw [← Array.all_toList]
      exact List.all_eq_true.mpr fun c hc => decide_eq_true (h l (List.mem_cons_self ..) c hc)
    simp [PyData.canLayAll0, PyData.canLay0, canLay_strs ls fun x hx => h x (List.mem_cons_of_mem _ hx), h1]
theorem depth_strs : ∀ ls : List (List Nat), PyData.depthAll (ls.map fun l => PyData.str (S l)) = 0
  | [] => by simp [PyData.depthAll]
  | l :: ls => by simp [PyData.depthAll, PyData.depth, depth_strs ls]
theorem shaped_strs {ls : List (List Nat)} (hs : Sgn ls) : SeqAt.shaped (.tuple (ls.map fun l => PyData.str (S l))) = true := by
  have h1 := depth_strs ls
  have h2 : PyData.depth (.tuple (ls.map fun l => PyData.str (S l))) ≤ 64 := by simp only [PyData.depth]; omega
  show (PyData.canLay0 (.tuple (ls.map fun l => PyData.str (S l))) && decide (PyData.depth (.tuple (ls.map fun l => PyData.str (S l))) ≤ 64)) = true
  rw [Bool.and_eq_true]
  exact ⟨by simp only [PyData.canLay0]; exact canLay_strs ls hs, decide_eq_true h2⟩
theorem dp_strs {H : Hp} : ∀ ls : List (List Nat), DpAll K H (strsV ls) (ls.map fun l => PyData.str (S l))
  | [] => .nil
  | l :: ls => .cons (.str _) (dp_strs ls)
theorem eqv_strs {ls : List (List Nat)} (hs : Sgn ls) : PyData.eqv (.tuple (ls.map fun l => PyData.str (S l))) (.tuple (ls.map fun l => PyData.str (S l))) = true := SeqAt.eqv_refl _ (SeqAt.canLay_of_shaped (shaped_strs hs))
theorem eqv_ints (ns : List Int) : PyData.eqv (.list (ns.map PyData.int)) (.list (ns.map PyData.int)) = true := SeqAt.eqv_refl _ (SeqAt.canLay_of_shaped (PySem.W.shaped_ints ns))
/-- what a cell's def holds on to -/
structure RCtx (K : PySem.W.Frag) (d : Addr) (p : Addr) (ps : List Addr) (rs : List Rw) (rp sp : Addr) (st : St1) (H : Hp) : Prop where
  rows : RowsT K H rp rs
  sd : StD H sp st
  lr : LRs K H ps rs
  hp : H p = some (.lst (ps.map V.ref))
  pd : p ≠ d
  tb : TbOk K H
  dice : Dice H d
theorem RCtx.ld {d p : Addr} {ps : List Addr} {rs : List Rw} {rp sp : Addr} {st : St1} (C : RCtx K d p ps rs rp sp st H) (e : Ld K d H H') : RCtx K d p ps rs rp sp st H' :=
  ⟨e.rows C.dice C.rows, e.std C.dice C.sd, (e.hd C.dice).lrs C.lr, e.keep _ _ C.pd C.hp fun _ z => (nomatch z), C.pd, e.tabs C.tb, e.dice C.dice⟩
theorem RCtx.sqp {d p : Addr} {ps : List Addr} {rs : List Rw} {rp sp : Addr} {st : St1} (C : RCtx K d p ps rs rp sp st H) : SqL K H p (ps.map V.ref) := .inl (.inl C.hp)
end
theorem parts_few {rs : List Rw} (h3 : rs.length ≤ 3) (h9 : ∀ r ∈ rs, r.2.length ≤ 9) : (partsN rs).length ≤ 27 := by
  have gen : ∀ rs : List Rw, (∀ r ∈ rs, r.2.length ≤ 9) → (partsN rs).length ≤ rs.length * 9 := by
    intro rs
    induction rs with
    | nil => intro _; exact Nat.le_refl _
    | cons r rs ih =>
      intro h
      have h1 := ih fun x hx => h x (List.mem_cons_of_mem _ hx)
      have h2 := h r (List.mem_cons_self ..)
      unfold partsN at h1 ⊢
      rw [List.flatMap_cons, List.length_append, List.length_map, List.length_range, List.length_cons]
      omega
  have := gen rs h9
  omega
theorem more_small : ∀ (m : List (List Nat)) (p : Nat), (∀ d ∈ m, NumT d) → ∀ c ∈ moreR p m, c ≤ 58
  | [], _, _, c, hc => absurd hc List.not_mem_nil
  | d :: m, p, h, c, hc => by
    rcases List.mem_cons.mp (show c ∈ (if p = 0 then 45 else 58) :: (d ++ moreR (p + 1) m) from hc) with z | z
    · rw [z]
      split <;> decide
    · rcases List.mem_append.mp z with z | z
      · exact Nat.le_of_not_lt fun q => num_no (h d (List.mem_cons_self ..)) (.inr (by omega)) z
      · exact more_small m (p + 1) (fun x hx => h x (List.mem_cons_of_mem _ hx)) c z
theorem ent_small {e : List (List Nat)} (he : EntT e) : ∀ c ∈ entR e, c ≤ 58 := fun c hc => by
  cases e with
  | nil => exact absurd hc List.not_mem_nil
  | cons d m =>
    rcases List.mem_append.mp (show c ∈ d ++ moreR 0 m from hc) with z | z
    · exact Nat.le_of_not_lt fun q => num_no (he.num d (List.mem_cons_self ..)) (.inr (by omega)) z
    · exact more_small m 0 (fun x hx => he.num x (List.mem_cons_of_mem _ hx)) c z
theorem rest_small : ∀ {es : List (List (List Nat))}, (∀ e ∈ es, EntT e) → ∀ c ∈ restR es, c ≤ 58
  | [], _, c, hc => absurd hc List.not_mem_nil
  | e :: es, h, c, hc => by
    rcases List.mem_cons.mp (show c ∈ 44 :: (entR e ++ restR es) from hc) with z | z
    · rw [z]
      decide
    · rcases List.mem_append.mp z with z | z
      · exact ent_small (h e (List.mem_cons_self ..)) c z
      · exact rest_small (fun x hx => h x (List.mem_cons_of_mem _ hx)) c z
theorem num_small {n : Nat} : ∀ c ∈ num n, c ≤ 58 := fun c hc => by
  have := TL.numL_digits n c hc
  omega
theorem word_small {w : List Nat} (h : wordB w = true) : ∀ c ∈ w, c ≤ 122 := fun c hc => by
  unfold wordB at h
  rw [Bool.and_eq_true, Bool.and_eq_true] at h
  have := List.all_eq_true.mp h.2.2 c hc
  unfold isLet at this
  rw [Bool.and_eq_true] at this
  exact of_decide_eq_true this.2
theorem least_signs {ns : List Nat} (ix : IxN ns) : ∀ c ∈ leastM ns, c ≤ 58 := by
  have hlo := ix.lo
  obtain ⟨es, t1, t2, _⟩ := least_txt ns.length ns rfl (fun z => by rw [z] at hlo; simp at hlo) ix.bd ix.up
  rw [t2]
  cases es with
  | nil => exact absurd rfl t1.1
  | cons e es =>
    intro c hc
    rcases List.mem_append.mp (show c ∈ entR e ++ restR es from hc) with z | z
    · exact ent_small (t1.2 e (List.mem_cons_self ..)) c z
    · exact rest_small (fun x hx => t1.2 x (List.mem_cons_of_mem _ hx)) c z
theorem piece_signs {rs : List Rw} (rok : RsOk rs) {g : List Nat × List Nat} (hg : PieceOk rs g) : ∀ c ∈ pieceL rs g, c < 1114112 := by
  intro c hc
  unfold pieceL at hc
  have nk := hg.nk
  have hw := word_small hg.word
  cases e : rowOf rs (g.1.headD 0) with
  | none =>
    rw [e] at hc
    rcases List.mem_append.mp (show c ∈ num (g.1.headD 0) ++ 32 :: g.2 from hc) with z | z
    · have := num_small c z
      omega
    · rcases List.mem_cons.mp z with z | z
      · omega
      · have := hw c z
        omega
  | some r =>
    rw [e] at hc nk
    have hix := least_signs (ixs_ok (rok.ix r (rowOf_mem e).1) nk)
    rcases List.mem_append.mp (show c ∈ num r.1 ++ 46 :: _ from hc) with z | z
    · have := num_small c z
      omega
    · rcases List.mem_cons.mp z with z | z
      · omega
      · split at z
        · rcases List.mem_append.mp z with z | z
          · have := hix c z
            omega
          · rcases List.mem_cons.mp z with z | z
            · omega
            · have := hw c z
              omega
        · rcases List.mem_cons.mp z with z | z
          · omega
          · rcases List.mem_append.mp z with z | z
            · have := hix c z
              omega
            · rcases List.mem_cons.mp z with z | z
              · omega
              · rcases List.mem_cons.mp z with z | z
                · omega
                · have := hw c z
                  omega
theorem readM_nodup {rs : List Rw} : ∀ {ls : List (List Nat)} {i : Nat} {f g : St1}, (f.map Prod.fst).Nodup → readM rs ls i f = .inr g → (g.map Prod.fst).Nodup
  | [], i, f, g, h, e => by
    have e : (Sum.inr f : Sum Nat St1) = .inr g := e
    rw [← Sum.inr.inj e]
    exact h
  | l :: ls, i, f, g, h, e => by
    have e : (if lineN rs l = [] ∨ (lineN rs l).any (hasS f) = true then Sum.inl i else readM rs ls (i + 1) (f ++ (lineN rs l).map fun n => (n, behind 32 l))) = .inr g := e
    split at e
    · cases e
    · rename_i hc
      refine readM_nodup ?_ e
      have hfst : ((lineN rs l).map fun n => (n, behind 32 l)).map Prod.fst = lineN rs l := by
        rw [List.map_map]
        exact List.map_id _
      rw [List.map_append, hfst, List.nodup_append]
      refine ⟨h, lineN_nodup rs l, fun x hx y hy z => ?_⟩
      subst z
      exact hc (.inr (List.any_eq_true.mpr ⟨x, hy, hasS_iff.mpr hx⟩))
theorem sortS_keys (st : St1) : (kvS (sortS st)).map (fun kv => kV kv.1) = (numsM st).map vN := by
  unfold kvS sortS
  rw [List.map_map, List.map_map]
  rfl
theorem dp_nums {K : PySem.W.Frag} {H : Hp} (ns : List Nat) : DpAll K H (ns.map vN) ((ns.map fun n : Nat => (n : Int)).map PyData.int) := by
  rw [List.map_map]
  exact dp_ints ns
/-- a tuple of lines that tells the states -/
structure ToldOk (rs : List Rw) (st : St1) (l : List (List Nat)) : Prop where
  rd : ∃ f, readM rs l 0 [] = .inr f ∧ f.Perm st
  len : ∀ x ∈ l, x.length ≤ 900
  few : l.length ≤ 24
theorem told_of {rs : List Rw} (rok : RsOk rs) (h9 : ∀ r ∈ rs, r.2.length ≤ 9) {st : St1} (ok : StOk st) {gs gs' : List (List Nat × List Nat)} (hp : gs'.Perm gs) (hg : ∀ g ∈ gs, PieceOk rs g) (hs : (gs.flatMap pieceS).Perm st) (hl : gs.length ≤ 24) : ToldOk rs st (gs'.map (pieceL rs)) := by
  refine ⟨read_perm rok ok.keys hp hg hs, fun x hx => ?_, by rw [List.length_map, hp.length_eq]; exact hl⟩
  obtain ⟨g, hgm, rfl⟩ := List.mem_map.mp hx
  exact (piece_len rok h9 (hg g (hp.mem_iff.mp hgm))).2
theorem strs_perm {ys : List V} {rs : List Rw} {gs : List (List Nat × List Nat)} (h : ys.Perm (strsV (gs.map (pieceL rs)))) : ∃ gs' : List (List Nat × List Nat), gs'.Perm gs ∧ ys = strsV (gs'.map (pieceL rs)) := by
  unfold strsV at h ⊢
  rw [List.map_map] at h
  obtain ⟨gs', h1, h2⟩ := perm_map_inv h rfl
  exact ⟨gs', h1, by rw [List.map_map]; exact h2⟩
def spRight (K : PySem.W.Frag) : Sp := fun vs H Q _ => ∃ d : Addr, vs = [.ref d] ∧ Dice H d ∧ TbOk K H ∧ ∀ H', Ld K d H H' → Q (.bl true) H'
section
variable {w : World} {K : PySem.W.Frag} {mg : Str → Option Value} {base : Heap}
theorem ok_l_right (T : Tw K mg base) : Fk Er.PRG w K mg base "_law_right" 11 ["_law_dice_here"] (spRight K) := by
  obtain ⟨fdR, RF⟩ := T.row_f
  have KB := RF.kbindsAll (n := 3) (ks := ["at_once"]) (ps := ["self", "first", "indices", "at_once"]) (fun kV doc pm an cdv ct us ws h1 h2 => match us, ws, h1, h2 with | [_, _, _], [_], _, _ => rfl)
  refine Fk.mk0 T.g_l_right T.d_l_right sc_l_right (fun vs H Q E h => ?_) (fun _ _ _ _ _ _ us hl => match us, hl with | [_], _ => rfl) fun cdv A outer s H vs Q E hr h => ⟨_,
      (pss_cons (ps_set (i := 1) sc_l_right.nd rfl (Or.inr rfl) (pe_f (ok_l_likes_rows T.toTz.toTy.toTx) (hr.mono (by decide)) (pa_cons (pv 0) pa_nil)))
      (pss_cons (ps_asg (pe_tup (pa_cons (pe_callTy call_tuple_of (by rfl) T.m_tuple (by decide +kernel) (pa_cons (pe_lc (own := [("_law_first", 11), ("_law_indices", 12), ("_law_most", 13)]) (g := gTup K 3 (gCons (gName 11) (gCons (gName 12) (gCons (gName 13) (gNil))))) rfl sc_l_right.nd (pi_list (pv 1)) (blkOk_by (own := [("_law_first", 11), ("_law_indices", 12), ("_law_most", 13)]) (N := N_l_right) (sc := defScope s_l_right) (by decide +kernel)) (fun _ _ _ _ _ => (pg_tup rfl (pgs_cons (pg_name (i := 11) sc_l_right.nd rfl (Or.inl rfl)) (pgs_cons (pg_name (i := 12) sc_l_right.nd rfl (Or.inl rfl)) (pgs_cons (pg_name (i := 13) sc_l_right.nd rfl (Or.inl rfl)) pgs_nil))))) (fun _ _ _ _ _ => pts_nil) (fun _ _ _ _ _ => (pe_makeN T.row_m (ok_Row_init T.toTz.toTy RF) (hr.mono (by decide)) rfl T.g_Row KB passL (pa_cons (pv 11) (pa_cons (pv 12) pa_nil)) (pk_cons (pv 13) pk_nil)))) pa_nil)) (pa_cons (pe_still (pe_f (ok_l_likes_states T.toTz.toTy.toTx) (hr.mono (by decide)) (pa_cons (pv 0) (pa_cons (pv 1) pa_nil)))) pa_nil))) (pg_tup rfl (pgs_cons (pg_name (i := 2) sc_l_right.nd rfl (Or.inl rfl)) (pgs_cons (pg_name (i := 3) sc_l_right.nd rfl (Or.inr rfl)) pgs_nil))))
      (pss_cons (ps_set (i := 4) sc_l_right.nd rfl (Or.inl rfl) (pe_f (ok_fold_states T.toTz) (hr.mono (by decide)) (pa_cons (pv 2) (pa_cons (pv 3) pa_nil))))
      (pss_cons (ps_if (PW.pt (pw_or (pt_cmpR (op_neD hr.units) (pv 4) (pe_callTy call_tuple_of (by rfl) T.m_tuple (by decide +kernel) (pa_cons (pe_f (ok_l_lines T.toTz) (hr.mono (by decide)) (pa_cons (pv 1) (pa_cons (pv 3) pa_nil))) pa_nil)) (nomark _)) (pw_or1 (pt_cmpR (op_neR hr.units0) (pe_f (ok_l_read T.toTz.toTy.toTx) (hr.mono (by decide)) (pa_cons (pv 1) (pa_cons (pv 4) pa_nil))) (pv 3) (nomark _))))) (pss_one (ps_ret pe_bl)) pss_nil)
      (pss_cons (ps_setLc (i := 5) (own := [("_law_number", 10)]) (g := gName 10) rfl sc_l_right.nd rfl rfl (sw_true rfl rfl rfl (by decide +kernel)) (pi_keys (pv 3)) (blkOk_by (own := [("_law_number", 10)]) (N := N_l_right) (sc := defScope s_l_right) (by decide +kernel)) (fun _ _ _ _ _ => (pg_name (i := 10) sc_l_right.nd rfl (Or.inl rfl))) (fun _ _ _ _ _ => pts_nil) (fun _ _ _ _ _ => (pe_f (ok_l_line T.toTz) (hr.mono (by decide)) (pa_cons (pv 1) (pa_cons (pe_lst (pa_cons (pv 10) pa_nil)) (pa_cons (pe_dget (hu_of hr) (pv 3) (pv 10) (fun _ _ => rfl)) pa_nil))))))
      (pss_cons (ps_for PassesOwn.never rfl (pi_tup (pe_tup (pa_cons (pv 4) (pa_cons (pe_callTy call_tuple_of (by rfl) T.m_tuple (by decide +kernel) (pa_cons (pe_f (ok_l_mixed T.toTz.toTy.toTx) (hr.mono (by decide)) (pa_cons (pv 0) (pa_cons (pe_callTy call_list_of (by rfl) T.m_list (by decide +kernel) (pa_cons (pv 4) pa_nil)) pa_nil))) pa_nil)) (pa_cons (pe_callTy call_tuple_of (by rfl) T.m_tuple (by decide +kernel) (pa_cons (pe_f (ok_l_mixed T.toTz.toTy.toTx) (hr.mono (by decide)) (pa_cons (pv 0) (pa_cons (pv 5) pa_nil))) pa_nil)) pa_nil))))) (pg_name (i := 6) sc_l_right.nd rfl (Or.inl rfl)) (pss_cons (ps_set (i := 7) sc_l_right.nd rfl (Or.inl rfl) (pe_f (ok_unfold_states T.toTz) (hr.mono (by decide)) (pa_cons (pv 2) (pa_cons (pv 6) pa_nil))))
      (pss_one (ps_if (PW.pt (pw_or (pt_cmpR (op_neR hr.units0) (pv 7) (pv 3) (nomark _)) (pw_or1 (pt_cmpR (op_neD hr.units) (pe_callTy (call_list_dK rfl) (by rfl) T.m_list (by decide +kernel) (pa_cons (pv 7) pa_nil)) (pe_callB (call_sortedDI rfl) (by rfl) T.m_sorted (by decide +kernel) (pa_cons (pv 3) pa_nil)) (nomark _))))) (pss_one (ps_ret pe_bl)) pss_nil))))
      (pss_cons (ps_for PassesOwn.never rfl (pi_range1 (by rfl) T.m_range (pa_cons (pe_ifExp (pt_cmpR (op_neE hr.units0) (pv 4) (pe_tup pa_nil) (nomark _)) pe_int pe_int) pa_nil)) (pg_name (i := 8) sc_l_right.nd rfl (Or.inl rfl)) (pss_cons (ps_set (i := 9) sc_l_right.nd rfl (Or.inl rfl) (pe_f (ok_l_bent T.toTz.toTy.toTx) (hr.mono (by decide)) (pa_cons (pv 0) (pa_cons (pv 4) pa_nil))))
      (pss_one (ps_if (pt_cmpR (op_neR hr.units0) (pe_f (ok_l_told T) (hr.mono (by decide)) (pa_cons (pv 2) (pa_cons (pv 9) pa_nil))) (pe_f (ok_l_read T.toTz.toTy.toTx) (hr.mono (by decide)) (pa_cons (pv 1) (pa_cons (pv 9) pa_nil))) (nomark _)) (pss_one (ps_ret pe_bl)) pss_nil))))
      (pss_one (ps_ret pe_bl))))))))), ?_⟩
  · obtain ⟨_, rfl, _⟩ := h
    rfl
  · obtain ⟨d, rfl, hd, tb, q⟩ := h
    have sl : sizeLine = 16777216 := sizeLine_eq
    have OS := ordS (K := K)
    refine ⟨_, rfl, d, rfl, hd, fun H1 p ps rs e1 hpn hp lr hr3 up hbd => ?_⟩
    have hd1 := e1.dice hd
    have hpd := hd.ne0 hpn
    have hpl : (ps.map V.ref).length = rs.length := by rw [List.length_map, lr.1]
    -- the rows
    refine ⟨_, rfl, p, rfl, ⟨_, .inl (.inl hp)⟩, fun D hD => ?_⟩
    refine lc_it (walk_list (K := K) (xs := ps.map V.ref)) (fun i H' => Same H1 H' ∧ ∃ qs : List Addr, H' D = some (.lst (qs.map V.ref)) ∧ qs.length = i ∧ ∀ (j : Nat) (q : Addr) (r : Rw), qs[j]? = some q → rs[j]? = some r → RowOk K H' q r.1 r.2)
      ⟨Same.new hD, [], upd_same, rfl, fun j q r h => by simp at h⟩ (fun i H' _ pv => .inl (.inl (pv.1 _ _ hp))) (fun i x H2 H3 hi pv hy => ?_) fun H2 pv => ?_
    · obtain ⟨e2, qs, hqs, hql, hqr⟩ := pv
      obtain ⟨rfl, hx⟩ := hy
      obtain ⟨p1, hp1, rfl⟩ := map_get hx
      rw [hpl] at hi
      have hri : rs[i]? = some rs[i] := List.getElem?_eq_getElem hi
      obtain ⟨t, m, g1, g2, g3, g4⟩ := (Le.hd (K := K) e2.le).lrow (lr.2 i p1 rs[i] hp1 hri)
      have bi := hbd _ (List.getElem_mem hi)
      generalize rs[i] = r at hri g1 g2 g3 g4 bi
      refine ⟨_, _, rfl, g1, rfl, _, _, rfl, _, _, rfl, _, _, rfl, rfl, rfl, ⟨_, rfl, _, rfl, _, rfl, rfl, rfl, fun x dx hx hdx hne => ?_⟩⟩
      refine ⟨x, dx, r.1, t, r.2, m, rfl, upd_same, by rw [upd_ne hne]; exact upd_same, hne, bi.1, by omega, ?_, g4, g3, fun H4 ex rat => ⟨rfl, ?_⟩⟩
      · exact ((Le.hd (K := K) (Same.new hdx).le).tupD g2) |> fun z => (Le.hd (K := K) (Same.new (by rw [upd_ne (Ne.symm hne)]; exact hx)).le).tupD z
      · have e4 : Same H3 H4 := ex2_same hx hdx ex
        have hq4 := e4 _ _ hqs
        have hsoft : Hd H4 (upd H4 D (.lst (qs.map V.ref ++ [.ref x]))) := Hd.soft hq4 rfl
        refine ⟨_, hq4, by rw [List.length_map]; omega, (e2.trans e4).mut hD, qs ++ [x], ?_, ?_, ?_⟩
        · rw [upd_same, List.map_append]
          rfl
        · rw [List.length_append, hql]
          rfl
        · intro j q r' hq hr'
          by_cases hj : j < qs.length
          · rw [List.getElem?_append_left hj] at hq
            exact hsoft.row (OS.row (hqr j q r' hq hr') e4)
          · have hj2 : j = qs.length := by
              have h1 := (List.getElem?_eq_some_iff.mp hq).1
              rw [List.length_append] at h1
              simp at h1
              omega
            subst hj2
            rw [List.getElem?_append_right (Nat.le_refl _), Nat.sub_self] at hq
            obtain rfl : x = q := Option.some.inj hq
            rw [hql, hri] at hr'
            obtain rfl := Option.some.inj hr'
            exact hsoft.row ⟨rat, bi.1, by omega, g4⟩
    · obtain ⟨e2, qs, hqs, hql, hqr⟩ := pv
      rw [hpl] at hql
      refine ⟨D, _, rfl, .inl ⟨.inl (.inl hqs), fun rp hrp => ?_⟩⟩
      have e3 : Same H1 (upd H2 rp (.tup (qs.map V.ref))) := e2.trans (Same.new hrp)
      have R3 : RowsT K (upd H2 rp (.tup (qs.map V.ref))) rp rs := ⟨qs, .of upd_same, hql, fun i q r a b => OS.row (hqr i q r a b) (Same.new hrp)⟩
      generalize upd H2 rp (.tup (qs.map V.ref)) = H3 at e3 R3 ⊢
      have d3 : Dice H3 d := hd1.le (K := K) e3.le
      have ed3 : Ld K d H H3 := e1.trans e3.le.ld
      refine ⟨_, rfl, _, rfl, d, p, ps, rs, rfl, d3, e3 _ _ hp, hpd, (Le.hd (K := K) e3.le).lrs lr, ⟨hr3, hbd, up⟩, fun H4 sp st e4 hspn hsp ok hst => ⟨sp, _, rfl, hsp, True.intro, fun od => ?_⟩⟩
      have sp0 : H3 sp = none := hspn
      have sp00 : H sp = none := ed3.free hd hspn
      have e34 : Ld K d H3 (upd H4 sp (.frz od (.dK (kvS st)))) := e4.mut d3 hspn hsp
      have sd4 : StD (upd H4 sp (.frz od (.dK (kvS st)))) sp st := ⟨od, upd_same⟩
      have hsl : sp ≠ d := d3.ne0 hspn
      have spp : p ≠ sp := fun z => by
        have := e3 _ _ hp
        rw [z, hspn] at this
        cases this
      generalize upd H4 sp (.frz od (.dK (kvS st))) = H5 at e34 sd4 ⊢
      have ed5 := ed3.trans e34
      have R5 := e34.rows d3 R3
      have lr5 := (e34.hd d3).lrs ((Le.hd (K := K) e3.le).lrs lr)
      have hp5 : H5 p = some (.lst (ps.map V.ref)) := e34.keep _ _ hpd (e3 _ _ hp) fun _ z => (nomatch z)
      refine ⟨by show 2 ≤ sizeLine; omega, fun T1 hT1 => ?_⟩
      have ht6 : upd H5 T1 (.tup [.ref rp, .ref sp]) T1 = some (.tup [.ref rp, .ref sp]) := upd_same
      have e56 : Same H5 (upd H5 T1 (.tup [.ref rp, .ref sp])) := Same.new hT1
      generalize upd H5 T1 (.tup [.ref rp, .ref sp]) = H6 at e56 ht6 ⊢
      refine ⟨_, _, rfl, .of ht6, rfl, _, _, rfl, _, _, rfl, rfl, ?_⟩
      have ed6 : Ld K d H H6 := ed5.trans e56.le.ld
      have C6 : RCtx K d p ps rs rp sp st H6 := ⟨OS.rows R5 e56, OS.std sd4 e56, (Le.hd (K := K) e56.le).lrs lr5, e56 _ _ hp5, hpd, ed6.tabs tb, ed6.dice hd⟩
      have rok : RsOk rs := ⟨up, fun r hr => ⟨(hbd r hr).1, by have := (hbd r hr).2.1; omega⟩, fun r hr => by
        obtain ⟨i, hi, rfl⟩ := List.getElem_of_mem hr
        have hps : ps[i]? = some (ps[i]'(by rw [lr.1]; exact hi)) := List.getElem?_eq_getElem (by rw [lr.1]; exact hi)
        obtain ⟨_, _, _, _, _, g⟩ := lr.2 i _ rs[i] hps (List.getElem?_eq_getElem hi)
        exact g⟩
      have h9 : ∀ r ∈ rs, r.2.length ≤ 9 := fun r hr => (hbd r hr).2.2
      have hpt := parts_few hr3 h9
      have hlo : ∀ r ∈ rs, 1 ≤ r.2.length := fun r hr => (rok.ix r hr).lo
      have hb9 : ∀ r ∈ rs, r.1 ≤ 999000 ∧ 1 ≤ r.2.length := fun r hr => ⟨(rok.bd r hr).2, hlo r hr⟩
      have hst24 : st.length ≤ 24 := by assumption
      have hkeys := ok.keys
      clear e34 sd4 R5 lr5 hp5 ht6 e56 hT1 hqs hqr R3 hspn hsp e4 sp0 e3 d3 ed5 hrp e2 hD hpn hp lr e1 hd1 tb hpl
      -- the lines
      have hpl := pieces_lines rs st
      have hpo := pieces_ok rok ok
      have hpp := pieces_perm (rs := rs) ok
      have hglen : (piecesM rs st).length ≤ 24 := by
        unfold piecesM
        rw [List.length_map]
        have h1 := grps_len (key0 rs st) (numsM st)
        have h2 := numsM_len st ok
        omega
      have hlen : (linesM rs st (numsM st)).length ≤ 24 := by rw [← hpl, List.length_map]; exact hglen
      have hlb : ∀ l ∈ linesM rs st (numsM st), 1 ≤ l.length ∧ l.length ≤ 900 := fun l hl => by
        rw [← hpl] at hl
        obtain ⟨g, hg, rfl⟩ := List.mem_map.mp hl
        exact piece_len rok h9 (hpo g hg)
      have hsg : Sgn (linesM rs st (numsM st)) := fun l hl => by
        rw [← hpl] at hl
        obtain ⟨g, hg, rfl⟩ := List.mem_map.mp hl
        exact piece_signs rok (hpo g hg)
      refine ⟨_, rfl, _, rfl, rp, sp, rs, st, rfl, C6.rows, by omega, up, C6.sd, ok, C6.tb, fun H7 lp e7 hlp => ?_⟩
      have ed7 := ed6.trans e7.ld
      have C7 := C6.ld e7.ld
      refine ⟨_, rfl, _, rfl, _, rfl, p, sp, ps, rs, st, rfl, C7.sqp, C7.lr, by omega, up, hb9, C7.sd, ok, C7.tb, fun H8 lq e8 hlq => ?_⟩
      refine ⟨lq, _, rfl, .inl ⟨.inl (.inl hlq), fun tq htq => ?_⟩⟩
      have ed9 := (ed7.trans e8.ld).trans (Ld.new (o := .tup (strsV (linesM rs st (numsM st)))) htq)
      have C9 := (C7.ld e8.ld).ld (Ld.new (o := .tup (strsV (linesM rs st (numsM st)))) htq)
      have hlp9 : SqT K (upd H8 tq (.tup (strsV (linesM rs st (numsM st))))) lp (strsV (linesM rs st (numsM st))) := OS.sqT (Same.new htq) ((ordL (K := K)).sqT e8 hlp)
      have htq9 : SqT K (upd H8 tq (.tup (strsV (linesM rs st (numsM st))))) tq (strsV (linesM rs st (numsM st))) := .of upd_same
      generalize upd H8 tq (.tup (strsV (linesM rs st (numsM st)))) = H9 at ed9 C9 hlp9 htq9 ⊢
      have hL := hpl
      generalize linesM rs st (numsM st) = L at hL hlen hlb hsg hlp hlq hlp9 htq9 ⊢
      refine ⟨_, _, .tup hlp9 (dp_strs L), .tup htq9 (dp_strs L), shaped_strs hsg, shaped_strs hsg, _, rfl, ?_⟩
      rw [eqv_strs hsg]
      refine ifF rfl ?_
      have hr1 : ∃ f, readM rs L 0 [] = .inr f ∧ f.Perm st := by
        rw [← hL]
        exact read_perm rok hkeys (List.Perm.refl _) hpo hpp
      obtain ⟨f1, hf1, pf1⟩ := hr1
      obtain ⟨k1, k2⟩ := kvS_same pf1 hkeys
      refine ⟨_, rfl, _, rfl, p, lp, ps, rs, L, rfl, C9.sqp, C9.lr, by omega, hlp9, fun l hl => by have := hlb l hl; omega, by omega, ?_, fun f q2 H10 hf e10 hq2 => ?_⟩
      · intro i H' hi
        rw [hf1] at hi
        cases hi
      obtain rfl : f1 = f := by rw [hf1] at hf; exact Sum.inr.inj hf
      have ed10 := ed9.trans e10.le.ld
      have C10 := C9.ld e10.le.ld
      have hlp10 := OS.sqT e10 hlp9
      refine ⟨_, rfl, .inr ⟨q2, sp, _, _, rfl, rfl, .inl hq2, C10.sd.rd, k1, k2, _, rfl, ?_⟩⟩
      refine ifF rfl ?_
      clear hlp hlq hlp9 htq9 htq e8 e7 C7 C9 C6 ed7 ed9 hf k1 k2 pf1 e10 hq2
      -- each job told singly
      obtain ⟨o10, h10⟩ := C10.sd
      have O := ordL (K := K)
      have hkl := kvS_len st
      refine ⟨_, rfl, sp, o10, rfl, .inl ⟨kvS st, h10, fun D3 hD3 => ?_⟩⟩
      refine lc_pure O walk_keys (fun i => (st[i]?).map fun p => .str (S (pieceL rs ([p.1], p.2)))) hD3 (by omega) (fun H' e => O.keep e _ _ h10 fun _ z => (nomatch z)) (fun i x H11 H12 Fin No hi e hy hF hN => ?_) fun H11 e11 hl11 => ?_
      · obtain ⟨rfl, k, v, hkv, rfl⟩ := hy
        obtain ⟨n, hn, hk⟩ := kvS_get (k := kV k) (by rw [hkv]; rfl)
        have hkn : k = .inl (n.1 : Int) := by
          cases k with
          | inl z => exact congrArg Sum.inl (V.int.inj hk)
          | inr z => cases hk
        subst hkn
        have hm := List.mem_of_getElem? hn
        have g1 := singles_ok rok ok ([n.1], n.2) (List.mem_map.mpr ⟨n, hm, rfl⟩)
        have C12 := C10.ld e.ld
        obtain ⟨o12, h12⟩ := C12.sd
        refine ⟨rfl, ⟨_, rfl, _, rfl, by show 1 ≤ sizeLine; omega, fun np hnp => ?_⟩⟩
        have C13 := C12.ld (Ld.new (o := .lst [kV (.inl (n.1 : Int))]) hnp)
        have h13 : upd H12 np (.lst [kV (.inl (n.1 : Int))]) sp = some (.frz o12 (.dK (kvS st))) := (Same.new hnp) _ _ h12
        have hnp13 : upd H12 np (.lst [kV (.inl (n.1 : Int))]) np = some (.lst [vN n.1]) := upd_same
        have e1213 : Le K H12 (upd H12 np (.lst [kV (.inl (n.1 : Int))])) := Le.new hnp
        generalize upd H12 np (.lst [kV (.inl (n.1 : Int))]) = H13 at C13 h13 hnp13 e1213 ⊢
        refine ⟨_, rfl, _, rfl, sp, .str (S n.2), rfl, .inl ⟨_, .inl (n.1 : Int), .inr ⟨o12, h13⟩, rfl, ?_⟩, ?_⟩
        · rw [← stOf_get hkeys hm]
          exact (kvS_valV (List.mem_map.mpr ⟨n, hm, rfl⟩)).symm
        · refine ⟨p, np, ps, rs, [n.1], n.2, rfl, C13.sqp, C13.lr, by omega, .inl (.inl hnp13), g1.nk, wordB_len g1.word, C13.tb, fun r hr => (rok.bd r hr).2, fun H14 e14 => ?_⟩
          refine hF _ _ ?_ (e1213.trans e14)
          rw [hn]
          rfl
      · rw [hkl, fm_map st fun p => V.str (S (pieceL rs ([p.1], p.2)))] at hl11
        have hl11 : H11 D3 = some (.lst (strsV ((singlesM st).map (pieceL rs)))) := by
          rw [hl11]
          unfold strsV singlesM
          rw [List.map_map, List.map_map]
          rfl
        have hd10 : Dice H10 d := C10.dice
        have hD3d := hd10.ne0 hD3
        have ed11 := ed10.trans e11.ld
        have C11 := C10.ld e11.ld
        have hlp11 := e11.ld.sqT hd10 hlp10
        clear hlp10 ed10 C10 e11 hD3 h10 hkl
        -- three ways to tell them
        have td0 : ToldOk rs st L := by
          rw [← hL]
          exact told_of rok h9 ok (List.Perm.refl _) hpo hpp hglen
        have hsl1 : (singlesM st).length ≤ 24 := by
          unfold singlesM
          rw [List.length_map]
          exact hst24
        have hsf : ((singlesM st).flatMap pieceS).Perm st := by rw [singles_flat]
        have hso := singles_ok rok ok
        have hLl : (strsV L).length ≤ 24 := by
          unfold strsV
          rw [List.length_map]
          exact hlen
        refine ⟨_, rfl, _, rfl, _, rfl, lp, _, rfl, .inr hlp11, fun l1 hl1 => ?_⟩
        have ed12 := ed11.trans (Ld.new (o := .lst (strsV L)) hl1)
        have C12 := C11.ld (Ld.new (o := .lst (strsV L)) hl1)
        have hl1d := C11.dice.ne0 hl1
        have hl1s : upd H11 l1 (.lst (strsV L)) l1 = some (.lst (strsV L)) := upd_same
        have hlp12 := OS.sqT (Same.new (o := .lst (strsV L)) hl1) hlp11
        have hD12 := (Same.new (o := .lst (strsV L)) hl1) _ _ hl11
        generalize upd H11 l1 (.lst (strsV L)) = H12 at ed12 C12 hl1s hlp12 hD12 ⊢
        refine ⟨d, l1, strsV L, rfl, C12.dice, .inl (.inl hl1s), hl1d, by omega, fun H13 m1 ys1 e13 hm1n hm1 pm1 => ?_⟩
        obtain ⟨gs1, pg1, rfl⟩ : ∃ gs' : List (List Nat × List Nat), gs'.Perm (piecesM rs st) ∧ ys1 = strsV (gs'.map (pieceL rs)) := strs_perm (by rw [hL]; exact pm1)
        have td1 := told_of rok h9 ok pg1 hpo hpp hglen
        generalize gs1.map (pieceL rs) = L1 at hm1 td1 pm1
        have C13 := C12.ld e13
        have hlp13 := e13.sqT C12.dice hlp12
        have hD13 := e13.keep _ _ hD3d hD12 fun _ z => (nomatch z)
        refine ⟨m1, _, rfl, .inl ⟨.inl (.inl hm1), fun t1 ht1 => ?_⟩⟩
        have ed14 := (ed12.trans e13).trans (Ld.new (o := .tup (strsV L1)) ht1)
        have C14 := C13.ld (Ld.new (o := .tup (strsV L1)) ht1)
        have ht1s : SqT K (upd H13 t1 (.tup (strsV L1))) t1 (strsV L1) := .of upd_same
        have hlp14 := OS.sqT (Same.new (o := .tup (strsV L1)) ht1) hlp13
        have hD14 := (Same.new (o := .tup (strsV L1)) ht1) _ _ hD13
        generalize upd H13 t1 (.tup (strsV L1)) = H14 at ed14 C14 ht1s hlp14 hD14 ⊢
        refine ⟨_, rfl, _, rfl, d, D3, _, rfl, C14.dice, .inl (.inl hD14), hD3d, ?_, fun H15 m2 ys2 e15 hm2n hm2 pm2 => ?_⟩
        · unfold strsV
          rw [List.length_map, List.length_map]
          omega
        obtain ⟨gs2, pg2, rfl⟩ := strs_perm pm2
        have td2 := told_of rok h9 ok pg2 hso hsf hsl1
        generalize gs2.map (pieceL rs) = L2 at hm2 td2 pm2
        have C15 := C14.ld e15
        have hlp15 := e15.sqT C14.dice hlp14
        have ht15 := e15.sqT C14.dice ht1s
        refine ⟨m2, _, rfl, .inl ⟨.inl (.inl hm2), fun t2 ht2 => ?_⟩⟩
        have ed16 := (ed14.trans e15).trans (Ld.new (o := .tup (strsV L2)) ht2)
        have C16 := C15.ld (Ld.new (o := .tup (strsV L2)) ht2)
        have ht2s : SqT K (upd H15 t2 (.tup (strsV L2))) t2 (strsV L2) := .of upd_same
        have hlp16 := OS.sqT (Same.new (o := .tup (strsV L2)) ht2) hlp15
        have ht16 := OS.sqT (Same.new (o := .tup (strsV L2)) ht2) ht15
        generalize upd H15 t2 (.tup (strsV L2)) = H16 at ed16 C16 ht2s hlp16 ht16 ⊢
        refine ⟨by show 3 ≤ sizeLine; omega, fun T3 hT3 => ?_⟩
        have ed17 := ed16.trans (Ld.new (o := .tup [.ref lp, .ref t1, .ref t2]) hT3)
        have C17 := C16.ld (Ld.new (o := .tup [.ref lp, .ref t1, .ref t2]) hT3)
        have hT17 : SqT K (upd H16 T3 (.tup [.ref lp, .ref t1, .ref t2])) T3 [.ref lp, .ref t1, .ref t2] := .of upd_same
        have hlp17 := OS.sqT (Same.new (o := .tup [.ref lp, .ref t1, .ref t2]) hT3) hlp16
        have ht17 := OS.sqT (Same.new (o := .tup [.ref lp, .ref t1, .ref t2]) hT3) ht16
        have ht27 := OS.sqT (Same.new (o := .tup [.ref lp, .ref t1, .ref t2]) hT3) ht2s
        generalize upd H16 T3 (.tup [.ref lp, .ref t1, .ref t2]) = H17 at ed17 C17 hT17 hlp17 ht17 ht27 ⊢
        have items : ∀ (i : Nat) (x : V), [V.ref lp, .ref t1, .ref t2][i]? = some x → ∃ (t : Addr) (l : List (List Nat)), x = .ref t ∧ SqT K H17 t (strsV l) ∧ ToldOk rs st l := fun i x hx => by
          match i, hx with
          | 0, hx => exact ⟨lp, L, (Option.some.inj hx).symm, hlp17, td0⟩
          | 1, hx => exact ⟨t1, L1, (Option.some.inj hx).symm, ht17, td1⟩
          | 2, hx => exact ⟨t2, L2, (Option.some.inj hx).symm, ht27, td2⟩
          | _ + 3, hx => cases hx
        clear ed12 C12 hl1s hlp12 hD12 e13 hm1n hm1 pm1 td1 C13 hlp13 hD13 ed14 C14 ht1s hlp14 hD14 e15 hm2n hm2 pm2 td2 C15 hlp15 ht15 ed16 C16 ht2s hlp16 ht16 ht17 ht27 hT3 ht2 ht1 hl1 ed11 C11 hlp11 hl11
        refine ⟨T3, rfl, ⟨_, hT17⟩, ?_⟩
        have hd17 := C17.dice
        refine for_it (walk_tup (K := K) (xs := [V.ref lp, .ref t1, .ref t2])) (fun i σ H' => ∃ (x6 x7 x8 x9 x10 x11 x12 x13 : Option V), σ = [some (.ref d), some (.ref p), some (.ref rp), some (.ref sp), some (.ref lp), some (.ref D3), x6, x7, x8, x9, x10, x11, x12, x13] ∧ Ld K d H17 H')
          ⟨_, _, _, _, _, _, _, _, rfl, Ld.refl _⟩ (fun _ _ _ _ ⟨_, _, _, _, _, _, _, _, _, e⟩ => e.sqT hd17 hT17) (fun i x σ H18 H19 hi pv hy => ?_) fun σ H18 pv => ?_
        · obtain ⟨x6, x7, x8, x9, x10, x11, x12, x13, rfl, e18⟩ := pv
          obtain ⟨rfl, hx⟩ := hy
          obtain ⟨t, l, rfl, htl, td⟩ := items i x hx
          have C18 := C17.ld e18
          have ht18 := e18.sqT hd17 htl
          obtain ⟨⟨f, hf, pf⟩, tlen, tfew⟩ := td
          refine ⟨_, rfl, _, rfl, rp, t, rs, l, rfl, C18.rows, by omega, up, ht18, fun x hx => by have := tlen x hx; omega, by omega, C18.tb, ?_, fun f' fp H20 hf' e20 hfp => ?_⟩
          · intro i d' H' hi
            rw [hf] at hi
            cases hi
          obtain rfl : f = f' := by rw [hf] at hf'; exact Sum.inr.inj hf'
          have e1820 := e18.trans e20.ld
          have C20 := C18.ld e20.ld
          obtain ⟨_, _, hss⟩ := perm_same pf hkeys
          rw [hss] at hfp
          obtain ⟨k1, k2⟩ := kvS_same (sortS_perm hkeys) hkeys
          refine ⟨_, rfl, _, rfl, .inr ⟨fp, sp, _, _, rfl, rfl, .inl hfp, C20.sd.rd, k1, k2, _, rfl, ?_⟩⟩
          refine ifF rfl ?_
          refine ⟨_, rfl, fp, _, rfl, hfp, fun l1 hl1 => ?_⟩
          rw [sortS_keys]
          have e21 : Ld K d H17 (upd H20 l1 (.lst ((numsM st).map vN))) := e1820.trans (Ld.new hl1)
          have C21 := C20.ld (Ld.new (o := .lst ((numsM st).map vN)) hl1)
          have hl21 : upd H20 l1 (.lst ((numsM st).map vN)) l1 = some (.lst ((numsM st).map vN)) := upd_same
          generalize upd H20 l1 (.lst ((numsM st).map vN)) = H21 at e21 C21 hl21 ⊢
          refine ⟨_, rfl, sp, kvS st, st.map fun p => (p.1 : Int), rfl, C21.sd.rd, ?_, by rw [List.length_map]; omega, fun ys yp hperm hup hyp => ?_⟩
          · unfold kvS
            rw [List.map_map, List.map_map]
            rfl
          obtain rfl : ys = (numsM st).map fun n : Nat => (n : Int) := sorted_back hkeys (by rw [List.map_map]; exact hperm) hup
          have e22 := e21.trans (Ld.new (o := .lst (((numsM st).map fun n : Nat => (n : Int)).map V.int)) hyp)
          have hl22 : upd H21 yp (.lst (((numsM st).map fun n : Nat => (n : Int)).map V.int)) l1 = some (.lst ((numsM st).map vN)) := (Same.new hyp) _ _ hl21
          have hy22 : upd H21 yp (.lst (((numsM st).map fun n : Nat => (n : Int)).map V.int)) yp = some (.lst ((numsM st).map vN)) := by
            rw [upd_same, List.map_map]
            rfl
          generalize upd H21 yp (.lst (((numsM st).map fun n : Nat => (n : Int)).map V.int)) = H22 at e22 hl22 hy22 ⊢
          refine ⟨_, _, .lst (.inl (.inl hl22)) (dp_nums _), .lst (.inl (.inl hy22)) (dp_nums _), PySem.W.shaped_ints _, PySem.W.shaped_ints _, _, rfl, ?_⟩
          rw [eqv_ints]
          refine ifF rfl ?_
          exact ⟨_, _, _, _, _, _, _, _, rfl, e22⟩
        · obtain ⟨x6, x7, x8, x9, x10, x11, x12, x13, rfl, e18⟩ := pv
          have C18 := C17.ld e18
          have hlp18 := e18.sqT hd17 hlp17
          have ed18 := ed17.trans e18
          clear ed17 hT17 hlp17 items e18
          have hd18 := C18.dice
          dsimp only
          refine tSeq_use ?_
          refine ⟨_, rfl, Nat.zero_le _, fun E0' hE => ⟨lp, E0', _, rfl, rfl, .inr ⟨OS.sqT (Same.new hE) hlp18, .of upd_same⟩, _, rfl, ?_⟩⟩
          have ed19 := ed18.trans (Ld.new (o := .tup []) hE)
          have C19 := C18.ld (Ld.new (o := .tup []) hE)
          have hlp19 := OS.sqT (Same.new (o := .tup []) hE) hlp18
          generalize upd H18 E0' (.tup []) = H19 at ed19 C19 hlp19 ⊢
          have hd19 := C19.dice
          by_cases hLn : L = []
          · refine ifF (by rw [hLn]; rfl) ⟨(0 : Int), rfl, by omega, by omega, ?_⟩
            refine for_it walk_range (fun i σ H' => Ld K d H H') ed19 (fun _ _ _ _ _ => trivial) (fun i x σ H20 H21 hi pv hy => absurd hi (Nat.not_lt_zero _)) fun σ H20 pv => ?_
            exact q H20 pv
          · refine ifT (by cases L with
              | nil => exact absurd rfl hLn
              | cons a r => rfl) ⟨(8 : Int), rfl, by omega, by omega, ?_⟩
            have hL1 : 1 ≤ L.length := List.length_pos_iff.mpr hLn
            refine for_it walk_range (fun i σ H' => ∃ (x6 x7 x8 x9 x10 x11 x12 x13 : Option V), σ = [some (.ref d), some (.ref p), some (.ref rp), some (.ref sp), some (.ref lp), some (.ref D3), x6, x7, x8, x9, x10, x11, x12, x13] ∧ Ld K d H19 H')
              ⟨_, _, _, _, _, _, _, _, rfl, Ld.refl _⟩ (fun _ _ _ _ _ => trivial) (fun i x σ H20 H21 hi pv hy => ?_) fun σ H20 pv => ?_
            · obtain ⟨x6, x7, x8, x9, x10, x11, x12, x13, rfl, e20⟩ := pv
              obtain ⟨rfl, rfl⟩ := hy
              have C20 := C19.ld e20
              have hlp20 := e20.sqT hd19 hlp19
              refine ⟨_, rfl, _, rfl, d, lp, L, rfl, C20.dice, hlp20, hL1, by omega, hlb, fun H22 np ls e22 hnp hnl hnc => ?_⟩
              have C22 := C20.ld e22
              have e2 := e20.trans e22
              refine ⟨_, rfl, _, rfl, rp, np, rs, ls, rfl, C22.rows, by omega, up, hnp, fun x hx => by have := hnl x hx; omega, by omega, C22.tb, fun j H23 hj e23 => ?_, fun f fp H23 hf e23 hfp => ?_⟩
              · have C23 := C22.ld e23.ld
                have hnp23 := (ordL (K := K)).sqT e23 hnp
                refine ⟨_, rfl, _, rfl, p, np, ps, rs, ls, rfl, C23.sqp, C23.lr, by omega, hnp23, hnl, by omega, fun j' H24 hj' e24 => ?_, ?_⟩
                · rw [hj] at hj'
                  obtain rfl : j = j' := Sum.inl.inj hj'
                  refine .inl ⟨_, rfl, rfl, _, rfl, ?_⟩
                  refine ifF rfl ?_
                  exact ⟨_, _, _, _, _, _, _, _, rfl, (e2.trans e23.ld).trans e24.le.ld⟩
                · intro f fp H24 hf
                  rw [hj] at hf
                  cases hf
              · have C23 := C22.ld e23.ld
                have hnp23 := (ordL (K := K)).sqT e23 hnp
                refine ⟨_, rfl, _, rfl, p, np, ps, rs, ls, rfl, C23.sqp, C23.lr, by omega, hnp23, hnl, by omega, ?_, fun f' fq H24 hf' e24 hfq => ?_⟩
                · intro j' H24 hj'
                  rw [hf] at hj'
                  cases hj'
                · rw [hf] at hf'
                  obtain rfl : f = f' := Sum.inr.inj hf'
                  have hkf := readM_nodup (f := []) List.nodup_nil hf
                  obtain ⟨k1, k2⟩ := kvS_same (sortS_perm hkf) hkf
                  refine .inr ⟨fp, fq, _, _, rfl, rfl, .inl (e24 _ _ hfp), .inl hfq, k1, k2, _, rfl, ?_⟩
                  refine ifF rfl ?_
                  exact ⟨_, _, _, _, _, _, _, _, rfl, (e2.trans e23.ld).trans e24.le.ld⟩
            · obtain ⟨x6, x7, x8, x9, x10, x11, x12, x13, rfl, e20⟩ := pv
              exact q H20 (ed19.trans e20)
end
end K28

set_option Elab.async false
set_option linter.all false
set_option maxRecDepth 100000
set_option maxHeartbeats 4000000
namespace K28
open PySem PySem.Spec PyProof.Rows L2
/-! ## the law -/
theorem sqL_ld {K : PySem.W.Frag} {H H' : Hp} {a d : Addr} {o : HO} {xs : List V} (h : SqL K H a xs) (h0 : H d = none) (e : Ld K d (upd H d o) H') : SqL K H' a xs := by
  rcases h with (h | ⟨u, h⟩) | h
  · have ne : a ≠ d := fun z => by rw [z, h0] at h; cases h
    exact .inl (.inl (e.keep _ _ ne (by rw [upd_ne ne]; exact h) fun _ z => (nomatch z)))
  · have ne : a ≠ d := fun z => by rw [z, h0] at h; cases h
    exact .inl (.inr ⟨u, e.keep _ _ ne (by rw [upd_ne ne]; exact h) fun _ z => (nomatch z)⟩)
  · exact .inr h
/-! ### the written examples -/
def tx (z : Str) : List Nat := z.cps.toList
def rs0 : List Rw := [(7, [1, 2, 3, 5, 9])]
def st0 : St1 := [(4, tx "told"), (7, tx "runs"), (8, tx "runs"), (9, tx "waits"), (11, tx "waits"), (10, tx "a")]
def ls0 : List (List Nat) := [tx "4 told", tx "7.[1,2] runs", tx "7.[3,9] waits", tx "7.5 a"]
def od1 : List (List Nat) := [tx "7 runs", tx "8.1 runs", tx "7.4 runs", tx "07.1 runs", tx "7.[] runs", tx "7.[1-] runs", tx "7.01 runs", tx "7.1  runs", tx "7.1 Runs", tx "0 a", tx "a", tx ""]
def od2 : List (List Nat) := [tx "7.[1,1-2] runs", tx "7.[3] runs", tx "1000000 a", tx "1000001 a", tx "7.1 ninelette", tx "7.[1-3,5,9:1] a", tx "7.1. a", tx "[7.1] a"]
def due1 : List (Option St1) := List.replicate 12 none ++ [some [(7, tx "runs"), (8, tx "runs")], some [(9, tx "runs")], some [(1000000, tx "a")]] ++ List.replicate 5 none
theorem lines0 : linesM rs0 st0 (numsM st0) = ls0 := by decide +kernel
theorem lines00 : linesM [] [] (numsM []) = [] := by decide +kernel
/-- what is read in one line -/
def ans (l : List Nat) : Option St1 := match readM rs0 [l] 0 [] with
  | .inl _ => none
  | .inr f => some (sortS f)
theorem ans0 : (od1 ++ od2).map ans = due1 := by decide +kernel
theorem ans_zero : ∀ l ∈ od1 ++ od2, (match readM rs0 [l] 0 [] with
  | .inl i => decide (i = 0)
  | .inr _ => true) = true := by decide +kernel
theorem ok0 : StOk st0 := ⟨by decide, by decide +kernel, by decide +kernel, by decide +kernel⟩
theorem ix0 : IxN [1, 2, 3, 5, 9] := ⟨by decide, by decide, by decide, by decide⟩
theorem sgn0 : Sgn ls0 := by
  unfold Sgn
  decide +kernel
theorem due_nd : (due1.all fun o => match o with
  | none => true
  | some s => decide (s.map Prod.fst).Nodup) = true := by decide +kernel
theorem paired_of {α β : Type} {F : α → β → Prop} : ∀ {xs : List α} {ys : List β}, xs.length = ys.length → (∀ (i : Nat) (x : α) (y : β), xs[i]? = some x → ys[i]? = some y → F x y) → Paired F xs ys
  | [], [], _, _ => .nil
  | x :: xs, y :: ys, h, k => .cons (k 0 x y rfl rfl) (paired_of (by simpa using h) fun i a b p q => k (i + 1) a b p q)
/-- an answer's value -/
def AnsV (H : Hp) (y : V) : Option St1 → Prop
  | none => y = .int 0
  | some s => ∃ a, y = .ref a ∧ H a = some (.dK (kvS s))
theorem ans_eqv {K : PySem.W.Frag} {H : Hp} {x y : V} {o : Option St1} (h : o ∈ due1) (hx : AnsV H x o) (hy : AnsV H y o) : EqV K H 2 x y := by
  cases o with
  | none =>
    obtain rfl : x = .int 0 := hx
    obtain rfl : y = .int 0 := hy
    exact .inl ⟨rfl, rfl⟩
  | some s =>
    obtain ⟨a, rfl, ha⟩ := hx
    obtain ⟨b, rfl, hb⟩ := hy
    have hn : (s.map Prod.fst).Nodup := of_decide_eq_true (List.all_eq_true.mp due_nd _ h)
    obtain ⟨_, k2⟩ := kvS_same (List.Perm.refl s) hn
    exact .inr (.inr (.inr ⟨a, b, _, _, rfl, rfl, ha, hb, rfl, fun p hp => ⟨p.2, (k2 p hp).1, .inl ⟨rfl, (k2 p hp).2⟩⟩⟩))
theorem odd_len : ∀ l ∈ od1 ++ od2, l.length ≤ 100000 := by decide +kernel
abbrev oddL : List (List Nat) := od1 ++ od2
def due3 : List V → List V := fun ds => List.replicate 12 (.int 0) ++ ds ++ List.replicate 5 (.int 0)
theorem due_get {H : Hp} {d1 d2 d3 : Addr} (h1 : H d1 = some (.dK (kvS [(7, tx "runs"), (8, tx "runs")]))) (h2 : H d2 = some (.dK (kvS [(9, tx "runs")]))) (h3 : H d3 = some (.dK (kvS [(1000000, tx "a")]))) :
    ∀ (i : Nat) (y : V) (o : Option St1), (due3 [.ref d1, .ref d2, .ref d3])[i]? = some y → due1[i]? = some o → AnsV H y o := by
  intro i y o hy ho
  have hlen : i < 20 := by
    have := (List.getElem?_eq_some_iff.mp ho).1
    exact this
  match i, hlen, hy, ho with
  | 12, _, hy, ho =>
    obtain rfl := Option.some.inj hy
    obtain rfl := Option.some.inj ho
    exact ⟨d1, rfl, h1⟩
  | 13, _, hy, ho =>
    obtain rfl := Option.some.inj hy
    obtain rfl := Option.some.inj ho
    exact ⟨d2, rfl, h2⟩
  | 14, _, hy, ho =>
    obtain rfl := Option.some.inj hy
    obtain rfl := Option.some.inj ho
    exact ⟨d3, rfl, h3⟩
  | 0, _, hy, ho | 1, _, hy, ho | 2, _, hy, ho | 3, _, hy, ho | 4, _, hy, ho | 5, _, hy, ho | 6, _, hy, ho | 7, _, hy, ho | 8, _, hy, ho | 9, _, hy, ho | 10, _, hy, ho | 11, _, hy, ho | 15, _, hy, ho | 16, _, hy, ho | 17, _, hy, ho | 18, _, hy, ho | 19, _, hy, ho =>
    obtain rfl := Option.some.inj hy
    obtain rfl := Option.some.inj ho
    rfl
  | n + 20, h, _, _ => omega
def spLaw (K : PySem.W.Frag) : Sp := fun vs H Q _ => ∃ (a : Addr) (xs : List Int), vs = [.ref a] ∧ SqL K H a (xs.map V.int) ∧ xs.length ≤ 63 ∧ TbOk K H ∧ ∀ H', Q (.bl true) H'
section
variable {w : World} {K : PySem.W.Frag} {mg : Str → Option Value} {base : Heap}
/-- a def by its own function object -/
theorem funD_ok0 {P : Program} {x : Str} {st : Stmt} {k : Nat} {N ps : List Str} {sp : Sp} {f : Addr} {fd : FuncData} (F : FunD K x x (defArgs st) (defBody st) (defScope st) [] [] f fd) (S : FnScope N ps (defScope st)) (len : ∀ vs H Q E, sp vs H Q E → vs.length = ps.length)
    (hbody : ∀ (cdv : Value) (A : Around) (outer : List Env) (s : Shared) (H : Hp) (vs : List V) (Q : VK) (E : XK), Room k (A.deeper (envOfC x (defScope st) s.heap.objs.size f cdv)) → sp vs H Q E →
      ∃ t, PSs (cxOf (L2.CX P w) P w K mg base N x (defScope st) f cdv A outer s H E).nox (defBody st) t ∧ t { nx := fun _ H' => Q .non H', rt := Q } (start N vs) H) : FnOk P w K mg base (L2.CX P w) (k + 1) f fd ps sp :=
  F.ok S len fun cdv A outer s H vs Q E hr h => by
    obtain ⟨t, h1, h2⟩ := hbody cdv A outer s H vs Q E hr h
    exact ⟨t, h1.nox, h2⟩
theorem ok_law (T : Tw K mg base) {fd : FuncData} (FL : FunD K "law" "law" (defArgs s_law) (defBody s_law) (defScope s_law) [] [] (He.ga K "law") fd) : FnOk Er.PRG w K mg base (L2.CX Er.PRG w) 12 (He.ga K "law") fd ["_law_script"] (spLaw K) := by
  obtain ⟨fdR, RF⟩ := T.row_f
  have KB := RF.kbindsAll (n := 3) (ks := ["at_once"]) (ps := ["self", "first", "indices", "at_once"]) (fun kV doc pm an cdv ct us ws h1 h2 => match us, ws, h1, h2 with | [_, _, _], [_], _, _ => rfl)
  refine funD_ok0 FL sc_law (fun vs H Q E h => ?_) fun cdv A outer s H vs Q E hr h => ⟨_,
      (pss_cons (ps_for PassesOwn.never rfl (pi_range1 (by rfl) T.m_range (pa_cons (pe_callB (call_max2 rfl) (by rfl) T.m_max (by decide +kernel) (pa_cons pe_int (pa_cons (pe_callB (call_min2 rfl) (by rfl) T.m_min (by decide +kernel) (pa_cons pe_int (pa_cons (pe_callB call_len (by rfl) T.m_len boot_len (pa_cons (pv 0) pa_nil)) pa_nil))) pa_nil))) pa_nil)) (pg_name (i := 1) sc_law.nd rfl (Or.inl rfl)) (pss_one (ps_if (pt_not (pt_val (pe_f (ok_l_right T) (hr.mono (by decide)) (pa_cons (pe_f (ok_l_dice T.toTz.toTy.toTx) (hr.mono (by decide)) (pa_cons (pv 0) (pa_cons (pv 1) pa_nil))) pa_nil)))) (pss_one (ps_ret pe_bl)) pss_nil)))
      (pss_cons (ps_set (i := 2) sc_law.nd rfl (Or.inr rfl) (pe_tup (pa_cons (pe_makeN T.row_m (ok_Row_init T.toTz.toTy RF) (hr.mono (by decide)) rfl T.g_Row KB passL (pa_cons pe_int (pa_cons (pe_tupF (pa_cons pe_int (pa_cons pe_int (pa_cons pe_int (pa_cons pe_int (pa_cons pe_int pa_nil)))))) pa_nil)) (pk_cons pe_int pk_nil)) pa_nil)))
      (pss_cons (ps_set (i := 3) sc_law.nd rfl (Or.inl rfl) (pe_f (ok_fold_states T.toTz) (hr.mono (by decide)) (pa_cons (pv 2) (pa_cons (pe_still (pe_disp (pps_cons pe_int pe_str (pps_cons pe_int pe_str (pps_cons pe_int pe_str (pps_cons pe_int pe_str (pps_cons pe_int pe_str (pps_cons pe_int pe_str pps_nil)))))) rfl rfl (by simp) (by decide))) pa_nil))))
      (pss_cons (ps_if (PW.pt (pw_or (pt_cmpR (op_neD hr.units) (pv 3) (pe_tup (pa_cons pe_str (pa_cons pe_str (pa_cons pe_str (pa_cons pe_str pa_nil))))) (nomark _)) (pw_or (pt_cmpR (op_neE hr.units0) (pe_f (ok_fold_states T.toTz) (hr.mono (by decide)) (pa_cons (pe_tup pa_nil) (pa_cons (pe_still pe_dnewK) pa_nil))) (pe_tup pa_nil) (nomark _)) (pw_or1 (pt_cmpR (op_neR hr.units0) (pe_f (ok_unfold_states T.toTz) (hr.mono (by decide)) (pa_cons (pe_tup pa_nil) (pa_cons (pe_tup pa_nil) pa_nil))) pe_dnewK (nomark _)))))) (pss_one (ps_ret pe_bl)) pss_nil)
      (pss_cons (ps_set (i := 4) sc_law.nd rfl (Or.inl rfl) (pe_lst (pa_cons pe_str (pa_cons pe_str (pa_cons pe_str (pa_cons pe_str (pa_cons pe_str (pa_cons pe_str (pa_cons pe_str (pa_cons pe_str (pa_cons pe_str (pa_cons pe_str (pa_cons pe_str (pa_cons pe_str pa_nil))))))))))))))
      (pss_cons (ps_set (i := 4) sc_law.nd rfl (Or.inl rfl) (pe_op op_cat (pv 4) (pe_lst (pa_cons pe_str (pa_cons pe_str (pa_cons pe_str (pa_cons pe_str (pa_cons pe_str (pa_cons pe_str (pa_cons pe_str (pa_cons pe_str pa_nil)))))))))))
      (pss_cons (ps_set (i := 5) sc_law.nd rfl (Or.inl rfl) (pe_op op_cat (pe_op op_cat (pe_op op_rep (pe_lst (pa_cons pe_int pa_nil)) pe_int) (pe_lst (pa_cons (pe_disp (pps_cons pe_int pe_str (pps_cons pe_int pe_str pps_nil)) rfl rfl (by simp) (by decide)) (pa_cons (pe_disp (pps_cons pe_int pe_str pps_nil) rfl rfl (by simp) (by decide)) (pa_cons (pe_disp (pps_cons pe_int pe_str pps_nil) rfl rfl (by simp) (by decide)) pa_nil))))) (pe_op op_rep (pe_lst (pa_cons pe_int pa_nil)) pe_int)))
      (pss_one (ps_ret (pe_cmpR (op_eqV hr.units) (pe_lc (own := [("_law_line_here", 6)]) (g := gName 6) rfl sc_law.nd (pi_list (pv 4)) (blkOk_by (own := [("_law_line_here", 6)]) (N := N_law) (sc := defScope s_law) (by decide +kernel)) (fun _ _ _ _ _ => (pg_name (i := 6) sc_law.nd rfl (Or.inl rfl))) (fun _ _ _ _ _ => pts_nil) (fun _ _ _ _ _ => (pe_f (ok_l_told T) (hr.mono (by decide)) (pa_cons (pv 2) (pa_cons (pe_tup (pa_cons (pv 6) pa_nil)) pa_nil))))) (pv 5) (nomark _))))))))))), ?_⟩
  · obtain ⟨_, _, rfl, _⟩ := h
    rfl
  · obtain ⟨a, xs, rfl, hS, hl, tb, q⟩ := h
    have sl : sizeLine = 16777216 := sizeLine_eq
    have OS := ordS (K := K)
    have hlen : (xs.map V.int).length = xs.length := List.length_map ..
    refine ⟨_, rfl, _, _, rfl, len_l hS, _, _, rfl, _, _, rfl, ?_⟩
    rw [hlen]
    have hk : ∃ k : Nat, k ≤ 3 ∧ (if (if (xs.length : Int) < 3 then (xs.length : Int) else 3) > 1 then (if (xs.length : Int) < 3 then (xs.length : Int) else 3) else (1 : Int)) = (k : Int) := by
      by_cases h1 : (xs.length : Int) < 3
      · rw [if_pos h1]
        by_cases h2 : (xs.length : Int) > 1
        · exact ⟨xs.length, by omega, if_pos h2⟩
        · exact ⟨1, by omega, if_neg h2⟩
      · rw [if_neg h1]
        exact ⟨3, by omega, if_pos (by decide)⟩
    obtain ⟨k, hk3, hk⟩ := hk
    rw [hk]
    refine ⟨_, rfl, by omega, by omega, ?_⟩
    have hkn : ((k : Int) - 0).toNat = k := by omega
    refine for_it walk_range (fun i σ H' => ∃ x1 : Option V, σ = [some (.ref a), x1, none, none, none, none, none] ∧ SqL K H' a (xs.map V.int) ∧ TbOk K H') ⟨_, rfl, hS, tb⟩ (fun _ _ _ _ _ => trivial) (fun i x σ H1 H2 hi pv hy => ?_) fun σ H1 pv => ?_
    · obtain ⟨x1, rfl, hS1, tb1⟩ := pv
      obtain ⟨rfl, rfl⟩ := hy
      refine ⟨_, rfl, _, rfl, a, xs, i, ?_, hS1, hl, by omega, fun dp x y z hdp => ?_⟩
      · show [V.ref a, .int (0 + (i : Int))] = _
        rw [Int.zero_add]
      refine ⟨dp, rfl, ⟨x, y, z, upd_same⟩, (Le.new hdp).tabs tb1, fun H3 e3 => ?_⟩
      refine ⟨true, rfl, ?_⟩
      refine ifF rfl ?_
      exact ⟨_, rfl, sqL_ld hS1 hdp e3, e3.tabs ((Le.new hdp).tabs tb1)⟩
    · obtain ⟨x1, rfl, hS1, tb1⟩ := pv
      clear hS tb
      -- the rows
      refine ⟨by decide, fun t0 o0 ht0 hod0 => ?_⟩
      have e2 : Le K H1 (upd H1 t0 (.frz o0 (.tup ([1, 2, 3, 5, 9].map vN)))) := Le.new ht0
      have tD2 : TupD K (upd H1 t0 (.frz o0 (.tup ([1, 2, 3, 5, 9].map vN)))) t0 (([1, 2, 3, 5, 9] : List Nat).map vN) := ⟨.inl (.inr ⟨o0, upd_same⟩), .inl ⟨o0, _, upd_same, hod0⟩⟩
      refine ⟨rfl, rfl, fun xr dx hx hdx hne => ?_⟩
      refine ⟨xr, dx, 7, t0, [1, 2, 3, 5, 9], vN 2, rfl, upd_same, by rw [upd_ne hne]; exact upd_same, hne, by decide, by decide, ?_, ix0, .inr ⟨2, rfl, by decide, by decide⟩, fun H3 ex rat => ⟨rfl, ?_⟩⟩
      · exact ((Le.hd (K := K) (Same.new hdx).le).tupD tD2) |> fun z => (Le.hd (K := K) (Same.new (by rw [upd_ne (Ne.symm hne)]; exact hx)).le).tupD z
      have e3 := ex2_same hx hdx ex
      have e13 := e2.trans e3.le
      have R3 : RowOk K H3 xr 7 [1, 2, 3, 5, 9] := ⟨rat, by decide, by decide, ix0⟩
      clear e3 e2 ex rat hx hdx tD2 hne ht0
      refine ⟨by show 1 ≤ sizeLine; omega, fun rp hrp => ?_⟩
      have e14 : Le K H1 (upd H3 rp (.tup [.ref xr])) := e13.trans (Le.new hrp)
      have R4 : RowsT K (upd H3 rp (.tup [.ref xr])) rp rs0 := ⟨[xr], .of upd_same, rfl, fun i p r h1 h2 => by
        cases i with
        | zero =>
          obtain rfl := Option.some.inj h1
          obtain rfl := Option.some.inj h2
          exact OS.row R3 (Same.new hrp)
        | succ i => simp at h1⟩
      generalize upd H3 rp (.tup [.ref xr]) = H4 at e14 R4 ⊢
      have tb4 := e14.tabs tb1
      clear e13 R3 hrp
      have up0 : UpR rs0 := trivial
      -- the lines of the states
      refine ⟨_, rfl, fun dp hdp => ⟨upd_same, kvS st0, rfl, by decide, ?_⟩⟩
      have e45 : Same H4 (upd (upd H4 dp (.dK [])) dp (.dK (mergeK [] (kvS st0)))) := (Same.new hdp).mut hdp
      have hd5 : upd (upd H4 dp (.dK [])) dp (.dK (mergeK [] (kvS st0))) dp = some (.dK (kvS st0)) := by
        rw [upd_same]
        rfl
      generalize upd (upd H4 dp (.dK [])) dp (.dK (mergeK [] (kvS st0))) = H5 at e45 hd5 ⊢
      refine ⟨dp, _, rfl, hd5, True.intro, fun od => ?_⟩
      have e46 : Le K H4 (upd H5 dp (.frz od (.dK (kvS st0)))) := (ordL (K := K)).wr e45.le hdp hd5 rfl
      have sd6 : StD (upd H5 dp (.frz od (.dK (kvS st0)))) dp st0 := ⟨od, upd_same⟩
      generalize upd H5 dp (.frz od (.dK (kvS st0))) = H6 at e46 sd6 ⊢
      have R6 := (ordL (K := K)).rows R4 e46
      have tb6 := e46.tabs tb4
      refine ⟨rp, dp, rs0, st0, rfl, R6, by decide, up0, sd6, ok0, tb6, fun H7 lp e7 hlp => ?_⟩
      rw [lines0] at hlp
      have R7 := (ordL (K := K)).rows R6 e7
      have tb7 := e7.tabs tb6
      refine ⟨_, rfl, by show 4 ≤ sizeLine; omega, fun tp htp => ?_⟩
      have hlp8 := OS.sqT (Same.new (o := .tup (strsV ls0)) htp) hlp
      have e78 : Same H7 (upd H7 tp (.tup (strsV ls0))) := Same.new htp
      have htp8 : SqT K (upd H7 tp (.tup (strsV ls0))) tp (strsV ls0) := .of upd_same
      refine ⟨_, _, .tup hlp8 (dp_strs ls0), .tup htp8 (dp_strs ls0), shaped_strs sgn0, shaped_strs sgn0, _, rfl, ?_⟩
      rw [eqv_strs sgn0]
      refine ifF rfl ?_
      change tOr _ _ _ (upd H7 tp (.tup (strsV ls0))) _
      have R8 := OS.rows R7 e78
      have tb8 := e78.le.tabs tb7
      generalize upd H7 tp (.tup (strsV ls0)) = H8 at R8 tb8 ⊢
      clear hlp8 htp8 e78 htp hlp e7 R7 tb7 R6 tb6 sd6 e46 hd5 e45 hdp R4 tb4 e14 hS1 tb1
      -- nothing folded
      refine ⟨Nat.zero_le _, fun ep hep => ?_⟩
      refine fun dq hdq => ?_
      refine ⟨dq, _, rfl, upd_same, True.intro, fun odx => ?_⟩
      have dne : ep ≠ dq := fun z => by
        rw [z, upd_same] at hdq
        cases hdq
      have e9 : Same H8 (upd (upd (upd H8 ep (.tup [])) dq (.dK [])) dq (.frz odx (.dK []))) := ((Same.new hep).trans (Same.new hdq)).mut ((Same.new hep).free hdq)
      have E9 : SqT K (upd (upd (upd H8 ep (.tup [])) dq (.dK [])) dq (.frz odx (.dK []))) ep [] := .of (by rw [upd_ne dne, upd_ne dne, upd_same])
      have sd9 : StD (upd (upd (upd H8 ep (.tup [])) dq (.dK [])) dq (.frz odx (.dK []))) dq [] := ⟨odx, upd_same⟩
      generalize upd (upd (upd H8 ep (.tup [])) dq (.dK [])) dq (.frz odx (.dK [])) = H9 at e9 E9 sd9 ⊢
      have R9 := OS.rows R8 e9
      have tb9 : TbOk K H9 := tb8.same e9
      have Rn : ∀ {H' : Hp} {b : Addr}, SqT K H' b [] → RowsT K H' b [] := fun h => ⟨[], h, rfl, fun i p r h1 _ => by simp at h1⟩
      refine ⟨ep, dq, [], [], rfl, Rn E9, by decide, trivial, sd9, ⟨by decide, fun _ h => absurd h List.not_mem_nil, fun _ h => absurd h List.not_mem_nil, List.nodup_nil⟩, tb9, fun H10 lq e10 hlq => ?_⟩
      rw [lines00] at hlq
      have R10 := (ordL (K := K)).rows R9 e10
      have tb10 := e10.tabs tb9
      refine ⟨Nat.zero_le _, fun E1 hE1 => ⟨lq, E1, _, rfl, rfl, .inr ⟨OS.sqT (Same.new hE1) hlq, .of upd_same⟩, _, rfl, ?_⟩⟩
      have R11 := OS.rows R10 (Same.new (o := .tup []) hE1)
      have tb11 : TbOk K (upd H10 E1 (.tup [])) := tb10.same (Same.new hE1)
      generalize upd H10 E1 (.tup []) = H11 at R11 tb11 ⊢
      refine ifF rfl ?_
      -- nothing read
      refine ⟨Nat.zero_le _, fun q1 hq1 => ⟨Nat.zero_le _, fun q2 hq2 => ?_⟩⟩
      have hq21 : SqT K (upd (upd H11 q1 (.tup [])) q2 (.tup [])) q1 [] := OS.sqT (Same.new hq2) (.of upd_same)
      have hq22 : SqT K (upd (upd H11 q1 (.tup [])) q2 (.tup [])) q2 [] := .of upd_same
      have e12 : Same H11 (upd (upd H11 q1 (.tup [])) q2 (.tup [])) := (Same.new hq1).trans (Same.new hq2)
      generalize upd (upd H11 q1 (.tup [])) q2 (.tup []) = H12 at hq21 hq22 e12 ⊢
      have R12 := OS.rows R11 e12
      have tb12 : TbOk K H12 := tb11.same e12
      refine ⟨q1, q2, [], [], rfl, Rn hq21, by decide, trivial, hq22, fun _ h => absurd h List.not_mem_nil, by decide, tb12, ?_, fun f fp H13 hf e13 hfp => ?_⟩
      · intro i d H' hi
        cases hi
      obtain rfl : [] = f := Sum.inr.inj hf
      have hfp : H13 fp = some (.dK []) := hfp
      refine fun dn hdn => ?_
      refine .inr ⟨fp, dn, [], [], rfl, rfl, .inl ((Same.new hdn) _ _ hfp), .inl upd_same, rfl, fun _ h => absurd h List.not_mem_nil, _, rfl, ?_⟩
      have R14 := OS.rows ((ordL (K := K)).rows R12 e13) (Same.new (o := .dK []) hdn)
      have tb14 : TbOk K (upd H13 dn (.dK [])) := (e13.tabs tb12).same (Same.new hdn)
      generalize upd H13 dn (.dK []) = H14 at R14 tb14 ⊢
      refine ifF rfl ?_
      clear hdn hfp hf e13 tb12 R12 e12 hq22 hq21 hq1 hq2 tb11 R11 tb10 R10 hE1 hlq e10 tb9 R9 sd9 E9 e9 dne hdq hep tb8 R8
      -- the odd lines
      dsimp only
      refine ⟨by show 12 ≤ sizeLine; omega, fun o1 ho1 => ?_⟩
      change tSeq _ _ _ _ (upd H14 o1 (.lst (strsV od1)))
      have hs1 : upd H14 o1 (.lst (strsV od1)) o1 = some (.lst (strsV od1)) := upd_same
      have e15 : Same H14 (upd H14 o1 (.lst (strsV od1))) := Same.new ho1
      generalize upd H14 o1 (.lst (strsV od1)) = H15 at hs1 e15 ⊢
      refine ⟨_, rfl, by show 8 ≤ sizeLine; omega, fun o2 ho2 => ?_⟩
      have hs2 : upd H15 o2 (.lst (strsV od2)) o2 = some (.lst (strsV od2)) := upd_same
      have hs12 : upd H15 o2 (.lst (strsV od2)) o1 = some (.lst (strsV od1)) := (Same.new ho2) _ _ hs1
      have e16 : Same H14 (upd H15 o2 (.lst (strsV od2))) := e15.trans (Same.new ho2)
      refine ⟨o1, o2, strsV od1, strsV od2, rfl, rfl, hs12, hs2, by show 12 + 8 ≤ sizeLine; omega, fun o3 ho3 => ?_⟩
      change tSeq _ _ _ _ (upd (upd H15 o2 (.lst (strsV od2))) o3 (.lst (strsV od1 ++ strsV od2)))
      have hs3 : upd (upd H15 o2 (.lst (strsV od2))) o3 (.lst (strsV od1 ++ strsV od2)) o3 = some (.lst (strsV oddL)) := by
        rw [upd_same]
        unfold strsV oddL
        rw [List.map_append]
      have e17 := e16.trans (Same.new (o := .lst (strsV od1 ++ strsV od2)) ho3)
      generalize upd (upd H15 o2 (.lst (strsV od2))) o3 (.lst (strsV od1 ++ strsV od2)) = H17 at hs3 e17 ⊢
      clear e16 hs12 hs2 ho2 ho3 e15 hs1 ho1
      -- the answers that are due
      refine ⟨by show 1 ≤ sizeLine; omega, fun z1 hz1 => ⟨z1, 12, [.int 0], rfl, rfl, upd_same, by decide, by decide, by show 1 * 12 ≤ sizeLine; omega, fun z2 hz2 => ?_⟩⟩
      have e19 : Same H17 (upd (upd H17 z1 (.lst [.int 0])) z2 (.lst (List.replicate (12 : Int).toNat [V.int 0]).flatten)) := (Same.new hz1).trans (Same.new hz2)
      have z19 : upd (upd H17 z1 (.lst [.int 0])) z2 (.lst (List.replicate (12 : Int).toNat [V.int 0]).flatten) z2 = some (.lst (List.replicate 12 (.int 0))) := upd_same
      generalize upd (upd H17 z1 (.lst [.int 0])) z2 (.lst (List.replicate (12 : Int).toNat [V.int 0]).flatten) = H19 at e19 z19 ⊢
      refine fun d1 hd1 => ⟨upd_same, kvS [(7, tx "runs"), (8, tx "runs")], rfl, by decide, ?_⟩
      have e20 : Same H19 (upd (upd H19 d1 (.dK [])) d1 (.dK (mergeK [] (kvS [(7, tx "runs"), (8, tx "runs")])))) := (Same.new hd1).mut hd1
      have d20 : upd (upd H19 d1 (.dK [])) d1 (.dK (mergeK [] (kvS [(7, tx "runs"), (8, tx "runs")]))) d1 = some (.dK (kvS [(7, tx "runs"), (8, tx "runs")])) := by
        rw [upd_same]
        rfl
      generalize upd (upd H19 d1 (.dK [])) d1 (.dK (mergeK [] (kvS [(7, tx "runs"), (8, tx "runs")]))) = H20 at e20 d20 ⊢
      refine fun d2 hd2 => ⟨upd_same, kvS [(9, tx "runs")], rfl, by decide, ?_⟩
      have e21 : Same H20 (upd (upd H20 d2 (.dK [])) d2 (.dK (mergeK [] (kvS [(9, tx "runs")])))) := (Same.new hd2).mut hd2
      have d21 : upd (upd H20 d2 (.dK [])) d2 (.dK (mergeK [] (kvS [(9, tx "runs")]))) d2 = some (.dK (kvS [(9, tx "runs")])) := by
        rw [upd_same]
        rfl
      generalize upd (upd H20 d2 (.dK [])) d2 (.dK (mergeK [] (kvS [(9, tx "runs")]))) = H21 at e21 d21 ⊢
      refine fun d3 hd3 => ⟨upd_same, kvS [(1000000, tx "a")], rfl, by decide, ?_⟩
      have e22 : Same H21 (upd (upd H21 d3 (.dK [])) d3 (.dK (mergeK [] (kvS [(1000000, tx "a")])))) := (Same.new hd3).mut hd3
      have d22 : upd (upd H21 d3 (.dK [])) d3 (.dK (mergeK [] (kvS [(1000000, tx "a")]))) d3 = some (.dK (kvS [(1000000, tx "a")])) := by
        rw [upd_same]
        rfl
      generalize upd (upd H21 d3 (.dK [])) d3 (.dK (mergeK [] (kvS [(1000000, tx "a")]))) = H22 at e22 d22 ⊢
      refine ⟨by show 3 ≤ sizeLine; omega, fun l1 hl1 => ?_⟩
      have e23 : Same H22 (upd H22 l1 (.lst [.ref d1, .ref d2, .ref d3])) := Same.new hl1
      have l23 : upd H22 l1 (.lst [.ref d1, .ref d2, .ref d3]) l1 = some (.lst [.ref d1, .ref d2, .ref d3]) := upd_same
      generalize upd H22 l1 (.lst [.ref d1, .ref d2, .ref d3]) = H23 at e23 l23 ⊢
      refine ⟨z2, l1, _, _, rfl, rfl, e23 _ _ (e22 _ _ (e21 _ _ (e20 _ _ z19))), l23, by show 12 + 3 ≤ sizeLine; omega, fun l2 hl2 => ?_⟩
      have e24 : Same H23 (upd H23 l2 (.lst (List.replicate 12 (.int 0) ++ [.ref d1, .ref d2, .ref d3]))) := Same.new hl2
      have l24 : upd H23 l2 (.lst (List.replicate 12 (.int 0) ++ [.ref d1, .ref d2, .ref d3])) l2 = some (.lst (List.replicate 12 (.int 0) ++ [.ref d1, .ref d2, .ref d3])) := upd_same
      generalize upd H23 l2 (.lst (List.replicate 12 (.int 0) ++ [.ref d1, .ref d2, .ref d3])) = H24 at e24 l24 ⊢
      refine ⟨by show 1 ≤ sizeLine; omega, fun z3 hz3 => ⟨z3, 5, [.int 0], rfl, rfl, upd_same, by decide, by decide, by show 1 * 5 ≤ sizeLine; omega, fun z4 hz4 => ?_⟩⟩
      have e26 : Same H24 (upd (upd H24 z3 (.lst [.int 0])) z4 (.lst (List.replicate (5 : Int).toNat [V.int 0]).flatten)) := (Same.new hz3).trans (Same.new hz4)
      have z26 : upd (upd H24 z3 (.lst [.int 0])) z4 (.lst (List.replicate (5 : Int).toNat [V.int 0]).flatten) z4 = some (.lst (List.replicate 5 (.int 0))) := upd_same
      generalize upd (upd H24 z3 (.lst [.int 0])) z4 (.lst (List.replicate (5 : Int).toNat [V.int 0]).flatten) = H26 at e26 z26 ⊢
      refine ⟨l2, z4, _, _, rfl, rfl, e26 _ _ l24, z26, by show 15 + 5 ≤ sizeLine; omega, fun l3 hl3 => ?_⟩
      have e27 : Same H26 (upd H26 l3 (.lst (List.replicate 12 (.int 0) ++ [.ref d1, .ref d2, .ref d3] ++ List.replicate 5 (.int 0)))) := Same.new hl3
      have l27 : upd H26 l3 (.lst (List.replicate 12 (.int 0) ++ [.ref d1, .ref d2, .ref d3] ++ List.replicate 5 (.int 0))) l3 = some (.lst (due3 [.ref d1, .ref d2, .ref d3])) := upd_same
      have hd1' := e27 _ _ (e26 _ _ (e24 _ _ (e23 _ _ (e22 _ _ (e21 _ _ d20)))))
      have hd2' := e27 _ _ (e26 _ _ (e24 _ _ (e23 _ _ (e22 _ _ d21))))
      have hd3' := e27 _ _ (e26 _ _ (e24 _ _ (e23 _ _ d22)))
      have E27 : Same H14 (upd H26 l3 (.lst (List.replicate 12 (.int 0) ++ [.ref d1, .ref d2, .ref d3] ++ List.replicate 5 (.int 0)))) := e17.trans (e19.trans (e20.trans (e21.trans (e22.trans (e23.trans (e24.trans (e26.trans e27)))))))
      have hs27 := e27 _ _ (e26 _ _ (e24 _ _ (e23 _ _ (e22 _ _ (e21 _ _ (e20 _ _ (e19 _ _ hs3)))))))
      generalize upd H26 l3 (.lst (List.replicate 12 (.int 0) ++ [.ref d1, .ref d2, .ref d3] ++ List.replicate 5 (.int 0))) = H27 at E27 hs27 l27 hd1' hd2' hd3' ⊢
      have R27 := OS.rows R14 E27
      have tb27 : TbOk K H27 := tb14.same E27
      clear e27 e26 z26 hz3 hz4 hl3 e24 l24 hl2 e23 l23 hl1 e22 d22 hd3 e21 d21 hd2 e20 d20 hd1 e19 z19 hz1 hz2 e17 E27 R14 tb14 hs3
      -- the answers
      have O := ordL (K := K)
      have hol : (strsV oddL).length = 20 := rfl
      refine ⟨_, rfl, o3, rfl, ⟨_, .inl (.inl hs27)⟩, fun D hD => ?_⟩
      refine lc_rel O (walk_list (K := K)) (fun i y H' => ∃ o, due1[i]? = some o ∧ AnsV H' y o ∧ y ≠ .ref D) (fun i y H' H'' h ex => ?_) hD (by rw [hol]; decide) (fun H' e => .inl (.inl (O.lst e hs27))) (fun i x H28 H29 Fin No hi e28 hacc hy hF => ?_) fun H28 ys e28 hys hyl hR => ?_
      · obtain ⟨o, h1, h2, h3⟩ := h
        refine ⟨o, h1, ?_, h3⟩
        cases o with
        | none => exact h2
        | some s =>
          obtain ⟨b, rfl, hb⟩ := h2
          exact ⟨b, rfl, ex b _ (fun z => h3 (by rw [z])) hb fun _ z => (nomatch z)⟩
      · obtain ⟨rfl, hx⟩ := hy
        obtain ⟨l, hlx, rfl⟩ := map_get hx
        have hmem := List.mem_of_getElem? hlx
        have hans : due1[i]? = some (ans l) := by
          rw [← ans0, List.getElem?_map, hlx]
          rfl
        have hz0 := ans_zero l hmem
        have R28 := O.rows R27 e28
        have tb28 := e28.tabs tb27
        obtain ⟨acc, hacc⟩ := hacc
        refine ⟨rfl, ⟨_, rfl, _, rfl, by show 1 ≤ sizeLine; omega, fun lt hlt => ?_⟩⟩
        have e30 : Same H29 (upd H29 lt (.tup [.str (S l)])) := Same.new hlt
        have hlt30 : SqT K (upd H29 lt (.tup [.str (S l)])) lt (strsV [l]) := .of upd_same
        generalize upd H29 lt (.tup [.str (S l)]) = H30 at e30 hlt30 ⊢
        refine ⟨rp, lt, rs0, [l], rfl, OS.rows R28 e30, by decide, up0, hlt30, fun z hz => ?_, by show 5 + 1 ≤ 60; omega, tb28.same e30, fun j H31 hj e31 => ?_, fun f fp H31 hf e31 hfp => ?_⟩
        · rw [List.mem_singleton.mp hz]
          exact odd_len l hmem
        · rw [hj] at hz0
          have hj0 : j = 0 := of_decide_eq_true hz0
          have ha : ans l = none := by
            unfold ans
            rw [hj]
          rw [ha] at hans
          refine hF _ _ (e30.le.trans e31) ⟨none, hans, ?_, fun z => nomatch z⟩
          rw [hj0]
          rfl
        · have ha : ans l = some (sortS f) := by
            unfold ans
            rw [hf]
          rw [ha] at hans
          refine hF _ _ (e30.le.trans e31) ⟨_, hans, ⟨fp, rfl, hfp⟩, fun z => ?_⟩
          have h1 := O.lst e31 (e30 _ _ hacc)
          rw [← V.ref.inj z, hfp] at h1
          cases h1
      · rw [hol] at hyl
        have hl3' := O.lst e28 l27
        refine ⟨_, rfl, 2, by decide, .inl ⟨D, l3, ys, _, rfl, rfl, .inl (.inl hys), .inl (.inl hl3'), ?_⟩, q _⟩
        refine paired_of (by rw [hyl]; rfl) fun i x y hx hy => ?_
        obtain ⟨o, h1, h2, _⟩ := hR i x hx
        have h3 := due_get (H := H28) (O.keep e28 _ _ hd1' fun _ z => (nomatch z)) (O.keep e28 _ _ hd2' fun _ z => (nomatch z)) (O.keep e28 _ _ hd3' fun _ z => (nomatch z)) i y o hy h1
        exact ans_eqv (List.mem_of_getElem? h1) h2 h3
end
end K28

set_option Elab.async false
set_option linter.all false
set_option maxRecDepth 100000
set_option maxHeartbeats 4000000
namespace K28
open PySem PySem.Spec PyProof.Rows L2
theorem DefA.funD {K : PySem.W.Frag} {d : DefA} (e : fnZ K (d.ad K) = d.val) (c : d.ok K = true) (hc : d.clo = []) : ∃ fd, FunD K d.name d.qual d.params d.body d.scope (d.dvs K) (d.kws K) (d.ad K) fd := by
  obtain ⟨kp, c2⟩ := He.ba c
  unfold fnZ DefA.val at e
  rw [hc] at e
  cases q : K.lookup (d.ad K) with
  | none =>
    rw [q] at c2
    cases c2
  | some o =>
    obtain ⟨oc, od, dt, osl⟩ := o
    rw [q] at c2 e
    cases dt with
    | func fd =>
      obtain ⟨n1, n2, n3, n4, n5, n6, n7, n8, n9, n10, n11, n12, n13, n14, n15⟩ := fd
      have e2 := Option.some.inj e
      simp only [Prod.mk.injEq] at e2
      obtain ⟨h1, h2, h3, h4, h5, h6, h7, h8⟩ := e2
      have h7' : n7 = [] := List.map_eq_nil_iff.mp h7
      subst h1 h2 h3 h4 h5 h6 h7' h8
      obtain ⟨k1, k2⟩ := He.ba (show (PySem.W.codeIn K n13 d.qual && (He.dflB K n8 (d.dvs K) && He.kwdB K n9 (d.kws K))) = true from c2)
      obtain ⟨k3, k4⟩ := He.ba k2
      exact ⟨_, ⟨oc, od, n8, n9, n10, n11, n12, n13, n14, osl, rfl, q, k1, He.dflB_ok k3, He.kwdB_ok k4⟩, kp⟩
    | _ => cases c2
theorem clB_ok {K : PySem.W.Frag} {C : Addr} {t : String} {r : List Value} {newId : String} (q : clB K C (.type t :: r) newId = true) (hp : ∀ self : Value, refuseLoop self "__setattr__" (.type t :: r) = pure ()) :
    ∃ nm q N bs bm sn sub ab col dd k0 k1 k2 k3 k5, K.lookup C = some (excClassObj nm q C N bs bm true sn sub ab col dd k0 k1 k2 k3 k5 newId) ∧ (∀ X : String, bm.contains (.type X) = (Value.type t :: r).contains (.type X)) ∧
      (∀ self : Value, refuseLoop self "__setattr__" (.ref C :: bm) = pure ()) ∧ PySem.W.alongIn K "__init__" bm = some (some (.builtin (t ++ ".__init__"))) := by
  unfold clB at q
  split at q
  · rename_i dd cd sl ho
    split at q
    · rename_i C' bm k0 k1 k2 k3 n k5 hm hs
      obtain ⟨q1, q⟩ := He.ba q
      obtain ⟨q2, q⟩ := He.ba q
      obtain ⟨q3, q⟩ := He.ba q
      obtain ⟨q4, q⟩ := He.ba q
      obtain ⟨q5, q6⟩ := He.ba q
      obtain rfl : C' = C := beq_iff_eq.mp q1
      obtain rfl : n = newId := beq_iff_eq.mp q2
      obtain ⟨nm, bs, mro, ns, qn, hd, sn, sub, ab, col, del⟩ := cd
      dsimp only at hm q3 q4 q5 q6
      simp only [Bool.not_eq_true'] at q3
      subst hm q3 q4
      have hsl : sl = #[k0, k1, k2, k3, some (.builtin n), k5] := by
        obtain ⟨l⟩ := sl
        simp only at hs
        rw [hs]
      subst hsl
      refine ⟨nm, qn, ns, bs, bm, sn, sub, ab, col, dd, k0, k1, k2, k3, k5, ho, fun X => PySem.W.excTail_contains X _ q5, fun self => ?_, He.eqO_ok q6⟩
      rw [refuseLoop_ref]
      exact PySem.W.excTail_pass self (hp self) _ q5
    · cases q
  · cases q
theorem ownB_ok {K : PySem.W.Frag} {C f : Addr} {d : DefA} (hc : d.clo = ([("__class__" : Str)] : List Str)) (e : fnZ K f = d.val) (q : ownB K C f d.qual = true) :
    ∃ (oc : Value) (od : Option Addr) (doc pm : Value) (an : Option Addr) (cda cc : Addr) (ct : Value) (osl : Array (Option Value)),
    K.lookup f = some ⟨oc, od, .func (PySem.W.fnX d.name d.qual d.params d.body d.scope [("__class__", cc)] .none .none doc pm an (.ref cda) ct), osl⟩ ∧ PySem.W.codeIn K (.ref cda) d.qual = true ∧
    (∃ cl cld csl, K.lookup cc = some ⟨cl, cld, .cell (some (.ref C)), csl⟩) ∧ ∃ ccl cdd vs ccs file tf, K.lookup cda = some ⟨ccl, cdd, .fields vs, ccs⟩ ∧ vs[2]? = some (.str file tf) ∧ (((PySem.Challenge.pw_toldstarts_k28_whole_states_folded).main.file : Str) == file) = true := by
  unfold ownB at q
  split at q
  · rename_i oc od m1 m2 m3 m4 m5 m6 cn cc doc pm an cda ct m9 osl ho
    obtain ⟨q1, q⟩ := He.ba q
    obtain ⟨q2, q3⟩ := He.ba q
    unfold fnZ DefA.val at e
    rw [hc, ho] at e
    have e2 := Option.some.inj e
    simp only [Prod.mk.injEq] at e2
    obtain ⟨h1, h2, h3, h4, h5, h6, h7, h8⟩ := e2
    have h7' : cn = "__class__" := by
      have z : [cn] = ([("__class__" : Str)] : List Str) := h7
      exact List.cons.inj z |>.1
    subst h1 h2 h3 h4 h5 h6 h7' h8
    refine ⟨oc, od, doc, pm, an, cda, cc, ct, osl, ho, q1, ?_, ?_⟩
    · split at q2
      · rename_i z1 z2 C' z3 hz
        obtain rfl : C' = C := beq_iff_eq.mp q2
        exact ⟨_, _, _, hz⟩
      · cases q2
    · split at q3
      · rename_i ccl cdd vs ccs hz
        split at q3
        · rename_i file tf hv
          exact ⟨_, _, _, _, _, _, hz, hv, q3⟩
        · cases q3
      · cases q3
  · cases q
theorem slB_ok {K : PySem.W.Frag} {C : Addr} {f : Str} {i : Nat} (h : slB K C f i = true) : ∃ p, SlX.Slot1 K C f p i := by
  obtain ⟨h1, h⟩ := He.ba h
  obtain ⟨h2, h⟩ := He.ba h
  obtain ⟨h3, h⟩ := He.ba h
  obtain ⟨h4, h⟩ := He.ba h
  obtain ⟨h5, h6⟩ := He.ba h
  exact ⟨_, He.eqO_ok h1, He.eqO_ok h2, of_decide_eq_true h3, of_decide_eq_true h4, of_decide_eq_true h5, Nat.le_of_ble_eq_true h6⟩
theorem prB_ok {K : PySem.W.Frag} {f : Str} (h : prB K f = true) : PropF K f (prAd K f) := by
  obtain ⟨h1, h⟩ := He.ba h
  obtain ⟨h2, h⟩ := He.ba h
  obtain ⟨h3, h4⟩ := He.ba h
  cases q : PySem.W.recIn K (pdAd K (cRow K) f) "property" with
  | none =>
    rw [q] at h4
    cases h4
  | some l =>
    rw [q] at h4
    match l, h4, q with
    | .ref g :: r, _, q =>
      have e : prAd K f = g := by
        unfold prAd
        rw [q]
      rw [e]
      exact ⟨_, r, He.eqO_ok h1, He.eqO_ok h2, of_decide_eq_true h3, q⟩
theorem scB_ok {K : PySem.W.Frag} {C : Addr} (h : scB K C = true) : SlX.SCls K C := by
  obtain ⟨h1, h⟩ := He.ba h
  obtain ⟨h2, h⟩ := He.ba h
  obtain ⟨h3, h4⟩ := He.ba h
  exact ⟨h1, h2, h3, He.eqO_ok h4⟩
theorem siB_ok {K : PySem.W.Frag} {C : Addr} (h : siB K C = true) : SlX.SIsi K C := by
  obtain ⟨h1, h⟩ := He.ba h
  obtain ⟨h2, h⟩ := He.ba h
  obtain ⟨h3, h4⟩ := He.ba h
  exact ⟨He.eqO_ok h1, He.eqO_ok h2, of_decide_eq_true h3, of_decide_eq_true h4⟩
theorem mkB_ok {K : PySem.W.Frag} {C : Addr} (h : mkB K C = true) : Mk K C (He.ma K C "__init__") := by
  obtain ⟨h1, h⟩ := He.ba h
  obtain ⟨h2, h⟩ := He.ba h
  obtain ⟨h3, h4⟩ := He.ba h
  exact ⟨h1, He.eqO_ok h2, h3, h4⟩
theorem meB_ok {K : PySem.W.Frag} {C : Addr} {m : Str} (h : meB K C m = true) : Meth K C m (He.ma K C m) := by
  obtain ⟨h1, h⟩ := He.ba h
  obtain ⟨h2, h3⟩ := He.ba h
  exact ⟨He.eqO_ok h1, h2, h3⟩
theorem d0B_ok {K : PySem.W.Frag} (h : d0B K = true) : ∃ (o : Obj) (n : Nat), K.lookup (d0Ad K) = some o ∧ o.cls = .type "tuple" ∧ o.dict = none ∧ o.data = .seq #[] n := by
  unfold d0B at h
  split at h
  · rename_i c its n sl ho
    obtain ⟨h1, h2⟩ := He.ba h
    obtain rfl : c = "tuple" := beq_iff_eq.mp h1
    rw [Array.isEmpty_iff.mp h2] at ho
    exact ⟨_, n, ho, rfl, rfl, rfl⟩
  · cases h

theorem and_all {l : List Bool} (h : l.all id = true) (i : Nat) {b : Bool} (e : l[i]? = some b) : b = true := List.all_eq_true.mp h b (List.mem_of_getElem? e)

theorem do_at {K : PySem.W.Frag} {fn : List DefA} (e : doM K fn = dvM fn) (i : Nat) {d : DefA} (h : fn[i]? = some d) : fnZ K (d.ad K) = d.val ∧ (d.clo = [] → d.ok K = true) := by
  have e1 : (fn.map fun d => if d.clo.isEmpty then d.ok K else true).all id = true := congrArg (fun z => z.1) e
  have e2 : fn.map (fun d => fnZ K (d.ad K)) = fn.map DefA.val := congrArg (fun z => z.2) e
  have hm := List.mem_of_getElem? h
  refine ⟨List.map_inj_left.mp e2 d hm, fun hc => ?_⟩
  have q := List.all_eq_true.mp e1 _ (List.mem_map.mpr ⟨d, hm, rfl⟩)
  rw [hc] at q
  exact q
theorem do_fun {K : PySem.W.Frag} {fn : List DefA} (e : doM K fn = dvM fn) (i : Nat) {d : DefA} (h : fn[i]? = some d) (hc : d.clo = []) : ∃ fd, FunD K d.name d.qual d.params d.body d.scope (d.dvs K) (d.kws K) (d.ad K) fd :=
  let ⟨h1, h2⟩ := do_at e i h
  DefA.funD h1 (h2 hc) hc
/-- what is told -/
structure SaysM (h : Heap) (K : PySem.W.Frag) : Prop where
  fa : ∀ (i : Nat) (f : He.Fa), faM[i]? = some f → f.ok K = true
  ex : (exsM K).all id = true
  pe : (tpeM K).all id = true
  tm : (ttmM K).all id = true
  d0 : doM K fnM0 = dvM fnM0
  d1 : doM K fnM1 = dvM fnM1
  d2 : doM K fnM2 = dvM fnM2
  d3 : doM K fnM3 = dvM fnM3
  d4 : doM K fnM4 = dvM fnM4
  hd : ∀ p ∈ tfM, PySem.W.codeHdIn K (He.cT K p).1 (He.cT K p).2 = true
  out : ∀ p ∈ tfM, K.lookup (He.cT K p).2 = none
  empty : ∀ p ∈ tfM, h.get? (He.cT K p).2 = some { cls := .none, data := .fields #[] }
theorem saysM_of {h : Heap} (e : obM h.get? = vaM) : SaysM h (kM h.get?) := by
  have e0 : (okM h.get? (kM h.get?)).all id = true := congrArg (fun z : AlM => z.1) e
  unfold okM at e0
  simp only [List.all_append, Bool.and_eq_true] at e0
  obtain ⟨e1, e2, e3, e4, e5⟩ := e0
  have h2 : He.tabsB h.get? tfM (kM h.get?) = true := and_all e5 0 rfl
  have key : ∀ p ∈ tfM, PySem.W.codeHdIn (kM h.get?) (He.cT (kM h.get?) p).1 (He.cT (kM h.get?) p).2 = true ∧ ∃ o, h.get? (He.cT (kM h.get?) p).2 = some o ∧ He.emptyTab o = true := fun p hp => by
    obtain ⟨h3, h4⟩ := He.ba (List.all_eq_true.mp h2 p hp)
    refine ⟨h3, ?_⟩
    cases q : h.get? (He.cT (kM h.get?) p).2 with
    | none =>
      rw [q] at h4
      cases h4
    | some o =>
      rw [q] at h4
      exact ⟨o, rfl, h4⟩
  exact {
    fa := fun i f hf => List.all_eq_true.mp e1 _ (List.mem_map.mpr ⟨f, List.mem_of_getElem? hf, rfl⟩)
    ex := e2
    pe := e3
    tm := e4
    d0 := congrArg (fun z : AlM => z.2.1) e
    d1 := congrArg (fun z : AlM => z.2.2.1) e
    d2 := congrArg (fun z : AlM => z.2.2.2.1) e
    d3 := congrArg (fun z : AlM => z.2.2.2.2.1) e
    d4 := congrArg (fun z : AlM => z.2.2.2.2.2) e
    hd := fun p hp => (key p hp).1
    out := fun p hp => by
      obtain ⟨_, o, q, z⟩ := key p hp
      exact He.frT_none q z
    empty := fun p hp => by
      obtain ⟨_, o, q, z⟩ := key p hp
      rw [q, He.emptyTab_eq z] }

def hookM : PySem.W.Hook where
  α := AlM
  obs := fun s => obM s.heap.get?
  val := fun _ => vaM
  says := fun _ h => ∃ K : PySem.W.Frag, K.In h ∧ SaysM h K
  of := fun _ _ e => ⟨_, He.frT_in, saysM_of e⟩
  keeps := fun _ _ _ ⟨K, hK, c⟩ k => ⟨K, PySem.W.Frag.In.keeps hK k, { c with empty := fun p hp => k _ _ (c.empty p hp) }⟩
theorem obM_eq {g : Addr → Option Obj} {s : Shared} (h : ∀ a, g a = s.heap.get? a) : obM g = hookM.obs s := by
  have e : g = s.heap.get? := funext h
  rw [e] <;> rfl
/-! ### the facts -/
section
variable {h base : Heap} {K : PySem.W.Frag} {mg : Str → Option Value}
theorem SaysM.pe_ (c : SaysM h K) (hC : mg "ParseError" = some (.ref (cPE K))) : Er.TxtParseError K mg (cPE K) (He.ma K (cPE K) "__init__") where
  gC := hC
  cls := clB_ok (t := "ValueError") (and_all c.pe 0 rfl) F.store_ValueError.passes
  sa := He.eqO_ok (and_all c.pe 1 rfl)
  ga := He.eqO_ok (and_all c.pe 2 rfl)
  gg := He.eqO_ok (and_all c.pe 3 rfl)
  noN := He.eqO_ok (and_all c.pe 4 rfl)
  iC := He.eqO_ok (and_all c.pe 5 rfl)
  tC := of_decide_eq_true (and_all c.pe 6 rfl)
  kC := and_all c.pe 7 rfl
  exC := of_decide_eq_true (and_all c.pe 8 rfl)
  isB := of_decide_eq_true (and_all c.pe 9 rfl)
  tyC := of_decide_eq_true (and_all c.pe 10 rfl)
  te := of_decide_eq_true (and_all c.pe 11 rfl)
  op := He.eqO_ok (and_all c.pe 12 rfl)
  fn := ownB_ok (d := fnM4[3]) rfl (do_at c.d4 3 rfl).1 (and_all c.pe 13 rfl)
theorem SaysM.tm_ (c : SaysM h K) (hC : mg "TooMany" = some (.ref (cTM K))) : Er.TxtTooMany K mg (cTM K) (He.ma K (cTM K) "__init__") where
  gC := hC
  cls := clB_ok (t := "OverflowError") (and_all c.tm 0 rfl) F.store_OverflowError.passes
  sa := He.eqO_ok (and_all c.tm 1 rfl)
  ga := He.eqO_ok (and_all c.tm 2 rfl)
  gg := He.eqO_ok (and_all c.tm 3 rfl)
  noN := He.eqO_ok (and_all c.tm 4 rfl)
  iC := He.eqO_ok (and_all c.tm 5 rfl)
  tC := of_decide_eq_true (and_all c.tm 6 rfl)
  kC := and_all c.tm 7 rfl
  exC := of_decide_eq_true (and_all c.tm 8 rfl)
  isB := of_decide_eq_true (and_all c.tm 9 rfl)
  tyC := of_decide_eq_true (and_all c.tm 10 rfl)
  te := of_decide_eq_true (and_all c.tm 11 rfl)
  op := He.eqO_ok (and_all c.tm 12 rfl)
  fn := ownB_ok (d := fnM4[4]) rfl (do_at c.d4 4 rfl).1 (and_all c.tm 13 rfl)
theorem SaysM.tx (c : SaysM h K) (X : K.In h) (G : h.Ns mainGlobals mg) : Tx K mg where
  g_is_integer := He.glo_ok X G (c.fa 0 _ rfl)
  d_is_integer := do_fun c.d0 0 rfl rfl
  g_is_from := He.glo_ok X G (c.fa 1 _ rfl)
  d_is_from := do_fun c.d0 1 rfl rfl
  g_begins_with_letter := He.glo_ok X G (c.fa 2 _ rfl)
  d_begins_with_letter := do_fun c.d0 2 rfl rfl
  g_is_kind := He.glo_ok X G (c.fa 3 _ rfl)
  d_is_kind := do_fun c.d0 3 rfl rfl
  g_are_ascending := He.glo_ok X G (c.fa 4 _ rfl)
  d_are_ascending := do_fun c.d0 4 rfl rfl
  g_are_pairs := He.glo_ok X G (c.fa 5 _ rfl)
  d_are_pairs := do_fun c.d0 5 rfl rfl
  g_are_indices := He.glo_ok X G (c.fa 6 _ rfl)
  d_are_indices := do_fun c.d0 6 rfl rfl
  g_entry_of := He.glo_ok X G (c.fa 7 _ rfl)
  d_entry_of := do_fun c.d0 7 rfl rfl
  g_least_text := He.glo_ok X G (c.fa 8 _ rfl)
  d_least_text := do_fun c.d0 8 rfl rfl
  g_fold_indices := He.glo_ok X G (c.fa 9 _ rfl)
  d_fold_indices := do_fun c.d0 9 rfl rfl
  g_is_digit := He.glo_ok X G (c.fa 10 _ rfl)
  d_is_digit := do_fun c.d0 10 rfl rfl
  g_number_end := He.glo_ok X G (c.fa 11 _ rfl)
  d_number_end := do_fun c.d0 11 rfl rfl
  g_entry_spots := He.glo_ok X G (c.fa 12 _ rfl)
  d_entry_spots := do_fun c.d0 12 rfl rfl
  g_entries_in := He.glo_ok X G (c.fa 13 _ rfl)
  d_entries_in := do_fun c.d1 0 rfl rfl
  g_told_bounds := He.glo_ok X G (c.fa 14 _ rfl)
  d_told_bounds := do_fun c.d1 1 rfl rfl
  g_unfold_indices := He.glo_ok X G (c.fa 15 _ rfl)
  d_unfold_indices := do_fun c.d1 2 rfl rfl
  g_are_rows := He.glo_ok X G (c.fa 16 _ rfl)
  d_are_rows := do_fun c.d1 3 rfl rfl
  g_require_rows := He.glo_ok X G (c.fa 17 _ rfl)
  d_require_rows := do_fun c.d1 4 rfl rfl
  g_is_state_word := He.glo_ok X G (c.fa 18 _ rfl)
  d_is_state_word := do_fun c.d1 5 rfl rfl
  g_are_states := He.glo_ok X G (c.fa 19 _ rfl)
  d_are_states := do_fun c.d1 6 rfl rfl
  g_row_with := He.glo_ok X G (c.fa 20 _ rfl)
  d_row_with := do_fun c.d1 7 rfl rfl
  g_line_of := He.glo_ok X G (c.fa 21 _ rfl)
  d_line_of := do_fun c.d1 8 rfl rfl
  g_fold_states := He.glo_ok X G (c.fa 22 _ rfl)
  d_fold_states := do_fun c.d1 9 rfl rfl
  g_plain_number := He.glo_ok X G (c.fa 23 _ rfl)
  d_plain_number := do_fun c.d1 10 rfl rfl
  g_told_indices := He.glo_ok X G (c.fa 24 _ rfl)
  d_told_indices := do_fun c.d1 11 rfl rfl
  g_told_numbers := He.glo_ok X G (c.fa 25 _ rfl)
  d_told_numbers := do_fun c.d1 12 rfl rfl
  g_unfold_states := He.glo_ok X G (c.fa 26 _ rfl)
  d_unfold_states := do_fun c.d2 0 rfl rfl
  g_l_dice := He.glo_ok X G (c.fa 27 _ rfl)
  d_l_dice := do_fun c.d2 1 rfl rfl
  g_l_roll := He.glo_ok X G (c.fa 28 _ rfl)
  d_l_roll := do_fun c.d2 2 rfl rfl
  g_l_pick := He.glo_ok X G (c.fa 29 _ rfl)
  d_l_pick := do_fun c.d2 3 rfl rfl
  g_l_mixed := He.glo_ok X G (c.fa 30 _ rfl)
  d_l_mixed := do_fun c.d2 4 rfl rfl
  g_l_likes_drawn := He.glo_ok X G (c.fa 31 _ rfl)
  d_l_likes_drawn := do_fun c.d2 5 rfl rfl
  g_l_likes_spot := He.glo_ok X G (c.fa 32 _ rfl)
  d_l_likes_spot := do_fun c.d2 6 rfl rfl
  g_l_likes_told := He.glo_ok X G (c.fa 33 _ rfl)
  d_l_likes_told := do_fun c.d2 7 rfl rfl
  g_l_likes_row := He.glo_ok X G (c.fa 34 _ rfl)
  d_l_likes_row := do_fun c.d2 8 rfl rfl
  g_l_likes_rows := He.glo_ok X G (c.fa 35 _ rfl)
  d_l_likes_rows := do_fun c.d2 9 rfl rfl
  g_l_likes_states := He.glo_ok X G (c.fa 36 _ rfl)
  d_l_likes_states := do_fun c.d2 10 rfl rfl
  g_l_likes_of := He.glo_ok X G (c.fa 37 _ rfl)
  d_l_likes_of := do_fun c.d2 11 rfl rfl
  g_l_line := He.glo_ok X G (c.fa 38 _ rfl)
  d_l_line := do_fun c.d2 12 rfl rfl
  g_l_lines := He.glo_ok X G (c.fa 39 _ rfl)
  d_l_lines := do_fun c.d3 0 rfl rfl
  g_l_plain := He.glo_ok X G (c.fa 40 _ rfl)
  d_l_plain := do_fun c.d3 1 rfl rfl
  g_l_numbers := He.glo_ok X G (c.fa 41 _ rfl)
  d_l_numbers := do_fun c.d3 2 rfl rfl
  g_l_read := He.glo_ok X G (c.fa 42 _ rfl)
  d_l_read := do_fun c.d3 3 rfl rfl
  g_l_told := He.glo_ok X G (c.fa 43 _ rfl)
  d_l_told := do_fun c.d3 4 rfl rfl
  g_l_bent := He.glo_ok X G (c.fa 44 _ rfl)
  d_l_bent := do_fun c.d3 5 rfl rfl
  g_l_right := He.glo_ok X G (c.fa 45 _ rfl)
  d_l_right := do_fun c.d3 6 rfl rfl
  g_law := He.glo_ok X G (c.fa 46 _ rfl)
  d_law := do_fun c.d3 7 rfl rfl
  m_isinstance := He.free_ok X G (c.fa 47 _ rfl)
  m_int := He.free_ok X G (c.fa 48 _ rfl)
  m_bool := He.free_ok X G (c.fa 49 _ rfl)
  m_len := He.free_ok X G (c.fa 50 _ rfl)
  m_str := He.free_ok X G (c.fa 51 _ rfl)
  m_tuple := He.free_ok X G (c.fa 52 _ rfl)
  m_all := He.free_ok X G (c.fa 53 _ rfl)
  m_zip := He.free_ok X G (c.fa 54 _ rfl)
  m_range := He.free_ok X G (c.fa 55 _ rfl)
  m_min := He.free_ok X G (c.fa 56 _ rfl)
  m_sorted := He.free_ok X G (c.fa 57 _ rfl)
  m_any := He.free_ok X G (c.fa 58 _ rfl)
  m_dict := He.free_ok X G (c.fa 59 _ rfl)
  m_list := He.free_ok X G (c.fa 60 _ rfl)
  m_enumerate := He.free_ok X G (c.fa 61 _ rfl)
  m_max := He.free_ok X G (c.fa 62 _ rfl)
  m_abs := He.free_ok X G (c.fa 63 _ rfl)
  m_set := He.free_ok X G (c.fa 64 _ rfl)
  m_next := He.free_ok X G (c.fa 65 _ rfl)
  m_super := He.free_ok X G (c.fa 66 _ rfl)
  i_GREATEST := He.int_ok X G (c.fa 67 _ rfl)
  i_MAX_KIND := He.int_ok X G (c.fa 68 _ rfl)
  i_MAX_KINDS := He.int_ok X G (c.fa 69 _ rfl)
  i_MAX_AMOUNT := He.int_ok X G (c.fa 70 _ rfl)
  i_MAX_PARTS := He.int_ok X G (c.fa 71 _ rfl)
  i_MAX_INDEX := He.int_ok X G (c.fa 72 _ rfl)
  i_MAX_LINES := He.int_ok X G (c.fa 73 _ rfl)
  i_MAX_FIRST := He.int_ok X G (c.fa 74 _ rfl)
  i_MAX_NUMBER := He.int_ok X G (c.fa 75 _ rfl)
  i_MAX_STATE := He.int_ok X G (c.fa 76 _ rfl)
  t_LETTERS := He.str_ok X G (c.fa 77 _ rfl)
  t_DIGITS := He.str_ok X G (c.fa 78 _ rfl)
  t_NOTHING := He.str_ok X G (c.fa 79 _ rfl)
theorem SaysM.ty (c : SaysM h K) (X : K.In h) (G : h.Ns mainGlobals mg) : Ty K mg where
  toTx := c.tx X G
  pe := c.pe_ (He.glo_ok X G (c.fa 80 _ rfl))
  tm := c.tm_ (He.glo_ok X G (c.fa 81 _ rfl))
  exP := beq_iff_eq.mp (and_all c.ex 0 rfl)
  exT := beq_iff_eq.mp (and_all c.ex 1 rfl)
  g_Row := He.glo_ok X G (c.fa 82 _ rfl)
  g_Amounts := He.glo_ok X G (c.fa 83 _ rfl)
  row_c := scB_ok (and_all c.ex 2 rfl)
  row_k := siB_ok (and_all c.ex 3 rfl)
  row_m := mkB_ok (and_all c.ex 4 rfl)
  row_f := do_fun c.d3 8 rfl rfl
  row_0 := slB_ok (and_all c.ex 5 rfl)
  row_1 := slB_ok (and_all c.ex 6 rfl)
  row_2 := slB_ok (and_all c.ex 7 rfl)
  row_3 := slB_ok (and_all c.ex 8 rfl)
  row_4 := slB_ok (and_all c.ex 9 rfl)
  row_5 := slB_ok (and_all c.ex 10 rfl)
  am_c := scB_ok (and_all c.ex 11 rfl)
  am_m := mkB_ok (and_all c.ex 12 rfl)
  am_f := by
    obtain ⟨o, n, h1, h2, h3, h4⟩ := d0B_ok (and_all c.ex 13 rfl)
    obtain ⟨fd, F⟩ := do_fun c.d3 9 rfl rfl
    exact ⟨_, o, n, fd, F, h1, h2, h3, h4⟩
  am_0 := slB_ok (and_all c.ex 14 rfl)
  am_1 := slB_ok (and_all c.ex 15 rfl)
  pr_first := let ⟨fd, F⟩ := do_fun c.d3 10 rfl rfl; ⟨_, fd, prB_ok (and_all c.ex 16 rfl), F⟩
  pr_indices := let ⟨fd, F⟩ := do_fun c.d3 11 rfl rfl; ⟨_, fd, prB_ok (and_all c.ex 17 rfl), F⟩
  pr_numbers := let ⟨fd, F⟩ := do_fun c.d3 12 rfl rfl; ⟨_, fd, prB_ok (and_all c.ex 18 rfl), F⟩
  mt_number_of := ⟨meB_ok (and_all c.ex 19 rfl), do_fun c.d4 0 rfl rfl⟩
  mt_index_of := ⟨meB_ok (and_all c.ex 20 rfl), do_fun c.d4 1 rfl rfl⟩
  mt_contains := ⟨meB_ok (and_all c.ex 21 rfl), do_fun c.d4 2 rfl rfl⟩
theorem SaysM.tw (c : SaysM h K) (X : K.In h) (G : h.Ns mainGlobals mg) (tl : LamX.TabB base mg (cL K).1 (cL K).2) (tr : GxR.TabB base mg (cR K).1 (cR K).2) : Tw K mg base where
  toTy := c.ty X G
  tl := tl
  tr := tr
  xf := (and_all c.ex 22 rfl)
  xs := He.eqO_ok (and_all c.pe 4 rfl)
  xm := of_decide_eq_true (and_all c.pe 11 rfl)
theorem SaysM.ne (c : SaysM h K) : (cR K).2 ≠ (cL K).2 := of_decide_eq_true (and_all c.ex 23 rfl)
end
end K28

set_option Elab.async false
set_option linter.all false
set_option maxRecDepth 100000
set_option maxHeartbeats 0
namespace K28
open PySem PySem.Spec PyProof.Rows L2
def ob (s : PySem.W.SharedT) : AlM := obM (HandSHeadRun.getT s)
theorem ob_eq (s : PySem.W.SharedT) : ob s = hookM.obs s.abs := obM_eq (HandSHeadRun.getT_eq s)
theorem map_both {α β γ δ : Type} {o : Option α} {f : α → β} {g : α → γ} {l : α → δ} {b : β} {c : γ} {d : δ} (h1 : (o.map fun s => (f s, g s)) = some (b, c)) (h2 : o.map l = some d) : (o.map fun s => (f s, g s, l s)) = some (b, c, d) := by
  cases o with
  | none => cases h1
  | some s =>
    have e1 := Option.some.inj h1
    have e2 := Option.some.inj h2
    obtain ⟨e3, e4⟩ := Prod.mk.inj e1
    show some (f s, g s, l s) = some (b, c, d)
    rw [e3, e4, show l s = d from e2]
theorem run (w : World) : HandSHeadRun.RunEq rowQ (PySem.W.view rowQ.prog [135]) hookM ob 20000 loose w := fun os => map_both (run_looks w os) (run_ob w os)
theorem law_at {w : World} {mg : Str → Option Value} {fa : Addr} {h : Heap} {K : PySem.W.Frag} (KX : K.In h) (c : SaysM h K) (G : h.Ns mainGlobals mg) (hfa : mg ("law" : Str) = some (.ref fa)) :
    LamX.LawAtS PySem.Challenge.rw_toldstarts_k28_whole_states_folded w K (L2.CX Er.PRG w) 12 63 "_law_script" mg fa h := by
  have tx := c.tx KX G
  obtain rfl : He.ga K "law" = fa := by
    have e := tx.g_law.symm.trans hfa
    exact Value.ref.inj (Option.some.inj e)
  obtain ⟨fd, F⟩ := tx.d_law
  refine ⟨fd, [cL K, cR K], spLaw K, ?_, ?_, ?_, fun s u => ?_, ?_, fun base KB GB hT => ?_⟩
  · intro p hp
    rcases List.mem_cons.mp hp with rfl | hp
    · exact c.empty ("least_text", none) (List.mem_cons_self ..)
    · rw [List.mem_singleton.mp hp]
      exact c.empty ("row_with", none) (List.mem_cons_of_mem _ (List.mem_cons_self ..))
  · intro p hp
    rcases List.mem_cons.mp hp with rfl | hp
    · exact c.out ("least_text", none) (List.mem_cons_self ..)
    · rw [List.mem_singleton.mp hp]
      exact c.out ("row_with", none) (List.mem_cons_of_mem _ (List.mem_cons_self ..))
  · intro p hp
    rcases List.mem_cons.mp hp with rfl | hp
    · exact PySem.W.codeHd_of_K KX (c.hd ("least_text", none) (List.mem_cons_self ..))
    · rw [List.mem_singleton.mp hp]
      exact PySem.W.codeHd_of_K KX (c.hd ("row_with", none) (List.mem_cons_of_mem _ (List.mem_cons_self ..)))
  · exact FunD.bindsA (ps := ["_law_script"]) F (fun _ _ _ _ _ _ us hl => match us, hl with | [_], _ => rfl) s [u] rfl
  · intro H a ns hl _ hH hS
    exact ⟨a, ns, rfl, hS, hl, ⟨LamX.TabS.nil (hH _ (List.mem_cons_self ..)), ⟨#[], hH _ (List.mem_cons_of_mem _ (List.mem_cons_self ..)), True.intro⟩, c.ne⟩, fun _ => rfl⟩
  · have tl := hT (cL K) (List.mem_cons_self ..)
    have tr := hT (cR K) (List.mem_cons_of_mem _ (List.mem_cons_self ..))
    exact ok_law (c.tw (base := base) KX G tl ⟨tr.code, tr.bm, tr.gP⟩) F
end K28
open PySem PySem.W PySem.Calls PyProof.Rows
theorem PySem.Challenge.cw_toldstarts_k28_whole_states_folded_holds : PySem.Challenge.rw_toldstarts_k28_whole_states_folded.Holds := by
  w_on; o_law
  refine HandSHeadRun.head_any (r := OpenLaw.row PySem.Challenge.rw_toldstarts_k28_whole_states_folded) (q := view (OpenLaw.row PySem.Challenge.rw_toldstarts_k28_whole_states_folded).prog [135]) (H := K28.hookM) (ob := K28.ob) (M := 20000) (loose := K28.loose) (d := HandSHeadRun.topDef (OpenLaw.row PySem.Challenge.rw_toldstarts_k28_whole_states_folded).prog 135) (kwd := []) K28.ob_eq
    (by kernel_rfl) (fun s => by kernel_rfl) K28.run (by kernel_rfl) (by kernel_rfl) (by kernel_rfl) (by rfl) (by first | assumption | decide +kernel) (by decide +kernel) ⟨rfl, rfl, rfl, rfl, rfl, by decide +kernel⟩ ?hw ?hc
  case hw => w_witness2
  case hc =>
    refine LamX.walk_ofTsE (l := PySem.Challenge.rw_toldstarts_k28_whole_states_folded) (n := 63) (k := 12) (x := "_law_script") (CX := fun w => L2.CX K28.Er.PRG w) rfl (by decide) (by kernel_rfl) ⟨rfl, by decide, by decide⟩ ?F (fun w H s e s' z => ?_)
    · intro w mg fa h Y G hmg0
      obtain ⟨K, KX, c⟩ := Y
      have hmg : mg ("law" : PySem.Str) = some (.ref fa) := by
        have e : (HandSHeadRun.topDef (OpenLaw.row PySem.Challenge.rw_toldstarts_k28_whole_states_folded).prog 135).name = ("law" : PySem.Str) := by kernel_rfl
        rw [← e]
        exact hmg0
      exact ⟨K, KX, K28.law_at KX c G hmg⟩
    · obtain ⟨a, B, H', cls, dd, ea, fl, hok, ub, na, os, ag, z⟩ := z
      exact z
