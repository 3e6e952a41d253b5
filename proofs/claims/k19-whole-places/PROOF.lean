import PyProof.Rows.All
import Wide.All
import OpenK.AllK
import Wide.FinOn
import KE.KStateDown
import HandS.ForMost
import HandS.More
import HandS.WordsExc
import HandS.Defaults
import HandS.Codes
import HandS.Head0
import HandS.Head1
import HandS.Head2
import HandS.HeadEnd
import HandS.HeadHook1
import HandS.HeadHook2
import HandS.Walk
import HandS.Evl
import HandS.Star
import HandS.Style
import HandS.Conv
import HandS.IsInst
import HandS.Wide
import HandS.Deep
import KE.KDictZip
import KE.KItemsList
import HandS.ListItems
import HandS.SetFor
import HandS.Strs
import HandS.SortRule
import PySem.Challenge.RW_keeprests_k19_whole_places_moved_and_mir
set_option Elab.async false
set_option linter.all false
set_option maxRecDepth 100000
set_option maxHeartbeats 4000000
section
/-! W0: the defs of the linked text by their places, what the top leaves of them. -/
namespace Kr
open PySem L2
def top (i : Nat) : Stmt := PySem.Challenge.pw_keeprests_k19_whole_places_moved_and_mir.main.body.getD i (.Pass ⟨0, 0, 0, 0⟩)
abbrev s_is_integer : Stmt := top 14
abbrev s_is_told : Stmt := top 15
abbrev s_is_item : Stmt := top 16
abbrev s_is_book : Stmt := top 17
abbrev s_need_book : Stmt := top 18
abbrev s_need_modulus : Stmt := top 19
abbrev s_divisor_of : Stmt := top 20
abbrev s_multiple_of : Stmt := top 21
abbrev s_divides : Stmt := top 22
abbrev s_do_fit : Stmt := top 23
abbrev s_conflicts_in : Stmt := top 24
abbrev s_conflict_in : Stmt := top 25
abbrev s_need_fitting : Stmt := top 26
abbrev s_need_possible : Stmt := top 27
abbrev s_conflict_of : Stmt := top 28
abbrev s_all_conflicts : Stmt := top 29
abbrev s_inverse_of : Stmt := top 31
abbrev s_met : Stmt := top 32
abbrev s_class_by : Stmt := top 33
abbrev s_class_at : Stmt := top 34
abbrev s_can_have : Stmt := top 35
abbrev s_far_in : Stmt := top 36
abbrev s_need_sure : Stmt := top 37
abbrev s_reason_for : Stmt := top 38
abbrev s_are_indices : Stmt := top 39
abbrev s_shows_reason : Stmt := top 40
abbrev s_need_places : Stmt := top 44
abbrev s_need_open : Stmt := top 45
abbrev s_steps_in : Stmt := top 46
abbrev s_size_in : Stmt := top 47
abbrev s_count_in : Stmt := top 48
abbrev s_need_size : Stmt := top 49
abbrev s_step_list : Stmt := top 50
abbrev s_common_size : Stmt := top 51
abbrev s_count_fillings : Stmt := top 52
abbrev s_nth_filling : Stmt := top 53
abbrev s_index_in : Stmt := top 54
abbrev s_filling_index : Stmt := top 55
abbrev s_vectors_in : Stmt := top 56
abbrev s_summed : Stmt := top 57
abbrev s_need_weights : Stmt := top 58
abbrev s_sure_sum : Stmt := top 59
abbrev s_need_asked : Stmt := top 64
abbrev s_prime_powers : Stmt := top 65
abbrev s_lacking_in : Stmt := top 66
abbrev s_most_lacking : Stmt := top 67
abbrev s_first_lacking : Stmt := top 68
abbrev s_sure_table : Stmt := top 69
abbrev s_fewest_more : Stmt := top 70
abbrev s_questions : Stmt := top 71
abbrev s_are_questions : Stmt := top 72
abbrev s_shows_questions : Stmt := top 73
abbrev s__law_purse : Stmt := top 75
abbrev s__law_toss : Stmt := top 76
abbrev s__law_divisor : Stmt := top 77
abbrev s__law_multiple : Stmt := top 78
abbrev s__law_row : Stmt := top 79
abbrev s__law_at : Stmt := top 80
abbrev s__law_spots : Stmt := top 81
abbrev s__law_book : Stmt := top 82
abbrev s__law_bent : Stmt := top 83
abbrev s__law_steps : Stmt := top 84
abbrev s__law_new : Stmt := top 85
abbrev s__law_moved : Stmt := top 86
abbrev s__law_conflicts_right : Stmt := top 87
abbrev s__law_right : Stmt := top 88
abbrev s__law_values_right : Stmt := top 89
abbrev s_law : Stmt := top 90
def d_is_integer : He.DefD := ⟨("is_integer", none), "is_integer", "is_integer", defArgs s_is_integer, defBody s_is_integer, defScope s_is_integer, [], []⟩
def d_is_told : He.DefD := ⟨("is_told", none), "is_told", "is_told", defArgs s_is_told, defBody s_is_told, defScope s_is_told, [], []⟩
def d_is_item : He.DefD := ⟨("is_item", none), "is_item", "is_item", defArgs s_is_item, defBody s_is_item, defScope s_is_item, [], []⟩
def d_is_book : He.DefD := ⟨("is_book", none), "is_book", "is_book", defArgs s_is_book, defBody s_is_book, defScope s_is_book, [], []⟩
def d_need_book : He.DefD := ⟨("need_book", none), "need_book", "need_book", defArgs s_need_book, defBody s_need_book, defScope s_need_book, [], []⟩
def d_need_modulus : He.DefD := ⟨("need_modulus", none), "need_modulus", "need_modulus", defArgs s_need_modulus, defBody s_need_modulus, defScope s_need_modulus, [.non], []⟩
def d_divisor_of : He.DefD := ⟨("divisor_of", none), "divisor_of", "divisor_of", defArgs s_divisor_of, defBody s_divisor_of, defScope s_divisor_of, [], []⟩
def d_multiple_of : He.DefD := ⟨("multiple_of", none), "multiple_of", "multiple_of", defArgs s_multiple_of, defBody s_multiple_of, defScope s_multiple_of, [], []⟩
def d_divides : He.DefD := ⟨("divides", none), "divides", "divides", defArgs s_divides, defBody s_divides, defScope s_divides, [], []⟩
def d_do_fit : He.DefD := ⟨("do_fit", none), "do_fit", "do_fit", defArgs s_do_fit, defBody s_do_fit, defScope s_do_fit, [], []⟩
def d_conflicts_in : He.DefD := ⟨("conflicts_in", none), "conflicts_in", "conflicts_in", defArgs s_conflicts_in, defBody s_conflicts_in, defScope s_conflicts_in, [], []⟩
def d_conflict_in : He.DefD := ⟨("conflict_in", none), "conflict_in", "conflict_in", defArgs s_conflict_in, defBody s_conflict_in, defScope s_conflict_in, [], []⟩
def d_need_fitting : He.DefD := ⟨("need_fitting", none), "need_fitting", "need_fitting", defArgs s_need_fitting, defBody s_need_fitting, defScope s_need_fitting, [], []⟩
def d_need_possible : He.DefD := ⟨("need_possible", none), "need_possible", "need_possible", defArgs s_need_possible, defBody s_need_possible, defScope s_need_possible, [], []⟩
def d_conflict_of : He.DefD := ⟨("conflict_of", none), "conflict_of", "conflict_of", defArgs s_conflict_of, defBody s_conflict_of, defScope s_conflict_of, [], []⟩
def d_all_conflicts : He.DefD := ⟨("all_conflicts", none), "all_conflicts", "all_conflicts", defArgs s_all_conflicts, defBody s_all_conflicts, defScope s_all_conflicts, [], []⟩
def d_inverse_of : He.DefD := ⟨("inverse_of", none), "inverse_of", "inverse_of", defArgs s_inverse_of, defBody s_inverse_of, defScope s_inverse_of, [], []⟩
def d_met : He.DefD := ⟨("met", none), "met", "met", defArgs s_met, defBody s_met, defScope s_met, [], []⟩
def d_class_by : He.DefD := ⟨("class_by", none), "class_by", "class_by", defArgs s_class_by, defBody s_class_by, defScope s_class_by, [], []⟩
def d_class_at : He.DefD := ⟨("class_at", none), "class_at", "class_at", defArgs s_class_at, defBody s_class_at, defScope s_class_at, [], []⟩
def d_can_have : He.DefD := ⟨("can_have", none), "can_have", "can_have", defArgs s_can_have, defBody s_can_have, defScope s_can_have, [], []⟩
def d_far_in : He.DefD := ⟨("far_in", none), "far_in", "far_in", defArgs s_far_in, defBody s_far_in, defScope s_far_in, [], []⟩
def d_need_sure : He.DefD := ⟨("need_sure", none), "need_sure", "need_sure", defArgs s_need_sure, defBody s_need_sure, defScope s_need_sure, [], []⟩
def d_reason_for : He.DefD := ⟨("reason_for", none), "reason_for", "reason_for", defArgs s_reason_for, defBody s_reason_for, defScope s_reason_for, [], []⟩
def d_are_indices : He.DefD := ⟨("are_indices", none), "are_indices", "are_indices", defArgs s_are_indices, defBody s_are_indices, defScope s_are_indices, [], []⟩
def d_shows_reason : He.DefD := ⟨("shows_reason", none), "shows_reason", "shows_reason", defArgs s_shows_reason, defBody s_shows_reason, defScope s_shows_reason, [], []⟩
def d_need_places : He.DefD := ⟨("need_places", none), "need_places", "need_places", defArgs s_need_places, defBody s_need_places, defScope s_need_places, [], []⟩
def d_need_open : He.DefD := ⟨("need_open", none), "need_open", "need_open", defArgs s_need_open, defBody s_need_open, defScope s_need_open, [], []⟩
def d_steps_in : He.DefD := ⟨("steps_in", none), "steps_in", "steps_in", defArgs s_steps_in, defBody s_steps_in, defScope s_steps_in, [], []⟩
def d_size_in : He.DefD := ⟨("size_in", none), "size_in", "size_in", defArgs s_size_in, defBody s_size_in, defScope s_size_in, [], []⟩
def d_count_in : He.DefD := ⟨("count_in", none), "count_in", "count_in", defArgs s_count_in, defBody s_count_in, defScope s_count_in, [], []⟩
def d_need_size : He.DefD := ⟨("need_size", none), "need_size", "need_size", defArgs s_need_size, defBody s_need_size, defScope s_need_size, [], []⟩
def d_step_list : He.DefD := ⟨("step_list", none), "step_list", "step_list", defArgs s_step_list, defBody s_step_list, defScope s_step_list, [], []⟩
def d_common_size : He.DefD := ⟨("common_size", none), "common_size", "common_size", defArgs s_common_size, defBody s_common_size, defScope s_common_size, [], []⟩
def d_count_fillings : He.DefD := ⟨("count_fillings", none), "count_fillings", "count_fillings", defArgs s_count_fillings, defBody s_count_fillings, defScope s_count_fillings, [], []⟩
def d_nth_filling : He.DefD := ⟨("nth_filling", none), "nth_filling", "nth_filling", defArgs s_nth_filling, defBody s_nth_filling, defScope s_nth_filling, [], []⟩
def d_index_in : He.DefD := ⟨("index_in", none), "index_in", "index_in", defArgs s_index_in, defBody s_index_in, defScope s_index_in, [], []⟩
def d_filling_index : He.DefD := ⟨("filling_index", none), "filling_index", "filling_index", defArgs s_filling_index, defBody s_filling_index, defScope s_filling_index, [], []⟩
def d_vectors_in : He.DefD := ⟨("vectors_in", none), "vectors_in", "vectors_in", defArgs s_vectors_in, defBody s_vectors_in, defScope s_vectors_in, [], []⟩
def d_summed : He.DefD := ⟨("summed", none), "summed", "summed", defArgs s_summed, defBody s_summed, defScope s_summed, [], []⟩
def d_need_weights : He.DefD := ⟨("need_weights", none), "need_weights", "need_weights", defArgs s_need_weights, defBody s_need_weights, defScope s_need_weights, [], []⟩
def d_sure_sum : He.DefD := ⟨("sure_sum", none), "sure_sum", "sure_sum", defArgs s_sure_sum, defBody s_sure_sum, defScope s_sure_sum, [], []⟩
def d_need_asked : He.DefD := ⟨("need_asked", none), "need_asked", "need_asked", defArgs s_need_asked, defBody s_need_asked, defScope s_need_asked, [.int 1000000], []⟩
def d_prime_powers : He.DefD := ⟨("prime_powers", none), "prime_powers", "prime_powers", defArgs s_prime_powers, defBody s_prime_powers, defScope s_prime_powers, [], []⟩
def d_lacking_in : He.DefD := ⟨("lacking_in", none), "lacking_in", "lacking_in", defArgs s_lacking_in, defBody s_lacking_in, defScope s_lacking_in, [], []⟩
def d_most_lacking : He.DefD := ⟨("most_lacking", none), "most_lacking", "most_lacking", defArgs s_most_lacking, defBody s_most_lacking, defScope s_most_lacking, [], []⟩
def d_first_lacking : He.DefD := ⟨("first_lacking", none), "first_lacking", "first_lacking", defArgs s_first_lacking, defBody s_first_lacking, defScope s_first_lacking, [], []⟩
def d_sure_table : He.DefD := ⟨("sure_table", none), "sure_table", "sure_table", defArgs s_sure_table, defBody s_sure_table, defScope s_sure_table, [], []⟩
def d_fewest_more : He.DefD := ⟨("fewest_more", none), "fewest_more", "fewest_more", defArgs s_fewest_more, defBody s_fewest_more, defScope s_fewest_more, [], []⟩
def d_questions : He.DefD := ⟨("questions", none), "questions", "questions", defArgs s_questions, defBody s_questions, defScope s_questions, [], []⟩
def d_are_questions : He.DefD := ⟨("are_questions", none), "are_questions", "are_questions", defArgs s_are_questions, defBody s_are_questions, defScope s_are_questions, [], []⟩
def d_shows_questions : He.DefD := ⟨("shows_questions", none), "shows_questions", "shows_questions", defArgs s_shows_questions, defBody s_shows_questions, defScope s_shows_questions, [], []⟩
def d__law_purse : He.DefD := ⟨("_law_purse", none), "_law_purse", "_law_purse", defArgs s__law_purse, defBody s__law_purse, defScope s__law_purse, [], []⟩
def d__law_toss : He.DefD := ⟨("_law_toss", none), "_law_toss", "_law_toss", defArgs s__law_toss, defBody s__law_toss, defScope s__law_toss, [], []⟩
def d__law_divisor : He.DefD := ⟨("_law_divisor", none), "_law_divisor", "_law_divisor", defArgs s__law_divisor, defBody s__law_divisor, defScope s__law_divisor, [], []⟩
def d__law_multiple : He.DefD := ⟨("_law_multiple", none), "_law_multiple", "_law_multiple", defArgs s__law_multiple, defBody s__law_multiple, defScope s__law_multiple, [], []⟩
def d__law_row : He.DefD := ⟨("_law_row", none), "_law_row", "_law_row", defArgs s__law_row, defBody s__law_row, defScope s__law_row, [], []⟩
def d__law_at : He.DefD := ⟨("_law_at", none), "_law_at", "_law_at", defArgs s__law_at, defBody s__law_at, defScope s__law_at, [], []⟩
def d__law_spots : He.DefD := ⟨("_law_spots", none), "_law_spots", "_law_spots", defArgs s__law_spots, defBody s__law_spots, defScope s__law_spots, [], []⟩
def d__law_book : He.DefD := ⟨("_law_book", none), "_law_book", "_law_book", defArgs s__law_book, defBody s__law_book, defScope s__law_book, [], []⟩
def d__law_bent : He.DefD := ⟨("_law_bent", none), "_law_bent", "_law_bent", defArgs s__law_bent, defBody s__law_bent, defScope s__law_bent, [], []⟩
def d__law_steps : He.DefD := ⟨("_law_steps", none), "_law_steps", "_law_steps", defArgs s__law_steps, defBody s__law_steps, defScope s__law_steps, [], []⟩
def d__law_new : He.DefD := ⟨("_law_new", none), "_law_new", "_law_new", defArgs s__law_new, defBody s__law_new, defScope s__law_new, [], []⟩
def d__law_moved : He.DefD := ⟨("_law_moved", none), "_law_moved", "_law_moved", defArgs s__law_moved, defBody s__law_moved, defScope s__law_moved, [], []⟩
def d__law_conflicts_right : He.DefD := ⟨("_law_conflicts_right", none), "_law_conflicts_right", "_law_conflicts_right", defArgs s__law_conflicts_right, defBody s__law_conflicts_right, defScope s__law_conflicts_right, [], []⟩
def d__law_right : He.DefD := ⟨("_law_right", none), "_law_right", "_law_right", defArgs s__law_right, defBody s__law_right, defScope s__law_right, [], []⟩
def d__law_values_right : He.DefD := ⟨("_law_values_right", none), "_law_values_right", "_law_values_right", defArgs s__law_values_right, defBody s__law_values_right, defScope s__law_values_right, [], []⟩
def d_law : He.DefD := ⟨("law", none), "law", "law", defArgs s_law, defBody s_law, defScope s_law, [], []⟩
def fn0 : List He.DefD := [d_is_integer, d_is_told, d_is_item, d_is_book, d_need_book, d_need_modulus, d_divisor_of, d_multiple_of, d_divides, d_do_fit, d_conflicts_in, d_conflict_in, d_need_fitting, d_need_possible, d_conflict_of, d_all_conflicts, d_inverse_of, d_met, d_class_by, d_class_at, d_can_have, d_far_in, d_need_sure, d_reason_for]
def fn1 : List He.DefD := [d_are_indices, d_shows_reason, d_need_places, d_need_open, d_steps_in, d_size_in, d_count_in, d_need_size, d_step_list, d_common_size, d_count_fillings, d_nth_filling, d_index_in, d_filling_index, d_vectors_in, d_summed, d_need_weights, d_sure_sum, d_need_asked, d_prime_powers, d_lacking_in, d_most_lacking, d_first_lacking, d_sure_table]
def fn2 : List He.DefD := [d_fewest_more, d_questions, d_are_questions, d_shows_questions, d__law_purse, d__law_toss, d__law_divisor, d__law_multiple, d__law_row, d__law_at, d__law_spots, d__law_book, d__law_bent, d__law_steps, d__law_new, d__law_moved, d__law_conflicts_right, d__law_right, d__law_values_right, d_law]
def fn : List He.DefD := fn0 ++ fn1 ++ fn2
def fa0 : List He.Fa := [.glo "is_integer", .glo "is_told", .glo "is_item", .glo "is_book", .glo "need_book", .glo "need_modulus", .glo "divisor_of", .glo "multiple_of", .glo "divides", .glo "do_fit", .glo "conflicts_in", .glo "conflict_in", .glo "need_fitting", .glo "need_possible", .glo "conflict_of", .glo "all_conflicts", .glo "inverse_of", .glo "met", .glo "class_by", .glo "class_at", .glo "can_have", .glo "far_in", .glo "need_sure", .glo "reason_for"]
def fa1 : List He.Fa := [.glo "are_indices", .glo "shows_reason", .glo "need_places", .glo "need_open", .glo "steps_in", .glo "size_in", .glo "count_in", .glo "need_size", .glo "step_list", .glo "common_size", .glo "count_fillings", .glo "nth_filling", .glo "index_in", .glo "filling_index", .glo "vectors_in", .glo "summed", .glo "need_weights", .glo "sure_sum", .glo "need_asked", .glo "prime_powers", .glo "lacking_in", .glo "most_lacking", .glo "first_lacking", .glo "sure_table"]
def fa2 : List He.Fa := [.glo "fewest_more", .glo "questions", .glo "are_questions", .glo "shows_questions", .glo "_law_purse", .glo "_law_toss", .glo "_law_divisor", .glo "_law_multiple", .glo "_law_row", .glo "_law_at", .glo "_law_spots", .glo "_law_book", .glo "_law_bent", .glo "_law_steps", .glo "_law_new", .glo "_law_moved", .glo "_law_conflicts_right", .glo "_law_right", .glo "_law_values_right", .glo "law"]
def faB : List He.Fa := [.free "len", .free "abs", .free "all", .free "isinstance", .free "range", .free "enumerate", .free "zip", .free "list", .free "set", .free "sorted", .free "max", .free "min", .free "sum", .free "int", .free "bool", .free "tuple"]
def faC : List He.Fa := [.int "MOST_ITEMS" 24, .int "MOST" 1000000000000000000000000000000, .int "MOST_PLACES" 8, .int "MOST_ROUNDS" 1000000000000000000000000000000, .int "MOST_MODULUS" 1000000, .int "MOST_TABLE" 60, .int "MOST_QUESTIONS" 200]
def fa : List He.Fa := fa0 ++ fa1 ++ fa2 ++ faB ++ faC
def nm0 : List PySem.Str := ["RestError", "InvalidBook", "InvalidPlaces", "InvalidWeights", "InvalidValues", "InvalidModulus", "InvalidNumber", "InvalidIndex", "TooLarge", "Unfit", "MOST_ITEMS", "MOST", "is_integer", "is_told", "is_item", "is_book", "need_book", "need_modulus", "divisor_of", "multiple_of", "divides", "do_fit", "conflicts_in", "conflict_in"]
def nm1 : List PySem.Str := ["need_fitting", "need_possible", "conflict_of", "all_conflicts", "inverse_of", "met", "class_by", "class_at", "can_have", "far_in", "need_sure", "reason_for", "are_indices", "shows_reason", "MOST_PLACES", "MOST_ROUNDS", "need_places", "need_open", "steps_in", "size_in", "count_in", "need_size", "step_list", "common_size"]
def nm2 : List PySem.Str := ["count_fillings", "nth_filling", "index_in", "filling_index", "vectors_in", "summed", "need_weights", "sure_sum", "MOST_MODULUS", "MOST_TABLE", "MOST_QUESTIONS", "need_asked", "prime_powers", "lacking_in", "most_lacking", "first_lacking", "sure_table", "fewest_more", "questions", "are_questions", "shows_questions", "_law_purse", "_law_toss", "_law_divisor"]
def nm3 : List PySem.Str := ["_law_multiple", "_law_row", "_law_at", "_law_spots", "_law_book", "_law_bent", "_law_steps", "_law_new", "_law_moved", "_law_conflicts_right", "_law_right", "_law_values_right"]
def nm : List PySem.Str := nm0 ++ nm1 ++ nm2 ++ nm3
/-- what every def leans on: the facts of the head -/
structure Txt (K : PySem.W.Frag) (mg : Str → Option Value) : Prop where
  c : He.SaysD fa fn K
  ex : ∃ h : Heap, K.In h ∧ h.Ns mainGlobals mg
section
variable {K : PySem.W.Frag} {mg : Str → Option Value} (T : Txt K mg)
include T
theorem Txt.glo (i : Nat) {x : Str} (e : fa[i]? = some (.glo x) := by rfl) : mg x = some (.ref (He.ga K x)) := by
  obtain ⟨h, X, G⟩ := T.ex
  exact He.glo_ok X G (T.c.fact i e)
theorem Txt.fre (i : Nat) {x : Str} (e : fa[i]? = some (.free x) := by rfl) : mg x = none := by
  obtain ⟨h, X, G⟩ := T.ex
  exact He.free_ok X G (T.c.fact i e)
theorem Txt.cst (i : Nat) {x : Str} {k : Int} (e : fa[i]? = some (.int x k) := by rfl) : ∃ t, mg x = some (.int k t) := by
  obtain ⟨h, X, G⟩ := T.ex
  exact He.int_ok X G (T.c.fact i e)
theorem free_len : mg "len" = none := T.fre 68
theorem free_abs : mg "abs" = none := T.fre 69
theorem free_all : mg "all" = none := T.fre 70
theorem free_isinstance : mg "isinstance" = none := T.fre 71
theorem free_range : mg "range" = none := T.fre 72
theorem free_enumerate : mg "enumerate" = none := T.fre 73
theorem free_zip : mg "zip" = none := T.fre 74
theorem free_list : mg "list" = none := T.fre 75
theorem free_set : mg "set" = none := T.fre 76
theorem free_sorted : mg "sorted" = none := T.fre 77
theorem free_max : mg "max" = none := T.fre 78
theorem free_min : mg "min" = none := T.fre 79
theorem free_sum : mg "sum" = none := T.fre 80
theorem free_int : mg "int" = none := T.fre 81
theorem free_bool : mg "bool" = none := T.fre 82
theorem free_tuple : mg "tuple" = none := T.fre 83
theorem cst_MOST_ITEMS : ∃ t, mg "MOST_ITEMS" = some (.int 24 t) := T.cst 84
theorem cst_MOST : ∃ t, mg "MOST" = some (.int 1000000000000000000000000000000 t) := T.cst 85
theorem cst_MOST_PLACES : ∃ t, mg "MOST_PLACES" = some (.int 8 t) := T.cst 86
theorem cst_MOST_ROUNDS : ∃ t, mg "MOST_ROUNDS" = some (.int 1000000000000000000000000000000 t) := T.cst 87
theorem cst_MOST_MODULUS : ∃ t, mg "MOST_MODULUS" = some (.int 1000000 t) := T.cst 88
theorem cst_MOST_TABLE : ∃ t, mg "MOST_TABLE" = some (.int 60 t) := T.cst 89
theorem cst_MOST_QUESTIONS : ∃ t, mg "MOST_QUESTIONS" = some (.int 200 t) := T.cst 90
end
theorem bb_all : bootBuiltins "all" = some (.builtin "all") := by decide +kernel
theorem bb_range : bootBuiltins "range" = some (.type "range") := by decide +kernel
theorem bb_enumerate : bootBuiltins "enumerate" = some (.type "enumerate") := by decide +kernel
theorem bb_zip : bootBuiltins "zip" = some (.type "zip") := by decide +kernel
theorem bb_list : bootBuiltins "list" = some (.type "list") := by decide +kernel
theorem bb_set : bootBuiltins "set" = some (.type "set") := by decide +kernel
theorem bb_sorted : bootBuiltins "sorted" = some (.builtin "sorted") := by decide +kernel
theorem bb_max : bootBuiltins "max" = some (.builtin "max") := by decide +kernel
theorem bb_min : bootBuiltins "min" = some (.builtin "min") := by decide +kernel
theorem bb_sum : bootBuiltins "sum" = some (.builtin "sum") := by decide +kernel
theorem bb_int : bootBuiltins "int" = some (.type "int") := by decide +kernel
theorem bb_bool : bootBuiltins "bool" = some (.type "bool") := by decide +kernel
theorem bb_tuple : bootBuiltins "tuple" = some (.type "tuple") := by decide +kernel
theorem bb_abs : bootBuiltins "abs" = some (.builtin "abs") := by decide +kernel
theorem bb_len : bootBuiltins "len" = some (.builtin "len") := by decide +kernel
theorem bb_isinstance : bootBuiltins "isinstance" = some (.builtin "isinstance") := by decide +kernel
end Kr
end
section
set_option maxHeartbeats 0
/-! E2: the head's run. -/
namespace Kr
open PySem
/-- the row that the law is -/
abbrev Rw : PySem.W.OpenRow := PySem.W.OpenLaw.row PySem.Challenge.rw_keeprests_k19_whole_places_moved_and_mir
/-- what of the top is held: the law's def -/
abbrev Vw : Program := PySem.W.view Rw.prog [90]
abbrev Hk : PySem.W.Hook := He.hookD 2 fa fn
def seenBy (t : PySem.W.SharedT) : He.AlD := He.obsDG 2 fa fn (HandSHeadRun.getT t)
theorem seenBy_eq (t : PySem.W.SharedT) : seenBy t = Hk.obs t.abs := He.obsDG_eq (HandSHeadRun.getT_eq t)
theorem ran (w : World) : HandSHeadRun.RunEq Rw Vw Hk seenBy 20000 nm w := by
  intro os
  kernel_rfl
end Kr
end
section
set_option maxHeartbeats 2000000
/-! K0: data at heaps, footprints, the judgements Ep (an expression gives a datum), Et (a test), Sx (a statement over an environment of data). -/
namespace Kr
open PySem L2
open Evl (Ex)
abbrev D := PyData

/-! ### a datum at a heap -/
mutual
inductive Rp (W : Hp) : V → D → Prop
  | non : Rp W .non .none
  | bl (b : Bool) : Rp W (.bl b) (.bool b)
  | int (i : Int) : Rp W (.int i) (.int i)
  | lst {a : Addr} {xs : List V} {ds : List D} : W a = some (.lst xs) → Rps W xs ds → Rp W (.ref a) (.list ds)
  | tup {a : Addr} {xs : List V} {ds : List D} : W a = some (.tup xs) → Rps W xs ds → Rp W (.ref a) (.tuple ds)
inductive Rps (W : Hp) : List V → List D → Prop
  | nil : Rps W [] []
  | cons {v : V} {vs : List V} {d : D} {ds : List D} : Rp W v d → Rps W vs ds → Rps W (v :: vs) (d :: ds)
end

section
variable {W W' : Hp} {K : PySem.W.Frag}
mutual
theorem Rp.up (e : Ex W W') : ∀ {v : V} {d : D}, Rp W v d → Rp W' v d
  | _, _, .non => .non
  | _, _, .bl b => .bl b
  | _, _, .int i => .int i
  | _, _, .lst h a => .lst (e _ _ h) (Rps.up e a)
  | _, _, .tup h a => .tup (e _ _ h) (Rps.up e a)
theorem Rps.up (e : Ex W W') : ∀ {vs : List V} {ds : List D}, Rps W vs ds → Rps W' vs ds
  | _, _, .nil => .nil
  | _, _, .cons h a => .cons (Rp.up e h) (Rps.up e a)
end
mutual
theorem Rp.dp : ∀ {v : V} {d : D}, Rp W v d → Dp K W v d
  | _, _, .non => .non
  | _, _, .bl b => .bl b
  | _, _, .int i => .int i
  | _, _, .lst h a => .lst (SqL.of h) (Rps.dp a)
  | _, _, .tup h a => .tup (SqT.of h) (Rps.dp a)
theorem Rps.dp : ∀ {vs : List V} {ds : List D}, Rps W vs ds → DpAll K W vs ds
  | _, _, .nil => .nil
  | _, _, .cons h a => .cons (Rp.dp h) (Rps.dp a)
end
theorem Rps.length : ∀ {vs : List V} {ds : List D}, Rps W vs ds → vs.length = ds.length
  | _, _, .nil => rfl
  | _, _, .cons _ a => congrArg Nat.succ (Rps.length a)
theorem Rps.get : ∀ {vs : List V} {ds : List D} {i : Nat} {d : D}, Rps W vs ds → ds[i]? = some d → ∃ v, vs[i]? = some v ∧ Rp W v d
  | _, _, _, _, .nil, e => by simp at e
  | _, _, 0, _, .cons h _, e => by simp at e; subst e; exact ⟨_, rfl, h⟩
  | _, _, i + 1, d, .cons _ a, e => by
    obtain ⟨v, h1, h2⟩ := Rps.get (i := i) (d := d) a (by simpa using e)
    exact ⟨v, by simpa using h1, h2⟩
theorem Rps.getV : ∀ {vs : List V} {ds : List D} {i : Nat} {v : V}, Rps W vs ds → vs[i]? = some v → ∃ d, ds[i]? = some d ∧ Rp W v d
  | _, _, _, _, .nil, e => by simp at e
  | _, _, 0, _, .cons h _, e => by simp at e; subst e; exact ⟨_, rfl, h⟩
  | _, _, i + 1, v, .cons _ a, e => by
    obtain ⟨d, h1, h2⟩ := Rps.getV (i := i) (v := v) a (by simpa using e)
    exact ⟨d, by simpa using h1, h2⟩
theorem Rps.app : ∀ {vs ws : List V} {ds es : List D}, Rps W vs ds → Rps W ws es → Rps W (vs ++ ws) (ds ++ es)
  | _, _, _, _, .nil, b => b
  | _, _, _, _, .cons h a, b => .cons h (Rps.app a b)
theorem Rps.tk : ∀ {vs : List V} {ds : List D} (n : Nat), Rps W vs ds → Rps W (vs.take n) (ds.take n)
  | _, _, 0, _ => by simpa using Rps.nil
  | _, _, n + 1, .nil => by simpa using Rps.nil
  | _, _, n + 1, .cons h a => .cons h (Rps.tk n a)
theorem Rps.dr : ∀ {vs : List V} {ds : List D} (n : Nat), Rps W vs ds → Rps W (vs.drop n) (ds.drop n)
  | _, _, 0, h => h
  | _, _, n + 1, .nil => by simpa using Rps.nil
  | _, _, n + 1, .cons _ a => Rps.dr n a
theorem Rps.st {d : D} {v : V} (r : Rp W v d) : ∀ {vs : List V} {ds : List D} (n : Nat), Rps W vs ds → Rps W (vs.set n v) (ds.set n d)
  | _, _, _, .nil => .nil
  | _, _, 0, .cons _ a => .cons r a
  | _, _, n + 1, .cons h a => .cons h (Rps.st r n a)
theorem Rps.rv : ∀ {vs : List V} {ds : List D}, Rps W vs ds → Rps W vs.reverse ds.reverse
  | _, _, .nil => by simpa using Rps.nil
  | _, _, .cons h a => by
    rw [List.reverse_cons, List.reverse_cons]
    exact (Rps.rv a).app (.cons h .nil)
/-- a list of ints stands as ints -/
theorem Rps.ints : ∀ {vs : List V} {ns : List Int}, Rps W vs (ns.map PyData.int) → vs = ns.map V.int
  | _, [], .nil => rfl
  | _, n :: ns, h => by
    cases h with
    | cons h a =>
      cases h
      rw [Rps.ints (ns := ns) a]
      rfl
theorem Rps.ofInts : ∀ (ns : List Int), Rps W (ns.map V.int) (ns.map PyData.int)
  | [] => .nil
  | n :: ns => .cons (.int n) (Rps.ofInts ns)
theorem Rps.bools : ∀ {vs : List V} {ns : List Bool}, Rps W vs (ns.map PyData.bool) → vs = ns.map V.bl
  | _, [], .nil => rfl
  | _, n :: ns, h => by
    cases h with
    | cons h a =>
      cases h
      rw [Rps.bools (ns := ns) a]
      rfl
end

/-- a datum without parts -/
def scl : D → Bool
  | .none => true
  | .bool _ => true
  | .int _ => true
  | _ => false
theorem Rp.scl {W W' : Hp} {v : V} {d : D} (h : Rp W v d) (s : scl d = true) : Rp W' v d := by
  cases h with
  | non => exact .non
  | bl b => exact .bl b
  | int i => exact .int i
  | lst => cases s
  | tup => cases s
theorem Rps.scl {W W' : Hp} : ∀ {vs : List V} {ds : List D}, Rps W vs ds → ds.all Kr.scl = true → Rps W' vs ds
  | _, _, .nil, _ => .nil
  | _, _, .cons h a, s => by
    simp only [List.all_cons, Bool.and_eq_true] at s
    exact .cons (h.scl s.1) (Rps.scl a s.2)

/-! ### what is known of the way from one heap to a later one: pu the purse, W what is leant on -/
structure Mv (pu : Option Addr) (W H W' H' : Hp) : Prop where
  ww : Ex W W'
  sub : Ex W' H'
  keep : ∀ a o, H a = some o → pu ≠ some a → H' a = some o
  new : ∀ a, W a = none → H a ≠ none → W' a = none
theorem Mv.rfl' {pu : Option Addr} {W H : Hp} (e : Ex W H) : Mv pu W H W H := ⟨Ex.refl W, e, fun _ _ h _ => h, fun _ h _ => h⟩
theorem Mv.trans {pu : Option Addr} {W H W1 H1 W2 H2 : Hp} (a : Mv pu W H W1 H1) (b : Mv pu W1 H1 W2 H2) (hp : ∀ p, pu = some p → H p ≠ none → H1 p ≠ none) : Mv pu W H W2 H2 :=
  ⟨a.ww.trans b.ww, b.sub, fun x o h n => b.keep x o (a.keep x o h n) n, fun x h n => b.new x (a.new x h n) (by
    by_cases e : pu = some x
    · exact hp x e n
    · cases q : H x with
      | none => exact absurd q n
      | some o => rw [a.keep x o q e]; exact fun z => nomatch z)⟩
theorem Mv.trans0 {W H W1 H1 W2 H2 : Hp} (a : Mv none W H W1 H1) (b : Mv none W1 H1 W2 H2) : Mv none W H W2 H2 := a.trans b fun _ e => nomatch e
theorem Mv.ex {W H W' H' : Hp} (m : Mv none W H W' H') : Ex H H' := fun a o h => m.keep a o h (fun e => nomatch e)
theorem Mv.any {pu : Option Addr} {W H W' H' : Hp} (m : Mv none W H W' H') : Mv pu W H W' H' := ⟨m.ww, m.sub, fun a o h _ => m.keep a o h (fun e => nomatch e), m.new⟩
/-- a new object, leant on from then on -/
theorem Mv.laid {W H : Hp} (e : Ex W H) {p : Addr} {o : HO} (hp : H p = none) : Mv none W H (upd W p o) (upd H p o) :=
  ⟨fun a u h => by rw [upd_ne (ne_of_none (e a u h) hp)]; exact h,
   fun a u h => by
     by_cases q : a = p
     · subst q; rw [upd_same] at h ⊢; exact h
     · rw [upd_ne q] at h ⊢; exact e a u h,
   fun a u h _ => by rw [upd_ne (ne_of_none h hp)]; exact h,
   fun a h n => by
     have q : a ≠ p := fun z => n (z ▸ hp)
     rw [upd_ne q]; exact h⟩
/-- a new object, not leant on -/
theorem Mv.fresh {W H : Hp} (e : Ex W H) {p : Addr} {o : HO} (hp : H p = none) : Mv none W H W (upd H p o) :=
  ⟨Ex.refl W, fun a u h => by rw [upd_ne (ne_of_none (e a u h) hp)]; exact e a u h,
   fun a u h _ => by rw [upd_ne (ne_of_none h hp)]; exact h, fun _ h _ => h⟩
/-- the way, leaning on what was leant on before alone -/
theorem Mv.back {W H W' H' : Hp} (m : Mv none W H W' H') : Mv none W H W H' := ⟨Ex.refl W, m.ww.trans m.sub, m.keep, fun _ h _ => h⟩

/-- the purse: three ints, of which the third counts to n -/
def Pu (pu : Option Addr) (n : Nat) (W H : Hp) : Prop :=
  ∀ p, pu = some p → W p = none ∧ ∃ a b c : Int, H p = some (.lst [.int a, .int b, .int c]) ∧ 0 ≤ b ∧ b < 10 ^ 44 ∧ 0 ≤ c ∧ c ≤ n
theorem Pu.mv {pu : Option Addr} {n : Nat} {W H W' H' : Hp} (h : Pu pu n W H) (m : Mv none W H W' H') : Pu pu n W' H' := fun p e => by
  obtain ⟨w, a, b, c, h1, r⟩ := h p e
  exact ⟨m.new p w (by rw [h1]; exact fun z => nomatch z), a, b, c, m.ex p _ h1, r⟩
theorem Pu.more {pu : Option Addr} {n m : Nat} {W H : Hp} (h : Pu pu n W H) (l : n ≤ m) : Pu pu m W H := fun p e => by
  obtain ⟨w, a, b, c, h1, r1, r2, r3, r4⟩ := h p e
  exact ⟨w, a, b, c, h1, r1, r2, r3, by omega⟩
theorem Pu.there {pu : Option Addr} {n : Nat} {W H : Hp} (h : Pu pu n W H) : ∀ p, pu = some p → H p ≠ none := fun p e => by
  obtain ⟨_, _, _, _, h1, _⟩ := h p e
  rw [h1]
  exact fun z => nomatch z

/-! ### an environment: what each slot holds -/
/-- fro: a datum that stands still; own: a list that none else knows; pur: the purse; cst: just this -/
inductive B where
  | fro (d : D) | own (xs : List D) | pur | cst (v : V)
abbrev Gm := List (Option B)
def Bd (pu : Option Addr) (H0 W H : Hp) : B → V → Prop
  | .fro d, v => Rp W v d
  | .own xs, v => ∃ p vs, v = .ref p ∧ H p = some (.lst vs) ∧ W p = none ∧ H0 p = none ∧ pu ≠ some p ∧ Rps W vs xs
  | .pur, v => ∃ p, pu = some p ∧ v = .ref p
  | .cst u, v => v = u
structure S0 (pu : Option Addr) (W0 H0 : Hp) (G : Gm) (n : Nat) (σ : St) (W H : Hp) : Prop where
  mv : Mv pu W0 H0 W H
  pn : Pu pu n W H
  bd : ∀ (i : Nat) (b : B), G[i]? = some (some b) → ∃ v, σ[i]? = some (some v) ∧ Bd pu H0 W H b v
  sep : ∀ (i j : Nat) (xs ys : List D) (p : Addr), i ≠ j → G[i]? = some (some (.own xs)) → G[j]? = some (some (.own ys)) → σ[i]? = some (some (.ref p)) → σ[j]? ≠ some (some (.ref p))
  len : σ.length = G.length
section
variable {pu : Option Addr} {W0 H0 W H W' H' : Hp} {G : Gm} {n m : Nat} {σ : St}
theorem S0.step (S : S0 pu W0 H0 G n σ W H) (v : Mv pu W H W' H') (p : Pu pu m W' H') : S0 pu W0 H0 G m σ W' H' where
  mv := S.mv.trans v fun q e _ => S.pn.there q e
  pn := p
  bd := fun i b e => by
    obtain ⟨x, h1, h2⟩ := S.bd i b e
    refine ⟨x, h1, ?_⟩
    cases b with
    | fro d => exact Rp.up v.ww h2
    | pur => exact h2
    | cst u => exact h2
    | own xs =>
      obtain ⟨q, vs, e1, e2, e3, e4, e5, e6⟩ := h2
      exact ⟨q, vs, e1, v.keep q _ e2 e5, v.new q e3 (by rw [e2]; exact fun z => nomatch z), e4, e5, Rps.up v.ww e6⟩
  sep := S.sep
  len := S.len
theorem S0.go (S : S0 pu W0 H0 G n σ W H) (v : Mv none W H W' H') : S0 pu W0 H0 G n σ W' H' := S.step v.any (S.pn.mv v)
theorem S0.sub (S : S0 pu W0 H0 G n σ W H) : Ex W H := S.mv.sub
/-- a slot stored with a datum that stands still -/
theorem S0.put {i : Nat} {v : V} {d : D} (S : S0 pu W0 H0 G n σ W H) (r : Rp W v d) : S0 pu W0 H0 (G.set i (some (.fro d))) n (σ.set i (some v)) W H where
  mv := S.mv
  pn := S.pn
  bd := fun j b e => by
    by_cases q : i = j
    · subst q
      by_cases l : i < G.length
      · rw [List.getElem?_set_self l] at e
        cases e
        exact ⟨v, by rw [List.getElem?_set_self (by rw [S.len]; exact l)], r⟩
      · rw [List.getElem?_eq_none (by simpa using l)] at e
        cases e
    · rw [List.getElem?_set_ne q] at e
      obtain ⟨x, h1, h2⟩ := S.bd j b e
      exact ⟨x, by rw [List.getElem?_set_ne q]; exact h1, h2⟩
  sep := fun j k xs ys p ne e1 e2 e3 e4 => by
    by_cases q : i = j
    · subst q
      by_cases l : i < G.length
      · rw [List.getElem?_set_self l] at e1; cases e1
      · rw [List.getElem?_eq_none (by simpa using l)] at e1; cases e1
    · by_cases q2 : i = k
      · subst q2
        by_cases l : i < G.length
        · rw [List.getElem?_set_self l] at e2; cases e2
        · rw [List.getElem?_eq_none (by simpa using l)] at e2; cases e2
      · rw [List.getElem?_set_ne q] at e1 e3
        rw [List.getElem?_set_ne q2] at e2 e4
        exact S.sep j k xs ys p ne e1 e2 e3 e4
  len := by rw [List.length_set, List.length_set]; exact S.len
/-- a slot forgotten -/
theorem S0.drop {i : Nat} (S : S0 pu W0 H0 G n σ W H) (x : Option V) : S0 pu W0 H0 (G.set i none) n (σ.set i x) W H where
  mv := S.mv
  pn := S.pn
  bd := fun j b e => by
    by_cases q : i = j
    · subst q
      by_cases l : i < G.length
      · rw [List.getElem?_set_self l] at e; cases e
      · rw [List.getElem?_eq_none (by simpa using l)] at e; cases e
    · rw [List.getElem?_set_ne q] at e
      obtain ⟨x, h1, h2⟩ := S.bd j b e
      exact ⟨x, by rw [List.getElem?_set_ne q]; exact h1, h2⟩
  sep := fun j k xs ys p ne e1 e2 e3 e4 => by
    by_cases q : i = j
    · subst q
      by_cases l : i < G.length
      · rw [List.getElem?_set_self l] at e1; cases e1
      · rw [List.getElem?_eq_none (by simpa using l)] at e1; cases e1
    · by_cases q2 : i = k
      · subst q2
        by_cases l : i < G.length
        · rw [List.getElem?_set_self l] at e2; cases e2
        · rw [List.getElem?_eq_none (by simpa using l)] at e2; cases e2
      · rw [List.getElem?_set_ne q] at e1 e3
        rw [List.getElem?_set_ne q2] at e2 e4
        exact S.sep j k xs ys p ne e1 e2 e3 e4
  len := by rw [List.length_set, List.length_set]; exact S.len
/-- a slot stored with a new list that none else knows -/
theorem S0.putO {i : Nat} {p : Addr} {vs : List V} {xs : List D} (S : S0 pu W0 H0 G n σ W H) (v : Mv none W H W' H') (f : H p = none) (hp : H' p = some (.lst vs)) (wp : W' p = none) (r : Rps W' vs xs) :
    S0 pu W0 H0 (G.set i (some (.own xs))) n (σ.set i (some (.ref p))) W' H' := by
  have S' := S.go v
  have h0 : H0 p = none := by
    cases q : H0 p with
    | none => rfl
    | some o =>
      by_cases z : pu = some p
      · exact absurd f (S.pn.there p z)
      · have q2 := S.mv.keep p o q z
        rw [f] at q2
        cases q2
  have np : pu ≠ some p := fun z => S.pn.there p z f
  have other : ∀ (j : Nat) (ys : List D), G[j]? = some (some (.own ys)) → σ[j]? ≠ some (some (.ref p)) := fun j ys e1 e2 => by
    obtain ⟨x, h1, q, ws, e3, e4, _⟩ := S.bd j _ e1
    rw [h1] at e2
    cases e2
    cases e3
    rw [f] at e4
    cases e4
  refine ⟨S'.mv, S'.pn, fun j b e => ?_, fun j k xs ys q ne e1 e2 e3 e4 => ?_, by rw [List.length_set, List.length_set]; exact S.len⟩
  · by_cases q : i = j
    · subst q
      by_cases l : i < G.length
      · rw [List.getElem?_set_self l] at e
        cases e
        exact ⟨.ref p, by rw [List.getElem?_set_self (by rw [S.len]; exact l)], p, vs, rfl, hp, wp, h0, np, r⟩
      · rw [List.getElem?_eq_none (by simpa using l)] at e
        cases e
    · rw [List.getElem?_set_ne q] at e
      obtain ⟨x, h1, h2⟩ := S'.bd j b e
      exact ⟨x, by rw [List.getElem?_set_ne q]; exact h1, h2⟩
  · by_cases q1 : i = j
    · subst q1
      have l : i < G.length := by
        have := (List.getElem?_eq_some_iff.mp e1).1
        simpa using this
      rw [List.getElem?_set_self (by rw [S.len]; exact l)] at e3
      cases e3
      rw [List.getElem?_set_ne ne] at e2 e4
      exact other k ys e2 e4
    · rw [List.getElem?_set_ne q1] at e1 e3
      by_cases q2 : i = k
      · subst q2
        have l : i < G.length := by
          have := (List.getElem?_eq_some_iff.mp e2).1
          simpa using this
        rw [List.getElem?_set_self (by rw [S.len]; exact l)] at e4
        cases e4
        exact other j xs e1 e3
      · rw [List.getElem?_set_ne q2] at e2 e4
        exact S.sep j k xs ys q ne e1 e2 e3 e4
/-- a list that none else knows, changed -/
theorem S0.own {i : Nat} {xs ys : List D} {p : Addr} {ws : List V} (S : S0 pu W0 H0 G n σ W H) (e : G[i]? = some (some (.own xs))) (ep : σ[i]? = some (some (.ref p))) (r : Rps W ws ys) :
    S0 pu W0 H0 (G.set i (some (.own ys))) n σ W (upd H p (.lst ws)) := by
  obtain ⟨x, h1, q, vs, e1, e2, e3, e4, e5, e6⟩ := S.bd i _ e
  rw [ep] at h1
  cases h1
  cases e1
  have il : i < G.length := (List.getElem?_eq_some_iff.mp e).1
  refine ⟨⟨S.mv.ww, fun a o h => ?_, fun a o h z => ?_, S.mv.new⟩, fun a z => ?_, fun j b ej => ?_, fun j k as bs a ne k1 k2 k3 k4 => ?_, by rw [List.length_set]; exact S.len⟩
  · rw [upd_ne (fun z => by subst z; rw [e3] at h; cases h)]
    exact S.mv.sub a o h
  · rw [upd_ne (fun z => by subst z; rw [e4] at h; cases h)]
    exact S.mv.keep a o h z
  · obtain ⟨w, a', b', c', g, r'⟩ := S.pn a z
    exact ⟨w, a', b', c', by rw [upd_ne (show a ≠ p from fun y => e5 (y ▸ z))]; exact g, r'⟩
  · by_cases q1 : i = j
    · subst q1
      rw [List.getElem?_set_self il] at ej
      cases ej
      exact ⟨_, ep, p, ws, rfl, upd_same, e3, e4, e5, r⟩
    · rw [List.getElem?_set_ne q1] at ej
      obtain ⟨x, h1, h2⟩ := S.bd j b ej
      refine ⟨x, h1, ?_⟩
      cases b with
      | fro d => exact h2
      | pur => exact h2
      | cst u => exact h2
      | own zs =>
        obtain ⟨a, us, f1, f2, f3, f4, f5, f6⟩ := h2
        have ne : a ≠ p := fun z => by
          subst z
          subst f1
          exact S.sep i j xs zs a q1 e ej ep h1
        exact ⟨a, us, f1, by rw [upd_ne ne]; exact f2, f3, f4, f5, f6⟩
  · have g : ∀ (l : Nat) (cs : List D), (G.set i (some (.own ys)))[l]? = some (some (.own cs)) → ∃ cs', G[l]? = some (some (.own cs')) := fun l cs el => by
      by_cases q1 : i = l
      · subst q1; exact ⟨xs, e⟩
      · rw [List.getElem?_set_ne q1] at el; exact ⟨cs, el⟩
    obtain ⟨as', k1⟩ := g j as k1
    obtain ⟨bs', k2⟩ := g k bs k2
    exact S.sep j k as' bs' a ne k1 k2 k3 k4
end

/-! ### all lists that none else knows stand still from here -/
def fz : B → B
  | .own xs => .fro (.list xs)
  | b => b
def frz (G : Gm) : Gm := G.map fun o => o.map fz
theorem frz_get {G : Gm} {i : Nat} {b : B} (e : (frz G)[i]? = some (some b)) : ∃ c, G[i]? = some (some c) ∧ b = fz c := by
  unfold frz at e
  rw [List.getElem?_map] at e
  cases q : G[i]? with
  | none => rw [q] at e; cases e
  | some o =>
    rw [q] at e
    cases o with
    | none => simp at e
    | some c => simp at e; exact ⟨c, rfl, e.symm⟩
open Classical in
noncomputable def frW (G : Gm) (σ : St) (W H : Hp) : Hp := fun a => match W a with
  | some o => some o
  | none => if ∃ (i : Nat) (xs : List D), G[i]? = some (some (B.own xs)) ∧ σ[i]? = some (some (.ref a)) then H a else none
section
variable {pu : Option Addr} {W0 H0 W H : Hp} {G : Gm} {n : Nat} {σ : St}
theorem frW_some {a : Addr} {o : HO} (h : W a = some o) : frW G σ W H a = some o := by
  unfold frW; rw [h]
theorem frW_own {a : Addr} {i : Nat} {xs : List D} (h : W a = none) (e : G[i]? = some (some (.own xs))) (e2 : σ[i]? = some (some (.ref a))) : frW G σ W H a = H a := by
  unfold frW; rw [h]; exact if_pos ⟨i, xs, e, e2⟩
theorem frW_none {a : Addr} (h : W a = none) (e : ¬ ∃ (i : Nat) (xs : List D), G[i]? = some (some (B.own xs)) ∧ σ[i]? = some (some (.ref a))) : frW G σ W H a = none := by
  unfold frW; rw [h]; exact if_neg e
theorem S0.frz (S : S0 pu W0 H0 G n σ W H) : ∃ W', Ex W W' ∧ S0 pu W0 H0 (frz G) n σ W' H := by
  have ww : Ex W (frW G σ W H) := fun a o h => frW_some h
  refine ⟨frW G σ W H, ww, ⟨⟨S.mv.ww.trans ww, fun a o h => ?_, S.mv.keep, fun a h z => ?_⟩, fun p e => ?_, fun i b e => ?_, fun i j xs ys p _ e1 _ _ _ => ?_, ?_⟩⟩
  · cases q : W a with
    | some u =>
      rw [frW_some q] at h
      cases h
      exact S.mv.sub a _ q
    | none =>
      by_cases c : ∃ (i : Nat) (xs : List D), G[i]? = some (some (B.own xs)) ∧ σ[i]? = some (some (.ref a))
      · obtain ⟨i, xs, c1, c2⟩ := c
        rw [frW_own q c1 c2] at h
        exact h
      · rw [frW_none q c] at h
        cases h
  · refine frW_none (S.mv.new a h z) fun ⟨i, xs, c1, c2⟩ => ?_
    obtain ⟨x, h1, q, vs, e1, e2, e3, e4, _⟩ := S.bd i _ c1
    rw [c2] at h1
    cases h1
    cases e1
    exact z e4
  · obtain ⟨w, r⟩ := S.pn p e
    refine ⟨frW_none w fun ⟨i, xs, c1, c2⟩ => ?_, r⟩
    obtain ⟨x, h1, q, vs, e1, e2, e3, e4, e5, _⟩ := S.bd i _ c1
    rw [c2] at h1
    cases h1
    cases e1
    exact e5 e
  · obtain ⟨c, e1, rfl⟩ := frz_get e
    obtain ⟨x, h1, h2⟩ := S.bd i c e1
    refine ⟨x, h1, ?_⟩
    cases c with
    | fro d => exact Rp.up ww h2
    | pur => exact h2
    | cst u => exact h2
    | own xs =>
      obtain ⟨p, vs, f1, f2, f3, f4, f5, f6⟩ := h2
      subst f1
      exact .lst (by rw [frW_own f3 e1 h1]; exact f2) (Rps.up ww f6)
  · obtain ⟨c, e1, q⟩ := frz_get e1
    cases c <;> cases q
  · rw [S.len]; unfold Kr.frz; rw [List.length_map]
end
end Kr
end
section
set_option maxHeartbeats 2000000
/-! K1: the rules of the judgements. -/
namespace Kr
open PySem L2
open Evl (Ex)

/-- an expression gives d; a new list of xs; a test; arguments; a slice's part; what a loop walks -/
def Ep (te : TE) (G : Gm) (d : D) : Prop := ∀ pu W0 H0 n σ W H, S0 pu W0 H0 G n σ W H → ∀ Q : VK, (∀ v W' H', Mv none W H W' H' → Rp W' v d → Q v H') → te σ H Q
def En (te : TE) (G : Gm) (xs : List D) : Prop := ∀ pu W0 H0 n σ W H, S0 pu W0 H0 G n σ W H → ∀ Q : VK,
  (∀ p vs W' H', Mv none W H W' H' → H p = none → H' p = some (.lst vs) → W' p = none → Rps W' vs xs → Q (.ref p) H') → te σ H Q
def Et (tt : TT) (G : Gm) (b : Bool) : Prop := ∀ pu W0 H0 n σ W H, S0 pu W0 H0 G n σ W H → ∀ Q : Bool → Hp → Prop, (∀ W' H', Mv none W H W' H' → Q b H') → tt σ H Q
def Ea (ta : TA) (G : Gm) (ds : List D) : Prop := ∀ pu W0 H0 n σ W H, S0 pu W0 H0 G n σ W H → ∀ Q : List V → Hp → Prop, (∀ vs W' H', Mv none W H W' H' → Rps W' vs ds → Q vs H') → ta σ H Q
def Eo (to : TO) (G : Gm) (o : Option Int) : Prop := ∀ pu W0 H0 n σ W H, S0 pu W0 H0 G n σ W H → ∀ Q : Option Int → Hp → Prop, (∀ W' H', Mv none W H W' H' → Q o H') → to σ H Q
def OpD (r : R2) (d1 d2 d3 : D) : Prop := ∀ (W H : Hp) (x y : V), Ex W H → Rp W x d1 → Rp W y d2 → ∀ Q : VK, (∀ v W' H', Mv none W H W' H' → Rp W' v d3 → Q v H') → r x y H Q
def OpN (r : R2) (d1 d2 : D) (xs : List D) : Prop := ∀ (W H : Hp) (x y : V), Ex W H → Rp W x d1 → Rp W y d2 → ∀ Q : VK,
  (∀ p vs W' H', Mv none W H W' H' → H p = none → H' p = some (.lst vs) → W' p = none → Rps W' vs xs → Q (.ref p) H') → r x y H Q
def UnD (r : V → Hp → VK → Prop) (d1 d2 : D) : Prop := ∀ (W H : Hp) (x : V), Ex W H → Rp W x d1 → ∀ Q : VK, (∀ v W' H', Mv none W H W' H' → Rp W' v d2 → Q v H') → r x H Q
def CbD (r : List V → Hp → VK → Prop) (ds : List D) (d : D) : Prop := ∀ (W H : Hp) (vs : List V), Ex W H → Rps W vs ds → ∀ Q : VK, (∀ v W' H', Mv none W H W' H' → Rp W' v d → Q v H') → r vs H Q
def CbN (r : List V → Hp → VK → Prop) (ds : List D) (xs : List D) : Prop := ∀ (W H : Hp) (vs : List V), Ex W H → Rps W vs ds → ∀ Q : VK,
  (∀ p us W' H', Mv none W H W' H' → H p = none → H' p = some (.lst us) → W' p = none → Rps W' us xs → Q (.ref p) H') → r vs H Q

section
variable {te ta tb tc : TE} {tt tu : TT} {tr : TA} {G : Gm} {d d1 d2 d3 : D} {ds xs ys : List D} {a b : Bool} {r r' : R2} {K : PySem.W.Frag}
theorem mvN {W H W' H' : Hp} {p : Addr} {vs : List V} (m : Mv none W H W' H') (f : H p = none) (hp : H' p = some (.lst vs)) (wp : W' p = none) : Mv none W H (upd W' p (.lst vs)) H' :=
  ⟨fun x o h => by
     have h2 := m.ww x o h
     rw [upd_ne (ne_of_none h2 wp)]; exact h2,
   fun x o h => by
     by_cases q : x = p
     · subst q; rw [upd_same] at h; cases h; exact hp
     · rw [upd_ne q] at h; exact m.sub x o h,
   m.keep, fun x h z => by
     have q : x ≠ p := fun e => z (e ▸ f)
     rw [upd_ne q]; exact m.new x h z⟩
theorem rpN {W' : Hp} {p : Addr} {vs : List V} (wp : W' p = none) (h : Rps W' vs xs) : Rp (upd W' p (.lst vs)) (.ref p) (.list xs) :=
  .lst upd_same (Rps.up (fun x o e => by rw [upd_ne (ne_of_none e wp)]; exact e) h)
theorem ep_new (h : En te G xs) : Ep te G (.list xs) := fun pu W0 H0 n σ W H S Q q => h pu W0 H0 n σ W H S Q fun p vs W' H' m f hp wp rs => q _ _ _ (mvN m f hp wp) (rpN wp rs)
theorem ep_fz (h : Ep te (frz G) d) (s : scl d = true) : Ep te G d := fun pu W0 H0 n σ W H S Q q => by
  obtain ⟨W1, e, S1⟩ := S.frz
  exact h pu W0 H0 n σ W1 H S1 Q fun v W' H' m rv => q v W H' ⟨Ex.refl W, (e.trans m.ww).trans m.sub, m.keep, fun _ z _ => z⟩ (rv.scl s)
theorem et_fz (h : Et tt (frz G) b) : Et tt G b := fun pu W0 H0 n σ W H S Q q => by
  obtain ⟨W1, e, S1⟩ := S.frz
  exact h pu W0 H0 n σ W1 H S1 Q fun W' H' m => q W H' ⟨Ex.refl W, (e.trans m.ww).trans m.sub, m.keep, fun _ z _ => z⟩
theorem ep_var {i : Nat} (h : G[i]? = some (some (.fro d))) : Ep (tVar i) G d := fun pu W0 H0 n σ W H S Q q => by
  obtain ⟨v, h1, h2⟩ := S.bd i _ h
  exact ⟨v, h1, q v W H (Mv.rfl' S.sub) h2⟩
theorem ep_int {i : Int} : Ep (tC (.int i)) G (.int i) := fun pu W0 H0 n σ W H S Q q => q _ W H (Mv.rfl' S.sub) (.int i)
theorem ep_bl {i : Bool} : Ep (tC (.bl i)) G (.bool i) := fun pu W0 H0 n σ W H S Q q => q _ W H (Mv.rfl' S.sub) (.bl i)
theorem ep_non : Ep (tC .non) G .none := fun pu W0 H0 n σ W H S Q q => q _ W H (Mv.rfl' S.sub) .non
theorem ep_op (ha : Ep ta G d1) (hb : Ep tb G d2) (hr : OpD r d1 d2 d3) : Ep (tOp r ta tb) G d3 := fun pu W0 H0 n σ W H S Q q =>
  ha _ _ _ _ _ _ _ S _ fun x W1 H1 m1 r1 => hb _ _ _ _ _ _ _ (S.go m1) _ fun y W2 H2 m2 r2 =>
    hr W2 H2 x y m2.sub (r1.up m2.ww) r2 Q fun v W3 H3 m3 r3 => q v W3 H3 ((m1.trans0 m2).trans0 m3) r3
theorem en_op (ha : Ep ta G d1) (hb : Ep tb G d2) (hr : OpN r d1 d2 xs) : En (tOp r ta tb) G xs := fun pu W0 H0 n σ W H S Q q =>
  ha _ _ _ _ _ _ _ S _ fun x W1 H1 m1 r1 => hb _ _ _ _ _ _ _ (S.go m1) _ fun y W2 H2 m2 r2 =>
    hr W2 H2 x y m2.sub (r1.up m2.ww) r2 Q fun p vs W3 H3 m3 f => q p vs W3 H3 ((m1.trans0 m2).trans0 m3) (by
      cases z : H p with
      | none => rfl
      | some o => rw [(m1.trans0 m2).ex p o z] at f; cases f)
theorem ep_un {r : V → Hp → VK → Prop} (ha : Ep ta G d1) (hr : UnD r d1 d2) : Ep (tUn r ta) G d2 := fun pu W0 H0 n σ W H S Q q =>
  ha _ _ _ _ _ _ _ S _ fun x W1 H1 m1 r1 => hr W1 H1 x m1.sub r1 Q fun v W3 H3 m3 r3 => q v W3 H3 (m1.trans0 m3) r3
theorem ep_if (h : Et tt G b) (h1 : b = true → Ep ta G d1) (h2 : b = false → Ep tb G d2) : Ep (tIf tt ta tb) G (if b = true then d1 else d2) := fun pu W0 H0 n σ W H S Q q =>
  h _ _ _ _ _ _ _ S _ fun W1 H1 m1 => by
    cases b with
    | true => exact h1 rfl _ _ _ _ _ _ _ (S.go m1) Q fun v W2 H2 m2 => q v W2 H2 (m1.trans0 m2)
    | false => exact h2 rfl _ _ _ _ _ _ _ (S.go m1) Q fun v W2 H2 m2 => q v W2 H2 (m1.trans0 m2)
theorem ep_andV (h1 : Ep ta G (.bool a)) (h2 : a = true → Ep tb G (.bool b)) : Ep (tAndV ta tb) G (.bool (a && b)) := fun pu W0 H0 n σ W H S Q q =>
  h1 _ _ _ _ _ _ _ S _ fun x W1 H1 m1 r1 => by
    cases r1
    refine ⟨a, rfl, ?_⟩
    cases a with
    | true => exact h2 rfl _ _ _ _ _ _ _ (S.go m1) Q fun v W2 H2 m2 => q v W2 H2 (m1.trans0 m2)
    | false => exact q _ W1 H1 m1 (.bl false)
theorem ep_orV (h1 : Ep ta G (.bool a)) (h2 : a = false → Ep tb G (.bool b)) : Ep (tOrV ta tb) G (.bool (a || b)) := fun pu W0 H0 n σ W H S Q q =>
  h1 _ _ _ _ _ _ _ S _ fun x W1 H1 m1 r1 => by
    cases r1
    refine ⟨a, rfl, ?_⟩
    cases a with
    | true => exact q _ W1 H1 m1 (.bl true)
    | false => exact h2 rfl _ _ _ _ _ _ _ (S.go m1) Q fun v W2 H2 m2 => q v W2 H2 (m1.trans0 m2)
theorem ep_notV (h1 : Ep ta G (.bool a)) : Ep (tNotV ta) G (.bool (!a)) := fun pu W0 H0 n σ W H S Q q =>
  h1 _ _ _ _ _ _ _ S _ fun x W1 H1 m1 r1 => by
    cases r1
    exact ⟨a, rfl, q _ W1 H1 m1 (.bl _)⟩
theorem et_test (h : Ep te G (.bool b)) : Et (tTest te) G b := fun pu W0 H0 n σ W H S Q q =>
  h _ _ _ _ _ _ _ S _ fun x W1 H1 m1 r1 => by
    cases r1
    exact ⟨b, rfl, q _ _ m1⟩
theorem et_B (h : Ep te G (.bool b)) : Et (tB te) G b := et_test h
theorem et_and (h1 : Et tt G a) (h2 : a = true → Et tu G b) : Et (tAnd tt tu) G (a && b) := fun pu W0 H0 n σ W H S Q q =>
  h1 _ _ _ _ _ _ _ S _ fun W1 H1 m1 => by
    cases a with
    | true => exact h2 rfl _ _ _ _ _ _ _ (S.go m1) Q fun W2 H2 m2 => q W2 H2 (m1.trans0 m2)
    | false => exact q _ _ m1
theorem et_or (h1 : Et tt G a) (h2 : a = false → Et tu G b) : Et (tOr tt tu) G (a || b) := fun pu W0 H0 n σ W H S Q q =>
  h1 _ _ _ _ _ _ _ S _ fun W1 H1 m1 => by
    cases a with
    | true => exact q _ _ m1
    | false => exact h2 rfl _ _ _ _ _ _ _ (S.go m1) Q fun W2 H2 m2 => q W2 H2 (m1.trans0 m2)
theorem et_not (h1 : Et tt G a) : Et (tNot tt) G (!a) := fun pu W0 H0 n σ W H S Q q => h1 _ _ _ _ _ _ _ S _ fun W1 H1 m1 => q _ _ m1
theorem et_yes : Et tYes G true := fun pu W0 H0 n σ W H S Q q => q _ _ (Mv.rfl' S.sub)
theorem ep_chain (ha : Ep ta G d1) (hb : Ep tb G d2) (hr : OpD r d1 d2 (.bool a)) (hc : a = true → Ep tc G d3) (hr' : a = true → OpD r' d2 d3 (.bool b)) : Ep (tChain r r' ta tb tc) G (.bool (a && b)) := fun pu W0 H0 n σ W H S Q q =>
  ha _ _ _ _ _ _ _ S _ fun x W1 H1 m1 r1 => hb _ _ _ _ _ _ _ (S.go m1) _ fun y W2 H2 m2 r2 =>
    hr W2 H2 x y m2.sub (r1.up m2.ww) r2 _ fun v W3 H3 m3 r3 => by
      cases r3
      refine ⟨a, rfl, ?_⟩
      have m := (m1.trans0 m2).trans0 m3
      cases a with
      | true => exact hc rfl _ _ _ _ _ _ _ (S.go m) _ fun z W4 H4 m4 r4 => hr' rfl W4 H4 y z m4.sub ((r2.up m3.ww).up m4.ww) r4 Q fun v W5 H5 m5 => q v W5 H5 ((m.trans0 m4).trans0 m5)
      | false => exact q _ _ _ m (.bl false)
theorem ea_nil : Ea tNil G [] := fun pu W0 H0 n σ W H S Q q => q _ W H (Mv.rfl' S.sub) .nil
theorem ea_cons (ha : Ep ta G d) (hr : Ea tr G ds) : Ea (tCons ta tr) G (d :: ds) := fun pu W0 H0 n σ W H S Q q =>
  ha _ _ _ _ _ _ _ S _ fun x W1 H1 m1 r1 => hr _ _ _ _ _ _ _ (S.go m1) _ fun ys W2 H2 m2 r2 => q _ W2 H2 (m1.trans0 m2) (.cons (r1.up m2.ww) r2)
theorem ea_star (ha : Ep ta G (.list xs)) (hr : Ea tr G ds) : Ea (StX.tStar K ta tr) G (xs ++ ds) := fun pu W0 H0 n σ W H S Q q =>
  ha _ _ _ _ _ _ _ S _ fun x W1 H1 m1 r1 => by
    cases r1 with
    | lst h1 h2 =>
      refine ⟨_, _, rfl, .inr (SqL.of (m1.sub _ _ h1)), ?_⟩
      exact hr _ _ _ _ _ _ _ (S.go m1) _ fun ys W2 H2 m2 r2 => q _ W2 H2 (m1.trans0 m2) ((h2.up m2.ww).app r2)
theorem small {n : Nat} (h : n ≤ 100000) : n ≤ sizeLine := Nat.le_trans h (by decide)
theorem freshB {H H' : Hp} {p : Addr} (e : Ex H H') (h : H' p = none) : H p = none := by
  cases z : H p with
  | none => rfl
  | some o => rw [e p o z] at h; cases h
theorem ep_tup (ha : Ea tr G ds) (hl : ds.length ≤ 100000) : Ep (tTup tr) G (.tuple ds) := fun pu W0 H0 n σ W H S Q q =>
  ha _ _ _ _ _ _ _ S _ fun vs W1 H1 m1 r1 => ⟨by rw [r1.length]; exact small hl, fun p hp => q _ _ _ (m1.trans0 (Mv.laid m1.sub hp)) (.tup upd_same (r1.up (Mv.laid (o := .tup vs) m1.sub hp).ww))⟩
theorem en_lst (ha : Ea tr G ds) (hl : ds.length ≤ 100000) : En (tLst tr) G ds := fun pu W0 H0 n σ W H S Q q =>
  ha _ _ _ _ _ _ _ S _ fun vs W1 H1 m1 r1 => ⟨by rw [r1.length]; exact small hl, fun p hp => q p vs W1 _ (m1.trans0 (Mv.fresh m1.sub hp)) (freshB m1.ex hp) upd_same (by
    cases z : W1 p with
    | none => rfl
    | some o => rw [m1.sub p o z] at hp; cases hp) r1⟩
theorem ep_cb {r : List V → Hp → VK → Prop} (ha : Ea tr G ds) (hr : CbD r ds d) : Ep (tCB r tr) G d := fun pu W0 H0 n σ W H S Q q =>
  ha _ _ _ _ _ _ _ S _ fun vs W1 H1 m1 r1 => hr W1 H1 vs m1.sub r1 Q fun v W2 H2 m2 => q v W2 H2 (m1.trans0 m2)
theorem en_cb {r : List V → Hp → VK → Prop} (ha : Ea tr G ds) (hr : CbN r ds xs) : En (tCB r tr) G xs := fun pu W0 H0 n σ W H S Q q =>
  ha _ _ _ _ _ _ _ S _ fun vs W1 H1 m1 r1 => hr W1 H1 vs m1.sub r1 Q fun p us W2 H2 m2 f => q p us W2 H2 (m1.trans0 m2) (freshB m1.ex f)
theorem eo_no : Eo tNoPart G none := fun pu W0 H0 n σ W H S Q q => q W H (Mv.rfl' S.sub)
theorem eo_part {i : Int} (h : Ep te G (.int i)) : Eo (tPart te) G (some i) := fun pu W0 H0 n σ W H S Q q =>
  h _ _ _ _ _ _ _ S _ fun x W1 H1 m1 r1 => by
    cases r1
    exact ⟨i, rfl, q _ _ m1⟩

/-! ### operators -/
theorem wnone {W H : Hp} {p : Addr} (e : Ex W H) (h : H p = none) : W p = none := freshB e h
theorem od_i {f : Int → Int → Int} {i j : Int} : OpD (rI0 fun i j => .int (f i j)) (.int i) (.int j) (.int (f i j)) := fun W H x y e rx ry Q q => by
  cases rx; cases ry
  exact ⟨i, j, rfl, rfl, q _ W H (Mv.rfl' e) (.int _)⟩
theorem od_b {f : Int → Int → Bool} {i j : Int} : OpD (rI0 fun i j => .bl (f i j)) (.int i) (.int j) (.bool (f i j)) := fun W H x y e rx ry Q q => by
  cases rx; cases ry
  exact ⟨i, j, rfl, rfl, q _ W H (Mv.rfl' e) (.bl _)⟩
theorem od_c {C : Int → Int → Prop} {f : Int → Int → Int} {i j : Int} (c : C i j) : OpD (rI C fun i j => .int (f i j)) (.int i) (.int j) (.int (f i j)) := fun W H x y e rx ry Q q => by
  cases rx; cases ry
  exact ⟨i, j, rfl, rfl, c, q _ W H (Mv.rfl' e) (.int _)⟩
theorem od_eqI {i j : Int} : OpD rEq (.int i) (.int j) (.bool (decide (i = j))) := fun W H x y e rx ry Q q => by
  cases rx; cases ry
  refine ⟨rfl, ?_⟩
  have z : decide (V.int i = V.int j) = decide (i = j) := by rw [dec_int, Bool.beq_eq_decide_eq]
  rw [z]
  exact q _ W H (Mv.rfl' e) (.bl _)
theorem od_neI {i j : Int} : OpD rNe (.int i) (.int j) (.bool (!decide (i = j))) := fun W H x y e rx ry Q q => by
  cases rx; cases ry
  refine ⟨rfl, ?_⟩
  have z : decide (V.int i = V.int j) = decide (i = j) := by rw [dec_int, Bool.beq_eq_decide_eq]
  rw [z]
  exact q _ W H (Mv.rfl' e) (.bl _)
theorem od_eqD {d e : D} (h1 : SeqAt.shaped d = true) (h2 : SeqAt.shaped e = true) : OpD (rEqD K) d e (.bool (PyData.eqv d e)) := fun W H x y ex rx ry Q q =>
  ⟨d, e, (rx.up ex).dp, (ry.up ex).dp, h1, h2, q _ W H (Mv.rfl' ex) (.bl _)⟩
theorem od_neD {d e : D} (h1 : SeqAt.shaped d = true) (h2 : SeqAt.shaped e = true) : OpD (rNeD K) d e (.bool (!PyData.eqv d e)) := fun W H x y ex rx ry Q q =>
  ⟨d, e, (rx.up ex).dp, (ry.up ex).dp, h1, h2, q _ W H (Mv.rfl' ex) (.bl _)⟩
theorem od_isN {d : D} : OpD (fun x y H Q => y = V.non ∧ Q (.bl (decide (x = .non))) H) d .none (.bool (match d with | .none => true | _ => false)) := fun W H x y e rx ry Q q => by
  cases ry
  refine ⟨rfl, ?_⟩
  cases rx <;> exact q _ W H (Mv.rfl' e) (.bl _)
theorem od_notN {d : D} : OpD (fun x y H Q => y = V.non ∧ Q (.bl (!decide (x = .non))) H) d .none (.bool (match d with | .none => false | _ => true)) := fun W H x y e rx ry Q q => by
  cases ry
  refine ⟨rfl, ?_⟩
  cases rx <;> exact q _ W H (Mv.rfl' e) (.bl _)
theorem od_notB {a b : Bool} : OpD rNotB (.bool a) (.bool b) (.bool (!decide (a = b))) := fun W H x y e rx ry Q q => by
  cases rx; cases ry
  exact ⟨a, b, rfl, rfl, q _ W H (Mv.rfl' e) (.bl _)⟩
theorem Rps.at {W : Hp} {vs : List V} {i : Int} (h : Rps W vs ds) (e : atI ds i = some d) : ∃ v, atI vs i = some v ∧ Rp W v d := by
  unfold atI at e ⊢
  rw [h.length]
  cases q : ixN ds.length i with
  | none => rw [q] at e; cases e
  | some j =>
    rw [q] at e
    exact h.get e
theorem od_ixL {i : Int} (h : atI ds i = some d) : OpD (rIxL K) (.list ds) (.int i) d := fun W H x y e rx ry Q q => by
  cases ry
  cases rx with
  | lst h1 h2 =>
    obtain ⟨v, h3, h4⟩ := h2.at h
    exact ⟨_, _, _, v, rfl, rfl, SqL.of (e _ _ h1), h3, q v W H (Mv.rfl' e) h4⟩
theorem od_ixT {i : Int} (h : atI ds i = some d) : OpD (rIxT K) (.tuple ds) (.int i) d := fun W H x y e rx ry Q q => by
  cases ry
  cases rx with
  | tup h1 h2 =>
    obtain ⟨v, h3, h4⟩ := h2.at h
    exact ⟨_, _, _, v, rfl, rfl, SqT.of (e _ _ h1), h3, q v W H (Mv.rfl' e) h4⟩
theorem on_cat (hz : xs.length + ys.length ≤ 100000) : OpN rCat (.list xs) (.list ys) (xs ++ ys) := fun W H x y e rx ry Q q => by
  cases rx with
  | lst h1 h2 =>
    cases ry with
    | lst h3 h4 =>
      refine ⟨_, _, _, _, rfl, rfl, e _ _ h1, e _ _ h3, by rw [h2.length, h4.length]; exact small hz, fun p hp => ?_⟩
      exact q p _ W _ (Mv.fresh e hp) hp upd_same (wnone e hp) (h2.app h4)
theorem Rps.rep {W : Hp} {vs : List V} (h : Rps W vs ds) : ∀ k : Nat, Rps W (List.replicate k vs).flatten (List.replicate k ds).flatten
  | 0 => .nil
  | k + 1 => by
    rw [List.replicate_succ, List.replicate_succ, List.flatten_cons, List.flatten_cons]
    exact h.app (Rps.rep h k)
theorem on_rep {k : Nat} (hz : xs.length * k ≤ 100000) (hk : k ≤ 100000) : OpN rRep (.list xs) (.int (k : Int)) (List.replicate k xs).flatten := fun W H x y e rx ry Q q => by
  cases ry
  cases rx with
  | lst h1 h2 =>
    refine ⟨_, _, _, rfl, rfl, e _ _ h1, by omega, by omega, by rw [h2.length]; exact small (by simpa using hz), fun p hp => ?_⟩
    exact q p _ W _ (Mv.fresh e hp) hp upd_same (wnone e hp) (by simpa using h2.rep k)
theorem ud_neg {i : Int} : UnD (rU fun i => .int (-i)) (.int i) (.int (-i)) := fun W H x e rx Q q => by
  cases rx
  exact ⟨i, rfl, q _ W H (Mv.rfl' e) (.int _)⟩

/-! ### slices -/
def cutD (xs : List D) (lo hi : Option Int) : List D := (xs.drop (HT.sIx xs.length 0 lo)).take (HT.sIx xs.length xs.length hi - HT.sIx xs.length 0 lo)
theorem cut_from (xs : List D) (k : Nat) : cutD xs (some (k : Int)) none = xs.drop k := by
  unfold cutD
  rw [HT.sIx_nat, HT.sIx_none]
  by_cases h : k ≤ xs.length
  · rw [Nat.min_eq_left h, List.take_of_length_le (by rw [List.length_drop]; exact Nat.le_refl _)]
  · rw [Nat.min_eq_right (by omega), List.drop_length, List.drop_of_length_le (by omega), List.take_nil]
theorem cut_to (xs : List D) (k : Nat) : cutD xs none (some (k : Int)) = xs.take k := by
  unfold cutD
  rw [HT.sIx_nat, HT.sIx_none]
  by_cases h : k ≤ xs.length
  · rw [Nat.min_eq_left h]; rfl
  · rw [Nat.min_eq_right (by omega), List.take_of_length_le (l := xs) (by omega)]
    simp
theorem en_slice {tl th : TO} {lo hi : Option Int} (he : Ep te G (.list xs)) (hl : Eo tl G lo) (hh : Eo th G hi) : En (tSl (rSlL K) te tl th) G (cutD xs lo hi) := fun pu W0 H0 n σ W H S Q q =>
  he _ _ _ _ _ _ _ S _ fun x W1 H1 m1 r1 => hl _ _ _ _ _ _ _ (S.go m1) _ fun W2 H2 m2 => hh _ _ _ _ _ _ _ (S.go (m1.trans0 m2.back)) _ fun W3 H3 m3 => by
    have m : Mv none W H W1 H3 := (m1.trans0 m2.back).trans0 m3.back
    cases r1 with
    | lst h1 h2 =>
      refine ⟨_, _, rfl, SqL.of (m.sub _ _ h1), fun p hp => ?_⟩
      refine q p _ W1 _ (m.trans0 (Mv.fresh m.sub hp)) (freshB m.ex hp) upd_same (wnone m.sub hp) ?_
      unfold cutV cutD
      rw [h2.length]
      exact (h2.dr _).tk _
theorem en_rev (he : Ep te G (.list xs)) : En (tRevL K te) G xs.reverse := fun pu W0 H0 n σ W H S Q q =>
  he _ _ _ _ _ _ _ S _ fun x W1 H1 m1 r1 => by
    cases r1 with
    | lst h1 h2 =>
      exact ⟨_, _, rfl, SqL.of (m1.sub _ _ h1), fun p hp => q p _ W1 _ (m1.trans0 (Mv.fresh m1.sub hp)) (freshB m1.ex hp) upd_same (wnone m1.sub hp) h2.rv⟩
end

/-! ### what a loop walks -/
def Wk (J : It) (ds : List D) (W : Hp) : Prop := ∃ (Y : Nat → Hp → V → Hp → Prop) (Gd : Hp → Prop), Walk J ds.length Gd Y ∧ (∀ H, Ex W H → Gd H) ∧
  ∀ i d H x H', ds[i]? = some d → Ex W H → Y i H x H' → ∀ W1, Ex W W1 → Ex W1 H → ∃ W2, Mv none W1 H W2 H' ∧ Rp W2 x d
def Es (ti : TI) (G : Gm) (ds : List D) : Prop := ∀ pu W0 H0 n σ W H, S0 pu W0 H0 G n σ W H → ∀ R : It → Hp → Prop, (∀ J W' H', Mv none W H W' H' → Wk J ds W' → R J H') → ti σ H R
def enumD : Nat → List D → List D
  | _, [] => []
  | k, d :: r => .tuple [.int (k : Int), d] :: enumD (k + 1) r
theorem enumD_length : ∀ (k : Nat) (ds : List D), (enumD k ds).length = ds.length
  | _, [] => rfl
  | k, d :: r => congrArg Nat.succ (enumD_length (k + 1) r)
theorem enumD_get : ∀ (k : Nat) (ds : List D) (i : Nat), (enumD k ds)[i]? = ds[i]?.map fun d => .tuple [.int ((k + i : Nat) : Int), d]
  | _, [], i => by simp [enumD]
  | k, d :: r, 0 => by simp [enumD]
  | k, d :: r, i + 1 => by
    show (enumD (k + 1) r)[i]? = _
    rw [enumD_get (k + 1) r i, List.getElem?_cons_succ, show k + 1 + i = k + (i + 1) by omega]
def zipD (xs ys : List D) : List D := List.zipWith (fun a b => .tuple [a, b]) xs ys
section
variable {te tl : TE} {tr : TA} {G : Gm} {ds xs ys : List D} {K : PySem.W.Frag}
theorem es_list (h : Ep tl G (.list ds)) : Es (iList K tl) G ds := fun pu W0 H0 n σ W H S R q =>
  h _ _ _ _ _ _ _ S _ fun x W1 H1 m1 r1 => by
    cases r1 with
    | lst h1 h2 =>
      rename_i a vs
      refine ⟨a, rfl, ⟨vs, SqL.of (m1.sub _ _ h1)⟩, q _ W1 H1 m1 ⟨YAt vs, fun H => SqL K H a vs, by rw [← h2.length]; exact walk_list, fun H e => SqL.of (e _ _ h1), ?_⟩⟩
      rintro i d H x H' hd e ⟨rfl, hx⟩ W2 e2 e3
      obtain ⟨v, g1, g2⟩ := h2.get hd
      rw [hx] at g1
      cases g1
      exact ⟨W2, Mv.rfl' e3, g2.up e2⟩
theorem es_tup (h : Ep tl G (.tuple ds)) : Es (iTup K tl) G ds := fun pu W0 H0 n σ W H S R q =>
  h _ _ _ _ _ _ _ S _ fun x W1 H1 m1 r1 => by
    cases r1 with
    | tup h1 h2 =>
      rename_i a vs
      refine ⟨a, rfl, ⟨vs, SqT.of (m1.sub _ _ h1)⟩, q _ W1 H1 m1 ⟨YAt vs, fun H => SqT K H a vs, by rw [← h2.length]; exact walk_tup, fun H e => SqT.of (e _ _ h1), ?_⟩⟩
      rintro i d H x H' hd e ⟨rfl, hx⟩ W2 e2 e3
      obtain ⟨v, g1, g2⟩ := h2.get hd
      rw [hx] at g1
      cases g1
      exact ⟨W2, Mv.rfl' e3, g2.up e2⟩
def rngD (lo : Int) (n : Nat) : List D := (List.range n).map fun (i : Nat) => PyData.int (lo + (i : Int))
theorem wk_rng {lo : Int} {n : Nat} {W : Hp} : Wk (Itr lo n) (rngD lo n) W := by
  refine ⟨YFn fun i => .int (lo + i), fun _ => True, by unfold rngD; rw [List.length_map, List.length_range]; exact walk_range, fun _ _ => trivial, ?_⟩
  rintro i d H x H' hd e ⟨rfl, rfl⟩ W2 e2 e3
  unfold rngD at hd
  rw [List.getElem?_map] at hd
  have hi : i < n := by
    cases q : (List.range n)[i]? with
    | none => rw [q] at hd; cases hd
    | some j => simpa using (List.getElem?_eq_some_iff.mp q).1
  rw [List.getElem?_range hi] at hd
  cases hd
  exact ⟨W2, Mv.rfl' e3, .int _⟩
theorem es_rng1 {j : Int} (h : Ea tr G [.int j]) (h1 : -1000000 ≤ j) (h2 : j ≤ 1000000) : Es (iRng1 tr) G (rngD 0 j.toNat) := fun pu W0 H0 n σ W H S R q =>
  h _ _ _ _ _ _ _ S _ fun vs W1 H1 m1 r1 => by
    cases r1 with
    | cons a b => cases a; cases b; exact ⟨j, rfl, by omega, by omega, q _ W1 H1 m1 wk_rng⟩
theorem es_rng2 {i j : Int} (h : Ea tr G [.int i, .int j]) (h1 : -1000000 ≤ i ∧ i ≤ 1000000) (h2 : -1000000 ≤ j ∧ j ≤ 1000000) : Es (iRng2 tr) G (rngD i (j - i).toNat) := fun pu W0 H0 n σ W H S R q =>
  h _ _ _ _ _ _ _ S _ fun vs W1 H1 m1 r1 => by
    cases r1 with
    | cons a b =>
      cases a
      cases b with
      | cons a b => cases a; cases b; exact ⟨i, j, rfl, ⟨by omega, by omega, by omega, by omega⟩, q _ W1 H1 m1 wk_rng⟩
theorem es_enum (h : Ea tr G [.list ds]) : Es (iEnum K tr) G (enumD 0 ds) := fun pu W0 H0 n σ W H S R q =>
  h _ _ _ _ _ _ _ S _ fun ws W1 H1 m1 r1 => by
    cases r1 with
    | cons a b =>
      cases b
      cases a with
      | lst h1 h2 =>
        rename_i a vs
        refine ⟨a, vs, rfl, SqL.of (m1.sub _ _ h1), q _ W1 H1 m1 ⟨_, fun H => SqL K H a vs, by rw [enumD_length, ← h2.length]; exact walk_enum, fun H e => SqL.of (e _ _ h1), ?_⟩⟩
        rintro i d H x H' hd e ⟨T, u, v, rfl, hT, rfl, hu, hv⟩ W2 e2 e3
        rw [enumD_get] at hd
        cases hu
        cases g : ds[i]? with
        | none => rw [g] at hd; cases hd
        | some z =>
          rw [g] at hd
          cases hd
          obtain ⟨v', g1, g2⟩ := h2.get g
          have hv : vs[i]? = some v := hv
          rw [hv] at g1
          cases g1
          have L := Mv.laid (o := .tup [.int ((i : Nat) : Int), v]) e3 hT
          refine ⟨_, L, .tup upd_same (.cons ?_ (.cons ((g2.up e2).up L.ww) .nil))⟩
          rw [Nat.zero_add]
          exact .int _
theorem es_zip (h : Ea tr G [.list xs, .list ys]) : Es (iZip K tr) G (zipD xs ys) := fun pu W0 H0 n σ W H S R q =>
  h _ _ _ _ _ _ _ S _ fun ws W1 H1 m1 r1 => by
    cases r1 with
    | cons a b =>
      cases b with
      | cons b c =>
        cases c
        cases a with
        | lst h1 h2 =>
          cases b with
          | lst h3 h4 =>
            rename_i a vs b us
            refine ⟨a, b, vs, us, rfl, SqL.of (m1.sub _ _ h1), SqL.of (m1.sub _ _ h3), q _ W1 H1 m1 ⟨_, fun H => SqL K H a vs ∧ SqL K H b us,
              by rw [show (zipD xs ys).length = min vs.length us.length by unfold zipD; rw [List.length_zipWith, h2.length, h4.length]]; exact walk_zip rfl, fun H e => ⟨SqL.of (e _ _ h1), SqL.of (e _ _ h3)⟩, ?_⟩⟩
            rintro i d H x H' hd e ⟨T, u, v, rfl, hT, rfl, hu, hv⟩ W2 e2 e3
            unfold zipD at hd
            rw [List.getElem?_zipWith] at hd
            cases g : xs[i]? with
            | none => rw [g] at hd; cases hd
            | some z =>
              cases g' : ys[i]? with
              | none => rw [g, g'] at hd; cases hd
              | some z' =>
                rw [g, g'] at hd
                cases hd
                obtain ⟨v1, k1, k2⟩ := h2.get g
                obtain ⟨v2, k3, k4⟩ := h4.get g'
                have hu : vs[i]? = some u := hu
                have hv : us[i]? = some v := hv
                rw [hu] at k1
                rw [hv] at k3
                cases k1
                cases k3
                have L := Mv.laid (o := .tup [u, v]) e3 hT
                exact ⟨_, L, .tup upd_same (.cons ((k2.up e2).up L.ww) (.cons ((k4.up e2).up L.ww) .nil))⟩
end

/-! ### targets -/
def Stl (js : List Nat) (σ' σ : St) : Prop := σ'.length = σ.length ∧ ∀ i, i ∉ js → σ'[i]? = σ[i]?
/-- js: the slots that it stores -/
def Tg (g : TG) (d : D) (G G' : Gm) (js : List Nat) : Prop := ∀ pu W0 H0 n σ W H v, S0 pu W0 H0 G n σ W H → Rp W v d → ∀ Q : St → Hp → Prop,
  (∀ σ', S0 pu W0 H0 G' n σ' W H → Stl js σ' σ → Q σ' H) → g v σ H Q
def Tgs (g : TGs) (ds : List D) (G G' : Gm) (js : List Nat) : Prop := ∀ pu W0 H0 n σ W H vs, S0 pu W0 H0 G n σ W H → Rps W vs ds → ∀ Q : St → Hp → Prop,
  (∀ σ', S0 pu W0 H0 G' n σ' W H → Stl js σ' σ → Q σ' H) → g vs σ H Q
section
variable {G G' G'' : Gm} {d : D} {ds : List D} {K : PySem.W.Frag}
theorem tg_name {i : Nat} : Tg (gName i) d G (G.set i (some (.fro d))) [i] := fun pu W0 H0 n σ W H v S r Q q =>
  q _ (S.put r) ⟨List.length_set, fun j hj => List.getElem?_set_ne fun e => hj (by rw [e]; exact List.mem_singleton.mpr rfl)⟩
theorem tgs_nil : Tgs gNil [] G G [] := fun pu W0 H0 n σ W H v S r Q q => by
  cases r
  exact ⟨rfl, q _ S ⟨rfl, fun _ _ => rfl⟩⟩
theorem tgs_cons {t : TG} {u : TGs} {js ks : List Nat} (h1 : Tg t d G G' js) (h2 : Tgs u ds G' G'' ks) : Tgs (gCons t u) (d :: ds) G G'' (js ++ ks) := fun pu W0 H0 n σ W H v S r Q q => by
  cases r with
  | cons a b => exact ⟨_, _, rfl, h1 _ _ _ _ _ _ _ _ S a _ fun σ1 S1 e1 => h2 _ _ _ _ _ _ _ _ S1 b _ fun σ2 S2 e2 => q σ2 S2 ⟨e2.1.trans e1.1, fun i hi => by
      rw [e2.2 i fun z => hi (List.mem_append_right _ z), e1.2 i fun z => hi (List.mem_append_left _ z)]⟩⟩
theorem tg_tup {t : TGs} {js : List Nat} {k : Nat} (h : Tgs t ds G G' js) (hk : ds.length = k) : Tg (gTup K k t) (.tuple ds) G G' js := fun pu W0 H0 n σ W H v S r Q q => by
  cases r with
  | tup h1 h2 => exact ⟨_, _, rfl, SqT.of (S.sub _ _ h1), by rw [h2.length]; exact hk, h _ _ _ _ _ _ _ _ S h2 Q q⟩
theorem tg_two {i j : Nat} {a b : D} : Tg (gTup K 2 (gCons (gName i) (gCons (gName j) gNil))) (.tuple [a, b]) G ((G.set i (some (.fro a))).set j (some (.fro b))) [i, j] :=
  tg_tup (tgs_cons (js := [i]) tg_name (tgs_cons (js := [j]) tg_name tgs_nil)) rfl
theorem tg_four {i j k l : Nat} {a b c e : D} : Tg (gTup K 4 (gCons (gName i) (gCons (gName j) (gCons (gName k) (gCons (gName l) gNil))))) (.tuple [a, b, c, e]) G
    ((((G.set i (some (.fro a))).set j (some (.fro b))).set k (some (.fro c))).set l (some (.fro e))) [i, j, k, l] :=
  tg_tup (tgs_cons (js := [i]) tg_name (tgs_cons (js := [j]) tg_name (tgs_cons (js := [k]) tg_name (tgs_cons (js := [l]) tg_name tgs_nil)))) rfl
end

/-! ### comprehensions -/
def wpG (G : Gm) : List Nat → Gm
  | [] => G
  | v :: vs => (wpG G vs).set v none
section
variable {pu : Option Addr} {W0 H0 W H : Hp} {G : Gm} {n : Nat} {σ : St}
theorem S0.wp (S : S0 pu W0 H0 G n σ W H) : ∀ vs : List Nat, S0 pu W0 H0 (wpG G vs) n (wipe σ vs) W H
  | [] => S
  | v :: vs => (S.wp vs).drop none
theorem wipe_at {σ : St} {i : Nat} : ∀ {vs : List Nat}, i ∈ vs → (wipe σ vs)[i]? = if i < σ.length then some none else none
  | [], h => by simp at h
  | v :: vs, h => by
    unfold wipe
    by_cases e : v = i
    · subst e
      by_cases l : v < σ.length
      · rw [List.getElem?_set_self (by rw [wipe_length]; exact l), if_pos l]
      · rw [List.getElem?_eq_none (by rw [List.length_set, wipe_length]; omega), if_neg l]
    · rw [List.getElem?_set_ne e]
      exact wipe_at (by
        rcases List.mem_cons.mp h with z | z
        · exact absurd z.symm e
        · exact z)
theorem wipe_same {σ σ2 : St} {vs js : List Nat} (h : Stl js σ2 (wipe σ vs)) (hj : ∀ j ∈ js, j ∈ vs) : wipe σ2 vs = wipe σ vs := by
  refine List.ext_getElem? fun i => ?_
  by_cases hi : i ∈ vs
  · rw [wipe_at hi, wipe_at hi, h.1, wipe_length]
  · rw [wipe_out hi, h.2 i fun z => hi (hj i z)]
theorem en_lc {α : Type} {ti : TI} {g : TG} {tt : TT} {te : TE} {vs : List Nat} (xs : List α) (e : α → D) (f : α → Bool) (k : α → D) (hs : Es ti G (xs.map e))
    (hx : ∀ x ∈ xs, ∃ G' js, Tg g (e x) (wpG G vs) G' js ∧ (∀ j ∈ js, j ∈ vs) ∧ Et tt G' (f x) ∧ (f x = true → Ep te G' (k x))) (hz : xs.length ≤ 100000) : En (tLc ti g tt te vs) G ((xs.filter f).map k) :=
  fun pu W0 H0 n σ W H S Q q => hs _ _ _ _ _ _ _ S _ fun J W1 H1 m1 ⟨Y, Gd, wk, hG, hY⟩ => fun Dl hD => by
    have wD : W1 Dl = none := wnone m1.sub hD
    refine lc_it wk (fun i H' => ∃ W' acc, Mv none W1 H1 W' H' ∧ H' Dl = some (.lst acc) ∧ W' Dl = none ∧ Rps W' acc (((xs.take i).filter f).map k)) ⟨W1, [], Mv.fresh m1.sub hD, upd_same, wD, by rw [List.take_zero]; exact .nil⟩
      (fun i H' _ ⟨W', acc, m, _⟩ => hG H' (m.ww.trans m.sub)) ?_ ?_
    · rintro i x H' H'' hi ⟨W', acc, m, hl, hw, rs⟩ y
      rw [List.length_map] at hi
      have hxi : (xs.map e)[i]? = some (e xs[i]) := by rw [List.getElem?_map, List.getElem?_eq_getElem hi]; rfl
      obtain ⟨W2, m2, r2⟩ := hY i _ H' x H'' hxi (m.ww.trans m.sub) y W' m.ww m.sub
      obtain ⟨G', js, t, hj, h1, h2⟩ := hx xs[i] (List.getElem_mem hi)
      have S2 := ((S.go m1).go (m.trans0 m2)).wp vs
      have mm := m.trans0 m2
      have hl2 : H'' Dl = some (.lst acc) := m2.ex _ _ hl
      have hw2 : W2 Dl = none := m2.new _ hw (by rw [hl]; exact fun z => nomatch z)
      refine t _ _ _ _ _ _ _ _ S2 r2 _ fun σ2 S3 es => ⟨wipe_same es hj, h1 _ _ _ _ _ _ _ S3 _ fun _ H3 m3 => ?_⟩
      have ht : xs.take (i + 1) = xs.take i ++ [xs[i]] := by rw [List.take_succ, List.getElem?_eq_getElem hi]; rfl
      cases hf : f xs[i] with
      | true =>
        refine h2 hf _ _ _ _ _ _ _ (S3.go m3.back) _ fun v W4 H4 m4 r4 => ?_
        have M := (mm.trans0 m3.back).trans0 m4
        have hl4 : H4 Dl = some (.lst acc) := m4.ex _ _ (m3.ex _ _ hl2)
        have hw4 : W4 Dl = none := m4.new _ hw2 (by rw [m3.ex _ _ hl2]; exact fun z => nomatch z)
        refine ⟨acc, hl4, ?_, W4, acc ++ [v], ⟨M.ww, fun a o h => ?_, fun a o h z => ?_, M.new⟩, upd_same, hw4, ?_⟩
        · have l1 := rs.length
          have l2 : (((xs.take i).filter f).map k).length ≤ xs.length := by
            rw [List.length_map]
            refine Nat.le_trans (List.length_filter_le _ _) ?_
            rw [List.length_take]; omega
          have l3 : (100000 : Nat) < sizeLine := by decide
          omega
        · rw [upd_ne (ne_of_none h hw4)]; exact M.sub a o h
        · rw [upd_ne (ne_of_none h hD)]; exact M.keep a o h z
        · rw [ht, List.filter_append, List.map_append, List.filter_cons, if_pos hf]
          exact (rs.up (m2.ww.trans (m3.back.ww.trans m4.ww))).app (.cons r4 .nil)
      | false =>
        refine ⟨W2, acc, mm.trans0 m3.back, m3.ex _ _ hl2, hw2, ?_⟩
        rw [ht, List.filter_append, List.map_append, List.filter_cons, if_neg (by rw [hf]; decide)]
        simpa using rs.up m2.ww
    · rintro H' ⟨W', acc, m, hl, hw, rs⟩
      rw [List.length_map, List.take_length] at rs
      exact q Dl acc W' H' (m1.trans0 m) (freshB m1.ex hD) hl hw rs
end
end Kr
end
section
set_option maxHeartbeats 2000000
/-! K2: statements; a def's promise. -/
namespace Kr
open PySem L2
open Evl (Ex)

/-- a statement: N what may stand behind it, R what it may hand back -/
def Sx (ts : TS) (G : Gm) (n : Nat) (N : Gm → Nat → Prop) (R : D → Nat → Prop) : Prop := ∀ pu W0 H0 σ W H (E : Ends), S0 pu W0 H0 G n σ W H →
  (∀ G' n' σ' W' H', N G' n' → Ex W W' → S0 pu W0 H0 G' n' σ' W' H' → E.nx σ' H') → (∀ d n' v W' H', R d n' → Mv pu W0 H0 W' H' → Pu pu n' W' H' → Rp W' v d → E.rt v H') → ts E σ H
section
variable {te ta tb : TE} {tt : TT} {tr : TA} {ts tu tw : TS} {G G1 : Gm} {n n1 : Nat} {N M : Gm → Nat → Prop} {R : D → Nat → Prop} {d : D} {xs ds : List D} {b : Bool} {K : PySem.W.Frag} {g : TG}
theorem sx_next (h : N G n) : Sx tNext G n N R := fun pu W0 H0 σ W H E S hn hr => hn _ _ _ _ _ h (Ex.refl W) S
theorem sx_seq (h : Sx ts G n M R) (k : ∀ G' n', M G' n' → Sx tu G' n' N R) : Sx (tSeq ts tu) G n N R := fun pu W0 H0 σ W H E S hn hr =>
  h pu W0 H0 σ W H _ S (fun G' n' σ' W' H' m e S' => k G' n' m pu W0 H0 σ' W' H' E S' (fun G2 n2 σ2 W2 H2 m2 e2 => hn G2 n2 σ2 W2 H2 m2 (e.trans e2)) hr) hr
theorem sx_then (h : Sx ts G n (fun G' n' => G' = G1 ∧ n' = n1) R) (k : Sx tu G1 n1 N R) : Sx (tSeq ts tu) G n N R := sx_seq h fun G' n' ⟨e1, e2⟩ => by subst e1 e2; exact k
theorem sx_mono {N' : Gm → Nat → Prop} {R' : D → Nat → Prop} (h : Sx ts G n N R) (hn : ∀ G' n', N G' n' → N' G' n') (hr : ∀ d n', R d n' → R' d n') : Sx ts G n N' R' := fun pu W0 H0 σ W H E S a b =>
  h pu W0 H0 σ W H E S (fun G' n' σ' W' H' m => a G' n' σ' W' H' (hn _ _ m)) fun d n' v W' H' m => b d n' v W' H' (hr _ _ m)
/-- name = e: a datum that stands still -/
theorem sx_asg {i : Nat} (h : Ep te G d) (k : N (G.set i (some (.fro d))) n) : Sx (tAsg te (gName i)) G n N R := fun pu W0 H0 σ W H E S hn hr =>
  h _ _ _ _ _ _ _ S _ fun v W1 H1 m1 r1 => hn _ _ _ _ _ k m1.ww ((S.go m1).put r1)
/-- name = a new list -/
theorem sx_new {i : Nat} (h : En te G xs) (k : N (G.set i (some (.own xs))) n) : Sx (tAsg te (gName i)) G n N R := fun pu W0 H0 σ W H E S hn hr =>
  h _ _ _ _ _ _ _ S _ fun p vs W1 H1 m1 f hp wp rs => hn _ _ _ _ _ k m1.ww (S.putO m1 f hp wp rs)
/-- a target of any kind -/
theorem sx_tgt {js : List Nat} (h : Ep te G d) (t : Tg g d G G1 js) (k : N G1 n) : Sx (tAsg te g) G n N R := fun pu W0 H0 σ W H E S hn hr =>
  h _ _ _ _ _ _ _ S _ fun v W1 H1 m1 r1 => t _ _ _ _ _ _ _ _ (S.go m1) r1 _ fun σ' S' _ => hn _ _ _ _ _ k m1.ww S'
/-- a, b = a pair of plain data, the own lists read on the way -/
theorem sx_two {i j : Nat} {a c : D} (h : Ep te (frz G) (.tuple [a, c])) (sa : scl a = true) (sc : scl c = true) (k : N ((G.set i (some (.fro a))).set j (some (.fro c))) n) :
    Sx (tAsg te (gTup K 2 (gCons (gName i) (gCons (gName j) gNil)))) G n N R := fun pu W0 H0 σ W H E S hn hr => by
  obtain ⟨W1, e, S1⟩ := S.frz
  refine h _ _ _ _ _ _ _ S1 _ fun v W2 H2 m2 r2 => ?_
  have m : Mv none W H W H2 := ⟨Ex.refl W, (e.trans m2.ww).trans m2.sub, m2.keep, fun _ z _ => z⟩
  cases r2 with
  | tup h1 h2 =>
    cases h2 with
    | cons a1 h3 =>
      cases h3 with
      | cons a2 h4 =>
        cases h4
        exact ⟨_, _, rfl, SqT.of (m2.sub _ _ h1), rfl, _, _, rfl, _, _, rfl, rfl, hn _ _ _ _ _ k (Ex.refl W) (((S.go m).put (a1.scl sa)).put (a2.scl sc))⟩
theorem sx_par {i j : Nat} {a c : D} (h : Ea tr G [a, c]) (k : N ((G.set i (some (.fro a))).set j (some (.fro c))) n) : Sx (tPar i j tr) G n N R := fun pu W0 H0 σ W H E S hn hr =>
  h _ _ _ _ _ _ _ S _ fun vs W1 H1 m1 r1 => by
    cases r1 with
    | cons a1 h3 =>
      cases h3 with
      | cons a2 h4 =>
        cases h4
        exact ⟨_, _, rfl, hn _ _ _ _ _ k m1.ww (((S.go m1).put a1).put a2)⟩
/-- found, rest = [], e -/
theorem sx_parN {i j : Nat} {c : D} (h1 : En ta G xs) (h2 : Ep tb G c) (k : N ((G.set i (some (.own xs))).set j (some (.fro c))) n) : Sx (tPar i j (tCons ta (tCons tb tNil))) G n N R := fun pu W0 H0 σ W H E S hn hr =>
  h1 _ _ _ _ _ _ _ S _ fun p vs W1 H1 m1 f hp wp rs => h2 _ _ _ _ _ _ _ (S.go m1) _ fun v W2 H2 m2 r2 => by
    have hp2 : H2 p = some (.lst vs) := m2.ex _ _ hp
    have wp2 : W2 p = none := m2.new _ wp (by rw [hp]; exact fun z => nomatch z)
    exact ⟨_, _, rfl, hn _ _ _ _ _ k (m1.ww.trans m2.ww) ((S.putO (i := i) (m1.trans0 m2) f hp2 wp2 (rs.up m2.ww)).put (i := j) r2)⟩
theorem sx_par3 {i j l : Nat} {a c e : D} (h : Ea tr G [a, c, e]) (k : N (((G.set i (some (.fro a))).set j (some (.fro c))).set l (some (.fro e))) n) : Sx (tPar3 i j l tr) G n N R := fun pu W0 H0 σ W H E S hn hr =>
  h _ _ _ _ _ _ _ S _ fun vs W1 H1 m1 r1 => by
    cases r1 with
    | cons a1 h3 =>
      cases h3 with
      | cons a2 h4 =>
        cases h4 with
        | cons a3 h5 =>
          cases h5
          exact ⟨_, _, _, rfl, hn _ _ _ _ _ k m1.ww ((((S.go m1).put a1).put a2).put a3)⟩
theorem sx_drop (h : Ep te G d) (k : N G n) : Sx (tDrop te) G n N R := fun pu W0 H0 σ W H E S hn hr =>
  h _ _ _ _ _ _ _ S _ fun v W1 H1 m1 r1 => hn _ _ _ _ _ k m1.ww (S.go m1)
theorem sx_ret (h : Ep te (frz G) d) (k : R d n) : Sx (tRet te) G n N R := fun pu W0 H0 σ W H E S hn hr => by
  obtain ⟨W1, e, S1⟩ := S.frz
  exact h _ _ _ _ _ _ _ S1 _ fun v W2 H2 m2 r2 => hr _ _ v W2 H2 k (S1.go m2).mv (S1.go m2).pn r2
theorem sx_if (h : Et tt (frz G) b) (h1 : b = true → Sx tu G n N R) (h2 : b = false → Sx tw G n N R) : Sx (tIfS tt tu tw) G n N R := fun pu W0 H0 σ W H E S hn hr =>
  (et_fz h) _ _ _ _ _ _ _ S _ fun W1 H1 m1 => by
    cases b with
    | true => exact h1 rfl _ _ _ _ _ _ _ (S.go m1.back) hn hr
    | false => exact h2 rfl _ _ _ _ _ _ _ (S.go m1.back) hn hr
theorem sx_aug {i : Nat} {f : Int → Int → Int} {a c : Int} (hx : G[i]? = some (some (.fro (.int a)))) (h : Ep te G (.int c)) (k : N (G.set i (some (.fro (.int (f a c))))) n) : Sx (tAug i te (ipI f)) G n N R := fun pu W0 H0 σ W H E S hn hr => by
  obtain ⟨v, h1, h2⟩ := S.bd i _ hx
  cases h2
  refine ⟨_, h1, h _ _ _ _ _ _ _ S _ fun v W1 H1 m1 r1 => ?_⟩
  cases r1
  exact ⟨a, c, rfl, rfl, hn _ _ _ _ _ k m1.ww ((S.go m1).put (.int _))⟩
theorem ownL {pu : Option Addr} {W0 H0 W H : Hp} {σ : St} {i : Nat} (S : S0 pu W0 H0 G n σ W H) (e : G[i]? = some (some (.own xs))) : ∃ p vs, σ[i]? = some (some (.ref p)) ∧ H p = some (.lst vs) ∧ W p = none ∧ H0 p = none ∧ Rps W vs xs := by
  obtain ⟨v, h1, p, vs, e1, e2, e3, e4, _, e6⟩ := S.bd i _ e
  subst e1
  exact ⟨p, vs, h1, e2, e3, e4, e6⟩
theorem sz1 {k : Nat} (h : k < 100000) : k < sizeLine := Nat.lt_of_lt_of_le h (by decide)
/-- own.append(e) -/
theorem sx_app {i : Nat} (ho : G[i]? = some (some (.own xs))) (h : Ep te G d) (hz : xs.length < 100000) (k : N (G.set i (some (.own (xs ++ [d])))) n) : Sx (tDrop (tBM K "list" rAppend (tVar i) (tCons te tNil))) G n N R := fun pu W0 H0 σ W H E S hn hr => by
  obtain ⟨p, vs, e1, e2, e3, e4, e6⟩ := ownL S ho
  refine ⟨_, e1, .inl ⟨rfl, vs, SqL.of e2⟩, h _ _ _ _ _ _ _ S _ fun v W1 H1 m1 r1 => ?_⟩
  have S1 := S.go m1
  refine ⟨p, vs, v, rfl, rfl, m1.ex _ _ e2, by rw [e6.length]; exact sz1 hz, hn _ _ _ _ _ k m1.ww ?_⟩
  exact S1.own ho e1 ((e6.up m1.ww).app (.cons r1 .nil))
theorem sx_ext {i : Nat} (ho : G[i]? = some (some (.own xs))) (h : Ep te G (.list ds)) (hz : xs.length + ds.length ≤ 100000) (k : N (G.set i (some (.own (xs ++ ds)))) n) : Sx (tDrop (tBM K "list" rExtend (tVar i) (tCons te tNil))) G n N R := fun pu W0 H0 σ W H E S hn hr => by
  obtain ⟨p, vs, e1, e2, e3, e4, e6⟩ := ownL S ho
  refine ⟨_, e1, .inl ⟨rfl, vs, SqL.of e2⟩, h _ _ _ _ _ _ _ S _ fun v W1 H1 m1 r1 => ?_⟩
  have S1 := S.go m1
  cases r1 with
  | lst h1 h2 =>
    refine ⟨p, _, vs, _, rfl, rfl, m1.ex _ _ e2, m1.sub _ _ h1, by rw [e6.length, h2.length]; exact small hz, hn _ _ _ _ _ k m1.ww ?_⟩
    exact S1.own ho e1 ((e6.up m1.ww).app h2)
/-- own[e] = e' -/
theorem sx_put {i : Nat} {j : Nat} (ho : G[i]? = some (some (.own xs))) (h : Ep te G d) (hi : Ep tb G (.int (j : Int))) (hj : j < xs.length) (k : N (G.set i (some (.own (xs.set j d)))) n) : Sx (tAsg te (gSub (tVar i) tb rSetL)) G n N R := fun pu W0 H0 σ W H E S hn hr =>
  h _ _ _ _ _ _ _ S _ fun v W1 H1 m1 r1 => by
    have S1 := S.go m1
    obtain ⟨p, vs, e1, e2, e3, e4, e6⟩ := ownL S1 ho
    refine ⟨_, e1, hi _ _ _ _ _ _ _ S1 _ fun y W2 H2 m2 r2 => ?_⟩
    cases r2
    have S2 := S1.go m2
    refine ⟨p, vs, (j : Int), j, rfl, rfl, m2.ex _ _ e2, ?_, hn _ _ _ _ _ k (m1.ww.trans m2.ww) ?_⟩
    · unfold ixN
      rw [e6.length, if_pos (by omega), if_pos (by omega), Int.toNat_natCast]
    · exact S2.own ho e1 (Rps.st (r1.up m2.ww) j (e6.up m2.ww))
/-- an own list stands still from here -/
theorem sx_fz {i : Nat} (ho : G[i]? = some (some (.own xs))) (h : Sx ts (G.set i (some (.fro (.list xs)))) n N R) : Sx ts G n N R := fun pu W0 H0 σ W H E S hn hr => by
  obtain ⟨p, vs, e1, e2, e3, e4, e6⟩ := ownL S ho
  have np : pu ≠ some p := by
    obtain ⟨v, h1, p', vs', f1, f2, f3, f4, f5, f6⟩ := S.bd i _ ho
    rw [e1] at h1; cases h1; cases f1; exact f5
  have il : i < G.length := (List.getElem?_eq_some_iff.mp ho).1
  have ww : Ex W (upd W p (.lst vs)) := fun a o z => by rw [upd_ne (ne_of_none z e3)]; exact z
  refine h pu W0 H0 σ (upd W p (.lst vs)) H E ⟨⟨S.mv.ww.trans ww, fun a o z => ?_, S.mv.keep, fun a z y => ?_⟩, fun a z => ?_, fun j b e => ?_, fun j k as bs a ne k1 k2 k3 k4 => ?_, by rw [List.length_set]; exact S.len⟩ (fun G2 n2 σ2 W2 H2 m2 e2 => hn G2 n2 σ2 W2 H2 m2 (ww.trans e2)) hr
  · by_cases q : a = p
    · subst q; rw [upd_same] at z; cases z; exact e2
    · rw [upd_ne q] at z; exact S.mv.sub a o z
  · have q : a ≠ p := fun q => y (q ▸ e4)
    rw [upd_ne q]; exact S.mv.new a z y
  · obtain ⟨w, r⟩ := S.pn a z
    exact ⟨by rw [upd_ne (show a ≠ p from fun q => np (q ▸ z))]; exact w, r⟩
  · by_cases q : i = j
    · subst q
      rw [List.getElem?_set_self il] at e
      cases e
      exact ⟨_, e1, .lst upd_same (e6.up ww)⟩
    · rw [List.getElem?_set_ne q] at e
      obtain ⟨x, h1, h2⟩ := S.bd j b e
      refine ⟨x, h1, ?_⟩
      cases b with
      | fro d => exact Rp.up ww h2
      | pur => exact h2
      | cst u => exact h2
      | own zs =>
        obtain ⟨a, us, f1, f2, f3, f4, f5, f6⟩ := h2
        subst f1
        have ne : a ≠ p := fun z => by
          subst z
          exact S.sep i j xs zs a q ho e e1 h1
        exact ⟨a, us, rfl, f2, by rw [upd_ne ne]; exact f3, f4, f5, f6.up ww⟩
  · have g : ∀ (l : Nat) (cs : List D), (G.set i (some (.fro (.list xs))))[l]? = some (some (.own cs)) → G[l]? = some (some (.own cs)) := fun l cs el => by
      by_cases q1 : i = l
      · subst q1; rw [List.getElem?_set_self il] at el; cases el
      · rw [List.getElem?_set_ne q1] at el; exact el
    exact S.sep j k as bs a ne (g j as k1) (g k bs k2) k3 k4
/-- for: Inv by the turn -/
theorem sx_for {ti : TI} {ts : TS} (Inv : Nat → Gm → Nat → Prop) (hs : Es ti G ds) (h0 : Inv 0 G n)
    (ht : ∀ i x G' n', ds[i]? = some x → Inv i G' n' → ∃ G2 js, Tg g x G' G2 js ∧ Sx ts G2 n' (Inv (i + 1)) R) (hd : ∀ G' n', Inv ds.length G' n' → N G' n') : Sx (tFor ti g ts) G n N R := fun pu W0 H0 σ W H E S hn hr =>
  hs _ _ _ _ _ _ _ S _ fun J W1 H1 m1 ⟨Y, Gd, wk, hG, hY⟩ => by
    refine for_it wk (fun i σ' H' => ∃ G' n' W', Inv i G' n' ∧ Ex W1 W' ∧ S0 pu W0 H0 G' n' σ' W' H') ⟨G, n, W1, h0, Ex.refl W1, S.go m1⟩ (fun i σ' H' _ ⟨G', n', W', _, e, S'⟩ => hG H' (e.trans S'.sub)) ?_ ?_
    · rintro i x σ' H' H'' hi ⟨G', n', W', hI, e, S'⟩ y
      obtain ⟨W2, m2, r2⟩ := hY i _ H' x H'' (List.getElem?_eq_getElem hi) (e.trans S'.sub) y W' e S'.sub
      obtain ⟨G2, js, t, hb⟩ := ht i _ G' n' (List.getElem?_eq_getElem hi) hI
      have S2 := S'.go m2
      refine t _ _ _ _ _ _ _ _ S2 r2 _ fun σ2 S3 _ => hb pu W0 H0 σ2 W2 H'' _ S3 (fun G3 n3 σ3 W3 H3 hI3 e3 S4 => ⟨G3, n3, W3, hI3, (e.trans m2.ww).trans e3, S4⟩) hr
    · rintro σ' H' ⟨G', n', W', hI, e, S'⟩
      exact hn _ _ _ _ _ (hd _ _ hI) (m1.ww.trans e) S'
/-- while: Inv by a measure -/
theorem sx_while {tc : TT} {ts : TS} (Inv : Nat → Gm → Nat → Prop) (m0 : Nat) (h0 : Inv m0 G n)
    (hs : ∀ m G' n', Inv m G' n' → ∃ b, Et tc (frz G') b ∧ (b = true → Sx ts G' n' (fun G2 n2 => ∃ m', m' < m ∧ Inv m' G2 n2) R) ∧ (b = false → N G' n')) : Sx (tWhile tc ts) G n N R := fun pu W0 H0 σ W H E S hn hr => by
  refine ⟨fun m σ' H' => ∃ G' n' W', Inv m G' n' ∧ Ex W W' ∧ S0 pu W0 H0 G' n' σ' W' H', ⟨m0, G, n, W, h0, Ex.refl W, S⟩, ?_⟩
  rintro m σ' H' ⟨G', n', W', hI, e, S'⟩
  obtain ⟨b, hb, h1, h2⟩ := hs m G' n' hI
  refine (et_fz hb) _ _ _ _ _ _ _ S' _ fun W1 H1 m1 => ?_
  cases b with
  | true =>
    refine ⟨fun σ2 H2 => ∃ m', m' < m ∧ ∃ G2 n2 W2, Inv m' G2 n2 ∧ Ex W W2 ∧ S0 pu W0 H0 G2 n2 σ2 W2 H2, fun σ2 H2 h => h, ?_⟩
    exact h1 rfl pu W0 H0 σ' W' H1 _ (S'.go m1.back) (fun G2 n2 σ2 W2 H2 ⟨m', l, hI2⟩ e2 S2 => ⟨m', l, G2, n2, W2, hI2, e.trans e2, S2⟩) hr
  | false => exact hn _ _ _ _ _ (h2 rfl) e (S'.go m1.back)
end

/-! ### a def's promise: from data to a datum -/
def SpP {α : Type} (C : α → Prop) (pre : α → List D) (post : α → D) : Sp := fun vs H Q _ => ∃ (x : α) (W : Hp), Ex W H ∧ C x ∧ Rps W vs (pre x) ∧ ∀ v W' H', Mv none W H W' H' → Rp W' v (post x) → Q v H'
theorem ep_call {α : Type} {C : α → Prop} {pre : α → List D} {post : α → D} {tr : TA} {G : Gm} {ds : List D} (x : α) (ha : Ea tr G ds) (hp : ds = pre x) (hc : C x) : Ep (tCall (SpP C pre post) [] C8.E0 tr) G (post x) := fun pu W0 H0 n σ W H S Q q =>
  ha _ _ _ _ _ _ _ S _ fun vs W1 H1 m1 r1 => ⟨x, W1, m1.sub, hc, by rw [List.append_nil, ← hp]; exact r1, fun v W2 H2 m2 r2 => q v W2 H2 (m1.trans0 m2) r2⟩
/-- .. with defaults -/
theorem ep_callD {α : Type} {C : α → Prop} {pre : α → List D} {post : α → D} {tr : TA} {G : Gm} {ds es : List D} {dvs : List V} (x : α) (ha : Ea tr G ds) (hd : ∀ W, Rps W dvs es) (hp : ds ++ es = pre x) (hc : C x) : Ep (tCall (SpP C pre post) dvs C8.E0 tr) G (post x) := fun pu W0 H0 n σ W H S Q q =>
  ha _ _ _ _ _ _ _ S _ fun vs W1 H1 m1 r1 => ⟨x, W1, m1.sub, hc, by rw [← hp]; exact r1.app (hd _), fun v W2 H2 m2 r2 => q v W2 H2 (m1.trans0 m2) r2⟩
def ini (ds : List D) (k : Nat) : Gm := ds.map (fun d => some (.fro d)) ++ List.replicate k none
theorem rps_get {W : Hp} : ∀ {vs : List V} {ds : List D} {k : Nat} {i : Nat} {b : B}, Rps W vs ds → (ini ds k)[i]? = some (some b) → ∃ v d, (vs.map some ++ List.replicate k none)[i]? = some (some v) ∧ b = .fro d ∧ Rp W v d := by
  intro vs ds k i b h e
  unfold ini at e
  by_cases l : i < ds.length
  · rw [List.getElem?_append_left (by rw [List.length_map]; exact l), List.getElem?_map] at e
    cases q : ds[i]? with
    | none => rw [q] at e; cases e
    | some d =>
      rw [q] at e
      cases e
      obtain ⟨v, g1, g2⟩ := h.get q
      exact ⟨v, d, by rw [List.getElem?_append_left (by rw [List.length_map, h.length]; exact l), List.getElem?_map, g1]; rfl, rfl, g2⟩
  · rw [List.getElem?_append_right (by rw [List.length_map]; omega), List.getElem?_replicate] at e
    split at e <;> cases e
theorem s0_ini {W H : Hp} {vs : List V} {ds : List D} {k : Nat} (e : Ex W H) (h : Rps W vs ds) : S0 none W H (ini ds k) 0 (vs.map some ++ List.replicate k none) W H where
  mv := Mv.rfl' e
  pn := fun _ z => nomatch z
  bd := fun i b z => by
    obtain ⟨v, d, h1, h2, h3⟩ := rps_get h z
    subst h2
    exact ⟨v, h1, h3⟩
  sep := fun i j xs ys p _ z _ _ _ => by
    obtain ⟨v, d, h1, h2, h3⟩ := rps_get h z
    cases h2
  len := by unfold ini; simp [h.length]
theorem rd_of {α : Type} {C : α → Prop} {pre : α → List D} {post : α → D} {t : TS} {N : List Str} {p : Nat} (hl : ∀ x, (pre x).length = p)
    (h : ∀ x, C x → Sx t (ini (pre x) (N.length - p)) 0 (fun _ _ => post x = .none) (fun d _ => d = post x)) (vs : List V) (H : Hp) (Q : VK) (E : XK) (k : SpP C pre post vs H Q E) : t { nx := fun _ H' => Q .non H', rt := Q } (L2.start N vs) H := by
  obtain ⟨x, W, e, hc, r, q⟩ := k
  unfold L2.start
  rw [r.length, hl x]
  refine h x hc none W H _ W H _ (s0_ini e r) (fun G' n' σ' W' H' z _ S => q .non W' H' S.mv ?_) fun d n' v W' H' z m _ r' => q v W' H' m ?_
  · rw [z]; exact .non
  · rw [← z]; exact r'
theorem len_of {α : Type} {C : α → Prop} {pre : α → List D} {post : α → D} {p : Nat} (hl : ∀ x, (pre x).length = p) (vs : List V) (H : Hp) (Q : VK) (E : XK) (k : SpP C pre post vs H Q E) : vs.length = p := by
  obtain ⟨x, W, e, hc, r, q⟩ := k
  rw [r.length, hl x]
end Kr
end
section
set_option maxHeartbeats 2000000
/-! K3: built-in calls over data. -/
namespace Kr
open PySem L2
open Evl (Ex)
section
variable {X : Cx}
def rLen (K : PySem.W.Frag) : List V → Hp → VK → Prop := fun xs H Q => ∃ p ys, xs = [.ref p] ∧ (SqL K H p ys ∨ SqT K H p ys) ∧ Q (.int ys.length) H
theorem k_len : CallR X (.builtin "len") (rLen X.K) := call_len_seq
def rAbs : List V → Hp → VK → Prop := fun xs H Q => ∃ i, xs = [.int i] ∧ Q (.int (if i < 0 then -i else i)) H
theorem k_abs : CallR X (.builtin "abs") rAbs := call_abs
def rMax2 : List V → Hp → VK → Prop := fun xs H Q => ∃ i j, xs = [.int i, .int j] ∧ Q (.int (if j > i then j else i)) H
theorem k_max2 (hc : X.calm = true) : CallR X (.builtin "max") rMax2 := call_max2 hc
def rMin2 : List V → Hp → VK → Prop := fun xs H Q => ∃ i j, xs = [.int i, .int j] ∧ Q (.int (if j < i then j else i)) H
theorem k_min2 (hc : X.calm = true) : CallR X (.builtin "min") rMin2 := call_min2 hc
def rInt : List V → Hp → VK → Prop := fun xs H Q => (∃ i, xs = [.int i] ∧ Q (.int i) H) ∨ ∃ k, xs = [.bl k] ∧ Q (.int (if k then 1 else 0)) H
theorem k_int : CallR X (.type "int") rInt := call_int1
def rLst (K : PySem.W.Frag) : List V → Hp → VK → Prop := fun xs H Q => ∃ p ys, xs = [.ref p] ∧ (SqL K H p ys ∨ SqT K H p ys) ∧ ∀ l, H l = none → Q (.ref l) (upd H l (.lst ys))
theorem k_list : CallR X (.type "list") (rLst X.K) := call_list_of
theorem hu65 {k : Nat} {A : Around} (hr : Room (k + 1) A) : A.units + 65 < cLine := by
  have := hr.un
  omega
end
section
variable {K : PySem.W.Frag} {ds xs : List D} {i j : Int}
theorem Rps.one {W : Hp} {vs : List V} {d : D} (h : Rps W vs [d]) : ∃ v, vs = [v] ∧ Rp W v d := by
  cases h with
  | cons a b => cases b; exact ⟨_, rfl, a⟩
theorem Rps.two {W : Hp} {vs : List V} {d e : D} (h : Rps W vs [d, e]) : ∃ v u, vs = [v, u] ∧ Rp W v d ∧ Rp W u e := by
  cases h with
  | cons a b =>
    obtain ⟨u, rfl, r⟩ := b.one
    exact ⟨_, u, rfl, a, r⟩
theorem cd_len : CbD (rLen K) [.list ds] (.int (ds.length : Int)) := fun W H vs e r Q q => by
  obtain ⟨v, rfl, r1⟩ := r.one
  cases r1 with
  | lst h1 h2 => exact ⟨_, _, rfl, .inl (SqL.of (e _ _ h1)), by rw [h2.length]; exact q _ W H (Mv.rfl' e) (.int _)⟩
theorem cd_lenT : CbD (rLen K) [.tuple ds] (.int (ds.length : Int)) := fun W H vs e r Q q => by
  obtain ⟨v, rfl, r1⟩ := r.one
  cases r1 with
  | tup h1 h2 => exact ⟨_, _, rfl, .inr (SqT.of (e _ _ h1)), by rw [h2.length]; exact q _ W H (Mv.rfl' e) (.int _)⟩
theorem absI (i : Int) : (if i < 0 then -i else i) = (i.natAbs : Int) := by split <;> omega
theorem cd_abs : CbD rAbs [.int i] (.int (i.natAbs : Int)) := fun W H vs e r Q q => by
  obtain ⟨v, rfl, r1⟩ := r.one
  cases r1
  exact ⟨i, rfl, by rw [absI]; exact q _ W H (Mv.rfl' e) (.int _)⟩
theorem cd_max2 : CbD rMax2 [.int i, .int j] (.int (max i j)) := fun W H vs e r Q q => by
  obtain ⟨v, u, rfl, r1, r2⟩ := r.two
  cases r1; cases r2
  exact ⟨i, j, rfl, by rw [show (if j > i then j else i) = max i j by omega]; exact q _ W H (Mv.rfl' e) (.int _)⟩
theorem cd_min2 : CbD rMin2 [.int i, .int j] (.int (min i j)) := fun W H vs e r Q q => by
  obtain ⟨v, u, rfl, r1, r2⟩ := r.two
  cases r1; cases r2
  exact ⟨i, j, rfl, by rw [show (if j < i then j else i) = min i j by omega]; exact q _ W H (Mv.rfl' e) (.int _)⟩
theorem cd_int : CbD rInt [.int i] (.int i) := fun W H vs e r Q q => by
  obtain ⟨v, rfl, r1⟩ := r.one
  cases r1
  exact .inl ⟨i, rfl, q _ W H (Mv.rfl' e) (.int _)⟩
theorem cn_list : CbN (rLst K) [.list ds] ds := fun W H vs e r Q q => by
  obtain ⟨v, rfl, r1⟩ := r.one
  cases r1 with
  | lst h1 h2 => exact ⟨_, _, rfl, .inl (SqL.of (e _ _ h1)), fun l hl => q l _ W _ (Mv.fresh e hl) hl upd_same (wnone e hl) h2⟩
theorem cd_all (bs : List Bool) : CbD (rAll K) [.list (bs.map PyData.bool)] (.bool (bs.all id)) := fun W H vs e r Q q => by
  obtain ⟨v, rfl, r1⟩ := r.one
  cases r1 with
  | lst h1 h2 =>
    have h3 := h2.bools
    subst h3
    exact ⟨_, bs, rfl, SqL.of (e _ _ h1), q _ W H (Mv.rfl' e) (.bl _)⟩
theorem cd_sum (ns : List Int) : CbD (rSum K) [.list (ns.map PyData.int)] (.int ns.sum) := fun W H vs e r Q q => by
  obtain ⟨v, rfl, r1⟩ := r.one
  cases r1 with
  | lst h1 h2 =>
    have h3 := h2.ints
    subst h3
    exact ⟨_, ns, rfl, SqL.of (e _ _ h1), q _ W H (Mv.rfl' e) (.int _)⟩
def maxL : List Int → Int
  | [] => 0
  | n :: ns => ns.foldl max n
theorem maxL_mem : ∀ (n : Int) (ns : List Int), ns.foldl max n ∈ n :: ns
  | n, [] => by simp
  | n, m :: ns => by
    show ns.foldl max (max n m) ∈ n :: m :: ns
    rcases List.mem_cons.mp (maxL_mem (max n m) ns) with h | h
    · rw [h]
      by_cases z : n ≤ m
      · rw [show max n m = m by omega]; simp
      · rw [show max n m = n by omega]; simp
    · simp [h]
theorem maxL_ge : ∀ (n : Int) (ns : List Int), ∀ y ∈ n :: ns, y ≤ ns.foldl max n
  | n, [], y, h => by
    have z : y = n := by simpa using h
    rw [z]
    exact Int.le_refl n
  | n, m :: ns, y, h => by
    show y ≤ ns.foldl max (max n m)
    have h0 := maxL_ge (max n m) ns (max n m) (by simp)
    rcases List.mem_cons.mp h with h | h
    · omega
    · rcases List.mem_cons.mp h with h | h
      · omega
      · exact maxL_ge (max n m) ns y (by simp [h])
theorem cd_max (n : Int) (ns : List Int) : CbD (rMax K) [.list ((n :: ns).map PyData.int)] (.int (maxL (n :: ns))) := fun W H vs e r Q q => by
  obtain ⟨v, rfl, r1⟩ := r.one
  cases r1 with
  | lst h1 h2 =>
    have h3 := h2.ints
    subst h3
    refine ⟨_, n :: ns, rfl, SqL.of (e _ _ h1), by simp, fun m hm hg => ?_⟩
    have e1 := hg _ (maxL_mem n ns)
    have e2 := maxL_ge n ns m hm
    have e3 : m = maxL (n :: ns) := by show m = ns.foldl max n; omega
    rw [e3]
    exact q _ W H (Mv.rfl' e) (.int _)
/-- isinstance: x of data, a class by its name -/
def tyD : D → String
  | .none => "NoneType"
  | .bool _ => "bool"
  | .int _ => "int"
  | .list _ => "list"
  | .tuple _ => "tuple"
  | _ => ""
theorem Rp.ty {W H : Hp} {v : V} {d : D} (e : Ex W H) (h : Rp W v d) : TyX K H v (.type (tyD d)) := by
  cases h with
  | non => exact .base .non
  | bl b => exact .base (.bl b)
  | int i => exact .base (.int i)
  | lst h1 _ => exact .base (.lst (e _ _ h1))
  | tup h1 _ => exact .base (.tup (e _ _ h1))
/-- isinstance(x, T) -/
theorem ep_isi {te : TE} {G : Gm} {d : D} {n : String} {b : Bool} (h : Ep te G d) (hk : PySem.W.kitOne K (.type (tyD d)) (.type n) = some b) : Ep (tCB (rIsi K) (tCons te (tCons (tC (.ty n)) tNil))) G (.bool b) := fun pu W0 H0 m σ W H S Q q =>
  h _ _ _ _ _ _ _ S _ fun v W1 H1 m1 r1 => ⟨v, .ty n, _, _, b, rfl, .ty n, r1.ty m1.sub, hk, q _ W1 H1 m1 (.bl _)⟩
/-- list(range(..)) -/
theorem en_listRg1 {te : TE} {G : Gm} {j : Int} (h : Ep te G (.int j)) (h1 : 0 ≤ j) (h2 : j ≤ 100000) : En (tLstRg (tRg1 te)) G (rngD 0 j.toNat) := fun pu W0 H0 m σ W H S Q q =>
  h _ _ _ _ _ _ _ S _ fun v W1 H1 m1 r1 => by
    cases r1
    refine ⟨j, rfl, RgOk.of_le (by omega) (by omega) (by omega) h1, fun p hp => ?_⟩
    refine q p _ W1 _ (m1.trans0 (Mv.fresh m1.sub hp)) (freshB m1.ex hp) upd_same (wnone m1.sub hp) ?_
    unfold rgV rngD
    rw [show (j - 0).toNat = j.toNat by omega]
    have g : ∀ l : List Nat, Rps W1 (l.map fun (i : Nat) => V.int (0 + (i : Int))) (l.map fun (i : Nat) => PyData.int (0 + (i : Int))) := fun l => by
      induction l with
      | nil => exact .nil
      | cons a l ih => exact .cons (.int _) ih
    exact g _
/-- x not in a list of ints -/
theorem inV_int (x : Int) : ∀ ns : List Int, inV (.int x) (ns.map V.int) = decide (x ∈ ns)
  | [] => by simp [inV]
  | n :: ns => by
    have ih := inV_int x ns
    unfold inV at ih ⊢
    rw [List.map_cons, List.any_cons, ih]
    show ((n == x) || decide (x ∈ ns)) = decide (x ∈ n :: ns)
    by_cases h : x = n
    · subst h; simp
    · have h2 : (n == x) = false := beq_eq_false_iff_ne.mpr (fun z => h z.symm)
      rw [h2, Bool.false_or]
      simp [h]
theorem od_notIn (x : Int) (ns : List Int) : OpD (rIn K true) (.int x) (.list (ns.map PyData.int)) (.bool (!decide (x ∈ ns))) := fun W H v u e rx ry Q q => by
  cases rx
  cases ry with
  | lst h1 h2 =>
    have h3 := h2.ints
    subst h3
    refine ⟨_, _, rfl, .inl (SqL.of (e _ _ h1)), rfl, by simp [List.all_map, flatV], ?_⟩
    rw [inV_int]
    exact q _ W H (Mv.rfl' e) (.bl _)
theorem od_notInD {d : D} (h1 : SeqAt.shaped d = true) (h2 : SeqAt.shaped (.list ds) = true) : OpD (rNotInD K) d (.list ds) (.bool (!ds.any fun z => PyData.eqv z d)) := fun W H v u e rx ry Q q =>
  ⟨d, ds, (rx.up e).dp, (ry.up e).dp, h1, h2, q _ W H (Mv.rfl' e) (.bl _)⟩
end
end Kr
end
section
/-! K4: loops by what is done; pairs of ints; the least common multiple. -/
namespace Kr
open PySem L2
open Evl (Ex)

theorem sx_forP {α : Type} {ti : TI} {g : TG} {ts : TS} {G : Gm} {n : Nat} {N : Gm → Nat → Prop} {R : D → Nat → Prop} (xs : List α) (e : α → D) (Inv : List α → Gm → Nat → Prop) (hs : Es ti G (xs.map e)) (h0 : Inv [] G n)
    (ht : ∀ pr x po G' n', xs = pr ++ x :: po → Inv pr G' n' → ∃ G2 js, Tg g (e x) G' G2 js ∧ Sx ts G2 n' (Inv (pr ++ [x])) R) (hd : ∀ G' n', Inv xs G' n' → N G' n') : Sx (tFor ti g ts) G n N R := by
  refine sx_for (fun i G' n' => Inv (xs.take i) G' n') hs h0 (fun i d G' n' hi hI => ?_) (fun G' n' hI => hd G' n' (by rw [List.length_map, List.take_length] at hI; exact hI))
  rw [List.getElem?_map] at hi
  cases q : xs[i]? with
  | none => rw [q] at hi; cases hi
  | some x =>
    rw [q] at hi
    cases hi
    have l := (List.getElem?_eq_some_iff.mp q).1
    have e1 : xs = xs.take i ++ x :: xs.drop (i + 1) := by
      rw [← (List.getElem?_eq_some_iff.mp q).2, List.getElem_cons_drop, List.take_append_drop]
    obtain ⟨G2, js, t, h⟩ := ht _ x _ G' n' e1 hI
    refine ⟨G2, js, t, ?_⟩
    have e2 : xs.take (i + 1) = xs.take i ++ [x] := by rw [List.take_succ, q]; rfl
    rw [e2]
    exact h

/-! ### lists of ints, of pairs of ints -/
abbrev iD (ns : List Int) : D := .list (ns.map PyData.int)
abbrev prD (p : Int × Int) : D := .tuple [.int p.1, .int p.2]
abbrev bkD (b : List (Int × Int)) : D := .list (b.map prD)
theorem lay_ints : ∀ ns : List Int, PyData.canLayAll0 (ns.map PyData.int) = true
  | [] => by simp [PyData.canLayAll0]
  | n :: ns => by simp [PyData.canLayAll0, PyData.canLay0, lay_ints ns]
theorem dep_ints : ∀ ns : List Int, PyData.depthAll (ns.map PyData.int) = 0
  | [] => by simp [PyData.depthAll]
  | n :: ns => by simp [PyData.depthAll, PyData.depth, dep_ints ns]
theorem lay_prs : ∀ b : List (Int × Int), PyData.canLayAll0 (b.map prD) = true
  | [] => by simp [PyData.canLayAll0]
  | p :: b => by simp [PyData.canLayAll0, PyData.canLay0, prD, lay_prs b]
theorem dep_prs : ∀ b : List (Int × Int), PyData.depthAll (b.map prD) ≤ 1
  | [] => by simp [PyData.depthAll]
  | p :: b => by
    have := dep_prs b
    simp only [List.map_cons, PyData.depthAll, prD, PyData.depth]
    omega
theorem shaped_of {d : D} (h1 : d.canLay0 = true) (h2 : d.depth ≤ 64) : SeqAt.shaped d = true := by
  unfold SeqAt.shaped
  rw [h1, decide_eq_true h2]
  rfl
theorem sh_ints (ns : List Int) : SeqAt.shaped (.list (ns.map PyData.int)) = true := shaped_of (by simp [PyData.canLay0, lay_ints]) (by simp [PyData.depth, dep_ints])
theorem sh_iD (ns : List Int) : SeqAt.shaped (iD ns) = true := sh_ints ns
theorem sh_bkD (b : List (Int × Int)) : SeqAt.shaped (bkD b) = true := shaped_of (by simp [bkD, PyData.canLay0, lay_prs]) (by
  have := dep_prs b
  simp only [bkD, PyData.depth]
  omega)
theorem sh_prD (p : Int × Int) : SeqAt.shaped (prD p) = true := shaped_of (by simp [prD, PyData.canLay0, PyData.canLayAll0]) (by simp [prD, PyData.depth, PyData.depthAll])
theorem eqv_int (a b : Int) : PyData.eqv (.int a) (.int b) = (a == b) := by simp [PyData.eqv]
theorem eqv_pr (p q : Int × Int) : PyData.eqv (prD p) (prD q) = decide (p = q) := by
  obtain ⟨a, b⟩ := p
  obtain ⟨c, d⟩ := q
  simp only [prD, PyData.eqv, PyData.eqvAll, Bool.and_true, Prod.mk.injEq]
  by_cases h1 : a = c <;> by_cases h2 : b = d <;> simp [h1, h2]
theorem eqv_ints : ∀ a b : List Int, PyData.eqvAll (a.map PyData.int) (b.map PyData.int) = decide (a = b)
  | [], [] => by simp [PyData.eqvAll]
  | [], _ :: _ => by simp [PyData.eqvAll]
  | _ :: _, [] => by simp [PyData.eqvAll]
  | x :: a, y :: b => by
    simp only [List.map_cons, PyData.eqvAll, eqv_int, eqv_ints a b, List.cons.injEq]
    by_cases h1 : x = y <;> by_cases h2 : a = b <;> simp [h1, h2]
theorem eqv_prs : ∀ a b : List (Int × Int), PyData.eqvAll (a.map prD) (b.map prD) = decide (a = b)
  | [], [] => by simp [PyData.eqvAll]
  | [], _ :: _ => by simp [PyData.eqvAll]
  | _ :: _, [] => by simp [PyData.eqvAll]
  | x :: a, y :: b => by
    simp only [List.map_cons, PyData.eqvAll, eqv_pr, eqv_prs a b, List.cons.injEq]
    by_cases h1 : x = y <;> by_cases h2 : a = b <;> simp [h1, h2]
theorem eqv_iD (a b : List Int) : PyData.eqv (iD a) (iD b) = decide (a = b) := by
  unfold iD
  rw [show PyData.eqv (.list (a.map PyData.int)) (.list (b.map PyData.int)) = PyData.eqvAll (a.map PyData.int) (b.map PyData.int) by simp [PyData.eqv], eqv_ints]
theorem eqv_bkD (a b : List (Int × Int)) : PyData.eqv (bkD a) (bkD b) = decide (a = b) := by
  unfold bkD
  rw [show PyData.eqv (.list (a.map prD)) (.list (b.map prD)) = PyData.eqvAll (a.map prD) (b.map prD) by simp [PyData.eqv], eqv_prs]

/-! ### the least common multiple -/
def lcmN (ns : List Int) : Nat := ns.foldl (fun f n => Nat.lcm f n.natAbs) 1
theorem lcmN_snoc (ns : List Int) (n : Int) : lcmN (ns ++ [n]) = Nat.lcm (lcmN ns) n.natAbs := by unfold lcmN; rw [List.foldl_append]; rfl
theorem lcm_zero (l : List Int) : l.foldl (fun (f : Nat) n => Nat.lcm f n.natAbs) 0 = 0 := by
  induction l with
  | nil => rfl
  | cons n l ih => show List.foldl _ (Nat.lcm 0 n.natAbs) l = 0; rw [Nat.lcm_zero_left]; exact ih
theorem lcmN_zero {pr po : List Int} : lcmN (pr ++ 0 :: po) = 0 := by
  unfold lcmN
  rw [List.foldl_append, List.foldl_cons]
  show List.foldl _ (Nat.lcm _ 0) po = 0
  rw [Nat.lcm_zero_right]
  exact lcm_zero po
theorem lcm_step {f : Nat} {n : Int} (h : n ≠ 0) : (f : Int) / (Int.gcd f (n.natAbs : Int) : Int) * (n.natAbs : Int) = ((Nat.lcm f n.natAbs : Nat) : Int) := by
  have e : Int.gcd f (n.natAbs : Int) = Nat.gcd f n.natAbs := by rw [Int.gcd_eq_natAbs_gcd_natAbs]; simp
  rw [e]
  have g : Nat.gcd f n.natAbs ∣ f := Nat.gcd_dvd_left _ _
  rw [show Nat.lcm f n.natAbs = f / Nat.gcd f n.natAbs * n.natAbs by rw [Nat.lcm, Nat.div_mul_right_comm g]]
  rw [Int.natCast_mul, Int.natCast_ediv]
theorem lcm_le (a b : Nat) : Nat.lcm a b ≤ a * b := Nat.div_le_self _ _
theorem lcmN_lt {B : Nat} : ∀ ns : List Int, (∀ n ∈ ns, n.natAbs < 2 ^ B) → lcmN ns < 2 ^ (B * ns.length + 1) := by
  have g : ∀ (ns : List Int) (f c : Nat), f < 2 ^ c → (∀ n ∈ ns, n.natAbs < 2 ^ B) → ns.foldl (fun f n => Nat.lcm f n.natAbs) f < 2 ^ (B * ns.length + c) := by
    intro ns
    induction ns with
    | nil => intro f c h _; simpa using h
    | cons n ns ih =>
      intro f c h hn
      have h1 : Nat.lcm f n.natAbs < 2 ^ (c + B) := by
        rw [Nat.pow_add]
        exact Nat.lt_of_le_of_lt (lcm_le _ _) (Nat.mul_lt_mul'' h (hn n (by simp)))
      have h2 := ih _ _ h1 fun m hm => hn m (by simp [hm])
      rw [List.length_cons, List.foldl_cons, Nat.mul_add, Nat.mul_one, Nat.add_assoc, Nat.add_comm B c]
      exact h2
  intro ns h
  exact g ns 1 1 (by decide) h
theorem lcmN_dvd {ns : List Int} {m : Nat} (h : ∀ n ∈ ns, n.natAbs ∣ m) : lcmN ns ∣ m := by
  have g : ∀ (ns : List Int) (f : Nat), f ∣ m → (∀ n ∈ ns, n.natAbs ∣ m) → ns.foldl (fun f n => Nat.lcm f n.natAbs) f ∣ m := by
    intro ns
    induction ns with
    | nil => intro f h _; exact h
    | cons n ns ih => intro f h hn; exact ih _ (Nat.lcm_dvd h (hn n (by simp))) fun k hk => hn k (by simp [hk])
  exact g ns 1 (Nat.one_dvd _) h
theorem dvd_lcmN {ns : List Int} {n : Int} (h : n ∈ ns) : n.natAbs ∣ lcmN ns := by
  have g : ∀ (ns : List Int) (f : Nat), f ∣ ns.foldl (fun f n => Nat.lcm f n.natAbs) f ∧ ∀ n ∈ ns, n.natAbs ∣ ns.foldl (fun f n => Nat.lcm f n.natAbs) f := by
    intro ns
    induction ns with
    | nil => intro f; exact ⟨Nat.dvd_refl _, by simp⟩
    | cons m ns ih =>
      intro f
      obtain ⟨h1, h2⟩ := ih (Nat.lcm f m.natAbs)
      refine ⟨Nat.dvd_trans (Nat.dvd_lcm_left _ _) h1, fun k hk => ?_⟩
      rcases List.mem_cons.mp hk with e | e
      · subst e; exact Nat.dvd_trans (Nat.dvd_lcm_right _ _) h1
      · exact h2 k e
  exact (g ns 1).2 n h
theorem lcmN_pos {ns : List Int} (h : ∀ n ∈ ns, n ≠ 0) : 0 < lcmN ns := by
  have g : ∀ (ns : List Int) (f : Nat), 0 < f → (∀ n ∈ ns, n ≠ 0) → 0 < ns.foldl (fun f n => Nat.lcm f n.natAbs) f := by
    intro ns
    induction ns with
    | nil => intro f h _; exact h
    | cons n ns ih => intro f h hn; exact ih _ (Nat.lcm_pos h (by have := hn n (by simp); omega)) fun k hk => hn k (by simp [hk])
  exact g ns 1 (by decide) h

/-! ### sizes -/
def Sm (k : Nat) (n : Int) : Prop := n.natAbs < 2 ^ k
theorem Sm.mono {k l : Nat} {n : Int} (h : Sm k n) (e : k ≤ l) : Sm l n := Nat.lt_of_lt_of_le h (Nat.pow_le_pow_right (by decide) e)
theorem Sm.le {k : Nat} {n m : Int} (h : Sm k n) (e : m.natAbs ≤ n.natAbs) : Sm k m := Nat.lt_of_le_of_lt e h
theorem Sm.mul {k l : Nat} {n m : Int} (h : Sm k n) (g : Sm l m) : Sm (k + l) (n * m) := by
  unfold Sm
  rw [Int.natAbs_mul, Nat.pow_add]
  exact Nat.mul_lt_mul'' h g
theorem Sm.add {k : Nat} {n m : Int} (h : Sm k n) (g : Sm k m) : Sm (k + 1) (n + m) := by
  unfold Sm at *
  have := Int.natAbs_add_le n m
  rw [Nat.pow_succ]
  omega
theorem Sm.neg {k : Nat} {n : Int} (h : Sm k n) : Sm k (-n) := h.le (by omega)
theorem Sm.sub {k : Nat} {n m : Int} (h : Sm k n) (g : Sm k m) : Sm (k + 1) (n - m) := by
  rw [Int.sub_eq_add_neg]
  exact h.add g.neg
theorem Sm.cmul {k l : Nat} {n m : Int} (h : Sm k n) (g : Sm l m) (e : k + l ≤ 900000) : CMulW n m :=
  wide_mul (Sm.mono h (Nat.le_succ k)) (Sm.mono g (Nat.le_succ l)) (by omega) (by omega) (by omega)
theorem Sm.cdiv {k : Nat} {n m : Int} (h : Sm k m) (p : 0 < m) (e : k ≤ 8999) : CDivW n m := wide_div p (Sm.mono h (Nat.le_succ k)) (by omega) (by omega)
theorem Sm.nat {k n : Nat} (h : n < 2 ^ k) : Sm k (n : Int) := by unfold Sm; rw [Int.natAbs_natCast]; exact h
theorem Sm.ediv {k : Nat} {n m : Int} (h : Sm k n) : Sm (k + 1) (n / m) := by
  refine Sm.mono (k := k) ?_ (by omega) |>.mono (Nat.le_refl _)
  refine h.le ?_
  exact Int.natAbs_ediv_le_natAbs n m
theorem Sm.emod {k : Nat} {n m : Int} (h : Sm k m) (p : 0 < m) : Sm k (n % m) := by
  have h1 := Int.emod_nonneg n (show m ≠ 0 by omega)
  have h2 := Int.emod_lt_of_pos n p
  exact h.le (by omega)
theorem Sm.natAbs {k : Nat} {n : Int} (h : Sm k n) : Sm k (n.natAbs : Int) := h.le (by omega)
theorem Sm.gcd {k : Nat} {a b : Int} (h : Sm k b) (z : b ≠ 0) : Sm k (Int.gcd a b : Int) := h.le (by
  rw [Int.natAbs_natCast]
  exact Int.gcd_le_natAbs_right a z)
/-- 10 ^ 30 and its like -/
theorem sm_of {k : Nat} {n : Int} (M : Int) (h : -M ≤ n ∧ n ≤ M) (e : M.toNat < 2 ^ k) : Sm k n := by
  unfold Sm
  omega

/-! ### books -/
structure Bk (b : List (Int × Int)) : Prop where
  len : b.length ≤ 24
  rng : ∀ p ∈ b, (-1000000000000000000000000000000 ≤ p.1 ∧ p.1 ≤ 1000000000000000000000000000000) ∧ (-1000000000000000000000000000000 ≤ p.2 ∧ p.2 ≤ 1000000000000000000000000000000)
  asc : b.Pairwise fun p q => p.1 < q.1
def fitB (p q : Int × Int) : Bool := decide (p.1 - q.1 ∣ p.2 - q.2)
def crow (b : List (Int × Int)) (q : (Int × Int) × Nat) : List (Int × Int) :=
  ((List.range (b.length - (q.2 + 1))).filter fun i => !fitB q.1 (b.getD (q.2 + 1 + i) (0, 0))).map fun (i : Nat) => ((q.2 : Int), (q.2 : Int) + 1 + (i : Int))
def confs (b : List (Int × Int)) : List (Int × Int) := b.zipIdx.flatMap (crow b)
theorem crow_len (b : List (Int × Int)) (q : (Int × Int) × Nat) : (crow b q).length ≤ b.length := by
  unfold crow
  rw [List.length_map]
  refine Nat.le_trans (List.length_filter_le _ _) ?_
  rw [List.length_range]
  omega
theorem crows_len (b : List (Int × Int)) : ∀ l : List ((Int × Int) × Nat), (l.flatMap (crow b)).length ≤ l.length * b.length
  | [] => by simp
  | q :: l => by
    rw [List.flatMap_cons, List.length_append, List.length_cons, Nat.add_mul]
    have := crow_len b q
    have := crows_len b l
    omega
theorem confs_len {b : List (Int × Int)} (h : b.length ≤ 24) : (confs b).length ≤ 576 := by
  have h1 := crows_len b b.zipIdx
  rw [List.length_zipIdx] at h1
  have h2 : b.length * b.length ≤ 24 * 24 := Nat.mul_le_mul h h
  exact Nat.le_trans h1 h2
theorem enumD_map {α : Type} (f : α → D) : ∀ (l : List α) (k : Nat), enumD k (l.map f) = (l.zipIdx k).map fun q => .tuple [.int ((q.2 : Nat) : Int), f q.1]
  | [], _ => rfl
  | x :: l, k => by
    show PyData.tuple [.int (k : Int), f x] :: enumD (k + 1) (l.map f) = _
    rw [enumD_map f l (k + 1), List.zipIdx_cons, List.map_cons]
theorem zipD_map {α β : Type} (f : α → D) (g : β → D) : ∀ (l : List α) (m : List β), zipD (l.map f) (m.map g) = (l.zip m).map fun q => .tuple [f q.1, g q.2]
  | [], _ => rfl
  | x :: l, [] => rfl
  | x :: l, y :: m => by
    show PyData.tuple [f x, g y] :: zipD (l.map f) (m.map g) = _
    rw [zipD_map f g l m]
    rfl
theorem cut_1 (xs : List D) : cutD xs (some 1) none = xs.drop 1 := cut_from xs 1
theorem mem_zip_tail {α : Type} {R : α → α → Prop} : ∀ {l : List α}, l.Pairwise R → ∀ q ∈ l.zip (l.drop 1), R q.1 q.2
  | [], _, q, h => by simp at h
  | [x], _, q, h => by simp at h
  | x :: y :: l, hp, q, h => by
    have h' : q ∈ (x, y) :: (y :: l).zip ((y :: l).drop 1) := h
    rcases List.mem_cons.mp h' with e | e
    · rw [e]; exact (List.pairwise_cons.mp hp).1 y (by simp)
    · exact mem_zip_tail (List.pairwise_cons.mp hp).2 q e
theorem all_true {K : PySem.W.Frag} {ds : List D} (h : ∀ d ∈ ds, d = .bool true) : CbD (rAll K) [.list ds] (.bool true) := by
  have e : ds = (List.replicate ds.length true).map PyData.bool := by
    rw [List.map_replicate]
    exact List.eq_replicate_iff.mpr ⟨rfl, h⟩
  have q := cd_all (K := K) (List.replicate ds.length true)
  rw [← e, show (List.replicate ds.length true).all id = true by rw [List.all_eq_true]; intro x hx; exact (List.mem_replicate.mp hx).2] at q
  exact q
theorem kit_eq {K : PySem.W.Frag} {a b : String} {r : Bool} (h : L2.kitB a b = some r) : PySem.W.kitOne K (.type a) (.type b) = some r := h

/-! ### the rules by the written part's own name -/
section
variable {X : Cx} {K : PySem.W.Frag}
theorem ixL (h : X.K = K := by rfl) : IxR X (rIxL K) := h ▸ ix_list
theorem ixT (h : X.K = K := by rfl) : IxR X (rIxT K) := h ▸ ix_tup
theorem slL (h : X.K = K := by rfl) : SlR X (rSlL K) := h ▸ sl_list
theorem lenK (h : X.K = K := by rfl) : CallR X (.builtin "len") (rLen K) := h ▸ k_len
theorem lstK (h : X.K = K := by rfl) : CallR X (.type "list") (rLst K) := h ▸ k_list
theorem allK (hc : X.calm = true) (h : X.K = K := by rfl) : CallR X (.builtin "all") (rAll K) := h ▸ cr_all hc
theorem sumK (hc : X.calm = true) (h : X.K = K := by rfl) : CallR X (.builtin "sum") (rSum K) := h ▸ cr_sum hc
theorem maxK (hc : X.calm = true) (h : X.K = K := by rfl) : CallR X (.builtin "max") (rMax K) := h ▸ cr_max hc
theorem isiK (h : X.K = K := by rfl) : CallR X (.builtin "isinstance") (rIsi K) := h ▸ call_isi
theorem ninK (h : X.K = K := by rfl) : OpR X (compareOp .NotIn) (rIn K true) := h ▸ op_notIn_seq
theorem eqK (hu : X.A.units + 64 < cLine) (h : X.K = K := by rfl) : OpR X (compareOp .Eq) (rEqD K) := h ▸ op_eqD hu
theorem neK (hu : X.A.units + 64 < cLine) (h : X.K = K := by rfl) : OpR X (compareOp .NotEq) (rNeD K) := h ▸ op_neD hu
theorem ninDK (hu : X.A.units + 65 < cLine) (h : X.K = K := by rfl) : OpR X (compareOp .NotIn) (rNotInD K) := h ▸ op_notInD hu
theorem pgT {pos : Pos} {es : List Expr} {k : Nat} {t : TGs} {n : Nat} (hc : X.calm = true) (h : PGs X es t) (hK : X.K = K := by rfl)
    (hn : (assignEach es X.env).length = n := by rfl) (hst : (assignEach es X.env).findIdx? (·.1) = none := by rfl) : PG X (.Tuple es k pos) (gTup K n t) := hK ▸ pg_tup hc h hn hst
theorem piL {tg l : Expr} {tl : TE} (hl : PE X l tl) (h : X.K = K := by rfl) : PI X tg l (iList K tl) := h ▸ pi_list hl
theorem piT {tg l : Expr} {tl : TE} (hl : PE X l tl) (h : X.K = K := by rfl) : PI X tg l (iTup K tl) := h ▸ pi_tup hl
end
theorem es_rng1e {tr : TA} {G : Gm} {j : Int} {ds : List D} (h : Ea tr G [.int j]) (e : rngD 0 j.toNat = ds) (h1 : -1000000 ≤ j) (h2 : j ≤ 1000000) : Es (iRng1 tr) G ds := e ▸ es_rng1 h h1 h2
theorem es_rng2e {tr : TA} {G : Gm} {i j : Int} {ds : List D} (h : Ea tr G [.int i, .int j]) (e : rngD i (j - i).toNat = ds) (h1 : -1000000 ≤ i ∧ i ≤ 1000000) (h2 : -1000000 ≤ j ∧ j ≤ 1000000) : Es (iRng2 tr) G ds := e ▸ es_rng2 h h1 h2
section
variable {K : PySem.W.Frag} {ds : List D} {x : Int} {b : Bool}
theorem isi_int : PySem.W.kitOne K (.type (tyD (.int x))) (.type "int") = some true := kit_eq (show L2.kitB "int" "int" = _ by decide +kernel)
theorem isi_intb : PySem.W.kitOne K (.type (tyD (.int x))) (.type "bool") = some false := kit_eq (show L2.kitB "int" "bool" = _ by decide +kernel)
theorem isi_lst : PySem.W.kitOne K (.type (tyD (.list ds))) (.type "list") = some true := kit_eq (show L2.kitB "list" "list" = _ by decide +kernel)
theorem isi_tup : PySem.W.kitOne K (.type (tyD (.tuple ds))) (.type "tuple") = some true := kit_eq (show L2.kitB "tuple" "tuple" = _ by decide +kernel)
end
/-! ### comprehensions by their target -/
section
variable {α : Type} {ti : TI} {tt : TT} {te : TE} {vs : List Nat} {G : Gm} {i j : Nat} {K : PySem.W.Frag}
theorem en_f1 (xs : List α) (e : α → D) (f : α → Bool) (k : α → D) (hs : Es ti G (xs.map e)) (hx : ∀ x ∈ xs, Et tt ((wpG G vs).set i (some (.fro (e x)))) (f x) ∧ (f x = true → Ep te ((wpG G vs).set i (some (.fro (e x)))) (k x)))
    (hz : xs.length ≤ 100000) (hi : i ∈ vs := by decide) : En (tLc ti (gName i) tt te vs) G ((xs.filter f).map k) :=
  en_lc xs e f k hs (fun x h => ⟨_, [i], tg_name, fun j hj => by rw [List.mem_singleton.mp hj]; exact hi, (hx x h).1, (hx x h).2⟩) hz
theorem en_m1 (xs : List α) (e : α → D) (k : α → D) (hs : Es ti G (xs.map e)) (hx : ∀ x ∈ xs, Ep te ((wpG G vs).set i (some (.fro (e x)))) (k x))
    (hz : xs.length ≤ 100000) (hi : i ∈ vs := by decide) : En (tLc ti (gName i) tYes te vs) G (xs.map k) := by
  have h := en_f1 (tt := tYes) (te := te) (vs := vs) (i := i) xs e (fun _ => true) k hs (fun x h => ⟨et_yes, fun _ => hx x h⟩) hz hi
  rw [show xs.filter (fun _ => true) = xs from List.filter_eq_self.mpr fun _ _ => rfl] at h
  exact h
theorem en_f2 (xs : List α) (a b : α → D) (f : α → Bool) (k : α → D) (hs : Es ti G (xs.map fun x => .tuple [a x, b x]))
    (hx : ∀ x ∈ xs, Et tt (((wpG G vs).set i (some (.fro (a x)))).set j (some (.fro (b x)))) (f x) ∧ (f x = true → Ep te (((wpG G vs).set i (some (.fro (a x)))).set j (some (.fro (b x)))) (k x)))
    (hz : xs.length ≤ 100000) (hi : i ∈ vs := by decide) (hj : j ∈ vs := by decide) : En (tLc ti (gTup K 2 (gCons (gName i) (gCons (gName j) gNil))) tt te vs) G ((xs.filter f).map k) :=
  en_lc xs _ f k hs (fun x h => ⟨_, [i, j], tg_two, fun l hl => by
    rcases List.mem_cons.mp hl with z | z
    · rw [z]; exact hi
    · rw [List.mem_singleton.mp z]; exact hj, (hx x h).1, (hx x h).2⟩) hz
theorem en_m2 (xs : List α) (a b : α → D) (k : α → D) (hs : Es ti G (xs.map fun x => .tuple [a x, b x])) (hx : ∀ x ∈ xs, Ep te (((wpG G vs).set i (some (.fro (a x)))).set j (some (.fro (b x)))) (k x))
    (hz : xs.length ≤ 100000) (hi : i ∈ vs := by decide) (hj : j ∈ vs := by decide) : En (tLc ti (gTup K 2 (gCons (gName i) (gCons (gName j) gNil))) tYes te vs) G (xs.map k) := by
  have h := en_f2 (K := K) (tt := tYes) (te := te) (vs := vs) (i := i) (j := j) xs a b (fun _ => true) k hs (fun x h => ⟨et_yes, fun _ => hx x h⟩) hz hi hj
  rw [show xs.filter (fun _ => true) = xs from List.filter_eq_self.mpr fun _ _ => rfl] at h
  exact h
theorem ep_all {tr : TE} (xs : List α) (h : En tr G (xs.map fun _ => PyData.bool true)) : Ep (tCB (rAll K) (tCons tr tNil)) G (.bool true) :=
  ep_cb (ea_cons (ep_new h) ea_nil) (all_true fun d hd => by
    obtain ⟨_, _, e⟩ := List.mem_map.mp hd
    exact e.symm)
end
section
variable {te ta tb : TE} {G : Gm} {ds : List D} {i j : Int} {K : PySem.W.Frag}
theorem ep_len (h : Ep te G (.list ds)) : Ep (tCB (rLen K) (tCons te tNil)) G (.int (ds.length : Int)) := ep_cb (ea_cons h ea_nil) cd_len
theorem ep_lenT (h : Ep te G (.tuple ds)) : Ep (tCB (rLen K) (tCons te tNil)) G (.int (ds.length : Int)) := ep_cb (ea_cons h ea_nil) cd_lenT
theorem ep_lenV {k : Nat} (h : G[k]? = some (some (.fro (.tuple ds)))) : Ep (tCB (rLen K) (tCons (tVar k) tNil)) G (.int (ds.length : Int)) := ep_lenT (ep_var h)
theorem ep_abs (h : Ep te G (.int i)) : Ep (tCB rAbs (tCons te tNil)) G (.int (i.natAbs : Int)) := ep_cb (ea_cons h ea_nil) cd_abs
theorem ep_int1 (h : Ep te G (.int i)) : Ep (tCB rInt (tCons te tNil)) G (.int i) := ep_cb (ea_cons h ea_nil) cd_int
theorem ep_max2 (h : Ep ta G (.int i)) (k : Ep tb G (.int j)) : Ep (tCB rMax2 (tCons ta (tCons tb tNil))) G (.int (max i j)) := ep_cb (ea_cons h (ea_cons k ea_nil)) cd_max2
theorem ep_min2 (h : Ep ta G (.int i)) (k : Ep tb G (.int j)) : Ep (tCB rMin2 (tCons ta (tCons tb tNil))) G (.int (min i j)) := ep_cb (ea_cons h (ea_cons k ea_nil)) cd_min2
end
section
variable {K : PySem.W.Frag} {a b c : D} {l : List D}
theorem od_ixT0 : OpD (rIxT K) (.tuple (a :: l)) (.int 0) a := od_ixT (atI_nat (j := 0) rfl)
theorem od_ixT1 : OpD (rIxT K) (.tuple (a :: b :: l)) (.int 1) b := od_ixT (atI_nat (j := 1) rfl)
theorem od_ixL0 : OpD (rIxL K) (.list (a :: l)) (.int 0) a := od_ixL (atI_nat (j := 0) rfl)
theorem od_ixL1 : OpD (rIxL K) (.list (a :: b :: l)) (.int 1) b := od_ixL (atI_nat (j := 1) rfl)
theorem od_ixL2 : OpD (rIxL K) (.list (a :: b :: c :: l)) (.int 2) c := od_ixL (atI_nat (j := 2) rfl)
end
end Kr
end
section
/-! K5: sets of a list of ints; the pairs of two lists as a list; powers and quotients of great numbers. -/
namespace Kr
open PySem PySem.Spec PyProof.Rows L2
open Evl (Ex)

/-! ### set(l), l a list of ints in which some may stand twice -/
section
variable {P : Program} {w : World} {A : Around} {E : Value → Shared → Prop} {s : Shared}
abbrev newSet (w : World) : Obj := { cls := .type "set", dict := none, data := .set #[] 0 (.fresh 0 0 (!w.params.followText "set-order")) }
set_option maxHeartbeats 8000000 in
theorem set_of_list {l : Addr} {its : Array Value} (ns : List Int) {Q : Value → Shared → Prop} (hh : A.handled = none) (hl : s.heap.IsList l its) (hi : IntsAre its.toList ns) (hb : ns.length + 1 < scanBound)
    (h : ∀ (h' : Heap) (tk c : Nat), SetR w h' s.heap.objs.size (fun j => decide (j ∈ ns)) c → c ≤ ns.length → (∀ b o, s.heap.get? b = some o → h'.get? b = some o) → Q (.ref s.heap.objs.size) { s with heap := h', toks := tk }) :
    wpAny (model P w) A (call (.type "set") [.ref l]) Q E s := by
  have hz : its.size = ns.length := by
    have q := IntsAre.length hi
    rw [Array.length_toList] at q
    exact q
  obtain ⟨c, tl, hmro⟩ := F.called_set.mro
  have hmade := F.called_set.made
  have hsub := F.called_set.sub
  refine wpAny_call (codeAny_of_tree ?_)
  show wpAny _ _ (callAny (.type "set") _) _ _ _
  refine wpAny_pure ⟨Code.quiet_builtin _ (by decide +kernel), codeAny_builtin F.entry_type_call ?_⟩
  rw [Around.under_plain (weight_type_call_type "set" [.ref l] []) rfl]
  have h1 := F.called_set.notType
  have h2 := F.called_set.canCreate
  have hct := F.typeCall_set_1 (.ref l)
  repeat (any_goals (first | assumption | wp_step))
  refine codeAny_mono (code_set_led1 (.ref l) (E := E) (Q₁ := fun obj s₁ => obj = .ref s.heap.objs.size ∧ s₁ = { s with heap := s.heap.push (newSet w) }) ⟨rfl, rfl⟩) fun r s₁ hr => ?_
  match r, hr with
  | .error e, hr => exact hr
  | .ok (.ret obj), hr =>
    obtain ⟨rfl, rfl⟩ := hr
    have hS : (s.heap.push (newSet w)).get? s.heap.objs.size = some (newSet w) := Heap.get?_push_size _ rfl
    have hT : Shared.TypeIs { s with heap := s.heap.push (newSet w) } (.ref s.heap.objs.size) "set" := ⟨_, hS, rfl⟩
    have hli := F.called_set.init.lookup
    have hbi := F.called_set.init.bind (.ref s.heap.objs.size)
    repeat (any_goals (first | assumption | wp_step))
    refine codeAny_mono (codeAny_call_builtin (R := wants (fun r s₂ => r = .none ∧ ∃ h' tk c, s₂ = { s with heap := h', toks := tk } ∧ SetR w h' s.heap.objs.size (fun j => decide (j ∈ ns)) c ∧ c ≤ ns.length ∧
        (∀ b o, s.heap.get? b = some o → h'.get? b = some o)) E) F.called_set.init.plain F.entry_set_init (check_set_init_1 hT ?_)) fun r₂ s₂ hr₂ => ?_
    · obtain ⟨ol, hol, hcl, nl, hdl⟩ := hl
      obtain ⟨ocls, odict, odata, oslots⟩ := ol
      simp only at hcl hdl
      subst hcl
      subst hdl
      have hol' : (s.heap.push (newSet w)).get? l = some { cls := .type "list", dict := odict, data := .seq its nl, slots := oslots } := Heap.get?_push_of_some _ hol
      have hsls := F.sub_list_set
      have hslf := F.sub_list_frozenset
      have hne : (Value.type "list" == Value.type "dict") = false := by decide
      have hl1 : (s.heap.push (newSet w)).IsList l its := ⟨_, hol', rfl, nl, rfl⟩
      have hlS : l < s.heap.objs.size := Heap.lt_size hol
      have hsz : (s.heap.push (newSet w)).objs.size = s.heap.objs.size + 1 := Heap.size_push ..
      unfold Builtin.«set.__init__» noKeywords Builtin.Frozenset.updateFrom
      generalize hPI : pyIter = PI
      wp_walk
      subst hPI
      refine wpAny_pyIter_list hl1 ?_
      refine wpAny_bind (wpAny_runValue ?_)
      have hh3 : A.in1.in1.in1.handled = none := by simp [hh]
      have n1 : l ≠ (s.heap.push (newSet w)).objs.size := by
        rw [hsz]
        exact Nat.ne_of_lt (Nat.lt_succ_of_lt hlS)
      have n2 : s.heap.objs.size ∉ [(s.heap.push (newSet w)).objs.size, l] := by
        rw [hsz]
        simp only [List.mem_cons, List.not_mem_nil, or_false, not_or]
        exact ⟨Nat.ne_of_lt (Nat.lt_succ_self _), Nat.ne_of_gt hlS⟩
      refine set_update_ints ((Walks.list hh3 _ l n1 its).toS) s.heap.objs.size n2 ns hz hb (fun i v hv => ?_) (its.size - 0) 0 _ (by omega) (Nat.zero_le _)
        ⟨⟨_, Heap.get?_push_size _ rfl, rfl, rfl⟩, (hl1.push _)⟩ ?hS0 ?hR
      · have hv : its[i]? = some v := hv
        have hil : i < ns.length := by rw [← hz]; exact (Array.getElem?_eq_some_iff.mp hv).1
        obtain ⟨t, e⟩ := PyProof.Rows.IntsAre.int_at hi i v (by rw [Array.getElem?_toList]; exact hv)
        refine ⟨ns[i], t, List.getElem?_eq_getElem hil, ?_⟩
        rw [e, List.getD_eq_getElem?_getD, List.getElem?_eq_getElem hil] <;> rfl
      case hS0 => exact ⟨0, Nat.le_refl 0, setR_new_at (Heap.get?_push_of_some _ hS)⟩
      case hR =>
        intro s' c' hm hc' hS'
        obtain ⟨h', g2, d', tk', os'⟩ := s'
        have eg : g2 = s.gens := hm.gens
        have ed : d' = s.drawn := hm.drawn
        have eo : os' = s.os := hm.os
        subst eg
        subst ed
        subst eo
        show wpAny _ _ _ _ _ _
        refine wpAny_pure ?_
        show wpAny _ _ (ret Value.none) _ _ _
        rw [hz] at hc'
        refine wpAny_pure ⟨rfl, h', tk', c', rfl, hS', hc', fun b o e => ?_⟩
        have hb0 : b < s.heap.objs.size := Heap.lt_size e
        refine hm.heap b o ?_ (Heap.get?_push_of_some _ (Heap.get?_push_of_some _ e))
        simp only [List.mem_cons, List.not_mem_nil, or_false, not_or]
        rw [hsz]
        exact ⟨Nat.ne_of_lt hb0, Nat.ne_of_lt (Nat.lt_succ_of_lt hb0)⟩
    · match r₂, hr₂ with
      | .error e, hr₂ => exact hr₂
      | .ok (.ret r), hr₂ =>
        obtain ⟨rfl, h', tk, c', rfl, hS', hc', hk'⟩ := hr₂
        repeat (any_goals (first | assumption | wp_step))
        exact h _ _ _ hS' hc' hk'
end
section
variable {X : Cx}
/-- set(l) -/
def rSetL (w : World) : List V → Hp → VK → Prop := fun xs H Q => ∃ (p : Addr) (ns : List Int), xs = [.ref p] ∧ H p = some (.lst (ns.map V.int)) ∧ ns.length ≤ 1000 ∧
  ∀ a c, H a = none → c ≤ ns.length → Q (.ref a) (upd H a (SetO w a (fun j => decide (j ∈ ns)) c))
theorem cr_setL (hc : X.calm = true) : CallR X (.type "set") (rSetL X.w) := by
  intro pins s σ H xs us Q I r h
  obtain ⟨p, ns, rfl, hH, hl, q⟩ := h
  cases r with
  | cons r1 rr =>
    cases rr
    cases r1
    obtain ⟨z, its, n, rv, hlen, e⟩ := I.lstM hH
    have hi := ints_of_vals rv
    refine set_of_list ns (I.ok.hd hc) ⟨_, e, rfl, n, rfl⟩ (by simpa using hi) (by unfold scanBound; omega) fun h' tk c R hcn k => ?_
    exact ⟨.ref _, upd H s.heap.objs.size (SetO X.w s.heap.objs.size (fun j => decide (j ∈ ns)) c), I.laid (t' := tk) k (Nat.le_refl _) (setO_new R), rfl, q _ c (I.hok.fresh (Nat.le_refl _)) hcn⟩
/-- len(a set) -/
def rLenSet (w : World) : List V → Hp → VK → Prop := fun xs H Q => ∃ (a : Addr) (S : Int → Bool) (n : Nat), xs = [.ref a] ∧ H a = some (SetO w a S n) ∧ n ≤ 1000 ∧
  ∀ out : List Int, out.Nodup → (∀ k, k ∈ out ↔ S k = true) → Q (.int (out.length : Int)) H
theorem cr_lenSet : CallR X (.builtin "len") (rLenSet X.w) := by
  intro pins s σ H xs us Q I r h
  obtain ⟨a, S, n, rfl, ha, hn, q⟩ := h
  cases r with
  | cons r1 rr =>
    cases rr
    cases r1
    obtain ⟨o, es, ep, t, ho, hex, hdt, g, nd, hm2, hb, hf, hn2, hr, hl2⟩ := setO_get I ha
    refine call_len_set ho hex hdt hf (by omega) ⟨.int (es.size : Int), H, I.tok _, ⟨_, rfl⟩, ?_⟩
    have z := q (es.toList.map keyOf) nd fun k => (hm2 k).symm
    rw [List.length_map, Array.length_toList] at z
    exact z
end
/-- the members, each once -/
def dd : List Int → List Int
  | [] => []
  | n :: ns => if n ∈ dd ns then dd ns else n :: dd ns
theorem dd_mem : ∀ (ns : List Int) (k : Int), k ∈ dd ns ↔ k ∈ ns
  | [], k => by simp [dd]
  | n :: ns, k => by
    have ih := dd_mem ns
    unfold dd
    split
    · rename_i h
      rw [ih k, List.mem_cons]
      constructor
      · exact .inr
      · rintro (rfl | h2)
        · exact (ih _).mp h
        · exact h2
    · rw [List.mem_cons, List.mem_cons, ih k]
theorem dd_nodup : ∀ ns : List Int, (dd ns).Nodup
  | [] => by simp [dd]
  | n :: ns => by
    unfold dd
    split
    · exact dd_nodup ns
    · rename_i h
      exact List.nodup_cons.mpr ⟨h, dd_nodup ns⟩
theorem dd_len : ∀ ns : List Int, (dd ns).length ≤ ns.length
  | [] => Nat.le_refl _
  | n :: ns => by
    have ih := dd_len ns
    unfold dd
    split
    · rw [List.length_cons]; omega
    · rw [List.length_cons, List.length_cons]; omega
theorem dd_same {ns : List Int} : ns.Nodup → dd ns = ns := by
  induction ns with
  | nil => intro _; rfl
  | cons n ns ih =>
    intro h
    have h' := List.nodup_cons.mp h
    unfold dd
    rw [ih h'.2, if_neg h'.1]
theorem len_same {a b : List Int} (ha : a.Nodup) (hb : b.Nodup) (h : ∀ k, k ∈ a ↔ k ∈ b) : a.length = b.length := ((List.perm_ext_iff_of_nodup ha hb).mpr h).length_eq
section
variable {te : TE} {G : Gm} {ns : List Int} {w : World} {K : PySem.W.Frag}
theorem ep_lenSet (h : Ep te G (iD ns)) (hl : ns.length ≤ 1000) : Ep (tCB (rLenSet w) (tCons (tCB (rSetL w) (tCons te tNil)) tNil)) G (.int ((dd ns).length : Int)) := fun pu W0 H0 n σ W H S Q q =>
  h _ _ _ _ _ _ _ S _ fun x W1 H1 m1 r1 => by
    cases r1 with
    | lst h1 h2 =>
      have e := h2.ints
      subst e
      refine ⟨_, ns, rfl, m1.sub _ _ h1, hl, fun a c ha hc => ?_⟩
      refine ⟨a, _, c, rfl, upd_same, by omega, fun out nd hm => ?_⟩
      have z : out.length = (dd ns).length := len_same nd (dd_nodup ns) fun k => by rw [hm k, dd_mem]; simp
      rw [z]
      exact q _ W1 _ (m1.trans0 (Mv.fresh m1.sub ha)) (.int _)
end
/-- the members, ascending -/
def sortU : List Int → List Int
  | [] => []
  | n :: ns => ins n (sortU ns)
where ins (n : Int) : List Int → List Int
  | [] => [n]
  | m :: ms => if n < m then n :: m :: ms else if n = m then m :: ms else m :: ins n ms
theorem ins_mem (n : Int) : ∀ (ms : List Int) (k : Int), k ∈ sortU.ins n ms ↔ k = n ∨ k ∈ ms
  | [], k => by simp [sortU.ins]
  | m :: ms, k => by
    have ih := ins_mem n ms k
    unfold sortU.ins
    split
    · rw [List.mem_cons]
    · split
      · rename_i h
        subst h
        rw [List.mem_cons]
        constructor
        · exact .inr
        · rintro (h | h)
          · exact .inl h
          · exact h
      · rw [List.mem_cons, ih, List.mem_cons]
        constructor
        · rintro (h | h | h)
          · exact .inr (.inl h)
          · exact .inl h
          · exact .inr (.inr h)
        · rintro (h | h | h)
          · exact .inr (.inl h)
          · exact .inl h
          · exact .inr (.inr h)
theorem ins_asc (n : Int) : ∀ ms : List Int, ms.Pairwise (· < ·) → (sortU.ins n ms).Pairwise (· < ·)
  | [], _ => by simp [sortU.ins]
  | m :: ms, h => by
    have h' := List.pairwise_cons.mp h
    unfold sortU.ins
    split
    · rename_i l
      refine List.pairwise_cons.mpr ⟨fun k hk => ?_, h⟩
      rcases List.mem_cons.mp hk with e | e
      · rw [e]; exact l
      · exact Int.lt_trans l (h'.1 k e)
    · split
      · exact h
      · rename_i h1 h2
        refine List.pairwise_cons.mpr ⟨fun k hk => ?_, ins_asc n ms h'.2⟩
        rcases (ins_mem n ms k).mp hk with e | e
        · rw [e]; omega
        · exact h'.1 k e
theorem sortU_mem : ∀ (ns : List Int) (k : Int), k ∈ sortU ns ↔ k ∈ ns
  | [], k => by simp [sortU]
  | n :: ns, k => by
    unfold sortU
    rw [ins_mem, sortU_mem ns, List.mem_cons]
theorem sortU_asc : ∀ ns : List Int, (sortU ns).Pairwise (· < ·)
  | [] => by simp [sortU]
  | n :: ns => ins_asc n _ (sortU_asc ns)
theorem ins_len (n : Int) : ∀ ms : List Int, (sortU.ins n ms).length ≤ ms.length + 1
  | [] => by simp [sortU.ins]
  | m :: ms => by
    have ih := ins_len n ms
    unfold sortU.ins
    split
    · simp
    · split
      · simp
      · simp only [List.length_cons]; omega
theorem sortU_len : ∀ ns : List Int, (sortU ns).length ≤ ns.length
  | [] => Nat.le_refl _
  | n :: ns => by
    have := sortU_len ns
    have := ins_len n (sortU ns)
    unfold sortU
    rw [List.length_cons]
    omega
/-- ascending lists with the same members are one -/
theorem asc_same : ∀ {a b : List Int}, a.Pairwise (· < ·) → b.Pairwise (· < ·) → (∀ k, k ∈ a ↔ k ∈ b) → a = b
  | [], [], _, _, _ => rfl
  | [], y :: b, _, _, h => absurd ((h y).mpr List.mem_cons_self) (by simp)
  | x :: a, [], _, _, h => absurd ((h x).mp List.mem_cons_self) (by simp)
  | x :: a, y :: b, ha, hb, h => by
    have ha' := List.pairwise_cons.mp ha
    have hb' := List.pairwise_cons.mp hb
    have e : x = y := by
      have h1 := (h x).mp List.mem_cons_self
      have h2 := (h y).mpr List.mem_cons_self
      rcases List.mem_cons.mp h1 with z | z
      · exact z
      · rcases List.mem_cons.mp h2 with u | u
        · exact u.symm
        · have := hb'.1 x z
          have := ha'.1 y u
          omega
    subst e
    rw [asc_same ha'.2 hb'.2 fun k => ?_]
    have hk := h k
    constructor
    · intro z
      rcases List.mem_cons.mp (hk.mp (List.mem_cons_of_mem _ z)) with u | u
      · rw [u] at z
        exact absurd (ha'.1 x z) (Int.lt_irrefl _)
      · exact u
    · intro z
      rcases List.mem_cons.mp (hk.mpr (List.mem_cons_of_mem _ z)) with u | u
      · rw [u] at z
        exact absurd (hb'.1 x z) (Int.lt_irrefl _)
      · exact u
section
variable {te : TE} {G : Gm} {ns : List Int} {w : World} {K : PySem.W.Frag}
theorem en_sortedSet (h : Ep te G (iD ns)) (hl : ns.length ≤ 60) : En (tCB (rSortedSet w) (tCons (tCB (rSetL w) (tCons te tNil)) tNil)) G ((sortU ns).map PyData.int) := fun pu W0 H0 n σ W H S Q q =>
  h _ _ _ _ _ _ _ S _ fun x W1 H1 m1 r1 => by
    cases r1 with
    | lst h1 h2 =>
      have e := h2.ints
      subst e
      refine ⟨_, ns, rfl, m1.sub _ _ h1, by omega, fun a c ha hc => ?_⟩
      refine ⟨a, _, c, rfl, upd_same, by omega, fun out p ho hm _ hp => ?_⟩
      have z : out = sortU ns := asc_same ho (sortU_asc ns) fun k => by rw [hm k, sortU_mem]; simp
      subst z
      have m2 := m1.trans0 (Mv.fresh (o := SetO w a (fun j => decide (j ∈ ns)) c) m1.sub ha)
      have m3 := m2.trans0 (Mv.fresh (o := .lst ((sortU ns).map V.int)) m2.sub hp)
      exact q p _ W1 _ m3 (freshB m2.ex hp) upd_same (wnone m2.sub hp) (Rps.ofInts _)
end

/-! ### powers, quotients -/
section
variable {X : Cx}
def CCube (i j : Int) : Prop := j = 3 ∧ i.natAbs.log2 < 1000000
theorem op_cube : OpR X (binaryOp .Pow) (rI CCube fun i j => .int (i ^ j.toNat)) := opI fun i j _ _ s Q E hc q => by
  obtain ⟨rfl, h⟩ := hc
  refine wpAny_binaryOp_same (op := .Pow) (T := "int") (typeIs_int s i _) (typeIs_int s 3 _) fills_int_pow slot_int_pow (call_int_pow (by omega) ?_ q)
  have b : Builtin.Int.intBits i ≤ i.natAbs.log2 + 1 := by
    unfold Builtin.Int.intBits
    split <;> omega
  omega
def CDivP (_ j : Int) : Prop := 0 < j
theorem op_fdivP (hp : ∀ s : Shared, (∀ b o, X.base.get? b = some o → s.heap.get? b = some o) → PylongRoom (model X.prog X.w) X.A s) : OpR X (binaryOp .FloorDiv) (rI CDivP fun i j => .int (i / j)) := by
  intro pins s σ H x y v u Q I rx ry h
  obtain ⟨i, j, rfl, rfl, hc, q⟩ := h
  obtain ⟨t, rfl⟩ := rx
  obtain ⟨t', rfl⟩ := ry
  have h1 : (0 : Int) < j := hc
  refine floordiv_int (by omega) ?_ (.inr (hp s I.bk))
  rw [Int.fdiv_eq_ediv_of_nonneg i (by omega)]
  exact ⟨.int (i / j), H, I.tok _, ⟨_, rfl⟩, q⟩
end
end Kr
end
section
/-! K6: list(zip(a, b)). -/
namespace Kr
open PySem PySem.Spec PyProof.Rows L2
open Evl (Ex)
theorem nolen_zip : typeLookup (.type "zip") "__len__" = pure none := by rw [typeLookup_type, builtinLookup_eq_fast]; kernel_rfl
theorem nohint_zip : typeLookup (.type "zip") "__length_hint__" = pure none := by rw [typeLookup_type, builtinLookup_eq_fast]; kernel_rfl

/-- a zip of two lists at turn i, while at S a list is being filled -/
structure Zs (z TI TO i1 i2 l1 l2 S : Addr) (xs ys : Array Value) (i : Nat) (h : Heap) : Prop where
  ti : IsPair h TI (.ref i1) (.ref i2)
  t1 : h.IsListIter i1 l1 i
  t2 : h.IsListIter i2 l2 i
  a1 : h.IsList l1 xs
  a2 : h.IsList l2 ys
  zz : (IsZip h z TI TO .none ∧ ∃ a b, IsPair h TO a b) ∨ ∃ T f oT, IsZipHeld h z TI TO T f ∧ h.get? T = some oT ∧ T ≠ z ∧ T ≠ i1 ∧ T ≠ i2 ∧ T ≠ S
structure Below (z TI TO i1 i2 l1 l2 S : Addr) : Prop where
  z : z < S
  TI : TI < S
  TO : TO < S
  i1 : i1 < S
  i2 : i2 < S
  l1 : l1 < S
  l2 : l2 < S
section
variable {prog : Program} {w : World} {A : Around} {E : Value → Shared → Prop} {s : Shared} {z TI TO i1 i2 l1 l2 S : Addr} {xs ys : Array Value} {i : Nat}
theorem Zs.keep {h h' : Heap} (B : Below z TI TO i1 i2 l1 l2 S) (st : Zs z TI TO i1 i2 l1 l2 S xs ys i h) (k : ∀ b o, b ≠ S → h.get? b = some o → h'.get? b = some o) : Zs z TI TO i1 i2 l1 l2 S xs ys i h' where
  ti := k _ _ (Nat.ne_of_lt B.TI) st.ti
  t1 := st.t1.at fun o e => k _ o (Nat.ne_of_lt B.i1) e
  t2 := st.t2.at fun o e => k _ o (Nat.ne_of_lt B.i2) e
  a1 := st.a1.at fun o e => k _ o (Nat.ne_of_lt B.l1) e
  a2 := st.a2.at fun o e => k _ o (Nat.ne_of_lt B.l2) e
  zz := by
    rcases st.zz with ⟨hz, a, b, hTO⟩ | ⟨T, f, oT, hz, hT, r1, r2, r3, r4⟩
    · exact .inl ⟨k _ _ (Nat.ne_of_lt B.z) hz, a, b, k _ _ (Nat.ne_of_lt B.TO) hTO⟩
    · exact .inr ⟨T, f, oT, k _ _ (Nat.ne_of_lt B.z) hz, k _ _ r4 hT, r1, r2, r3, r4⟩
theorem zl_item {Q : Option Value → Shared → Prop} (D : ZipApart z TI TO i1 i2 l1 l2) (st : Zs z TI TO i1 i2 l1 l2 S xs ys i s.heap) (hS : S < s.heap.objs.size) (hx : i < xs.size) (hy : i < ys.size)
    (hQ : ∀ h', Zs z TI TO i1 i2 l1 l2 S xs ys (i + 1) h' → IsPair h' s.heap.objs.size xs[i] ys[i] → (∀ b o, b ∉ [z, TO, i1, i2] → s.heap.get? b = some o → h'.get? b = some o) → Q (some (.ref s.heap.objs.size)) { s with heap := h' }) :
    wpAny (model prog w) A (pyNext (.ref z)) Q E s := by
  have ex := Array.getElem?_eq_getElem hx
  have ey := Array.getElem?_eq_getElem hy
  have lt : ∀ {c o}, s.heap.get? c = some o → s.heap.objs.size ≠ c := fun e => Nat.ne_of_gt (Heap.lt_size e)
  have n1 : s.heap.objs.size ≠ i1 := let ⟨_, e, _⟩ := st.t1; lt e
  have n2 : s.heap.objs.size ≠ i2 := let ⟨_, e, _⟩ := st.t2; lt e
  rcases st.zz with ⟨hz, a, b, hTO⟩ | ⟨T, f, oT, hz, hT, r1, r2, r3, r4⟩
  · refine wpAny_pyNext_zip_item D hz st.ti hTO st.t1 st.t2 st.a1 st.a2 ex ey fun h' b1 b2 b3 b4 b5 b6 hk => ?_
    exact hQ h' ⟨hk _ _ D.TIz D.TITO D.TIi1 D.TIi2 st.ti, b3, b4, st.a1.at fun o e => hk _ o D.l1z D.l1TO D.l1i1 D.l1i2 e, st.a2.at fun o e => hk _ o D.l2z D.l2TO D.l2i1 D.l2i2 e,
      .inr ⟨s.heap.objs.size, false, _, b1, b5, lt hz, n1, n2, Nat.ne_of_gt hS⟩⟩ b5
      fun c o hc e => hk c o (fun x => hc (by simp [x])) (fun x => hc (by simp [x])) (fun x => hc (by simp [x])) (fun x => hc (by simp [x])) e
  · refine wpAny_pyNext_zip_item_held D hz hT st.ti st.t1 st.t2 st.a1 st.a2 ex ey fun h' b1 b3 b4 b5 b6 hk => ?_
    exact hQ h' ⟨hk _ _ D.TIz D.TIi1 D.TIi2 st.ti, b3, b4, st.a1.at fun o e => hk _ o D.l1z D.l1i1 D.l1i2 e, st.a2.at fun o e => hk _ o D.l2z D.l2i1 D.l2i2 e,
      .inr ⟨T, true, oT, b1, hk _ _ r1 r2 r3 hT, r1, r2, r3, r4⟩⟩ b5
      fun c o hc e => hk c o (fun x => hc (by simp [x])) (fun x => hc (by simp [x])) (fun x => hc (by simp [x])) e
theorem zl_done {Q : Option Value → Shared → Prop} (hA : A.handled = none) (D : ZipApart z TI TO i1 i2 l1 l2) (st : Zs z TI TO i1 i2 l1 l2 S xs ys i s.heap) (he : xs.size ≤ i ∨ ys.size ≤ i)
    (hQ : ∀ h', (∀ b o, b ∉ [z, TO, i1, i2] → s.heap.get? b = some o → h'.get? b = some o) → Q none { s with heap := h' }) : wpAny (model prog w) A (pyNext (.ref z)) Q E s := by
  have hend : xs[i]? = none ∨ ys[i]? = none := he.imp (fun q => Array.getElem?_eq_none q) fun q => Array.getElem?_eq_none q
  rcases st.zz with ⟨hz, a, b, hTO⟩ | ⟨T, f, oT, hz, hT, r1, r2, r3, r4⟩
  · exact wpAny_pyNext_zip_end hA D hz st.ti hTO st.t1 st.t2 st.a1 st.a2 hend fun h' hk => hQ h' fun c o hc e => hk c o (fun x => hc (by simp [x])) (fun x => hc (by simp [x])) (fun x => hc (by simp [x])) (fun x => hc (by simp [x])) e
  · exact wpAny_pyNext_zip_end_held hA D hz hT st.ti st.t1 st.t2 st.a1 st.a2 hend fun h' hk => hQ h' fun c o hc e => hk c o (fun x => hc (by simp [x])) (fun x => hc (by simp [x])) (fun x => hc (by simp [x])) e
end
/-- the pairs made so far, at the addresses as -/
structure Zg (xs ys : Array Value) (S : Addr) (as : List Addr) (h : Heap) : Prop where
  nd : as.Nodup
  up : ∀ a ∈ as, S < a
  pr : ∀ (j : Nat) (a : Addr), as[j]? = some a → ∃ x y, xs[j]? = some x ∧ ys[j]? = some y ∧ h.get? a = some { cls := .type "tuple", data := .seq #[x, y] }
theorem Zg.there {xs ys : Array Value} {S : Addr} {as : List Addr} {h : Heap} (g : Zg xs ys S as h) {a : Addr} (ha : a ∈ as) : a < h.objs.size := by
  obtain ⟨j, hj⟩ := List.mem_iff_getElem?.mp ha
  obtain ⟨_, _, _, _, e⟩ := g.pr j a hj
  exact Heap.lt_size e
section
variable {prog : Program} {w : World} {A : Around} {s : Shared} {R : Result → Shared → Prop} {z TI TO i1 i2 l1 l2 S : Addr} {xs ys : Array Value}
theorem zl_loop (hA : A.handled = none) (D : ZipApart z TI TO i1 i2 l1 l2) (B : Below z TI TO i1 i2 l1 l2 S) (hn : min xs.size ys.size ≤ sizeLine) (res : Value) {h₁ : Heap}
    (hR : ∀ h' tk acc c as, (∀ b o, b ∉ [z, TO, i1, i2] → b ≠ S → h₁.get? b = some o → h'.get? b = some o) → h'.get? S = some { cls := .type "list", dict := none, data := .seq acc c, slots := #[] } → as.length = min xs.size ys.size → Zg xs ys S as h' →
      acc.toList = as.map Value.ref → R (.ok (.ret res)) { s with heap := h', toks := tk }) :
    ∀ (k i : Nat) (h : Heap) (tk c : Nat) (acc : Array Value) (as : List Addr), min xs.size ys.size - i = k → i ≤ min xs.size ys.size → Zs z TI TO i1 i2 l1 l2 S xs ys i h → (∀ b o, b ∉ [z, TO, i1, i2] → b ≠ S → h₁.get? b = some o → h.get? b = some o) →
      h.get? S = some { cls := .type "list", dict := none, data := .seq acc c, slots := #[] } → acc.toList = as.map Value.ref → as.length = i → Zg xs ys S as h →
      codeAny (model prog w) A (.builtin "list.extend.loop" ⟨[.ref S, .ref z, res], []⟩) R { s with heap := h, toks := tk } := by
  have hSz : S ∉ [z, TO, i1, i2] := fun hm => by
    simp only [List.mem_cons, List.not_mem_nil, or_false] at hm
    rcases hm with e | e | e | e
    · exact Nat.ne_of_gt B.z e
    · exact Nat.ne_of_gt B.TO e
    · exact Nat.ne_of_gt B.i1 e
    · exact Nat.ne_of_gt B.i2 e
  have ab : ∀ a : Addr, S < a → a ∉ [z, TO, i1, i2] := fun a ha hm => by
    simp only [List.mem_cons, List.not_mem_nil, or_false] at hm
    rcases hm with e | e | e | e
    · exact Nat.ne_of_gt (Nat.lt_trans B.z ha) e
    · exact Nat.ne_of_gt (Nat.lt_trans B.TO ha) e
    · exact Nat.ne_of_gt (Nat.lt_trans B.i1 ha) e
    · exact Nat.ne_of_gt (Nat.lt_trans B.i2 ha) e
  intro k
  induction k with
  | zero =>
    intro i h tk c acc as hk hi hst hkeep hS hacc hal hG
    have hin : i = min xs.size ys.size := by omega
    refine codeAny_builtin PySem.F.entry_extend_loop ?_
    rw [Around.under_plainId PySem.F.plain_extend_loop _]
    show wpAny _ A.in1 (pyNext (.ref z) >>= _) _ _ _
    refine wpAny_bind (zl_done (s := { s with heap := h, toks := tk }) (A := A.in1) hA D hst (by omega) fun h' he => ?_)
    refine wpAny_pure (hR h' tk acc c as (fun b o h1 h2 e => he b o h1 (hkeep b o h1 h2 e)) (he S _ hSz hS) (by omega) ⟨hG.nd, hG.up, fun j a hj => ?_⟩ hacc)
    obtain ⟨x, y, e1, e2, e3⟩ := hG.pr j a hj
    exact ⟨x, y, e1, e2, he a _ (ab a (hG.up a (List.mem_of_getElem? hj))) e3⟩
  | succ k ih =>
    intro i h tk c acc as hk hi hst hkeep hS hacc hal hG
    have hx : i < xs.size := by omega
    have hy : i < ys.size := by omega
    have hsz : acc.size = i := by rw [← Array.length_toList, hacc, List.length_map, hal]
    have hSl : S < h.objs.size := Heap.lt_size hS
    refine codeAny_builtin PySem.F.entry_extend_loop ?_
    rw [Around.under_plainId PySem.F.plain_extend_loop _]
    show wpAny _ A.in1 (pyNext (.ref z) >>= _) _ _ _
    refine wpAny_bind (zl_item (s := { s with heap := h, toks := tk }) D hst hSl hx hy fun h' hst' ht hkp => ?_)
    dsimp only at ht hkp ⊢
    have hS' := hkp S _ hSz hS
    have up : ∀ b o, b ≠ S → h'.get? b = some o → (h'.update S (Obj.mapSeq (·.push (Value.ref h.objs.size)))).get? b = some o := fun b o hb e => (Heap.get?_update_other _ _ (Ne.symm hb)).trans e
    show wpAny _ A.in1 (updateSeq S (·.push (Value.ref h.objs.size)) >>= _) _ _ _
    refine wpAny_bind ?_
    refine wpAny_updateSeq hS' rfl (wpAny_pure ⟨plainId_quiet PySem.F.plain_extend_loop _, ih (i + 1) _ tk _ (acc.push (Value.ref h.objs.size)) (as ++ [h.objs.size]) (by omega) (by omega) (hst'.keep B up)
      (fun b o h1 h2 e => up b o h2 (hkp b o h1 (hkeep b o h1 h2 e))) (Heap.get?_update_self _ hS' rfl) (by rw [Array.toList_push, hacc, List.map_append]; rfl) (by rw [List.length_append, hal]; rfl) ⟨?_, ?_, ?_⟩⟩) (by rw [hsz]; omega) (by show (acc.push (Value.ref h.objs.size)).size ≤ sizeLine + 1; rw [Array.size_push, hsz]; omega)
    · refine List.nodup_append.mpr ⟨hG.nd, by simp, fun a ha b hb => ?_⟩
      rw [List.mem_singleton.mp hb]
      exact Nat.ne_of_lt (hG.there ha)
    · intro a ha
      rcases List.mem_append.mp ha with ha | ha
      · exact hG.up a ha
      · rw [List.mem_singleton.mp ha]; exact hSl
    · intro j b hj
      rcases Nat.lt_trichotomy j as.length with h1 | h1 | h1
      · rw [List.getElem?_append_left h1] at hj
        obtain ⟨x, y, e1, e2, e3⟩ := hG.pr j b hj
        have hb := hG.up b (List.mem_of_getElem? hj)
        exact ⟨x, y, e1, e2, up b _ (Nat.ne_of_gt hb) (hkp b _ (ab b hb) e3)⟩
      · have hb : h.objs.size = b := by rw [h1] at hj; simpa using hj
        subst hb
        have ej : j = i := by omega
        rw [ej]
        exact ⟨_, _, Array.getElem?_eq_getElem hx, Array.getElem?_eq_getElem hy, up _ _ (Nat.ne_of_gt hSl) ht⟩
      · have hnone : (as ++ [h.objs.size])[j]? = none := List.getElem?_eq_none (by rw [List.length_append, List.length_singleton]; omega)
        rw [hnone] at hj; cases hj
theorem zl_call {E : Value → Shared → Prop} {Q : Value → Shared → Prop} (hh : A.handled = none) (D : ZipApart z TI TO i1 i2 l1 l2) (B : Below z TI TO i1 i2 l1 l2 s.heap.objs.size) (hz : IsZip s.heap z TI TO .none) (hTI : IsPair s.heap TI (.ref i1) (.ref i2)) (hTO : ∃ a b, IsPair s.heap TO a b)
    (h1 : s.heap.IsListIter i1 l1 0) (h2 : s.heap.IsListIter i2 l2 0) (hl1 : s.heap.IsList l1 xs) (hl2 : s.heap.IsList l2 ys) (hn : min xs.size ys.size ≤ sizeLine)
    (hQ : ∀ h' tk acc c as, (∀ b o, b ∉ [z, TO, i1, i2] → s.heap.get? b = some o → h'.get? b = some o) → h'.get? s.heap.objs.size = some { cls := .type "list", dict := none, data := .seq acc c, slots := #[] } → as.length = min xs.size ys.size → Zg xs ys s.heap.objs.size as h' →
      acc.toList = as.map Value.ref → Q (.ref s.heap.objs.size) { s with heap := h', toks := tk }) :
    wpAny (model prog w) A (call (.type "list") [.ref z]) Q E s := by
  refine callType_codes (Q₁ := fun obj s₁ => obj = .ref s.heap.objs.size ∧ s₁ = { s with heap := s.heap.push { cls := .type "list", data := .seq #[] } }) PySem.F.called_list (PySem.F.typeCall_list_1 _) PySem.F.entry_list_init
    (code_list_new _ ⟨rfl, rfl⟩) fun obj s₁ h₁ => ?_
  obtain ⟨rfl, rfl⟩ := h₁
  have hS : (s.heap.push { cls := .type "list", data := .seq #[] }).get? s.heap.objs.size = some { cls := .type "list", data := .seq #[] } := Heap.get?_push_size _ rfl
  have pu : ∀ b o, s.heap.get? b = some o → (s.heap.push { cls := .type "list", data := .seq #[] }).get? b = some o := fun b o e => Heap.get?_push_of_some _ e
  refine ⟨⟨_, hS, rfl⟩, PySem.F.args_list_init_2 _ _, ?_⟩
  show wpAny _ _ (do let old ← Builtin.List.listItems (.ref s.heap.objs.size); Builtin.List.listUpdate (.ref s.heap.objs.size) (fun _ => #[]); letGo old.toList.reverse; Builtin.List.listExtendWith (.ref s.heap.objs.size) (.ref z) .none) _ _ _
  refine wpAny_bind ?_
  unfold Builtin.List.listItems
  refine wpAny_bind (wpAny_seqItems hS rfl (wpAny_pure ?_))
  show wpAny _ _ (updateSeq s.heap.objs.size (fun _ => #[]) >>= fun _ => letGo (#[] : Array Value).toList.reverse >>= fun _ => Builtin.List.listExtendWith (.ref s.heap.objs.size) (.ref z) .none) _ _ _
  refine wpAny_bind (wpAny_updateSeq hS rfl ?_)
  have hS₂ := Heap.get?_update_self (Obj.mapSeq (fun _ => (#[] : Array Value))) hS rfl
  refine wpAny_bind (wpAny_letGo ?_)
  generalize hh2 : ((s.heap.push { cls := .type "list", data := .seq #[] }).update s.heap.objs.size (Obj.mapSeq (fun _ => (#[] : Array Value)))) = h2 at *
  have k2 : ∀ b o, s.heap.get? b = some o → h2.get? b = some o := fun b o e => by
    rw [← hh2]
    exact (Heap.get?_update_other _ _ (Nat.ne_of_gt (Heap.lt_size e))).trans (pu b o e)
  have hS2' : h2.get? s.heap.objs.size = some { cls := .type "list", dict := none, data := .seq #[], slots := #[] } := hS₂
  have key : ∀ (h : Heap) (c₁ tk : Nat), (∀ b o, b ≠ s.heap.objs.size → h2.get? b = some o → h.get? b = some o) → h.get? s.heap.objs.size = some { cls := .type "list", data := .seq #[] c₁ } →
      codeAny (model prog w) A.in1 (.builtin "list.extend.loop" ⟨[.ref s.heap.objs.size, .ref z, .none], []⟩) (wants (fun r s₂ => r = .none ∧ Q (.ref s.heap.objs.size) s₂) E) { s with heap := h, toks := tk } := by
    intro h c₁ tk hk hS₁
    have k3 : ∀ b o, s.heap.get? b = some o → h.get? b = some o := fun b o e => hk b o (Nat.ne_of_lt (Heap.lt_size e)) (k2 b o e)
    obtain ⟨ta, tb, hTO⟩ := hTO
    refine zl_loop (A := A.in1) (S := s.heap.objs.size) (xs := xs) (ys := ys) (s := s) (h₁ := s.heap) hh D B hn .none (fun h' tk' acc c as hk' hS' hl hG hacc => ?_)
      (min xs.size ys.size) 0 h tk c₁ #[] [] (Nat.sub_zero _) (Nat.zero_le _) ⟨k3 _ _ hTI, h1.at fun o e => k3 _ o e, ?_, hl1.at fun o e => k3 _ o e, hl2.at fun o e => k3 _ o e, .inl ⟨k3 _ _ hz, ta, tb, k3 _ _ hTO⟩⟩ (fun b o _ _ e => k3 b o e) hS₁ rfl rfl
      ⟨List.nodup_nil, (fun _ ha => nomatch ha), (fun j a hj => by simp at hj)⟩
    · exact ⟨rfl, hQ h' tk' acc c as (fun b o hb e => hk' b o hb (Nat.ne_of_lt (Heap.lt_size e)) e) hS' hl hG hacc⟩
    · rename_i h2i
      obtain ⟨o, ho, r⟩ := h2i
      exact ⟨o, k3 _ _ ho, r⟩
  have hzS : s.heap.objs.size ≠ z := Nat.ne_of_gt B.z
  have hz2 : IsZip h2 z TI TO .none := k2 _ _ hz
  have hT2 : Shared.TypeIs { s with heap := h2 } (.ref z) "zip" := ⟨_, hz2, rfl⟩
  show wpAny _ A.in1.in1 (Builtin.List.listExtendWith (.ref s.heap.objs.size) (.ref z) .none) _ _ { s with heap := h2 }
  unfold Builtin.List.listExtendWith
  refine wpAny_bind (wpAny_typeOf hT2 ?_)
  have e1 : Builtin.List.listSameRef (.ref s.heap.objs.size) (.ref z) = false := by simp [Builtin.List.listSameRef, hzS]
  have e2 : (Value.type "zip" == Value.type "list") = false := by decide
  have e3 : (Value.type "zip" == Value.type "tuple") = false := by decide
  simp only [e1, e2, e3, Bool.or_false, Bool.false_eq_true, if_false]
  refine wpAny_bind (wpAny_pyIter_zip hz2 ?_)
  refine wpAny_bind (wpAny_holding ?_)
  unfold Builtin.List.listLengthHint
  refine wpAny_bind (wpAny_specialOf hT2 nolen_zip ?_)
  show wpAny _ A.in1.in1 (specialOf (Value.ref z) (Str.ofString "__length_hint__") >>= _) _ _ _
  refine wpAny_bind (wpAny_specialOf hT2 nohint_zip ?_)
  refine wpAny_pure ?_
  show wpAny _ A.in1.in1 (rule "list.extend.makes-room" >>= fun _ => Builtin.List.listTouch (.ref s.heap.objs.size) >>= fun _ =>
    again (.builtin "list.extend.loop" ⟨[.ref s.heap.objs.size, .ref z, .none], []⟩)) _ _ _
  refine wpAny_bind (wpAny_rule ?_)
  refine wpAny_bind ?_
  show wpAny _ A.in1.in1 (updateSeq s.heap.objs.size (·.push .none) >>= fun _ => updateSeq s.heap.objs.size (·.pop)) _ _ _
  refine wpAny_bind (wpAny_updateSeq hS2' rfl ?_)
  have hS₃ := Heap.get?_update_self (Obj.mapSeq (·.push Value.none)) hS2' rfl
  refine wpAny_updateSeq hS₃ rfl ?_
  have hS₄ := Heap.get?_update_self (Obj.mapSeq (·.pop)) hS₃ rfl
  exact wpAny_pure ⟨plainId_quiet PySem.F.plain_extend_loop _, key _ _ _ (fun b o hb e => (Heap.get?_update_other _ _ (Ne.symm hb)).trans ((Heap.get?_update_other _ _ (Ne.symm hb)).trans e)) hS₄⟩
end

/-! ### the tuples as tracked -/
def putP : Hp → List Addr → List (V × V) → Hp
  | H, a :: as, p :: ps => putP (upd H a (.tup [p.1, p.2])) as ps
  | H, _, _ => H
theorem putP_off {b : Addr} : ∀ (as : List Addr) (ps : List (V × V)) (H : Hp), b ∉ as → putP H as ps b = H b
  | [], _, _, _ => rfl
  | _ :: _, [], _, _ => rfl
  | a :: as, p :: ps, H, h => by
    show putP (upd H a (.tup [p.1, p.2])) as ps b = H b
    rw [putP_off as ps _ (fun z => h (List.mem_cons_of_mem _ z)), upd_ne (fun z => h (by rw [z]; exact List.mem_cons_self))]
theorem putP_at : ∀ (as : List Addr) (ps : List (V × V)) (H : Hp), as.length = ps.length → as.Nodup → ∀ (j : Nat) (a : Addr), as[j]? = some a → ∃ p, ps[j]? = some p ∧ putP H as ps a = some (.tup [p.1, p.2])
  | [], _, _, _, _ => fun j a h => by simp at h
  | _ :: _, [], _, h, _ => by cases h
  | a :: as, p :: ps, H, h, hn => by
    have hn' := List.nodup_cons.mp hn
    intro j b hj
    cases j with
    | zero =>
      have e : a = b := by simpa using hj
      subst e
      refine ⟨p, rfl, ?_⟩
      show putP (upd H a (.tup [p.1, p.2])) as ps a = _
      rw [putP_off as ps _ hn'.1, upd_same]
    | succ j => exact putP_at as ps (upd H a (.tup [p.1, p.2])) (Nat.succ.inj h) hn'.2 j b (by simpa using hj)
theorem zipIs {xs ys : List V} {us vs : List Value} (hx : Vals xs us) (hy : Vals ys vs) {j : Nat} {p : V × V} (h : (xs.zip ys)[j]? = some p) {x y : Value} (ex : us.toArray[j]? = some x) (ey : vs.toArray[j]? = some y) : RelV p.1 x ∧ RelV p.2 y := by
  rw [List.getElem?_zip_eq_some] at h
  obtain ⟨u, hu, ru⟩ := hx.get h.1
  obtain ⟨v, hv, rv⟩ := hy.get h.2
  have e1 : us[j]? = some x := by simpa using ex
  have e2 : vs[j]? = some y := by simpa using ey
  rw [hu] at e1
  rw [hv] at e2
  cases e1
  cases e2
  exact ⟨ru, rv⟩
def rListZip : List V → Hp → VK → Prop := fun vs H2 Q => ∃ (a b : Addr) (xs ys : List V), vs = [.ref a, .ref b] ∧ H2 a = some (.lst xs) ∧ H2 b = some (.lst ys) ∧
  ∀ (H' : Hp) (p : Addr) (ts : List Addr), (∀ c o, H2 c = some o → H' c = some o) → H2 p = none → (∀ t ∈ ts, H2 t = none) → p ∉ ts → H' p = some (.lst (ts.map V.ref)) → ts.length = (xs.zip ys).length → ts.Nodup →
    (∀ (j : Nat) (t : Addr), ts[j]? = some t → ∃ q, (xs.zip ys)[j]? = some q ∧ H' t = some (.tup [q.1, q.2])) → Q (.ref p) H'
section
variable {X : Cx} {ea eb : Expr} {ta : TA} {p p2 pos pos2 : Pos}
theorem pairs_laid {pins : List (Addr × Obj)} {σ : L2.St} {H : Hp} {s : Shared} {h' : Heap} {tk : Nat} {xs ys : List V} {us vs : List Value} {acc : Array Value} {c : Nat} {S : Addr} {as : List Addr} (I : Inv X pins σ H s) (hz : (xs.zip ys).length ≤ sizeLine) (rx : Vals xs us) (ry : Vals ys vs)
    (hk : ∀ b o, s.heap.get? b = some o → h'.get? b = some o) (hlo : s.heap.objs.size ≤ S) (hS : h'.get? S = some { cls := .type "list", dict := none, data := .seq acc c, slots := #[] }) (hl : as.length = (xs.zip ys).length) (hG : Zg us.toArray vs.toArray S as h') (hacc : acc.toList = as.map Value.ref) :
    ∃ H' : Hp, (∀ b o, H b = some o → H' b = some o) ∧ H S = none ∧ (∀ t ∈ as, H t = none) ∧ S ∉ as ∧ H' S = some (.lst (as.map V.ref)) ∧ (∀ (j : Nat) (t : Addr), as[j]? = some t → ∃ q, (xs.zip ys)[j]? = some q ∧ H' t = some (.tup [q.1, q.2])) ∧ Inv X pins σ H' { s with heap := h', toks := tk } := by
  have hSn : S ∉ as := fun z => Nat.lt_irrefl _ (hG.up _ z)
  have new : ∀ t ∈ as, H t = none := fun t ht => I.hok.fresh (Nat.le_trans hlo (Nat.le_of_lt (hG.up t ht)))
  have newS : H S = none := I.hok.fresh hlo
  have atP := putP_at as (xs.zip ys) (upd H S (.lst (as.map V.ref))) hl hG.nd
  have off : ∀ b, b ∉ as → b ≠ S → putP (upd H S (.lst (as.map V.ref))) as (xs.zip ys) b = H b := fun b h1 h2 => by rw [putP_off as _ _ h1, upd_ne h2]
  have low : ∀ b o, s.heap.get? b = some o → b ∉ as ∧ b ≠ S := fun b o e => ⟨fun z => absurd (Heap.lt_size e) (Nat.not_lt.mpr (Nat.le_trans hlo (Nat.le_of_lt (hG.up b z)))), Nat.ne_of_lt (Nat.lt_of_lt_of_le (Heap.lt_size e) hlo)⟩
  have kp : ∀ b u, H b = some u → (putP (upd H S (.lst (as.map V.ref))) as (xs.zip ys)) b = some u := fun b u e => by
    rw [off b (fun z => by rw [new b z] at e; cases e) (fun z => by rw [z, newS] at e; cases e)]
    exact e
  have eS : putP (upd H S (.lst (as.map V.ref))) as (xs.zip ys) S = some (.lst (as.map V.ref)) := by rw [putP_off as _ _ hSn, upd_same]
  refine ⟨putP (upd H S (.lst (as.map V.ref))) as (xs.zip ys), kp, newS, new, hSn, eS, atP, ?_⟩
  refine I.call' (ch := []) rfl ⟨fun b o q _ _ _ => hk b o q, fun b o q _ _ _ => ⟨o.slots, hk b o q⟩, fun b o q n _ => ?_, fun b o q _ => ⟨o, hk b o q⟩, fun b xs q => kp b _ q, fun b o u q => kp b _ q, fun b ps q => ⟨#[], by rw [kp b _ q]; simp⟩⟩ (fun b u q => ?_) I.bare fun b z => by simp at z
  · obtain ⟨z1, z2⟩ := low b o q
    rw [off b z1 z2]
    exact n
  · by_cases hb : b ∈ as
    · obtain ⟨j, e1⟩ := List.mem_iff_getElem?.mp hb
      obtain ⟨pk, e2, e3⟩ := atP j b e1
      rw [e3] at q
      cases q
      obtain ⟨x, y, f1, f2, f3⟩ := hG.pr j b e1
      obtain ⟨r1, r2⟩ := zipIs rx ry e2 f1 f2
      exact ⟨by show 2 ≤ sizeLine; decide, [x, y], .cons r1 (.cons r2 .nil), ⟨_, f3, rfl, _, rfl⟩⟩
    · by_cases hb2 : b = S
      · rw [hb2] at q ⊢
        rw [eS] at q
        cases q
        refine ⟨by rw [List.length_map]; omega, acc.toList, c, by rw [hacc]; exact LiI.vals_refs as, ?_⟩
        rw [Array.toArray_toList]
        exact hS
      · rw [off b hb hb2] at q
        exact (I.hok b u q).stay (fun d v _ y => hk d v y) (fun d y => kp d _ y) fun d xs y => kp d _ y
theorem pe_listZip (hc : X.calm = true) (hg : Gl X "list") (hm : X.mg "list" = none) (hg2 : Gl X "zip") (hm2 : X.mg "zip" = none) (ha : PA X [ea, eb] ta)
    (na : starEach [.Call (.Name "zip" p2) [ea, eb] [] pos2] X.env = (false, eval (.Call (.Name "zip" p2) [ea, eb] [] pos2) X.env) :: starEach [] X.env := by rfl)
    (n1 : starEach [ea, eb] X.env = (false, eval ea X.env) :: starEach [eb] X.env := by rfl)
    (hpl : (backTo pos2 (starEach [eb] X.env)).any (·.1) = false := by rfl) :
    PE X (.Call (.Name "list" p) [.Call (.Name "zip" p2) [ea, eb] [] pos2] [] pos) (tCB rListZip ta) := by
  refine ⟨fun pins s σ H Q I h => ?_⟩
  refine Call_ (ld_blt I hg hm PyProof.Rows.boot_list (PyProof.Rows.callWith_type1 (PyProof.Rows.args_cons ?_ na) na))
  refine Call_ (ld_blt I hg2 hm2 PyProof.Rows.boot_zip (PyProof.Rows.callWith_type1 (thn (ha.run pos2 pins s σ H _ I h) fun us s1 ⟨vs, H1, I1, r1, q1⟩ => ?_) n1 hpl))
  obtain ⟨a, b, xs, ys, rfl, hqx, hqy, q⟩ := q1
  cases r1 with
  | cons r rr =>
    cases rr with
    | cons r' rr =>
      cases rr
      cases r
      cases r'
      obtain ⟨z1, its, n1, rv, hl1, p1⟩ := I1.lstM hqx
      obtain ⟨z2, its2, n2, rv2, hl2, p2⟩ := I1.lstM hqy
      have la : a < s1.heap.objs.size := Heap.lt_size p1
      have lb : b < s1.heap.objs.size := Heap.lt_size p2
      have hxl : s1.heap.IsList a its.toArray := ⟨_, p1, rfl, n1, rfl⟩
      have hyl : s1.heap.IsList b its2.toArray := ⟨_, p2, rfl, n2, rfl⟩
      refine call_zip_2 hxl hyl fun h' hz hTI hTO h1 h2 hsz hk => ?_
      refine PyProof.Rows.args_nil ?_
      have lt : ∀ k : Nat, k < 5 → s1.heap.objs.size + k < h'.objs.size := fun k hk5 => by rw [hsz]; exact Nat.add_lt_add_left hk5 _
      have l0 : s1.heap.objs.size < h'.objs.size := lt 0 (by decide)
      have ml : min its.toArray.size its2.toArray.size = (xs.zip ys).length := by rw [List.length_zip, hl1, hl2, List.size_toArray, List.size_toArray]
      refine zl_call (s := { s1 with heap := h' }) (I1.ok.hd hc) (PySem.W.ktu_apart s1.heap.objs.size a b la lb) ⟨lt 4 (by decide), lt 2 (by decide), lt 3 (by decide), l0, lt 1 (by decide), Nat.lt_trans la l0, Nat.lt_trans lb l0⟩
        hz hTI ⟨_, _, hTO⟩ h1 h2 (hxl.at fun o e => hk _ o e) (hyl.at fun o e => hk _ o e) (by rw [ml, List.length_zip]; omega) fun h2' tk acc c as hk2 hS hl hG hacc => ?_
      have kk : ∀ b o, s1.heap.get? b = some o → h2'.get? b = some o := fun b o e => hk2 b o (fun hm => by
        have hb := Heap.lt_size e
        simp only [List.mem_cons, List.not_mem_nil, or_false] at hm
        rcases hm with z | z | z | z
        · exact absurd hb (Nat.not_lt.mpr (by rw [z]; exact Nat.le_add_right _ _))
        · exact absurd hb (Nat.not_lt.mpr (by rw [z]; exact Nat.le_add_right _ _))
        · exact absurd hb (Nat.not_lt.mpr (by rw [z]; exact Nat.le_refl _))
        · exact absurd hb (Nat.not_lt.mpr (by rw [z]; exact Nat.le_add_right _ _))) (hk b o e)
      obtain ⟨H', k1, k2, k3, k4, k5, k6, J⟩ := pairs_laid (tk := tk) I1 (by rw [List.length_zip]; omega) rv rv2 kk (Nat.le_of_lt l0) hS (by rw [hl, ml]) hG hacc
      exact ⟨.ref _, H', J, rfl, q H' _ as k1 k2 k3 k4 k5 (by rw [hl, ml]) hG.nd k6⟩
end

/-! ### as data -/
theorem zip_rps {W : Hp} : ∀ {xs ys : List V} {ds es : List D} {j : Nat} {q : V × V}, Rps W xs ds → Rps W ys es → (xs.zip ys)[j]? = some q → ∃ a b, (zipD ds es)[j]? = some (.tuple [a, b]) ∧ Rp W q.1 a ∧ Rp W q.2 b := by
  intro xs ys ds es j q hx hy h
  rw [List.getElem?_zip_eq_some] at h
  obtain ⟨a, ha, ra⟩ := hx.getV h.1
  obtain ⟨b, hb, rb⟩ := hy.getV h.2
  refine ⟨a, b, ?_, ra, rb⟩
  unfold zipD
  rw [List.getElem?_zipWith, ha, hb]
theorem rps_of {W : Hp} : ∀ {vs : List V} {ds : List D}, vs.length = ds.length → (∀ (j : Nat) (v : V), vs[j]? = some v → ∃ d, ds[j]? = some d ∧ Rp W v d) → Rps W vs ds
  | [], [], _, _ => .nil
  | [], _ :: _, h, _ => by cases h
  | _ :: _, [], h, _ => by cases h
  | v :: vs, d :: ds, h, k => by
    obtain ⟨d', e, r⟩ := k 0 v rfl
    cases e
    exact .cons r (rps_of (Nat.succ.inj h) fun j u hu => by
      obtain ⟨d2, e2, r2⟩ := k (j + 1) u (by simpa using hu)
      exact ⟨d2, by simpa using e2, r2⟩)
/-- new objects at p and at as, of which as is leant on -/
noncomputable def leanW (W H' : Hp) (as : List Addr) : Hp := fun a => match W a with
  | some o => some o
  | none => open Classical in if a ∈ as then H' a else none
theorem en_listZip {tr : TA} {G : Gm} {ds es : List D} (h : Ea tr G [.list ds, .list es]) : En (tCB rListZip tr) G (zipD ds es) := fun pu W0 H0 n σ W H S Q q =>
  h _ _ _ _ _ _ _ S _ fun vs W1 H1 m1 r1 => by
    cases r1 with
    | cons a b =>
      cases b with
      | cons b c =>
        cases c
        cases a with
        | lst h1 h2 =>
          cases b with
          | lst h3 h4 =>
            refine ⟨_, _, _, _, rfl, m1.sub _ _ h1, m1.sub _ _ h3, fun H' p ts k1 k2 k3 k4 k5 k6 k7 k8 => ?_⟩
            have some1 : ∀ a o, W1 a = some o → leanW W1 H' ts a = some o := fun a o e => by unfold leanW; rw [e]
            have w1t : ∀ t ∈ ts, leanW W1 H' ts t = H' t := fun t ht => by
              unfold leanW
              rw [wnone m1.sub (k3 t ht)]
              exact if_pos ht
            have w1n : ∀ a, W1 a = none → a ∉ ts → leanW W1 H' ts a = none := fun a e ht => by
              unfold leanW
              rw [e]
              exact if_neg ht
            have sub2 : Ex (leanW W1 H' ts) H' := fun a o e => by
              cases w : W1 a with
              | some u => rw [some1 a u w] at e; cases e; exact k1 _ _ (m1.sub _ _ w)
              | none =>
                by_cases ht : a ∈ ts
                · rw [w1t a ht] at e; exact e
                · rw [w1n a w ht] at e; cases e
            have m2 : Mv none W1 H1 (leanW W1 H' ts) H' := ⟨some1, sub2, fun a o e _ => k1 a o e, fun a w hn => w1n a w fun ht => hn (k3 a ht)⟩
            refine q p _ _ H' (m1.trans0 m2) (freshB m1.ex k2) k5 (w1n p (wnone m1.sub k2) k4) (rps_of ?_ fun j v hv => ?_)
            · rw [List.length_map, k6, List.length_zip, h2.length, h4.length]
              unfold zipD
              rw [List.length_zipWith]
            · rw [List.getElem?_map] at hv
              cases ht : ts[j]? with
              | none => rw [ht] at hv; cases hv
              | some t =>
                rw [ht] at hv
                cases hv
                obtain ⟨u, e1, e2⟩ := k8 j t ht
                obtain ⟨d1, d2, f1, f2, f3⟩ := zip_rps h2 h4 e1
                refine ⟨_, f1, .tup ?_ (.cons (f2.up some1) (.cons (f3.up some1) .nil))⟩
                rw [w1t t (List.mem_of_getElem? ht)]
                exact e2
end Kr
end
section
/-! K7: names stored side by side, a new list among them. -/
namespace Kr
open PySem L2
open Evl (Ex)
section
variable {te ta tb tc : TE} {tr : TA} {G : Gm} {n : Nat} {N : Gm → Nat → Prop} {R : D → Nat → Prop} {a c e : D} {xs : List D} {i j l : Nat}
theorem sx_par2N2 (h1 : Ep ta G a) (h2 : En tb G xs) (k : N ((G.set i (some (.fro a))).set j (some (.own xs))) n) : Sx (tPar i j (tCons ta (tCons tb tNil))) G n N R := fun pu W0 H0 σ W H E S hn hr =>
  h1 _ _ _ _ _ _ _ S _ fun v W1 H1 m1 r1 => h2 _ _ _ _ _ _ _ (S.go m1) _ fun p vs W2 H2 m2 f hp wp rs =>
    ⟨_, _, rfl, hn _ _ _ _ _ k (m1.ww.trans m2.ww) (((S.go m1).put (i := i) r1).putO (i := j) m2 f hp wp rs)⟩
theorem sx_par3N1 (h1 : En ta G xs) (h2 : Ep tb G c) (h3 : Ep tc G e) (k : N (((G.set i (some (.own xs))).set j (some (.fro c))).set l (some (.fro e))) n) : Sx (tPar3 i j l (tCons ta (tCons tb (tCons tc tNil)))) G n N R := fun pu W0 H0 σ W H E S hn hr =>
  h1 _ _ _ _ _ _ _ S _ fun p vs W1 H1 m1 f hp wp rs => h2 _ _ _ _ _ _ _ (S.go m1) _ fun v W2 H2 m2 r2 => h3 _ _ _ _ _ _ _ (S.go (m1.trans0 m2)) _ fun u W3 H3 m3 r3 => by
    have m := m2.trans0 m3
    have hp2 : H3 p = some (.lst vs) := m.ex _ _ hp
    have wp2 : W3 p = none := m.new _ wp (by rw [hp]; exact fun z => nomatch z)
    exact ⟨_, _, _, rfl, hn _ _ _ _ _ k (m1.ww.trans m.ww) (((S.putO (i := i) (m1.trans0 m) f hp2 wp2 (rs.up m.ww)).put (i := j) (r2.up m3.ww)).put (i := l) r3)⟩
theorem sx_par3N2 (h1 : Ep ta G a) (h2 : En tb G xs) (h3 : Ep tc G e) (k : N (((G.set i (some (.fro a))).set j (some (.own xs))).set l (some (.fro e))) n) : Sx (tPar3 i j l (tCons ta (tCons tb (tCons tc tNil)))) G n N R := fun pu W0 H0 σ W H E S hn hr =>
  h1 _ _ _ _ _ _ _ S _ fun v W1 H1 m1 r1 => h2 _ _ _ _ _ _ _ (S.go m1) _ fun p vs W2 H2 m2 f hp wp rs => h3 _ _ _ _ _ _ _ (S.go (m1.trans0 m2)) _ fun u W3 H3 m3 r3 => by
    have hp2 : H3 p = some (.lst vs) := m3.ex _ _ hp
    have wp2 : W3 p = none := m3.new _ wp (by rw [hp]; exact fun z => nomatch z)
    exact ⟨_, _, _, rfl, hn _ _ _ _ _ k ((m1.ww.trans m2.ww).trans m3.ww) ((((S.go m1).put (i := i) r1).putO (i := j) (m2.trans0 m3) f hp2 wp2 (rs.up m3.ww)).put (i := l) r3)⟩
theorem sx_par3N3 (h1 : Ep ta G a) (h2 : Ep tb G c) (h3 : En tc G xs) (k : N (((G.set i (some (.fro a))).set j (some (.fro c))).set l (some (.own xs))) n) : Sx (tPar3 i j l (tCons ta (tCons tb (tCons tc tNil)))) G n N R := fun pu W0 H0 σ W H E S hn hr =>
  h1 _ _ _ _ _ _ _ S _ fun v W1 H1 m1 r1 => h2 _ _ _ _ _ _ _ (S.go m1) _ fun u W2 H2 m2 r2 => h3 _ _ _ _ _ _ _ (S.go (m1.trans0 m2)) _ fun p vs W3 H3 m3 f hp wp rs =>
    ⟨_, _, _, rfl, hn _ _ _ _ _ k ((m1.ww.trans m2.ww).trans m3.ww) ((((S.go (m1.trans0 m2)).put (i := i) (r1.up m2.ww)).put (i := j) r2).putO (i := l) m3 f hp wp rs)⟩
/-- e: a list's new copy, own or standing still -/
theorem en_catN {xs ys : List D} (h1 : Ep ta G (.list xs)) (h2 : Ep tb G (.list ys)) (hz : xs.length + ys.length ≤ 100000) : En (tOp rCat ta tb) G (xs ++ ys) := en_op h1 h2 (on_cat hz)
theorem en_repN {xs : List D} {k : Nat} (h1 : Ep ta G (.list xs)) (h2 : Ep tb G (.int (k : Int))) (hz : xs.length * k ≤ 100000) (hk : k ≤ 100000) : En (tOp rRep ta tb) G (List.replicate k xs).flatten := en_op h1 h2 (on_rep hz hk)
/-- the own list at a slot read as standing still -/
theorem frz_own {i : Nat} {xs : List D} (h : G[i]? = some (some (.own xs))) : (frz G)[i]? = some (some (.fro (.list xs))) := by
  unfold frz
  rw [List.getElem?_map, h]
  rfl
/-- name = e that reads own lists, and is plain -/
theorem sx_asgZ (h : Ep te (frz G) a) (s : scl a = true) (k : N (G.set i (some (.fro a))) n) : Sx (tAsg te (gName i)) G n N R := sx_asg (ep_fz h s) k
end
section
variable {X : Cx} {w : World}
theorem lenSetK (h : X.w = w := by rfl) : CallR X (.builtin "len") (rLenSet w) := h ▸ cr_lenSet
theorem setK (hc : X.calm = true) (h : X.w = w := by rfl) : CallR X (.type "set") (rSetL w) := h ▸ cr_setL hc
theorem sortSetK (hc : X.calm = true) (h : X.w = w := by rfl) : CallR X (.builtin "sorted") (rSortedSet w) := h ▸ cr_sortedSet hc
end
end Kr
end
section
namespace Kr
open PySem L2
open Evl (Ex)
open C8 (Cal pe_c)
local macro_rules | `(tactic| walk_at "ev") => `(tactic| skip)
local macro_rules | `(tactic| walk_at "ev") => `(tactic| first
  | with_reducible exact ep_int
  | with_reducible exact ep_bl
  | with_reducible exact ep_non
  | with_reducible exact ea_nil
  | with_reducible exact et_yes
  | with_reducible exact eo_no
  | ((with_reducible apply ep_var); rfl)
  | (with_reducible apply ea_cons) <;> walk_at "ev"
  | (with_reducible apply ep_op) <;> walk_at "ev"
  | (with_reducible apply ep_un) <;> walk_at "ev"
  | (with_reducible apply ep_isi) <;> walk_at "ev"
  | ((with_reducible apply ep_lenV); rfl)
  | (with_reducible apply ep_len) <;> walk_at "ev"
  | (with_reducible apply ep_abs) <;> walk_at "ev"
  | (with_reducible apply ep_int1) <;> walk_at "ev"
  | (with_reducible apply ep_max2) <;> walk_at "ev"
  | (with_reducible apply ep_min2) <;> walk_at "ev"
  | (with_reducible apply et_test) <;> walk_at "ev"
  | (with_reducible apply et_B) <;> walk_at "ev"
  | (with_reducible apply et_not) <;> walk_at "ev"
  | (with_reducible apply ep_notV) <;> walk_at "ev"
  | (with_reducible apply ep_tup) <;> walk_at "ev"
  | (with_reducible apply eo_part) <;> walk_at "ev"
  | with_reducible exact od_i
  | with_reducible exact od_b
  | with_reducible exact od_eqI
  | with_reducible exact od_neI
  | with_reducible exact od_isN
  | with_reducible exact od_notN
  | with_reducible exact od_notB
  | with_reducible apply od_c
  | with_reducible exact od_ixT0
  | with_reducible exact od_ixT1
  | with_reducible exact od_ixL0
  | with_reducible exact od_ixL1
  | with_reducible exact od_ixL2
  | with_reducible apply od_ixL
  | with_reducible apply od_ixT
  | with_reducible exact ud_neg
  | (with_reducible refine' et_or ?_ (fun _ => ?_)) <;> walk_at "ev"
  | (with_reducible refine' et_and ?_ (fun _ => ?_)) <;> walk_at "ev"
  | (with_reducible refine' ep_orV ?_ (fun _ => ?_)) <;> walk_at "ev"
  | (with_reducible refine' ep_andV ?_ (fun _ => ?_)) <;> walk_at "ev"
  | (with_reducible refine' ep_chain ?_ ?_ ?_ (fun _ => ?_) (fun _ => ?_)) <;> walk_at "ev"
  | exact isi_int
  | exact isi_intb
  | exact isi_lst
  | exact isi_tup
  | exact Nat.le_of_ble_eq_true rfl)


/-! ### gcd -/
theorem gcd_step {a b : Int} : Int.gcd b (a % b) = Int.gcd a b := by
  rw [Int.gcd_comm a b, Int.gcd_right_eq_iff]
  intro c hc
  rw [Int.emod_def]
  exact (Int.dvd_iff_dvd_of_dvd_sub (by rw [show a - b * (a / b) - a = b * (-(a / b)) by rw [Int.mul_neg]; omega]; exact Int.dvd_trans hc (Int.dvd_mul_right _ _)))

/-! ### divisor_of -/
abbrev N_divisor_of : List Str := ["one", "other"]
theorem sc_divisor_of : FnScope N_divisor_of ["one", "other"] (defScope s_divisor_of) := ⟨rfl, rfl, rfl, by decide +kernel, rfl, by decide +kernel, by decide +kernel⟩
def sp_divisor_of : Sp := SpP (α := Int × Int) (fun x => 0 ≤ x.1 ∧ 0 ≤ x.2) (fun x => [.int x.1, .int x.2]) (fun x => .int (Int.gcd x.1 x.2 : Int))
theorem ev_divisor_of {tr : TA} {G : Gm} {a b : Int} (h : Ea tr G [.int a, .int b]) (c : 0 ≤ a ∧ 0 ≤ b) : Ep (tCall sp_divisor_of [] C8.E0 tr) G (.int (Int.gcd a b : Int)) := ep_call (α := Int × Int) (a, b) h rfl c
local macro_rules | `(tactic| walk_at "ev") => `(tactic| (with_reducible apply ev_divisor_of) <;> walk_at "ev")
theorem cal_divisor_of {P : Program} {w : World} {K : PySem.W.Frag} {mg : Str → Option Value} {base : Heap} (T : Txt K mg) : Cal P w K mg base 1 "divisor_of" sp_divisor_of [] := by
  obtain ⟨fd, F⟩ := T.c.def_ 6 (d := d_divisor_of) rfl
  refine ⟨⟨_, fd, ["one", "other"], [], ?_, T.glo 6, F.kp, F.bindsN (fun _ _ _ _ _ _ us hl => match us, hl with | [_, _], _ => rfl), .nil⟩⟩
  refine F.ok sc_divisor_of (fun vs H Q E h => len_of (α := Int × Int) (C := fun x => 0 ≤ x.1 ∧ 0 ≤ x.2) (pre := fun x => [.int x.1, .int x.2]) (post := fun x => .int (Int.gcd x.1 x.2 : Int)) (p := 2) (fun _ => rfl) vs H Q E h) (fun cdv A outer s H vs Q E hr h => ?_)
  refine ⟨_, PSs.nox (pss_cons (ps_while PassesOwn.never (pt_cmpR op_ne (pv 1) pe_int (nomark _)) (pss_one (ps_par (i := 0) (j := 1) rfl sc_divisor_of.nd rfl rfl (by decide) rfl rfl (pa_cons (pv 1) (pa_cons (pe_op op_mod (pv 0) (pv 1)) pa_nil)) rfl)))
      (pss_one (ps_ret (pv 0)))), ?_⟩
  refine rd_of (α := Int × Int) (C := fun x => 0 ≤ x.1 ∧ 0 ≤ x.2) (pre := fun x => [.int x.1, .int x.2]) (post := fun x => .int (Int.gcd x.1 x.2 : Int)) (p := 2) (N := N_divisor_of) (fun _ => rfl) ?rd vs H Q E h
  case rd =>
    rintro ⟨a, b⟩ ⟨ha, hb⟩
    refine sx_seq (M := fun G n => ∃ c : Int, c = (Int.gcd a b : Int) ∧ G = [some (.fro (.int c)), some (.fro (.int 0))]) (sx_while (fun m G n => ∃ c e : Int, 0 ≤ c ∧ 0 ≤ e ∧ Int.gcd c e = Int.gcd a b ∧ m = e.toNat ∧ G = [some (.fro (.int c)), some (.fro (.int e))]) b.toNat ⟨a, b, ha, hb, rfl, rfl, rfl⟩ ?_) ?_
    · rintro m G n ⟨c, e, hc, he, hg, rfl, rfl⟩
      refine ⟨!decide (e = 0), by walk_at "ev", fun hb => ?_, fun hb => ?_⟩
      · have e0 : e ≠ 0 := by simpa using hb
        refine sx_par (a := .int e) (c := .int (c % e)) ?_ ⟨(c % e).toNat, ?_, e, c % e, he, ?_, ?_, rfl, rfl⟩
        · walk_at "ev"
          show (0 : Int) < e
          omega
        · have := Int.emod_lt_of_pos c (show 0 < e by omega)
          have := Int.emod_nonneg c e0
          omega
        · exact Int.emod_nonneg c e0
        · rw [← hg]; exact gcd_step
      · have e0 : e = 0 := by simpa using hb
        subst e0
        exact ⟨c, by rw [← hg, Int.gcd_zero_right]; omega, rfl⟩
    · rintro G n ⟨c, rfl, rfl⟩
      exact sx_ret (by walk_at "ev") rfl
/-! ### multiple_of -/
abbrev N_multiple_of : List Str := ["numbers", "found", "number"]
theorem sc_multiple_of : FnScope N_multiple_of ["numbers"] (defScope s_multiple_of) := ⟨rfl, rfl, rfl, by decide +kernel, rfl, by decide +kernel, by decide +kernel⟩
def sp_multiple_of : Sp := SpP (α := List Int) (fun ns => ns.length ≤ 40 ∧ ∀ n ∈ ns, Sm 8000 n) (fun ns => [iD ns]) (fun ns => .int (lcmN ns : Int))
theorem ev_multiple_of {tr : TA} {G : Gm} {ns : List Int} (h : Ea tr G [iD ns]) (c : ns.length ≤ 40 ∧ ∀ n ∈ ns, Sm 8000 n) : Ep (tCall sp_multiple_of [] C8.E0 tr) G (.int (lcmN ns : Int)) := ep_call (α := List Int) ns h rfl c
local macro_rules | `(tactic| walk_at "ev") => `(tactic| (with_reducible apply ev_multiple_of) <;> walk_at "ev")
theorem cal_multiple_of {P : Program} {w : World} {K : PySem.W.Frag} {mg : Str → Option Value} {base : Heap} (T : Txt K mg) : Cal P w K mg base 2 "multiple_of" sp_multiple_of [] := by
  obtain ⟨fd, F⟩ := T.c.def_ 7 (d := d_multiple_of) rfl
  refine ⟨⟨_, fd, ["numbers"], [], ?_, T.glo 7, F.kp, F.bindsN (fun _ _ _ _ _ _ us hl => match us, hl with | [_], _ => rfl), .nil⟩⟩
  refine F.ok sc_multiple_of (fun vs H Q E h => len_of (α := List Int) (C := fun ns => ns.length ≤ 40 ∧ ∀ n ∈ ns, Sm 8000 n) (pre := fun ns => [iD ns]) (post := fun ns => .int (lcmN ns : Int)) (p := 1) (fun _ => rfl) vs H Q E h) (fun cdv A outer s H vs Q E hr h => ?_)
  refine ⟨_, PSs.nox (pss_cons (ps_set (i := 1) sc_multiple_of.nd rfl (Or.inl rfl) pe_int)
      (pss_cons (ps_for PassesOwn.never rfl (piL (K := K) (pv 0)) (pg_name (i := 2) sc_multiple_of.nd rfl (Or.inl rfl)) (pss_cons (ps_if (pt_cmpR op_eq (pv 2) pe_int (nomark _)) (pss_one (ps_ret pe_int)) pss_nil)
      (pss_one (ps_set (i := 1) sc_multiple_of.nd rfl (Or.inl rfl) (pe_op op_mulW (pe_op op_fdivW (pv 1) (pe_c (cal_divisor_of T) hr (by decide) rfl (pa_cons (pv 1) (pa_cons (pe_callB k_abs rfl (free_abs T) bb_abs (pa_cons (pv 2) pa_nil)) pa_nil)))) (pe_callB k_abs rfl (free_abs T) bb_abs (pa_cons (pv 2) pa_nil)))))))
      (pss_one (ps_ret (pv 1))))), ?_⟩
  refine rd_of (α := List Int) (C := fun ns => ns.length ≤ 40 ∧ ∀ n ∈ ns, Sm 8000 n) (pre := fun ns => [iD ns]) (post := fun ns => .int (lcmN ns : Int)) (p := 1) (N := N_multiple_of) (fun _ => rfl) ?rd vs H Q E h
  case rd =>
    rintro ns ⟨hl, hs⟩
    refine sx_then (sx_asg (d := .int 1) (by walk_at "ev") ⟨rfl, rfl⟩) ?_
    refine sx_seq (M := fun G n => ∃ o, G = [some (.fro (iD ns)), some (.fro (.int (lcmN ns : Int))), o]) (sx_forP ns PyData.int (fun pr G n => ∃ o, G = [some (.fro (iD ns)), some (.fro (.int (lcmN pr : Int))), o]) (es_list (by walk_at "ev")) ⟨none, rfl⟩ ?_ fun G n h => h) ?_
    · rintro pr x po G n hx ⟨o, rfl⟩
      have hm : Sm 8000 x := hs x (by rw [hx]; simp)
      refine ⟨_, _, tg_name, ?_⟩
      refine sx_seq (M := fun G' n' => x ≠ 0 ∧ G' = [some (.fro (iD ns)), some (.fro (.int (lcmN pr : Int))), some (.fro (.int x))]) (sx_if (b := decide (x = 0)) (by walk_at "ev") (fun hb => ?_) (fun hb => sx_next ⟨by simpa using hb, rfl⟩)) ?_
      · have e0 : x = 0 := by simpa using hb
        subst e0
        refine sx_ret (d := .int 0) (by walk_at "ev") ?_
        show PyData.int 0 = PyData.int (lcmN ns : Int)
        rw [hx, lcmN_zero]
        rfl
      · rintro G' n' ⟨x0, rfl⟩
        have hp : 0 < (Int.gcd (lcmN pr : Int) (x.natAbs : Int) : Int) := by
          have := Int.gcd_pos_of_ne_zero_right (lcmN pr : Int) (b := (x.natAbs : Int)) (by omega)
          omega
        have hf : Sm (8000 * 40 + 1) (lcmN pr : Int) := Sm.nat (Nat.lt_of_lt_of_le (lcmN_lt (B := 8000) pr fun m hm => hs m (by rw [hx]; simp [hm])) (Nat.pow_le_pow_right (Nat.succ_pos 1) (by
          have : pr.length ≤ ns.length := by rw [hx]; simp
          omega)))
        refine sx_asg (d := .int (lcmN (pr ++ [x]) : Int)) ?_ ⟨_, rfl⟩
        rw [lcmN_snoc, ← lcm_step x0]
        walk_at "ev"
        · exact ⟨Int.natCast_nonneg _, Int.natCast_nonneg _⟩
        · exact Sm.cdiv (k := 8000) (Sm.gcd hm.natAbs (by omega)) hp (by omega)
        · exact Sm.cmul (k := 8000 * 40 + 2) (l := 8000) hf.ediv hm.natAbs (by omega)
    · rintro G n ⟨o, rfl⟩
      exact sx_ret (by walk_at "ev") rfl
theorem dvd_fmod {a b : Int} (h : a ≠ 0) : decide (b.fmod a = 0) = decide (a ∣ b) := by
  have := @Int.dvd_iff_fmod_eq_zero a b
  by_cases z : a ∣ b
  · rw [decide_eq_true z, decide_eq_true (this.mp z)]
  · rw [decide_eq_false z, decide_eq_false fun q => z (this.mpr q)]
theorem dvd_zero0 {b : Int} : decide (b = 0) = decide ((0 : Int) ∣ b) := by
  by_cases z : b = 0
  · subst z; rfl
  · rw [decide_eq_false z, decide_eq_false fun q => z (Int.zero_dvd.mp q)]

/-! ### divides -/
abbrev N_divides : List Str := ["number", "other"]
theorem sc_divides : FnScope N_divides ["number", "other"] (defScope s_divides) := ⟨rfl, rfl, rfl, by decide +kernel, rfl, by decide +kernel, by decide +kernel⟩
def sp_divides : Sp := SpP (α := Int × Int) (fun _ => True) (fun x => [.int x.1, .int x.2]) (fun x => .bool (decide (x.1 ∣ x.2)))
theorem ev_divides {tr : TA} {G : Gm} {a b : Int} (h : Ea tr G [.int a, .int b]) (c : True) : Ep (tCall sp_divides [] C8.E0 tr) G (.bool (decide (a ∣ b))) := ep_call (α := Int × Int) (a, b) h rfl c
local macro_rules | `(tactic| walk_at "ev") => `(tactic| (with_reducible apply ev_divides) <;> walk_at "ev")
theorem cal_divides {P : Program} {w : World} {K : PySem.W.Frag} {mg : Str → Option Value} {base : Heap} (T : Txt K mg) : Cal P w K mg base 1 "divides" sp_divides [] := by
  obtain ⟨fd, F⟩ := T.c.def_ 8 (d := d_divides) rfl
  refine ⟨⟨_, fd, ["number", "other"], [], ?_, T.glo 8, F.kp, F.bindsN (fun _ _ _ _ _ _ us hl => match us, hl with | [_, _], _ => rfl), .nil⟩⟩
  refine F.ok sc_divides (fun vs H Q E h => len_of (α := Int × Int) (C := fun _ => True) (pre := fun x => [.int x.1, .int x.2]) (post := fun x => .bool (decide (x.1 ∣ x.2))) (p := 2) (fun _ => rfl) vs H Q E h) (fun cdv A outer s H vs Q E hr h => ?_)
  refine ⟨_, PSs.nox (pss_one (ps_ret (pe_ifExp (pt_cmpR op_eq (pv 0) pe_int (nomark _)) (pe_cmpR op_eq (pv 1) pe_int (nomark _)) (pe_cmpR op_eq (pe_op op_modN (pv 1) (pv 0)) pe_int (nomark _))))), ?_⟩
  refine rd_of (α := Int × Int) (C := fun _ => True) (pre := fun x => [.int x.1, .int x.2]) (post := fun x => .bool (decide (x.1 ∣ x.2))) (p := 2) (N := N_divides) (fun _ => rfl) ?rd vs H Q E h
  case rd =>
    rintro ⟨a, b⟩ -
    refine sx_ret (d := if decide (a = 0) = true then .bool (decide (b = 0)) else .bool (decide (b.fmod a = 0))) (ep_if (by walk_at "ev") (fun hb => by walk_at "ev") (fun hb => ?_)) ?_
    · have e0 : a ≠ 0 := by simpa using hb
      walk_at "ev"
      exact e0
    · by_cases z : a = 0
      · subst z
        rw [if_pos (decide_eq_true rfl)]
        show PyData.bool _ = PyData.bool _
        rw [dvd_zero0]
      · rw [if_neg (by rw [decide_eq_false z]; exact Bool.false_ne_true)]
        show PyData.bool _ = PyData.bool _
        rw [dvd_fmod z]
/-! ### do_fit -/
abbrev N_do_fit : List Str := ["one", "other"]
theorem sc_do_fit : FnScope N_do_fit ["one", "other"] (defScope s_do_fit) := ⟨rfl, rfl, rfl, by decide +kernel, rfl, by decide +kernel, by decide +kernel⟩
def sp_do_fit : Sp := SpP (α := (Int × Int) × (Int × Int)) (fun _ => True) (fun x => [prD x.1, prD x.2]) (fun x => .bool (decide (x.1.1 - x.2.1 ∣ x.1.2 - x.2.2)))
theorem ev_do_fit {tr : TA} {G : Gm} {p q : Int × Int} (h : Ea tr G [prD p, prD q]) (c : True) : Ep (tCall sp_do_fit [] C8.E0 tr) G (.bool (decide (p.1 - q.1 ∣ p.2 - q.2))) := ep_call (α := (Int × Int) × (Int × Int)) (p, q) h rfl c
local macro_rules | `(tactic| walk_at "ev") => `(tactic| (with_reducible apply ev_do_fit) <;> walk_at "ev")
theorem cal_do_fit {P : Program} {w : World} {K : PySem.W.Frag} {mg : Str → Option Value} {base : Heap} (T : Txt K mg) : Cal P w K mg base 2 "do_fit" sp_do_fit [] := by
  obtain ⟨fd, F⟩ := T.c.def_ 9 (d := d_do_fit) rfl
  refine ⟨⟨_, fd, ["one", "other"], [], ?_, T.glo 9, F.kp, F.bindsN (fun _ _ _ _ _ _ us hl => match us, hl with | [_, _], _ => rfl), .nil⟩⟩
  refine F.ok sc_do_fit (fun vs H Q E h => len_of (α := (Int × Int) × (Int × Int)) (C := fun _ => True) (pre := fun x => [prD x.1, prD x.2]) (post := fun x => .bool (decide (x.1.1 - x.2.1 ∣ x.1.2 - x.2.2))) (p := 2) (fun _ => rfl) vs H Q E h) (fun cdv A outer s H vs Q E hr h => ?_)
  refine ⟨_, PSs.nox (pss_one (ps_ret (pe_c (cal_divides T) hr (by decide) rfl (pa_cons (pe_op op_sub (pe_ix (ixT (K := K)) (pv 0) pe_int (fun _ _ => rfl)) (pe_ix (ixT (K := K)) (pv 1) pe_int (fun _ _ => rfl))) (pa_cons (pe_op op_sub (pe_ix (ixT (K := K)) (pv 0) pe_int (fun _ _ => rfl)) (pe_ix (ixT (K := K)) (pv 1) pe_int (fun _ _ => rfl))) pa_nil))))), ?_⟩
  refine rd_of (α := (Int × Int) × (Int × Int)) (C := fun _ => True) (pre := fun x => [prD x.1, prD x.2]) (post := fun x => .bool (decide (x.1.1 - x.2.1 ∣ x.1.2 - x.2.2))) (p := 2) (N := N_do_fit) (fun _ => rfl) ?rd vs H Q E h
  case rd =>
    rintro ⟨p, q⟩ -
    refine sx_ret (d := .bool (decide (p.1 - q.1 ∣ p.2 - q.2))) ?_ rfl
    walk_at "ev"
    trivial
theorem crow_snoc (b : List (Int × Int)) (l : List ((Int × Int) × Nat)) (q : (Int × Int) × Nat) : (l ++ [q]).flatMap (crow b) = l.flatMap (crow b) ++ crow b q := by rw [List.flatMap_append]; simp
theorem mem_zipIdx_get {α : Type} {l pr po : List α} {q : α × Nat} {pz : List (α × Nat)} {qz : List (α × Nat)} (h : l.zipIdx = pz ++ q :: qz) : l[q.2]? = some q.1 := by
  have hm : q ∈ l.zipIdx := by rw [h]; simp
  exact (List.mk_mem_zipIdx_iff_getElem?).mp hm

/-! ### conflicts_in -/
abbrev N_conflicts_in : List Str := ["book", "found", "first", "one", "second"]
theorem sc_conflicts_in : FnScope N_conflicts_in ["book"] (defScope s_conflicts_in) := ⟨rfl, rfl, rfl, by decide +kernel, rfl, by decide +kernel, by decide +kernel⟩
def sp_conflicts_in : Sp := SpP (α := List (Int × Int)) (fun b => b.length ≤ 24) (fun b => [bkD b]) (fun b => bkD (confs b))
theorem ev_conflicts_in {tr : TA} {G : Gm} {b : List (Int × Int)} (h : Ea tr G [bkD b]) (c : b.length ≤ 24) : Ep (tCall sp_conflicts_in [] C8.E0 tr) G (bkD (confs b)) := ep_call (α := List (Int × Int)) b h rfl c
local macro_rules | `(tactic| walk_at "ev") => `(tactic| (with_reducible apply ev_conflicts_in) <;> walk_at "ev")
theorem cal_conflicts_in {P : Program} {w : World} {K : PySem.W.Frag} {mg : Str → Option Value} {base : Heap} (T : Txt K mg) : Cal P w K mg base 3 "conflicts_in" sp_conflicts_in [] := by
  obtain ⟨fd, F⟩ := T.c.def_ 10 (d := d_conflicts_in) rfl
  refine ⟨⟨_, fd, ["book"], [], ?_, T.glo 10, F.kp, F.bindsN (fun _ _ _ _ _ _ us hl => match us, hl with | [_], _ => rfl), .nil⟩⟩
  refine F.ok sc_conflicts_in (fun vs H Q E h => len_of (α := List (Int × Int)) (C := fun b => b.length ≤ 24) (pre := fun b => [bkD b]) (post := fun b => bkD (confs b)) (p := 1) (fun _ => rfl) vs H Q E h) (fun cdv A outer s H vs Q E hr h => ?_)
  refine ⟨_, PSs.nox (pss_cons (ps_set (i := 1) sc_conflicts_in.nd rfl (Or.inl rfl) (pe_lst pa_nil))
      (pss_cons (ps_for PassesOwn.never rfl (pi_enum rfl (free_enumerate T) (pa_cons (pv 0) pa_nil)) (pgT (K := K) (n := 2) rfl (pgs_cons (pg_name (i := 2) sc_conflicts_in.nd rfl (Or.inr rfl)) (pgs_cons (pg_name (i := 3) sc_conflicts_in.nd rfl (Or.inr rfl)) pgs_nil))) (pss_one (ps_expr (pe_bm PySem.F.plainAttrs_list PySem.F.slot_list_extend PySem.F.type_list_extend mt_extend (pv 1) (pa_cons (pe_lc (own := [("second", 4)]) rfl sc_conflicts_in.nd (pi_range2 rfl (free_range T) (pa_cons (pe_op op_add (pv 2) pe_int) (pa_cons (pe_callB (lenK (K := K)) rfl (free_len T) bb_len (pa_cons (pv 0) pa_nil)) pa_nil))) (blkOk_by (N := N_conflicts_in) (sc := defScope s_conflicts_in) (by decide +kernel)) (fun _ _ _ _ _ => (pg_name (i := 4) sc_conflicts_in.nd rfl (Or.inl rfl))) (fun _ _ _ _ _ => (pts_one (pt_not (pt_val (pe_c (cal_do_fit T) hr (by decide) rfl (pa_cons (pv 3) (pa_cons (pe_ix (ixL (K := K)) (pv 0) (pv 4) (fun _ _ => rfl)) pa_nil))))))) (fun _ _ _ _ _ => (pe_tup (pa_cons (pv 2) (pa_cons (pv 4) pa_nil))))) pa_nil)))))
      (pss_one (ps_ret (pv 1))))), ?_⟩
  refine rd_of (α := List (Int × Int)) (C := fun b => b.length ≤ 24) (pre := fun b => [bkD b]) (post := fun b => bkD (confs b)) (p := 1) (N := N_conflicts_in) (fun _ => rfl) ?rd vs H Q E h
  case rd =>
    rintro b hb
    refine sx_then (sx_new (en_lst ea_nil (by decide)) ⟨rfl, rfl⟩) ?_
    refine sx_seq (M := fun G n => ∃ o1 o2, G = [some (.fro (bkD b)), some (.own ((confs b).map prD)), o1, o2, none]) (sx_forP b.zipIdx (fun q => .tuple [.int ((q.2 : Nat) : Int), prD q.1]) (fun pr G n => ∃ o1 o2, G = [some (.fro (bkD b)), some (.own ((pr.flatMap (crow b)).map prD)), o1, o2, none])
      (by rw [← enumD_map]; exact es_enum (by walk_at "ev")) ⟨none, none, rfl⟩ ?_ fun G n h => h) ?_
    · rintro pr q po G n hx ⟨o1, o2, rfl⟩
      refine ⟨_, _, tg_two, ?_⟩
      have hq : b[q.2]? = some q.1 := mem_zipIdx_get (pr := []) (po := []) hx
      have hql : q.2 < b.length := (List.getElem?_eq_some_iff.mp hq).1
      have hl : pr.length ≤ 24 := by
        have := congrArg List.length hx
        rw [List.length_zipIdx, List.length_append, List.length_cons] at this
        omega
      refine sx_ext (xs := (pr.flatMap (crow b)).map prD) (ds := (crow b q).map prD) rfl ?_ ?_ ⟨_, _, by rw [crow_snoc, List.map_append]; rfl⟩
      · refine ep_new ?_
        rw [show (crow b q).map prD = ((List.range (b.length - (q.2 + 1))).filter fun i => !fitB q.1 (b.getD (q.2 + 1 + i) (0, 0))).map (fun (i : Nat) => prD ((q.2 : Int), (q.2 : Int) + 1 + (i : Int))) by unfold crow; rw [List.map_map]; rfl]
        refine en_lc (List.range (b.length - (q.2 + 1))) (fun (i : Nat) => PyData.int ((q.2 : Int) + 1 + (i : Int))) _ _ ?_ (fun i hi => ⟨_, _, tg_name, by simp, ?_, fun _ => by walk_at "ev"⟩) (by rw [List.length_range]; omega)
        · refine es_rng2e (i := (q.2 : Int) + 1) (j := ((b.map prD).length : Int)) (by walk_at "ev") ?_ ⟨by omega, by omega⟩ ⟨by omega, by rw [List.length_map]; omega⟩
          rw [show (((b.map prD).length : Int) - ((q.2 : Int) + 1)).toNat = b.length - (q.2 + 1) by rw [List.length_map]; omega]
          rfl
        · have hi2 : q.2 + 1 + i < b.length := by
            have := List.mem_range.mp hi
            omega
          have hg : atI (b.map prD) ((q.2 : Int) + 1 + (i : Int)) = some (prD (b.getD (q.2 + 1 + i) (0, 0))) := by
            have e : ((q.2 : Int) + 1 + (i : Int)) = ((q.2 + 1 + i : Nat) : Int) := by omega
            rw [e]
            refine atI_nat ?_
            rw [List.getElem?_map, List.getElem?_eq_getElem hi2, List.getD_eq_getElem?_getD, List.getElem?_eq_getElem hi2]
            rfl
          unfold fitB
          walk_at "ev"
          · exact hg
          · trivial
      · rw [List.length_map, List.length_map]
        have h1 := crow_len b q
        have h2 := crows_len b pr
        have h3 : pr.length * b.length ≤ 24 * 24 := Nat.mul_le_mul hl hb
        omega
    · rintro G n ⟨o1, o2, rfl⟩
      exact sx_ret (by walk_at "ev") rfl
/-! ### is_integer -/
abbrev N_is_integer : List Str := ["thing"]
theorem sc_is_integer : FnScope N_is_integer ["thing"] (defScope s_is_integer) := ⟨rfl, rfl, rfl, by decide +kernel, rfl, by decide +kernel, by decide +kernel⟩
def sp_is_integer : Sp := SpP (α := Int) (fun _ => True) (fun x => [.int x]) (fun x => .bool true)
theorem ev_is_integer {tr : TA} {G : Gm} {x : Int} (h : Ea tr G [.int x]) (c : True) : Ep (tCall sp_is_integer [] C8.E0 tr) G (.bool true) := ep_call (α := Int) x h rfl c
local macro_rules | `(tactic| walk_at "ev") => `(tactic| (with_reducible apply ev_is_integer) <;> walk_at "ev")
theorem cal_is_integer {P : Program} {w : World} {K : PySem.W.Frag} {mg : Str → Option Value} {base : Heap} (T : Txt K mg) : Cal P w K mg base 1 "is_integer" sp_is_integer [] := by
  obtain ⟨fd, F⟩ := T.c.def_ 0 (d := d_is_integer) rfl
  refine ⟨⟨_, fd, ["thing"], [], ?_, T.glo 0, F.kp, F.bindsN (fun _ _ _ _ _ _ us hl => match us, hl with | [_], _ => rfl), .nil⟩⟩
  refine F.ok sc_is_integer (fun vs H Q E h => len_of (α := Int) (C := fun _ => True) (pre := fun x => [.int x]) (post := fun x => .bool true) (p := 1) (fun _ => rfl) vs H Q E h) (fun cdv A outer s H vs Q E hr h => ?_)
  refine ⟨_, PSs.nox (pss_one (ps_ret (pe_and (pe_callB (isiK (K := K)) rfl (free_isinstance T) bb_isinstance (pa_cons (pv 0) (pa_cons (pe_bltn (v := .ty "int") rfl (free_int T) bb_int rfl) pa_nil))) (pe_one (pe_not (pe_callB (isiK (K := K)) rfl (free_isinstance T) bb_isinstance (pa_cons (pv 0) (pa_cons (pe_bltn (v := .ty "bool") rfl (free_bool T) bb_bool rfl) pa_nil)))))))), ?_⟩
  refine rd_of (α := Int) (C := fun _ => True) (pre := fun x => [.int x]) (post := fun x => .bool true) (p := 1) (N := N_is_integer) (fun _ => rfl) ?rd vs H Q E h
  case rd =>
    rintro x -
    refine' sx_ret ?_ ?_
    rotate_left
    · walk_at "ev"
    · rfl
/-! ### is_told -/
abbrev N_is_told : List Str := ["thing"]
theorem sc_is_told : FnScope N_is_told ["thing"] (defScope s_is_told) := ⟨rfl, rfl, rfl, by decide +kernel, rfl, by decide +kernel, by decide +kernel⟩
def sp_is_told : Sp := SpP (α := Int) (fun x => -1000000000000000000000000000000 ≤ x ∧ x ≤ 1000000000000000000000000000000) (fun x => [.int x]) (fun x => .bool true)
theorem ev_is_told {tr : TA} {G : Gm} {x : Int} (h : Ea tr G [.int x]) (c : -1000000000000000000000000000000 ≤ x ∧ x ≤ 1000000000000000000000000000000) : Ep (tCall sp_is_told [] C8.E0 tr) G (.bool true) := ep_call (α := Int) x h rfl c
local macro_rules | `(tactic| walk_at "ev") => `(tactic| (with_reducible apply ev_is_told) <;> walk_at "ev")
theorem cal_is_told {P : Program} {w : World} {K : PySem.W.Frag} {mg : Str → Option Value} {base : Heap} (T : Txt K mg) : Cal P w K mg base 2 "is_told" sp_is_told [] := by
  obtain ⟨fd, F⟩ := T.c.def_ 1 (d := d_is_told) rfl
  obtain ⟨t_MOST, g_MOST⟩ := cst_MOST T
  refine ⟨⟨_, fd, ["thing"], [], ?_, T.glo 1, F.kp, F.bindsN (fun _ _ _ _ _ _ us hl => match us, hl with | [_], _ => rfl), .nil⟩⟩
  refine F.ok sc_is_told (fun vs H Q E h => len_of (α := Int) (C := fun x => -1000000000000000000000000000000 ≤ x ∧ x ≤ 1000000000000000000000000000000) (pre := fun x => [.int x]) (post := fun x => .bool true) (p := 1) (fun _ => rfl) vs H Q E h) (fun cdv A outer s H vs Q E hr h => ?_)
  refine ⟨_, PSs.nox (pss_one (ps_ret (pe_and (pe_c (cal_is_integer T) hr (by decide) rfl (pa_cons (pv 0) pa_nil)) (pe_one (pe_chain op_le op_le (pe_un un_neg (pe_glob (v := .int 1000000000000000000000000000000) rfl g_MOST ⟨_, rfl⟩)) (pv 0) (pe_glob (v := .int 1000000000000000000000000000000) rfl g_MOST ⟨_, rfl⟩)))))), ?_⟩
  refine rd_of (α := Int) (C := fun x => -1000000000000000000000000000000 ≤ x ∧ x ≤ 1000000000000000000000000000000) (pre := fun x => [.int x]) (post := fun x => .bool true) (p := 1) (N := N_is_told) (fun _ => rfl) ?rd vs H Q E h
  case rd =>
    rintro x ⟨h1, h2⟩
    refine' sx_ret ?_ ?_
    rotate_left
    · walk_at "ev"
      trivial
    · simp only [decide_eq_true h1, decide_eq_true h2]
      rfl
/-! ### is_item -/
abbrev N_is_item : List Str := ["thing"]
theorem sc_is_item : FnScope N_is_item ["thing"] (defScope s_is_item) := ⟨rfl, rfl, rfl, by decide +kernel, rfl, by decide +kernel, by decide +kernel⟩
def sp_is_item : Sp := SpP (α := Int × Int) (fun p => (-1000000000000000000000000000000 ≤ p.1 ∧ p.1 ≤ 1000000000000000000000000000000) ∧ (-1000000000000000000000000000000 ≤ p.2 ∧ p.2 ≤ 1000000000000000000000000000000)) (fun p => [prD p]) (fun p => .bool true)
theorem ev_is_item {tr : TA} {G : Gm} {p : Int × Int} (h : Ea tr G [prD p]) (c : (-1000000000000000000000000000000 ≤ p.1 ∧ p.1 ≤ 1000000000000000000000000000000) ∧ (-1000000000000000000000000000000 ≤ p.2 ∧ p.2 ≤ 1000000000000000000000000000000)) : Ep (tCall sp_is_item [] C8.E0 tr) G (.bool true) := ep_call (α := Int × Int) p h rfl c
local macro_rules | `(tactic| walk_at "ev") => `(tactic| (with_reducible apply ev_is_item) <;> walk_at "ev")
theorem cal_is_item {P : Program} {w : World} {K : PySem.W.Frag} {mg : Str → Option Value} {base : Heap} (T : Txt K mg) : Cal P w K mg base 3 "is_item" sp_is_item [] := by
  obtain ⟨fd, F⟩ := T.c.def_ 2 (d := d_is_item) rfl
  refine ⟨⟨_, fd, ["thing"], [], ?_, T.glo 2, F.kp, F.bindsN (fun _ _ _ _ _ _ us hl => match us, hl with | [_], _ => rfl), .nil⟩⟩
  refine F.ok sc_is_item (fun vs H Q E h => len_of (α := Int × Int) (C := fun p => (-1000000000000000000000000000000 ≤ p.1 ∧ p.1 ≤ 1000000000000000000000000000000) ∧ (-1000000000000000000000000000000 ≤ p.2 ∧ p.2 ≤ 1000000000000000000000000000000)) (pre := fun p => [prD p]) (post := fun p => .bool true) (p := 1) (fun _ => rfl) vs H Q E h) (fun cdv A outer s H vs Q E hr h => ?_)
  refine ⟨_, PSs.nox (pss_one (ps_ret (pe_and (pe_callB (isiK (K := K)) rfl (free_isinstance T) bb_isinstance (pa_cons (pv 0) (pa_cons (pe_bltn (v := .ty "tuple") rfl (free_tuple T) bb_tuple rfl) pa_nil))) (pe_and (pe_cmpR op_eq (pe_callB (lenK (K := K)) rfl (free_len T) bb_len (pa_cons (pv 0) pa_nil)) pe_int (nomark _)) (pe_and (pe_c (cal_is_told T) hr (by decide) rfl (pa_cons (pe_ix (ixT (K := K)) (pv 0) pe_int (fun _ _ => rfl)) pa_nil)) (pe_one (pe_c (cal_is_told T) hr (by decide) rfl (pa_cons (pe_ix (ixT (K := K)) (pv 0) pe_int (fun _ _ => rfl)) pa_nil)))))))), ?_⟩
  refine rd_of (α := Int × Int) (C := fun p => (-1000000000000000000000000000000 ≤ p.1 ∧ p.1 ≤ 1000000000000000000000000000000) ∧ (-1000000000000000000000000000000 ≤ p.2 ∧ p.2 ≤ 1000000000000000000000000000000)) (pre := fun p => [prD p]) (post := fun p => .bool true) (p := 1) (N := N_is_item) (fun _ => rfl) ?rd vs H Q E h
  case rd =>
    rintro p ⟨h1, h2⟩
    refine' sx_ret ?_ ?_
    rotate_left
    · walk_at "ev"
      · exact h1
      · exact h2
    · rfl
/-! ### is_book -/
abbrev N_is_book : List Str := ["thing", "item", "one", "other"]
theorem sc_is_book : FnScope N_is_book ["thing"] (defScope s_is_book) := ⟨rfl, rfl, rfl, by decide +kernel, rfl, by decide +kernel, by decide +kernel⟩
def sp_is_book : Sp := SpP (α := List (Int × Int)) (fun b => Bk b) (fun b => [bkD b]) (fun b => .bool true)
theorem ev_is_book {tr : TA} {G : Gm} {b : List (Int × Int)} (h : Ea tr G [bkD b]) (c : Bk b) : Ep (tCall sp_is_book [] C8.E0 tr) G (.bool true) := ep_call (α := List (Int × Int)) b h rfl c
local macro_rules | `(tactic| walk_at "ev") => `(tactic| (with_reducible apply ev_is_book) <;> walk_at "ev")
theorem cal_is_book {P : Program} {w : World} {K : PySem.W.Frag} {mg : Str → Option Value} {base : Heap} (T : Txt K mg) : Cal P w K mg base 4 "is_book" sp_is_book [] := by
  obtain ⟨fd, F⟩ := T.c.def_ 3 (d := d_is_book) rfl
  obtain ⟨t_MOST_ITEMS, g_MOST_ITEMS⟩ := cst_MOST_ITEMS T
  refine ⟨⟨_, fd, ["thing"], [], ?_, T.glo 3, F.kp, F.bindsN (fun _ _ _ _ _ _ us hl => match us, hl with | [_], _ => rfl), .nil⟩⟩
  refine F.ok sc_is_book (fun vs H Q E h => len_of (α := List (Int × Int)) (C := fun b => Bk b) (pre := fun b => [bkD b]) (post := fun b => .bool true) (p := 1) (fun _ => rfl) vs H Q E h) (fun cdv A outer s H vs Q E hr h => ?_)
  refine ⟨_, PSs.nox (pss_cons (ps_if (PW.pt (pw_or (pt_not (pt_val (pe_callB (isiK (K := K)) rfl (free_isinstance T) bb_isinstance (pa_cons (pv 0) (pa_cons (pe_bltn (v := .ty "list") rfl (free_list T) bb_list rfl) pa_nil))))) (pw_or (pt_cmpR op_gt (pe_callB (lenK (K := K)) rfl (free_len T) bb_len (pa_cons (pv 0) pa_nil)) (pe_glob (v := .int 24) rfl g_MOST_ITEMS ⟨_, rfl⟩) (nomark _)) (pw_or1 (pt_not (pt_val (pe_callB (allK (K := K) rfl) rfl (free_all T) bb_all (pa_cons (pe_lc (own := [("item", 1)]) rfl sc_is_book.nd (piL (K := K) (pv 0)) (blkOk_by (N := N_is_book) (sc := defScope s_is_book) (by decide +kernel)) (fun _ _ _ _ _ => (pg_name (i := 1) sc_is_book.nd rfl (Or.inl rfl))) (fun _ _ _ _ _ => pts_nil) (fun _ _ _ _ _ => (pe_c (cal_is_item T) hr (by decide) rfl (pa_cons (pv 1) pa_nil)))) pa_nil)))))))) (pss_one (ps_ret pe_bl)) pss_nil)
      (pss_one (ps_ret (pe_callB (allK (K := K) rfl) rfl (free_all T) bb_all (pa_cons (pe_lc (own := [("one", 2), ("other", 3)]) rfl sc_is_book.nd (pi_zip rfl (free_zip T) (pa_cons (pv 0) (pa_cons (pe_slice (slL (K := K)) (pv 0) (po_some pe_int) po_none) pa_nil))) (blkOk_by (N := N_is_book) (sc := defScope s_is_book) (by decide +kernel)) (fun _ _ _ _ _ => (pgT (K := K) (n := 2) rfl (pgs_cons (pg_name (i := 2) sc_is_book.nd rfl (Or.inl rfl)) (pgs_cons (pg_name (i := 3) sc_is_book.nd rfl (Or.inl rfl)) pgs_nil)))) (fun _ _ _ _ _ => pts_nil) (fun _ _ _ _ _ => (pe_cmpR op_lt (pe_ix (ixT (K := K)) (pv 2) pe_int (fun _ _ => rfl)) (pe_ix (ixT (K := K)) (pv 3) pe_int (fun _ _ => rfl)) (nomark _)))) pa_nil))))), ?_⟩
  refine rd_of (α := List (Int × Int)) (C := fun b => Bk b) (pre := fun b => [bkD b]) (post := fun b => .bool true) (p := 1) (N := N_is_book) (fun _ => rfl) ?rd vs H Q E h
  case rd =>
    rintro b hb
    refine sx_seq (M := fun G n => G = [some (.fro (bkD b)), none, none, none]) ?_ ?_
    · refine' sx_if (b := false) ?_ (fun h => nomatch h) (fun _ => sx_next rfl)
      have e1 : decide ((24 : Int) < ((b.map prD).length : Int)) = false := decide_eq_false (by rw [List.length_map]; have := hb.len; omega)
      have e2 : (!true || (decide ((24 : Int) < ((b.map prD).length : Int)) || !true)) = false := by rw [e1]; rfl
      rw [← e2]
      walk_at "ev"
      refine ep_all b (en_m1 b prD _ (es_list (by walk_at "ev")) (fun p hp => ?_) (by have := hb.len; omega))
      walk_at "ev"
      exact hb.rng p hp
    · rintro G n rfl
      refine sx_ret (ep_all (b.zip (b.drop 1)) (en_m2 (b.zip (b.drop 1)) (fun q => prD q.1) (fun q => prD q.2) _ ?_ (fun q hq => ?_) ?_)) rfl
      · rw [← zipD_map, List.map_drop]
        refine es_zip (ea_cons (by walk_at "ev") (ea_cons (ep_new ?_) ea_nil))
        rw [← cut_1]
        exact en_slice (by walk_at "ev") (eo_part (by walk_at "ev")) eo_no
      · have h := mem_zip_tail hb.asc q hq
        rw [← decide_eq_true h]
        walk_at "ev"
      · have := hb.len
        rw [List.length_zip, List.length_drop]
        omega
/-! ### need_book -/
abbrev N_need_book : List Str := ["book"]
theorem sc_need_book : FnScope N_need_book ["book"] (defScope s_need_book) := ⟨rfl, rfl, rfl, by decide +kernel, rfl, by decide +kernel, by decide +kernel⟩
def sp_need_book : Sp := SpP (α := List (Int × Int)) (fun b => Bk b) (fun b => [bkD b]) (fun b => .none)
theorem ev_need_book {tr : TA} {G : Gm} {b : List (Int × Int)} (h : Ea tr G [bkD b]) (c : Bk b) : Ep (tCall sp_need_book [] C8.E0 tr) G (.none) := ep_call (α := List (Int × Int)) b h rfl c
local macro_rules | `(tactic| walk_at "ev") => `(tactic| (with_reducible apply ev_need_book) <;> walk_at "ev")
theorem cal_need_book {P : Program} {w : World} {K : PySem.W.Frag} {mg : Str → Option Value} {base : Heap} (T : Txt K mg) : Cal P w K mg base 5 "need_book" sp_need_book [] := by
  obtain ⟨fd, F⟩ := T.c.def_ 4 (d := d_need_book) rfl
  refine ⟨⟨_, fd, ["book"], [], ?_, T.glo 4, F.kp, F.bindsN (fun _ _ _ _ _ _ us hl => match us, hl with | [_], _ => rfl), .nil⟩⟩
  refine F.ok sc_need_book (fun vs H Q E h => len_of (α := List (Int × Int)) (C := fun b => Bk b) (pre := fun b => [bkD b]) (post := fun b => .none) (p := 1) (fun _ => rfl) vs H Q E h) (fun cdv A outer s H vs Q E hr h => ?_)
  refine ⟨_, PSs.nox (pss_one (ps_if (pt_not (pt_val (pe_c (cal_is_book T) hr (by decide) rfl (pa_cons (pv 0) pa_nil)))) pss_never pss_nil)), ?_⟩
  refine rd_of (α := List (Int × Int)) (C := fun b => Bk b) (pre := fun b => [bkD b]) (post := fun b => .none) (p := 1) (N := N_need_book) (fun _ => rfl) ?rd vs H Q E h
  case rd =>
    rintro b hb
    refine sx_if (b := !true) ?_ (fun h => nomatch h) (fun _ => sx_next rfl)
    walk_at "ev"
    exact hb
end Kr
end
section
namespace Kr
open PySem L2
open Evl (Ex)
open C8 (Cal pe_c)
local macro_rules | `(tactic| walk_at "ev") => `(tactic| skip)
local macro_rules | `(tactic| walk_at "ev") => `(tactic| first
  | with_reducible exact ep_int
  | with_reducible exact ep_bl
  | with_reducible exact ep_non
  | with_reducible exact ea_nil
  | with_reducible exact et_yes
  | with_reducible exact eo_no
  | ((with_reducible apply ep_var); rfl)
  | (with_reducible apply ea_cons) <;> walk_at "ev"
  | (with_reducible apply ep_op) <;> walk_at "ev"
  | (with_reducible apply ep_un) <;> walk_at "ev"
  | (with_reducible apply ep_isi) <;> walk_at "ev"
  | ((with_reducible apply ep_lenV); rfl)
  | (with_reducible apply ep_len) <;> walk_at "ev"
  | (with_reducible apply ep_abs) <;> walk_at "ev"
  | (with_reducible apply ep_int1) <;> walk_at "ev"
  | (with_reducible apply ep_max2) <;> walk_at "ev"
  | (with_reducible apply ep_min2) <;> walk_at "ev"
  | (with_reducible apply et_test) <;> walk_at "ev"
  | (with_reducible apply et_B) <;> walk_at "ev"
  | (with_reducible apply et_not) <;> walk_at "ev"
  | (with_reducible apply ep_notV) <;> walk_at "ev"
  | (with_reducible apply ep_tup) <;> walk_at "ev"
  | (with_reducible apply eo_part) <;> walk_at "ev"
  | with_reducible exact od_i
  | with_reducible exact od_b
  | with_reducible exact od_eqI
  | with_reducible exact od_neI
  | with_reducible exact od_isN
  | with_reducible exact od_notN
  | with_reducible exact od_notB
  | with_reducible apply od_c
  | with_reducible exact od_ixT0
  | with_reducible exact od_ixT1
  | with_reducible exact od_ixL0
  | with_reducible exact od_ixL1
  | with_reducible exact od_ixL2
  | with_reducible apply od_ixL
  | with_reducible apply od_ixT
  | with_reducible exact ud_neg
  | (with_reducible refine' et_or ?_ (fun _ => ?_)) <;> walk_at "ev"
  | (with_reducible refine' et_and ?_ (fun _ => ?_)) <;> walk_at "ev"
  | (with_reducible refine' ep_orV ?_ (fun _ => ?_)) <;> walk_at "ev"
  | (with_reducible refine' ep_andV ?_ (fun _ => ?_)) <;> walk_at "ev"
  | (with_reducible refine' ep_chain ?_ ?_ ?_ (fun _ => ?_) (fun _ => ?_)) <;> walk_at "ev"
  | exact isi_int
  | exact isi_intb
  | exact isi_lst
  | exact isi_tup
  | exact Nat.le_of_ble_eq_true rfl)
local macro_rules | `(tactic| walk_at "ev") => `(tactic| (with_reducible apply ev_divisor_of) <;> walk_at "ev")
local macro_rules | `(tactic| walk_at "ev") => `(tactic| (with_reducible apply ev_multiple_of) <;> walk_at "ev")
local macro_rules | `(tactic| walk_at "ev") => `(tactic| (with_reducible apply ev_divides) <;> walk_at "ev")
local macro_rules | `(tactic| walk_at "ev") => `(tactic| (with_reducible apply ev_do_fit) <;> walk_at "ev")
local macro_rules | `(tactic| walk_at "ev") => `(tactic| (with_reducible apply ev_conflicts_in) <;> walk_at "ev")
local macro_rules | `(tactic| walk_at "ev") => `(tactic| (with_reducible apply ev_is_integer) <;> walk_at "ev")
local macro_rules | `(tactic| walk_at "ev") => `(tactic| (with_reducible apply ev_is_told) <;> walk_at "ev")
local macro_rules | `(tactic| walk_at "ev") => `(tactic| (with_reducible apply ev_is_item) <;> walk_at "ev")
local macro_rules | `(tactic| walk_at "ev") => `(tactic| (with_reducible apply ev_is_book) <;> walk_at "ev")
local macro_rules | `(tactic| walk_at "ev") => `(tactic| (with_reducible apply ev_need_book) <;> walk_at "ev")

/-! ### conflict_in -/
abbrev N_conflict_in : List Str := ["book", "found"]
theorem sc_conflict_in : FnScope N_conflict_in ["book"] (defScope s_conflict_in) := ⟨rfl, rfl, rfl, by decide +kernel, rfl, by decide +kernel, by decide +kernel⟩
def sp_conflict_in : Sp := SpP (α := List (Int × Int)) (fun b => b.length ≤ 24 ∧ confs b = []) (fun b => [bkD b]) (fun _ => .none)
theorem ev_conflict_in {tr : TA} {G : Gm} {b : List (Int × Int)} (h : Ea tr G [bkD b]) (c : b.length ≤ 24 ∧ confs b = []) : Ep (tCall sp_conflict_in [] C8.E0 tr) G (.none) := ep_call (α := List (Int × Int)) b h rfl c
local macro_rules | `(tactic| walk_at "ev") => `(tactic| (with_reducible apply ev_conflict_in) <;> walk_at "ev")
theorem cal_conflict_in {P : Program} {w : World} {K : PySem.W.Frag} {mg : Str → Option Value} {base : Heap} (T : Txt K mg) : Cal P w K mg base 4 "conflict_in" sp_conflict_in [] := by
  obtain ⟨fd, F⟩ := T.c.def_ 11 (d := d_conflict_in) rfl
  refine ⟨⟨_, fd, ["book"], [], ?_, T.glo 11, F.kp, F.bindsN (fun _ _ _ _ _ _ us hl => match us, hl with | [_], _ => rfl), .nil⟩⟩
  refine F.ok sc_conflict_in (fun vs H Q E h => len_of (α := List (Int × Int)) (C := fun b => b.length ≤ 24 ∧ confs b = []) (pre := fun b => [bkD b]) (post := fun _ => .none) (p := 1) (fun _ => rfl) vs H Q E h) (fun cdv A outer s H vs Q E hr h => ?_)
  refine ⟨_, PSs.nox (pss_cons (ps_set (i := 1) sc_conflict_in.nd rfl (Or.inl rfl) (pe_c (cal_conflicts_in T) hr (by decide) rfl (pa_cons (pv 0) pa_nil)))
      (pss_one (ps_ret (pe_ifExp (pt_cmpR (neK (K := K) hr.units) (pv 1) (pe_lst pa_nil) (nomark _)) (pe_ix (ixL (K := K)) (pv 1) pe_int (fun _ _ => rfl)) pe_non)))), ?_⟩
  refine rd_of (α := List (Int × Int)) (C := fun b => b.length ≤ 24 ∧ confs b = []) (pre := fun b => [bkD b]) (post := fun _ => .none) (p := 1) (N := N_conflict_in) (fun _ => rfl) ?rd vs H Q E h
  case rd =>
    rintro b ⟨hl, hf⟩
    refine sx_then (sx_asg (d := bkD (confs b)) (by walk_at "ev"; exact hl) ⟨rfl, rfl⟩) ?_
    rw [hf]
    refine sx_ret (d := if (!PyData.eqv (bkD []) (.list [])) = true then .none else .none) (ep_if (et_test (ep_op (by walk_at "ev") (ep_new (en_lst ea_nil (by decide))) (od_neD (sh_bkD []) (sh_iD [])))) (fun h => absurd h (by simp [PyData.eqv, PyData.eqvAll])) (fun _ => by walk_at "ev")) ?_
    split <;> rfl
/-! ### need_fitting -/
abbrev N_need_fitting : List Str := ["book", "conflict"]
theorem sc_need_fitting : FnScope N_need_fitting ["book"] (defScope s_need_fitting) := ⟨rfl, rfl, rfl, by decide +kernel, rfl, by decide +kernel, by decide +kernel⟩
def sp_need_fitting : Sp := SpP (α := List (Int × Int)) (fun b => b.length ≤ 24 ∧ confs b = []) (fun b => [bkD b]) (fun _ => .none)
theorem ev_need_fitting {tr : TA} {G : Gm} {b : List (Int × Int)} (h : Ea tr G [bkD b]) (c : b.length ≤ 24 ∧ confs b = []) : Ep (tCall sp_need_fitting [] C8.E0 tr) G (.none) := ep_call (α := List (Int × Int)) b h rfl c
local macro_rules | `(tactic| walk_at "ev") => `(tactic| (with_reducible apply ev_need_fitting) <;> walk_at "ev")
theorem cal_need_fitting {P : Program} {w : World} {K : PySem.W.Frag} {mg : Str → Option Value} {base : Heap} (T : Txt K mg) : Cal P w K mg base 5 "need_fitting" sp_need_fitting [] := by
  obtain ⟨fd, F⟩ := T.c.def_ 12 (d := d_need_fitting) rfl
  refine ⟨⟨_, fd, ["book"], [], ?_, T.glo 12, F.kp, F.bindsN (fun _ _ _ _ _ _ us hl => match us, hl with | [_], _ => rfl), .nil⟩⟩
  refine F.ok sc_need_fitting (fun vs H Q E h => len_of (α := List (Int × Int)) (C := fun b => b.length ≤ 24 ∧ confs b = []) (pre := fun b => [bkD b]) (post := fun _ => .none) (p := 1) (fun _ => rfl) vs H Q E h) (fun cdv A outer s H vs Q E hr h => ?_)
  refine ⟨_, PSs.nox (pss_cons (ps_set (i := 1) sc_need_fitting.nd rfl (Or.inl rfl) (pe_c (cal_conflict_in T) hr (by decide) rfl (pa_cons (pv 0) pa_nil)))
      (pss_one (ps_if (pt_cmpR op_notN (pv 1) pe_non (nomark _)) pss_never pss_nil))), ?_⟩
  refine rd_of (α := List (Int × Int)) (C := fun b => b.length ≤ 24 ∧ confs b = []) (pre := fun b => [bkD b]) (post := fun _ => .none) (p := 1) (N := N_need_fitting) (fun _ => rfl) ?rd vs H Q E h
  case rd =>
    rintro b hc
    refine sx_then (sx_asg (d := .none) (by walk_at "ev"; exact hc) ⟨rfl, rfl⟩) ?_
    refine sx_if (b := false) ?_ (fun h => nomatch h) (fun _ => sx_next rfl)
    walk_at "ev"
/-! ### need_possible -/
abbrev N_need_possible : List Str := ["book"]
theorem sc_need_possible : FnScope N_need_possible ["book"] (defScope s_need_possible) := ⟨rfl, rfl, rfl, by decide +kernel, rfl, by decide +kernel, by decide +kernel⟩
def sp_need_possible : Sp := SpP (α := List (Int × Int)) (fun b => Bk b ∧ confs b = []) (fun b => [bkD b]) (fun _ => .none)
theorem ev_need_possible {tr : TA} {G : Gm} {b : List (Int × Int)} (h : Ea tr G [bkD b]) (c : Bk b ∧ confs b = []) : Ep (tCall sp_need_possible [] C8.E0 tr) G (.none) := ep_call (α := List (Int × Int)) b h rfl c
local macro_rules | `(tactic| walk_at "ev") => `(tactic| (with_reducible apply ev_need_possible) <;> walk_at "ev")
theorem cal_need_possible {P : Program} {w : World} {K : PySem.W.Frag} {mg : Str → Option Value} {base : Heap} (T : Txt K mg) : Cal P w K mg base 6 "need_possible" sp_need_possible [] := by
  obtain ⟨fd, F⟩ := T.c.def_ 13 (d := d_need_possible) rfl
  refine ⟨⟨_, fd, ["book"], [], ?_, T.glo 13, F.kp, F.bindsN (fun _ _ _ _ _ _ us hl => match us, hl with | [_], _ => rfl), .nil⟩⟩
  refine F.ok sc_need_possible (fun vs H Q E h => len_of (α := List (Int × Int)) (C := fun b => Bk b ∧ confs b = []) (pre := fun b => [bkD b]) (post := fun _ => .none) (p := 1) (fun _ => rfl) vs H Q E h) (fun cdv A outer s H vs Q E hr h => ?_)
  refine ⟨_, PSs.nox (pss_cons (ps_expr (pe_c (cal_need_book T) hr (by decide) rfl (pa_cons (pv 0) pa_nil)))
      (pss_one (ps_expr (pe_c (cal_need_fitting T) hr (by decide) rfl (pa_cons (pv 0) pa_nil))))), ?_⟩
  refine rd_of (α := List (Int × Int)) (C := fun b => Bk b ∧ confs b = []) (pre := fun b => [bkD b]) (post := fun _ => .none) (p := 1) (N := N_need_possible) (fun _ => rfl) ?rd vs H Q E h
  case rd =>
    rintro b ⟨hb, hf⟩
    refine sx_then (sx_drop (d := .none) (by walk_at "ev"; exact hb) ⟨rfl, rfl⟩) ?_
    refine sx_drop (d := .none) ?_ rfl
    walk_at "ev"
    exact ⟨hb.len, hf⟩
/-! ### conflict_of -/
abbrev N_conflict_of : List Str := ["book"]
theorem sc_conflict_of : FnScope N_conflict_of ["book"] (defScope s_conflict_of) := ⟨rfl, rfl, rfl, by decide +kernel, rfl, by decide +kernel, by decide +kernel⟩
def sp_conflict_of : Sp := SpP (α := List (Int × Int)) (fun b => Bk b ∧ confs b = []) (fun b => [bkD b]) (fun _ => .none)
theorem ev_conflict_of {tr : TA} {G : Gm} {b : List (Int × Int)} (h : Ea tr G [bkD b]) (c : Bk b ∧ confs b = []) : Ep (tCall sp_conflict_of [] C8.E0 tr) G (.none) := ep_call (α := List (Int × Int)) b h rfl c
local macro_rules | `(tactic| walk_at "ev") => `(tactic| (with_reducible apply ev_conflict_of) <;> walk_at "ev")
theorem cal_conflict_of {P : Program} {w : World} {K : PySem.W.Frag} {mg : Str → Option Value} {base : Heap} (T : Txt K mg) : Cal P w K mg base 6 "conflict_of" sp_conflict_of [] := by
  obtain ⟨fd, F⟩ := T.c.def_ 14 (d := d_conflict_of) rfl
  refine ⟨⟨_, fd, ["book"], [], ?_, T.glo 14, F.kp, F.bindsN (fun _ _ _ _ _ _ us hl => match us, hl with | [_], _ => rfl), .nil⟩⟩
  refine F.ok sc_conflict_of (fun vs H Q E h => len_of (α := List (Int × Int)) (C := fun b => Bk b ∧ confs b = []) (pre := fun b => [bkD b]) (post := fun _ => .none) (p := 1) (fun _ => rfl) vs H Q E h) (fun cdv A outer s H vs Q E hr h => ?_)
  refine ⟨_, PSs.nox (pss_cons (ps_expr (pe_c (cal_need_book T) hr (by decide) rfl (pa_cons (pv 0) pa_nil)))
      (pss_one (ps_ret (pe_c (cal_conflict_in T) hr (by decide) rfl (pa_cons (pv 0) pa_nil))))), ?_⟩
  refine rd_of (α := List (Int × Int)) (C := fun b => Bk b ∧ confs b = []) (pre := fun b => [bkD b]) (post := fun _ => .none) (p := 1) (N := N_conflict_of) (fun _ => rfl) ?rd vs H Q E h
  case rd =>
    rintro b ⟨hb, hf⟩
    refine sx_then (sx_drop (d := .none) (by walk_at "ev"; exact hb) ⟨rfl, rfl⟩) ?_
    refine sx_ret (d := .none) ?_ rfl
    walk_at "ev"
    exact ⟨hb.len, hf⟩
/-! ### all_conflicts -/
abbrev N_all_conflicts : List Str := ["book"]
theorem sc_all_conflicts : FnScope N_all_conflicts ["book"] (defScope s_all_conflicts) := ⟨rfl, rfl, rfl, by decide +kernel, rfl, by decide +kernel, by decide +kernel⟩
def sp_all_conflicts : Sp := SpP (α := List (Int × Int)) (fun b => Bk b) (fun b => [bkD b]) (fun b => bkD (confs b))
theorem ev_all_conflicts {tr : TA} {G : Gm} {b : List (Int × Int)} (h : Ea tr G [bkD b]) (c : Bk b) : Ep (tCall sp_all_conflicts [] C8.E0 tr) G (bkD (confs b)) := ep_call (α := List (Int × Int)) b h rfl c
local macro_rules | `(tactic| walk_at "ev") => `(tactic| (with_reducible apply ev_all_conflicts) <;> walk_at "ev")
theorem cal_all_conflicts {P : Program} {w : World} {K : PySem.W.Frag} {mg : Str → Option Value} {base : Heap} (T : Txt K mg) : Cal P w K mg base 6 "all_conflicts" sp_all_conflicts [] := by
  obtain ⟨fd, F⟩ := T.c.def_ 15 (d := d_all_conflicts) rfl
  refine ⟨⟨_, fd, ["book"], [], ?_, T.glo 15, F.kp, F.bindsN (fun _ _ _ _ _ _ us hl => match us, hl with | [_], _ => rfl), .nil⟩⟩
  refine F.ok sc_all_conflicts (fun vs H Q E h => len_of (α := List (Int × Int)) (C := fun b => Bk b) (pre := fun b => [bkD b]) (post := fun b => bkD (confs b)) (p := 1) (fun _ => rfl) vs H Q E h) (fun cdv A outer s H vs Q E hr h => ?_)
  refine ⟨_, PSs.nox (pss_cons (ps_expr (pe_c (cal_need_book T) hr (by decide) rfl (pa_cons (pv 0) pa_nil)))
      (pss_one (ps_ret (pe_c (cal_conflicts_in T) hr (by decide) rfl (pa_cons (pv 0) pa_nil))))), ?_⟩
  refine rd_of (α := List (Int × Int)) (C := fun b => Bk b) (pre := fun b => [bkD b]) (post := fun b => bkD (confs b)) (p := 1) (N := N_all_conflicts) (fun _ => rfl) ?rd vs H Q E h
  case rd =>
    rintro b hb
    refine sx_then (sx_drop (d := .none) (by walk_at "ev"; exact hb) ⟨rfl, rfl⟩) ?_
    refine sx_ret (d := bkD (confs b)) ?_ rfl
    walk_at "ev"
    exact hb.len
end Kr
end
section
namespace Kr
open PySem L2
open Evl (Ex)
open C8 (Cal pe_c)
local macro_rules | `(tactic| walk_at "ev") => `(tactic| skip)
local macro_rules | `(tactic| walk_at "ev") => `(tactic| first
  | with_reducible exact ep_int
  | with_reducible exact ep_bl
  | with_reducible exact ep_non
  | with_reducible exact ea_nil
  | with_reducible exact et_yes
  | with_reducible exact eo_no
  | ((with_reducible apply ep_var); rfl)
  | (with_reducible apply ea_cons) <;> walk_at "ev"
  | (with_reducible apply ep_op) <;> walk_at "ev"
  | (with_reducible apply ep_un) <;> walk_at "ev"
  | (with_reducible apply ep_isi) <;> walk_at "ev"
  | ((with_reducible apply ep_lenV); rfl)
  | (with_reducible apply ep_len) <;> walk_at "ev"
  | (with_reducible apply ep_abs) <;> walk_at "ev"
  | (with_reducible apply ep_int1) <;> walk_at "ev"
  | (with_reducible apply ep_max2) <;> walk_at "ev"
  | (with_reducible apply ep_min2) <;> walk_at "ev"
  | (with_reducible apply et_test) <;> walk_at "ev"
  | (with_reducible apply et_B) <;> walk_at "ev"
  | (with_reducible apply et_not) <;> walk_at "ev"
  | (with_reducible apply ep_notV) <;> walk_at "ev"
  | (with_reducible apply ep_tup) <;> walk_at "ev"
  | (with_reducible apply eo_part) <;> walk_at "ev"
  | with_reducible exact od_i
  | with_reducible exact od_b
  | with_reducible exact od_eqI
  | with_reducible exact od_neI
  | with_reducible exact od_isN
  | with_reducible exact od_notN
  | with_reducible exact od_notB
  | with_reducible apply od_c
  | with_reducible exact od_ixT0
  | with_reducible exact od_ixT1
  | with_reducible exact od_ixL0
  | with_reducible exact od_ixL1
  | with_reducible exact od_ixL2
  | with_reducible apply od_ixL
  | with_reducible apply od_ixT
  | with_reducible exact ud_neg
  | (with_reducible refine' et_or ?_ (fun _ => ?_)) <;> walk_at "ev"
  | (with_reducible refine' et_and ?_ (fun _ => ?_)) <;> walk_at "ev"
  | (with_reducible refine' ep_orV ?_ (fun _ => ?_)) <;> walk_at "ev"
  | (with_reducible refine' ep_andV ?_ (fun _ => ?_)) <;> walk_at "ev"
  | (with_reducible refine' ep_chain ?_ ?_ ?_ (fun _ => ?_) (fun _ => ?_)) <;> walk_at "ev"
  | exact isi_int
  | exact isi_intb
  | exact isi_lst
  | exact isi_tup
  | exact Nat.le_of_ble_eq_true rfl)
local macro_rules | `(tactic| walk_at "ev") => `(tactic| (with_reducible apply ev_divisor_of) <;> walk_at "ev")
local macro_rules | `(tactic| walk_at "ev") => `(tactic| (with_reducible apply ev_multiple_of) <;> walk_at "ev")
local macro_rules | `(tactic| walk_at "ev") => `(tactic| (with_reducible apply ev_divides) <;> walk_at "ev")
local macro_rules | `(tactic| walk_at "ev") => `(tactic| (with_reducible apply ev_do_fit) <;> walk_at "ev")
local macro_rules | `(tactic| walk_at "ev") => `(tactic| (with_reducible apply ev_conflicts_in) <;> walk_at "ev")
local macro_rules | `(tactic| walk_at "ev") => `(tactic| (with_reducible apply ev_is_integer) <;> walk_at "ev")
local macro_rules | `(tactic| walk_at "ev") => `(tactic| (with_reducible apply ev_is_told) <;> walk_at "ev")
local macro_rules | `(tactic| walk_at "ev") => `(tactic| (with_reducible apply ev_is_item) <;> walk_at "ev")
local macro_rules | `(tactic| walk_at "ev") => `(tactic| (with_reducible apply ev_is_book) <;> walk_at "ev")
local macro_rules | `(tactic| walk_at "ev") => `(tactic| (with_reducible apply ev_need_book) <;> walk_at "ev")
local macro_rules | `(tactic| walk_at "ev") => `(tactic| (with_reducible apply ev_conflict_in) <;> walk_at "ev")
local macro_rules | `(tactic| walk_at "ev") => `(tactic| (with_reducible apply ev_need_fitting) <;> walk_at "ev")
local macro_rules | `(tactic| walk_at "ev") => `(tactic| (with_reducible apply ev_need_possible) <;> walk_at "ev")
local macro_rules | `(tactic| walk_at "ev") => `(tactic| (with_reducible apply ev_conflict_of) <;> walk_at "ev")
local macro_rules | `(tactic| walk_at "ev") => `(tactic| (with_reducible apply ev_all_conflicts) <;> walk_at "ev")

/-! ### need_modulus1 -/
abbrev N_need_modulus : List Str := ["modulus", "most"]
theorem sc_need_modulus : FnScope N_need_modulus ["modulus", "most"] (defScope s_need_modulus) := ⟨rfl, rfl, rfl, by decide +kernel, rfl, by decide +kernel, by decide +kernel⟩
def sp_need_modulus1 : Sp := SpP (α := Int) (fun m => 1 ≤ m) (fun m => [.int m, .none]) (fun _ => .none)
theorem ev_need_modulus1 {tr : TA} {G : Gm} {m : Int} (h : Ea tr G [.int m]) (c : 1 ≤ m) : Ep (tCall sp_need_modulus1 [.non] C8.E0 tr) G (.none) := ep_callD (α := Int) (es := [.none]) m h (fun W => .cons (by constructor) .nil) rfl c
local macro_rules | `(tactic| walk_at "ev") => `(tactic| (with_reducible apply ev_need_modulus1) <;> walk_at "ev")
theorem cal_need_modulus1 {P : Program} {w : World} {K : PySem.W.Frag} {mg : Str → Option Value} {base : Heap} (T : Txt K mg) : Cal P w K mg base 1 "need_modulus" sp_need_modulus1 [.non] := by
  obtain ⟨fd, F⟩ := T.c.def_ 5 (d := d_need_modulus) rfl
  obtain ⟨ds, rD, bD⟩ := F.binds1 (ps := ["modulus", "most"]) 1 0 (fun z => nomatch z) rfl (fun _ _ _ _ _ _ _ us its hu hi => match us, its, hu, hi with | [_], [_], _, _ => ⟨_, rfl, rfl⟩)
  refine ⟨⟨_, fd, ["modulus", "most"], ds, ?_, T.glo 5, F.kp, bD, rD⟩⟩
  refine F.ok sc_need_modulus (fun vs H Q E h => len_of (α := Int) (C := fun m => 1 ≤ m) (pre := fun m => [.int m, .none]) (post := fun _ => .none) (p := 2) (fun _ => rfl) vs H Q E h) (fun cdv A outer s H vs Q E hr h => ?_)
  refine ⟨_, PSs.nox (pss_one (ps_if (PW.pt (pw_or (pt_cmpR op_lt (pv 0) pe_int (nomark _)) (pw_or1 (PW.pt (pw_and (pt_cmpR op_notN (pv 1) pe_non (nomark _)) (pw_and1 (pt_cmpR op_gt (pv 0) (pv 1) (nomark _)))))))) pss_never pss_nil)), ?_⟩
  refine rd_of (α := Int) (C := fun m => 1 ≤ m) (pre := fun m => [.int m, .none]) (post := fun _ => .none) (p := 2) (N := N_need_modulus) (fun _ => rfl) ?rd vs H Q E h
  case rd =>
    rintro m hm
    have e1 : decide (m < 1) = false := decide_eq_false (by omega)
    refine sx_if (b := decide (m < 1) || (false && false)) ?_ (fun h => absurd h (by rw [e1]; decide)) (fun _ => sx_next rfl)
    refine et_or (by walk_at "ev") fun _ => et_and (by walk_at "ev") fun h => nomatch h
/-! ### need_modulus2 -/
def sp_need_modulus2 : Sp := SpP (α := Int × Int) (fun x => 1 ≤ x.1 ∧ x.1 ≤ x.2) (fun x => [.int x.1, .int x.2]) (fun _ => .none)
theorem ev_need_modulus2 {tr : TA} {G : Gm} {m k : Int} (h : Ea tr G [.int m, .int k]) (c : 1 ≤ m ∧ m ≤ k) : Ep (tCall sp_need_modulus2 [] C8.E0 tr) G (.none) := ep_callD (α := Int × Int) (es := []) (m, k) h (fun W => .nil) rfl c
local macro_rules | `(tactic| walk_at "ev") => `(tactic| (with_reducible apply ev_need_modulus2) <;> walk_at "ev")
theorem cal_need_modulus2 {P : Program} {w : World} {K : PySem.W.Frag} {mg : Str → Option Value} {base : Heap} (T : Txt K mg) : Cal P w K mg base 1 "need_modulus" sp_need_modulus2 [] := by
  obtain ⟨fd, F⟩ := T.c.def_ 5 (d := d_need_modulus) rfl
  obtain ⟨ds, rD, bD⟩ := F.binds1 (ps := ["modulus", "most"]) 2 1 (fun z => nomatch z) rfl (fun _ _ _ _ _ _ _ us its hu hi => match us, its, hu, hi with | [_, _], [_], _, _ => ⟨_, rfl, rfl⟩)
  refine ⟨⟨_, fd, ["modulus", "most"], ds, ?_, T.glo 5, F.kp, bD, rD⟩⟩
  refine F.ok sc_need_modulus (fun vs H Q E h => len_of (α := Int × Int) (C := fun x => 1 ≤ x.1 ∧ x.1 ≤ x.2) (pre := fun x => [.int x.1, .int x.2]) (post := fun _ => .none) (p := 2) (fun _ => rfl) vs H Q E h) (fun cdv A outer s H vs Q E hr h => ?_)
  refine ⟨_, PSs.nox (pss_one (ps_if (PW.pt (pw_or (pt_cmpR op_lt (pv 0) pe_int (nomark _)) (pw_or1 (PW.pt (pw_and (pt_cmpR op_notN (pv 1) pe_non (nomark _)) (pw_and1 (pt_cmpR op_gt (pv 0) (pv 1) (nomark _)))))))) pss_never pss_nil)), ?_⟩
  refine rd_of (α := Int × Int) (C := fun x => 1 ≤ x.1 ∧ x.1 ≤ x.2) (pre := fun x => [.int x.1, .int x.2]) (post := fun _ => .none) (p := 2) (N := N_need_modulus) (fun _ => rfl) ?rd vs H Q E h
  case rd =>
    rintro ⟨m, k⟩ ⟨h1, h2⟩
    have h1 : 1 ≤ m := h1
    have h2 : m ≤ k := h2
    have e1 : decide (m < 1) = false := decide_eq_false (by omega)
    have e2 : decide (k < m) = false := decide_eq_false (by omega)
    refine sx_if (b := decide (m < 1) || (true && decide (k < m))) ?_ (fun h => absurd h (by rw [e1, e2]; decide)) (fun _ => sx_next rfl)
    walk_at "ev"
end Kr
end
section
/-! M1: the mirrors of values.py, in plain Lean. -/
namespace Kr
open PySem

/-- the loop of inverse_of -/
def invL : Nat → Int → Int → Int → Int → Int
  | 0, _, _, fa, _ => fa
  | k + 1, one, other, fa, fo => if other = 0 then fa else invL k other (one - one / other * other) fo (fa - one / other * fo)
def invF (n m : Int) : Int := invL ((n % m).toNat + 1) m (n % m) 0 1 % m
def metF (a b : Int × Int) : Int × Int :=
  (a.1 + a.2 * ((b.1 - a.1) / (Int.gcd a.2 b.2 : Int) * invF (a.2 / (Int.gcd a.2 b.2 : Int)) (b.2 / (Int.gcd a.2 b.2 : Int)) % (b.2 / (Int.gcd a.2 b.2 : Int))), a.2 * (b.2 / (Int.gcd a.2 b.2 : Int)))
def clsG (pl : Int) : Int × Int → List (Int × Int) → Int × Int
  | f, [] => f
  | f, q :: r => if q.1 = pl then (q.2, 0) else clsG pl (metF f (q.2 % ((pl - q.1).natAbs : Int), ((pl - q.1).natAbs : Int))) r
def classF (items : List (Int × Int)) (pl : Int) : Int × Int := clsG pl (0, 1) items
def farF (b : List (Int × Int)) (pl : Int) (ks : List Nat) : Nat := lcmN (ks.map fun k => pl - (b.getD k (0, 0)).1)
def keepF (b : List (Int × Int)) (pl m : Int) (kept : List Nat) (i : Nat) : List Nat :=
  if m ∣ (farF b pl (kept.filter fun o => !decide (o = i)) : Int) then kept.filter fun o => !decide (o = i) else kept
def reasonF (b : List (Int × Int)) (pl m : Int) : Option (List Nat) :=
  if m ∣ (farF b pl (List.range b.length) : Int) then some ((List.range b.length).foldl (keepF b pl m) (List.range b.length)) else none
def nD (ks : List Nat) : D := iD (ks.map fun (k : Nat) => (k : Int))
def reasonD : Option (List Nat) → D
  | none => .none
  | some ks => nD ks

theorem emod_sub (a b : Int) : a - a / b * b = a % b := by rw [Int.emod_def, Int.mul_comm]
/-- what holds in the loop -/
structure InvI (m one other fa fo : Int) : Prop where
  o1 : 1 ≤ one
  o2 : 0 ≤ other
  le : one ≤ m
  sz : (fo.natAbs : Int) * one + (fa.natAbs : Int) * other ≤ m
theorem InvI.start {n m : Int} (h : 1 ≤ m) : InvI m m (n % m) 0 1 := ⟨h, Int.emod_nonneg n (by omega), Int.le_refl m, by simp⟩
theorem InvI.step {m one other fa fo : Int} (h : InvI m one other fa fo) (z : other ≠ 0) (hm : other ≤ m) : InvI m other (one - one / other * other) fo (fa - one / other * fo) := by
  have o2 := h.o2
  have q0 : 0 ≤ one / other := Int.ediv_nonneg (by have := h.o1; omega) o2
  have e := emod_sub one other
  have r0 := Int.emod_nonneg one z
  refine ⟨by omega, by omega, hm, ?_⟩
  have t : ((fa - one / other * fo).natAbs : Int) ≤ (fa.natAbs : Int) + one / other * (fo.natAbs : Int) := by
    have h1 : (fa - one / other * fo).natAbs ≤ fa.natAbs + (one / other * fo).natAbs := by
      rw [Int.sub_eq_add_neg]
      have := Int.natAbs_add_le fa (-(one / other * fo))
      rw [Int.natAbs_neg] at this
      exact this
    rw [Int.natAbs_mul] at h1
    have h2 : ((one / other).natAbs : Int) = one / other := by omega
    have h3 : (((one / other).natAbs * fo.natAbs : Nat) : Int) = one / other * (fo.natAbs : Int) := by rw [Int.natCast_mul, h2]
    omega
  have t2 : ((fa - one / other * fo).natAbs : Int) * other ≤ ((fa.natAbs : Int) + one / other * (fo.natAbs : Int)) * other := Int.mul_le_mul_of_nonneg_right t o2
  have t3 : (fo.natAbs : Int) * (one - one / other * other) = (fo.natAbs : Int) * one - one / other * (fo.natAbs : Int) * other := by
    rw [Int.mul_sub]
    congr 1
    rw [← Int.mul_assoc, Int.mul_comm (fo.natAbs : Int) (one / other)]
  rw [t3]
  rw [Int.add_mul] at t2
  have := h.sz
  omega
theorem InvI.fo {m one other fa fo : Int} (h : InvI m one other fa fo) : fo.natAbs ≤ m.natAbs := by
  have h1 := h.sz
  have h2 : (fo.natAbs : Int) * 1 ≤ (fo.natAbs : Int) * one := Int.mul_le_mul_of_nonneg_left h.o1 (by omega)
  have h3 : 0 ≤ (fa.natAbs : Int) * other := Int.mul_nonneg (by omega) h.o2
  omega
theorem invL_step {k : Nat} {one other fa fo : Int} (z : other ≠ 0) : invL (k + 1) one other fa fo = invL k other (one - one / other * other) fo (fa - one / other * fo) := by
  show (if other = 0 then fa else _) = _
  rw [if_neg z]
theorem invL_end {k : Nat} {one fa fo : Int} : invL (k + 1) one 0 fa fo = fa := by
  show (if (0 : Int) = 0 then fa else _) = _
  rw [if_pos rfl]
theorem metF_pos {a b : Int × Int} (ha : 0 < a.2) (hb : 0 < b.2) : 0 < (Int.gcd a.2 b.2 : Int) ∧ 0 < b.2 / (Int.gcd a.2 b.2 : Int) ∧ 0 < a.2 / (Int.gcd a.2 b.2 : Int) := by
  have hg : 0 < (Int.gcd a.2 b.2 : Int) := by
    have := Int.gcd_pos_of_ne_zero_left b.2 (a := a.2) (by omega)
    omega
  exact ⟨hg, Int.ediv_pos_of_pos_of_dvd hb (by omega) (Int.gcd_dvd_right ..), Int.ediv_pos_of_pos_of_dvd ha (by omega) (Int.gcd_dvd_left ..)⟩
end Kr
end
section
namespace Kr
open PySem L2
open Evl (Ex)
open C8 (Cal pe_c)
local macro_rules | `(tactic| walk_at "ev") => `(tactic| skip)
local macro_rules | `(tactic| walk_at "ev") => `(tactic| first
  | with_reducible exact ep_int
  | with_reducible exact ep_bl
  | with_reducible exact ep_non
  | with_reducible exact ea_nil
  | with_reducible exact et_yes
  | with_reducible exact eo_no
  | ((with_reducible apply ep_var); rfl)
  | (with_reducible apply ea_cons) <;> walk_at "ev"
  | (with_reducible apply ep_op) <;> walk_at "ev"
  | (with_reducible apply ep_un) <;> walk_at "ev"
  | (with_reducible apply ep_isi) <;> walk_at "ev"
  | ((with_reducible apply ep_lenV); rfl)
  | (with_reducible apply ep_len) <;> walk_at "ev"
  | (with_reducible apply ep_abs) <;> walk_at "ev"
  | (with_reducible apply ep_int1) <;> walk_at "ev"
  | (with_reducible apply ep_max2) <;> walk_at "ev"
  | (with_reducible apply ep_min2) <;> walk_at "ev"
  | (with_reducible apply et_test) <;> walk_at "ev"
  | (with_reducible apply et_B) <;> walk_at "ev"
  | (with_reducible apply et_not) <;> walk_at "ev"
  | (with_reducible apply ep_notV) <;> walk_at "ev"
  | (with_reducible apply ep_tup) <;> walk_at "ev"
  | (with_reducible apply eo_part) <;> walk_at "ev"
  | with_reducible exact od_i
  | with_reducible exact od_b
  | with_reducible exact od_eqI
  | with_reducible exact od_neI
  | with_reducible exact od_isN
  | with_reducible exact od_notN
  | with_reducible exact od_notB
  | with_reducible apply od_c
  | with_reducible exact od_ixT0
  | with_reducible exact od_ixT1
  | with_reducible exact od_ixL0
  | with_reducible exact od_ixL1
  | with_reducible exact od_ixL2
  | with_reducible apply od_ixL
  | with_reducible apply od_ixT
  | with_reducible exact ud_neg
  | (with_reducible refine' et_or ?_ (fun _ => ?_)) <;> walk_at "ev"
  | (with_reducible refine' et_and ?_ (fun _ => ?_)) <;> walk_at "ev"
  | (with_reducible refine' ep_orV ?_ (fun _ => ?_)) <;> walk_at "ev"
  | (with_reducible refine' ep_andV ?_ (fun _ => ?_)) <;> walk_at "ev"
  | (with_reducible refine' ep_chain ?_ ?_ ?_ (fun _ => ?_) (fun _ => ?_)) <;> walk_at "ev"
  | exact isi_int
  | exact isi_intb
  | exact isi_lst
  | exact isi_tup
  | exact Nat.le_of_ble_eq_true rfl)
local macro_rules | `(tactic| walk_at "ev") => `(tactic| (with_reducible apply ev_divisor_of) <;> walk_at "ev")
local macro_rules | `(tactic| walk_at "ev") => `(tactic| (with_reducible apply ev_multiple_of) <;> walk_at "ev")
local macro_rules | `(tactic| walk_at "ev") => `(tactic| (with_reducible apply ev_divides) <;> walk_at "ev")
local macro_rules | `(tactic| walk_at "ev") => `(tactic| (with_reducible apply ev_do_fit) <;> walk_at "ev")
local macro_rules | `(tactic| walk_at "ev") => `(tactic| (with_reducible apply ev_conflicts_in) <;> walk_at "ev")
local macro_rules | `(tactic| walk_at "ev") => `(tactic| (with_reducible apply ev_is_integer) <;> walk_at "ev")
local macro_rules | `(tactic| walk_at "ev") => `(tactic| (with_reducible apply ev_is_told) <;> walk_at "ev")
local macro_rules | `(tactic| walk_at "ev") => `(tactic| (with_reducible apply ev_is_item) <;> walk_at "ev")
local macro_rules | `(tactic| walk_at "ev") => `(tactic| (with_reducible apply ev_is_book) <;> walk_at "ev")
local macro_rules | `(tactic| walk_at "ev") => `(tactic| (with_reducible apply ev_need_book) <;> walk_at "ev")
local macro_rules | `(tactic| walk_at "ev") => `(tactic| (with_reducible apply ev_conflict_in) <;> walk_at "ev")
local macro_rules | `(tactic| walk_at "ev") => `(tactic| (with_reducible apply ev_need_fitting) <;> walk_at "ev")
local macro_rules | `(tactic| walk_at "ev") => `(tactic| (with_reducible apply ev_need_possible) <;> walk_at "ev")
local macro_rules | `(tactic| walk_at "ev") => `(tactic| (with_reducible apply ev_conflict_of) <;> walk_at "ev")
local macro_rules | `(tactic| walk_at "ev") => `(tactic| (with_reducible apply ev_all_conflicts) <;> walk_at "ev")
local macro_rules | `(tactic| walk_at "ev") => `(tactic| (with_reducible apply ev_need_modulus1) <;> walk_at "ev")
local macro_rules | `(tactic| walk_at "ev") => `(tactic| (with_reducible apply ev_need_modulus2) <;> walk_at "ev")

theorem sm_le {k : Nat} {n m : Int} (h : Sm k m) (h0 : 0 ≤ n) (h1 : n ≤ m) : Sm k n := h.le (by omega)

/-! ### inverse_of -/
abbrev N_inverse_of : List Str := ["number", "modulus", "one", "other", "factor", "former", "share"]
theorem sc_inverse_of : FnScope N_inverse_of ["number", "modulus"] (defScope s_inverse_of) := ⟨rfl, rfl, rfl, by decide +kernel, rfl, by decide +kernel, by decide +kernel⟩
def sp_inverse_of : Sp := SpP (α := Int × Int) (fun x => 1 ≤ x.2 ∧ Sm 8000 x.2) (fun x => [.int x.1, .int x.2]) (fun x => .int (invF x.1 x.2))
theorem ev_inverse_of {tr : TA} {G : Gm} {n m : Int} (h : Ea tr G [.int n, .int m]) (c : 1 ≤ m ∧ Sm 8000 m) : Ep (tCall sp_inverse_of [] C8.E0 tr) G (.int (invF n m)) := ep_call (α := Int × Int) (n, m) h rfl c
local macro_rules | `(tactic| walk_at "ev") => `(tactic| (with_reducible apply ev_inverse_of) <;> walk_at "ev")
theorem cal_inverse_of {P : Program} {w : World} {K : PySem.W.Frag} {mg : Str → Option Value} {base : Heap} (T : Txt K mg) : Cal P w K mg base 1 "inverse_of" sp_inverse_of [] := by
  obtain ⟨fd, F⟩ := T.c.def_ 16 (d := d_inverse_of) rfl
  refine ⟨⟨_, fd, ["number", "modulus"], [], ?_, T.glo 16, F.kp, F.bindsN (fun _ _ _ _ _ _ us hl => match us, hl with | [_, _], _ => rfl), .nil⟩⟩
  refine F.ok sc_inverse_of (fun vs H Q E h => len_of (α := Int × Int) (C := fun x => 1 ≤ x.2 ∧ Sm 8000 x.2) (pre := fun x => [.int x.1, .int x.2]) (post := fun x => .int (invF x.1 x.2)) (p := 2) (fun _ => rfl) vs H Q E h) (fun cdv A outer s H vs Q E hr h => ?_)
  refine ⟨_, PSs.nox (pss_cons (ps_asg (pe_tup (pa_cons (pv 1) (pa_cons (pe_op op_mod (pv 0) (pv 1)) (pa_cons pe_int (pa_cons pe_int pa_nil))))) (pgT (K := K) (n := 4) rfl (pgs_cons (pg_name (i := 2) sc_inverse_of.nd rfl (Or.inl rfl)) (pgs_cons (pg_name (i := 3) sc_inverse_of.nd rfl (Or.inl rfl)) (pgs_cons (pg_name (i := 4) sc_inverse_of.nd rfl (Or.inl rfl)) (pgs_cons (pg_name (i := 5) sc_inverse_of.nd rfl (Or.inl rfl)) pgs_nil))))))
      (pss_cons (ps_while PassesOwn.never (pt_cmpR op_ne (pv 3) pe_int (nomark _)) (pss_cons (ps_set (i := 6) sc_inverse_of.nd rfl (Or.inl rfl) (pe_op op_fdivW (pv 2) (pv 3)))
      (pss_one (ps_asg (pe_tup (pa_cons (pv 3) (pa_cons (pe_op op_sub (pv 2) (pe_op op_mulW (pv 6) (pv 3))) (pa_cons (pv 5) (pa_cons (pe_op op_sub (pv 4) (pe_op op_mulW (pv 6) (pv 5))) pa_nil))))) (pgT (K := K) (n := 4) rfl (pgs_cons (pg_name (i := 2) sc_inverse_of.nd rfl (Or.inl rfl)) (pgs_cons (pg_name (i := 3) sc_inverse_of.nd rfl (Or.inl rfl)) (pgs_cons (pg_name (i := 4) sc_inverse_of.nd rfl (Or.inl rfl)) (pgs_cons (pg_name (i := 5) sc_inverse_of.nd rfl (Or.inl rfl)) pgs_nil)))))))))
      (pss_one (ps_ret (pe_op op_mod (pv 4) (pv 1)))))), ?_⟩
  refine rd_of (α := Int × Int) (C := fun x => 1 ≤ x.2 ∧ Sm 8000 x.2) (pre := fun x => [.int x.1, .int x.2]) (post := fun x => .int (invF x.1 x.2)) (p := 2) (N := N_inverse_of) (fun _ => rfl) ?rd vs H Q E h
  case rd =>
    rintro ⟨n, m⟩ ⟨hm, sm⟩
    have hm : 1 ≤ m := hm
    have sm : Sm 8000 m := sm
    refine sx_then (G1 := [some (.fro (.int n)), some (.fro (.int m)), some (.fro (.int m)), some (.fro (.int (n % m))), some (.fro (.int 0)), some (.fro (.int 1)), none]) (sx_tgt (d := .tuple [.int m, .int (n % m), .int 0, .int 1]) (by walk_at "ev"; show 0 < m; omega) tg_four ⟨rfl, rfl⟩) ?_
    refine sx_seq (M := fun G k => ∃ a b c e, G = [some (.fro (.int n)), some (.fro (.int m)), a, b, some (.fro (.int (invL ((n % m).toNat + 1) m (n % m) 0 1))), c, e])
      (sx_while (fun k G _ => ∃ (one other fa fo : Int) (o : Option B), InvI m one other fa fo ∧ other ≤ m ∧ k = other.toNat ∧ invL (other.toNat + 1) one other fa fo = invL ((n % m).toNat + 1) m (n % m) 0 1 ∧
        G = [some (.fro (.int n)), some (.fro (.int m)), some (.fro (.int one)), some (.fro (.int other)), some (.fro (.int fa)), some (.fro (.int fo)), o]) (n % m).toNat ⟨m, n % m, 0, 1, none, InvI.start hm, ?_, rfl, rfl, rfl⟩ ?_) ?_
    · have := Int.emod_lt_of_pos n (show 0 < m by omega)
      omega
    · rintro k G k2 ⟨one, other, fa, fo, o, I, hl, rfl, hi, rfl⟩
      refine ⟨!decide (other = 0), by walk_at "ev", fun hb => ?_, fun hb => ?_⟩
      · have z : other ≠ 0 := by simpa using hb
        have o2 := I.o2
        have so : Sm 8000 other := sm_le sm o2 hl
        have s1 : Sm 8000 one := sm_le sm (by have := I.o1; omega) I.le
        have q0 : 0 ≤ one / other := Int.ediv_nonneg (by have := I.o1; omega) o2
        have q1 : one / other ≤ one := Int.ediv_le_self _ (by have := I.o1; omega)
        have sq : Sm 8000 (one / other) := sm_le s1 q0 q1
        have sf : Sm 8000 fo := sm.le I.fo
        have e := emod_sub one other
        have r0 := Int.emod_nonneg one z
        have r1 := Int.emod_lt_of_pos one (show 0 < other by omega)
        refine sx_then (sx_asg (d := .int (one / other)) (by walk_at "ev"; exact Sm.cdiv so (by omega) (by omega)) ⟨rfl, rfl⟩) ?_
        refine sx_tgt (d := .tuple [.int other, .int (one - one / other * other), .int fo, .int (fa - one / other * fo)]) ?_ tg_four ⟨(one - one / other * other).toNat, by omega, other, one - one / other * other, fo, fa - one / other * fo, _, I.step z hl, by omega, rfl, ?_, rfl⟩
        · walk_at "ev"
          · exact Sm.cmul sq so (by omega)
          · exact Sm.cmul sq sf (by omega)
        · rw [← hi, invL_step z]
          rw [show other.toNat = ((other.toNat - 1) + 1) by omega]
          have g : ∀ (k1 k2 : Nat) (a b c d : Int), 0 ≤ b → b.toNat < k1 → b.toNat < k2 → invL k1 a b c d = invL k2 a b c d := by
            intro k1
            induction k1 with
            | zero => intro k2 a b c d _ h1 _; omega
            | succ k1 ih =>
              intro k2 a b c d h0 h1 h2
              cases k2 with
              | zero => omega
              | succ k2 =>
                by_cases y : b = 0
                · subst y; rw [invL_end, invL_end]
                · rw [invL_step y, invL_step y]
                  have e1 := emod_sub a b
                  have e2 := Int.emod_nonneg a y
                  have e3 := Int.emod_lt_of_pos a (show 0 < b by omega)
                  exact ih k2 _ _ _ _ (by omega) (by omega) (by omega)
          exact g _ _ _ _ _ _ (by omega) (by omega) (by omega)
      · have z : other = 0 := by simpa using hb
        subst z
        rw [show (0 : Int).toNat + 1 = 0 + 1 from rfl, invL_end] at hi
        exact ⟨_, _, _, _, by rw [← hi]⟩
    · rintro G k ⟨a, b, c, e, rfl⟩
      refine sx_ret (d := .int (invF n m)) ?_ rfl
      unfold invF
      walk_at "ev"
      show 0 < m
      omega
/-! ### met -/
abbrev N_met : List Str := ["one", "other", "divisor", "part", "rounds"]
theorem sc_met : FnScope N_met ["one", "other"] (defScope s_met) := ⟨rfl, rfl, rfl, by decide +kernel, rfl, by decide +kernel, by decide +kernel⟩
def sp_met : Sp := SpP (α := (Int × Int) × (Int × Int)) (fun x => (0 ≤ x.1.1 ∧ x.1.1 < x.1.2) ∧ (0 ≤ x.2.1 ∧ x.2.1 < x.2.2) ∧ Sm 8000 x.1.2 ∧ Sm 8000 x.2.2) (fun x => [prD x.1, prD x.2]) (fun x => prD (metF x.1 x.2))
theorem ev_met {tr : TA} {G : Gm} {a b : Int × Int} (h : Ea tr G [prD a, prD b]) (c : (0 ≤ a.1 ∧ a.1 < a.2) ∧ (0 ≤ b.1 ∧ b.1 < b.2) ∧ Sm 8000 a.2 ∧ Sm 8000 b.2) : Ep (tCall sp_met [] C8.E0 tr) G (prD (metF a b)) := ep_call (α := (Int × Int) × (Int × Int)) (a, b) h rfl c
local macro_rules | `(tactic| walk_at "ev") => `(tactic| (with_reducible apply ev_met) <;> walk_at "ev")
theorem cal_met {P : Program} {w : World} {K : PySem.W.Frag} {mg : Str → Option Value} {base : Heap} (T : Txt K mg) : Cal P w K mg base 2 "met" sp_met [] := by
  obtain ⟨fd, F⟩ := T.c.def_ 17 (d := d_met) rfl
  refine ⟨⟨_, fd, ["one", "other"], [], ?_, T.glo 17, F.kp, F.bindsN (fun _ _ _ _ _ _ us hl => match us, hl with | [_, _], _ => rfl), .nil⟩⟩
  refine F.ok sc_met (fun vs H Q E h => len_of (α := (Int × Int) × (Int × Int)) (C := fun x => (0 ≤ x.1.1 ∧ x.1.1 < x.1.2) ∧ (0 ≤ x.2.1 ∧ x.2.1 < x.2.2) ∧ Sm 8000 x.1.2 ∧ Sm 8000 x.2.2) (pre := fun x => [prD x.1, prD x.2]) (post := fun x => prD (metF x.1 x.2)) (p := 2) (fun _ => rfl) vs H Q E h) (fun cdv A outer s H vs Q E hr h => ?_)
  refine ⟨_, PSs.nox (pss_cons (ps_set (i := 2) sc_met.nd rfl (Or.inl rfl) (pe_c (cal_divisor_of T) hr (by decide) rfl (pa_cons (pe_ix (ixT (K := K)) (pv 0) pe_int (fun _ _ => rfl)) (pa_cons (pe_ix (ixT (K := K)) (pv 1) pe_int (fun _ _ => rfl)) pa_nil))))
      (pss_cons (ps_set (i := 3) sc_met.nd rfl (Or.inl rfl) (pe_op op_fdivW (pe_ix (ixT (K := K)) (pv 1) pe_int (fun _ _ => rfl)) (pv 2)))
      (pss_cons (ps_set (i := 4) sc_met.nd rfl (Or.inl rfl) (pe_op op_mod (pe_op op_mulW (pe_op op_fdivW (pe_op op_sub (pe_ix (ixT (K := K)) (pv 1) pe_int (fun _ _ => rfl)) (pe_ix (ixT (K := K)) (pv 0) pe_int (fun _ _ => rfl))) (pv 2)) (pe_c (cal_inverse_of T) hr (by decide) rfl (pa_cons (pe_op op_fdivW (pe_ix (ixT (K := K)) (pv 0) pe_int (fun _ _ => rfl)) (pv 2)) (pa_cons (pv 3) pa_nil)))) (pv 3)))
      (pss_one (ps_ret (pe_tup (pa_cons (pe_op op_add (pe_ix (ixT (K := K)) (pv 0) pe_int (fun _ _ => rfl)) (pe_op op_mulW (pe_ix (ixT (K := K)) (pv 0) pe_int (fun _ _ => rfl)) (pv 4))) (pa_cons (pe_op op_mulW (pe_ix (ixT (K := K)) (pv 0) pe_int (fun _ _ => rfl)) (pv 3)) pa_nil)))))))), ?_⟩
  refine rd_of (α := (Int × Int) × (Int × Int)) (C := fun x => (0 ≤ x.1.1 ∧ x.1.1 < x.1.2) ∧ (0 ≤ x.2.1 ∧ x.2.1 < x.2.2) ∧ Sm 8000 x.1.2 ∧ Sm 8000 x.2.2) (pre := fun x => [prD x.1, prD x.2]) (post := fun x => prD (metF x.1 x.2)) (p := 2) (N := N_met) (fun _ => rfl) ?rd vs H Q E h
  case rd =>
    rintro ⟨a, b⟩ ⟨ha, hb, sa, sb⟩
    have ra : 0 ≤ a.1 ∧ a.1 < a.2 := ha
    have rb : 0 ≤ b.1 ∧ b.1 < b.2 := hb
    have ha : 0 < a.2 := by omega
    have hb : 0 < b.2 := by omega
    have sa : Sm 8000 a.2 := sa
    have sb : Sm 8000 b.2 := sb
    obtain ⟨g0, p0, n0⟩ := metF_pos ha hb
    have sg : Sm 8000 (Int.gcd a.2 b.2 : Int) := sb.gcd (by omega)
    have sp : Sm 8000 (b.2 / (Int.gcd a.2 b.2 : Int)) := sm_le sb (by omega) (Int.ediv_le_self _ (by omega))
    refine sx_then (sx_asg (d := .int (Int.gcd a.2 b.2 : Int)) (by walk_at "ev"; exact ⟨Int.le_of_lt ha, Int.le_of_lt hb⟩) ⟨rfl, rfl⟩) ?_
    refine sx_then (sx_asg (d := .int (b.2 / (Int.gcd a.2 b.2 : Int))) (by walk_at "ev"; exact Sm.cdiv sg g0 (by omega)) ⟨rfl, rfl⟩) ?_
    refine sx_then (sx_asg (d := .int ((b.1 - a.1) / (Int.gcd a.2 b.2 : Int) * invF (a.2 / (Int.gcd a.2 b.2 : Int)) (b.2 / (Int.gcd a.2 b.2 : Int)) % (b.2 / (Int.gcd a.2 b.2 : Int)))) ?_ ⟨rfl, rfl⟩) ?_
    · walk_at "ev"
      · exact Sm.cdiv sg g0 (by omega)
      · exact Sm.cdiv sg g0 (by omega)
      · exact ⟨by omega, sp⟩
      · refine Sm.cmul (k := 8002) (l := 8000) (Sm.ediv (Sm.sub (sm_le sb rb.1 (Int.le_of_lt rb.2)) (sm_le sa ra.1 (Int.le_of_lt ra.2)))) ?_ (by omega)
        unfold invF
        exact sp.emod p0
      · exact p0
    · refine sx_ret (d := prD (metF a b)) ?_ rfl
      unfold metF
      walk_at "ev"
      · refine Sm.cmul (k := 8000) (l := 8000) sa (sp.emod p0) (by omega)
      · exact Sm.cmul (k := 8000) (l := 8000) sa sp (by omega)
theorem metF_bd {a b : Int × Int} (ra : 0 ≤ a.1 ∧ a.1 < a.2) (hb : 0 < b.2) : 0 ≤ (metF a b).1 ∧ (metF a b).1 < (metF a b).2 := by
  obtain ⟨g0, p0, n0⟩ := metF_pos (a := a) (b := b) (by omega) hb
  unfold metF
  show 0 ≤ a.1 + a.2 * _ ∧ a.1 + a.2 * _ < a.2 * _
  generalize hp : b.2 / (Int.gcd a.2 b.2 : Int) = p at *
  generalize ht : (b.1 - a.1) / (Int.gcd a.2 b.2 : Int) * invF (a.2 / (Int.gcd a.2 b.2 : Int)) p = t
  have h1 := Int.emod_nonneg t (show p ≠ 0 by omega)
  have h2 := Int.emod_lt_of_pos t p0
  have h3 : 0 ≤ a.2 * (t % p) := Int.mul_nonneg (by omega) h1
  have h4 : a.2 * (t % p) ≤ a.2 * (p - 1) := Int.mul_le_mul_of_nonneg_left (by omega) (by omega)
  rw [Int.mul_sub, Int.mul_one] at h4
  omega
theorem metF_sz {a b : Int × Int} {k l : Nat} (ha : 0 < a.2) (hb : 0 < b.2) (sa : Sm k a.2) (sb : Sm l b.2) : Sm (k + l) (metF a b).2 := by
  obtain ⟨g0, p0, n0⟩ := metF_pos (a := a) (b := b) ha hb
  unfold metF
  exact sa.mul (sm_le sb (by omega) (Int.ediv_le_self _ (by omega)))
/-- items: near enough to the place -/
def Near (pl : Int) (items : List (Int × Int)) : Prop := ∀ q ∈ items, Sm 110 (pl - q.1)
theorem clsG_snoc (pl : Int) (q : Int × Int) : ∀ (l : List (Int × Int)) (f : Int × Int), (∀ r ∈ l, r.1 ≠ pl) → q.1 ≠ pl → clsG pl f (l ++ [q]) = metF (clsG pl f l) (q.2 % ((pl - q.1).natAbs : Int), ((pl - q.1).natAbs : Int))
  | [], f, _, h => by
    show (if q.1 = pl then _ else clsG pl _ []) = _
    rw [if_neg h]
    rfl
  | r :: l, f, h1, h2 => by
    show (if r.1 = pl then _ else clsG pl _ (l ++ [q])) = metF (if r.1 = pl then _ else clsG pl _ l) _
    rw [if_neg (h1 r (by simp)), if_neg (h1 r (by simp))]
    exact clsG_snoc pl q l _ (fun s hs => h1 s (by simp [hs])) h2
theorem clsG_hit (pl : Int) (q : Int × Int) : ∀ (l po : List (Int × Int)) (f : Int × Int), (∀ r ∈ l, r.1 ≠ pl) → q.1 = pl → clsG pl f (l ++ q :: po) = (q.2, 0)
  | [], po, f, _, h => by
    show (if q.1 = pl then _ else clsG pl _ po) = _
    rw [if_pos h]
  | r :: l, po, f, h1, h2 => by
    show (if r.1 = pl then _ else clsG pl _ (l ++ q :: po)) = _
    rw [if_neg (h1 r (by simp))]
    exact clsG_hit pl q l po _ (fun s hs => h1 s (by simp [hs])) h2

/-! ### class_by -/
abbrev N_class_by : List Str := ["items", "place", "found", "told", "value", "far"]
theorem sc_class_by : FnScope N_class_by ["items", "place"] (defScope s_class_by) := ⟨rfl, rfl, rfl, by decide +kernel, rfl, by decide +kernel, by decide +kernel⟩
def sp_class_by : Sp := SpP (α := (List (Int × Int)) × Int) (fun x => x.1.length ≤ 40 ∧ Near x.2 x.1) (fun x => [bkD x.1, .int x.2]) (fun x => prD (classF x.1 x.2))
theorem ev_class_by {tr : TA} {G : Gm} {b : List (Int × Int)} {pl : Int} (h : Ea tr G [bkD b, .int pl]) (c : b.length ≤ 40 ∧ Near pl b) : Ep (tCall sp_class_by [] C8.E0 tr) G (prD (classF b pl)) := ep_call (α := (List (Int × Int)) × Int) (b, pl) h rfl c
local macro_rules | `(tactic| walk_at "ev") => `(tactic| (with_reducible apply ev_class_by) <;> walk_at "ev")
theorem cal_class_by {P : Program} {w : World} {K : PySem.W.Frag} {mg : Str → Option Value} {base : Heap} (T : Txt K mg) : Cal P w K mg base 3 "class_by" sp_class_by [] := by
  obtain ⟨fd, F⟩ := T.c.def_ 18 (d := d_class_by) rfl
  refine ⟨⟨_, fd, ["items", "place"], [], ?_, T.glo 18, F.kp, F.bindsN (fun _ _ _ _ _ _ us hl => match us, hl with | [_, _], _ => rfl), .nil⟩⟩
  refine F.ok sc_class_by (fun vs H Q E h => len_of (α := (List (Int × Int)) × Int) (C := fun x => x.1.length ≤ 40 ∧ Near x.2 x.1) (pre := fun x => [bkD x.1, .int x.2]) (post := fun x => prD (classF x.1 x.2)) (p := 2) (fun _ => rfl) vs H Q E h) (fun cdv A outer s H vs Q E hr h => ?_)
  refine ⟨_, PSs.nox (pss_cons (ps_set (i := 2) sc_class_by.nd rfl (Or.inl rfl) (pe_tup (pa_cons pe_int (pa_cons pe_int pa_nil))))
      (pss_cons (ps_for PassesOwn.never rfl (piL (K := K) (pv 0)) (pgT (K := K) (n := 2) rfl (pgs_cons (pg_name (i := 3) sc_class_by.nd rfl (Or.inl rfl)) (pgs_cons (pg_name (i := 4) sc_class_by.nd rfl (Or.inl rfl)) pgs_nil))) (pss_cons (ps_if (pt_cmpR op_eq (pv 3) (pv 1) (nomark _)) (pss_one (ps_ret (pe_tup (pa_cons (pv 4) (pa_cons pe_int pa_nil))))) pss_nil)
      (pss_cons (ps_set (i := 5) sc_class_by.nd rfl (Or.inl rfl) (pe_callB k_abs rfl (free_abs T) bb_abs (pa_cons (pe_op op_sub (pv 1) (pv 3)) pa_nil)))
      (pss_one (ps_set (i := 2) sc_class_by.nd rfl (Or.inl rfl) (pe_c (cal_met T) hr (by decide) rfl (pa_cons (pv 2) (pa_cons (pe_tup (pa_cons (pe_op op_mod (pv 4) (pv 5)) (pa_cons (pv 5) pa_nil))) pa_nil))))))))
      (pss_one (ps_ret (pv 2))))), ?_⟩
  refine rd_of (α := (List (Int × Int)) × Int) (C := fun x => x.1.length ≤ 40 ∧ Near x.2 x.1) (pre := fun x => [bkD x.1, .int x.2]) (post := fun x => prD (classF x.1 x.2)) (p := 2) (N := N_class_by) (fun _ => rfl) ?rd vs H Q E h
  case rd =>
    rintro ⟨b, pl⟩ ⟨hl, hn⟩
    have hl : b.length ≤ 40 := hl
    have hn : Near pl b := hn
    refine sx_then (sx_asg (d := prD (0, 1)) (by walk_at "ev") ⟨rfl, rfl⟩) ?_
    refine sx_seq (M := fun G n => ∃ o1 o2 o3, (∀ r ∈ b, r.1 ≠ pl) ∧ G = [some (.fro (bkD b)), some (.fro (.int pl)), some (.fro (prD (classF b pl))), o1, o2, o3])
      (sx_forP b prD (fun pr G n => ∃ o1 o2 o3, (∀ r ∈ pr, r.1 ≠ pl) ∧ (0 ≤ (classF pr pl).1 ∧ (classF pr pl).1 < (classF pr pl).2) ∧ Sm (110 * pr.length + 1) (classF pr pl).2 ∧
        G = [some (.fro (bkD b)), some (.fro (.int pl)), some (.fro (prD (classF pr pl))), o1, o2, o3]) (es_list (by walk_at "ev")) ⟨none, none, none, by simp, ⟨by show (0 : Int) ≤ 0; decide, by show (0 : Int) < 1; decide⟩, by show (1 : Int).natAbs < 2 ^ (110 * 0 + 1); decide, rfl⟩ ?_ ?_) ?_
    · rintro pr q po G n hx ⟨o1, o2, o3, hne, hr, hs, rfl⟩
      refine ⟨_, _, tg_two, ?_⟩
      have hq : q ∈ b := by rw [hx]; simp
      have hpl : pr.length < 40 := by
        have := congrArg List.length hx
        rw [List.length_append, List.length_cons] at this
        omega
      refine sx_seq (M := fun G' n' => q.1 ≠ pl ∧ G' = [some (.fro (bkD b)), some (.fro (.int pl)), some (.fro (prD (classF pr pl))), some (.fro (.int q.1)), some (.fro (.int q.2)), o3]) (sx_if (b := decide (q.1 = pl)) (by walk_at "ev") (fun hb => ?_) (fun hb => sx_next ⟨by simpa using hb, rfl⟩)) ?_
      · have e : q.1 = pl := by simpa using hb
        refine sx_ret (d := prD (q.2, 0)) (by walk_at "ev") ?_
        show prD (q.2, 0) = prD (classF b pl)
        rw [hx]
        unfold classF
        rw [clsG_hit pl q pr po _ hne e]
      · rintro G' n' ⟨e, rfl⟩
        have hf : 0 < ((pl - q.1).natAbs : Int) := by omega
        have sf : Sm 110 ((pl - q.1).natAbs : Int) := (hn q hq).natAbs
        have e2 : classF (pr ++ [q]) pl = metF (classF pr pl) (q.2 % ((pl - q.1).natAbs : Int), ((pl - q.1).natAbs : Int)) := by
          unfold classF
          exact clsG_snoc pl q pr _ hne e
        refine sx_then (sx_asg (d := .int ((pl - q.1).natAbs : Int)) (by walk_at "ev") ⟨rfl, rfl⟩) ?_
        refine sx_asg (d := prD (classF (pr ++ [q]) pl)) ?_ ⟨_, _, _, ?_, ?_, ?_, rfl⟩
        · rw [e2]
          walk_at "ev"
          · exact hf
          · exact ⟨hr, ⟨Int.emod_nonneg _ (by omega), Int.emod_lt_of_pos _ hf⟩, hs.mono (by omega), sf.mono (by omega)⟩
        · intro r hr
          rcases List.mem_append.mp hr with z | z
          · exact hne r z
          · rw [List.mem_singleton.mp z]; exact e
        · rw [e2]
          exact metF_bd hr hf
        · rw [e2]
          have := metF_sz (a := classF pr pl) (b := (q.2 % ((pl - q.1).natAbs : Int), ((pl - q.1).natAbs : Int))) (by omega) hf hs sf
          refine this.mono ?_
          rw [List.length_append, List.length_singleton]
          omega
    · rintro G n ⟨o1, o2, o3, h1, _, _, rfl⟩
      exact ⟨o1, o2, o3, h1, rfl⟩
    · rintro G n ⟨o1, o2, o3, h1, rfl⟩
      exact sx_ret (by walk_at "ev") rfl
end Kr
end
section
namespace Kr
open PySem L2
open Evl (Ex)
open C8 (Cal pe_c)
local macro_rules | `(tactic| walk_at "ev") => `(tactic| skip)
local macro_rules | `(tactic| walk_at "ev") => `(tactic| first
  | with_reducible exact ep_int
  | with_reducible exact ep_bl
  | with_reducible exact ep_non
  | with_reducible exact ea_nil
  | with_reducible exact et_yes
  | with_reducible exact eo_no
  | ((with_reducible apply ep_var); rfl)
  | (with_reducible apply ea_cons) <;> walk_at "ev"
  | (with_reducible apply ep_op) <;> walk_at "ev"
  | (with_reducible apply ep_un) <;> walk_at "ev"
  | (with_reducible apply ep_isi) <;> walk_at "ev"
  | ((with_reducible apply ep_lenV); rfl)
  | (with_reducible apply ep_len) <;> walk_at "ev"
  | (with_reducible apply ep_abs) <;> walk_at "ev"
  | (with_reducible apply ep_int1) <;> walk_at "ev"
  | (with_reducible apply ep_max2) <;> walk_at "ev"
  | (with_reducible apply ep_min2) <;> walk_at "ev"
  | (with_reducible apply et_test) <;> walk_at "ev"
  | (with_reducible apply et_B) <;> walk_at "ev"
  | (with_reducible apply et_not) <;> walk_at "ev"
  | (with_reducible apply ep_notV) <;> walk_at "ev"
  | (with_reducible apply ep_tup) <;> walk_at "ev"
  | (with_reducible apply eo_part) <;> walk_at "ev"
  | with_reducible exact od_i
  | with_reducible exact od_b
  | with_reducible exact od_eqI
  | with_reducible exact od_neI
  | with_reducible exact od_isN
  | with_reducible exact od_notN
  | with_reducible exact od_notB
  | with_reducible apply od_c
  | with_reducible exact od_ixT0
  | with_reducible exact od_ixT1
  | with_reducible exact od_ixL0
  | with_reducible exact od_ixL1
  | with_reducible exact od_ixL2
  | with_reducible apply od_ixL
  | with_reducible apply od_ixT
  | with_reducible exact ud_neg
  | (with_reducible refine' et_or ?_ (fun _ => ?_)) <;> walk_at "ev"
  | (with_reducible refine' et_and ?_ (fun _ => ?_)) <;> walk_at "ev"
  | (with_reducible refine' ep_orV ?_ (fun _ => ?_)) <;> walk_at "ev"
  | (with_reducible refine' ep_andV ?_ (fun _ => ?_)) <;> walk_at "ev"
  | (with_reducible refine' ep_chain ?_ ?_ ?_ (fun _ => ?_) (fun _ => ?_)) <;> walk_at "ev"
  | exact isi_int
  | exact isi_intb
  | exact isi_lst
  | exact isi_tup
  | exact Nat.le_of_ble_eq_true rfl)
local macro_rules | `(tactic| walk_at "ev") => `(tactic| (with_reducible apply ev_divisor_of) <;> walk_at "ev")
local macro_rules | `(tactic| walk_at "ev") => `(tactic| (with_reducible apply ev_multiple_of) <;> walk_at "ev")
local macro_rules | `(tactic| walk_at "ev") => `(tactic| (with_reducible apply ev_divides) <;> walk_at "ev")
local macro_rules | `(tactic| walk_at "ev") => `(tactic| (with_reducible apply ev_do_fit) <;> walk_at "ev")
local macro_rules | `(tactic| walk_at "ev") => `(tactic| (with_reducible apply ev_conflicts_in) <;> walk_at "ev")
local macro_rules | `(tactic| walk_at "ev") => `(tactic| (with_reducible apply ev_is_integer) <;> walk_at "ev")
local macro_rules | `(tactic| walk_at "ev") => `(tactic| (with_reducible apply ev_is_told) <;> walk_at "ev")
local macro_rules | `(tactic| walk_at "ev") => `(tactic| (with_reducible apply ev_is_item) <;> walk_at "ev")
local macro_rules | `(tactic| walk_at "ev") => `(tactic| (with_reducible apply ev_is_book) <;> walk_at "ev")
local macro_rules | `(tactic| walk_at "ev") => `(tactic| (with_reducible apply ev_need_book) <;> walk_at "ev")
local macro_rules | `(tactic| walk_at "ev") => `(tactic| (with_reducible apply ev_conflict_in) <;> walk_at "ev")
local macro_rules | `(tactic| walk_at "ev") => `(tactic| (with_reducible apply ev_need_fitting) <;> walk_at "ev")
local macro_rules | `(tactic| walk_at "ev") => `(tactic| (with_reducible apply ev_need_possible) <;> walk_at "ev")
local macro_rules | `(tactic| walk_at "ev") => `(tactic| (with_reducible apply ev_conflict_of) <;> walk_at "ev")
local macro_rules | `(tactic| walk_at "ev") => `(tactic| (with_reducible apply ev_all_conflicts) <;> walk_at "ev")
local macro_rules | `(tactic| walk_at "ev") => `(tactic| (with_reducible apply ev_need_modulus1) <;> walk_at "ev")
local macro_rules | `(tactic| walk_at "ev") => `(tactic| (with_reducible apply ev_need_modulus2) <;> walk_at "ev")
local macro_rules | `(tactic| walk_at "ev") => `(tactic| (with_reducible apply ev_inverse_of) <;> walk_at "ev")
local macro_rules | `(tactic| walk_at "ev") => `(tactic| (with_reducible apply ev_met) <;> walk_at "ev")
local macro_rules | `(tactic| walk_at "ev") => `(tactic| (with_reducible apply ev_class_by) <;> walk_at "ev")

/-- a place near enough -/
def Pl (pl : Int) : Prop := -10000000000000000000000000000000 ≤ pl ∧ pl ≤ 10000000000000000000000000000000
theorem sm_lit {n : Int} (h : -100000000000000000000000000000000 ≤ n ∧ n ≤ 100000000000000000000000000000000) : Sm 110 n := sm_of 100000000000000000000000000000000 h (by decide)
theorem Bk.near {b : List (Int × Int)} {pl : Int} (h : Bk b) (p : Pl pl) : Near pl b := fun q hq => by
  have := (h.rng q hq).1
  have p1 := p.1
  have p2 := p.2
  exact sm_lit ⟨by omega, by omega⟩

/-! ### class_at -/
abbrev N_class_at : List Str := ["book", "place"]
theorem sc_class_at : FnScope N_class_at ["book", "place"] (defScope s_class_at) := ⟨rfl, rfl, rfl, by decide +kernel, rfl, by decide +kernel, by decide +kernel⟩
def sp_class_at : Sp := SpP (α := (List (Int × Int)) × Int) (fun x => (Bk x.1 ∧ confs x.1 = []) ∧ Pl x.2) (fun x => [bkD x.1, .int x.2]) (fun x => prD (classF x.1 x.2))
theorem ev_class_at {tr : TA} {G : Gm} {b : List (Int × Int)} {pl : Int} (h : Ea tr G [bkD b, .int pl]) (c : (Bk b ∧ confs b = []) ∧ Pl pl) : Ep (tCall sp_class_at [] C8.E0 tr) G (prD (classF b pl)) := ep_call (α := (List (Int × Int)) × Int) (b, pl) h rfl c
local macro_rules | `(tactic| walk_at "ev") => `(tactic| (with_reducible apply ev_class_at) <;> walk_at "ev")
theorem cal_class_at {P : Program} {w : World} {K : PySem.W.Frag} {mg : Str → Option Value} {base : Heap} (T : Txt K mg) : Cal P w K mg base 7 "class_at" sp_class_at [] := by
  obtain ⟨fd, F⟩ := T.c.def_ 19 (d := d_class_at) rfl
  refine ⟨⟨_, fd, ["book", "place"], [], ?_, T.glo 19, F.kp, F.bindsN (fun _ _ _ _ _ _ us hl => match us, hl with | [_, _], _ => rfl), .nil⟩⟩
  refine F.ok sc_class_at (fun vs H Q E h => len_of (α := (List (Int × Int)) × Int) (C := fun x => (Bk x.1 ∧ confs x.1 = []) ∧ Pl x.2) (pre := fun x => [bkD x.1, .int x.2]) (post := fun x => prD (classF x.1 x.2)) (p := 2) (fun _ => rfl) vs H Q E h) (fun cdv A outer s H vs Q E hr h => ?_)
  refine ⟨_, PSs.nox (pss_cons (ps_expr (pe_c (cal_need_possible T) hr (by decide) rfl (pa_cons (pv 0) pa_nil)))
      (pss_one (ps_ret (pe_c (cal_class_by T) hr (by decide) rfl (pa_cons (pv 0) (pa_cons (pv 1) pa_nil)))))), ?_⟩
  refine rd_of (α := (List (Int × Int)) × Int) (C := fun x => (Bk x.1 ∧ confs x.1 = []) ∧ Pl x.2) (pre := fun x => [bkD x.1, .int x.2]) (post := fun x => prD (classF x.1 x.2)) (p := 2) (N := N_class_at) (fun _ => rfl) ?rd vs H Q E h
  case rd =>
    rintro ⟨b, pl⟩ ⟨⟨hb, hf⟩, hp⟩
    show Sx _ [some (.fro (bkD b)), some (.fro (.int pl))] 0 _ _
    have hb : Bk b := hb
    have hp : Pl pl := hp
    refine sx_then (sx_drop (d := .none) (by walk_at "ev"; exact ⟨hb, hf⟩) ⟨rfl, rfl⟩) ?_
    refine sx_ret (d := prD (classF b pl)) ?_ rfl
    walk_at "ev"
    exact ⟨by have := hb.len; omega, hb.near hp⟩
/-! ### can_have -/
abbrev N_can_have : List Str := ["book", "place", "value", "rest", "modulus"]
theorem sc_can_have : FnScope N_can_have ["book", "place", "value"] (defScope s_can_have) := ⟨rfl, rfl, rfl, by decide +kernel, rfl, by decide +kernel, by decide +kernel⟩
def sp_can_have : Sp := SpP (α := (List (Int × Int)) × Int × Int) (fun x => (Bk x.1 ∧ confs x.1 = []) ∧ Pl x.2.1) (fun x => [bkD x.1, .int x.2.1, .int x.2.2]) (fun x => .bool (decide ((classF x.1 x.2.1).2 ∣ x.2.2 - (classF x.1 x.2.1).1)))
theorem ev_can_have {tr : TA} {G : Gm} {b : List (Int × Int)} {pl v : Int} (h : Ea tr G [bkD b, .int pl, .int v]) (c : (Bk b ∧ confs b = []) ∧ Pl pl) : Ep (tCall sp_can_have [] C8.E0 tr) G (.bool (decide ((classF b pl).2 ∣ v - (classF b pl).1))) := ep_call (α := (List (Int × Int)) × Int × Int) (b, pl, v) h rfl c
local macro_rules | `(tactic| walk_at "ev") => `(tactic| (with_reducible apply ev_can_have) <;> walk_at "ev")
theorem cal_can_have {P : Program} {w : World} {K : PySem.W.Frag} {mg : Str → Option Value} {base : Heap} (T : Txt K mg) : Cal P w K mg base 7 "can_have" sp_can_have [] := by
  obtain ⟨fd, F⟩ := T.c.def_ 20 (d := d_can_have) rfl
  refine ⟨⟨_, fd, ["book", "place", "value"], [], ?_, T.glo 20, F.kp, F.bindsN (fun _ _ _ _ _ _ us hl => match us, hl with | [_, _, _], _ => rfl), .nil⟩⟩
  refine F.ok sc_can_have (fun vs H Q E h => len_of (α := (List (Int × Int)) × Int × Int) (C := fun x => (Bk x.1 ∧ confs x.1 = []) ∧ Pl x.2.1) (pre := fun x => [bkD x.1, .int x.2.1, .int x.2.2]) (post := fun x => .bool (decide ((classF x.1 x.2.1).2 ∣ x.2.2 - (classF x.1 x.2.1).1))) (p := 3) (fun _ => rfl) vs H Q E h) (fun cdv A outer s H vs Q E hr h => ?_)
  refine ⟨_, PSs.nox (pss_cons (ps_expr (pe_c (cal_need_possible T) hr (by decide) rfl (pa_cons (pv 0) pa_nil)))
      (pss_cons (ps_asg (pe_c (cal_class_by T) hr (by decide) rfl (pa_cons (pv 0) (pa_cons (pv 1) pa_nil))) (pgT (K := K) (n := 2) rfl (pgs_cons (pg_name (i := 3) sc_can_have.nd rfl (Or.inl rfl)) (pgs_cons (pg_name (i := 4) sc_can_have.nd rfl (Or.inl rfl)) pgs_nil))))
      (pss_one (ps_ret (pe_c (cal_divides T) hr (by decide) rfl (pa_cons (pv 4) (pa_cons (pe_op op_sub (pv 2) (pv 3)) pa_nil))))))), ?_⟩
  refine rd_of (α := (List (Int × Int)) × Int × Int) (C := fun x => (Bk x.1 ∧ confs x.1 = []) ∧ Pl x.2.1) (pre := fun x => [bkD x.1, .int x.2.1, .int x.2.2]) (post := fun x => .bool (decide ((classF x.1 x.2.1).2 ∣ x.2.2 - (classF x.1 x.2.1).1))) (p := 3) (N := N_can_have) (fun _ => rfl) ?rd vs H Q E h
  case rd =>
    rintro ⟨b, pl, v⟩ ⟨⟨hb, hf⟩, hp⟩
    show Sx _ [some (.fro (bkD b)), some (.fro (.int pl)), some (.fro (.int v)), none, none] 0 _ _
    have hb : Bk b := hb
    have hp : Pl pl := hp
    refine sx_then (sx_drop (d := .none) (by walk_at "ev"; exact ⟨hb, hf⟩) ⟨rfl, rfl⟩) ?_
    refine sx_then (sx_tgt (d := prD (classF b pl)) (by walk_at "ev"; exact ⟨by have := hb.len; omega, hb.near hp⟩) tg_two ⟨rfl, rfl⟩) ?_
    refine sx_ret (d := .bool (decide ((classF b pl).2 ∣ v - (classF b pl).1))) ?_ rfl
    walk_at "ev"
    trivial
theorem nD_get {ks : List Nat} : nD ks = .list (ks.map fun (k : Nat) => PyData.int (k : Int)) := by show PyData.list ((ks.map fun (k : Nat) => (k : Int)).map PyData.int) = _; rw [List.map_map]; rfl
theorem bk_at {b : List (Int × Int)} {k : Nat} (h : k < b.length) : atI (b.map prD) (k : Int) = some (prD (b.getD k (0, 0))) := by
  refine atI_nat ?_
  rw [List.getElem?_map, List.getElem?_eq_getElem h, List.getD_eq_getElem?_getD, List.getElem?_eq_getElem h]
  rfl
theorem getD_mem {b : List (Int × Int)} {k : Nat} (h : k < b.length) : b.getD k (0, 0) ∈ b := by
  rw [List.getD_eq_getElem?_getD, List.getElem?_eq_getElem h]
  exact List.getElem_mem h
/-- indices -/
def Ixs (b : List (Int × Int)) (ks : List Nat) : Prop := ks.length ≤ 24 ∧ ∀ k ∈ ks, k < b.length

/-! ### far_in -/
abbrev N_far_in : List Str := ["book", "place", "indices", "index"]
theorem sc_far_in : FnScope N_far_in ["book", "place", "indices"] (defScope s_far_in) := ⟨rfl, rfl, rfl, by decide +kernel, rfl, by decide +kernel, by decide +kernel⟩
def sp_far_in : Sp := SpP (α := (List (Int × Int)) × Int × List Nat) (fun x => Bk x.1 ∧ Pl x.2.1 ∧ Ixs x.1 x.2.2) (fun x => [bkD x.1, .int x.2.1, nD x.2.2]) (fun x => .int (farF x.1 x.2.1 x.2.2 : Int))
theorem ev_far_in {tr : TA} {G : Gm} {b : List (Int × Int)} {pl : Int} {ks : List Nat} (h : Ea tr G [bkD b, .int pl, nD ks]) (c : Bk b ∧ Pl pl ∧ Ixs b ks) : Ep (tCall sp_far_in [] C8.E0 tr) G (.int (farF b pl ks : Int)) := ep_call (α := (List (Int × Int)) × Int × List Nat) (b, pl, ks) h rfl c
local macro_rules | `(tactic| walk_at "ev") => `(tactic| (with_reducible apply ev_far_in) <;> walk_at "ev")
theorem cal_far_in {P : Program} {w : World} {K : PySem.W.Frag} {mg : Str → Option Value} {base : Heap} (T : Txt K mg) : Cal P w K mg base 4 "far_in" sp_far_in [] := by
  obtain ⟨fd, F⟩ := T.c.def_ 21 (d := d_far_in) rfl
  refine ⟨⟨_, fd, ["book", "place", "indices"], [], ?_, T.glo 21, F.kp, F.bindsN (fun _ _ _ _ _ _ us hl => match us, hl with | [_, _, _], _ => rfl), .nil⟩⟩
  refine F.ok sc_far_in (fun vs H Q E h => len_of (α := (List (Int × Int)) × Int × List Nat) (C := fun x => Bk x.1 ∧ Pl x.2.1 ∧ Ixs x.1 x.2.2) (pre := fun x => [bkD x.1, .int x.2.1, nD x.2.2]) (post := fun x => .int (farF x.1 x.2.1 x.2.2 : Int)) (p := 3) (fun _ => rfl) vs H Q E h) (fun cdv A outer s H vs Q E hr h => ?_)
  refine ⟨_, PSs.nox (pss_one (ps_ret (pe_c (cal_multiple_of T) hr (by decide) rfl (pa_cons (pe_lc (own := [("index", 3)]) rfl sc_far_in.nd (piL (K := K) (pv 2)) (blkOk_by (N := N_far_in) (sc := defScope s_far_in) (by decide +kernel)) (fun _ _ _ _ _ => (pg_name (i := 3) sc_far_in.nd rfl (Or.inl rfl))) (fun _ _ _ _ _ => pts_nil) (fun _ _ _ _ _ => (pe_op op_sub (pv 1) (pe_ix (ixT (K := K)) (pe_ix (ixL (K := K)) (pv 0) (pv 3) (fun _ _ => rfl)) pe_int (fun _ _ => rfl))))) pa_nil)))), ?_⟩
  refine rd_of (α := (List (Int × Int)) × Int × List Nat) (C := fun x => Bk x.1 ∧ Pl x.2.1 ∧ Ixs x.1 x.2.2) (pre := fun x => [bkD x.1, .int x.2.1, nD x.2.2]) (post := fun x => .int (farF x.1 x.2.1 x.2.2 : Int)) (p := 3) (N := N_far_in) (fun _ => rfl) ?rd vs H Q E h
  case rd =>
    rintro ⟨b, pl, ks⟩ ⟨hb, hp, hk⟩
    show Sx _ [some (.fro (bkD b)), some (.fro (.int pl)), some (.fro (nD ks)), none] 0 _ _
    have hb : Bk b := hb
    have hp : Pl pl := hp
    have hk : Ixs b ks := hk
    refine sx_ret (d := .int (lcmN (ks.map fun k => pl - (b.getD k (0, 0)).1) : Int)) ?_ rfl
    refine ev_multiple_of (ea_cons (ep_new ?_) ea_nil) ?_
    · rw [List.map_map]
      refine en_m1 ks (fun (k : Nat) => PyData.int (k : Int)) _ (es_list ?_) (fun k hi => ?_) (by have := hk.1; omega)
      · rw [← nD_get]
        walk_at "ev"
      · show Ep _ _ (.int (pl - (b.getD k (0, 0)).1))
        refine ep_op (d2 := .int (b.getD k (0, 0)).1) (by walk_at "ev") (ep_op (d1 := prD (b.getD k (0, 0))) ?_ (by walk_at "ev") od_ixT0) od_i
        walk_at "ev"
        exact bk_at (hk.2 k hi)
    · refine ⟨by rw [List.length_map]; have := hk.1; omega, fun n hn => ?_⟩
      obtain ⟨k, h1, rfl⟩ := List.mem_map.mp hn
      exact (hb.near hp _ (getD_mem (hk.2 k h1))).mono (by omega)
/-! ### need_sure -/
abbrev N_need_sure : List Str := ["book", "modulus"]
theorem sc_need_sure : FnScope N_need_sure ["book", "modulus"] (defScope s_need_sure) := ⟨rfl, rfl, rfl, by decide +kernel, rfl, by decide +kernel, by decide +kernel⟩
def sp_need_sure : Sp := SpP (α := (List (Int × Int)) × Int) (fun x => (Bk x.1 ∧ confs x.1 = []) ∧ 1 ≤ x.2) (fun x => [bkD x.1, .int x.2]) (fun x => .none)
theorem ev_need_sure {tr : TA} {G : Gm} {b : List (Int × Int)} {m : Int} (h : Ea tr G [bkD b, .int m]) (c : (Bk b ∧ confs b = []) ∧ 1 ≤ m) : Ep (tCall sp_need_sure [] C8.E0 tr) G (.none) := ep_call (α := (List (Int × Int)) × Int) (b, m) h rfl c
local macro_rules | `(tactic| walk_at "ev") => `(tactic| (with_reducible apply ev_need_sure) <;> walk_at "ev")
theorem cal_need_sure {P : Program} {w : World} {K : PySem.W.Frag} {mg : Str → Option Value} {base : Heap} (T : Txt K mg) : Cal P w K mg base 6 "need_sure" sp_need_sure [] := by
  obtain ⟨fd, F⟩ := T.c.def_ 22 (d := d_need_sure) rfl
  refine ⟨⟨_, fd, ["book", "modulus"], [], ?_, T.glo 22, F.kp, F.bindsN (fun _ _ _ _ _ _ us hl => match us, hl with | [_, _], _ => rfl), .nil⟩⟩
  refine F.ok sc_need_sure (fun vs H Q E h => len_of (α := (List (Int × Int)) × Int) (C := fun x => (Bk x.1 ∧ confs x.1 = []) ∧ 1 ≤ x.2) (pre := fun x => [bkD x.1, .int x.2]) (post := fun x => .none) (p := 2) (fun _ => rfl) vs H Q E h) (fun cdv A outer s H vs Q E hr h => ?_)
  refine ⟨_, PSs.nox (pss_cons (ps_expr (pe_c (cal_need_book T) hr (by decide) rfl (pa_cons (pv 0) pa_nil)))
      (pss_cons (ps_expr (pe_c (cal_need_modulus1 T) hr (by decide) rfl (pa_cons (pv 1) pa_nil)))
      (pss_one (ps_expr (pe_c (cal_need_fitting T) hr (by decide) rfl (pa_cons (pv 0) pa_nil)))))), ?_⟩
  refine rd_of (α := (List (Int × Int)) × Int) (C := fun x => (Bk x.1 ∧ confs x.1 = []) ∧ 1 ≤ x.2) (pre := fun x => [bkD x.1, .int x.2]) (post := fun x => .none) (p := 2) (N := N_need_sure) (fun _ => rfl) ?rd vs H Q E h
  case rd =>
    rintro ⟨b, m⟩ ⟨⟨hb, hf⟩, hm⟩
    show Sx _ [some (.fro (bkD b)), some (.fro (.int m))] 0 _ _
    have hb : Bk b := hb
    refine sx_then (sx_drop (d := .none) (by walk_at "ev"; exact hb) ⟨rfl, rfl⟩) ?_
    refine sx_then (sx_drop (d := .none) (by walk_at "ev"; exact hm) ⟨rfl, rfl⟩) ?_
    refine sx_drop (d := .none) ?_ rfl
    walk_at "ev"
    exact ⟨hb.len, hf⟩
theorem nD_range {n : Nat} : PyData.list (rngD 0 ((n : Int)).toNat) = nD (List.range n) := by
  rw [nD_get, Int.toNat_natCast]
  unfold rngD
  congr 1
  refine List.map_congr_left fun k _ => ?_
  rw [Int.zero_add]
theorem keepF_ix {b : List (Int × Int)} {pl m : Int} {ks : List Nat} {i : Nat} (h : Ixs b ks) : Ixs b (ks.filter fun o => !decide (o = i)) :=
  ⟨Nat.le_trans (List.length_filter_le _ _) h.1, fun k hk => h.2 k (List.mem_filter.mp hk).1⟩
theorem keepF_ix2 {b : List (Int × Int)} {pl m : Int} {ks : List Nat} {i : Nat} (h : Ixs b ks) : Ixs b (keepF b pl m ks i) := by
  unfold keepF
  split
  · exact keepF_ix (pl := pl) (m := m) h
  · exact h

/-! ### reason_for -/
abbrev N_reason_for : List Str := ["book", "place", "modulus", "kept", "index", "fewer", "other"]
theorem sc_reason_for : FnScope N_reason_for ["book", "place", "modulus"] (defScope s_reason_for) := ⟨rfl, rfl, rfl, by decide +kernel, rfl, by decide +kernel, by decide +kernel⟩
def sp_reason_for : Sp := SpP (α := (List (Int × Int)) × Int × Int) (fun x => (Bk x.1 ∧ confs x.1 = []) ∧ Pl x.2.1 ∧ 1 ≤ x.2.2) (fun x => [bkD x.1, .int x.2.1, .int x.2.2]) (fun x => reasonD (reasonF x.1 x.2.1 x.2.2))
theorem ev_reason_for {tr : TA} {G : Gm} {b : List (Int × Int)} {pl m : Int} (h : Ea tr G [bkD b, .int pl, .int m]) (c : (Bk b ∧ confs b = []) ∧ Pl pl ∧ 1 ≤ m) : Ep (tCall sp_reason_for [] C8.E0 tr) G (reasonD (reasonF b pl m)) := ep_call (α := (List (Int × Int)) × Int × Int) (b, pl, m) h rfl c
local macro_rules | `(tactic| walk_at "ev") => `(tactic| (with_reducible apply ev_reason_for) <;> walk_at "ev")
theorem cal_reason_for {P : Program} {w : World} {K : PySem.W.Frag} {mg : Str → Option Value} {base : Heap} (T : Txt K mg) : Cal P w K mg base 7 "reason_for" sp_reason_for [] := by
  obtain ⟨fd, F⟩ := T.c.def_ 23 (d := d_reason_for) rfl
  refine ⟨⟨_, fd, ["book", "place", "modulus"], [], ?_, T.glo 23, F.kp, F.bindsN (fun _ _ _ _ _ _ us hl => match us, hl with | [_, _, _], _ => rfl), .nil⟩⟩
  refine F.ok sc_reason_for (fun vs H Q E h => len_of (α := (List (Int × Int)) × Int × Int) (C := fun x => (Bk x.1 ∧ confs x.1 = []) ∧ Pl x.2.1 ∧ 1 ≤ x.2.2) (pre := fun x => [bkD x.1, .int x.2.1, .int x.2.2]) (post := fun x => reasonD (reasonF x.1 x.2.1 x.2.2)) (p := 3) (fun _ => rfl) vs H Q E h) (fun cdv A outer s H vs Q E hr h => ?_)
  refine ⟨_, PSs.nox (pss_cons (ps_expr (pe_c (cal_need_sure T) hr (by decide) rfl (pa_cons (pv 0) (pa_cons (pv 2) pa_nil))))
      (pss_cons (ps_set (i := 3) sc_reason_for.nd rfl (Or.inl rfl) (pe_listRg rfl rfl (free_list T) (prg_1 rfl (free_range T) (pe_callB (lenK (K := K)) rfl (free_len T) bb_len (pa_cons (pv 0) pa_nil)))))
      (pss_cons (ps_if (pt_not (pt_val (pe_c (cal_divides T) hr (by decide) rfl (pa_cons (pv 2) (pa_cons (pe_c (cal_far_in T) hr (by decide) rfl (pa_cons (pv 0) (pa_cons (pv 1) (pa_cons (pv 3) pa_nil)))) pa_nil))))) (pss_one (ps_ret pe_non)) pss_nil)
      (pss_cons (ps_for PassesOwn.never rfl (pi_range1 rfl (free_range T) (pa_cons (pe_callB (lenK (K := K)) rfl (free_len T) bb_len (pa_cons (pv 0) pa_nil)) pa_nil)) (pg_name (i := 4) sc_reason_for.nd rfl (Or.inr rfl)) (pss_cons (ps_setLc (i := 5) (own := [("other", 6)]) rfl sc_reason_for.nd rfl rfl (sw_true rfl rfl rfl (by decide +kernel)) (piL (K := K) (pv 3)) (blkOk_by (N := N_reason_for) (sc := defScope s_reason_for) (by decide +kernel)) (fun _ _ _ _ _ => (pg_name (i := 6) sc_reason_for.nd rfl (Or.inl rfl))) (fun _ _ _ _ _ => (pts_one (pt_cmpR op_ne (pv 6) (pv 4) (nomark _)))) (fun _ _ _ _ _ => (pv 6)))
      (pss_one (ps_if (pt_val (pe_c (cal_divides T) hr (by decide) rfl (pa_cons (pv 2) (pa_cons (pe_c (cal_far_in T) hr (by decide) rfl (pa_cons (pv 0) (pa_cons (pv 1) (pa_cons (pv 5) pa_nil)))) pa_nil)))) (pss_one (ps_set (i := 3) sc_reason_for.nd rfl (Or.inl rfl) (pv 5))) pss_nil))))
      (pss_one (ps_ret (pv 3))))))), ?_⟩
  refine rd_of (α := (List (Int × Int)) × Int × Int) (C := fun x => (Bk x.1 ∧ confs x.1 = []) ∧ Pl x.2.1 ∧ 1 ≤ x.2.2) (pre := fun x => [bkD x.1, .int x.2.1, .int x.2.2]) (post := fun x => reasonD (reasonF x.1 x.2.1 x.2.2)) (p := 3) (N := N_reason_for) (fun _ => rfl) ?rd vs H Q E h
  case rd =>
    rintro ⟨b, pl, m⟩ ⟨⟨hb, hf⟩, hp, hm⟩
    show Sx _ [some (.fro (bkD b)), some (.fro (.int pl)), some (.fro (.int m)), none, none, none, none] 0 _ _
    have hb : Bk b := hb
    have hp : Pl pl := hp
    have hm : 1 ≤ m := hm
    have hl := hb.len
    have hr : Ixs b (List.range b.length) := ⟨by rw [List.length_range]; omega, fun k hk => List.mem_range.mp hk⟩
    refine sx_then (sx_drop (d := .none) (by walk_at "ev"; exact ⟨⟨hb, hf⟩, hm⟩) ⟨rfl, rfl⟩) ?_
    refine sx_then (sx_asg (d := nD (List.range b.length)) ?_ ⟨rfl, rfl⟩) ?_
    · rw [← nD_range]
      refine ep_new (en_listRg1 ?_ (by omega) (by omega))
      rw [show (b.length : Int) = ((b.map prD).length : Int) by rw [List.length_map]]
      walk_at "ev"
    refine sx_seq (M := fun G n => m ∣ (farF b pl (List.range b.length) : Int) ∧ G = [some (.fro (bkD b)), some (.fro (.int pl)), some (.fro (.int m)), some (.fro (nD (List.range b.length))), none, none, none])
      (sx_if (b := !decide (m ∣ (farF b pl (List.range b.length) : Int))) ?_ (fun h => ?_) (fun h => sx_next ⟨by simpa using h, rfl⟩)) ?_
    · walk_at "ev"
      · exact ⟨hb, hp, hr⟩
      · exact True.intro
    · refine sx_ret (d := .none) (by walk_at "ev") ?_
      show PyData.none = reasonD (reasonF b pl m)
      unfold reasonF
      rw [if_neg (by simpa using h)]
      rfl
    · rintro G n ⟨hd, rfl⟩
      refine sx_seq (M := fun G n => ∃ o1 o2 o3, G = [some (.fro (bkD b)), some (.fro (.int pl)), some (.fro (.int m)), some (.fro (nD ((List.range b.length).foldl (keepF b pl m) (List.range b.length)))), o1, o2, o3])
        (sx_forP (List.range b.length) (fun (k : Nat) => PyData.int (k : Int)) (fun pr G n => Ixs b (pr.foldl (keepF b pl m) (List.range b.length)) ∧ ∃ o1 o2 o3, G = [some (.fro (bkD b)), some (.fro (.int pl)), some (.fro (.int m)), some (.fro (nD (pr.foldl (keepF b pl m) (List.range b.length)))), o1, o2, o3])
          (es_rng1e (j := ((b.map prD).length : Int)) (by walk_at "ev") ?_ (by rw [List.length_map]; omega) (by rw [List.length_map]; omega)) ⟨hr, none, none, none, rfl⟩ ?_ fun G n h => h.2) ?_
      · rw [List.length_map]
        have := @nD_range b.length
        rw [nD_get] at this
        injection this
      · rintro pr i po G n hx ⟨hi, o1, o2, o3, rfl⟩
        refine ⟨_, _, tg_name, ?_⟩
        generalize hk : pr.foldl (keepF b pl m) (List.range b.length) = ks at *
        have e2 : (pr ++ [i]).foldl (keepF b pl m) (List.range b.length) = keepF b pl m ks i := by rw [List.foldl_append, hk]; rfl
        rw [e2]
        refine sx_then (sx_asg (d := nD (ks.filter fun o => !decide (o = i))) ?_ ⟨rfl, rfl⟩) ?_
        · rw [@nD_get (ks.filter fun o => !decide (o = i))]
          refine ep_new (en_f1 ks (fun (k : Nat) => PyData.int (k : Int)) _ _ (es_list ?_) (fun k hi => ⟨?_, fun _ => by walk_at "ev"⟩) (by have := hi.1; omega))
          · rw [← nD_get]
            walk_at "ev"
          · rw [show decide (k = i) = decide ((k : Int) = (i : Int)) from decide_eq_decide.mpr (by omega)]
            walk_at "ev"
        · refine sx_if (b := decide (m ∣ (farF b pl (ks.filter fun o => !decide (o = i)) : Int))) ?_ (fun h => ?_) (fun h => ?_)
          · walk_at "ev"
            · exact ⟨hb, hp, keepF_ix (pl := pl) (m := m) hi⟩
            · exact True.intro
          · have ek : keepF b pl m ks i = ks.filter fun o => !decide (o = i) := by
              unfold keepF
              rw [if_pos (by simpa using h)]
            exact sx_asg (by walk_at "ev") ⟨keepF_ix2 hi, _, _, _, by rw [ek]; rfl⟩
          · have ek : keepF b pl m ks i = ks := by
              unfold keepF
              rw [if_neg (by simpa using h)]
            exact sx_next ⟨keepF_ix2 hi, _, _, _, by rw [ek]; rfl⟩
      · rintro G n ⟨o1, o2, o3, rfl⟩
        refine sx_ret (by walk_at "ev") ?_
        show nD _ = reasonD (reasonF b pl m)
        unfold reasonF
        rw [if_pos hd]
        rfl
/-! ### are_indices -/
abbrev N_are_indices : List Str := ["thing", "many", "index", "one", "other"]
theorem sc_are_indices : FnScope N_are_indices ["thing", "many"] (defScope s_are_indices) := ⟨rfl, rfl, rfl, by decide +kernel, rfl, by decide +kernel, by decide +kernel⟩
def sp_are_indices : Sp := SpP (α := (List Nat) × Nat) (fun x => (x.1.length ≤ 24 ∧ ∀ k ∈ x.1, k < x.2) ∧ x.1.Pairwise (· < ·)) (fun x => [nD x.1, .int (x.2 : Int)]) (fun x => .bool true)
theorem ev_are_indices {tr : TA} {G : Gm} {ks : List Nat} {n : Nat} (h : Ea tr G [nD ks, .int (n : Int)]) (c : (ks.length ≤ 24 ∧ ∀ k ∈ ks, k < n) ∧ ks.Pairwise (· < ·)) : Ep (tCall sp_are_indices [] C8.E0 tr) G (.bool true) := ep_call (α := (List Nat) × Nat) (ks, n) h rfl c
local macro_rules | `(tactic| walk_at "ev") => `(tactic| (with_reducible apply ev_are_indices) <;> walk_at "ev")
theorem cal_are_indices {P : Program} {w : World} {K : PySem.W.Frag} {mg : Str → Option Value} {base : Heap} (T : Txt K mg) : Cal P w K mg base 2 "are_indices" sp_are_indices [] := by
  obtain ⟨fd, F⟩ := T.c.def_ 24 (d := d_are_indices) rfl
  refine ⟨⟨_, fd, ["thing", "many"], [], ?_, T.glo 24, F.kp, F.bindsN (fun _ _ _ _ _ _ us hl => match us, hl with | [_, _], _ => rfl), .nil⟩⟩
  refine F.ok sc_are_indices (fun vs H Q E h => len_of (α := (List Nat) × Nat) (C := fun x => (x.1.length ≤ 24 ∧ ∀ k ∈ x.1, k < x.2) ∧ x.1.Pairwise (· < ·)) (pre := fun x => [nD x.1, .int (x.2 : Int)]) (post := fun x => .bool true) (p := 2) (fun _ => rfl) vs H Q E h) (fun cdv A outer s H vs Q E hr h => ?_)
  refine ⟨_, PSs.nox (pss_cons (ps_if (PW.pt (pw_or (pt_not (pt_val (pe_callB (isiK (K := K)) rfl (free_isinstance T) bb_isinstance (pa_cons (pv 0) (pa_cons (pe_bltn (v := .ty "list") rfl (free_list T) bb_list rfl) pa_nil))))) (pw_or1 (pt_not (pt_val (pe_callB (allK (K := K) rfl) rfl (free_all T) bb_all (pa_cons (pe_lc (own := [("index", 2)]) rfl sc_are_indices.nd (piL (K := K) (pv 0)) (blkOk_by (N := N_are_indices) (sc := defScope s_are_indices) (by decide +kernel)) (fun _ _ _ _ _ => (pg_name (i := 2) sc_are_indices.nd rfl (Or.inl rfl))) (fun _ _ _ _ _ => pts_nil) (fun _ _ _ _ _ => (pe_and (pe_c (cal_is_integer T) hr (by decide) rfl (pa_cons (pv 2) pa_nil)) (pe_one (pe_chain op_le op_lt pe_int (pv 2) (pv 1)))))) pa_nil))))))) (pss_one (ps_ret pe_bl)) pss_nil)
      (pss_one (ps_ret (pe_callB (allK (K := K) rfl) rfl (free_all T) bb_all (pa_cons (pe_lc (own := [("one", 3), ("other", 4)]) rfl sc_are_indices.nd (pi_zip rfl (free_zip T) (pa_cons (pv 0) (pa_cons (pe_slice (slL (K := K)) (pv 0) (po_some pe_int) po_none) pa_nil))) (blkOk_by (N := N_are_indices) (sc := defScope s_are_indices) (by decide +kernel)) (fun _ _ _ _ _ => (pgT (K := K) (n := 2) rfl (pgs_cons (pg_name (i := 3) sc_are_indices.nd rfl (Or.inl rfl)) (pgs_cons (pg_name (i := 4) sc_are_indices.nd rfl (Or.inl rfl)) pgs_nil)))) (fun _ _ _ _ _ => pts_nil) (fun _ _ _ _ _ => (pe_cmpR op_lt (pv 3) (pv 4) (nomark _)))) pa_nil))))), ?_⟩
  refine rd_of (α := (List Nat) × Nat) (C := fun x => (x.1.length ≤ 24 ∧ ∀ k ∈ x.1, k < x.2) ∧ x.1.Pairwise (· < ·)) (pre := fun x => [nD x.1, .int (x.2 : Int)]) (post := fun x => .bool true) (p := 2) (N := N_are_indices) (fun _ => rfl) ?rd vs H Q E h
  case rd =>
    rintro ⟨ks, n⟩ ⟨⟨hl, hk⟩, hp⟩
    show Sx _ [some (.fro (nD ks)), some (.fro (.int (n : Int))), none, none, none] 0 _ _
    have hl : ks.length ≤ 24 := hl
    have hk : ∀ k ∈ ks, k < n := hk
    have hp : ks.Pairwise (· < ·) := hp
    refine sx_seq (M := fun G n' => G = [some (.fro (nD ks)), some (.fro (.int (n : Int))), none, none, none]) ?_ ?_
    · refine sx_if (b := !true || !true) ?_ (fun h => nomatch h) (fun _ => sx_next rfl)
      refine et_or (et_not (et_B (ep_isi (ep_var rfl) isi_lst))) fun _ => et_not (et_B (ep_all ks (en_m1 ks (fun (k : Nat) => PyData.int (k : Int)) _ (es_list ?_) (fun k hk2 => ?_) (by omega))))
      · rw [← nD_get]
        walk_at "ev"
      · have h1 := hk k hk2
        have e1 : (PyData.bool true) = .bool (true && (decide ((0 : Int) ≤ (k : Int)) && decide ((k : Int) < (n : Int)))) := by
          rw [decide_eq_true (show (0 : Int) ≤ (k : Int) by omega), decide_eq_true (show (k : Int) < (n : Int) by omega)]
          rfl
        rw [e1]
        walk_at "ev"
        exact True.intro
    · rintro G n' rfl
      refine sx_ret (ep_all (ks.zip (ks.drop 1)) (en_m2 (ks.zip (ks.drop 1)) (fun q => .int (q.1 : Int)) (fun q => .int (q.2 : Int)) _ ?_ (fun q hq => ?_) ?_)) rfl
      · rw [← zipD_map (fun (k : Nat) => PyData.int (k : Int)) (fun (k : Nat) => PyData.int (k : Int)), List.map_drop]
        refine es_zip (ea_cons ?_ (ea_cons (ep_new ?_) ea_nil))
        · rw [← nD_get]
          walk_at "ev"
        · rw [← cut_1]
          refine en_slice ?_ (eo_part (by walk_at "ev")) eo_no
          rw [← nD_get]
          walk_at "ev"
      · have h := mem_zip_tail hp q hq
        rw [← decide_eq_true (show (q.1 : Int) < (q.2 : Int) by omega)]
        walk_at "ev"
      · rw [List.length_zip, List.length_drop]
        omega
/-! ### shows_reason -/
abbrev N_shows_reason : List Str := ["book", "place", "modulus", "thing"]
theorem sc_shows_reason : FnScope N_shows_reason ["book", "place", "modulus", "thing"] (defScope s_shows_reason) := ⟨rfl, rfl, rfl, by decide +kernel, rfl, by decide +kernel, by decide +kernel⟩
def sp_shows_reason : Sp := SpP (α := (List (Int × Int)) × Int × Int × List Nat) (fun x => ((Bk x.1 ∧ confs x.1 = []) ∧ Pl x.2.1 ∧ 1 ≤ x.2.2.1) ∧ (Ixs x.1 x.2.2.2 ∧ x.2.2.2.Pairwise (· < ·)) ∧ x.2.2.1 ∣ (farF x.1 x.2.1 x.2.2.2 : Int)) (fun x => [bkD x.1, .int x.2.1, .int x.2.2.1, nD x.2.2.2]) (fun x => .bool true)
theorem ev_shows_reason {tr : TA} {G : Gm} {b : List (Int × Int)} {pl m : Int} {ks : List Nat} (h : Ea tr G [bkD b, .int pl, .int m, nD ks]) (c : ((Bk b ∧ confs b = []) ∧ Pl pl ∧ 1 ≤ m) ∧ (Ixs b ks ∧ ks.Pairwise (· < ·)) ∧ m ∣ (farF b pl ks : Int)) : Ep (tCall sp_shows_reason [] C8.E0 tr) G (.bool true) := ep_call (α := (List (Int × Int)) × Int × Int × List Nat) (b, pl, m, ks) h rfl c
local macro_rules | `(tactic| walk_at "ev") => `(tactic| (with_reducible apply ev_shows_reason) <;> walk_at "ev")
theorem cal_shows_reason {P : Program} {w : World} {K : PySem.W.Frag} {mg : Str → Option Value} {base : Heap} (T : Txt K mg) : Cal P w K mg base 7 "shows_reason" sp_shows_reason [] := by
  obtain ⟨fd, F⟩ := T.c.def_ 25 (d := d_shows_reason) rfl
  refine ⟨⟨_, fd, ["book", "place", "modulus", "thing"], [], ?_, T.glo 25, F.kp, F.bindsN (fun _ _ _ _ _ _ us hl => match us, hl with | [_, _, _, _], _ => rfl), .nil⟩⟩
  refine F.ok sc_shows_reason (fun vs H Q E h => len_of (α := (List (Int × Int)) × Int × Int × List Nat) (C := fun x => ((Bk x.1 ∧ confs x.1 = []) ∧ Pl x.2.1 ∧ 1 ≤ x.2.2.1) ∧ (Ixs x.1 x.2.2.2 ∧ x.2.2.2.Pairwise (· < ·)) ∧ x.2.2.1 ∣ (farF x.1 x.2.1 x.2.2.2 : Int)) (pre := fun x => [bkD x.1, .int x.2.1, .int x.2.2.1, nD x.2.2.2]) (post := fun x => .bool true) (p := 4) (fun _ => rfl) vs H Q E h) (fun cdv A outer s H vs Q E hr h => ?_)
  refine ⟨_, PSs.nox (pss_cons (ps_expr (pe_c (cal_need_sure T) hr (by decide) rfl (pa_cons (pv 0) (pa_cons (pv 2) pa_nil))))
      (pss_one (ps_ret (pe_and (pe_c (cal_are_indices T) hr (by decide) rfl (pa_cons (pv 3) (pa_cons (pe_callB (lenK (K := K)) rfl (free_len T) bb_len (pa_cons (pv 0) pa_nil)) pa_nil))) (pe_one (pe_c (cal_divides T) hr (by decide) rfl (pa_cons (pv 2) (pa_cons (pe_c (cal_far_in T) hr (by decide) rfl (pa_cons (pv 0) (pa_cons (pv 1) (pa_cons (pv 3) pa_nil)))) pa_nil)))))))), ?_⟩
  refine rd_of (α := (List (Int × Int)) × Int × Int × List Nat) (C := fun x => ((Bk x.1 ∧ confs x.1 = []) ∧ Pl x.2.1 ∧ 1 ≤ x.2.2.1) ∧ (Ixs x.1 x.2.2.2 ∧ x.2.2.2.Pairwise (· < ·)) ∧ x.2.2.1 ∣ (farF x.1 x.2.1 x.2.2.2 : Int)) (pre := fun x => [bkD x.1, .int x.2.1, .int x.2.2.1, nD x.2.2.2]) (post := fun x => .bool true) (p := 4) (N := N_shows_reason) (fun _ => rfl) ?rd vs H Q E h
  case rd =>
    rintro ⟨b, pl, m, ks⟩ ⟨⟨⟨hb, hf⟩, hp, hm⟩, ⟨hk, ha⟩, hd⟩
    show Sx _ [some (.fro (bkD b)), some (.fro (.int pl)), some (.fro (.int m)), some (.fro (nD ks))] 0 _ _
    have hb : Bk b := hb
    have hp : Pl pl := hp
    have hk : Ixs b ks := hk
    have hd : m ∣ (farF b pl ks : Int) := hd
    refine sx_then (sx_drop (d := .none) (by walk_at "ev"; exact ⟨⟨hb, hf⟩, hm⟩) ⟨rfl, rfl⟩) ?_
    refine sx_ret (d := .bool (true && decide (m ∣ (farF b pl ks : Int)))) (ep_andV (ev_are_indices (n := b.length) ?_ ⟨hk, ha⟩) fun _ => ?_) ?_
    · rw [show (b.length : Int) = ((b.map prD).length : Int) by rw [List.length_map]]
      walk_at "ev"
    · walk_at "ev"
      · exact ⟨hb, hp, hk⟩
      · exact True.intro
    · show PyData.bool _ = PyData.bool true
      rw [decide_eq_true hd]
      rfl
end Kr
end
section
/-! M2: what the fillings' functions compute. -/
namespace Kr
/-- new places beside a book -/
structure Fr (b : List (Int × Int)) (ps : List Int) : Prop where
  bk : Bk b
  bl : b.length ≤ 16
  cf : confs b = []
  n1 : 1 ≤ ps.length
  n3 : ps.length ≤ 3
  rg : ∀ p ∈ ps, -1000000000000000000000000000000 ≤ p ∧ p ≤ 1000000000000000000000000000000
  nd : (ps ++ b.map (·.1)).Nodup
def stepD (b : List (Int × Int)) (ps : List Int) (q : Int × Nat) : Int := (lcmN (((b.map (·.1)) ++ ps.take q.2).map fun o => q.1 - o) : Int)
def stepsF (b : List (Int × Int)) (ps : List Int) : List Int := ps.zipIdx.map (stepD b ps)
def sizeF (b : List (Int × Int)) (ps : List Int) : Int := (lcmN (stepsF b ps) : Int)
def countF (steps : List Int) (size : Int) : Int := steps.foldl (fun f st => f * (size / st)) 1
def nthS (b : List (Int × Int)) (ps steps : List Int) (size : Int) (st : List Int × Int) (q : Int × Nat) : List Int × Int :=
  (st.1 ++ [(classF (b ++ ps.zip st.1) q.1).1 + (classF (b ++ ps.zip st.1) q.1).2 * (st.2 / countF (steps.drop (q.2 + 1)) size)], st.2 % countF (steps.drop (q.2 + 1)) size)
def nthF (b : List (Int × Int)) (ps : List Int) (size idx : Int) : List Int := (ps.zipIdx.foldl (nthS b ps (stepsF b ps) size) ([], idx)).1
def idxC (b : List (Int × Int)) (ps vs : List Int) (q : Int × Nat) : Int × Int := classF (b ++ (ps.take q.2).zip vs) q.1
def idxS (b : List (Int × Int)) (ps steps : List Int) (size : Int) (vs : List Int) (f : Int) (q : Int × Nat) : Int :=
  f * (size / steps.getD q.2 0) + (vs.getD q.2 0 - (idxC b ps vs q).1) / (idxC b ps vs q).2
def idxF (b : List (Int × Int)) (ps : List Int) (size : Int) (vs : List Int) : Int := ps.zipIdx.foldl (idxS b ps (stepsF b ps) size vs) 0
/-- vs is a filling -/
def OkV (b : List (Int × Int)) (ps : List Int) (size : Int) (vs : List Int) : Prop := vs.length = ps.length ∧
  ∀ q ∈ ps.zipIdx, (0 ≤ vs.getD q.2 0 ∧ vs.getD q.2 0 < size) ∧ (idxC b ps vs q).2 ∣ vs.getD q.2 0 - (idxC b ps vs q).1
def rowS (b : List (Int × Int)) (ps : List Int) (row : List Int) (p : Int) : List Int := row ++ [(classF (b.map (fun q => (q.1, 0)) ++ ps.zip row) p).1]
def rowF (b : List (Int × Int)) (ps : List Int) (q : Int × Nat) : List Int := (ps.drop (q.2 + 1)).foldl (rowS b ps) (List.replicate q.2 0 ++ [q.1])
def vecsF (b : List (Int × Int)) (ps : List Int) : List (List Int) := (stepsF b ps).zipIdx.map (rowF b ps)
def dotF (ws vs : List Int) : Int := ((ws.zip vs).map fun q => q.1 * q.2).sum
def sumM (b : List (Int × Int)) (ps ws : List Int) : Int := (vecsF b ps).foldl (fun m row => (Int.gcd m ((dotF ws row).natAbs : Int) : Int)) 0
def valS (b : List (Int × Int)) (ps : List Int) (vs : List Int) (p : Int) : List Int := vs ++ [(classF (b ++ ps.zip vs) p).1]
def valsF (b : List (Int × Int)) (ps : List Int) : List Int := ps.foldl (valS b ps) []
def sumF (b : List (Int × Int)) (ps ws : List Int) : Int × Int :=
  if sumM b ps ws = 0 then (dotF ws (valsF b ps), 0) else (dotF ws (valsF b ps) % sumM b ps ws, sumM b ps ws)

/-! ### sizes -/
section
variable {b : List (Int × Int)} {ps : List Int}
theorem Fr.ne (h : Fr b ps) {q : Int × Nat} (hq : q ∈ ps.zipIdx) : ∀ o ∈ (b.map (·.1)) ++ ps.take q.2, q.1 - o ≠ 0 := fun o ho e => by
  obtain ⟨x, k⟩ := q
  have e1 : x = o := by
    have : x - o = 0 := e
    omega
  subst e1
  have hk : ps[k]? = some x := by
    have := List.mem_zipIdx_iff_getElem?.mp hq
    exact this
  have nd := List.nodup_append.mp h.nd
  have hx : x ∈ ps := List.mem_of_getElem? hk
  rcases List.mem_append.mp ho with h1 | h1
  · exact nd.2.2 x hx x h1 rfl
  · obtain ⟨j, hj, ej⟩ := List.mem_take_iff_getElem.mp h1
    have hk2 := (List.getElem?_eq_some_iff.mp hk)
    obtain ⟨l, e2⟩ := hk2
    exact List.pairwise_iff_getElem.mp nd.1 j k (by omega) l (by omega) (by rw [ej, e2])
theorem Fr.oth (h : Fr b ps) (k : Nat) : ∀ o ∈ (b.map (·.1)) ++ ps.take k, -1000000000000000000000000000000 ≤ o ∧ o ≤ 1000000000000000000000000000000 := fun o ho => by
  rcases List.mem_append.mp ho with h1 | h1
  · obtain ⟨q, h2, rfl⟩ := List.mem_map.mp h1
    exact (h.bk.rng q h2).1
  · exact h.rg o (List.mem_of_mem_take h1)
theorem Fr.len (h : Fr b ps) {q : Int × Nat} (hq : q ∈ ps.zipIdx) : ((b.map (·.1)) ++ ps.take q.2).length ≤ 18 := by
  have h1 := List.mem_zipIdx_iff_getElem?.mp hq
  have h2 := (List.getElem?_eq_some_iff.mp h1).1
  have h3 := h.bl
  have h4 := h.n3
  rw [List.length_append, List.length_map, List.length_take]
  omega
theorem Fr.mem (h : Fr b ps) {q : Int × Nat} (hq : q ∈ ps.zipIdx) : q.1 ∈ ps := List.mem_of_getElem? (List.mem_zipIdx_iff_getElem?.mp hq)
theorem Fr.step (h : Fr b ps) {q : Int × Nat} (hq : q ∈ ps.zipIdx) : 0 < stepD b ps q ∧ Sm 1819 (stepD b ps q) := by
  have r := h.rg _ (h.mem hq)
  refine ⟨?_, ?_⟩
  · have := lcmN_pos (ns := ((b.map (·.1)) ++ ps.take q.2).map fun o => q.1 - o) fun n hn => by
      obtain ⟨o, h1, rfl⟩ := List.mem_map.mp hn
      exact h.ne hq o h1
    unfold stepD
    omega
  · refine Sm.mono (Sm.nat (lcmN_lt (B := 101) _ fun n hn => ?_)) ?_
    · obtain ⟨o, h1, rfl⟩ := List.mem_map.mp hn
      have := h.oth _ o h1
      refine Nat.lt_of_le_of_lt (m := 2000000000000000000000000000000) (by omega) (by decide)
    · have := h.len hq
      rw [List.length_map]
      omega
theorem Fr.steps (h : Fr b ps) : ∀ s ∈ stepsF b ps, 0 < s ∧ Sm 1819 s := fun s hs => by
  obtain ⟨q, h1, rfl⟩ := List.mem_map.mp hs
  exact h.step h1
theorem stepsF_len : (stepsF b ps).length = ps.length := by unfold stepsF; rw [List.length_map, List.length_zipIdx]
theorem Fr.size (h : Fr b ps) : 0 < sizeF b ps ∧ Sm 5458 (sizeF b ps) := by
  refine ⟨?_, ?_⟩
  · have := lcmN_pos (ns := stepsF b ps) fun n hn => by have := (h.steps n hn).1; omega
    unfold sizeF
    omega
  · refine Sm.mono (Sm.nat (lcmN_lt (B := 1819) _ fun n hn => (h.steps n hn).2)) ?_
    have := h.n3
    rw [stepsF_len]
    omega
theorem Fr.dvd (h : Fr b ps) {s : Int} (hs : s ∈ stepsF b ps) : s ∣ sizeF b ps := by
  have := dvd_lcmN hs
  have := Int.natCast_dvd_natCast.mpr this
  unfold sizeF
  exact Int.dvd_trans (Int.dvd_natAbs_self) this
end
end Kr
end
section
namespace Kr
open PySem L2
open Evl (Ex)
open C8 (Cal pe_c)
local macro_rules | `(tactic| walk_at "ev") => `(tactic| skip)
local macro_rules | `(tactic| walk_at "ev") => `(tactic| first
  | with_reducible exact ep_int
  | with_reducible exact ep_bl
  | with_reducible exact ep_non
  | with_reducible exact ea_nil
  | with_reducible exact et_yes
  | with_reducible exact eo_no
  | ((with_reducible apply ep_var); rfl)
  | (with_reducible apply ea_cons) <;> walk_at "ev"
  | (with_reducible apply ep_op) <;> walk_at "ev"
  | (with_reducible apply ep_un) <;> walk_at "ev"
  | (with_reducible apply ep_isi) <;> walk_at "ev"
  | ((with_reducible apply ep_lenV); rfl)
  | (with_reducible apply ep_len) <;> walk_at "ev"
  | (with_reducible apply ep_abs) <;> walk_at "ev"
  | (with_reducible apply ep_int1) <;> walk_at "ev"
  | (with_reducible apply ep_max2) <;> walk_at "ev"
  | (with_reducible apply ep_min2) <;> walk_at "ev"
  | (with_reducible apply et_test) <;> walk_at "ev"
  | (with_reducible apply et_B) <;> walk_at "ev"
  | (with_reducible apply et_not) <;> walk_at "ev"
  | (with_reducible apply ep_notV) <;> walk_at "ev"
  | (with_reducible apply ep_tup) <;> walk_at "ev"
  | (with_reducible apply eo_part) <;> walk_at "ev"
  | with_reducible exact od_i
  | with_reducible exact od_b
  | with_reducible exact od_eqI
  | with_reducible exact od_neI
  | with_reducible exact od_isN
  | with_reducible exact od_notN
  | with_reducible exact od_notB
  | with_reducible apply od_c
  | with_reducible exact od_ixT0
  | with_reducible exact od_ixT1
  | with_reducible exact od_ixL0
  | with_reducible exact od_ixL1
  | with_reducible exact od_ixL2
  | with_reducible apply od_ixL
  | with_reducible apply od_ixT
  | with_reducible exact ud_neg
  | (with_reducible refine' et_or ?_ (fun _ => ?_)) <;> walk_at "ev"
  | (with_reducible refine' et_and ?_ (fun _ => ?_)) <;> walk_at "ev"
  | (with_reducible refine' ep_orV ?_ (fun _ => ?_)) <;> walk_at "ev"
  | (with_reducible refine' ep_andV ?_ (fun _ => ?_)) <;> walk_at "ev"
  | (with_reducible refine' ep_chain ?_ ?_ ?_ (fun _ => ?_) (fun _ => ?_)) <;> walk_at "ev"
  | exact isi_int
  | exact isi_intb
  | exact isi_lst
  | exact isi_tup
  | exact Nat.le_of_ble_eq_true rfl)
local macro_rules | `(tactic| walk_at "ev") => `(tactic| (with_reducible apply ev_divisor_of) <;> walk_at "ev")
local macro_rules | `(tactic| walk_at "ev") => `(tactic| (with_reducible apply ev_multiple_of) <;> walk_at "ev")
local macro_rules | `(tactic| walk_at "ev") => `(tactic| (with_reducible apply ev_divides) <;> walk_at "ev")
local macro_rules | `(tactic| walk_at "ev") => `(tactic| (with_reducible apply ev_do_fit) <;> walk_at "ev")
local macro_rules | `(tactic| walk_at "ev") => `(tactic| (with_reducible apply ev_conflicts_in) <;> walk_at "ev")
local macro_rules | `(tactic| walk_at "ev") => `(tactic| (with_reducible apply ev_is_integer) <;> walk_at "ev")
local macro_rules | `(tactic| walk_at "ev") => `(tactic| (with_reducible apply ev_is_told) <;> walk_at "ev")
local macro_rules | `(tactic| walk_at "ev") => `(tactic| (with_reducible apply ev_is_item) <;> walk_at "ev")
local macro_rules | `(tactic| walk_at "ev") => `(tactic| (with_reducible apply ev_is_book) <;> walk_at "ev")
local macro_rules | `(tactic| walk_at "ev") => `(tactic| (with_reducible apply ev_need_book) <;> walk_at "ev")
local macro_rules | `(tactic| walk_at "ev") => `(tactic| (with_reducible apply ev_conflict_in) <;> walk_at "ev")
local macro_rules | `(tactic| walk_at "ev") => `(tactic| (with_reducible apply ev_need_fitting) <;> walk_at "ev")
local macro_rules | `(tactic| walk_at "ev") => `(tactic| (with_reducible apply ev_need_possible) <;> walk_at "ev")
local macro_rules | `(tactic| walk_at "ev") => `(tactic| (with_reducible apply ev_conflict_of) <;> walk_at "ev")
local macro_rules | `(tactic| walk_at "ev") => `(tactic| (with_reducible apply ev_all_conflicts) <;> walk_at "ev")
local macro_rules | `(tactic| walk_at "ev") => `(tactic| (with_reducible apply ev_need_modulus1) <;> walk_at "ev")
local macro_rules | `(tactic| walk_at "ev") => `(tactic| (with_reducible apply ev_need_modulus2) <;> walk_at "ev")
local macro_rules | `(tactic| walk_at "ev") => `(tactic| (with_reducible apply ev_inverse_of) <;> walk_at "ev")
local macro_rules | `(tactic| walk_at "ev") => `(tactic| (with_reducible apply ev_met) <;> walk_at "ev")
local macro_rules | `(tactic| walk_at "ev") => `(tactic| (with_reducible apply ev_class_by) <;> walk_at "ev")
local macro_rules | `(tactic| walk_at "ev") => `(tactic| (with_reducible apply ev_class_at) <;> walk_at "ev")
local macro_rules | `(tactic| walk_at "ev") => `(tactic| (with_reducible apply ev_can_have) <;> walk_at "ev")
local macro_rules | `(tactic| walk_at "ev") => `(tactic| (with_reducible apply ev_far_in) <;> walk_at "ev")
local macro_rules | `(tactic| walk_at "ev") => `(tactic| (with_reducible apply ev_need_sure) <;> walk_at "ev")
local macro_rules | `(tactic| walk_at "ev") => `(tactic| (with_reducible apply ev_reason_for) <;> walk_at "ev")
local macro_rules | `(tactic| walk_at "ev") => `(tactic| (with_reducible apply ev_are_indices) <;> walk_at "ev")
local macro_rules | `(tactic| walk_at "ev") => `(tactic| (with_reducible apply ev_shows_reason) <;> walk_at "ev")

theorem fst_map (b : List (Int × Int)) : (b.map (·.1)).map PyData.int = b.map fun q => PyData.int q.1 := by rw [List.map_map]; rfl
theorem map_int {α : Type} (f : α → Int) (l : List α) : (l.map f).map PyData.int = l.map fun x => PyData.int (f x) := by rw [List.map_map]; rfl
theorem iD_len {ns : List Int} : ((ns.map PyData.int).length : Int) = (ns.length : Int) := by rw [List.length_map]
theorem iD_app {a b : List Int} : iD (a ++ b) = .list (a.map PyData.int ++ b.map PyData.int) := by unfold iD; rw [List.map_append]
theorem Fr.near {b : List (Int × Int)} {ps vs : List Int} (h : Fr b ps) {p : Int} (hp : p ∈ ps) : Near p (b ++ ps.zip vs) := fun q hq => by
  have r := h.rg p hp
  have r2 : -1000000000000000000000000000000 ≤ q.1 ∧ q.1 ≤ 1000000000000000000000000000000 := by
    rcases List.mem_append.mp hq with h1 | h1
    · exact (h.bk.rng q h1).1
    · exact h.rg _ (List.of_mem_zip h1).1
  exact sm_lit ⟨by omega, by omega⟩
theorem Fr.near0 {b : List (Int × Int)} {ps vs : List Int} (h : Fr b ps) {p : Int} (hp : p ∈ ps) : Near p (b.map (fun q => (q.1, 0)) ++ ps.zip vs) := fun q hq => by
  have r := h.rg p hp
  have r2 : -1000000000000000000000000000000 ≤ q.1 ∧ q.1 ≤ 1000000000000000000000000000000 := by
    rcases List.mem_append.mp hq with h1 | h1
    · obtain ⟨z, h2, rfl⟩ := List.mem_map.mp h1
      exact (h.bk.rng z h2).1
    · exact h.rg _ (List.of_mem_zip h1).1
  exact sm_lit ⟨by omega, by omega⟩
theorem zip_prD {ps vs : List Int} : zipD (ps.map PyData.int) (vs.map PyData.int) = (ps.zip vs).map prD := zipD_map _ _ ps vs
theorem bk_app {b c : List (Int × Int)} : bkD (b ++ c) = .list (b.map prD ++ c.map prD) := by unfold bkD; rw [List.map_append]

/-! ### need_places -/
abbrev N_need_places : List Str := ["book", "places", "is_list", "told", "place", "value"]
theorem sc_need_places : FnScope N_need_places ["book", "places"] (defScope s_need_places) := ⟨rfl, rfl, rfl, by decide +kernel, rfl, by decide +kernel, by decide +kernel⟩
def sp_need_places : Sp := SpP (α := (List (Int × Int)) × (List Int)) (fun x => Fr x.1 x.2) (fun x => [bkD x.1, iD x.2]) (fun x => .none)
theorem ev_need_places {tr : TA} {G : Gm} {b : List (Int × Int)} {ps : List Int} (h : Ea tr G [bkD b, iD ps]) (c : Fr b ps) : Ep (tCall sp_need_places [] C8.E0 tr) G (.none) := ep_call (α := (List (Int × Int)) × (List Int)) (b, ps) h rfl c
local macro_rules | `(tactic| walk_at "ev") => `(tactic| (with_reducible apply ev_need_places) <;> walk_at "ev")
theorem cal_need_places {P : Program} {w : World} {K : PySem.W.Frag} {mg : Str → Option Value} {base : Heap} (T : Txt K mg) : Cal P w K mg base 3 "need_places" sp_need_places [] := by
  obtain ⟨fd, F⟩ := T.c.def_ 26 (d := d_need_places) rfl
  obtain ⟨t_MOST_PLACES, g_MOST_PLACES⟩ := cst_MOST_PLACES T
  refine ⟨⟨_, fd, ["book", "places"], [], ?_, T.glo 26, F.kp, F.bindsN (fun _ _ _ _ _ _ us hl => match us, hl with | [_, _], _ => rfl), .nil⟩⟩
  refine F.ok sc_need_places (fun vs H Q E h => len_of (α := (List (Int × Int)) × (List Int)) (C := fun x => Fr x.1 x.2) (pre := fun x => [bkD x.1, iD x.2]) (post := fun x => .none) (p := 2) (fun _ => rfl) vs H Q E h) (fun cdv A outer s H vs Q E hr h => ?_)
  refine ⟨_, PSs.nox (pss_cons (ps_set (i := 2) sc_need_places.nd rfl (Or.inl rfl) (pe_and (pe_callB (isiK (K := K)) rfl (free_isinstance T) bb_isinstance (pa_cons (pv 1) (pa_cons (pe_bltn (v := .ty "list") rfl (free_list T) bb_list rfl) pa_nil))) (pe_one (pe_chain op_le op_le pe_int (pe_callB (lenK (K := K)) rfl (free_len T) bb_len (pa_cons (pv 1) pa_nil)) (pe_glob (v := .int 8) rfl g_MOST_PLACES ⟨_, rfl⟩)))))
      (pss_cons (ps_if (PW.pt (pw_or (pt_not (pt_val (pv 2))) (pw_or1 (pt_not (pt_val (pe_callB (allK (K := K) rfl) rfl (free_all T) bb_all (pa_cons (pe_lc (own := [("place", 4)]) rfl sc_need_places.nd (piL (K := K) (pv 1)) (blkOk_by (N := N_need_places) (sc := defScope s_need_places) (by decide +kernel)) (fun _ _ _ _ _ => (pg_name (i := 4) sc_need_places.nd rfl (Or.inl rfl))) (fun _ _ _ _ _ => pts_nil) (fun _ _ _ _ _ => (pe_c (cal_is_told T) hr (by decide) rfl (pa_cons (pv 4) pa_nil)))) pa_nil))))))) pss_never pss_nil)
      (pss_cons (ps_setLc (i := 3) (own := [("place", 4), ("value", 5)]) rfl sc_need_places.nd rfl rfl (sw_true rfl rfl rfl (by decide +kernel)) (piL (K := K) (pv 0)) (blkOk_by (N := N_need_places) (sc := defScope s_need_places) (by decide +kernel)) (fun _ _ _ _ _ => (pgT (K := K) (n := 2) rfl (pgs_cons (pg_name (i := 4) sc_need_places.nd rfl (Or.inl rfl)) (pgs_cons (pg_name (i := 5) sc_need_places.nd rfl (Or.inl rfl)) pgs_nil)))) (fun _ _ _ _ _ => pts_nil) (fun _ _ _ _ _ => (pv 4)))
      (pss_one (ps_if (pt_cmpR op_lt (pe_callB (lenSetK (w := w)) rfl (free_len T) bb_len (pa_cons (pe_callTy (setK (w := w) rfl) rfl (free_set T) bb_set (pa_cons (pe_op op_cat (pv 1) (pv 3)) pa_nil)) pa_nil)) (pe_callB (lenK (K := K)) rfl (free_len T) bb_len (pa_cons (pe_op op_cat (pv 1) (pv 3)) pa_nil)) (nomark _)) pss_never pss_nil))))), ?_⟩
  refine rd_of (α := (List (Int × Int)) × (List Int)) (C := fun x => Fr x.1 x.2) (pre := fun x => [bkD x.1, iD x.2]) (post := fun x => .none) (p := 2) (N := N_need_places) (fun _ => rfl) ?rd vs H Q E h
  case rd =>
    rintro ⟨b, ps⟩ h
    show Sx _ [some (.fro (bkD b)), some (.fro (iD ps)), none, none, none, none] 0 _ _
    have h : Fr b ps := h
    have n1 := h.n1
    have n3 := h.n3
    have bl := h.bl
    refine sx_then (sx_asg (d := .bool (true && (decide ((1 : Int) ≤ (ps.map PyData.int).length) && decide (((ps.map PyData.int).length : Int) ≤ 8)))) (by walk_at "ev") ⟨rfl, rfl⟩) ?_
    rw [iD_len, decide_eq_true (show (1 : Int) ≤ (ps.length : Int) by omega), decide_eq_true (show (ps.length : Int) ≤ 8 by omega)]
    refine sx_seq (M := fun G n' => G = [some (.fro (bkD b)), some (.fro (iD ps)), some (.fro (.bool true)), none, none, none] ∧ n' = 0) ?_ ?_
    · refine sx_if (b := !true || !true) ?_ (fun z => nomatch z) (fun _ => sx_next ⟨rfl, rfl⟩)
      refine et_or (by walk_at "ev") fun _ => et_not (et_B (ep_all ps (en_m1 ps (fun x => PyData.int x) _ (es_list (by walk_at "ev")) (fun x hx => by walk_at "ev"; exact h.rg x hx) (by omega))))
    · rintro G n' ⟨rfl, rfl⟩
      refine sx_then (sx_asg (d := iD (b.map (·.1))) (ep_new ?_) ⟨rfl, rfl⟩) ?_
      · rw [List.map_map]
        exact en_m2 b (fun q => .int q.1) (fun q => .int q.2) _ (es_list (by walk_at "ev")) (fun q hq => by walk_at "ev") (by omega)
      · have nd : dd (ps ++ b.map (·.1)) = ps ++ b.map (·.1) := dd_same h.nd
        have hc : Ep (tOp rCat (tVar 1) (tVar 3)) [some (.fro (bkD b)), some (.fro (iD ps)), some (.fro (.bool true)), some (.fro (iD (b.map (·.1)))), none, none] (iD (ps ++ b.map (·.1))) := by
          rw [iD_app]
          exact ep_new (en_op (by walk_at "ev") (by walk_at "ev") (on_cat (by simp only [List.length_map]; omega)))
        refine sx_if (b := decide (((dd (ps ++ b.map (·.1))).length : Int) < (((ps ++ b.map (·.1)).map PyData.int).length : Int))) ?_ (fun z => ?_) (fun _ => sx_next rfl)
        · exact et_B (ep_op (ep_lenSet hc (by simp only [List.length_append, List.length_map]; omega)) (ep_len hc) od_b)
        · rw [nd, List.length_map] at z
          simp at z
/-! ### need_open -/
abbrev N_need_open : List Str := ["book", "places"]
theorem sc_need_open : FnScope N_need_open ["book", "places"] (defScope s_need_open) := ⟨rfl, rfl, rfl, by decide +kernel, rfl, by decide +kernel, by decide +kernel⟩
def sp_need_open : Sp := SpP (α := (List (Int × Int)) × (List Int)) (fun x => Fr x.1 x.2) (fun x => [bkD x.1, iD x.2]) (fun x => .none)
theorem ev_need_open {tr : TA} {G : Gm} {b : List (Int × Int)} {ps : List Int} (h : Ea tr G [bkD b, iD ps]) (c : Fr b ps) : Ep (tCall sp_need_open [] C8.E0 tr) G (.none) := ep_call (α := (List (Int × Int)) × (List Int)) (b, ps) h rfl c
local macro_rules | `(tactic| walk_at "ev") => `(tactic| (with_reducible apply ev_need_open) <;> walk_at "ev")
theorem cal_need_open {P : Program} {w : World} {K : PySem.W.Frag} {mg : Str → Option Value} {base : Heap} (T : Txt K mg) : Cal P w K mg base 6 "need_open" sp_need_open [] := by
  obtain ⟨fd, F⟩ := T.c.def_ 27 (d := d_need_open) rfl
  refine ⟨⟨_, fd, ["book", "places"], [], ?_, T.glo 27, F.kp, F.bindsN (fun _ _ _ _ _ _ us hl => match us, hl with | [_, _], _ => rfl), .nil⟩⟩
  refine F.ok sc_need_open (fun vs H Q E h => len_of (α := (List (Int × Int)) × (List Int)) (C := fun x => Fr x.1 x.2) (pre := fun x => [bkD x.1, iD x.2]) (post := fun x => .none) (p := 2) (fun _ => rfl) vs H Q E h) (fun cdv A outer s H vs Q E hr h => ?_)
  refine ⟨_, PSs.nox (pss_cons (ps_expr (pe_c (cal_need_book T) hr (by decide) rfl (pa_cons (pv 0) pa_nil)))
      (pss_one (ps_expr (pe_c (cal_need_places T) hr (by decide) rfl (pa_cons (pv 0) (pa_cons (pv 1) pa_nil)))))), ?_⟩
  refine rd_of (α := (List (Int × Int)) × (List Int)) (C := fun x => Fr x.1 x.2) (pre := fun x => [bkD x.1, iD x.2]) (post := fun x => .none) (p := 2) (N := N_need_open) (fun _ => rfl) ?rd vs H Q E h
  case rd =>
    rintro ⟨b, ps⟩ h
    show Sx _ [some (.fro (bkD b)), some (.fro (iD ps))] 0 _ _
    have h : Fr b ps := h
    refine sx_then (sx_drop (d := .none) (by walk_at "ev"; exact h.bk) ⟨rfl, rfl⟩) ?_
    refine sx_drop (d := .none) ?_ rfl
    walk_at "ev"
    exact h
/-! ### steps_in -/
abbrev N_steps_in : List Str := ["book", "places", "found", "index", "place", "others", "told", "value", "other"]
theorem sc_steps_in : FnScope N_steps_in ["book", "places"] (defScope s_steps_in) := ⟨rfl, rfl, rfl, by decide +kernel, rfl, by decide +kernel, by decide +kernel⟩
def sp_steps_in : Sp := SpP (α := (List (Int × Int)) × (List Int)) (fun x => Fr x.1 x.2) (fun x => [bkD x.1, iD x.2]) (fun x => iD (stepsF x.1 x.2))
theorem ev_steps_in {tr : TA} {G : Gm} {b : List (Int × Int)} {ps : List Int} (h : Ea tr G [bkD b, iD ps]) (c : Fr b ps) : Ep (tCall sp_steps_in [] C8.E0 tr) G (iD (stepsF b ps)) := ep_call (α := (List (Int × Int)) × (List Int)) (b, ps) h rfl c
local macro_rules | `(tactic| walk_at "ev") => `(tactic| (with_reducible apply ev_steps_in) <;> walk_at "ev")
theorem cal_steps_in {P : Program} {w : World} {K : PySem.W.Frag} {mg : Str → Option Value} {base : Heap} (T : Txt K mg) : Cal P w K mg base 4 "steps_in" sp_steps_in [] := by
  obtain ⟨fd, F⟩ := T.c.def_ 28 (d := d_steps_in) rfl
  refine ⟨⟨_, fd, ["book", "places"], [], ?_, T.glo 28, F.kp, F.bindsN (fun _ _ _ _ _ _ us hl => match us, hl with | [_, _], _ => rfl), .nil⟩⟩
  refine F.ok sc_steps_in (fun vs H Q E h => len_of (α := (List (Int × Int)) × (List Int)) (C := fun x => Fr x.1 x.2) (pre := fun x => [bkD x.1, iD x.2]) (post := fun x => iD (stepsF x.1 x.2)) (p := 2) (fun _ => rfl) vs H Q E h) (fun cdv A outer s H vs Q E hr h => ?_)
  refine ⟨_, PSs.nox (pss_cons (ps_set (i := 2) sc_steps_in.nd rfl (Or.inl rfl) (pe_lst pa_nil))
      (pss_cons (ps_for PassesOwn.never rfl (pi_enum rfl (free_enumerate T) (pa_cons (pv 1) pa_nil)) (pgT (K := K) (n := 2) rfl (pgs_cons (pg_name (i := 3) sc_steps_in.nd rfl (Or.inl rfl)) (pgs_cons (pg_name (i := 4) sc_steps_in.nd rfl (Or.inr rfl)) pgs_nil))) (pss_cons (ps_set (i := 5) sc_steps_in.nd rfl (Or.inl rfl) (pe_op op_cat (pe_lc (own := [("told", 6), ("value", 7)]) rfl sc_steps_in.nd (piL (K := K) (pv 0)) (blkOk_by (N := N_steps_in) (sc := defScope s_steps_in) (by decide +kernel)) (fun _ _ _ _ _ => (pgT (K := K) (n := 2) rfl (pgs_cons (pg_name (i := 6) sc_steps_in.nd rfl (Or.inl rfl)) (pgs_cons (pg_name (i := 7) sc_steps_in.nd rfl (Or.inl rfl)) pgs_nil)))) (fun _ _ _ _ _ => pts_nil) (fun _ _ _ _ _ => (pv 6))) (pe_slice (slL (K := K)) (pv 1) po_none (po_some (pv 3)))))
      (pss_one (ps_expr (pe_bm PySem.F.plainAttrs_list PySem.F.slot_list_append PySem.F.type_list_append mt_append (pv 2) (pa_cons (pe_c (cal_multiple_of T) hr (by decide) rfl (pa_cons (pe_lc (own := [("other", 8)]) rfl sc_steps_in.nd (piL (K := K) (pv 5)) (blkOk_by (N := N_steps_in) (sc := defScope s_steps_in) (by decide +kernel)) (fun _ _ _ _ _ => (pg_name (i := 8) sc_steps_in.nd rfl (Or.inl rfl))) (fun _ _ _ _ _ => pts_nil) (fun _ _ _ _ _ => (pe_op op_sub (pv 4) (pv 8)))) pa_nil)) pa_nil))))))
      (pss_one (ps_ret (pv 2))))), ?_⟩
  refine rd_of (α := (List (Int × Int)) × (List Int)) (C := fun x => Fr x.1 x.2) (pre := fun x => [bkD x.1, iD x.2]) (post := fun x => iD (stepsF x.1 x.2)) (p := 2) (N := N_steps_in) (fun _ => rfl) ?rd vs H Q E h
  case rd =>
    rintro ⟨b, ps⟩ h
    show Sx _ [some (.fro (bkD b)), some (.fro (iD ps)), none, none, none, none, none, none, none] 0 _ _
    have h : Fr b ps := h
    have n3 := h.n3
    have bl := h.bl
    refine sx_then (sx_new (xs := []) (en_lst ea_nil (by decide)) ⟨rfl, rfl⟩) ?_
    refine sx_seq (M := fun G n' => ∃ a c e f u v, G = [some (.fro (bkD b)), some (.fro (iD ps)), some (.own ((stepsF b ps).map PyData.int)), a, c, e, f, u, v]) ?_ ?_
    · refine sx_forP ps.zipIdx (fun q => .tuple [.int ((q.2 : Nat) : Int), .int q.1]) (fun pr G n' => ∃ a c e f u v, G = [some (.fro (bkD b)), some (.fro (iD ps)), some (.own ((pr.map (stepD b ps)).map PyData.int)), a, c, e, f, u, v]) ?_ ⟨none, none, none, none, none, none, rfl⟩ ?_ ?_
      · rw [← enumD_map (fun (x : Int) => PyData.int x) ps 0]
        exact es_enum (by walk_at "ev")
      · rintro pr q po G n' e0 ⟨a, c, e, f, u, v, rfl⟩
        have hq : q ∈ ps.zipIdx := by rw [e0]; simp
        have hpl : pr.length ≤ 3 := by
          have := congrArg List.length e0
          rw [List.length_zipIdx, List.length_append, List.length_cons] at this
          omega
        have hl := h.len hq
        refine ⟨_, _, tg_two, ?_⟩
        show Sx _ [some (.fro (bkD b)), some (.fro (iD ps)), some (.own ((pr.map (stepD b ps)).map PyData.int)), some (.fro (.int ((q.2 : Nat) : Int))), some (.fro (.int q.1)), e, f, u, v] _ _ _
        refine sx_then (G1 := [some (.fro (bkD b)), some (.fro (iD ps)), some (.own ((pr.map (stepD b ps)).map PyData.int)), some (.fro (.int ((q.2 : Nat) : Int))), some (.fro (.int q.1)), some (.fro (iD ((b.map (·.1)) ++ ps.take q.2))), f, u, v]) (sx_asg (d := iD ((b.map (·.1)) ++ ps.take q.2)) (ep_new ?_) ⟨rfl, rfl⟩) ?_
        · rw [List.map_append]
          refine en_op (d1 := iD (b.map (·.1))) (d2 := iD (ps.take q.2)) (ep_new ?_) (ep_new ?_) (on_cat ?_)
          · rw [fst_map]
            refine en_m2 b (fun q => .int q.1) (fun q => .int q.2) _ (es_list ?_) (fun q hq => ?_) (by omega)
            · exact ep_var rfl
            · exact ep_var rfl
          · rw [List.map_take, ← cut_to]
            exact en_slice (by walk_at "ev") eo_no (eo_part (by walk_at "ev"))
          · simp only [List.length_append, List.length_map] at hl ⊢
            omega
        · have e2 : ((pr ++ [q]).map (stepD b ps)).map PyData.int = (pr.map (stepD b ps)).map PyData.int ++ [.int (stepD b ps q)] := by
            rw [List.map_append, List.map_append]
            rfl
          rw [e2]
          refine sx_app (xs := (pr.map (stepD b ps)).map PyData.int) (d := .int (stepD b ps q)) rfl ?_ (by simp only [List.length_map]; omega) ⟨_, _, _, _, _, _, rfl⟩
          refine ev_multiple_of (ns := ((b.map (·.1)) ++ ps.take q.2).map fun o => q.1 - o) (ea_cons (ep_new ?_) ea_nil) ⟨?_, fun n hn => ?_⟩
          · rw [map_int (fun o => q.1 - o)]
            refine en_m1 ((b.map (·.1)) ++ ps.take q.2) (fun x => PyData.int x) _ (es_list ?_) (fun x hx => ?_) (by omega)
            · exact ep_var rfl
            · exact ep_op (ep_var rfl) (ep_var rfl) od_i
          · rw [List.length_map]; omega
          · obtain ⟨o, h1, rfl⟩ := List.mem_map.mp hn
            have r := h.rg _ (h.mem hq)
            have := h.oth _ o h1
            exact (sm_lit (n := q.1 - o) ⟨by omega, by omega⟩).mono (by omega)
      · rintro G n' h
        exact h
    · rintro G n' ⟨a, c, e, f, u, v, rfl⟩
      exact sx_ret (d := iD (stepsF b ps)) (by walk_at "ev") rfl
/-! ### size_in -/
abbrev N_size_in : List Str := ["book", "places"]
theorem sc_size_in : FnScope N_size_in ["book", "places"] (defScope s_size_in) := ⟨rfl, rfl, rfl, by decide +kernel, rfl, by decide +kernel, by decide +kernel⟩
def sp_size_in : Sp := SpP (α := (List (Int × Int)) × (List Int)) (fun x => Fr x.1 x.2) (fun x => [bkD x.1, iD x.2]) (fun x => .int (sizeF x.1 x.2))
theorem ev_size_in {tr : TA} {G : Gm} {b : List (Int × Int)} {ps : List Int} (h : Ea tr G [bkD b, iD ps]) (c : Fr b ps) : Ep (tCall sp_size_in [] C8.E0 tr) G (.int (sizeF b ps)) := ep_call (α := (List (Int × Int)) × (List Int)) (b, ps) h rfl c
local macro_rules | `(tactic| walk_at "ev") => `(tactic| (with_reducible apply ev_size_in) <;> walk_at "ev")
theorem cal_size_in {P : Program} {w : World} {K : PySem.W.Frag} {mg : Str → Option Value} {base : Heap} (T : Txt K mg) : Cal P w K mg base 5 "size_in" sp_size_in [] := by
  obtain ⟨fd, F⟩ := T.c.def_ 29 (d := d_size_in) rfl
  refine ⟨⟨_, fd, ["book", "places"], [], ?_, T.glo 29, F.kp, F.bindsN (fun _ _ _ _ _ _ us hl => match us, hl with | [_, _], _ => rfl), .nil⟩⟩
  refine F.ok sc_size_in (fun vs H Q E h => len_of (α := (List (Int × Int)) × (List Int)) (C := fun x => Fr x.1 x.2) (pre := fun x => [bkD x.1, iD x.2]) (post := fun x => .int (sizeF x.1 x.2)) (p := 2) (fun _ => rfl) vs H Q E h) (fun cdv A outer s H vs Q E hr h => ?_)
  refine ⟨_, PSs.nox (pss_one (ps_ret (pe_c (cal_multiple_of T) hr (by decide) rfl (pa_cons (pe_c (cal_steps_in T) hr (by decide) rfl (pa_cons (pv 0) (pa_cons (pv 1) pa_nil))) pa_nil)))), ?_⟩
  refine rd_of (α := (List (Int × Int)) × (List Int)) (C := fun x => Fr x.1 x.2) (pre := fun x => [bkD x.1, iD x.2]) (post := fun x => .int (sizeF x.1 x.2)) (p := 2) (N := N_size_in) (fun _ => rfl) ?rd vs H Q E h
  case rd =>
    rintro ⟨b, ps⟩ h
    show Sx _ [some (.fro (bkD b)), some (.fro (iD ps))] 0 _ _
    have h : Fr b ps := h
    refine sx_ret (d := .int (sizeF b ps)) ?_ rfl
    refine ev_multiple_of (ns := stepsF b ps) (by walk_at "ev"; exact h) ⟨?_, fun n hn => ((h.steps n hn).2).mono (by omega)⟩
    have := h.n3
    rw [stepsF_len]
    omega
theorem count_snoc {st : List Int} {s m : Int} : countF (st ++ [s]) m = countF st m * (m / s) := by unfold countF; rw [List.foldl_append]; rfl
theorem count_sm {m : Int} (hm : Sm 5458 m) : ∀ st : List Int, Sm (5459 * st.length + 1) (countF st m) := fun st => by
  have g : ∀ (st : List Int) (f : Int) (k : Nat), Sm k f → Sm (5459 * st.length + k) (st.foldl (fun f s => f * (m / s)) f) := by
    intro st
    induction st with
    | nil => intro f k h; simpa using h
    | cons s st ih =>
      intro f k h
      rw [List.length_cons, Nat.mul_add, Nat.mul_one, Nat.add_assoc, Nat.add_comm 5459 k]
      exact ih _ _ (h.mul hm.ediv)
  exact g st 1 1 (by unfold Sm; decide)

/-! ### count_in -/
abbrev N_count_in : List Str := ["steps", "size", "found", "step"]
theorem sc_count_in : FnScope N_count_in ["steps", "size"] (defScope s_count_in) := ⟨rfl, rfl, rfl, by decide +kernel, rfl, by decide +kernel, by decide +kernel⟩
def sp_count_in : Sp := SpP (α := (List Int) × Int) (fun x => (x.1.length ≤ 3 ∧ ∀ s ∈ x.1, 0 < s ∧ Sm 1819 s) ∧ Sm 5458 x.2) (fun x => [iD x.1, .int x.2]) (fun x => .int (countF x.1 x.2))
theorem ev_count_in {tr : TA} {G : Gm} {st : List Int} {m : Int} (h : Ea tr G [iD st, .int m]) (c : (st.length ≤ 3 ∧ ∀ s ∈ st, 0 < s ∧ Sm 1819 s) ∧ Sm 5458 m) : Ep (tCall sp_count_in [] C8.E0 tr) G (.int (countF st m)) := ep_call (α := (List Int) × Int) (st, m) h rfl c
local macro_rules | `(tactic| walk_at "ev") => `(tactic| (with_reducible apply ev_count_in) <;> walk_at "ev")
theorem cal_count_in {P : Program} {w : World} {K : PySem.W.Frag} {mg : Str → Option Value} {base : Heap} (T : Txt K mg) : Cal P w K mg base 1 "count_in" sp_count_in [] := by
  obtain ⟨fd, F⟩ := T.c.def_ 30 (d := d_count_in) rfl
  refine ⟨⟨_, fd, ["steps", "size"], [], ?_, T.glo 30, F.kp, F.bindsN (fun _ _ _ _ _ _ us hl => match us, hl with | [_, _], _ => rfl), .nil⟩⟩
  refine F.ok sc_count_in (fun vs H Q E h => len_of (α := (List Int) × Int) (C := fun x => (x.1.length ≤ 3 ∧ ∀ s ∈ x.1, 0 < s ∧ Sm 1819 s) ∧ Sm 5458 x.2) (pre := fun x => [iD x.1, .int x.2]) (post := fun x => .int (countF x.1 x.2)) (p := 2) (fun _ => rfl) vs H Q E h) (fun cdv A outer s H vs Q E hr h => ?_)
  refine ⟨_, PSs.nox (pss_cons (ps_set (i := 2) sc_count_in.nd rfl (Or.inl rfl) pe_int)
      (pss_cons (ps_for PassesOwn.never rfl (piL (K := K) (pv 0)) (pg_name (i := 3) sc_count_in.nd rfl (Or.inl rfl)) (pss_one (ps_set (i := 2) sc_count_in.nd rfl (Or.inl rfl) (pe_op op_mulW (pv 2) (pe_op op_fdivW (pv 1) (pv 3))))))
      (pss_one (ps_ret (pv 2))))), ?_⟩
  refine rd_of (α := (List Int) × Int) (C := fun x => (x.1.length ≤ 3 ∧ ∀ s ∈ x.1, 0 < s ∧ Sm 1819 s) ∧ Sm 5458 x.2) (pre := fun x => [iD x.1, .int x.2]) (post := fun x => .int (countF x.1 x.2)) (p := 2) (N := N_count_in) (fun _ => rfl) ?rd vs H Q E h
  case rd =>
    rintro ⟨st, m⟩ ⟨⟨hl, hs⟩, hm⟩
    show Sx _ [some (.fro (iD st)), some (.fro (.int m)), none, none] 0 _ _
    have hl : st.length ≤ 3 := hl
    have hs : ∀ s ∈ st, 0 < s ∧ Sm 1819 s := hs
    have hm : Sm 5458 m := hm
    refine sx_then (sx_asg (d := .int 1) (by walk_at "ev") ⟨rfl, rfl⟩) ?_
    refine sx_seq (M := fun G n' => ∃ a, G = [some (.fro (iD st)), some (.fro (.int m)), some (.fro (.int (countF st m))), a]) ?_ ?_
    · refine sx_forP st (fun x => .int x) (fun pr G n' => ∃ a, G = [some (.fro (iD st)), some (.fro (.int m)), some (.fro (.int (countF pr m))), a]) (es_list (by walk_at "ev")) ⟨none, rfl⟩ ?_ (fun G n' h => h)
      rintro pr s po G n' e0 ⟨a, rfl⟩
      have h1 := hs s (by rw [e0]; simp)
      have hpl : pr.length ≤ 3 := by rw [e0, List.length_append] at hl; omega
      refine ⟨_, _, tg_name, ?_⟩
      rw [count_snoc]
      refine sx_asg (d := .int (countF pr m * (m / s))) ?_ ⟨_, rfl⟩
      walk_at "ev"
      · exact Sm.cdiv h1.2 h1.1 (by omega)
      · exact Sm.cmul (count_sm hm pr) hm.ediv (by omega)
    · rintro G n' ⟨a, rfl⟩
      exact sx_ret (d := .int (countF st m)) (by walk_at "ev") rfl
/-! ### need_size -/
abbrev N_need_size : List Str := ["book", "places", "size", "common"]
theorem sc_need_size : FnScope N_need_size ["book", "places", "size"] (defScope s_need_size) := ⟨rfl, rfl, rfl, by decide +kernel, rfl, by decide +kernel, by decide +kernel⟩
def sp_need_size : Sp := SpP (α := (List (Int × Int)) × (List Int) × Int) (fun x => Fr x.1 x.2.1 ∧ x.2.2 = sizeF x.1 x.2.1) (fun x => [bkD x.1, iD x.2.1, .int x.2.2]) (fun x => .none)
theorem ev_need_size {tr : TA} {G : Gm} {b : List (Int × Int)} {ps : List Int} {m : Int} (h : Ea tr G [bkD b, iD ps, .int m]) (c : Fr b ps ∧ m = sizeF b ps) : Ep (tCall sp_need_size [] C8.E0 tr) G (.none) := ep_call (α := (List (Int × Int)) × (List Int) × Int) (b, ps, m) h rfl c
local macro_rules | `(tactic| walk_at "ev") => `(tactic| (with_reducible apply ev_need_size) <;> walk_at "ev")
theorem cal_need_size {P : Program} {w : World} {K : PySem.W.Frag} {mg : Str → Option Value} {base : Heap} (T : Txt K mg) : Cal P w K mg base 7 "need_size" sp_need_size [] := by
  obtain ⟨fd, F⟩ := T.c.def_ 31 (d := d_need_size) rfl
  obtain ⟨t_MOST_ROUNDS, g_MOST_ROUNDS⟩ := cst_MOST_ROUNDS T
  refine ⟨⟨_, fd, ["book", "places", "size"], [], ?_, T.glo 31, F.kp, F.bindsN (fun _ _ _ _ _ _ us hl => match us, hl with | [_, _, _], _ => rfl), .nil⟩⟩
  refine F.ok sc_need_size (fun vs H Q E h => len_of (α := (List (Int × Int)) × (List Int) × Int) (C := fun x => Fr x.1 x.2.1 ∧ x.2.2 = sizeF x.1 x.2.1) (pre := fun x => [bkD x.1, iD x.2.1, .int x.2.2]) (post := fun x => .none) (p := 3) (fun _ => rfl) vs H Q E h) (fun cdv A outer s H vs Q E hr h => ?_)
  refine ⟨_, PSs.nox (pss_cons (ps_expr (pe_c (cal_need_open T) hr (by decide) rfl (pa_cons (pv 0) (pa_cons (pv 1) pa_nil))))
      (pss_cons (ps_expr (pe_c (cal_need_fitting T) hr (by decide) rfl (pa_cons (pv 0) pa_nil)))
      (pss_cons (ps_set (i := 3) sc_need_size.nd rfl (Or.inl rfl) (pe_c (cal_size_in T) hr (by decide) rfl (pa_cons (pv 0) (pa_cons (pv 1) pa_nil))))
      (pss_one (ps_if (PW.pt (pw_or (pt_cmpR op_lt (pv 2) pe_int (nomark _)) (pw_or (pt_not (pt_val (pe_c (cal_divides T) hr (by decide) rfl (pa_cons (pv 3) (pa_cons (pv 2) pa_nil))))) (pw_or1 (pt_cmpR op_gt (pv 2) (pe_op op_mulW (pv 3) (pe_glob (v := .int 1000000000000000000000000000000) rfl g_MOST_ROUNDS ⟨_, rfl⟩)) (nomark _)))))) pss_never pss_nil))))), ?_⟩
  refine rd_of (α := (List (Int × Int)) × (List Int) × Int) (C := fun x => Fr x.1 x.2.1 ∧ x.2.2 = sizeF x.1 x.2.1) (pre := fun x => [bkD x.1, iD x.2.1, .int x.2.2]) (post := fun x => .none) (p := 3) (N := N_need_size) (fun _ => rfl) ?rd vs H Q E h
  case rd =>
    rintro ⟨b, ps, m⟩ ⟨h, e⟩
    show Sx _ [some (.fro (bkD b)), some (.fro (iD ps)), some (.fro (.int m)), none] 0 _ _
    have h : Fr b ps := h
    have e : m = sizeF b ps := e
    subst e
    refine sx_then (sx_drop (d := .none) (by walk_at "ev"; exact h) ⟨rfl, rfl⟩) ?_
    refine sx_then (sx_drop (d := .none) (by walk_at "ev"; exact ⟨h.bk.len, h.cf⟩) ⟨rfl, rfl⟩) ?_
    refine sx_then (sx_asg (d := .int (sizeF b ps)) (by walk_at "ev"; exact h) ⟨rfl, rfl⟩) ?_
    have hz : 0 < sizeF b ps ∧ Sm 5458 (sizeF b ps) := h.size
    refine sx_if (b := decide (sizeF b ps < 1) || (!decide (sizeF b ps ∣ sizeF b ps) || decide (sizeF b ps > sizeF b ps * 1000000000000000000000000000000))) ?_ (fun z => ?_) (fun _ => sx_next rfl)
    · walk_at "ev"
      · exact True.intro
      · exact Sm.cmul hz.2 (sm_of (k := 110) 1000000000000000000000000000000 ⟨by decide, by decide⟩ (by decide)) (by omega)
    · rw [decide_eq_true (Int.dvd_refl _)] at z
      simp only [Bool.not_true, Bool.false_or, Bool.or_eq_true, decide_eq_true_eq] at z
      have z : sizeF b ps < 1 ∨ sizeF b ps > sizeF b ps * 1000000000000000000000000000000 := z
      have hz1 := hz.1
      omega
/-! ### step_list -/
abbrev N_step_list : List Str := ["book", "places"]
theorem sc_step_list : FnScope N_step_list ["book", "places"] (defScope s_step_list) := ⟨rfl, rfl, rfl, by decide +kernel, rfl, by decide +kernel, by decide +kernel⟩
def sp_step_list : Sp := SpP (α := (List (Int × Int)) × (List Int)) (fun x => Fr x.1 x.2) (fun x => [bkD x.1, iD x.2]) (fun x => iD (stepsF x.1 x.2))
theorem ev_step_list {tr : TA} {G : Gm} {b : List (Int × Int)} {ps : List Int} (h : Ea tr G [bkD b, iD ps]) (c : Fr b ps) : Ep (tCall sp_step_list [] C8.E0 tr) G (iD (stepsF b ps)) := ep_call (α := (List (Int × Int)) × (List Int)) (b, ps) h rfl c
local macro_rules | `(tactic| walk_at "ev") => `(tactic| (with_reducible apply ev_step_list) <;> walk_at "ev")
theorem cal_step_list {P : Program} {w : World} {K : PySem.W.Frag} {mg : Str → Option Value} {base : Heap} (T : Txt K mg) : Cal P w K mg base 7 "step_list" sp_step_list [] := by
  obtain ⟨fd, F⟩ := T.c.def_ 32 (d := d_step_list) rfl
  refine ⟨⟨_, fd, ["book", "places"], [], ?_, T.glo 32, F.kp, F.bindsN (fun _ _ _ _ _ _ us hl => match us, hl with | [_, _], _ => rfl), .nil⟩⟩
  refine F.ok sc_step_list (fun vs H Q E h => len_of (α := (List (Int × Int)) × (List Int)) (C := fun x => Fr x.1 x.2) (pre := fun x => [bkD x.1, iD x.2]) (post := fun x => iD (stepsF x.1 x.2)) (p := 2) (fun _ => rfl) vs H Q E h) (fun cdv A outer s H vs Q E hr h => ?_)
  refine ⟨_, PSs.nox (pss_cons (ps_expr (pe_c (cal_need_open T) hr (by decide) rfl (pa_cons (pv 0) (pa_cons (pv 1) pa_nil))))
      (pss_cons (ps_expr (pe_c (cal_need_fitting T) hr (by decide) rfl (pa_cons (pv 0) pa_nil)))
      (pss_one (ps_ret (pe_c (cal_steps_in T) hr (by decide) rfl (pa_cons (pv 0) (pa_cons (pv 1) pa_nil))))))), ?_⟩
  refine rd_of (α := (List (Int × Int)) × (List Int)) (C := fun x => Fr x.1 x.2) (pre := fun x => [bkD x.1, iD x.2]) (post := fun x => iD (stepsF x.1 x.2)) (p := 2) (N := N_step_list) (fun _ => rfl) ?rd vs H Q E h
  case rd =>
    rintro ⟨b, ps⟩ h
    show Sx _ [some (.fro (bkD b)), some (.fro (iD ps))] 0 _ _
    have h : Fr b ps := h
    refine sx_then (sx_drop (d := .none) (by walk_at "ev"; exact h) ⟨rfl, rfl⟩) ?_
    refine sx_then (sx_drop (d := .none) (by walk_at "ev"; exact ⟨h.bk.len, h.cf⟩) ⟨rfl, rfl⟩) ?_
    refine sx_ret (d := iD (stepsF b ps)) ?_ rfl
    walk_at "ev"
    exact h
/-! ### common_size -/
abbrev N_common_size : List Str := ["book", "places"]
theorem sc_common_size : FnScope N_common_size ["book", "places"] (defScope s_common_size) := ⟨rfl, rfl, rfl, by decide +kernel, rfl, by decide +kernel, by decide +kernel⟩
def sp_common_size : Sp := SpP (α := (List (Int × Int)) × (List Int)) (fun x => Fr x.1 x.2) (fun x => [bkD x.1, iD x.2]) (fun x => .int (sizeF x.1 x.2))
theorem ev_common_size {tr : TA} {G : Gm} {b : List (Int × Int)} {ps : List Int} (h : Ea tr G [bkD b, iD ps]) (c : Fr b ps) : Ep (tCall sp_common_size [] C8.E0 tr) G (.int (sizeF b ps)) := ep_call (α := (List (Int × Int)) × (List Int)) (b, ps) h rfl c
local macro_rules | `(tactic| walk_at "ev") => `(tactic| (with_reducible apply ev_common_size) <;> walk_at "ev")
theorem cal_common_size {P : Program} {w : World} {K : PySem.W.Frag} {mg : Str → Option Value} {base : Heap} (T : Txt K mg) : Cal P w K mg base 7 "common_size" sp_common_size [] := by
  obtain ⟨fd, F⟩ := T.c.def_ 33 (d := d_common_size) rfl
  refine ⟨⟨_, fd, ["book", "places"], [], ?_, T.glo 33, F.kp, F.bindsN (fun _ _ _ _ _ _ us hl => match us, hl with | [_, _], _ => rfl), .nil⟩⟩
  refine F.ok sc_common_size (fun vs H Q E h => len_of (α := (List (Int × Int)) × (List Int)) (C := fun x => Fr x.1 x.2) (pre := fun x => [bkD x.1, iD x.2]) (post := fun x => .int (sizeF x.1 x.2)) (p := 2) (fun _ => rfl) vs H Q E h) (fun cdv A outer s H vs Q E hr h => ?_)
  refine ⟨_, PSs.nox (pss_cons (ps_expr (pe_c (cal_need_open T) hr (by decide) rfl (pa_cons (pv 0) (pa_cons (pv 1) pa_nil))))
      (pss_cons (ps_expr (pe_c (cal_need_fitting T) hr (by decide) rfl (pa_cons (pv 0) pa_nil)))
      (pss_one (ps_ret (pe_c (cal_size_in T) hr (by decide) rfl (pa_cons (pv 0) (pa_cons (pv 1) pa_nil))))))), ?_⟩
  refine rd_of (α := (List (Int × Int)) × (List Int)) (C := fun x => Fr x.1 x.2) (pre := fun x => [bkD x.1, iD x.2]) (post := fun x => .int (sizeF x.1 x.2)) (p := 2) (N := N_common_size) (fun _ => rfl) ?rd vs H Q E h
  case rd =>
    rintro ⟨b, ps⟩ h
    show Sx _ [some (.fro (bkD b)), some (.fro (iD ps))] 0 _ _
    have h : Fr b ps := h
    refine sx_then (sx_drop (d := .none) (by walk_at "ev"; exact h) ⟨rfl, rfl⟩) ?_
    refine sx_then (sx_drop (d := .none) (by walk_at "ev"; exact ⟨h.bk.len, h.cf⟩) ⟨rfl, rfl⟩) ?_
    refine sx_ret (d := .int (sizeF b ps)) ?_ rfl
    walk_at "ev"
    exact h
theorem Fr.cnt {b : List (Int × Int)} {ps st : List Int} (h : Fr b ps) (hs : ∀ s ∈ st, s ∈ stepsF b ps) (hl : st.length ≤ 3) : (st.length ≤ 3 ∧ ∀ s ∈ st, 0 < s ∧ Sm 1819 s) ∧ Sm 5458 (sizeF b ps) :=
  ⟨⟨hl, fun s k => h.steps s (hs s k)⟩, h.size.2⟩
/-! ### count_fillings -/
abbrev N_count_fillings : List Str := ["book", "places", "size"]
theorem sc_count_fillings : FnScope N_count_fillings ["book", "places", "size"] (defScope s_count_fillings) := ⟨rfl, rfl, rfl, by decide +kernel, rfl, by decide +kernel, by decide +kernel⟩
def sp_count_fillings : Sp := SpP (α := (List (Int × Int)) × (List Int) × Int) (fun x => Fr x.1 x.2.1 ∧ x.2.2 = sizeF x.1 x.2.1) (fun x => [bkD x.1, iD x.2.1, .int x.2.2]) (fun x => .int (countF (stepsF x.1 x.2.1) (sizeF x.1 x.2.1)))
theorem ev_count_fillings {tr : TA} {G : Gm} {b : List (Int × Int)} {ps : List Int} {m : Int} (h : Ea tr G [bkD b, iD ps, .int m]) (c : Fr b ps ∧ m = sizeF b ps) : Ep (tCall sp_count_fillings [] C8.E0 tr) G (.int (countF (stepsF b ps) (sizeF b ps))) := ep_call (α := (List (Int × Int)) × (List Int) × Int) (b, ps, m) h rfl c
local macro_rules | `(tactic| walk_at "ev") => `(tactic| (with_reducible apply ev_count_fillings) <;> walk_at "ev")
theorem cal_count_fillings {P : Program} {w : World} {K : PySem.W.Frag} {mg : Str → Option Value} {base : Heap} (T : Txt K mg) : Cal P w K mg base 8 "count_fillings" sp_count_fillings [] := by
  obtain ⟨fd, F⟩ := T.c.def_ 34 (d := d_count_fillings) rfl
  refine ⟨⟨_, fd, ["book", "places", "size"], [], ?_, T.glo 34, F.kp, F.bindsN (fun _ _ _ _ _ _ us hl => match us, hl with | [_, _, _], _ => rfl), .nil⟩⟩
  refine F.ok sc_count_fillings (fun vs H Q E h => len_of (α := (List (Int × Int)) × (List Int) × Int) (C := fun x => Fr x.1 x.2.1 ∧ x.2.2 = sizeF x.1 x.2.1) (pre := fun x => [bkD x.1, iD x.2.1, .int x.2.2]) (post := fun x => .int (countF (stepsF x.1 x.2.1) (sizeF x.1 x.2.1))) (p := 3) (fun _ => rfl) vs H Q E h) (fun cdv A outer s H vs Q E hr h => ?_)
  refine ⟨_, PSs.nox (pss_cons (ps_expr (pe_c (cal_need_size T) hr (by decide) rfl (pa_cons (pv 0) (pa_cons (pv 1) (pa_cons (pv 2) pa_nil)))))
      (pss_one (ps_ret (pe_c (cal_count_in T) hr (by decide) rfl (pa_cons (pe_c (cal_steps_in T) hr (by decide) rfl (pa_cons (pv 0) (pa_cons (pv 1) pa_nil))) (pa_cons (pv 2) pa_nil)))))), ?_⟩
  refine rd_of (α := (List (Int × Int)) × (List Int) × Int) (C := fun x => Fr x.1 x.2.1 ∧ x.2.2 = sizeF x.1 x.2.1) (pre := fun x => [bkD x.1, iD x.2.1, .int x.2.2]) (post := fun x => .int (countF (stepsF x.1 x.2.1) (sizeF x.1 x.2.1))) (p := 3) (N := N_count_fillings) (fun _ => rfl) ?rd vs H Q E h
  case rd =>
    rintro ⟨b, ps, m⟩ ⟨h, e⟩
    show Sx _ [some (.fro (bkD b)), some (.fro (iD ps)), some (.fro (.int m))] 0 _ _
    have h : Fr b ps := h
    have e : m = sizeF b ps := e
    subst e
    refine sx_then (sx_drop (d := .none) (by walk_at "ev"; exact ⟨h, rfl⟩) ⟨rfl, rfl⟩) ?_
    refine sx_ret (d := .int (countF (stepsF b ps) (sizeF b ps))) ?_ rfl
    walk_at "ev"
    · exact h
    · exact h.cnt (fun s k => k) (by rw [stepsF_len]; exact h.n3)
end Kr
end
section
namespace Kr
open PySem L2
open Evl (Ex)
open C8 (Cal pe_c)
local macro_rules | `(tactic| walk_at "ev") => `(tactic| skip)
local macro_rules | `(tactic| walk_at "ev") => `(tactic| first
  | with_reducible exact ep_int
  | with_reducible exact ep_bl
  | with_reducible exact ep_non
  | with_reducible exact ea_nil
  | with_reducible exact et_yes
  | with_reducible exact eo_no
  | ((with_reducible apply ep_var); rfl)
  | (with_reducible apply ea_cons) <;> walk_at "ev"
  | (with_reducible apply ep_op) <;> walk_at "ev"
  | (with_reducible apply ep_un) <;> walk_at "ev"
  | (with_reducible apply ep_isi) <;> walk_at "ev"
  | ((with_reducible apply ep_lenV); rfl)
  | (with_reducible apply ep_len) <;> walk_at "ev"
  | (with_reducible apply ep_abs) <;> walk_at "ev"
  | (with_reducible apply ep_int1) <;> walk_at "ev"
  | (with_reducible apply ep_max2) <;> walk_at "ev"
  | (with_reducible apply ep_min2) <;> walk_at "ev"
  | (with_reducible apply et_test) <;> walk_at "ev"
  | (with_reducible apply et_B) <;> walk_at "ev"
  | (with_reducible apply et_not) <;> walk_at "ev"
  | (with_reducible apply ep_notV) <;> walk_at "ev"
  | (with_reducible apply ep_tup) <;> walk_at "ev"
  | (with_reducible apply eo_part) <;> walk_at "ev"
  | with_reducible exact od_i
  | with_reducible exact od_b
  | with_reducible exact od_eqI
  | with_reducible exact od_neI
  | with_reducible exact od_isN
  | with_reducible exact od_notN
  | with_reducible exact od_notB
  | with_reducible apply od_c
  | with_reducible exact od_ixT0
  | with_reducible exact od_ixT1
  | with_reducible exact od_ixL0
  | with_reducible exact od_ixL1
  | with_reducible exact od_ixL2
  | with_reducible apply od_ixL
  | with_reducible apply od_ixT
  | with_reducible exact ud_neg
  | (with_reducible refine' et_or ?_ (fun _ => ?_)) <;> walk_at "ev"
  | (with_reducible refine' et_and ?_ (fun _ => ?_)) <;> walk_at "ev"
  | (with_reducible refine' ep_orV ?_ (fun _ => ?_)) <;> walk_at "ev"
  | (with_reducible refine' ep_andV ?_ (fun _ => ?_)) <;> walk_at "ev"
  | (with_reducible refine' ep_chain ?_ ?_ ?_ (fun _ => ?_) (fun _ => ?_)) <;> walk_at "ev"
  | exact isi_int
  | exact isi_intb
  | exact isi_lst
  | exact isi_tup
  | exact Nat.le_of_ble_eq_true rfl)
local macro_rules | `(tactic| walk_at "ev") => `(tactic| (with_reducible apply ev_divisor_of) <;> walk_at "ev")
local macro_rules | `(tactic| walk_at "ev") => `(tactic| (with_reducible apply ev_multiple_of) <;> walk_at "ev")
local macro_rules | `(tactic| walk_at "ev") => `(tactic| (with_reducible apply ev_divides) <;> walk_at "ev")
local macro_rules | `(tactic| walk_at "ev") => `(tactic| (with_reducible apply ev_do_fit) <;> walk_at "ev")
local macro_rules | `(tactic| walk_at "ev") => `(tactic| (with_reducible apply ev_conflicts_in) <;> walk_at "ev")
local macro_rules | `(tactic| walk_at "ev") => `(tactic| (with_reducible apply ev_is_integer) <;> walk_at "ev")
local macro_rules | `(tactic| walk_at "ev") => `(tactic| (with_reducible apply ev_is_told) <;> walk_at "ev")
local macro_rules | `(tactic| walk_at "ev") => `(tactic| (with_reducible apply ev_is_item) <;> walk_at "ev")
local macro_rules | `(tactic| walk_at "ev") => `(tactic| (with_reducible apply ev_is_book) <;> walk_at "ev")
local macro_rules | `(tactic| walk_at "ev") => `(tactic| (with_reducible apply ev_need_book) <;> walk_at "ev")
local macro_rules | `(tactic| walk_at "ev") => `(tactic| (with_reducible apply ev_conflict_in) <;> walk_at "ev")
local macro_rules | `(tactic| walk_at "ev") => `(tactic| (with_reducible apply ev_need_fitting) <;> walk_at "ev")
local macro_rules | `(tactic| walk_at "ev") => `(tactic| (with_reducible apply ev_need_possible) <;> walk_at "ev")
local macro_rules | `(tactic| walk_at "ev") => `(tactic| (with_reducible apply ev_conflict_of) <;> walk_at "ev")
local macro_rules | `(tactic| walk_at "ev") => `(tactic| (with_reducible apply ev_all_conflicts) <;> walk_at "ev")
local macro_rules | `(tactic| walk_at "ev") => `(tactic| (with_reducible apply ev_need_modulus1) <;> walk_at "ev")
local macro_rules | `(tactic| walk_at "ev") => `(tactic| (with_reducible apply ev_need_modulus2) <;> walk_at "ev")
local macro_rules | `(tactic| walk_at "ev") => `(tactic| (with_reducible apply ev_inverse_of) <;> walk_at "ev")
local macro_rules | `(tactic| walk_at "ev") => `(tactic| (with_reducible apply ev_met) <;> walk_at "ev")
local macro_rules | `(tactic| walk_at "ev") => `(tactic| (with_reducible apply ev_class_by) <;> walk_at "ev")
local macro_rules | `(tactic| walk_at "ev") => `(tactic| (with_reducible apply ev_class_at) <;> walk_at "ev")
local macro_rules | `(tactic| walk_at "ev") => `(tactic| (with_reducible apply ev_can_have) <;> walk_at "ev")
local macro_rules | `(tactic| walk_at "ev") => `(tactic| (with_reducible apply ev_far_in) <;> walk_at "ev")
local macro_rules | `(tactic| walk_at "ev") => `(tactic| (with_reducible apply ev_need_sure) <;> walk_at "ev")
local macro_rules | `(tactic| walk_at "ev") => `(tactic| (with_reducible apply ev_reason_for) <;> walk_at "ev")
local macro_rules | `(tactic| walk_at "ev") => `(tactic| (with_reducible apply ev_are_indices) <;> walk_at "ev")
local macro_rules | `(tactic| walk_at "ev") => `(tactic| (with_reducible apply ev_shows_reason) <;> walk_at "ev")
local macro_rules | `(tactic| walk_at "ev") => `(tactic| (with_reducible apply ev_need_places) <;> walk_at "ev")
local macro_rules | `(tactic| walk_at "ev") => `(tactic| (with_reducible apply ev_need_open) <;> walk_at "ev")
local macro_rules | `(tactic| walk_at "ev") => `(tactic| (with_reducible apply ev_steps_in) <;> walk_at "ev")
local macro_rules | `(tactic| walk_at "ev") => `(tactic| (with_reducible apply ev_size_in) <;> walk_at "ev")
local macro_rules | `(tactic| walk_at "ev") => `(tactic| (with_reducible apply ev_count_in) <;> walk_at "ev")
local macro_rules | `(tactic| walk_at "ev") => `(tactic| (with_reducible apply ev_need_size) <;> walk_at "ev")
local macro_rules | `(tactic| walk_at "ev") => `(tactic| (with_reducible apply ev_step_list) <;> walk_at "ev")
local macro_rules | `(tactic| walk_at "ev") => `(tactic| (with_reducible apply ev_common_size) <;> walk_at "ev")
local macro_rules | `(tactic| walk_at "ev") => `(tactic| (with_reducible apply ev_count_fillings) <;> walk_at "ev")

theorem clsG_sz (pl : Int) : ∀ (l : List (Int × Int)) (f : Int × Int) (k : Nat), (0 ≤ f.1 ∧ f.1 < f.2) → Sm k f.2 → Near pl l → Sm (k + 110 * l.length) (clsG pl f l).2
  | [], f, k, _, h, _ => h
  | q :: l, f, k, hb, h, hn => by
    show Sm _ (if q.1 = pl then (q.2, 0) else clsG pl _ l).2
    by_cases e : q.1 = pl
    · rw [if_pos e]
      unfold Sm
      exact Nat.two_pow_pos _
    · rw [if_neg e]
      have p : 0 < ((pl - q.1).natAbs : Int) := by omega
      have := clsG_sz pl l (metF f (q.2 % ((pl - q.1).natAbs : Int), ((pl - q.1).natAbs : Int))) (k + 110) (metF_bd hb p) (metF_sz (by omega) p h (Sm.natAbs (hn q (by simp)))) fun r hr => hn r (by simp [hr])
      refine Sm.mono this ?_
      rw [List.length_cons]
      omega
theorem clsG_bd (pl : Int) : ∀ (l : List (Int × Int)) (f : Int × Int), (0 ≤ f.1 ∧ f.1 < f.2) → (∀ q ∈ l, q.1 ≠ pl) → 0 ≤ (clsG pl f l).1 ∧ (clsG pl f l).1 < (clsG pl f l).2
  | [], f, hb, _ => hb
  | q :: l, f, hb, hn => by
    have e := hn q (by simp)
    show 0 ≤ (if q.1 = pl then (q.2, 0) else clsG pl _ l).1 ∧ (if q.1 = pl then (q.2, 0) else clsG pl _ l).1 < (if q.1 = pl then (q.2, 0) else clsG pl _ l).2
    rw [if_neg e]
    exact clsG_bd pl l _ (metF_bd hb (by show 0 < ((pl - q.1).natAbs : Int); omega)) fun r hr => hn r (by simp [hr])
theorem classF_sz {l : List (Int × Int)} {pl : Int} (hn : Near pl l) (hl : l.length ≤ 30) : Sm 3301 (classF l pl).2 := Sm.mono (clsG_sz pl l (0, 1) 1 (by decide) (by unfold Sm; decide) hn) (by omega)
theorem classF_bd {l : List (Int × Int)} {pl : Int} (hn : ∀ q ∈ l, q.1 ≠ pl) : 0 ≤ (classF l pl).1 ∧ (classF l pl).1 < (classF l pl).2 := clsG_bd pl l (0, 1) (by decide) hn
theorem div_pos' {a m : Int} (h : 0 < a) (d : a ∣ m) (hm : 0 < m) : 0 < m / a := Int.ediv_pos_of_pos_of_dvd hm (by omega) d
theorem lcm_mul (a b : Int) : (lcmN [a, b]) ≤ a.natAbs * b.natAbs := by
  show Nat.lcm (Nat.lcm 1 a.natAbs) b.natAbs ≤ _
  rw [Nat.lcm_one_left]
  exact lcm_le _ _
theorem part_sm {l : List Int} (hl : l.length ≤ 3) (hs : ∀ s ∈ l, 0 < s ∧ Sm 1819 s) : ∀ s ∈ l, 0 < (lcmN l : Int) / s ∧ Sm 3638 ((lcmN l : Int) / s) := fun s hm => by
  have p := (hs s hm).1
  have d : s ∣ (lcmN l : Int) := Int.dvd_trans Int.dvd_natAbs_self (Int.natCast_dvd_natCast.mpr (dvd_lcmN hm))
  have lp : 0 < (lcmN l : Int) := by
    have := lcmN_pos (ns := l) fun n hn => by have := (hs n hn).1; omega
    omega
  refine ⟨div_pos' p d lp, ?_⟩
  have key : ∃ t : Int, 0 ≤ t ∧ Sm 3638 t ∧ (lcmN l : Int) ≤ s * t := by
    match l, hl, hs, hm with
    | [a], _, hs, hm =>
      have ha := hs a (by simp)
      have e : s = a := by simpa using hm
      refine ⟨1, by decide, Sm.mono (k := 1) (by unfold Sm; decide) (by decide), ?_⟩
      show ((Nat.lcm 1 a.natAbs : Nat) : Int) ≤ _
      rw [Nat.lcm_one_left, e]
      omega
    | [a, b], _, hs, hm =>
      have ha := hs a (by simp)
      have hb := hs b (by simp)
      have h1 := lcm_mul a b
      have h2 : ((a.natAbs * b.natAbs : Nat) : Int) = a * b := by rw [Int.natCast_mul]; congr 1 <;> omega
      have e : s = a ∨ s = b := by simpa using hm
      rcases e with rfl | rfl
      · exact ⟨b, by omega, hb.2.mono (by decide), by omega⟩
      · exact ⟨a, by omega, ha.2.mono (by decide), by rw [Int.mul_comm]; omega⟩
    | [a, b, c], _, hs, hm =>
      have ha := hs a (by simp)
      have hb := hs b (by simp)
      have hc := hs c (by simp)
      have h1 : lcmN [a, b, c] ≤ lcmN [a, b] * c.natAbs := lcm_le _ _
      have h0 := lcm_mul a b
      have h2 : lcmN [a, b, c] ≤ a.natAbs * b.natAbs * c.natAbs := Nat.le_trans h1 (Nat.mul_le_mul_right _ h0)
      have h3 : ((a.natAbs * b.natAbs * c.natAbs : Nat) : Int) = a * b * c := by
        rw [Int.natCast_mul, Int.natCast_mul]
        congr 1
        · congr 1 <;> omega
        · omega
      have h4 : (lcmN [a, b, c] : Int) ≤ a * b * c := by omega
      have e : s = a ∨ s = b ∨ s = c := by simpa using hm
      rcases e with rfl | rfl | rfl
      · exact ⟨b * c, Int.mul_nonneg (by omega) (by omega), hb.2.mul hc.2, by rw [← Int.mul_assoc]; exact h4⟩
      · exact ⟨a * c, Int.mul_nonneg (by omega) (by omega), ha.2.mul hc.2, by rw [← Int.mul_assoc, Int.mul_comm s a]; exact h4⟩
      · exact ⟨a * b, Int.mul_nonneg (by omega) (by omega), ha.2.mul hb.2, by rw [Int.mul_comm]; exact h4⟩
    | [], _, _, hm => simp at hm
    | _ :: _ :: _ :: _ :: _, h, _, _ => simp at h
  obtain ⟨t, t0, ts, ht⟩ := key
  have h5 : (lcmN l : Int) / s ≤ s * t / s := Int.ediv_le_ediv p ht
  rw [Int.mul_ediv_cancel_left _ (by omega)] at h5
  exact sm_le ts (Int.le_of_lt (div_pos' p d lp)) h5
theorem later_sm {l : List Int} (hl : l.length ≤ 3) (hs : ∀ s ∈ l, 0 < s ∧ Sm 1819 s) (k : Nat) : 0 < countF (l.drop (k + 1)) (lcmN l : Int) ∧ Sm 7280 (countF (l.drop (k + 1)) (lcmN l : Int)) := by
  have hp := part_sm hl hs
  have hm : ∀ s ∈ l.drop (k + 1), s ∈ l := fun s h => List.mem_of_mem_drop h
  have hd : (l.drop (k + 1)).length ≤ 2 := by rw [List.length_drop]; omega
  generalize l.drop (k + 1) = r at *
  match r, hd with
  | [], _ =>
    show 0 < (1 : Int) ∧ Sm 7280 1
    exact ⟨by decide, Sm.mono (k := 1) (by unfold Sm; decide) (by decide)⟩
  | [a], _ =>
    have h1 := hp a (hm a (by simp))
    show 0 < 1 * _ ∧ Sm 7280 (1 * _)
    rw [Int.one_mul]
    exact ⟨h1.1, h1.2.mono (by decide)⟩
  | [a, b], _ =>
    have h1 := hp a (hm a (by simp))
    have h2 := hp b (hm b (by simp))
    show 0 < 1 * _ * _ ∧ Sm 7280 (1 * _ * _)
    rw [Int.one_mul]
    exact ⟨Int.mul_pos h1.1 h2.1, (h1.2.mul h2.2).mono (by decide)⟩
  | _ :: _ :: _ :: _, h => simp at h
theorem Fr.later {b : List (Int × Int)} {ps : List Int} (h : Fr b ps) (k : Nat) : 0 < countF ((stepsF b ps).drop (k + 1)) (sizeF b ps) ∧ Sm 7280 (countF ((stepsF b ps).drop (k + 1)) (sizeF b ps)) :=
  later_sm (by rw [stepsF_len]; exact h.n3) h.steps k
theorem Fr.apart {b : List (Int × Int)} {ps vs : List Int} (h : Fr b ps) {q : Int × Nat} (hq : q ∈ ps.zipIdx) : ∀ r ∈ b ++ (ps.take q.2).zip vs, r.1 ≠ q.1 := fun r hr e => by
  refine h.ne hq r.1 ?_ (by omega)
  rcases List.mem_append.mp hr with h1 | h1
  · exact List.mem_append_left _ (List.mem_map.mpr ⟨r, h1, rfl⟩)
  · exact List.mem_append_right _ (List.of_mem_zip h1).1
theorem ilen {b : List (Int × Int)} {ps vs : List Int} (h1 : b.length ≤ 16) (h2 : ps.length ≤ 3) : (b ++ ps.zip vs).length ≤ 30 := by
  rw [List.length_append, List.length_zip]
  omega
theorem Fr.nearT {b : List (Int × Int)} {ps vs : List Int} (h : Fr b ps) {p : Int} (hp : p ∈ ps) (k : Nat) : Near p (b ++ (ps.take k).zip vs) := fun q hq => by
  have r := h.rg p hp
  have r2 : -1000000000000000000000000000000 ≤ q.1 ∧ q.1 ≤ 1000000000000000000000000000000 := by
    rcases List.mem_append.mp hq with h1 | h1
    · exact (h.bk.rng q h1).1
    · exact h.rg _ (List.mem_of_mem_take (List.of_mem_zip h1).1)
  exact sm_lit ⟨by omega, by omega⟩
theorem nth_snoc {b : List (Int × Int)} {ps steps : List Int} {size : Int} {pr : List (Int × Nat)} {q : Int × Nat} {s : List Int × Int} : (pr ++ [q]).foldl (nthS b ps steps size) s = nthS b ps steps size (pr.foldl (nthS b ps steps size) s) q := by rw [List.foldl_append]; rfl
theorem ep_items {ta tb tc : TE} {G : Gm} {b : List (Int × Int)} {ps vs : List Int} (h1 : Ep ta G (bkD b)) (h2 : Ep tb G (iD ps)) (h3 : Ep tc G (iD vs)) (hl : b.length + ps.length ≤ 100000) : Ep (tOp rCat ta (tCB rListZip (tCons tb (tCons tc tNil)))) G (bkD (b ++ ps.zip vs)) := by
  rw [bk_app, ← zip_prD]
  refine ep_new (en_op h1 (ep_new (en_listZip (ea_cons h2 (ea_cons h3 ea_nil)))) (on_cat ?_))
  rw [zip_prD, List.length_map, List.length_map, List.length_zip]
  omega

/-! ### nth_filling -/
abbrev N_nth_filling : List Str := ["book", "places", "size", "index", "steps", "found", "rest", "number", "place", "later", "rounds", "least", "step"]
theorem sc_nth_filling : FnScope N_nth_filling ["book", "places", "size", "index"] (defScope s_nth_filling) := ⟨rfl, rfl, rfl, by decide +kernel, rfl, by decide +kernel, by decide +kernel⟩
def sp_nth_filling : Sp := SpP (α := (List (Int × Int)) × (List Int) × Int × Int) (fun x => (Fr x.1 x.2.1 ∧ x.2.2.1 = sizeF x.1 x.2.1) ∧ 0 ≤ x.2.2.2 ∧ x.2.2.2 < countF (stepsF x.1 x.2.1) (sizeF x.1 x.2.1)) (fun x => [bkD x.1, iD x.2.1, .int x.2.2.1, .int x.2.2.2]) (fun x => iD (nthF x.1 x.2.1 (sizeF x.1 x.2.1) x.2.2.2))
theorem ev_nth_filling {tr : TA} {G : Gm} {b : List (Int × Int)} {ps : List Int} {m k : Int} (h : Ea tr G [bkD b, iD ps, .int m, .int k]) (c : (Fr b ps ∧ m = sizeF b ps) ∧ 0 ≤ k ∧ k < countF (stepsF b ps) (sizeF b ps)) : Ep (tCall sp_nth_filling [] C8.E0 tr) G (iD (nthF b ps (sizeF b ps) k)) := ep_call (α := (List (Int × Int)) × (List Int) × Int × Int) (b, ps, m, k) h rfl c
local macro_rules | `(tactic| walk_at "ev") => `(tactic| (with_reducible apply ev_nth_filling) <;> walk_at "ev")
theorem cal_nth_filling {P : Program} {w : World} {K : PySem.W.Frag} {mg : Str → Option Value} {base : Heap} (T : Txt K mg) : Cal P w K mg base 8 "nth_filling" sp_nth_filling [] := by
  obtain ⟨fd, F⟩ := T.c.def_ 35 (d := d_nth_filling) rfl
  refine ⟨⟨_, fd, ["book", "places", "size", "index"], [], ?_, T.glo 35, F.kp, F.bindsN (fun _ _ _ _ _ _ us hl => match us, hl with | [_, _, _, _], _ => rfl), .nil⟩⟩
  refine F.ok sc_nth_filling (fun vs H Q E h => len_of (α := (List (Int × Int)) × (List Int) × Int × Int) (C := fun x => (Fr x.1 x.2.1 ∧ x.2.2.1 = sizeF x.1 x.2.1) ∧ 0 ≤ x.2.2.2 ∧ x.2.2.2 < countF (stepsF x.1 x.2.1) (sizeF x.1 x.2.1)) (pre := fun x => [bkD x.1, iD x.2.1, .int x.2.2.1, .int x.2.2.2]) (post := fun x => iD (nthF x.1 x.2.1 (sizeF x.1 x.2.1) x.2.2.2)) (p := 4) (fun _ => rfl) vs H Q E h) (fun cdv A outer s H vs Q E hr h => ?_)
  refine ⟨_, PSs.nox (pss_cons (ps_expr (pe_c (cal_need_size T) hr (by decide) rfl (pa_cons (pv 0) (pa_cons (pv 1) (pa_cons (pv 2) pa_nil)))))
      (pss_cons (ps_set (i := 4) sc_nth_filling.nd rfl (Or.inl rfl) (pe_c (cal_steps_in T) hr (by decide) rfl (pa_cons (pv 0) (pa_cons (pv 1) pa_nil))))
      (pss_cons (ps_if (pt_not (pt_chain op_le op_lt pe_int (pv 3) (pe_c (cal_count_in T) hr (by decide) rfl (pa_cons (pv 4) (pa_cons (pv 2) pa_nil))))) pss_never pss_nil)
      (pss_cons (ps_par (i := 5) (j := 6) rfl sc_nth_filling.nd rfl rfl (by decide) rfl rfl (pa_cons (pe_lst pa_nil) (pa_cons (pv 3) pa_nil)) rfl)
      (pss_cons (ps_for PassesOwn.never rfl (pi_enum rfl (free_enumerate T) (pa_cons (pv 1) pa_nil)) (pgT (K := K) (n := 2) rfl (pgs_cons (pg_name (i := 7) sc_nth_filling.nd rfl (Or.inl rfl)) (pgs_cons (pg_name (i := 8) sc_nth_filling.nd rfl (Or.inl rfl)) pgs_nil))) (pss_cons (ps_set (i := 9) sc_nth_filling.nd rfl (Or.inl rfl) (pe_c (cal_count_in T) hr (by decide) rfl (pa_cons (pe_slice (slL (K := K)) (pv 4) (po_some (pe_op op_add (pv 7) pe_int)) po_none) (pa_cons (pv 2) pa_nil))))
      (pss_cons (ps_par (i := 10) (j := 6) rfl sc_nth_filling.nd rfl rfl (by decide) rfl rfl (pa_cons (pe_op op_fdivW (pv 6) (pv 9)) (pa_cons (pe_op op_mod (pv 6) (pv 9)) pa_nil)) rfl)
      (pss_cons (ps_asg (pe_c (cal_class_by T) hr (by decide) rfl (pa_cons (pe_op op_cat (pv 0) (pe_listZip rfl rfl (free_list T) rfl (free_zip T) (pa_cons (pv 1) (pa_cons (pv 5) pa_nil)))) (pa_cons (pv 8) pa_nil))) (pgT (K := K) (n := 2) rfl (pgs_cons (pg_name (i := 11) sc_nth_filling.nd rfl (Or.inl rfl)) (pgs_cons (pg_name (i := 12) sc_nth_filling.nd rfl (Or.inl rfl)) pgs_nil))))
      (pss_one (ps_expr (pe_bm PySem.F.plainAttrs_list PySem.F.slot_list_append PySem.F.type_list_append mt_append (pv 5) (pa_cons (pe_op op_add (pv 11) (pe_op op_mulW (pv 12) (pv 10))) pa_nil))))))))
      (pss_one (ps_ret (pv 5)))))))), ?_⟩
  refine rd_of (α := (List (Int × Int)) × (List Int) × Int × Int) (C := fun x => (Fr x.1 x.2.1 ∧ x.2.2.1 = sizeF x.1 x.2.1) ∧ 0 ≤ x.2.2.2 ∧ x.2.2.2 < countF (stepsF x.1 x.2.1) (sizeF x.1 x.2.1)) (pre := fun x => [bkD x.1, iD x.2.1, .int x.2.2.1, .int x.2.2.2]) (post := fun x => iD (nthF x.1 x.2.1 (sizeF x.1 x.2.1) x.2.2.2)) (p := 4) (N := N_nth_filling) (fun _ => rfl) ?rd vs H Q E h
  case rd =>
    rintro ⟨b, ps, m, k⟩ ⟨⟨h, e⟩, k0, k1⟩
    show Sx _ [some (.fro (bkD b)), some (.fro (iD ps)), some (.fro (.int m)), some (.fro (.int k)), none, none, none, none, none, none, none, none, none] 0 _ _
    have h : Fr b ps := h
    have e : m = sizeF b ps := e
    have k0 : 0 ≤ k := k0
    have k1 : k < countF (stepsF b ps) (sizeF b ps) := k1
    subst e
    have n3 : ps.length ≤ 3 := h.n3
    have bl : b.length ≤ 16 := h.bl
    have ksm : Sm 16378 k := sm_le ((count_sm h.size.2 (stepsF b ps)).mono (by rw [stepsF_len]; omega)) k0 (Int.le_of_lt k1)
    refine sx_then (sx_drop (d := .none) (by walk_at "ev"; exact ⟨h, rfl⟩) ⟨rfl, rfl⟩) ?_
    refine sx_then (sx_asg (d := iD (stepsF b ps)) (by walk_at "ev"; exact h) ⟨rfl, rfl⟩) ?_
    refine sx_seq (M := fun G n' => G = [some (.fro (bkD b)), some (.fro (iD ps)), some (.fro (.int (sizeF b ps))), some (.fro (.int k)), some (.fro (iD (stepsF b ps))), none, none, none, none, none, none, none, none]) ?_ ?_
    · refine sx_if (b := !(decide (0 ≤ k) && decide (k < countF (stepsF b ps) (sizeF b ps)))) ?_ (fun z => ?_) (fun _ => sx_next rfl)
      · walk_at "ev"
        exact h.cnt (fun s k => k) (by rw [stepsF_len]; exact h.n3)
      · rw [decide_eq_true k0, decide_eq_true k1] at z
        cases z
    · rintro G n' rfl
      refine sx_then (G1 := [some (.fro (bkD b)), some (.fro (iD ps)), some (.fro (.int (sizeF b ps))), some (.fro (.int k)), some (.fro (iD (stepsF b ps))), some (.own []), some (.fro (.int k)), none, none, none, none, none, none]) (sx_parN (xs := []) (en_lst ea_nil (by decide)) (by walk_at "ev") ⟨rfl, rfl⟩) ?_
      refine sx_seq (M := fun G n' => ∃ r a1 a2 a3 a4 a5 a6, G = [some (.fro (bkD b)), some (.fro (iD ps)), some (.fro (.int (sizeF b ps))), some (.fro (.int k)), some (.fro (iD (stepsF b ps))), some (.own ((nthF b ps (sizeF b ps) k).map PyData.int)), r, a1, a2, a3, a4, a5, a6]) ?_ ?_
      · refine sx_forP ps.zipIdx (fun q => .tuple [.int ((q.2 : Nat) : Int), .int q.1]) (fun pr G n' => ∃ (vs : List Int) (r : Int) (a1 a2 a3 a4 a5 a6 : Option B), pr.foldl (nthS b ps (stepsF b ps) (sizeF b ps)) ([], k) = (vs, r) ∧ vs.length = pr.length ∧ 0 ≤ r ∧ r ≤ k ∧
          G = [some (.fro (bkD b)), some (.fro (iD ps)), some (.fro (.int (sizeF b ps))), some (.fro (.int k)), some (.fro (iD (stepsF b ps))), some (.own (vs.map PyData.int)), some (.fro (.int r)), a1, a2, a3, a4, a5, a6]) ?_ ⟨[], k, none, none, none, none, none, none, rfl, rfl, k0, Int.le_refl k, rfl⟩ ?_ ?_
        · rw [← enumD_map (fun (x : Int) => PyData.int x) ps 0]
          exact es_enum (by walk_at "ev")
        · rintro pr q po G n' e0 ⟨vs, r, a1, a2, a3, a4, a5, a6, e1, el, r0, rk, rfl⟩
          have hq : q ∈ ps.zipIdx := by rw [e0]; simp
          have hpl : pr.length ≤ 3 := by
            have := congrArg List.length e0
            rw [List.length_zipIdx, List.length_append, List.length_cons] at this
            omega
          have hlt := h.later q.2
          generalize hL : countF ((stepsF b ps).drop (q.2 + 1)) (sizeF b ps) = L at *
          have hnr := h.near (vs := vs) (h.mem hq)
          have hil := ilen (vs := vs) bl n3
          generalize hc : classF (b ++ ps.zip vs) q.1 = c at *
          have csz : Sm 3301 c.2 := by rw [← hc]; exact classF_sz hnr hil
          refine ⟨_, _, tg_two, ?_⟩
          show Sx _ [some (.fro (bkD b)), some (.fro (iD ps)), some (.fro (.int (sizeF b ps))), some (.fro (.int k)), some (.fro (iD (stepsF b ps))), some (.own (vs.map PyData.int)), some (.fro (.int r)), some (.fro (.int ((q.2 : Nat) : Int))), some (.fro (.int q.1)), a3, a4, a5, a6] _ _ _
          refine sx_then (G1 := [some (.fro (bkD b)), some (.fro (iD ps)), some (.fro (.int (sizeF b ps))), some (.fro (.int k)), some (.fro (iD (stepsF b ps))), some (.own (vs.map PyData.int)), some (.fro (.int r)), some (.fro (.int ((q.2 : Nat) : Int))), some (.fro (.int q.1)), some (.fro (.int L)), a4, a5, a6]) (sx_asg (d := .int L) ?_ ⟨rfl, rfl⟩) ?_
          · rw [← hL]
            refine ev_count_in (ea_cons (ep_new (xs := ((stepsF b ps).drop (q.2 + 1)).map PyData.int) ?_) (ea_cons (by walk_at "ev") ea_nil)) (h.cnt (fun s k => List.mem_of_mem_drop k) (by rw [List.length_drop, stepsF_len]; omega))
            rw [List.map_drop, ← cut_from]
            exact en_slice (by walk_at "ev") (eo_part (ep_op (ep_var rfl) ep_int od_i)) eo_no
          refine sx_then (G1 := [some (.fro (bkD b)), some (.fro (iD ps)), some (.fro (.int (sizeF b ps))), some (.fro (.int k)), some (.fro (iD (stepsF b ps))), some (.own (vs.map PyData.int)), some (.fro (.int (r % L))), some (.fro (.int ((q.2 : Nat) : Int))), some (.fro (.int q.1)), some (.fro (.int L)), some (.fro (.int (r / L))), a5, a6]) (sx_par (a := .int (r / L)) (c := .int (r % L)) ?_ ⟨rfl, rfl⟩) ?_
          · walk_at "ev"
            · exact Sm.cdiv hlt.2 hlt.1 (by omega)
            · exact hlt.1
          refine sx_then (G1 := [some (.fro (bkD b)), some (.fro (iD ps)), some (.fro (.int (sizeF b ps))), some (.fro (.int k)), some (.fro (iD (stepsF b ps))), some (.own (vs.map PyData.int)), some (.fro (.int (r % L))), some (.fro (.int ((q.2 : Nat) : Int))), some (.fro (.int q.1)), some (.fro (.int L)), some (.fro (.int (r / L))), some (.fro (.int c.1)), some (.fro (.int c.2))]) (sx_two (a := .int c.1) (c := .int c.2) ?_ rfl rfl ⟨rfl, rfl⟩) ?_
          · show Ep _ _ (prD c)
            rw [← hc]
            exact ev_class_by (ea_cons (ep_items (ep_var rfl) (ep_var rfl) (ep_var rfl) (by omega)) (ea_cons (ep_var rfl) ea_nil)) ⟨by omega, hnr⟩
          have e2 : (vs ++ [c.1 + c.2 * (r / L)]).map PyData.int = vs.map PyData.int ++ [.int (c.1 + c.2 * (r / L))] := by rw [List.map_append]; rfl
          have q0 : 0 ≤ r / L := Int.ediv_nonneg r0 (by omega)
          have q1 : r / L ≤ r := Int.ediv_le_self _ r0
          refine sx_app (xs := vs.map PyData.int) (d := .int (c.1 + c.2 * (r / L))) rfl ?_ (by rw [List.length_map]; omega) ⟨vs ++ [c.1 + c.2 * (r / L)], r % L, _, _, _, _, _, _, ?_, ?_, Int.emod_nonneg _ (by omega), ?_, by rw [e2]; rfl⟩
          · walk_at "ev"
            exact Sm.cmul csz (sm_le ksm q0 (by omega)) (by omega)
          · rw [nth_snoc, e1]
            unfold nthS
            rw [hL, hc]
          · rw [List.length_append, List.length_append, el]
            rfl
          · have z1 := Int.mul_ediv_add_emod r L
            have z2 : 0 ≤ L * (r / L) := Int.mul_nonneg (Int.le_of_lt hlt.1) q0
            omega
        · rintro G n' ⟨vs, r, a1, a2, a3, a4, a5, a6, e1, _, _, _, rfl⟩
          exact ⟨some (.fro (.int r)), a1, a2, a3, a4, a5, a6, by unfold nthF; rw [e1]⟩
      · rintro G n' ⟨r, a1, a2, a3, a4, a5, a6, rfl⟩
        exact sx_ret (d := iD (nthF b ps (sizeF b ps) k)) (ep_var rfl) rfl
theorem idx_snoc {b : List (Int × Int)} {ps steps : List Int} {size : Int} {vs : List Int} {pr : List (Int × Nat)} {q : Int × Nat} {s : Int} : (pr ++ [q]).foldl (idxS b ps steps size vs) s = idxS b ps steps size vs (pr.foldl (idxS b ps steps size vs) s) q := by rw [List.foldl_append]; rfl
theorem getI {l : List Int} {k : Nat} (h : k < l.length) : atI (l.map PyData.int) ((k : Nat) : Int) = some (.int (l.getD k 0)) := by
  refine atI_nat ?_
  rw [List.getElem?_map, List.getElem?_eq_getElem h, List.getD_eq_getElem?_getD, List.getElem?_eq_getElem h]
  rfl
theorem getI_mem {l : List Int} {k : Nat} (h : k < l.length) : l.getD k 0 ∈ l := by
  rw [List.getD_eq_getElem?_getD, List.getElem?_eq_getElem h]
  exact List.getElem_mem h

/-! ### index_in -/
abbrev N_index_in : List Str := ["book", "places", "steps", "size", "values", "found", "number", "place", "least", "step", "value"]
theorem sc_index_in : FnScope N_index_in ["book", "places", "steps", "size", "values"] (defScope s_index_in) := ⟨rfl, rfl, rfl, by decide +kernel, rfl, by decide +kernel, by decide +kernel⟩
def sp_index_in : Sp := SpP (α := (List (Int × Int)) × (List Int) × (List Int) × Int × (List Int)) (fun x => (Fr x.1 x.2.1 ∧ x.2.2.1 = stepsF x.1 x.2.1 ∧ x.2.2.2.1 = sizeF x.1 x.2.1) ∧ OkV x.1 x.2.1 (sizeF x.1 x.2.1) x.2.2.2.2) (fun x => [bkD x.1, iD x.2.1, iD x.2.2.1, .int x.2.2.2.1, iD x.2.2.2.2]) (fun x => .int (idxF x.1 x.2.1 (sizeF x.1 x.2.1) x.2.2.2.2))
theorem ev_index_in {tr : TA} {G : Gm} {b : List (Int × Int)} {ps st vs : List Int} {m : Int} (h : Ea tr G [bkD b, iD ps, iD st, .int m, iD vs]) (c : (Fr b ps ∧ st = stepsF b ps ∧ m = sizeF b ps) ∧ OkV b ps (sizeF b ps) vs) : Ep (tCall sp_index_in [] C8.E0 tr) G (.int (idxF b ps (sizeF b ps) vs)) := ep_call (α := (List (Int × Int)) × (List Int) × (List Int) × Int × (List Int)) (b, ps, st, m, vs) h rfl c
local macro_rules | `(tactic| walk_at "ev") => `(tactic| (with_reducible apply ev_index_in) <;> walk_at "ev")
theorem cal_index_in {P : Program} {w : World} {K : PySem.W.Frag} {mg : Str → Option Value} {base : Heap} (T : Txt K mg) : Cal P w K mg base 4 "index_in" sp_index_in [] := by
  obtain ⟨fd, F⟩ := T.c.def_ 36 (d := d_index_in) rfl
  refine ⟨⟨_, fd, ["book", "places", "steps", "size", "values"], [], ?_, T.glo 36, F.kp, F.bindsN (fun _ _ _ _ _ _ us hl => match us, hl with | [_, _, _, _, _], _ => rfl), .nil⟩⟩
  refine F.ok sc_index_in (fun vs H Q E h => len_of (α := (List (Int × Int)) × (List Int) × (List Int) × Int × (List Int)) (C := fun x => (Fr x.1 x.2.1 ∧ x.2.2.1 = stepsF x.1 x.2.1 ∧ x.2.2.2.1 = sizeF x.1 x.2.1) ∧ OkV x.1 x.2.1 (sizeF x.1 x.2.1) x.2.2.2.2) (pre := fun x => [bkD x.1, iD x.2.1, iD x.2.2.1, .int x.2.2.2.1, iD x.2.2.2.2]) (post := fun x => .int (idxF x.1 x.2.1 (sizeF x.1 x.2.1) x.2.2.2.2)) (p := 5) (fun _ => rfl) vs H Q E h) (fun cdv A outer s H vs Q E hr h => ?_)
  refine ⟨_, PSs.nox (pss_cons (ps_set (i := 5) sc_index_in.nd rfl (Or.inl rfl) pe_int)
      (pss_cons (ps_for PassesOwn.never rfl (pi_enum rfl (free_enumerate T) (pa_cons (pv 1) pa_nil)) (pgT (K := K) (n := 2) rfl (pgs_cons (pg_name (i := 6) sc_index_in.nd rfl (Or.inl rfl)) (pgs_cons (pg_name (i := 7) sc_index_in.nd rfl (Or.inl rfl)) pgs_nil))) (pss_cons (ps_asg (pe_c (cal_class_by T) hr (by decide) rfl (pa_cons (pe_op op_cat (pv 0) (pe_listZip rfl rfl (free_list T) rfl (free_zip T) (pa_cons (pe_slice (slL (K := K)) (pv 1) po_none (po_some (pv 6))) (pa_cons (pv 4) pa_nil)))) (pa_cons (pv 7) pa_nil))) (pgT (K := K) (n := 2) rfl (pgs_cons (pg_name (i := 8) sc_index_in.nd rfl (Or.inl rfl)) (pgs_cons (pg_name (i := 9) sc_index_in.nd rfl (Or.inl rfl)) pgs_nil))))
      (pss_cons (ps_set (i := 10) sc_index_in.nd rfl (Or.inl rfl) (pe_ix (ixL (K := K)) (pv 4) (pv 6) (fun _ _ => rfl)))
      (pss_cons (ps_if (PW.pt (pw_or (pt_not (pt_chain op_le op_lt pe_int (pv 10) (pv 3))) (pw_or1 (pt_cmpR op_ne (pe_op op_mod (pe_op op_sub (pv 10) (pv 8)) (pv 9)) pe_int (nomark _))))) (pss_one (ps_ret pe_non)) pss_nil)
      (pss_one (ps_set (i := 5) sc_index_in.nd rfl (Or.inl rfl) (pe_op op_add (pe_op op_mulW (pv 5) (pe_op op_fdivW (pv 3) (pe_ix (ixL (K := K)) (pv 2) (pv 6) (fun _ _ => rfl)))) (pe_op op_fdivW (pe_op op_sub (pv 10) (pv 8)) (pv 9)))))))))
      (pss_one (ps_ret (pv 5))))), ?_⟩
  refine rd_of (α := (List (Int × Int)) × (List Int) × (List Int) × Int × (List Int)) (C := fun x => (Fr x.1 x.2.1 ∧ x.2.2.1 = stepsF x.1 x.2.1 ∧ x.2.2.2.1 = sizeF x.1 x.2.1) ∧ OkV x.1 x.2.1 (sizeF x.1 x.2.1) x.2.2.2.2) (pre := fun x => [bkD x.1, iD x.2.1, iD x.2.2.1, .int x.2.2.2.1, iD x.2.2.2.2]) (post := fun x => .int (idxF x.1 x.2.1 (sizeF x.1 x.2.1) x.2.2.2.2)) (p := 5) (N := N_index_in) (fun _ => rfl) ?rd vs H Q E h
  case rd =>
    rintro ⟨b, ps, st, m, vs⟩ hh
    show Sx _ [some (.fro (bkD b)), some (.fro (iD ps)), some (.fro (iD st)), some (.fro (.int m)), some (.fro (iD vs)), none, none, none, none, none, none] 0 _ _
    replace hh : (Fr b ps ∧ st = stepsF b ps ∧ m = sizeF b ps) ∧ OkV b ps (sizeF b ps) vs := hh
    obtain ⟨⟨h, rfl, rfl⟩, ok⟩ := hh
    have n3 : ps.length ≤ 3 := h.n3
    have bl : b.length ≤ 16 := h.bl
    have vl : vs.length = ps.length := ok.1
    refine sx_then (G1 := [some (.fro (bkD b)), some (.fro (iD ps)), some (.fro (iD (stepsF b ps))), some (.fro (.int (sizeF b ps))), some (.fro (iD vs)), some (.fro (.int 0)), none, none, none, none, none]) (sx_asg (d := .int 0) (by walk_at "ev") ⟨rfl, rfl⟩) ?_
    refine sx_seq (M := fun G n' => ∃ a1 a2 a3 a4 a5, G = [some (.fro (bkD b)), some (.fro (iD ps)), some (.fro (iD (stepsF b ps))), some (.fro (.int (sizeF b ps))), some (.fro (iD vs)), some (.fro (.int (idxF b ps (sizeF b ps) vs))), a1, a2, a3, a4, a5]) ?_ ?_
    · refine sx_forP ps.zipIdx (fun q => .tuple [.int ((q.2 : Nat) : Int), .int q.1]) (fun pr G n' => ∃ (f : Int) (a1 a2 a3 a4 a5 : Option B), pr.foldl (idxS b ps (stepsF b ps) (sizeF b ps) vs) 0 = f ∧ Sm (6000 * pr.length + 1) f ∧
          G = [some (.fro (bkD b)), some (.fro (iD ps)), some (.fro (iD (stepsF b ps))), some (.fro (.int (sizeF b ps))), some (.fro (iD vs)), some (.fro (.int f)), a1, a2, a3, a4, a5]) ?_ ⟨0, none, none, none, none, none, rfl, by unfold Sm; decide, rfl⟩ ?_ ?_
      · rw [← enumD_map (fun (x : Int) => PyData.int x) ps 0]
        exact es_enum (by walk_at "ev")
      · rintro pr q po G n' e0 ⟨f, a1, a2, a3, a4, a5, e1, fs, rfl⟩
        have hq : q ∈ ps.zipIdx := by rw [e0]; simp
        have hpl : pr.length ≤ 3 := by
          have := congrArg List.length e0
          rw [List.length_zipIdx, List.length_append, List.length_cons] at this
          omega
        have hq2 : q.2 < ps.length := (List.getElem?_eq_some_iff.mp (List.mem_zipIdx_iff_getElem?.mp hq)).1
        have hst := h.steps _ (getI_mem (l := stepsF b ps) (k := q.2) (by rw [stepsF_len]; exact hq2))
        have hv := ok.2 q hq
        have hnr := h.nearT (vs := vs) (h.mem hq) q.2
        have hap := h.apart (vs := vs) hq
        have hil : (b ++ (ps.take q.2).zip vs).length ≤ 30 := ilen bl (by rw [List.length_take]; omega)
        have hbd := classF_bd hap
        have csz := classF_sz hnr hil
        have hc : idxC b ps vs q = classF (b ++ (ps.take q.2).zip vs) q.1 := rfl
        rw [← hc] at hbd csz
        generalize hcc : idxC b ps vs q = c at *
        generalize hvv : vs.getD q.2 0 = v at *
        generalize hss : (stepsF b ps).getD q.2 0 = s at *
        have vsm : Sm 5458 v := sm_le h.size.2 hv.1.1 (Int.le_of_lt hv.1.2)
        have lsm : Sm 5458 c.1 := (sm_le csz hbd.1 (Int.le_of_lt hbd.2)).mono (by decide)
        refine ⟨_, _, tg_two, ?_⟩
        show Sx _ [some (.fro (bkD b)), some (.fro (iD ps)), some (.fro (iD (stepsF b ps))), some (.fro (.int (sizeF b ps))), some (.fro (iD vs)), some (.fro (.int f)), some (.fro (.int ((q.2 : Nat) : Int))), some (.fro (.int q.1)), a3, a4, a5] _ _ _
        refine sx_then (G1 := [some (.fro (bkD b)), some (.fro (iD ps)), some (.fro (iD (stepsF b ps))), some (.fro (.int (sizeF b ps))), some (.fro (iD vs)), some (.fro (.int f)), some (.fro (.int ((q.2 : Nat) : Int))), some (.fro (.int q.1)), some (.fro (.int c.1)), some (.fro (.int c.2)), a5]) (sx_tgt (d := prD c) ?_ tg_two ⟨rfl, rfl⟩) ?_
        · rw [hc]
          refine ev_class_by (ea_cons (ep_items (ps := ps.take q.2) (ep_var rfl) (ep_new ?_) (ep_var rfl) (by rw [List.length_take]; omega)) (ea_cons (ep_var rfl) ea_nil)) ⟨by omega, hnr⟩
          rw [List.map_take, ← cut_to]
          exact en_slice (ep_var rfl) eo_no (eo_part (ep_var rfl))
        refine sx_then (G1 := [some (.fro (bkD b)), some (.fro (iD ps)), some (.fro (iD (stepsF b ps))), some (.fro (.int (sizeF b ps))), some (.fro (iD vs)), some (.fro (.int f)), some (.fro (.int ((q.2 : Nat) : Int))), some (.fro (.int q.1)), some (.fro (.int c.1)), some (.fro (.int c.2)), some (.fro (.int v))]) (sx_asg (d := .int v) ?_ ⟨rfl, rfl⟩) ?_
        · refine ep_op (ep_var rfl) (ep_var rfl) (od_ixL ?_)
          rw [← hvv]
          exact getI (by omega)
        refine sx_seq (M := fun G n' => G = [some (.fro (bkD b)), some (.fro (iD ps)), some (.fro (iD (stepsF b ps))), some (.fro (.int (sizeF b ps))), some (.fro (iD vs)), some (.fro (.int f)), some (.fro (.int ((q.2 : Nat) : Int))), some (.fro (.int q.1)), some (.fro (.int c.1)), some (.fro (.int c.2)), some (.fro (.int v))]) ?_ ?_
        · refine sx_if (b := !(decide (0 ≤ v) && decide (v < sizeF b ps)) || !decide ((v - c.1) % c.2 = 0)) ?_ (fun z => ?_) (fun _ => sx_next rfl)
          · walk_at "ev"
            show 0 < c.2
            omega
          · rw [decide_eq_true hv.1.1, decide_eq_true hv.1.2, decide_eq_true (Int.emod_eq_zero_of_dvd hv.2)] at z
            cases z
        · rintro G n' rfl
          have d1 : Sm 5460 ((v - c.1) / c.2) := (vsm.sub lsm).ediv
          have m1 : Sm (6000 * pr.length + 1 + 5459) (f * (sizeF b ps / s)) := fs.mul h.size.2.ediv
          refine sx_asg (d := .int (f * (sizeF b ps / s) + (v - c.1) / c.2)) ?_ ⟨f * (sizeF b ps / s) + (v - c.1) / c.2, _, _, _, _, _, ?_, ?_, rfl⟩
          · refine ep_op (ep_op (ep_var rfl) (ep_op (ep_var rfl) (ep_op (ep_var rfl) (ep_var rfl) (od_ixL (d := .int s) ?_)) (od_c ?_)) (od_c ?_)) (ep_op (ep_op (ep_var rfl) (ep_var rfl) od_i) (ep_var rfl) (od_c ?_)) od_i
            · rw [← hss]
              exact getI (by rw [stepsF_len]; exact hq2)
            · exact Sm.cdiv hst.2 hst.1 (by omega)
            · exact Sm.cmul fs h.size.2.ediv (by omega)
            · exact Sm.cdiv csz (by omega) (by omega)
          · rw [idx_snoc, e1]
            unfold idxS
            rw [hss, hvv, hcc]
          · rw [List.length_append, List.length_singleton]
            exact (Sm.add (m1.mono (l := 6000 * (pr.length + 1)) (by omega)) (d1.mono (by omega))).mono (by omega)
      · rintro G n' ⟨f, a1, a2, a3, a4, a5, e1, _, rfl⟩
        exact ⟨a1, a2, a3, a4, a5, by unfold idxF; rw [e1]⟩
    · rintro G n' ⟨a1, a2, a3, a4, a5, rfl⟩
      exact sx_ret (d := .int (idxF b ps (sizeF b ps) vs)) (ep_var rfl) rfl
/-! ### filling_index -/
abbrev N_filling_index : List Str := ["book", "places", "size", "values", "is_list", "found", "value"]
theorem sc_filling_index : FnScope N_filling_index ["book", "places", "size", "values"] (defScope s_filling_index) := ⟨rfl, rfl, rfl, by decide +kernel, rfl, by decide +kernel, by decide +kernel⟩
def sp_filling_index : Sp := SpP (α := (List (Int × Int)) × (List Int) × Int × (List Int)) (fun x => (Fr x.1 x.2.1 ∧ x.2.2.1 = sizeF x.1 x.2.1) ∧ OkV x.1 x.2.1 (sizeF x.1 x.2.1) x.2.2.2) (fun x => [bkD x.1, iD x.2.1, .int x.2.2.1, iD x.2.2.2]) (fun x => .int (idxF x.1 x.2.1 (sizeF x.1 x.2.1) x.2.2.2))
theorem ev_filling_index {tr : TA} {G : Gm} {b : List (Int × Int)} {ps vs : List Int} {m : Int} (h : Ea tr G [bkD b, iD ps, .int m, iD vs]) (c : (Fr b ps ∧ m = sizeF b ps) ∧ OkV b ps (sizeF b ps) vs) : Ep (tCall sp_filling_index [] C8.E0 tr) G (.int (idxF b ps (sizeF b ps) vs)) := ep_call (α := (List (Int × Int)) × (List Int) × Int × (List Int)) (b, ps, m, vs) h rfl c
local macro_rules | `(tactic| walk_at "ev") => `(tactic| (with_reducible apply ev_filling_index) <;> walk_at "ev")
theorem cal_filling_index {P : Program} {w : World} {K : PySem.W.Frag} {mg : Str → Option Value} {base : Heap} (T : Txt K mg) : Cal P w K mg base 8 "filling_index" sp_filling_index [] := by
  obtain ⟨fd, F⟩ := T.c.def_ 37 (d := d_filling_index) rfl
  refine ⟨⟨_, fd, ["book", "places", "size", "values"], [], ?_, T.glo 37, F.kp, F.bindsN (fun _ _ _ _ _ _ us hl => match us, hl with | [_, _, _, _], _ => rfl), .nil⟩⟩
  refine F.ok sc_filling_index (fun vs H Q E h => len_of (α := (List (Int × Int)) × (List Int) × Int × (List Int)) (C := fun x => (Fr x.1 x.2.1 ∧ x.2.2.1 = sizeF x.1 x.2.1) ∧ OkV x.1 x.2.1 (sizeF x.1 x.2.1) x.2.2.2) (pre := fun x => [bkD x.1, iD x.2.1, .int x.2.2.1, iD x.2.2.2]) (post := fun x => .int (idxF x.1 x.2.1 (sizeF x.1 x.2.1) x.2.2.2)) (p := 4) (fun _ => rfl) vs H Q E h) (fun cdv A outer s H vs Q E hr h => ?_)
  refine ⟨_, PSs.nox (pss_cons (ps_expr (pe_c (cal_need_size T) hr (by decide) rfl (pa_cons (pv 0) (pa_cons (pv 1) (pa_cons (pv 2) pa_nil)))))
      (pss_cons (ps_set (i := 4) sc_filling_index.nd rfl (Or.inl rfl) (pe_and (pe_callB (isiK (K := K)) rfl (free_isinstance T) bb_isinstance (pa_cons (pv 3) (pa_cons (pe_bltn (v := .ty "list") rfl (free_list T) bb_list rfl) pa_nil))) (pe_one (pe_cmpR op_eq (pe_callB (lenK (K := K)) rfl (free_len T) bb_len (pa_cons (pv 3) pa_nil)) (pe_callB (lenK (K := K)) rfl (free_len T) bb_len (pa_cons (pv 1) pa_nil)) (nomark _)))))
      (pss_cons (ps_if (PW.pt (pw_or (pt_not (pt_val (pv 4))) (pw_or1 (pt_not (pt_val (pe_callB (allK (K := K) rfl) rfl (free_all T) bb_all (pa_cons (pe_lc (own := [("value", 6)]) rfl sc_filling_index.nd (piL (K := K) (pv 3)) (blkOk_by (N := N_filling_index) (sc := defScope s_filling_index) (by decide +kernel)) (fun _ _ _ _ _ => (pg_name (i := 6) sc_filling_index.nd rfl (Or.inl rfl))) (fun _ _ _ _ _ => pts_nil) (fun _ _ _ _ _ => (pe_c (cal_is_integer T) hr (by decide) rfl (pa_cons (pv 6) pa_nil)))) pa_nil))))))) pss_never pss_nil)
      (pss_cons (ps_set (i := 5) sc_filling_index.nd rfl (Or.inl rfl) (pe_c (cal_index_in T) hr (by decide) rfl (pa_cons (pv 0) (pa_cons (pv 1) (pa_cons (pe_c (cal_steps_in T) hr (by decide) rfl (pa_cons (pv 0) (pa_cons (pv 1) pa_nil))) (pa_cons (pv 2) (pa_cons (pv 3) pa_nil)))))))
      (pss_cons (ps_if (pt_cmpR op_isN (pv 5) pe_non (nomark _)) pss_never pss_nil)
      (pss_one (ps_ret (pv 5)))))))), ?_⟩
  refine rd_of (α := (List (Int × Int)) × (List Int) × Int × (List Int)) (C := fun x => (Fr x.1 x.2.1 ∧ x.2.2.1 = sizeF x.1 x.2.1) ∧ OkV x.1 x.2.1 (sizeF x.1 x.2.1) x.2.2.2) (pre := fun x => [bkD x.1, iD x.2.1, .int x.2.2.1, iD x.2.2.2]) (post := fun x => .int (idxF x.1 x.2.1 (sizeF x.1 x.2.1) x.2.2.2)) (p := 4) (N := N_filling_index) (fun _ => rfl) ?rd vs H Q E h
  case rd =>
    rintro ⟨b, ps, m, vs⟩ ⟨⟨h, e⟩, ok⟩
    show Sx _ [some (.fro (bkD b)), some (.fro (iD ps)), some (.fro (.int m)), some (.fro (iD vs)), none, none, none] 0 _ _
    have h : Fr b ps := h
    have e : m = sizeF b ps := e
    have ok : OkV b ps (sizeF b ps) vs := ok
    subst e
    have n3 : ps.length ≤ 3 := h.n3
    have vl : vs.length = ps.length := ok.1
    refine sx_then (sx_drop (d := .none) (by walk_at "ev"; exact ⟨h, rfl⟩) ⟨rfl, rfl⟩) ?_
    refine sx_then (sx_asg (d := .bool (true && decide ((((vs.map PyData.int).length : Nat) : Int) = (((ps.map PyData.int).length : Nat) : Int)))) (by walk_at "ev") ⟨rfl, rfl⟩) ?_
    rw [List.length_map, List.length_map, vl, decide_eq_true rfl]
    refine sx_seq (M := fun G n' => G = [some (.fro (bkD b)), some (.fro (iD ps)), some (.fro (.int (sizeF b ps))), some (.fro (iD vs)), some (.fro (.bool true)), none, none] ∧ n' = 0) ?_ ?_
    · refine sx_if (b := !true || !true) ?_ (fun z => nomatch z) (fun _ => sx_next ⟨rfl, rfl⟩)
      refine et_or (by walk_at "ev") fun _ => et_not (et_B (ep_all vs (en_m1 vs (fun x => PyData.int x) _ (es_list (by walk_at "ev")) (fun x hx => by walk_at "ev"; exact True.intro) (by omega))))
    · rintro G n' ⟨rfl, rfl⟩
      refine sx_then (sx_asg (d := .int (idxF b ps (sizeF b ps) vs)) ?_ ⟨rfl, rfl⟩) ?_
      · refine ev_index_in (st := stepsF b ps) (m := sizeF b ps) (by walk_at "ev"; exact h) ⟨⟨h, rfl, rfl⟩, ok⟩
      · refine sx_seq (M := fun G n' => G = [some (.fro (bkD b)), some (.fro (iD ps)), some (.fro (.int (sizeF b ps))), some (.fro (iD vs)), some (.fro (.bool true)), some (.fro (.int (idxF b ps (sizeF b ps) vs))), none]) (sx_if (b := false) (by walk_at "ev") (fun z => nomatch z) (fun _ => sx_next rfl)) ?_
        rintro G n' rfl
        exact sx_ret (d := .int (idxF b ps (sizeF b ps) vs)) (ep_var rfl) rfl
end Kr
end
section
namespace Kr
open PySem L2
open Evl (Ex)
open C8 (Cal pe_c)
local macro_rules | `(tactic| walk_at "ev") => `(tactic| skip)
local macro_rules | `(tactic| walk_at "ev") => `(tactic| first
  | with_reducible exact ep_int
  | with_reducible exact ep_bl
  | with_reducible exact ep_non
  | with_reducible exact ea_nil
  | with_reducible exact et_yes
  | with_reducible exact eo_no
  | ((with_reducible apply ep_var); rfl)
  | (with_reducible apply ea_cons) <;> walk_at "ev"
  | (with_reducible apply ep_op) <;> walk_at "ev"
  | (with_reducible apply ep_un) <;> walk_at "ev"
  | (with_reducible apply ep_isi) <;> walk_at "ev"
  | ((with_reducible apply ep_lenV); rfl)
  | (with_reducible apply ep_len) <;> walk_at "ev"
  | (with_reducible apply ep_abs) <;> walk_at "ev"
  | (with_reducible apply ep_int1) <;> walk_at "ev"
  | (with_reducible apply ep_max2) <;> walk_at "ev"
  | (with_reducible apply ep_min2) <;> walk_at "ev"
  | (with_reducible apply et_test) <;> walk_at "ev"
  | (with_reducible apply et_B) <;> walk_at "ev"
  | (with_reducible apply et_not) <;> walk_at "ev"
  | (with_reducible apply ep_notV) <;> walk_at "ev"
  | (with_reducible apply ep_tup) <;> walk_at "ev"
  | (with_reducible apply eo_part) <;> walk_at "ev"
  | with_reducible exact od_i
  | with_reducible exact od_b
  | with_reducible exact od_eqI
  | with_reducible exact od_neI
  | with_reducible exact od_isN
  | with_reducible exact od_notN
  | with_reducible exact od_notB
  | with_reducible apply od_c
  | with_reducible exact od_ixT0
  | with_reducible exact od_ixT1
  | with_reducible exact od_ixL0
  | with_reducible exact od_ixL1
  | with_reducible exact od_ixL2
  | with_reducible apply od_ixL
  | with_reducible apply od_ixT
  | with_reducible exact ud_neg
  | (with_reducible refine' et_or ?_ (fun _ => ?_)) <;> walk_at "ev"
  | (with_reducible refine' et_and ?_ (fun _ => ?_)) <;> walk_at "ev"
  | (with_reducible refine' ep_orV ?_ (fun _ => ?_)) <;> walk_at "ev"
  | (with_reducible refine' ep_andV ?_ (fun _ => ?_)) <;> walk_at "ev"
  | (with_reducible refine' ep_chain ?_ ?_ ?_ (fun _ => ?_) (fun _ => ?_)) <;> walk_at "ev"
  | exact isi_int
  | exact isi_intb
  | exact isi_lst
  | exact isi_tup
  | exact Nat.le_of_ble_eq_true rfl)
local macro_rules | `(tactic| walk_at "ev") => `(tactic| (with_reducible apply ev_divisor_of) <;> walk_at "ev")
local macro_rules | `(tactic| walk_at "ev") => `(tactic| (with_reducible apply ev_multiple_of) <;> walk_at "ev")
local macro_rules | `(tactic| walk_at "ev") => `(tactic| (with_reducible apply ev_divides) <;> walk_at "ev")
local macro_rules | `(tactic| walk_at "ev") => `(tactic| (with_reducible apply ev_do_fit) <;> walk_at "ev")
local macro_rules | `(tactic| walk_at "ev") => `(tactic| (with_reducible apply ev_conflicts_in) <;> walk_at "ev")
local macro_rules | `(tactic| walk_at "ev") => `(tactic| (with_reducible apply ev_is_integer) <;> walk_at "ev")
local macro_rules | `(tactic| walk_at "ev") => `(tactic| (with_reducible apply ev_is_told) <;> walk_at "ev")
local macro_rules | `(tactic| walk_at "ev") => `(tactic| (with_reducible apply ev_is_item) <;> walk_at "ev")
local macro_rules | `(tactic| walk_at "ev") => `(tactic| (with_reducible apply ev_is_book) <;> walk_at "ev")
local macro_rules | `(tactic| walk_at "ev") => `(tactic| (with_reducible apply ev_need_book) <;> walk_at "ev")
local macro_rules | `(tactic| walk_at "ev") => `(tactic| (with_reducible apply ev_conflict_in) <;> walk_at "ev")
local macro_rules | `(tactic| walk_at "ev") => `(tactic| (with_reducible apply ev_need_fitting) <;> walk_at "ev")
local macro_rules | `(tactic| walk_at "ev") => `(tactic| (with_reducible apply ev_need_possible) <;> walk_at "ev")
local macro_rules | `(tactic| walk_at "ev") => `(tactic| (with_reducible apply ev_conflict_of) <;> walk_at "ev")
local macro_rules | `(tactic| walk_at "ev") => `(tactic| (with_reducible apply ev_all_conflicts) <;> walk_at "ev")
local macro_rules | `(tactic| walk_at "ev") => `(tactic| (with_reducible apply ev_need_modulus1) <;> walk_at "ev")
local macro_rules | `(tactic| walk_at "ev") => `(tactic| (with_reducible apply ev_need_modulus2) <;> walk_at "ev")
local macro_rules | `(tactic| walk_at "ev") => `(tactic| (with_reducible apply ev_inverse_of) <;> walk_at "ev")
local macro_rules | `(tactic| walk_at "ev") => `(tactic| (with_reducible apply ev_met) <;> walk_at "ev")
local macro_rules | `(tactic| walk_at "ev") => `(tactic| (with_reducible apply ev_class_by) <;> walk_at "ev")
local macro_rules | `(tactic| walk_at "ev") => `(tactic| (with_reducible apply ev_class_at) <;> walk_at "ev")
local macro_rules | `(tactic| walk_at "ev") => `(tactic| (with_reducible apply ev_can_have) <;> walk_at "ev")
local macro_rules | `(tactic| walk_at "ev") => `(tactic| (with_reducible apply ev_far_in) <;> walk_at "ev")
local macro_rules | `(tactic| walk_at "ev") => `(tactic| (with_reducible apply ev_need_sure) <;> walk_at "ev")
local macro_rules | `(tactic| walk_at "ev") => `(tactic| (with_reducible apply ev_reason_for) <;> walk_at "ev")
local macro_rules | `(tactic| walk_at "ev") => `(tactic| (with_reducible apply ev_are_indices) <;> walk_at "ev")
local macro_rules | `(tactic| walk_at "ev") => `(tactic| (with_reducible apply ev_shows_reason) <;> walk_at "ev")
local macro_rules | `(tactic| walk_at "ev") => `(tactic| (with_reducible apply ev_need_places) <;> walk_at "ev")
local macro_rules | `(tactic| walk_at "ev") => `(tactic| (with_reducible apply ev_need_open) <;> walk_at "ev")
local macro_rules | `(tactic| walk_at "ev") => `(tactic| (with_reducible apply ev_steps_in) <;> walk_at "ev")
local macro_rules | `(tactic| walk_at "ev") => `(tactic| (with_reducible apply ev_size_in) <;> walk_at "ev")
local macro_rules | `(tactic| walk_at "ev") => `(tactic| (with_reducible apply ev_count_in) <;> walk_at "ev")
local macro_rules | `(tactic| walk_at "ev") => `(tactic| (with_reducible apply ev_need_size) <;> walk_at "ev")
local macro_rules | `(tactic| walk_at "ev") => `(tactic| (with_reducible apply ev_step_list) <;> walk_at "ev")
local macro_rules | `(tactic| walk_at "ev") => `(tactic| (with_reducible apply ev_common_size) <;> walk_at "ev")
local macro_rules | `(tactic| walk_at "ev") => `(tactic| (with_reducible apply ev_count_fillings) <;> walk_at "ev")
local macro_rules | `(tactic| walk_at "ev") => `(tactic| (with_reducible apply ev_nth_filling) <;> walk_at "ev")
local macro_rules | `(tactic| walk_at "ev") => `(tactic| (with_reducible apply ev_index_in) <;> walk_at "ev")
local macro_rules | `(tactic| walk_at "ev") => `(tactic| (with_reducible apply ev_filling_index) <;> walk_at "ev")

def iiD (vv : List (List Int)) : D := .list (vv.map iD)
def zeroB (b : List (Int × Int)) : List (Int × Int) := b.map fun q => (q.1, 0)
theorem ilen0 {b : List (Int × Int)} {ps vs : List Int} (h1 : b.length ≤ 16) (h2 : ps.length ≤ 3) : (zeroB b ++ ps.zip vs).length ≤ 30 := by
  unfold zeroB
  rw [List.length_append, List.length_zip, List.length_map]
  omega
theorem row_snoc {b : List (Int × Int)} {ps pr s : List Int} {p : Int} : (pr ++ [p]).foldl (rowS b ps) s = rowS b ps (pr.foldl (rowS b ps) s) p := by rw [List.foldl_append]; rfl
theorem val_snoc {b : List (Int × Int)} {ps pr s : List Int} {p : Int} : (pr ++ [p]).foldl (valS b ps) s = valS b ps (pr.foldl (valS b ps) s) p := by rw [List.foldl_append]; rfl
theorem rep_one (x : Int) : ∀ k : Nat, (List.replicate k [PyData.int x]).flatten = (List.replicate k x).map PyData.int
  | 0 => rfl
  | k + 1 => by
    rw [List.replicate_succ, List.flatten_cons, rep_one x k, List.replicate_succ]
    rfl
theorem rows_len {b : List (Int × Int)} {ps : List Int} : ∀ (pr s : List Int), (pr.foldl (rowS b ps) s).length = s.length + pr.length
  | [], s => rfl
  | p :: pr, s => by
    show ((pr.foldl (rowS b ps) (rowS b ps s p))).length = _
    rw [rows_len pr]
    unfold rowS
    rw [List.length_append, List.length_singleton, List.length_cons]
    omega

/-! ### vectors_in -/
abbrev N_vectors_in : List Str := ["book", "places", "told", "steps", "found", "first", "step", "row", "place", "value"]
theorem sc_vectors_in : FnScope N_vectors_in ["book", "places"] (defScope s_vectors_in) := ⟨rfl, rfl, rfl, by decide +kernel, rfl, by decide +kernel, by decide +kernel⟩
def sp_vectors_in : Sp := SpP (α := (List (Int × Int)) × (List Int)) (fun x => Fr x.1 x.2) (fun x => [bkD x.1, iD x.2]) (fun x => iiD (vecsF x.1 x.2))
theorem ev_vectors_in {tr : TA} {G : Gm} {b : List (Int × Int)} {ps : List Int} (h : Ea tr G [bkD b, iD ps]) (c : Fr b ps) : Ep (tCall sp_vectors_in [] C8.E0 tr) G (iiD (vecsF b ps)) := ep_call (α := (List (Int × Int)) × (List Int)) (b, ps) h rfl c
local macro_rules | `(tactic| walk_at "ev") => `(tactic| (with_reducible apply ev_vectors_in) <;> walk_at "ev")
theorem cal_vectors_in {P : Program} {w : World} {K : PySem.W.Frag} {mg : Str → Option Value} {base : Heap} (T : Txt K mg) : Cal P w K mg base 5 "vectors_in" sp_vectors_in [] := by
  obtain ⟨fd, F⟩ := T.c.def_ 38 (d := d_vectors_in) rfl
  refine ⟨⟨_, fd, ["book", "places"], [], ?_, T.glo 38, F.kp, F.bindsN (fun _ _ _ _ _ _ us hl => match us, hl with | [_, _], _ => rfl), .nil⟩⟩
  refine F.ok sc_vectors_in (fun vs H Q E h => len_of (α := (List (Int × Int)) × (List Int)) (C := fun x => Fr x.1 x.2) (pre := fun x => [bkD x.1, iD x.2]) (post := fun x => iiD (vecsF x.1 x.2)) (p := 2) (fun _ => rfl) vs H Q E h) (fun cdv A outer s H vs Q E hr h => ?_)
  refine ⟨_, PSs.nox (pss_cons (ps_par3 (i := 2) (j := 3) (l := 4) rfl sc_vectors_in.nd rfl rfl rfl (by decide) (by decide) (by decide) rfl rfl rfl (pa_cons (pe_lc (own := [("place", 8), ("value", 9)]) rfl sc_vectors_in.nd (piL (K := K) (pv 0)) (blkOk_by (N := N_vectors_in) (sc := defScope s_vectors_in) (by decide +kernel)) (fun _ _ _ _ _ => (pgT (K := K) (n := 2) rfl (pgs_cons (pg_name (i := 8) sc_vectors_in.nd rfl (Or.inl rfl)) (pgs_cons (pg_name (i := 9) sc_vectors_in.nd rfl (Or.inl rfl)) pgs_nil)))) (fun _ _ _ _ _ => pts_nil) (fun _ _ _ _ _ => (pe_tup (pa_cons (pv 8) (pa_cons pe_int pa_nil))))) (pa_cons (pe_c (cal_steps_in T) hr (by decide) rfl (pa_cons (pv 0) (pa_cons (pv 1) pa_nil))) (pa_cons (pe_lst pa_nil) pa_nil))) rfl)
      (pss_cons (ps_for PassesOwn.never rfl (pi_enum rfl (free_enumerate T) (pa_cons (pv 3) pa_nil)) (pgT (K := K) (n := 2) rfl (pgs_cons (pg_name (i := 5) sc_vectors_in.nd rfl (Or.inl rfl)) (pgs_cons (pg_name (i := 6) sc_vectors_in.nd rfl (Or.inl rfl)) pgs_nil))) (pss_cons (ps_set (i := 7) sc_vectors_in.nd rfl (Or.inl rfl) (pe_op op_cat (pe_op op_rep (pe_lst (pa_cons pe_int pa_nil)) (pv 5)) (pe_lst (pa_cons (pv 6) pa_nil))))
      (pss_cons (ps_for PassesOwn.never rfl (piL (K := K) (pe_slice (slL (K := K)) (pv 1) (po_some (pe_op op_add (pv 5) pe_int)) po_none)) (pg_name (i := 8) sc_vectors_in.nd rfl (Or.inl rfl)) (pss_one (ps_expr (pe_bm PySem.F.plainAttrs_list PySem.F.slot_list_append PySem.F.type_list_append mt_append (pv 7) (pa_cons (pe_ix (ixT (K := K)) (pe_c (cal_class_by T) hr (by decide) rfl (pa_cons (pe_op op_cat (pv 2) (pe_listZip rfl rfl (free_list T) rfl (free_zip T) (pa_cons (pv 1) (pa_cons (pv 7) pa_nil)))) (pa_cons (pv 8) pa_nil))) pe_int (fun _ _ => rfl)) pa_nil)))))
      (pss_one (ps_expr (pe_bm PySem.F.plainAttrs_list PySem.F.slot_list_append PySem.F.type_list_append mt_append (pv 4) (pa_cons (pv 7) pa_nil)))))))
      (pss_one (ps_ret (pv 4))))), ?_⟩
  refine rd_of (α := (List (Int × Int)) × (List Int)) (C := fun x => Fr x.1 x.2) (pre := fun x => [bkD x.1, iD x.2]) (post := fun x => iiD (vecsF x.1 x.2)) (p := 2) (N := N_vectors_in) (fun _ => rfl) ?rd vs H Q E h
  case rd =>
    rintro ⟨b, ps⟩ h
    show Sx _ [some (.fro (bkD b)), some (.fro (iD ps)), none, none, none, none, none, none, none, none] 0 _ _
    replace h : Fr b ps := h
    have n3 : ps.length ≤ 3 := h.n3
    have bl : b.length ≤ 16 := h.bl
    have zm : b.map (fun q => PyData.tuple [.int q.1, .int 0]) = (zeroB b).map prD := by unfold zeroB; rw [List.map_map]; rfl
    refine sx_then (G1 := [some (.fro (bkD b)), some (.fro (iD ps)), some (.fro (bkD (zeroB b))), some (.fro (iD (stepsF b ps))), some (.own []), none, none, none, none, none]) (sx_par3N3 (xs := []) (a := bkD (zeroB b)) (c := iD (stepsF b ps)) (ep_new ?_) (by walk_at "ev"; exact h) (en_lst ea_nil (by decide)) ⟨rfl, rfl⟩) ?_
    · rw [← zm]
      exact en_m2 b (fun q => .int q.1) (fun q => .int q.2) (fun q => .tuple [.int q.1, .int 0]) (es_list (by walk_at "ev")) (fun q hq => by walk_at "ev") (by omega)
    refine sx_seq (M := fun G n' => ∃ a1 a2 a3 a4 a5, G = [some (.fro (bkD b)), some (.fro (iD ps)), some (.fro (bkD (zeroB b))), some (.fro (iD (stepsF b ps))), some (.own ((vecsF b ps).map iD)), a1, a2, a3, a4, a5]) ?_ ?_
    · refine sx_forP (stepsF b ps).zipIdx (fun q => .tuple [.int ((q.2 : Nat) : Int), .int q.1]) (fun pr G n' => ∃ a1 a2 a3 a4 a5, G = [some (.fro (bkD b)), some (.fro (iD ps)), some (.fro (bkD (zeroB b))), some (.fro (iD (stepsF b ps))), some (.own ((pr.map (rowF b ps)).map iD)), a1, a2, a3, a4, a5]) ?_ ⟨none, none, none, none, none, rfl⟩ ?_ (fun G n' h => h)
      · rw [← enumD_map (fun (x : Int) => PyData.int x) (stepsF b ps) 0]
        exact es_enum (by walk_at "ev")
      · rintro pr q po G n' e0 ⟨a1, a2, a3, a4, a5, rfl⟩
        have hpl : pr.length ≤ 3 := by
          have := congrArg List.length e0
          rw [List.length_zipIdx, stepsF_len, List.length_append, List.length_cons] at this
          omega
        have hq : q ∈ (stepsF b ps).zipIdx := by rw [e0]; simp
        have hq2 : q.2 < ps.length := by
          have := (List.getElem?_eq_some_iff.mp (List.mem_zipIdx_iff_getElem?.mp hq)).1
          rw [stepsF_len] at this
          exact this
        refine ⟨_, _, tg_two, ?_⟩
        show Sx _ [some (.fro (bkD b)), some (.fro (iD ps)), some (.fro (bkD (zeroB b))), some (.fro (iD (stepsF b ps))), some (.own ((pr.map (rowF b ps)).map iD)), some (.fro (.int ((q.2 : Nat) : Int))), some (.fro (.int q.1)), a3, a4, a5] _ _ _
        have e1 : (List.replicate q.2 (0 : Int) ++ [q.1]).map PyData.int = (List.replicate q.2 [PyData.int 0]).flatten ++ [.int q.1] := by rw [List.map_append, rep_one]; rfl
        refine sx_then (G1 := [some (.fro (bkD b)), some (.fro (iD ps)), some (.fro (bkD (zeroB b))), some (.fro (iD (stepsF b ps))), some (.own ((pr.map (rowF b ps)).map iD)), some (.fro (.int ((q.2 : Nat) : Int))), some (.fro (.int q.1)), some (.own ((List.replicate q.2 (0 : Int) ++ [q.1]).map PyData.int)), a4, a5]) (sx_new (xs := (List.replicate q.2 (0 : Int) ++ [q.1]).map PyData.int) ?_ ⟨rfl, rfl⟩) ?_
        · rw [e1]
          refine en_op (ep_new (en_repN (xs := [.int 0]) (ep_new (en_lst (ea_cons ep_int ea_nil) (by decide))) (ep_var rfl) (by rw [List.length_singleton]; omega) (by omega))) (ep_new (en_lst (ea_cons (ep_var rfl) ea_nil) (by show 1 ≤ 100000; decide))) (on_cat ?_)
          rw [rep_one, List.length_map, List.length_replicate]
          show _ + 1 ≤ 100000
          omega
        refine sx_seq (M := fun G n' => ∃ a4 a5, G = [some (.fro (bkD b)), some (.fro (iD ps)), some (.fro (bkD (zeroB b))), some (.fro (iD (stepsF b ps))), some (.own ((pr.map (rowF b ps)).map iD)), some (.fro (.int ((q.2 : Nat) : Int))), some (.fro (.int q.1)), some (.own ((rowF b ps q).map PyData.int)), a4, a5]) ?_ ?_
        · refine sx_forP (ps.drop (q.2 + 1)) (fun x => .int x) (fun p2 G n' => ∃ a4 a5, G = [some (.fro (bkD b)), some (.fro (iD ps)), some (.fro (bkD (zeroB b))), some (.fro (iD (stepsF b ps))), some (.own ((pr.map (rowF b ps)).map iD)), some (.fro (.int ((q.2 : Nat) : Int))), some (.fro (.int q.1)), some (.own ((p2.foldl (rowS b ps) (List.replicate q.2 0 ++ [q.1])).map PyData.int)), a4, a5]) (es_list (ep_new ?_)) ⟨_, _, rfl⟩ ?_ (fun G n' h => h)
          · rw [List.map_drop, ← cut_from]
            exact en_slice (by walk_at "ev") (eo_part (ep_op (ep_var rfl) ep_int od_i)) eo_no
          · rintro p2 x po2 G n' e2 ⟨a4, a5, rfl⟩
            have hx : x ∈ ps := List.mem_of_mem_drop (i := q.2 + 1) (by rw [e2]; simp)
            have hpl2 : p2.length ≤ 3 := by
              have := congrArg List.length e2
              rw [List.length_drop, List.length_append, List.length_cons] at this
              omega
            have hrl := rows_len (b := b) (ps := ps) p2 (List.replicate q.2 0 ++ [q.1])
            rw [List.length_append, List.length_replicate, List.length_singleton] at hrl
            rw [row_snoc]
            generalize p2.foldl (rowS b ps) (List.replicate q.2 0 ++ [q.1]) = row at *
            refine ⟨_, _, tg_name, ?_⟩
            have e3 : (rowS b ps row x).map PyData.int = row.map PyData.int ++ [.int (classF (zeroB b ++ ps.zip row) x).1] := by
              unfold rowS
              rw [List.map_append]
              rfl
            rw [e3]
            show Sx _ [some (.fro (bkD b)), some (.fro (iD ps)), some (.fro (bkD (zeroB b))), some (.fro (iD (stepsF b ps))), some (.own ((pr.map (rowF b ps)).map iD)), some (.fro (.int ((q.2 : Nat) : Int))), some (.fro (.int q.1)), some (.own (row.map PyData.int)), some (.fro (.int x)), a5] _ _ _
            refine sx_app (xs := row.map PyData.int) (d := .int (classF (zeroB b ++ ps.zip row) x).1) rfl (ep_fz ?_ rfl) (by rw [List.length_map]; omega) ⟨_, _, rfl⟩
            refine ep_op (d1 := prD (classF (zeroB b ++ ps.zip row) x)) (ev_class_by (ea_cons (ep_items (ep_var rfl) (ep_var rfl) (ep_var rfl) ?_) (ea_cons (ep_var rfl) ea_nil)) ⟨?_, h.near0 hx⟩) ep_int od_ixT0
            · unfold zeroB; rw [List.length_map]; omega
            · have := ilen0 (b := b) (ps := ps) (vs := row) bl n3
              omega
        · rintro G n' ⟨a4, a5, rfl⟩
          have e4 : ((pr ++ [q]).map (rowF b ps)).map iD = (pr.map (rowF b ps)).map iD ++ [iD (rowF b ps q)] := by
            rw [List.map_append, List.map_append]
            rfl
          rw [e4]
          refine sx_fz (i := 7) (xs := (rowF b ps q).map PyData.int) rfl ?_
          exact sx_app (xs := (pr.map (rowF b ps)).map iD) (d := iD (rowF b ps q)) rfl (ep_var rfl) (by rw [List.length_map, List.length_map]; omega) ⟨_, _, _, _, _, rfl⟩
    · rintro G n' ⟨a1, a2, a3, a4, a5, rfl⟩
      exact sx_ret (d := iiD (vecsF b ps)) (ep_var rfl) rfl
/-! ### summed -/
abbrev N_summed : List Str := ["weights", "values", "weight", "value"]
theorem sc_summed : FnScope N_summed ["weights", "values"] (defScope s_summed) := ⟨rfl, rfl, rfl, by decide +kernel, rfl, by decide +kernel, by decide +kernel⟩
def sp_summed : Sp := SpP (α := (List Int) × (List Int)) (fun x => x.1.length ≤ 3 ∧ (∀ n ∈ x.1, Sm 20 n) ∧ ∀ n ∈ x.2, Sm 8000 n) (fun x => [iD x.1, iD x.2]) (fun x => .int (dotF x.1 x.2))
theorem ev_summed {tr : TA} {G : Gm} {ws vs : List Int} (h : Ea tr G [iD ws, iD vs]) (c : ws.length ≤ 3 ∧ (∀ n ∈ ws, Sm 20 n) ∧ ∀ n ∈ vs, Sm 8000 n) : Ep (tCall sp_summed [] C8.E0 tr) G (.int (dotF ws vs)) := ep_call (α := (List Int) × (List Int)) (ws, vs) h rfl c
local macro_rules | `(tactic| walk_at "ev") => `(tactic| (with_reducible apply ev_summed) <;> walk_at "ev")
theorem cal_summed {P : Program} {w : World} {K : PySem.W.Frag} {mg : Str → Option Value} {base : Heap} (T : Txt K mg) : Cal P w K mg base 1 "summed" sp_summed [] := by
  obtain ⟨fd, F⟩ := T.c.def_ 39 (d := d_summed) rfl
  refine ⟨⟨_, fd, ["weights", "values"], [], ?_, T.glo 39, F.kp, F.bindsN (fun _ _ _ _ _ _ us hl => match us, hl with | [_, _], _ => rfl), .nil⟩⟩
  refine F.ok sc_summed (fun vs H Q E h => len_of (α := (List Int) × (List Int)) (C := fun x => x.1.length ≤ 3 ∧ (∀ n ∈ x.1, Sm 20 n) ∧ ∀ n ∈ x.2, Sm 8000 n) (pre := fun x => [iD x.1, iD x.2]) (post := fun x => .int (dotF x.1 x.2)) (p := 2) (fun _ => rfl) vs H Q E h) (fun cdv A outer s H vs Q E hr h => ?_)
  refine ⟨_, PSs.nox (pss_one (ps_ret (pe_callB (sumK (K := K) rfl) rfl (free_sum T) bb_sum (pa_cons (pe_lc (own := [("weight", 2), ("value", 3)]) rfl sc_summed.nd (pi_zip rfl (free_zip T) (pa_cons (pv 0) (pa_cons (pv 1) pa_nil))) (blkOk_by (N := N_summed) (sc := defScope s_summed) (by decide +kernel)) (fun _ _ _ _ _ => (pgT (K := K) (n := 2) rfl (pgs_cons (pg_name (i := 2) sc_summed.nd rfl (Or.inl rfl)) (pgs_cons (pg_name (i := 3) sc_summed.nd rfl (Or.inl rfl)) pgs_nil)))) (fun _ _ _ _ _ => pts_nil) (fun _ _ _ _ _ => (pe_op op_mulW (pv 2) (pv 3)))) pa_nil)))), ?_⟩
  refine rd_of (α := (List Int) × (List Int)) (C := fun x => x.1.length ≤ 3 ∧ (∀ n ∈ x.1, Sm 20 n) ∧ ∀ n ∈ x.2, Sm 8000 n) (pre := fun x => [iD x.1, iD x.2]) (post := fun x => .int (dotF x.1 x.2)) (p := 2) (N := N_summed) (fun _ => rfl) ?rd vs H Q E h
  case rd =>
    rintro ⟨ws, vs⟩ hh
    show Sx _ [some (.fro (iD ws)), some (.fro (iD vs)), none, none] 0 _ _
    replace hh : ws.length ≤ 3 ∧ (∀ n ∈ ws, Sm 20 n) ∧ ∀ n ∈ vs, Sm 8000 n := hh
    obtain ⟨hl, h1, h2⟩ := hh
    refine sx_ret (d := .int (dotF ws vs)) (ep_cb (ea_cons (ep_new (xs := ((ws.zip vs).map fun q => q.1 * q.2).map PyData.int) ?_) ea_nil) (cd_sum _)) rfl
    rw [map_int (fun (q : Int × Int) => q.1 * q.2)]
    refine en_m2 (ws.zip vs) (fun q => .int q.1) (fun q => .int q.2) (fun q => .int (q.1 * q.2)) ?_ (fun q hq => ?_) (by rw [List.length_zip]; omega)
    · rw [show (ws.zip vs).map (fun q => PyData.tuple [.int q.1, .int q.2]) = zipD (ws.map PyData.int) (vs.map PyData.int) from zip_prD.symm]
      exact es_zip (by walk_at "ev")
    · walk_at "ev"
      have := List.of_mem_zip hq
      exact Sm.cmul (h1 _ this.1) (h2 _ this.2) (by omega)
/-! ### need_weights -/
abbrev N_need_weights : List Str := ["places", "weights", "is_list", "weight"]
theorem sc_need_weights : FnScope N_need_weights ["places", "weights"] (defScope s_need_weights) := ⟨rfl, rfl, rfl, by decide +kernel, rfl, by decide +kernel, by decide +kernel⟩
def sp_need_weights : Sp := SpP (α := (List Int) × (List Int)) (fun x => x.2.length = x.1.length ∧ x.1.length ≤ 3) (fun x => [iD x.1, iD x.2]) (fun x => .none)
theorem ev_need_weights {tr : TA} {G : Gm} {ps ws : List Int} (h : Ea tr G [iD ps, iD ws]) (c : ws.length = ps.length ∧ ps.length ≤ 3) : Ep (tCall sp_need_weights [] C8.E0 tr) G (.none) := ep_call (α := (List Int) × (List Int)) (ps, ws) h rfl c
local macro_rules | `(tactic| walk_at "ev") => `(tactic| (with_reducible apply ev_need_weights) <;> walk_at "ev")
theorem cal_need_weights {P : Program} {w : World} {K : PySem.W.Frag} {mg : Str → Option Value} {base : Heap} (T : Txt K mg) : Cal P w K mg base 2 "need_weights" sp_need_weights [] := by
  obtain ⟨fd, F⟩ := T.c.def_ 40 (d := d_need_weights) rfl
  refine ⟨⟨_, fd, ["places", "weights"], [], ?_, T.glo 40, F.kp, F.bindsN (fun _ _ _ _ _ _ us hl => match us, hl with | [_, _], _ => rfl), .nil⟩⟩
  refine F.ok sc_need_weights (fun vs H Q E h => len_of (α := (List Int) × (List Int)) (C := fun x => x.2.length = x.1.length ∧ x.1.length ≤ 3) (pre := fun x => [iD x.1, iD x.2]) (post := fun x => .none) (p := 2) (fun _ => rfl) vs H Q E h) (fun cdv A outer s H vs Q E hr h => ?_)
  refine ⟨_, PSs.nox (pss_cons (ps_set (i := 2) sc_need_weights.nd rfl (Or.inl rfl) (pe_and (pe_callB (isiK (K := K)) rfl (free_isinstance T) bb_isinstance (pa_cons (pv 1) (pa_cons (pe_bltn (v := .ty "list") rfl (free_list T) bb_list rfl) pa_nil))) (pe_one (pe_cmpR op_eq (pe_callB (lenK (K := K)) rfl (free_len T) bb_len (pa_cons (pv 1) pa_nil)) (pe_callB (lenK (K := K)) rfl (free_len T) bb_len (pa_cons (pv 0) pa_nil)) (nomark _)))))
      (pss_one (ps_if (PW.pt (pw_or (pt_not (pt_val (pv 2))) (pw_or1 (pt_not (pt_val (pe_callB (allK (K := K) rfl) rfl (free_all T) bb_all (pa_cons (pe_lc (own := [("weight", 3)]) rfl sc_need_weights.nd (piL (K := K) (pv 1)) (blkOk_by (N := N_need_weights) (sc := defScope s_need_weights) (by decide +kernel)) (fun _ _ _ _ _ => (pg_name (i := 3) sc_need_weights.nd rfl (Or.inl rfl))) (fun _ _ _ _ _ => pts_nil) (fun _ _ _ _ _ => (pe_c (cal_is_integer T) hr (by decide) rfl (pa_cons (pv 3) pa_nil)))) pa_nil))))))) pss_never pss_nil))), ?_⟩
  refine rd_of (α := (List Int) × (List Int)) (C := fun x => x.2.length = x.1.length ∧ x.1.length ≤ 3) (pre := fun x => [iD x.1, iD x.2]) (post := fun x => .none) (p := 2) (N := N_need_weights) (fun _ => rfl) ?rd vs H Q E h
  case rd =>
    rintro ⟨ps, ws⟩ hh
    show Sx _ [some (.fro (iD ps)), some (.fro (iD ws)), none, none] 0 _ _
    replace hh : ws.length = ps.length ∧ ps.length ≤ 3 := hh
    obtain ⟨hl, h3⟩ := hh
    refine sx_then (sx_asg (d := .bool (true && decide ((((ws.map PyData.int).length : Nat) : Int) = (((ps.map PyData.int).length : Nat) : Int)))) (by walk_at "ev") ⟨rfl, rfl⟩) ?_
    rw [List.length_map, List.length_map, hl, decide_eq_true rfl]
    refine sx_if (b := !true || !true) ?_ (fun z => nomatch z) (fun _ => sx_next rfl)
    exact et_or (by walk_at "ev") fun _ => et_not (et_B (ep_all ws (en_m1 ws (fun x => PyData.int x) _ (es_list (by walk_at "ev")) (fun x hx => by walk_at "ev"; exact True.intro) (by omega))))
theorem zip_pre {pre po row : List Int} (h : row.length = pre.length) : (pre ++ po).zip row = pre.zip row := by
  have := List.zip_append (l₁ := pre) (r₁ := po) (l₂ := row) (r₂ := []) h.symm
  rw [List.append_nil, List.zip_nil_right, List.append_nil] at this
  exact this
theorem Fr.apartZ {b c : List (Int × Int)} {ps pre po row : List Int} {p : Int} (h : Fr b ps) (hc : c.map (·.1) = b.map (·.1)) (e : ps = pre ++ p :: po) (hl : row.length = pre.length) : ∀ r ∈ c ++ ps.zip row, r.1 ≠ p := fun r hr z => by
  have nd := h.nd
  rw [e] at hr nd
  rw [zip_pre hl] at hr
  have nd2 := List.nodup_append.mp nd
  rcases List.mem_append.mp hr with h1 | h1
  · refine nd2.2.2 p (by simp) r.1 ?_ z.symm
    rw [← hc]
    exact List.mem_map.mpr ⟨r, h1, rfl⟩
  · exact (List.nodup_append.mp nd2.1).2.2 r.1 (List.of_mem_zip h1).1 p (by simp) z
theorem Fr.rows {b : List (Int × Int)} {ps : List Int} (h : Fr b ps) : ∀ (po pre row : List Int), ps = pre ++ po → row.length = pre.length → (∀ n ∈ row, Sm 8000 n) → ∀ n ∈ po.foldl (rowS b ps) row, Sm 8000 n
  | [], _, row, _, _, hr => hr
  | p :: po, pre, row, e, hl, hr => by
    show ∀ n ∈ po.foldl (rowS b ps) (rowS b ps row p), Sm 8000 n
    refine h.rows po (pre ++ [p]) (rowS b ps row p) (by rw [e]; simp) ?_ ?_
    · unfold rowS
      rw [List.length_append, List.length_append, hl]
      rfl
    · intro n hn
      unfold rowS at hn
      rcases List.mem_append.mp hn with h1 | h1
      · exact hr n h1
      · have hp : p ∈ ps := by rw [e]; simp
        have z := List.mem_singleton.mp h1
        have bd := classF_bd (h.apartZ (c := zeroB b) (row := row) (by unfold zeroB; rw [List.map_map]; rfl) e hl)
        have sz := classF_sz (h.near0 (vs := row) hp) (ilen0 h.bl h.n3)
        rw [z]
        exact (sm_le sz bd.1 (Int.le_of_lt bd.2)).mono (by decide)
theorem Fr.vals {b : List (Int × Int)} {ps : List Int} (h : Fr b ps) : ∀ (po pre row : List Int), ps = pre ++ po → row.length = pre.length → (∀ n ∈ row, Sm 8000 n) → ∀ n ∈ po.foldl (valS b ps) row, Sm 8000 n
  | [], _, row, _, _, hr => hr
  | p :: po, pre, row, e, hl, hr => by
    show ∀ n ∈ po.foldl (valS b ps) (valS b ps row p), Sm 8000 n
    refine h.vals po (pre ++ [p]) (valS b ps row p) (by rw [e]; simp) ?_ ?_
    · unfold valS
      rw [List.length_append, List.length_append, hl]
      rfl
    · intro n hn
      unfold valS at hn
      rcases List.mem_append.mp hn with h1 | h1
      · exact hr n h1
      · have hp : p ∈ ps := by rw [e]; simp
        have z := List.mem_singleton.mp h1
        have bd := classF_bd (h.apartZ (c := b) (row := row) rfl e hl)
        have sz := classF_sz (h.near (vs := row) hp) (ilen h.bl h.n3)
        rw [z]
        exact (sm_le sz bd.1 (Int.le_of_lt bd.2)).mono (by decide)
theorem Fr.vecs {b : List (Int × Int)} {ps : List Int} (h : Fr b ps) : ∀ row ∈ vecsF b ps, ∀ n ∈ row, Sm 8000 n := fun row hr => by
  obtain ⟨q, hq, rfl⟩ := List.mem_map.mp hr
  have hk := List.mem_zipIdx_iff_getElem?.mp hq
  have hl := (List.getElem?_eq_some_iff.mp hk).1
  rw [stepsF_len] at hl
  refine h.rows (ps.drop (q.2 + 1)) (ps.take (q.2 + 1)) (List.replicate q.2 0 ++ [q.1]) (List.take_append_drop _ _).symm ?_ fun n hn => ?_
  · rw [List.length_append, List.length_replicate, List.length_take, List.length_singleton]
    omega
  · rcases List.mem_append.mp hn with h1 | h1
    · rw [(List.mem_replicate.mp h1).2]
      unfold Sm
      exact Nat.two_pow_pos _
    · rw [List.mem_singleton.mp h1]
      exact ((h.steps _ (List.mem_of_getElem? hk)).2).mono (by decide)
def sumMp (b : List (Int × Int)) (ps ws : List Int) (pr : List (List Int)) : Int := pr.foldl (fun m row => (Int.gcd m ((dotF ws row).natAbs : Int) : Int)) 0
theorem sumM_snoc {b : List (Int × Int)} {ps ws : List Int} {pr : List (List Int)} {row : List Int} : sumMp b ps ws (pr ++ [row]) = (Int.gcd (sumMp b ps ws pr) ((dotF ws row).natAbs : Int) : Int) := by unfold sumMp; rw [List.foldl_append]; rfl
theorem vals_len {b : List (Int × Int)} {ps : List Int} : ∀ (pr s : List Int), (pr.foldl (valS b ps) s).length = s.length + pr.length
  | [], s => rfl
  | p :: pr, s => by
    show ((pr.foldl (valS b ps) (valS b ps s p))).length = _
    rw [vals_len pr]
    unfold valS
    rw [List.length_append, List.length_singleton, List.length_cons]
    omega

/-! ### sure_sum -/
abbrev N_sure_sum : List Str := ["book", "places", "weights", "modulus", "row", "values", "place", "total"]
theorem sc_sure_sum : FnScope N_sure_sum ["book", "places", "weights"] (defScope s_sure_sum) := ⟨rfl, rfl, rfl, by decide +kernel, rfl, by decide +kernel, by decide +kernel⟩
def sp_sure_sum : Sp := SpP (α := (List (Int × Int)) × (List Int) × (List Int)) (fun x => Fr x.1 x.2.1 ∧ x.2.2.length = x.2.1.length ∧ ∀ n ∈ x.2.2, Sm 20 n) (fun x => [bkD x.1, iD x.2.1, iD x.2.2]) (fun x => prD (sumF x.1 x.2.1 x.2.2))
theorem ev_sure_sum {tr : TA} {G : Gm} {b : List (Int × Int)} {ps ws : List Int} (h : Ea tr G [bkD b, iD ps, iD ws]) (c : Fr b ps ∧ ws.length = ps.length ∧ ∀ n ∈ ws, Sm 20 n) : Ep (tCall sp_sure_sum [] C8.E0 tr) G (prD (sumF b ps ws)) := ep_call (α := (List (Int × Int)) × (List Int) × (List Int)) (b, ps, ws) h rfl c
local macro_rules | `(tactic| walk_at "ev") => `(tactic| (with_reducible apply ev_sure_sum) <;> walk_at "ev")
theorem cal_sure_sum {P : Program} {w : World} {K : PySem.W.Frag} {mg : Str → Option Value} {base : Heap} (T : Txt K mg) : Cal P w K mg base 7 "sure_sum" sp_sure_sum [] := by
  obtain ⟨fd, F⟩ := T.c.def_ 41 (d := d_sure_sum) rfl
  refine ⟨⟨_, fd, ["book", "places", "weights"], [], ?_, T.glo 41, F.kp, F.bindsN (fun _ _ _ _ _ _ us hl => match us, hl with | [_, _, _], _ => rfl), .nil⟩⟩
  refine F.ok sc_sure_sum (fun vs H Q E h => len_of (α := (List (Int × Int)) × (List Int) × (List Int)) (C := fun x => Fr x.1 x.2.1 ∧ x.2.2.length = x.2.1.length ∧ ∀ n ∈ x.2.2, Sm 20 n) (pre := fun x => [bkD x.1, iD x.2.1, iD x.2.2]) (post := fun x => prD (sumF x.1 x.2.1 x.2.2)) (p := 3) (fun _ => rfl) vs H Q E h) (fun cdv A outer s H vs Q E hr h => ?_)
  refine ⟨_, PSs.nox (pss_cons (ps_expr (pe_c (cal_need_open T) hr (by decide) rfl (pa_cons (pv 0) (pa_cons (pv 1) pa_nil))))
      (pss_cons (ps_expr (pe_c (cal_need_weights T) hr (by decide) rfl (pa_cons (pv 1) (pa_cons (pv 2) pa_nil))))
      (pss_cons (ps_expr (pe_c (cal_need_fitting T) hr (by decide) rfl (pa_cons (pv 0) pa_nil)))
      (pss_cons (ps_set (i := 3) sc_sure_sum.nd rfl (Or.inl rfl) pe_int)
      (pss_cons (ps_for PassesOwn.never rfl (piL (K := K) (pe_c (cal_vectors_in T) hr (by decide) rfl (pa_cons (pv 0) (pa_cons (pv 1) pa_nil)))) (pg_name (i := 4) sc_sure_sum.nd rfl (Or.inl rfl)) (pss_one (ps_set (i := 3) sc_sure_sum.nd rfl (Or.inl rfl) (pe_c (cal_divisor_of T) hr (by decide) rfl (pa_cons (pv 3) (pa_cons (pe_callB k_abs rfl (free_abs T) bb_abs (pa_cons (pe_c (cal_summed T) hr (by decide) rfl (pa_cons (pv 2) (pa_cons (pv 4) pa_nil))) pa_nil)) pa_nil))))))
      (pss_cons (ps_set (i := 5) sc_sure_sum.nd rfl (Or.inl rfl) (pe_lst pa_nil))
      (pss_cons (ps_for PassesOwn.never rfl (piL (K := K) (pv 1)) (pg_name (i := 6) sc_sure_sum.nd rfl (Or.inl rfl)) (pss_one (ps_expr (pe_bm PySem.F.plainAttrs_list PySem.F.slot_list_append PySem.F.type_list_append mt_append (pv 5) (pa_cons (pe_ix (ixT (K := K)) (pe_c (cal_class_by T) hr (by decide) rfl (pa_cons (pe_op op_cat (pv 0) (pe_listZip rfl rfl (free_list T) rfl (free_zip T) (pa_cons (pv 1) (pa_cons (pv 5) pa_nil)))) (pa_cons (pv 6) pa_nil))) pe_int (fun _ _ => rfl)) pa_nil)))))
      (pss_cons (ps_set (i := 7) sc_sure_sum.nd rfl (Or.inl rfl) (pe_c (cal_summed T) hr (by decide) rfl (pa_cons (pv 2) (pa_cons (pv 5) pa_nil))))
      (pss_one (ps_ret (pe_ifExp (pt_cmpR op_eq (pv 3) pe_int (nomark _)) (pe_tup (pa_cons (pv 7) (pa_cons pe_int pa_nil))) (pe_tup (pa_cons (pe_op op_mod (pv 7) (pv 3)) (pa_cons (pv 3) pa_nil)))))))))))))), ?_⟩
  refine rd_of (α := (List (Int × Int)) × (List Int) × (List Int)) (C := fun x => Fr x.1 x.2.1 ∧ x.2.2.length = x.2.1.length ∧ ∀ n ∈ x.2.2, Sm 20 n) (pre := fun x => [bkD x.1, iD x.2.1, iD x.2.2]) (post := fun x => prD (sumF x.1 x.2.1 x.2.2)) (p := 3) (N := N_sure_sum) (fun _ => rfl) ?rd vs H Q E h
  case rd =>
    rintro ⟨b, ps, ws⟩ hh
    show Sx _ [some (.fro (bkD b)), some (.fro (iD ps)), some (.fro (iD ws)), none, none, none, none, none] 0 _ _
    replace hh : Fr b ps ∧ ws.length = ps.length ∧ ∀ n ∈ ws, Sm 20 n := hh
    obtain ⟨h, hl, hw⟩ := hh
    have n3 : ps.length ≤ 3 := h.n3
    have bl : b.length ≤ 16 := h.bl
    refine sx_then (sx_drop (d := .none) (by walk_at "ev"; exact h) ⟨rfl, rfl⟩) ?_
    refine sx_then (sx_drop (d := .none) (by walk_at "ev"; exact ⟨hl, n3⟩) ⟨rfl, rfl⟩) ?_
    refine sx_then (sx_drop (d := .none) (by walk_at "ev"; exact ⟨h.bk.len, h.cf⟩) ⟨rfl, rfl⟩) ?_
    refine sx_then (G1 := [some (.fro (bkD b)), some (.fro (iD ps)), some (.fro (iD ws)), some (.fro (.int 0)), none, none, none, none]) (sx_asg (d := .int 0) (by walk_at "ev") ⟨rfl, rfl⟩) ?_
    refine sx_seq (M := fun G n' => ∃ a, G = [some (.fro (bkD b)), some (.fro (iD ps)), some (.fro (iD ws)), some (.fro (.int (sumM b ps ws))), a, none, none, none]) ?_ ?_
    · refine sx_forP (vecsF b ps) iD (fun pr G n' => 0 ≤ sumMp b ps ws pr ∧ ∃ a, G = [some (.fro (bkD b)), some (.fro (iD ps)), some (.fro (iD ws)), some (.fro (.int (sumMp b ps ws pr))), a, none, none, none]) (es_list (ev_vectors_in (by walk_at "ev") h)) ⟨Int.le_refl 0, none, rfl⟩ ?_ (fun G n' h => h.2)
      rintro pr row po G n' e0 ⟨m0, a, rfl⟩
      have hr : row ∈ vecsF b ps := by rw [e0]; simp
      refine ⟨_, _, tg_name, ?_⟩
      show Sx _ [some (.fro (bkD b)), some (.fro (iD ps)), some (.fro (iD ws)), some (.fro (.int (sumMp b ps ws pr))), some (.fro (iD row)), none, none, none] _ _ _
      rw [sumM_snoc]
      refine sx_asg (d := .int (Int.gcd (sumMp b ps ws pr) ((dotF ws row).natAbs : Int) : Int)) ?_ ⟨by omega, _, rfl⟩
      walk_at "ev"
      · exact ⟨by omega, hw, h.vecs row hr⟩
      · exact ⟨m0, by omega⟩
    · rintro G n' ⟨a, rfl⟩
      refine sx_then (G1 := [some (.fro (bkD b)), some (.fro (iD ps)), some (.fro (iD ws)), some (.fro (.int (sumM b ps ws))), a, some (.own []), none, none]) (sx_new (xs := []) (en_lst ea_nil (by decide)) ⟨rfl, rfl⟩) ?_
      refine sx_seq (M := fun G n' => ∃ p, G = [some (.fro (bkD b)), some (.fro (iD ps)), some (.fro (iD ws)), some (.fro (.int (sumM b ps ws))), a, some (.own ((valsF b ps).map PyData.int)), p, none]) ?_ ?_
      · refine sx_forP ps (fun x => .int x) (fun pr G n' => ∃ p, G = [some (.fro (bkD b)), some (.fro (iD ps)), some (.fro (iD ws)), some (.fro (.int (sumM b ps ws))), a, some (.own ((pr.foldl (valS b ps) []).map PyData.int)), p, none]) (es_list (by walk_at "ev")) ⟨none, rfl⟩ ?_ (fun G n' h => h)
        rintro pr x po G n' e0 ⟨p, rfl⟩
        have hx : x ∈ ps := by rw [e0]; simp
        have hvl := vals_len (b := b) (ps := ps) pr []
        have hpl : pr.length ≤ 3 := by
          have := congrArg List.length e0
          rw [List.length_append, List.length_cons] at this
          omega
        rw [val_snoc]
        generalize pr.foldl (valS b ps) [] = row at *
        rw [List.length_nil] at hvl
        refine ⟨_, _, tg_name, ?_⟩
        have e3 : (valS b ps row x).map PyData.int = row.map PyData.int ++ [.int (classF (b ++ ps.zip row) x).1] := by
          unfold valS
          rw [List.map_append]
          rfl
        rw [e3]
        show Sx _ [some (.fro (bkD b)), some (.fro (iD ps)), some (.fro (iD ws)), some (.fro (.int (sumM b ps ws))), a, some (.own (row.map PyData.int)), some (.fro (.int x)), none] _ _ _
        refine sx_app (xs := row.map PyData.int) (d := .int (classF (b ++ ps.zip row) x).1) rfl (ep_fz ?_ rfl) (by rw [List.length_map]; omega) ⟨_, rfl⟩
        refine ep_op (d1 := prD (classF (b ++ ps.zip row) x)) (ev_class_by (ea_cons (ep_items (ep_var rfl) (ep_var rfl) (ep_var rfl) (by omega)) (ea_cons (ep_var rfl) ea_nil)) ⟨?_, h.near hx⟩) ep_int od_ixT0
        have := ilen (b := b) (ps := ps) (vs := row) bl n3
        omega
      · rintro G n' ⟨p, rfl⟩
        refine sx_then (G1 := [some (.fro (bkD b)), some (.fro (iD ps)), some (.fro (iD ws)), some (.fro (.int (sumM b ps ws))), a, some (.own ((valsF b ps).map PyData.int)), p, some (.fro (.int (dotF ws (valsF b ps))))]) (sx_asgZ (a := .int (dotF ws (valsF b ps))) (ev_summed (ea_cons (ep_var rfl) (ea_cons (ep_var rfl) ea_nil)) ⟨by omega, hw, h.vals ps [] [] rfl rfl (by simp)⟩) rfl ⟨rfl, rfl⟩) ?_
        refine sx_ret (d := if decide (sumM b ps ws = 0) = true then .tuple [.int (dotF ws (valsF b ps)), .int 0] else .tuple [.int (dotF ws (valsF b ps) % sumM b ps ws), .int (sumM b ps ws)]) (ep_if (by walk_at "ev") (fun _ => by walk_at "ev") (fun z => ?_)) ?_
        · walk_at "ev"
          have z : ¬ sumM b ps ws = 0 := by simpa using z
          have : 0 ≤ sumM b ps ws := by
            unfold sumM
            have g : ∀ (l : List (List Int)) (m : Int), 0 ≤ m → 0 ≤ l.foldl (fun m row => (Int.gcd m ((dotF ws row).natAbs : Int) : Int)) m := by
              intro l
              induction l with
              | nil => intro m h; exact h
              | cons r l ih => intro m _; exact ih _ (Int.natCast_nonneg _)
            exact g _ 0 (Int.le_refl 0)
          show 0 < sumM b ps ws
          omega
        · show _ = prD (sumF b ps ws)
          unfold sumF
          by_cases z : sumM b ps ws = 0
          · rw [if_pos z, if_pos (by simpa using z)]
          · rw [if_neg z, if_neg (by simpa using z)]
end Kr
end
section
/-! M3: what the questions' functions compute. -/
namespace Kr
def innerF : Nat → Int → Int → Int → Int × Int
  | 0, l, pw, _ => (l, pw)
  | k + 1, l, pw, p => if l % p = 0 then innerF k (l / p) (pw * p) p else (l, pw)
def outerF : Nat → List Int → Int → Int → List Int × Int
  | 0, f, l, _ => (f, l)
  | k + 1, f, l, p => if p * p ≤ l then outerF k (if 1 < (innerF 40 l 1 p).2 then f ++ [(innerF 40 l 1 p).2] else f) (innerF 40 l 1 p).1 (p + 1) else (f, l)
def ppF (m : Int) : List Int := if 1 < (outerF 40 [] m 2).2 then (outerF 40 [] m 2).1 ++ [(outerF 40 [] m 2).2] else (outerF 40 [] m 2).1
def resF (ps : List Int) (pw : Int) : List Int := ps.map fun p => p % pw
def lackF (ps : List Int) (pw : Int) : Int := pw - ((dd (resF ps pw)).length : Int)
def mostF (ps : List Int) (m : Int) : Int := maxL (0 :: (ppF m).map (lackF ps))
def flL : Nat → List Int → Int → Int → List Int → Int → List Int
  | 0, _, _, _, f, _ => f
  | k + 1, kn, pw, many, f, r => if (f.length : Int) < many ∧ r < pw then flL k kn pw many (if r ∈ kn then f else f ++ [r]) (r + 1) else f
def flF (ps : List Int) (pw many : Int) : List Int := flL 40 (sortU (resF ps pw)) pw many [] 0 ++ List.replicate (many - ((flL 40 (sortU (resF ps pw)) pw many [] 0).length : Int)).toNat 0
def tabS (m r : Int) (c : Int × Int) (q : Int × Int) : Int × Int := metF c (q.2 % (Int.gcd ((r - q.1).natAbs : Int) m : Int), (Int.gcd ((r - q.1).natAbs : Int) m : Int))
def tabC (b : List (Int × Int)) (m r : Int) : Int × Int := b.foldl (tabS m r) (0, 1)
def tabF (b : List (Int × Int)) (m : Int) : List (Int × Int) := (List.range m.toNat).map fun (r : Nat) => tabC b m (r : Int)
def quesS (ps : List Int) (many : Int) (n : Nat) (c : Int × Int) (pw : Int) : Int × Int := metF c ((flF ps pw many).getD n 0, pw)
def quesC (ps : List Int) (m many : Int) (n : Nat) : Int × Int := (ppF m).foldl (quesS ps many n) (0, 1)
def quesF (b : List (Int × Int)) (m : Int) : List Int := (List.range (mostF (b.map (·.1)) m).toNat).map fun n => (quesC (b.map (·.1)) m (mostF (b.map (·.1)) m) n).1
theorem pp_nat : ∀ m : Fin 31, 1 ≤ m.val → (∀ pw ∈ ppF (m.val : Int), 2 ≤ pw ∧ pw ≤ 30) ∧ (ppF (m.val : Int)).length ≤ 3 := by decide +kernel
theorem pp_ok {m : Int} (h : 1 ≤ m ∧ m ≤ 30) : (∀ pw ∈ ppF m, 2 ≤ pw ∧ pw ≤ 30) ∧ (ppF m).length ≤ 3 := by
  have := pp_nat ⟨m.toNat, by omega⟩ (by show 1 ≤ m.toNat; omega)
  have e : ((m.toNat : Nat) : Int) = m := by omega
  simp only [e] at this
  exact this
theorem lack_le {ps : List Int} {pw : Int} : lackF ps pw ≤ pw := by unfold lackF; omega
theorem most_bd {ps : List Int} {m : Int} (h : 1 ≤ m ∧ m ≤ 30) : 0 ≤ mostF ps m ∧ mostF ps m ≤ 30 := by
  have h1 := maxL_ge 0 ((ppF m).map (lackF ps)) 0 (by simp)
  have h2 := maxL_mem 0 ((ppF m).map (lackF ps))
  refine ⟨h1, ?_⟩
  show ((ppF m).map (lackF ps)).foldl max 0 ≤ 30
  rcases List.mem_cons.mp h2 with e | e
  · rw [e]; decide
  · obtain ⟨pw, h3, h4⟩ := List.mem_map.mp e
    rw [← h4]
    exact Int.le_trans lack_le ((pp_ok h).1 pw h3).2
theorem flL_ok {kn : List Int} {pw many : Int} : ∀ (k : Nat) (f : List Int) (r : Int), 0 ≤ r → (∀ x ∈ f, 0 ≤ x ∧ x < pw) → (f.length : Int) ≤ many → (∀ x ∈ flL k kn pw many f r, 0 ≤ x ∧ x < pw) ∧ ((flL k kn pw many f r).length : Int) ≤ many
  | 0, f, r, _, h, l => ⟨h, l⟩
  | k + 1, f, r, h0, h, l => by
    unfold flL
    split
    · rename_i c
      refine flL_ok k _ _ (by omega) ?_ ?_
      · split
        · exact h
        · intro x hx
          rcases List.mem_append.mp hx with z | z
          · exact h x z
          · rw [List.mem_singleton.mp z]; exact ⟨h0, c.2⟩
      · split
        · exact l
        · rw [List.length_append, List.length_singleton]; omega
    · exact ⟨h, l⟩
theorem fl_ok {ps : List Int} {pw many : Int} (hp : 0 < pw) (hm : 0 ≤ many) : (∀ x ∈ flF ps pw many, 0 ≤ x ∧ x < pw) ∧ ((flF ps pw many).length : Int) = many := by
  have h := flL_ok (kn := sortU (resF ps pw)) (pw := pw) (many := many) 40 [] 0 (by omega) (by simp) (by simpa using hm)
  unfold flF
  refine ⟨fun x hx => ?_, ?_⟩
  · rcases List.mem_append.mp hx with z | z
    · exact h.1 x z
    · rw [(List.mem_replicate.mp z).2]; exact ⟨by omega, hp⟩
  · rw [List.length_append, List.length_replicate]
    have := h.2
    omega
end Kr
end
section
namespace Kr
open PySem L2
open Evl (Ex)
open C8 (Cal pe_c)
local macro_rules | `(tactic| walk_at "ev") => `(tactic| skip)
local macro_rules | `(tactic| walk_at "ev") => `(tactic| first
  | with_reducible exact ep_int
  | with_reducible exact ep_bl
  | with_reducible exact ep_non
  | with_reducible exact ea_nil
  | with_reducible exact et_yes
  | with_reducible exact eo_no
  | ((with_reducible apply ep_var); rfl)
  | (with_reducible apply ea_cons) <;> walk_at "ev"
  | (with_reducible apply ep_op) <;> walk_at "ev"
  | (with_reducible apply ep_un) <;> walk_at "ev"
  | (with_reducible apply ep_isi) <;> walk_at "ev"
  | ((with_reducible apply ep_lenV); rfl)
  | (with_reducible apply ep_len) <;> walk_at "ev"
  | (with_reducible apply ep_abs) <;> walk_at "ev"
  | (with_reducible apply ep_int1) <;> walk_at "ev"
  | (with_reducible apply ep_max2) <;> walk_at "ev"
  | (with_reducible apply ep_min2) <;> walk_at "ev"
  | (with_reducible apply et_test) <;> walk_at "ev"
  | (with_reducible apply et_B) <;> walk_at "ev"
  | (with_reducible apply et_not) <;> walk_at "ev"
  | (with_reducible apply ep_notV) <;> walk_at "ev"
  | (with_reducible apply ep_tup) <;> walk_at "ev"
  | (with_reducible apply eo_part) <;> walk_at "ev"
  | with_reducible exact od_i
  | with_reducible exact od_b
  | with_reducible exact od_eqI
  | with_reducible exact od_neI
  | with_reducible exact od_isN
  | with_reducible exact od_notN
  | with_reducible exact od_notB
  | with_reducible apply od_c
  | with_reducible exact od_ixT0
  | with_reducible exact od_ixT1
  | with_reducible exact od_ixL0
  | with_reducible exact od_ixL1
  | with_reducible exact od_ixL2
  | with_reducible apply od_ixL
  | with_reducible apply od_ixT
  | with_reducible exact ud_neg
  | (with_reducible refine' et_or ?_ (fun _ => ?_)) <;> walk_at "ev"
  | (with_reducible refine' et_and ?_ (fun _ => ?_)) <;> walk_at "ev"
  | (with_reducible refine' ep_orV ?_ (fun _ => ?_)) <;> walk_at "ev"
  | (with_reducible refine' ep_andV ?_ (fun _ => ?_)) <;> walk_at "ev"
  | (with_reducible refine' ep_chain ?_ ?_ ?_ (fun _ => ?_) (fun _ => ?_)) <;> walk_at "ev"
  | exact isi_int
  | exact isi_intb
  | exact isi_lst
  | exact isi_tup
  | exact Nat.le_of_ble_eq_true rfl)
local macro_rules | `(tactic| walk_at "ev") => `(tactic| (with_reducible apply ev_divisor_of) <;> walk_at "ev")
local macro_rules | `(tactic| walk_at "ev") => `(tactic| (with_reducible apply ev_multiple_of) <;> walk_at "ev")
local macro_rules | `(tactic| walk_at "ev") => `(tactic| (with_reducible apply ev_divides) <;> walk_at "ev")
local macro_rules | `(tactic| walk_at "ev") => `(tactic| (with_reducible apply ev_do_fit) <;> walk_at "ev")
local macro_rules | `(tactic| walk_at "ev") => `(tactic| (with_reducible apply ev_conflicts_in) <;> walk_at "ev")
local macro_rules | `(tactic| walk_at "ev") => `(tactic| (with_reducible apply ev_is_integer) <;> walk_at "ev")
local macro_rules | `(tactic| walk_at "ev") => `(tactic| (with_reducible apply ev_is_told) <;> walk_at "ev")
local macro_rules | `(tactic| walk_at "ev") => `(tactic| (with_reducible apply ev_is_item) <;> walk_at "ev")
local macro_rules | `(tactic| walk_at "ev") => `(tactic| (with_reducible apply ev_is_book) <;> walk_at "ev")
local macro_rules | `(tactic| walk_at "ev") => `(tactic| (with_reducible apply ev_need_book) <;> walk_at "ev")
local macro_rules | `(tactic| walk_at "ev") => `(tactic| (with_reducible apply ev_conflict_in) <;> walk_at "ev")
local macro_rules | `(tactic| walk_at "ev") => `(tactic| (with_reducible apply ev_need_fitting) <;> walk_at "ev")
local macro_rules | `(tactic| walk_at "ev") => `(tactic| (with_reducible apply ev_need_possible) <;> walk_at "ev")
local macro_rules | `(tactic| walk_at "ev") => `(tactic| (with_reducible apply ev_conflict_of) <;> walk_at "ev")
local macro_rules | `(tactic| walk_at "ev") => `(tactic| (with_reducible apply ev_all_conflicts) <;> walk_at "ev")
local macro_rules | `(tactic| walk_at "ev") => `(tactic| (with_reducible apply ev_need_modulus1) <;> walk_at "ev")
local macro_rules | `(tactic| walk_at "ev") => `(tactic| (with_reducible apply ev_need_modulus2) <;> walk_at "ev")
local macro_rules | `(tactic| walk_at "ev") => `(tactic| (with_reducible apply ev_inverse_of) <;> walk_at "ev")
local macro_rules | `(tactic| walk_at "ev") => `(tactic| (with_reducible apply ev_met) <;> walk_at "ev")
local macro_rules | `(tactic| walk_at "ev") => `(tactic| (with_reducible apply ev_class_by) <;> walk_at "ev")
local macro_rules | `(tactic| walk_at "ev") => `(tactic| (with_reducible apply ev_class_at) <;> walk_at "ev")
local macro_rules | `(tactic| walk_at "ev") => `(tactic| (with_reducible apply ev_can_have) <;> walk_at "ev")
local macro_rules | `(tactic| walk_at "ev") => `(tactic| (with_reducible apply ev_far_in) <;> walk_at "ev")
local macro_rules | `(tactic| walk_at "ev") => `(tactic| (with_reducible apply ev_need_sure) <;> walk_at "ev")
local macro_rules | `(tactic| walk_at "ev") => `(tactic| (with_reducible apply ev_reason_for) <;> walk_at "ev")
local macro_rules | `(tactic| walk_at "ev") => `(tactic| (with_reducible apply ev_are_indices) <;> walk_at "ev")
local macro_rules | `(tactic| walk_at "ev") => `(tactic| (with_reducible apply ev_shows_reason) <;> walk_at "ev")
local macro_rules | `(tactic| walk_at "ev") => `(tactic| (with_reducible apply ev_need_places) <;> walk_at "ev")
local macro_rules | `(tactic| walk_at "ev") => `(tactic| (with_reducible apply ev_need_open) <;> walk_at "ev")
local macro_rules | `(tactic| walk_at "ev") => `(tactic| (with_reducible apply ev_steps_in) <;> walk_at "ev")
local macro_rules | `(tactic| walk_at "ev") => `(tactic| (with_reducible apply ev_size_in) <;> walk_at "ev")
local macro_rules | `(tactic| walk_at "ev") => `(tactic| (with_reducible apply ev_count_in) <;> walk_at "ev")
local macro_rules | `(tactic| walk_at "ev") => `(tactic| (with_reducible apply ev_need_size) <;> walk_at "ev")
local macro_rules | `(tactic| walk_at "ev") => `(tactic| (with_reducible apply ev_step_list) <;> walk_at "ev")
local macro_rules | `(tactic| walk_at "ev") => `(tactic| (with_reducible apply ev_common_size) <;> walk_at "ev")
local macro_rules | `(tactic| walk_at "ev") => `(tactic| (with_reducible apply ev_count_fillings) <;> walk_at "ev")
local macro_rules | `(tactic| walk_at "ev") => `(tactic| (with_reducible apply ev_nth_filling) <;> walk_at "ev")
local macro_rules | `(tactic| walk_at "ev") => `(tactic| (with_reducible apply ev_index_in) <;> walk_at "ev")
local macro_rules | `(tactic| walk_at "ev") => `(tactic| (with_reducible apply ev_filling_index) <;> walk_at "ev")
local macro_rules | `(tactic| walk_at "ev") => `(tactic| (with_reducible apply ev_vectors_in) <;> walk_at "ev")
local macro_rules | `(tactic| walk_at "ev") => `(tactic| (with_reducible apply ev_summed) <;> walk_at "ev")
local macro_rules | `(tactic| walk_at "ev") => `(tactic| (with_reducible apply ev_need_weights) <;> walk_at "ev")
local macro_rules | `(tactic| walk_at "ev") => `(tactic| (with_reducible apply ev_sure_sum) <;> walk_at "ev")

/-! ### need_asked2 -/
abbrev N_need_asked : List Str := ["book", "modulus", "most"]
theorem sc_need_asked : FnScope N_need_asked ["book", "modulus", "most"] (defScope s_need_asked) := ⟨rfl, rfl, rfl, by decide +kernel, rfl, by decide +kernel, by decide +kernel⟩
def sp_need_asked2 : Sp := SpP (α := (List (Int × Int)) × Int) (fun x => (Bk x.1 ∧ confs x.1 = []) ∧ 1 ≤ x.2 ∧ x.2 ≤ 1000000) (fun x => [bkD x.1, .int x.2, .int 1000000]) (fun _ => .none)
theorem ev_need_asked2 {tr : TA} {G : Gm} {b : List (Int × Int)} {m : Int} (h : Ea tr G [bkD b, .int m]) (c : (Bk b ∧ confs b = []) ∧ 1 ≤ m ∧ m ≤ 1000000) : Ep (tCall sp_need_asked2 [.int 1000000] C8.E0 tr) G (.none) := ep_callD (α := (List (Int × Int)) × Int) (es := [.int 1000000]) (b, m) h (fun W => .cons (by constructor) .nil) rfl c
local macro_rules | `(tactic| walk_at "ev") => `(tactic| (with_reducible apply ev_need_asked2) <;> walk_at "ev")
theorem cal_need_asked2 {P : Program} {w : World} {K : PySem.W.Frag} {mg : Str → Option Value} {base : Heap} (T : Txt K mg) : Cal P w K mg base 6 "need_asked" sp_need_asked2 [.int 1000000] := by
  obtain ⟨fd, F⟩ := T.c.def_ 42 (d := d_need_asked) rfl
  obtain ⟨ds, rD, bD⟩ := F.binds1 (ps := ["book", "modulus", "most"]) 2 0 (fun z => nomatch z) rfl (fun _ _ _ _ _ _ _ us its hu hi => match us, its, hu, hi with | [_, _], [_], _, _ => ⟨_, rfl, rfl⟩)
  refine ⟨⟨_, fd, ["book", "modulus", "most"], ds, ?_, T.glo 42, F.kp, bD, rD⟩⟩
  refine F.ok sc_need_asked (fun vs H Q E h => len_of (α := (List (Int × Int)) × Int) (C := fun x => (Bk x.1 ∧ confs x.1 = []) ∧ 1 ≤ x.2 ∧ x.2 ≤ 1000000) (pre := fun x => [bkD x.1, .int x.2, .int 1000000]) (post := fun _ => .none) (p := 3) (fun _ => rfl) vs H Q E h) (fun cdv A outer s H vs Q E hr h => ?_)
  refine ⟨_, PSs.nox (pss_cons (ps_expr (pe_c (cal_need_book T) hr (by decide) rfl (pa_cons (pv 0) pa_nil)))
      (pss_cons (ps_expr (pe_c (cal_need_modulus2 T) hr (by decide) rfl (pa_cons (pv 1) (pa_cons (pv 2) pa_nil))))
      (pss_one (ps_expr (pe_c (cal_need_fitting T) hr (by decide) rfl (pa_cons (pv 0) pa_nil)))))), ?_⟩
  refine rd_of (α := (List (Int × Int)) × Int) (C := fun x => (Bk x.1 ∧ confs x.1 = []) ∧ 1 ≤ x.2 ∧ x.2 ≤ 1000000) (pre := fun x => [bkD x.1, .int x.2, .int 1000000]) (post := fun _ => .none) (p := 3) (N := N_need_asked) (fun _ => rfl) ?rd vs H Q E h
  case rd =>
    rintro ⟨b, m⟩ hh
    show Sx _ [some (.fro (bkD b)), some (.fro (.int m)), some (.fro (.int 1000000))] 0 _ _
    replace hh : (Bk b ∧ confs b = []) ∧ 1 ≤ m ∧ m ≤ 1000000 := hh
    obtain ⟨⟨hb, hf⟩, hm⟩ := hh
    refine sx_then (sx_drop (d := .none) (by walk_at "ev"; exact hb) ⟨rfl, rfl⟩) ?_
    refine sx_then (sx_drop (d := .none) (by walk_at "ev"; exact hm) ⟨rfl, rfl⟩) ?_
    refine sx_drop (d := .none) ?_ rfl
    walk_at "ev"
    exact ⟨hb.len, hf⟩
/-! ### need_asked3 -/
def sp_need_asked3 : Sp := SpP (α := (List (Int × Int)) × Int × Int) (fun x => (Bk x.1 ∧ confs x.1 = []) ∧ 1 ≤ x.2.1 ∧ x.2.1 ≤ x.2.2) (fun x => [bkD x.1, .int x.2.1, .int x.2.2]) (fun _ => .none)
theorem ev_need_asked3 {tr : TA} {G : Gm} {b : List (Int × Int)} {m k : Int} (h : Ea tr G [bkD b, .int m, .int k]) (c : (Bk b ∧ confs b = []) ∧ 1 ≤ m ∧ m ≤ k) : Ep (tCall sp_need_asked3 [] C8.E0 tr) G (.none) := ep_callD (α := (List (Int × Int)) × Int × Int) (es := []) (b, m, k) h (fun W => .nil) rfl c
local macro_rules | `(tactic| walk_at "ev") => `(tactic| (with_reducible apply ev_need_asked3) <;> walk_at "ev")
theorem cal_need_asked3 {P : Program} {w : World} {K : PySem.W.Frag} {mg : Str → Option Value} {base : Heap} (T : Txt K mg) : Cal P w K mg base 6 "need_asked" sp_need_asked3 [] := by
  obtain ⟨fd, F⟩ := T.c.def_ 42 (d := d_need_asked) rfl
  obtain ⟨ds, rD, bD⟩ := F.binds1 (ps := ["book", "modulus", "most"]) 3 1 (fun z => nomatch z) rfl (fun _ _ _ _ _ _ _ us its hu hi => match us, its, hu, hi with | [_, _, _], [_], _, _ => ⟨_, rfl, rfl⟩)
  refine ⟨⟨_, fd, ["book", "modulus", "most"], ds, ?_, T.glo 42, F.kp, bD, rD⟩⟩
  refine F.ok sc_need_asked (fun vs H Q E h => len_of (α := (List (Int × Int)) × Int × Int) (C := fun x => (Bk x.1 ∧ confs x.1 = []) ∧ 1 ≤ x.2.1 ∧ x.2.1 ≤ x.2.2) (pre := fun x => [bkD x.1, .int x.2.1, .int x.2.2]) (post := fun _ => .none) (p := 3) (fun _ => rfl) vs H Q E h) (fun cdv A outer s H vs Q E hr h => ?_)
  refine ⟨_, PSs.nox (pss_cons (ps_expr (pe_c (cal_need_book T) hr (by decide) rfl (pa_cons (pv 0) pa_nil)))
      (pss_cons (ps_expr (pe_c (cal_need_modulus2 T) hr (by decide) rfl (pa_cons (pv 1) (pa_cons (pv 2) pa_nil))))
      (pss_one (ps_expr (pe_c (cal_need_fitting T) hr (by decide) rfl (pa_cons (pv 0) pa_nil)))))), ?_⟩
  refine rd_of (α := (List (Int × Int)) × Int × Int) (C := fun x => (Bk x.1 ∧ confs x.1 = []) ∧ 1 ≤ x.2.1 ∧ x.2.1 ≤ x.2.2) (pre := fun x => [bkD x.1, .int x.2.1, .int x.2.2]) (post := fun _ => .none) (p := 3) (N := N_need_asked) (fun _ => rfl) ?rd vs H Q E h
  case rd =>
    rintro ⟨b, m, k⟩ hh
    show Sx _ [some (.fro (bkD b)), some (.fro (.int m)), some (.fro (.int k))] 0 _ _
    replace hh : (Bk b ∧ confs b = []) ∧ 1 ≤ m ∧ m ≤ k := hh
    obtain ⟨⟨hb, hf⟩, hm⟩ := hh
    refine sx_then (sx_drop (d := .none) (by walk_at "ev"; exact hb) ⟨rfl, rfl⟩) ?_
    refine sx_then (sx_drop (d := .none) (by walk_at "ev"; exact hm) ⟨rfl, rfl⟩) ?_
    refine sx_drop (d := .none) ?_ rfl
    walk_at "ev"
    exact ⟨hb.len, hf⟩
theorem sq_le {p l : Int} (h : 2 ≤ p) (k : p * p ≤ l) : p ≤ l ∧ 4 ≤ l := by
  have h1 : p * 2 ≤ p * p := Int.mul_le_mul_of_nonneg_left h (by omega)
  omega

/-! ### prime_powers -/
abbrev N_prime_powers : List Str := ["modulus", "found", "left", "prime", "power"]
theorem sc_prime_powers : FnScope N_prime_powers ["modulus"] (defScope s_prime_powers) := ⟨rfl, rfl, rfl, by decide +kernel, rfl, by decide +kernel, by decide +kernel⟩
def sp_prime_powers : Sp := SpP (α := Int) (fun m => 1 ≤ m ∧ m ≤ 30) (fun m => [.int m]) (fun m => iD (ppF m))
theorem ev_prime_powers {tr : TA} {G : Gm} {m : Int} (h : Ea tr G [.int m]) (c : 1 ≤ m ∧ m ≤ 30) : Ep (tCall sp_prime_powers [] C8.E0 tr) G (iD (ppF m)) := ep_call (α := Int) m h rfl c
local macro_rules | `(tactic| walk_at "ev") => `(tactic| (with_reducible apply ev_prime_powers) <;> walk_at "ev")
theorem cal_prime_powers {P : Program} {w : World} {K : PySem.W.Frag} {mg : Str → Option Value} {base : Heap} (T : Txt K mg) : Cal P w K mg base 1 "prime_powers" sp_prime_powers [] := by
  obtain ⟨fd, F⟩ := T.c.def_ 43 (d := d_prime_powers) rfl
  refine ⟨⟨_, fd, ["modulus"], [], ?_, T.glo 43, F.kp, F.bindsN (fun _ _ _ _ _ _ us hl => match us, hl with | [_], _ => rfl), .nil⟩⟩
  refine F.ok sc_prime_powers (fun vs H Q E h => len_of (α := Int) (C := fun m => 1 ≤ m ∧ m ≤ 30) (pre := fun m => [.int m]) (post := fun m => iD (ppF m)) (p := 1) (fun _ => rfl) vs H Q E h) (fun cdv A outer s H vs Q E hr h => ?_)
  refine ⟨_, PSs.nox (pss_cons (ps_par3 (i := 1) (j := 2) (l := 3) rfl sc_prime_powers.nd rfl rfl rfl (by decide) (by decide) (by decide) rfl rfl rfl (pa_cons (pe_lst pa_nil) (pa_cons (pv 0) (pa_cons pe_int pa_nil))) rfl)
      (pss_cons (ps_while PassesOwn.never (pt_cmpR op_le (pe_op op_mulW (pv 3) (pv 3)) (pv 2) (nomark _)) (pss_cons (ps_set (i := 4) sc_prime_powers.nd rfl (Or.inl rfl) pe_int)
      (pss_cons (ps_while PassesOwn.never (pt_cmpR op_eq (pe_op op_mod (pv 2) (pv 3)) pe_int (nomark _)) (pss_one (ps_par (i := 2) (j := 4) rfl sc_prime_powers.nd rfl rfl (by decide) rfl rfl (pa_cons (pe_op op_fdivW (pv 2) (pv 3)) (pa_cons (pe_op op_mulW (pv 4) (pv 3)) pa_nil)) rfl)))
      (pss_cons (ps_if (pt_cmpR op_gt (pv 4) pe_int (nomark _)) (pss_one (ps_expr (pe_bm PySem.F.plainAttrs_list PySem.F.slot_list_append PySem.F.type_list_append mt_append (pv 1) (pa_cons (pv 4) pa_nil)))) pss_nil)
      (pss_one (ps_aug (i := 3) sc_prime_powers.nd rfl (Or.inl rfl) pe_int ip_add))))))
      (pss_one (ps_ret (pe_ifExp (pt_cmpR op_gt (pv 2) pe_int (nomark _)) (pe_lst (StX.pa_star (pv 1) (pa_cons (pv 2) pa_nil))) (pv 1)))))), ?_⟩
  refine rd_of (α := Int) (C := fun m => 1 ≤ m ∧ m ≤ 30) (pre := fun m => [.int m]) (post := fun m => iD (ppF m)) (p := 1) (N := N_prime_powers) (fun _ => rfl) ?rd vs H Q E h
  case rd =>
    rintro m hm
    show Sx _ [some (.fro (.int m)), none, none, none, none] 0 _ _
    replace hm : 1 ≤ m ∧ m ≤ 30 := hm
    refine sx_then (G1 := [some (.fro (.int m)), some (.own []), some (.fro (.int m)), some (.fro (.int 2)), none]) (sx_par3N1 (xs := []) (c := .int m) (e := .int 2) (en_lst ea_nil (by decide)) (by walk_at "ev") (by walk_at "ev") ⟨rfl, rfl⟩) ?_
    refine sx_seq (M := fun G n' => ∃ (f : List Int) (l : Int) (a1 a2 : Option B), outerF 40 [] m 2 = (f, l) ∧ f.length ≤ 30 ∧ G = [some (.fro (.int m)), some (.own (f.map PyData.int)), some (.fro (.int l)), a1, a2]) ?_ ?_
    · refine sx_while (fun ms G n' => ∃ (f : List Int) (l p : Int) (a2 : Option B) (k : Nat), outerF k f l p = outerF 40 [] m 2 ∧ f.length + k ≤ 40 ∧ f.length ≤ 28 ∧ 2 ≤ p ∧ 1 ≤ l ∧ l ≤ 30 ∧ (p : Int) ≤ 31 ∧ (f.length : Int) + 2 ≤ p ∧ ms = (31 - p).toNat ∧ ms < k ∧ G = [some (.fro (.int m)), some (.own (f.map PyData.int)), some (.fro (.int l)), some (.fro (.int p)), a2]) 29
        ⟨[], m, 2, none, 40, rfl, by decide, by decide, by omega, hm.1, hm.2, by omega, by decide, rfl, by decide, rfl⟩ ?_
      rintro ms G n' ⟨f, l, p, a2, k, e1, fk, fl, p2, l1, l2, p3, fp, rfl, hk, rfl⟩
      refine ⟨decide (p * p ≤ l), ?_, fun hb => ?_, fun hb => ?_⟩
      · show Et _ [some (.fro (.int m)), some (.fro (.list (f.map PyData.int))), some (.fro (.int l)), some (.fro (.int p)), _] _
        walk_at "ev"
        exact Sm.cmul (k := 8) (l := 8) (sm_of 31 ⟨by omega, by omega⟩ (by decide)) (sm_of 31 ⟨by omega, by omega⟩ (by decide)) (by decide)
      · have hb : p * p ≤ l := by simpa using hb
        have sq := sq_le p2 hb
        refine sx_then (G1 := [some (.fro (.int m)), some (.own (f.map PyData.int)), some (.fro (.int l)), some (.fro (.int p)), some (.fro (.int 1))]) (sx_asg (d := .int 1) (by walk_at "ev") ⟨rfl, rfl⟩) ?_
        refine sx_seq (M := fun G n' => ∃ (l' pw : Int), innerF 40 l 1 p = (l', pw) ∧ 1 ≤ l' ∧ l' ≤ l ∧ G = [some (.fro (.int m)), some (.own (f.map PyData.int)), some (.fro (.int l')), some (.fro (.int p)), some (.fro (.int pw))]) ?_ ?_
        · refine sx_while (fun ms G n' => ∃ (l' pw : Int) (k : Nat), innerF k l' pw p = innerF 40 l 1 p ∧ 1 ≤ l' ∧ l' ≤ l ∧ 1 ≤ pw ∧ pw * l' ≤ 30 ∧ ms = l'.toNat ∧ ms < k ∧ G = [some (.fro (.int m)), some (.own (f.map PyData.int)), some (.fro (.int l')), some (.fro (.int p)), some (.fro (.int pw))]) l.toNat
            ⟨l, 1, 40, rfl, l1, Int.le_refl l, by decide, by omega, rfl, by omega, rfl⟩ ?_
          rintro ms G n' ⟨l', pw, k', i1, i2, i3, i4, i5, rfl, hk', rfl⟩
          refine ⟨decide (l' % p = 0), ?_, fun hb => ?_, fun hb => ?_⟩
          · show Et _ [some (.fro (.int m)), some (.fro (.list (f.map PyData.int))), some (.fro (.int l')), some (.fro (.int p)), some (.fro (.int pw))] _
            walk_at "ev"
            show 0 < p
            omega
          · have hb : l' % p = 0 := by simpa using hb
            have d := Int.dvd_of_emod_eq_zero hb
            obtain ⟨t, ht⟩ := d
            have et : l' / p = t := by rw [ht, Int.mul_ediv_cancel_left _ (by omega)]
            have t0 : 0 < t := by
              by_cases z : 0 < t
              · exact z
              · have z2 := Int.mul_nonneg (show 0 ≤ p by omega) (show 0 ≤ -t by omega)
                rw [Int.mul_neg] at z2
                omega
            have tl : t * 2 ≤ l' := by
              have := Int.mul_le_mul_of_nonneg_right p2 (Int.le_of_lt t0)
              rw [← ht] at this
              omega
            have pwl : pw * p * t = pw * l' := by rw [ht, Int.mul_assoc]
            have pw30 : pw ≤ 30 := by
              have := Int.mul_le_mul_of_nonneg_left i2 (show 0 ≤ pw by omega)
              omega
            cases k' with
            | zero => omega
            | succ k' =>
              refine sx_par (a := .int (l' / p)) (c := .int (pw * p)) ?_ ⟨(l' / p).toNat, by rw [et]; omega, l' / p, pw * p, k', ?_, by omega, by omega, ?_, by rw [et, pwl]; exact i5, rfl, by rw [et]; omega, rfl⟩
              · walk_at "ev"
                · exact Sm.cdiv (k := 8) (sm_of 31 ⟨by omega, by omega⟩ (by decide)) (by omega) (by decide)
                · exact Sm.cmul (k := 8) (l := 8) (sm_of 31 ⟨by omega, by omega⟩ (by decide)) (sm_of 31 ⟨by omega, by omega⟩ (by decide)) (by decide)
              · rw [← i1]
                show _ = if l' % p = 0 then _ else _
                rw [if_pos hb]
              · have := Int.mul_le_mul_of_nonneg_left (show 1 ≤ p by omega) (show 0 ≤ pw by omega)
                omega
          · have hb : ¬ l' % p = 0 := by simpa using hb
            refine ⟨l', pw, ?_, i2, i3, rfl⟩
            rw [← i1]
            cases k' with
            | zero => rfl
            | succ k' =>
              show (if l' % p = 0 then _ else _) = _
              rw [if_neg hb]
        · rintro G n' ⟨l', pw, i1, i2, i3, rfl⟩
          refine sx_seq (M := fun G n' => G = [some (.fro (.int m)), some (.own ((if 1 < pw then f ++ [pw] else f).map PyData.int)), some (.fro (.int l')), some (.fro (.int p)), some (.fro (.int pw))]) ?_ ?_
          · refine sx_if (b := decide (pw > 1)) ?_ (fun hc => ?_) (fun hc => ?_)
            · show Et _ [some (.fro (.int m)), some (.fro (.list (f.map PyData.int))), some (.fro (.int l')), some (.fro (.int p)), some (.fro (.int pw))] _
              walk_at "ev"
            · have hc : 1 < pw := by simpa using hc
              rw [if_pos hc, List.map_append]
              exact sx_app (xs := f.map PyData.int) (d := .int pw) rfl (ep_var rfl) (by rw [List.length_map]; omega) rfl
            · have hc : ¬ 1 < pw := by simpa using hc
              rw [if_neg hc]
              exact sx_next rfl
          · rintro G n' rfl
            have fl2 : (if 1 < pw then f ++ [pw] else f).length ≤ f.length + 1 := by
              split
              · rw [List.length_append]; exact Nat.le_refl _
              · omega
            have p4 : p ≤ 5 := by
              by_cases z : 6 ≤ p
              · have := Int.mul_le_mul z z (by decide) (by omega)
                omega
              · omega
            cases k with
            | zero => omega
            | succ k =>
              refine sx_aug (a := p) (c := 1) rfl (by walk_at "ev") ⟨(31 - (p + 1)).toNat, by omega, (if 1 < pw then f ++ [pw] else f), l', p + 1, some (.fro (.int pw)), k, ?_, by omega, by omega, by omega, i2, by omega, by omega, by omega, rfl, by omega, rfl⟩
              rw [← e1]
              show _ = if p * p ≤ l then _ else _
              rw [if_pos hb, i1]
      · have hb : ¬ p * p ≤ l := by simpa using hb
        refine ⟨f, l, some (.fro (.int p)), a2, ?_, by omega, rfl⟩
        rw [← e1]
        cases k with
        | zero => rfl
        | succ k =>
          show _ = (f, l)
          show (if p * p ≤ l then _ else _) = _
          rw [if_neg hb]
    · rintro G n' ⟨f, l, a1, a2, e1, hfl, rfl⟩
      refine sx_ret (d := if decide (l > 1) = true then .list (f.map PyData.int ++ [.int l]) else iD f) (ep_if ?_ (fun _ => ?_) (fun _ => ep_var rfl)) ?_
      · show Et _ [some (.fro (.int m)), some (.fro (.list (f.map PyData.int))), some (.fro (.int l)), _, _] _
        walk_at "ev"
      · refine ep_new (en_lst (ea_star (xs := f.map PyData.int) (ep_var rfl) (ea_cons (ep_var rfl) ea_nil)) ?_)
        rw [List.length_append, List.length_map]
        show _ + 1 ≤ _
        omega
      · show _ = iD (ppF m)
        unfold ppF
        rw [e1]
        by_cases z : 1 < l
        · rw [if_pos (show decide (l > 1) = true by simpa using z), if_pos z, iD_app]
          rfl
        · rw [if_neg (show ¬ decide (l > 1) = true by simpa using z), if_neg z]
end Kr
end
section
namespace Kr
open PySem L2
open Evl (Ex)
open C8 (Cal pe_c)
local macro_rules | `(tactic| walk_at "ev") => `(tactic| skip)
local macro_rules | `(tactic| walk_at "ev") => `(tactic| first
  | with_reducible exact ep_int
  | with_reducible exact ep_bl
  | with_reducible exact ep_non
  | with_reducible exact ea_nil
  | with_reducible exact et_yes
  | with_reducible exact eo_no
  | ((with_reducible apply ep_var); rfl)
  | (with_reducible apply ea_cons) <;> walk_at "ev"
  | (with_reducible apply ep_op) <;> walk_at "ev"
  | (with_reducible apply ep_un) <;> walk_at "ev"
  | (with_reducible apply ep_isi) <;> walk_at "ev"
  | ((with_reducible apply ep_lenV); rfl)
  | (with_reducible apply ep_len) <;> walk_at "ev"
  | (with_reducible apply ep_abs) <;> walk_at "ev"
  | (with_reducible apply ep_int1) <;> walk_at "ev"
  | (with_reducible apply ep_max2) <;> walk_at "ev"
  | (with_reducible apply ep_min2) <;> walk_at "ev"
  | (with_reducible apply et_test) <;> walk_at "ev"
  | (with_reducible apply et_B) <;> walk_at "ev"
  | (with_reducible apply et_not) <;> walk_at "ev"
  | (with_reducible apply ep_notV) <;> walk_at "ev"
  | (with_reducible apply ep_tup) <;> walk_at "ev"
  | (with_reducible apply eo_part) <;> walk_at "ev"
  | with_reducible exact od_i
  | with_reducible exact od_b
  | with_reducible exact od_eqI
  | with_reducible exact od_neI
  | with_reducible exact od_isN
  | with_reducible exact od_notN
  | with_reducible exact od_notB
  | with_reducible apply od_c
  | with_reducible exact od_ixT0
  | with_reducible exact od_ixT1
  | with_reducible exact od_ixL0
  | with_reducible exact od_ixL1
  | with_reducible exact od_ixL2
  | with_reducible apply od_ixL
  | with_reducible apply od_ixT
  | with_reducible exact ud_neg
  | (with_reducible refine' et_or ?_ (fun _ => ?_)) <;> walk_at "ev"
  | (with_reducible refine' et_and ?_ (fun _ => ?_)) <;> walk_at "ev"
  | (with_reducible refine' ep_orV ?_ (fun _ => ?_)) <;> walk_at "ev"
  | (with_reducible refine' ep_andV ?_ (fun _ => ?_)) <;> walk_at "ev"
  | (with_reducible refine' ep_chain ?_ ?_ ?_ (fun _ => ?_) (fun _ => ?_)) <;> walk_at "ev"
  | exact isi_int
  | exact isi_intb
  | exact isi_lst
  | exact isi_tup
  | exact Nat.le_of_ble_eq_true rfl)
local macro_rules | `(tactic| walk_at "ev") => `(tactic| (with_reducible apply ev_divisor_of) <;> walk_at "ev")
local macro_rules | `(tactic| walk_at "ev") => `(tactic| (with_reducible apply ev_multiple_of) <;> walk_at "ev")
local macro_rules | `(tactic| walk_at "ev") => `(tactic| (with_reducible apply ev_divides) <;> walk_at "ev")
local macro_rules | `(tactic| walk_at "ev") => `(tactic| (with_reducible apply ev_do_fit) <;> walk_at "ev")
local macro_rules | `(tactic| walk_at "ev") => `(tactic| (with_reducible apply ev_conflicts_in) <;> walk_at "ev")
local macro_rules | `(tactic| walk_at "ev") => `(tactic| (with_reducible apply ev_is_integer) <;> walk_at "ev")
local macro_rules | `(tactic| walk_at "ev") => `(tactic| (with_reducible apply ev_is_told) <;> walk_at "ev")
local macro_rules | `(tactic| walk_at "ev") => `(tactic| (with_reducible apply ev_is_item) <;> walk_at "ev")
local macro_rules | `(tactic| walk_at "ev") => `(tactic| (with_reducible apply ev_is_book) <;> walk_at "ev")
local macro_rules | `(tactic| walk_at "ev") => `(tactic| (with_reducible apply ev_need_book) <;> walk_at "ev")
local macro_rules | `(tactic| walk_at "ev") => `(tactic| (with_reducible apply ev_conflict_in) <;> walk_at "ev")
local macro_rules | `(tactic| walk_at "ev") => `(tactic| (with_reducible apply ev_need_fitting) <;> walk_at "ev")
local macro_rules | `(tactic| walk_at "ev") => `(tactic| (with_reducible apply ev_need_possible) <;> walk_at "ev")
local macro_rules | `(tactic| walk_at "ev") => `(tactic| (with_reducible apply ev_conflict_of) <;> walk_at "ev")
local macro_rules | `(tactic| walk_at "ev") => `(tactic| (with_reducible apply ev_all_conflicts) <;> walk_at "ev")
local macro_rules | `(tactic| walk_at "ev") => `(tactic| (with_reducible apply ev_need_modulus1) <;> walk_at "ev")
local macro_rules | `(tactic| walk_at "ev") => `(tactic| (with_reducible apply ev_need_modulus2) <;> walk_at "ev")
local macro_rules | `(tactic| walk_at "ev") => `(tactic| (with_reducible apply ev_inverse_of) <;> walk_at "ev")
local macro_rules | `(tactic| walk_at "ev") => `(tactic| (with_reducible apply ev_met) <;> walk_at "ev")
local macro_rules | `(tactic| walk_at "ev") => `(tactic| (with_reducible apply ev_class_by) <;> walk_at "ev")
local macro_rules | `(tactic| walk_at "ev") => `(tactic| (with_reducible apply ev_class_at) <;> walk_at "ev")
local macro_rules | `(tactic| walk_at "ev") => `(tactic| (with_reducible apply ev_can_have) <;> walk_at "ev")
local macro_rules | `(tactic| walk_at "ev") => `(tactic| (with_reducible apply ev_far_in) <;> walk_at "ev")
local macro_rules | `(tactic| walk_at "ev") => `(tactic| (with_reducible apply ev_need_sure) <;> walk_at "ev")
local macro_rules | `(tactic| walk_at "ev") => `(tactic| (with_reducible apply ev_reason_for) <;> walk_at "ev")
local macro_rules | `(tactic| walk_at "ev") => `(tactic| (with_reducible apply ev_are_indices) <;> walk_at "ev")
local macro_rules | `(tactic| walk_at "ev") => `(tactic| (with_reducible apply ev_shows_reason) <;> walk_at "ev")
local macro_rules | `(tactic| walk_at "ev") => `(tactic| (with_reducible apply ev_need_places) <;> walk_at "ev")
local macro_rules | `(tactic| walk_at "ev") => `(tactic| (with_reducible apply ev_need_open) <;> walk_at "ev")
local macro_rules | `(tactic| walk_at "ev") => `(tactic| (with_reducible apply ev_steps_in) <;> walk_at "ev")
local macro_rules | `(tactic| walk_at "ev") => `(tactic| (with_reducible apply ev_size_in) <;> walk_at "ev")
local macro_rules | `(tactic| walk_at "ev") => `(tactic| (with_reducible apply ev_count_in) <;> walk_at "ev")
local macro_rules | `(tactic| walk_at "ev") => `(tactic| (with_reducible apply ev_need_size) <;> walk_at "ev")
local macro_rules | `(tactic| walk_at "ev") => `(tactic| (with_reducible apply ev_step_list) <;> walk_at "ev")
local macro_rules | `(tactic| walk_at "ev") => `(tactic| (with_reducible apply ev_common_size) <;> walk_at "ev")
local macro_rules | `(tactic| walk_at "ev") => `(tactic| (with_reducible apply ev_count_fillings) <;> walk_at "ev")
local macro_rules | `(tactic| walk_at "ev") => `(tactic| (with_reducible apply ev_nth_filling) <;> walk_at "ev")
local macro_rules | `(tactic| walk_at "ev") => `(tactic| (with_reducible apply ev_index_in) <;> walk_at "ev")
local macro_rules | `(tactic| walk_at "ev") => `(tactic| (with_reducible apply ev_filling_index) <;> walk_at "ev")
local macro_rules | `(tactic| walk_at "ev") => `(tactic| (with_reducible apply ev_vectors_in) <;> walk_at "ev")
local macro_rules | `(tactic| walk_at "ev") => `(tactic| (with_reducible apply ev_summed) <;> walk_at "ev")
local macro_rules | `(tactic| walk_at "ev") => `(tactic| (with_reducible apply ev_need_weights) <;> walk_at "ev")
local macro_rules | `(tactic| walk_at "ev") => `(tactic| (with_reducible apply ev_sure_sum) <;> walk_at "ev")
local macro_rules | `(tactic| walk_at "ev") => `(tactic| (with_reducible apply ev_need_asked2) <;> walk_at "ev")
local macro_rules | `(tactic| walk_at "ev") => `(tactic| (with_reducible apply ev_need_asked3) <;> walk_at "ev")
local macro_rules | `(tactic| walk_at "ev") => `(tactic| (with_reducible apply ev_prime_powers) <;> walk_at "ev")

abbrev fsts (b : List (Int × Int)) : List Int := b.map (·.1)
theorem ep_res {ti : TI} {te : TE} {vs : List Nat} {i : Nat} {G : Gm} {ps : List Int} {pw : Int} (hs : Es ti G (iD ps |> fun _ => ps.map PyData.int)) (hx : ∀ x ∈ ps, Ep te ((wpG G vs).set i (some (.fro (.int x)))) (.int (x % pw))) (hz : ps.length ≤ 100000) (hi : i ∈ vs) : Ep (tLc ti (gName i) tYes te vs) G (iD (resF ps pw)) := by
  refine ep_new ?_
  unfold resF
  rw [map_int (fun p => p % pw)]
  exact en_m1 ps (fun x => PyData.int x) (fun x => PyData.int (x % pw)) hs hx hz hi
theorem Bk.fstD {b : List (Int × Int)} : iD (b.map (·.1)) = .list (b.map fun q => PyData.int q.1) := by unfold iD; rw [fst_map]

/-! ### lacking_in -/
abbrev N_lacking_in : List Str := ["places", "power", "place"]
theorem sc_lacking_in : FnScope N_lacking_in ["places", "power"] (defScope s_lacking_in) := ⟨rfl, rfl, rfl, by decide +kernel, rfl, by decide +kernel, by decide +kernel⟩
def sp_lacking_in : Sp := SpP (α := (List Int) × Int) (fun x => x.1.length ≤ 1000 ∧ 0 < x.2) (fun x => [iD x.1, .int x.2]) (fun x => .int (lackF x.1 x.2))
theorem ev_lacking_in {tr : TA} {G : Gm} {ps : List Int} {pw : Int} (h : Ea tr G [iD ps, .int pw]) (c : ps.length ≤ 1000 ∧ 0 < pw) : Ep (tCall sp_lacking_in [] C8.E0 tr) G (.int (lackF ps pw)) := ep_call (α := (List Int) × Int) (ps, pw) h rfl c
local macro_rules | `(tactic| walk_at "ev") => `(tactic| (with_reducible apply ev_lacking_in) <;> walk_at "ev")
theorem cal_lacking_in {P : Program} {w : World} {K : PySem.W.Frag} {mg : Str → Option Value} {base : Heap} (T : Txt K mg) : Cal P w K mg base 1 "lacking_in" sp_lacking_in [] := by
  obtain ⟨fd, F⟩ := T.c.def_ 44 (d := d_lacking_in) rfl
  refine ⟨⟨_, fd, ["places", "power"], [], ?_, T.glo 44, F.kp, F.bindsN (fun _ _ _ _ _ _ us hl => match us, hl with | [_, _], _ => rfl), .nil⟩⟩
  refine F.ok sc_lacking_in (fun vs H Q E h => len_of (α := (List Int) × Int) (C := fun x => x.1.length ≤ 1000 ∧ 0 < x.2) (pre := fun x => [iD x.1, .int x.2]) (post := fun x => .int (lackF x.1 x.2)) (p := 2) (fun _ => rfl) vs H Q E h) (fun cdv A outer s H vs Q E hr h => ?_)
  refine ⟨_, PSs.nox (pss_one (ps_ret (pe_op op_sub (pv 1) (pe_callB (lenSetK (w := w)) rfl (free_len T) bb_len (pa_cons (pe_callTy (setK (w := w) rfl) rfl (free_set T) bb_set (pa_cons (pe_lc (own := [("place", 2)]) rfl sc_lacking_in.nd (piL (K := K) (pv 0)) (blkOk_by (N := N_lacking_in) (sc := defScope s_lacking_in) (by decide +kernel)) (fun _ _ _ _ _ => (pg_name (i := 2) sc_lacking_in.nd rfl (Or.inl rfl))) (fun _ _ _ _ _ => pts_nil) (fun _ _ _ _ _ => (pe_op op_mod (pv 2) (pv 1)))) pa_nil)) pa_nil))))), ?_⟩
  refine rd_of (α := (List Int) × Int) (C := fun x => x.1.length ≤ 1000 ∧ 0 < x.2) (pre := fun x => [iD x.1, .int x.2]) (post := fun x => .int (lackF x.1 x.2)) (p := 2) (N := N_lacking_in) (fun _ => rfl) ?rd vs H Q E h
  case rd =>
    rintro ⟨ps, pw⟩ hh
    show Sx _ [some (.fro (iD ps)), some (.fro (.int pw)), none] 0 _ _
    replace hh : ps.length ≤ 1000 ∧ 0 < pw := hh
    obtain ⟨hl, hp⟩ := hh
    refine sx_ret (d := .int (lackF ps pw)) ?_ rfl
    unfold lackF
    refine ep_op (ep_var rfl) (ep_lenSet (ns := resF ps pw) (ep_res (es_list (ep_var rfl)) (fun x hx => ?_) (by omega) (by decide)) (by unfold resF; rw [List.length_map]; exact hl)) od_i
    walk_at "ev"
    exact hp
/-! ### most_lacking -/
abbrev N_most_lacking : List Str := ["places", "modulus", "power"]
theorem sc_most_lacking : FnScope N_most_lacking ["places", "modulus"] (defScope s_most_lacking) := ⟨rfl, rfl, rfl, by decide +kernel, rfl, by decide +kernel, by decide +kernel⟩
def sp_most_lacking : Sp := SpP (α := (List Int) × Int) (fun x => x.1.length ≤ 1000 ∧ 1 ≤ x.2 ∧ x.2 ≤ 30) (fun x => [iD x.1, .int x.2]) (fun x => .int (mostF x.1 x.2))
theorem ev_most_lacking {tr : TA} {G : Gm} {ps : List Int} {m : Int} (h : Ea tr G [iD ps, .int m]) (c : ps.length ≤ 1000 ∧ 1 ≤ m ∧ m ≤ 30) : Ep (tCall sp_most_lacking [] C8.E0 tr) G (.int (mostF ps m)) := ep_call (α := (List Int) × Int) (ps, m) h rfl c
local macro_rules | `(tactic| walk_at "ev") => `(tactic| (with_reducible apply ev_most_lacking) <;> walk_at "ev")
theorem cal_most_lacking {P : Program} {w : World} {K : PySem.W.Frag} {mg : Str → Option Value} {base : Heap} (T : Txt K mg) : Cal P w K mg base 2 "most_lacking" sp_most_lacking [] := by
  obtain ⟨fd, F⟩ := T.c.def_ 45 (d := d_most_lacking) rfl
  refine ⟨⟨_, fd, ["places", "modulus"], [], ?_, T.glo 45, F.kp, F.bindsN (fun _ _ _ _ _ _ us hl => match us, hl with | [_, _], _ => rfl), .nil⟩⟩
  refine F.ok sc_most_lacking (fun vs H Q E h => len_of (α := (List Int) × Int) (C := fun x => x.1.length ≤ 1000 ∧ 1 ≤ x.2 ∧ x.2 ≤ 30) (pre := fun x => [iD x.1, .int x.2]) (post := fun x => .int (mostF x.1 x.2)) (p := 2) (fun _ => rfl) vs H Q E h) (fun cdv A outer s H vs Q E hr h => ?_)
  refine ⟨_, PSs.nox (pss_one (ps_ret (pe_callB (maxK (K := K) rfl) rfl (free_max T) bb_max (pa_cons (pe_op op_cat (pe_lst (pa_cons pe_int pa_nil)) (pe_lc (own := [("power", 2)]) rfl sc_most_lacking.nd (piL (K := K) (pe_c (cal_prime_powers T) hr (by decide) rfl (pa_cons (pv 1) pa_nil))) (blkOk_by (N := N_most_lacking) (sc := defScope s_most_lacking) (by decide +kernel)) (fun _ _ _ _ _ => (pg_name (i := 2) sc_most_lacking.nd rfl (Or.inl rfl))) (fun _ _ _ _ _ => pts_nil) (fun _ _ _ _ _ => (pe_c (cal_lacking_in T) hr (by decide) rfl (pa_cons (pv 0) (pa_cons (pv 2) pa_nil)))))) pa_nil)))), ?_⟩
  refine rd_of (α := (List Int) × Int) (C := fun x => x.1.length ≤ 1000 ∧ 1 ≤ x.2 ∧ x.2 ≤ 30) (pre := fun x => [iD x.1, .int x.2]) (post := fun x => .int (mostF x.1 x.2)) (p := 2) (N := N_most_lacking) (fun _ => rfl) ?rd vs H Q E h
  case rd =>
    rintro ⟨ps, m⟩ hh
    show Sx _ [some (.fro (iD ps)), some (.fro (.int m)), none] 0 _ _
    replace hh : ps.length ≤ 1000 ∧ 1 ≤ m ∧ m ≤ 30 := hh
    obtain ⟨hl, hm⟩ := hh
    have hp := pp_ok hm
    refine sx_ret (d := .int (mostF ps m)) (ep_cb (ea_cons ?_ ea_nil) (cd_max 0 ((ppF m).map (lackF ps)))) rfl
    show Ep _ _ (.list (PyData.int 0 :: ((ppF m).map (lackF ps)).map PyData.int))
    rw [map_int (lackF ps)]
    refine ep_new (en_op (xs := [.int 0] ++ (ppF m).map fun x => PyData.int (lackF ps x)) (d1 := .list [.int 0]) (d2 := .list ((ppF m).map fun x => PyData.int (lackF ps x))) (ep_new (en_lst (ea_cons ep_int ea_nil) (by decide))) (ep_new ?_) (on_cat ?_))
    · refine en_m1 (ppF m) (fun x => PyData.int x) (fun x => PyData.int (lackF ps x)) (es_list (ev_prime_powers (by walk_at "ev") hm)) (fun x hx => ?_) (by omega)
      walk_at "ev"
      exact ⟨hl, by have := (hp.1 x hx).1; omega⟩
    · rw [List.length_map]
      show 1 + _ ≤ 100000
      omega
/-! ### first_lacking -/
abbrev N_first_lacking : List Str := ["places", "power", "many", "known", "found", "rest", "place"]
theorem sc_first_lacking : FnScope N_first_lacking ["places", "power", "many"] (defScope s_first_lacking) := ⟨rfl, rfl, rfl, by decide +kernel, rfl, by decide +kernel, by decide +kernel⟩
def sp_first_lacking : Sp := SpP (α := (List Int) × Int × Int) (fun x => x.1.length ≤ 60 ∧ (1 ≤ x.2.1 ∧ x.2.1 ≤ 30) ∧ 0 ≤ x.2.2 ∧ x.2.2 ≤ 30) (fun x => [iD x.1, .int x.2.1, .int x.2.2]) (fun x => iD (flF x.1 x.2.1 x.2.2))
theorem ev_first_lacking {tr : TA} {G : Gm} {ps : List Int} {pw many : Int} (h : Ea tr G [iD ps, .int pw, .int many]) (c : ps.length ≤ 60 ∧ (1 ≤ pw ∧ pw ≤ 30) ∧ 0 ≤ many ∧ many ≤ 30) : Ep (tCall sp_first_lacking [] C8.E0 tr) G (iD (flF ps pw many)) := ep_call (α := (List Int) × Int × Int) (ps, pw, many) h rfl c
local macro_rules | `(tactic| walk_at "ev") => `(tactic| (with_reducible apply ev_first_lacking) <;> walk_at "ev")
theorem cal_first_lacking {P : Program} {w : World} {K : PySem.W.Frag} {mg : Str → Option Value} {base : Heap} (T : Txt K mg) : Cal P w K mg base 1 "first_lacking" sp_first_lacking [] := by
  obtain ⟨fd, F⟩ := T.c.def_ 46 (d := d_first_lacking) rfl
  refine ⟨⟨_, fd, ["places", "power", "many"], [], ?_, T.glo 46, F.kp, F.bindsN (fun _ _ _ _ _ _ us hl => match us, hl with | [_, _, _], _ => rfl), .nil⟩⟩
  refine F.ok sc_first_lacking (fun vs H Q E h => len_of (α := (List Int) × Int × Int) (C := fun x => x.1.length ≤ 60 ∧ (1 ≤ x.2.1 ∧ x.2.1 ≤ 30) ∧ 0 ≤ x.2.2 ∧ x.2.2 ≤ 30) (pre := fun x => [iD x.1, .int x.2.1, .int x.2.2]) (post := fun x => iD (flF x.1 x.2.1 x.2.2)) (p := 3) (fun _ => rfl) vs H Q E h) (fun cdv A outer s H vs Q E hr h => ?_)
  refine ⟨_, PSs.nox (pss_cons (ps_par3 (i := 3) (j := 4) (l := 5) rfl sc_first_lacking.nd rfl rfl rfl (by decide) (by decide) (by decide) rfl rfl rfl (pa_cons (pe_callB (sortSetK (w := w) rfl) rfl (free_sorted T) bb_sorted (pa_cons (pe_callTy (setK (w := w) rfl) rfl (free_set T) bb_set (pa_cons (pe_lc (own := [("place", 6)]) rfl sc_first_lacking.nd (piL (K := K) (pv 0)) (blkOk_by (N := N_first_lacking) (sc := defScope s_first_lacking) (by decide +kernel)) (fun _ _ _ _ _ => (pg_name (i := 6) sc_first_lacking.nd rfl (Or.inl rfl))) (fun _ _ _ _ _ => pts_nil) (fun _ _ _ _ _ => (pe_op op_mod (pv 6) (pv 1)))) pa_nil)) pa_nil)) (pa_cons (pe_lst pa_nil) (pa_cons pe_int pa_nil))) rfl)
      (pss_cons (ps_while PassesOwn.never (PW.pt (pw_and (pt_cmpR op_lt (pe_callB (lenK (K := K)) rfl (free_len T) bb_len (pa_cons (pv 4) pa_nil)) (pv 2) (nomark _)) (pw_and1 (pt_cmpR op_lt (pv 5) (pv 1) (nomark _))))) (pss_cons (ps_if (pt_cmpR (ninK (K := K)) (pv 5) (pv 3) rfl) (pss_one (ps_expr (pe_bm PySem.F.plainAttrs_list PySem.F.slot_list_append PySem.F.type_list_append mt_append (pv 4) (pa_cons (pv 5) pa_nil)))) pss_nil)
      (pss_one (ps_aug (i := 5) sc_first_lacking.nd rfl (Or.inl rfl) pe_int ip_add))))
      (pss_one (ps_ret (pe_op op_cat (pv 4) (pe_op op_rep (pe_lst (pa_cons pe_int pa_nil)) (pe_op op_sub (pv 2) (pe_callB (lenK (K := K)) rfl (free_len T) bb_len (pa_cons (pv 4) pa_nil))))))))), ?_⟩
  refine rd_of (α := (List Int) × Int × Int) (C := fun x => x.1.length ≤ 60 ∧ (1 ≤ x.2.1 ∧ x.2.1 ≤ 30) ∧ 0 ≤ x.2.2 ∧ x.2.2 ≤ 30) (pre := fun x => [iD x.1, .int x.2.1, .int x.2.2]) (post := fun x => iD (flF x.1 x.2.1 x.2.2)) (p := 3) (N := N_first_lacking) (fun _ => rfl) ?rd vs H Q E h
  case rd =>
    rintro ⟨ps, pw, many⟩ hh
    show Sx _ [some (.fro (iD ps)), some (.fro (.int pw)), some (.fro (.int many)), none, none, none, none] 0 _ _
    replace hh : ps.length ≤ 60 ∧ (1 ≤ pw ∧ pw ≤ 30) ∧ 0 ≤ many ∧ many ≤ 30 := hh
    obtain ⟨hl, hp, hm⟩ := hh
    refine sx_then (G1 := [some (.fro (iD ps)), some (.fro (.int pw)), some (.fro (.int many)), some (.fro (iD (sortU (resF ps pw)))), some (.own []), some (.fro (.int 0)), none]) (sx_par3N2 (a := iD (sortU (resF ps pw))) (xs := []) (e := .int 0) (ep_new (en_sortedSet (ns := resF ps pw) (ep_res (es_list (ep_var rfl)) (fun x hx => ?_) (by omega) (by decide)) (by unfold resF; rw [List.length_map]; exact hl))) (en_lst ea_nil (by decide)) (by walk_at "ev") ⟨rfl, rfl⟩) ?_
    · walk_at "ev"
      show 0 < pw
      omega
    generalize hk : sortU (resF ps pw) = kn
    refine sx_seq (M := fun G n' => ∃ a5 a6, (flL 40 kn pw many [] 0).length ≤ 40 ∧ G = [some (.fro (iD ps)), some (.fro (.int pw)), some (.fro (.int many)), some (.fro (iD kn)), some (.own ((flL 40 kn pw many [] 0).map PyData.int)), a5, a6]) ?_ ?_
    · refine sx_while (fun ms G n' => ∃ (f : List Int) (r : Int) (k : Nat) (a6 : Option B), flL k kn pw many f r = flL 40 kn pw many [] 0 ∧ 0 ≤ r ∧ r ≤ pw ∧ (f.length : Int) ≤ r ∧ ms = (pw - r).toNat ∧ ms < k ∧ G = [some (.fro (iD ps)), some (.fro (.int pw)), some (.fro (.int many)), some (.fro (iD kn)), some (.own (f.map PyData.int)), some (.fro (.int r)), a6]) pw.toNat
        ⟨[], 0, 40, none, rfl, by omega, by omega, by decide, by omega, by omega, rfl⟩ ?_
      rintro ms G n' ⟨f, r, k, a6, e1, r0, r1, fl, rfl, hk2, rfl⟩
      refine ⟨decide ((((f.map PyData.int).length : Nat) : Int) < many) && decide (r < pw), ?_, fun hb => ?_, fun hb => ?_⟩
      · show Et _ [some (.fro (iD ps)), some (.fro (.int pw)), some (.fro (.int many)), some (.fro (iD kn)), some (.fro (.list (f.map PyData.int))), some (.fro (.int r)), _] _
        walk_at "ev"
      · rw [List.length_map] at hb
        simp only [Bool.and_eq_true, decide_eq_true_eq] at hb
        refine sx_seq (M := fun G n' => G = [some (.fro (iD ps)), some (.fro (.int pw)), some (.fro (.int many)), some (.fro (iD kn)), some (.own ((if r ∈ kn then f else f ++ [r]).map PyData.int)), some (.fro (.int r)), a6]) ?_ ?_
        · refine sx_if (b := !decide (r ∈ kn)) ?_ (fun hc => ?_) (fun hc => ?_)
          · show Et _ [some (.fro (iD ps)), some (.fro (.int pw)), some (.fro (.int many)), some (.fro (iD kn)), some (.fro (.list (f.map PyData.int))), some (.fro (.int r)), _] _
            exact et_test (ep_op (ep_var rfl) (ep_var rfl) (od_notIn r kn))
          · have hc : ¬ r ∈ kn := by simpa using hc
            rw [if_neg hc, List.map_append]
            exact sx_app (xs := f.map PyData.int) (d := .int r) rfl (ep_var rfl) (by rw [List.length_map]; omega) rfl
          · have hc : r ∈ kn := by simpa using hc
            rw [if_pos hc]
            exact sx_next rfl
        · rintro G n' rfl
          have l2 : (if r ∈ kn then f else f ++ [r]).length ≤ f.length + 1 := by
            split
            · omega
            · rw [List.length_append]; exact Nat.le_refl _
          cases k with
          | zero => omega
          | succ k =>
            refine sx_aug (a := r) (c := 1) rfl (by walk_at "ev") ⟨(pw - (r + 1)).toNat, by omega, (if r ∈ kn then f else f ++ [r]), r + 1, k, a6, ?_, by omega, by omega, by omega, rfl, by omega, rfl⟩
            rw [← e1]
            show _ = if (f.length : Int) < many ∧ r < pw then _ else _
            rw [if_pos hb]
      · rw [List.length_map] at hb
        have hb : ¬ ((f.length : Int) < many ∧ r < pw) := by
          intro z
          rw [decide_eq_true z.1, decide_eq_true z.2] at hb
          cases hb
        have e2 : flL 40 kn pw many [] 0 = f := by
          rw [← e1]
          cases k with
          | zero => rfl
          | succ k =>
            show (if (f.length : Int) < many ∧ r < pw then _ else _) = _
            rw [if_neg hb]
        rw [e2]
        exact ⟨some (.fro (.int r)), a6, by omega, rfl⟩
    · rintro G n' ⟨a5, a6, fl, rfl⟩
      have hok := (flL_ok (kn := kn) (pw := pw) (many := many) 40 [] 0 (by omega) (by simp) (by simpa using hm.1)).2
      have eF : flF ps pw many = flL 40 kn pw many [] 0 ++ List.replicate (many - ((flL 40 kn pw many [] 0).length : Int)).toNat 0 := by unfold flF; rw [hk]
      generalize flL 40 kn pw many [] 0 = f at *
      refine sx_ret (d := .list (f.map PyData.int ++ (List.replicate (many - (f.length : Int)).toNat [PyData.int 0]).flatten)) ?_ ?_
      · show Ep _ [some (.fro (iD ps)), some (.fro (.int pw)), some (.fro (.int many)), some (.fro (iD kn)), some (.fro (.list (f.map PyData.int))), _, _] _
        refine ep_new (en_op (ep_var rfl) (ep_new (en_repN (xs := [.int 0]) (k := (many - (f.length : Int)).toNat) (ep_new (en_lst (ea_cons ep_int ea_nil) (by decide))) ?_ (by rw [List.length_singleton]; omega) (by omega))) (on_cat ?_))
        · rw [show (((many - (f.length : Int)).toNat : Nat) : Int) = many - (((f.map PyData.int).length : Nat) : Int) by rw [List.length_map]; omega]
          exact ep_op (ep_var rfl) (ep_len (ep_var rfl)) od_i
        · rw [rep_one, List.length_map, List.length_map, List.length_replicate]
          omega
      · show _ = iD (flF ps pw many)
        rw [eF, rep_one, iD_app]
theorem tab_snoc {m r : Int} {pr : List (Int × Int)} {q : Int × Int} {c : Int × Int} : (pr ++ [q]).foldl (tabS m r) c = tabS m r (pr.foldl (tabS m r) c) q := by rw [List.foldl_append]; rfl
theorem gcd_bd {a m : Int} (hm : 1 ≤ m) : 0 < (Int.gcd a m : Int) ∧ (Int.gcd a m : Int) ≤ m := by
  have h1 := Int.gcd_pos_of_ne_zero_right a (b := m) (by omega)
  have h2 := Int.le_of_dvd (by omega) (Int.gcd_dvd_right a m)
  exact ⟨by omega, h2⟩
theorem tab_ok {m r : Int} (hm : 1 ≤ m ∧ m ≤ 60) : ∀ (l : List (Int × Int)), (0 ≤ (l.foldl (tabS m r) (0, 1)).1 ∧ (l.foldl (tabS m r) (0, 1)).1 < (l.foldl (tabS m r) (0, 1)).2) ∧ Sm (8 * l.length + 1) (l.foldl (tabS m r) (0, 1)).2 := by
  have g : ∀ (l : List (Int × Int)) (c : Int × Int) (k : Nat), (0 ≤ c.1 ∧ c.1 < c.2) → Sm k c.2 → (0 ≤ (l.foldl (tabS m r) c).1 ∧ (l.foldl (tabS m r) c).1 < (l.foldl (tabS m r) c).2) ∧ Sm (8 * l.length + k) (l.foldl (tabS m r) c).2 := by
    intro l
    induction l with
    | nil => intro c k h s; exact ⟨h, by simpa using s⟩
    | cons q l ih =>
      intro c k h s
      have gb := gcd_bd (a := ((r - q.1).natAbs : Int)) hm.1
      have h2 := ih (tabS m r c q) (k + 8) (metF_bd h gb.1) (metF_sz (by omega) gb.1 s (sm_of 60 ⟨by show _ ≤ (Int.gcd _ _ : Int); omega, by show (Int.gcd _ _ : Int) ≤ 60; omega⟩ (by decide)))
      refine ⟨h2.1, h2.2.mono ?_⟩
      rw [List.length_cons]
      omega
  exact fun l => g l (0, 1) 1 (by decide) (by unfold Sm; decide)
theorem rng_map (n : Nat) : rngD 0 n = (List.range n).map fun (i : Nat) => PyData.int (i : Int) := by
  unfold rngD
  refine List.map_congr_left fun k _ => ?_
  rw [Int.zero_add]

/-! ### sure_table -/
abbrev N_sure_table : List Str := ["book", "modulus", "found", "rest", "own_class", "told", "value", "part"]
theorem sc_sure_table : FnScope N_sure_table ["book", "modulus"] (defScope s_sure_table) := ⟨rfl, rfl, rfl, by decide +kernel, rfl, by decide +kernel, by decide +kernel⟩
def sp_sure_table : Sp := SpP (α := (List (Int × Int)) × Int) (fun x => (Bk x.1 ∧ confs x.1 = []) ∧ 1 ≤ x.2 ∧ x.2 ≤ 60) (fun x => [bkD x.1, .int x.2]) (fun x => bkD (tabF x.1 x.2))
theorem ev_sure_table {tr : TA} {G : Gm} {b : List (Int × Int)} {m : Int} (h : Ea tr G [bkD b, .int m]) (c : (Bk b ∧ confs b = []) ∧ 1 ≤ m ∧ m ≤ 60) : Ep (tCall sp_sure_table [] C8.E0 tr) G (bkD (tabF b m)) := ep_call (α := (List (Int × Int)) × Int) (b, m) h rfl c
local macro_rules | `(tactic| walk_at "ev") => `(tactic| (with_reducible apply ev_sure_table) <;> walk_at "ev")
theorem cal_sure_table {P : Program} {w : World} {K : PySem.W.Frag} {mg : Str → Option Value} {base : Heap} (T : Txt K mg) : Cal P w K mg base 7 "sure_table" sp_sure_table [] := by
  obtain ⟨fd, F⟩ := T.c.def_ 47 (d := d_sure_table) rfl
  obtain ⟨t_MOST_TABLE, g_MOST_TABLE⟩ := cst_MOST_TABLE T
  refine ⟨⟨_, fd, ["book", "modulus"], [], ?_, T.glo 47, F.kp, F.bindsN (fun _ _ _ _ _ _ us hl => match us, hl with | [_, _], _ => rfl), .nil⟩⟩
  refine F.ok sc_sure_table (fun vs H Q E h => len_of (α := (List (Int × Int)) × Int) (C := fun x => (Bk x.1 ∧ confs x.1 = []) ∧ 1 ≤ x.2 ∧ x.2 ≤ 60) (pre := fun x => [bkD x.1, .int x.2]) (post := fun x => bkD (tabF x.1 x.2)) (p := 2) (fun _ => rfl) vs H Q E h) (fun cdv A outer s H vs Q E hr h => ?_)
  refine ⟨_, PSs.nox (pss_cons (ps_expr (pe_c (cal_need_asked3 T) hr (by decide) rfl (pa_cons (pv 0) (pa_cons (pv 1) (pa_cons (pe_glob (v := .int 60) rfl g_MOST_TABLE ⟨_, rfl⟩) pa_nil)))))
      (pss_cons (ps_set (i := 2) sc_sure_table.nd rfl (Or.inl rfl) (pe_lst pa_nil))
      (pss_cons (ps_for PassesOwn.never rfl (pi_range1 rfl (free_range T) (pa_cons (pv 1) pa_nil)) (pg_name (i := 3) sc_sure_table.nd rfl (Or.inl rfl)) (pss_cons (ps_set (i := 4) sc_sure_table.nd rfl (Or.inl rfl) (pe_tup (pa_cons pe_int (pa_cons pe_int pa_nil))))
      (pss_cons (ps_for PassesOwn.never rfl (piL (K := K) (pv 0)) (pgT (K := K) (n := 2) rfl (pgs_cons (pg_name (i := 5) sc_sure_table.nd rfl (Or.inl rfl)) (pgs_cons (pg_name (i := 6) sc_sure_table.nd rfl (Or.inl rfl)) pgs_nil))) (pss_cons (ps_set (i := 7) sc_sure_table.nd rfl (Or.inl rfl) (pe_c (cal_divisor_of T) hr (by decide) rfl (pa_cons (pe_callB k_abs rfl (free_abs T) bb_abs (pa_cons (pe_op op_sub (pv 3) (pv 5)) pa_nil)) (pa_cons (pv 1) pa_nil))))
      (pss_one (ps_set (i := 4) sc_sure_table.nd rfl (Or.inl rfl) (pe_c (cal_met T) hr (by decide) rfl (pa_cons (pv 4) (pa_cons (pe_tup (pa_cons (pe_op op_mod (pv 6) (pv 7)) (pa_cons (pv 7) pa_nil))) pa_nil)))))))
      (pss_one (ps_expr (pe_bm PySem.F.plainAttrs_list PySem.F.slot_list_append PySem.F.type_list_append mt_append (pv 2) (pa_cons (pv 4) pa_nil)))))))
      (pss_one (ps_ret (pv 2)))))), ?_⟩
  refine rd_of (α := (List (Int × Int)) × Int) (C := fun x => (Bk x.1 ∧ confs x.1 = []) ∧ 1 ≤ x.2 ∧ x.2 ≤ 60) (pre := fun x => [bkD x.1, .int x.2]) (post := fun x => bkD (tabF x.1 x.2)) (p := 2) (N := N_sure_table) (fun _ => rfl) ?rd vs H Q E h
  case rd =>
    rintro ⟨b, m⟩ hh
    show Sx _ [some (.fro (bkD b)), some (.fro (.int m)), none, none, none, none, none, none] 0 _ _
    replace hh : (Bk b ∧ confs b = []) ∧ 1 ≤ m ∧ m ≤ 60 := hh
    obtain ⟨⟨hb, hf⟩, hm⟩ := hh
    have hbl : b.length ≤ 24 := hb.len
    refine sx_then (sx_drop (d := .none) (by walk_at "ev"; exact ⟨⟨hb, hf⟩, hm⟩) ⟨rfl, rfl⟩) ?_
    refine sx_then (G1 := [some (.fro (bkD b)), some (.fro (.int m)), some (.own []), none, none, none, none, none]) (sx_new (xs := []) (en_lst ea_nil (by decide)) ⟨rfl, rfl⟩) ?_
    refine sx_seq (M := fun G n' => ∃ a3 a4 a5 a6 a7, G = [some (.fro (bkD b)), some (.fro (.int m)), some (.own ((tabF b m).map prD)), a3, a4, a5, a6, a7]) ?_ ?_
    · refine sx_forP (List.range m.toNat) (fun (r : Nat) => PyData.int (r : Int)) (fun pr G n' => ∃ a3 a4 a5 a6 a7, G = [some (.fro (bkD b)), some (.fro (.int m)), some (.own ((pr.map fun (r : Nat) => tabC b m (r : Int)).map prD)), a3, a4, a5, a6, a7]) (es_rng1e (j := m) (by walk_at "ev") (rng_map _) (by omega) (by omega)) ⟨none, none, none, none, none, rfl⟩ ?_ (fun G n' h => h)
      rintro pr r po G n' e0 ⟨a3, a4, a5, a6, a7, rfl⟩
      have hpl : pr.length ≤ 60 := by
        have := congrArg List.length e0
        rw [List.length_range, List.length_append, List.length_cons] at this
        omega
      refine ⟨_, _, tg_name, ?_⟩
      show Sx _ [some (.fro (bkD b)), some (.fro (.int m)), some (.own ((pr.map fun (r : Nat) => tabC b m (r : Int)).map prD)), some (.fro (.int (r : Int))), a4, a5, a6, a7] _ _ _
      refine sx_then (G1 := [some (.fro (bkD b)), some (.fro (.int m)), some (.own ((pr.map fun (r : Nat) => tabC b m (r : Int)).map prD)), some (.fro (.int (r : Int))), some (.fro (prD (0, 1))), a5, a6, a7]) (sx_asg (d := prD (0, 1)) (by walk_at "ev") ⟨rfl, rfl⟩) ?_
      refine sx_seq (M := fun G n' => ∃ a5 a6 a7, G = [some (.fro (bkD b)), some (.fro (.int m)), some (.own ((pr.map fun (r : Nat) => tabC b m (r : Int)).map prD)), some (.fro (.int (r : Int))), some (.fro (prD (tabC b m (r : Int)))), a5, a6, a7]) ?_ ?_
      · refine sx_forP b prD (fun p2 G n' => ∃ a5 a6 a7, G = [some (.fro (bkD b)), some (.fro (.int m)), some (.own ((pr.map fun (r : Nat) => tabC b m (r : Int)).map prD)), some (.fro (.int (r : Int))), some (.fro (prD (p2.foldl (tabS m (r : Int)) (0, 1)))), a5, a6, a7]) (es_list (ep_var rfl)) ⟨_, _, _, rfl⟩ ?_ (fun G n' h => h)
        rintro p2 q po2 G n' e2 ⟨a5, a6, a7, rfl⟩
        have hp2 : p2.length ≤ 24 := by
          have := congrArg List.length e2
          rw [List.length_append, List.length_cons] at this
          omega
        have ok := tab_ok (r := (r : Int)) hm p2
        have gb := gcd_bd (a := (((r : Int) - q.1).natAbs : Int)) hm.1
        rw [tab_snoc]
        generalize p2.foldl (tabS m (r : Int)) (0, 1) = c at *
        refine ⟨_, _, tg_two, ?_⟩
        show Sx _ [some (.fro (bkD b)), some (.fro (.int m)), some (.own ((pr.map fun (r : Nat) => tabC b m (r : Int)).map prD)), some (.fro (.int (r : Int))), some (.fro (prD c)), some (.fro (.int q.1)), some (.fro (.int q.2)), a7] _ _ _
        refine sx_then (G1 := [some (.fro (bkD b)), some (.fro (.int m)), some (.own ((pr.map fun (r : Nat) => tabC b m (r : Int)).map prD)), some (.fro (.int (r : Int))), some (.fro (prD c)), some (.fro (.int q.1)), some (.fro (.int q.2)), some (.fro (.int (Int.gcd (((r : Int) - q.1).natAbs : Int) m : Int)))]) (sx_asg (d := .int (Int.gcd (((r : Int) - q.1).natAbs : Int) m : Int)) ?_ ⟨rfl, rfl⟩) ?_
        · walk_at "ev"
          exact ⟨by omega, by omega⟩
        · generalize hgg : (Int.gcd (((r : Int) - q.1).natAbs : Int) m : Int) = g at *
          refine sx_asg (d := prD (tabS m (r : Int) c q)) ?_ ⟨_, _, _, rfl⟩
          unfold tabS
          rw [hgg]
          refine ev_met (a := c) (b := (q.2 % g, g)) (ea_cons (ep_var rfl) (ea_cons (ep_tup (ea_cons (ep_op (ep_var rfl) (ep_var rfl) (od_c ?_)) (ea_cons (ep_var rfl) ea_nil)) (by show 2 ≤ 100000; decide)) ea_nil)) ⟨ok.1, ⟨Int.emod_nonneg _ (by omega), Int.emod_lt_of_pos _ gb.1⟩, ok.2.mono (by omega), ?_⟩
          · exact gb.1
          · exact (sm_of (k := 6) 60 ⟨by show -60 ≤ g; omega, by show g ≤ 60; omega⟩ (by decide)).mono (by decide)
      · rintro G n' ⟨a5, a6, a7, rfl⟩
        have e3 : ((pr ++ [r]).map fun (r : Nat) => tabC b m (r : Int)).map prD = ((pr.map fun (r : Nat) => tabC b m (r : Int)).map prD) ++ [prD (tabC b m (r : Int))] := by
          rw [List.map_append, List.map_append]
          rfl
        rw [e3]
        exact sx_app (xs := (pr.map fun (r : Nat) => tabC b m (r : Int)).map prD) (d := prD (tabC b m (r : Int))) rfl (ep_var rfl) (by rw [List.length_map, List.length_map]; omega) ⟨_, _, _, _, _, rfl⟩
    · rintro G n' ⟨a3, a4, a5, a6, a7, rfl⟩
      exact sx_ret (d := bkD (tabF b m)) (ep_var rfl) rfl
theorem bk_fst {b : List (Int × Int)} {ti : TI} {vs : List Nat} {i j : Nat} {G : Gm} {K : PySem.W.Frag} {te : TE} (hs : Es ti G (b.map prD)) (hx : ∀ q ∈ b, Ep te (((wpG G vs).set i (some (.fro (.int q.1)))).set j (some (.fro (.int q.2)))) (.int q.1)) (hl : b.length ≤ 100000) (hi : i ∈ vs) (hj : j ∈ vs) : En (tLc ti (gTup K 2 (gCons (gName i) (gCons (gName j) gNil))) tYes te vs) G ((b.map (·.1)).map PyData.int) := by
  rw [fst_map]
  exact en_m2 b (fun q => .int q.1) (fun q => .int q.2) (fun q => .int q.1) hs hx hl hi hj

/-! ### fewest_more -/
abbrev N_fewest_more : List Str := ["book", "modulus", "place", "value"]
theorem sc_fewest_more : FnScope N_fewest_more ["book", "modulus"] (defScope s_fewest_more) := ⟨rfl, rfl, rfl, by decide +kernel, rfl, by decide +kernel, by decide +kernel⟩
def sp_fewest_more : Sp := SpP (α := (List (Int × Int)) × Int) (fun x => (Bk x.1 ∧ confs x.1 = []) ∧ 1 ≤ x.2 ∧ x.2 ≤ 30) (fun x => [bkD x.1, .int x.2]) (fun x => .int (mostF (fsts x.1) x.2))
theorem ev_fewest_more {tr : TA} {G : Gm} {b : List (Int × Int)} {m : Int} (h : Ea tr G [bkD b, .int m]) (c : (Bk b ∧ confs b = []) ∧ 1 ≤ m ∧ m ≤ 30) : Ep (tCall sp_fewest_more [] C8.E0 tr) G (.int (mostF (b.map (·.1)) m)) := ep_call (α := (List (Int × Int)) × Int) (b, m) h rfl c
local macro_rules | `(tactic| walk_at "ev") => `(tactic| (with_reducible apply ev_fewest_more) <;> walk_at "ev")
theorem cal_fewest_more {P : Program} {w : World} {K : PySem.W.Frag} {mg : Str → Option Value} {base : Heap} (T : Txt K mg) : Cal P w K mg base 7 "fewest_more" sp_fewest_more [] := by
  obtain ⟨fd, F⟩ := T.c.def_ 48 (d := d_fewest_more) rfl
  refine ⟨⟨_, fd, ["book", "modulus"], [], ?_, T.glo 48, F.kp, F.bindsN (fun _ _ _ _ _ _ us hl => match us, hl with | [_, _], _ => rfl), .nil⟩⟩
  refine F.ok sc_fewest_more (fun vs H Q E h => len_of (α := (List (Int × Int)) × Int) (C := fun x => (Bk x.1 ∧ confs x.1 = []) ∧ 1 ≤ x.2 ∧ x.2 ≤ 30) (pre := fun x => [bkD x.1, .int x.2]) (post := fun x => .int (mostF (fsts x.1) x.2)) (p := 2) (fun _ => rfl) vs H Q E h) (fun cdv A outer s H vs Q E hr h => ?_)
  refine ⟨_, PSs.nox (pss_cons (ps_expr (pe_c (cal_need_asked2 T) hr (by decide) rfl (pa_cons (pv 0) (pa_cons (pv 1) pa_nil))))
      (pss_one (ps_ret (pe_c (cal_most_lacking T) hr (by decide) rfl (pa_cons (pe_lc (own := [("place", 2), ("value", 3)]) rfl sc_fewest_more.nd (piL (K := K) (pv 0)) (blkOk_by (N := N_fewest_more) (sc := defScope s_fewest_more) (by decide +kernel)) (fun _ _ _ _ _ => (pgT (K := K) (n := 2) rfl (pgs_cons (pg_name (i := 2) sc_fewest_more.nd rfl (Or.inl rfl)) (pgs_cons (pg_name (i := 3) sc_fewest_more.nd rfl (Or.inl rfl)) pgs_nil)))) (fun _ _ _ _ _ => pts_nil) (fun _ _ _ _ _ => (pv 2))) (pa_cons (pv 1) pa_nil)))))), ?_⟩
  refine rd_of (α := (List (Int × Int)) × Int) (C := fun x => (Bk x.1 ∧ confs x.1 = []) ∧ 1 ≤ x.2 ∧ x.2 ≤ 30) (pre := fun x => [bkD x.1, .int x.2]) (post := fun x => .int (mostF (fsts x.1) x.2)) (p := 2) (N := N_fewest_more) (fun _ => rfl) ?rd vs H Q E h
  case rd =>
    rintro ⟨b, m⟩ hh
    show Sx _ [some (.fro (bkD b)), some (.fro (.int m)), none, none] 0 _ _
    replace hh : (Bk b ∧ confs b = []) ∧ 1 ≤ m ∧ m ≤ 30 := hh
    obtain ⟨⟨hb, hf⟩, hm⟩ := hh
    have hbl : b.length ≤ 24 := hb.len
    refine sx_then (sx_drop (d := .none) (by walk_at "ev"; exact ⟨⟨hb, hf⟩, by omega, by omega⟩) ⟨rfl, rfl⟩) ?_
    refine sx_ret (d := .int (mostF (b.map (·.1)) m)) (ev_most_lacking (ps := b.map (·.1)) (ea_cons (ep_new (bk_fst (es_list (ep_var rfl)) (fun q hq => ep_var rfl) (by omega) (by decide) (by decide))) (ea_cons (ep_var rfl) ea_nil)) ⟨by rw [List.length_map]; omega, hm⟩) rfl
/-! ### are_questions -/
abbrev N_are_questions : List Str := ["places", "thing", "one"]
theorem sc_are_questions : FnScope N_are_questions ["places", "thing"] (defScope s_are_questions) := ⟨rfl, rfl, rfl, by decide +kernel, rfl, by decide +kernel, by decide +kernel⟩
def sp_are_questions : Sp := SpP (α := (List Int) × (List Int)) (fun x => (x.1.length ≤ 100 ∧ x.2.length ≤ 100) ∧ (x.1 ++ x.2).Nodup) (fun x => [iD x.1, iD x.2]) (fun x => .bool true)
theorem ev_are_questions {tr : TA} {G : Gm} {ps ts : List Int} (h : Ea tr G [iD ps, iD ts]) (c : (ps.length ≤ 100 ∧ ts.length ≤ 100) ∧ (ps ++ ts).Nodup) : Ep (tCall sp_are_questions [] C8.E0 tr) G (.bool true) := ep_call (α := (List Int) × (List Int)) (ps, ts) h rfl c
local macro_rules | `(tactic| walk_at "ev") => `(tactic| (with_reducible apply ev_are_questions) <;> walk_at "ev")
theorem cal_are_questions {P : Program} {w : World} {K : PySem.W.Frag} {mg : Str → Option Value} {base : Heap} (T : Txt K mg) : Cal P w K mg base 2 "are_questions" sp_are_questions [] := by
  obtain ⟨fd, F⟩ := T.c.def_ 50 (d := d_are_questions) rfl
  obtain ⟨t_MOST_QUESTIONS, g_MOST_QUESTIONS⟩ := cst_MOST_QUESTIONS T
  refine ⟨⟨_, fd, ["places", "thing"], [], ?_, T.glo 50, F.kp, F.bindsN (fun _ _ _ _ _ _ us hl => match us, hl with | [_, _], _ => rfl), .nil⟩⟩
  refine F.ok sc_are_questions (fun vs H Q E h => len_of (α := (List Int) × (List Int)) (C := fun x => (x.1.length ≤ 100 ∧ x.2.length ≤ 100) ∧ (x.1 ++ x.2).Nodup) (pre := fun x => [iD x.1, iD x.2]) (post := fun x => .bool true) (p := 2) (fun _ => rfl) vs H Q E h) (fun cdv A outer s H vs Q E hr h => ?_)
  refine ⟨_, PSs.nox (pss_cons (ps_if (PW.pt (pw_or (pt_not (pt_val (pe_callB (isiK (K := K)) rfl (free_isinstance T) bb_isinstance (pa_cons (pv 1) (pa_cons (pe_bltn (v := .ty "list") rfl (free_list T) bb_list rfl) pa_nil))))) (pw_or (pt_cmpR op_gt (pe_callB (lenK (K := K)) rfl (free_len T) bb_len (pa_cons (pv 1) pa_nil)) (pe_glob (v := .int 200) rfl g_MOST_QUESTIONS ⟨_, rfl⟩) (nomark _)) (pw_or1 (pt_not (pt_val (pe_callB (allK (K := K) rfl) rfl (free_all T) bb_all (pa_cons (pe_lc (own := [("one", 2)]) rfl sc_are_questions.nd (piL (K := K) (pv 1)) (blkOk_by (N := N_are_questions) (sc := defScope s_are_questions) (by decide +kernel)) (fun _ _ _ _ _ => (pg_name (i := 2) sc_are_questions.nd rfl (Or.inl rfl))) (fun _ _ _ _ _ => pts_nil) (fun _ _ _ _ _ => (pe_c (cal_is_integer T) hr (by decide) rfl (pa_cons (pv 2) pa_nil)))) pa_nil)))))))) (pss_one (ps_ret pe_bl)) pss_nil)
      (pss_one (ps_ret (pe_cmpR op_eq (pe_callB (lenSetK (w := w)) rfl (free_len T) bb_len (pa_cons (pe_callTy (setK (w := w) rfl) rfl (free_set T) bb_set (pa_cons (pe_op op_cat (pv 0) (pv 1)) pa_nil)) pa_nil)) (pe_callB (lenK (K := K)) rfl (free_len T) bb_len (pa_cons (pe_op op_cat (pv 0) (pv 1)) pa_nil)) (nomark _))))), ?_⟩
  refine rd_of (α := (List Int) × (List Int)) (C := fun x => (x.1.length ≤ 100 ∧ x.2.length ≤ 100) ∧ (x.1 ++ x.2).Nodup) (pre := fun x => [iD x.1, iD x.2]) (post := fun x => .bool true) (p := 2) (N := N_are_questions) (fun _ => rfl) ?rd vs H Q E h
  case rd =>
    rintro ⟨ps, ts⟩ hh
    show Sx _ [some (.fro (iD ps)), some (.fro (iD ts)), none] 0 _ _
    replace hh : (ps.length ≤ 100 ∧ ts.length ≤ 100) ∧ (ps ++ ts).Nodup := hh
    obtain ⟨⟨h1, h2⟩, nd⟩ := hh
    refine sx_seq (M := fun G n' => G = [some (.fro (iD ps)), some (.fro (iD ts)), none]) ?_ ?_
    · have e1 : decide ((((ts.map PyData.int).length : Nat) : Int) > 200) = false := decide_eq_false (by rw [List.length_map]; omega)
      refine sx_if (b := !true || (decide ((((ts.map PyData.int).length : Nat) : Int) > 200) || !true)) ?_ (fun z => absurd z (by rw [e1]; decide)) (fun _ => sx_next rfl)
      refine et_or (by walk_at "ev") fun _ => et_or (by walk_at "ev") fun _ => et_not (et_B (ep_all ts (en_m1 ts (fun x => PyData.int x) _ (es_list (by walk_at "ev")) (fun x hx => by walk_at "ev"; exact True.intro) (by omega))))
    · rintro G n' rfl
      have hc : Ep (tOp rCat (tVar 0) (tVar 1)) [some (.fro (iD ps)), some (.fro (iD ts)), none] (iD (ps ++ ts)) := by
        rw [iD_app]
        exact ep_new (en_op (ep_var rfl) (ep_var rfl) (on_cat (by simp only [List.length_map]; omega)))
      refine sx_ret (d := .bool (decide (((dd (ps ++ ts)).length : Int) = (((ps ++ ts).map PyData.int).length : Nat)))) (ep_op (ep_lenSet hc (by rw [List.length_append]; omega)) (ep_len hc) od_eqI) ?_
      rw [dd_same nd, List.length_map, decide_eq_true rfl]
/-! ### shows_questions -/
abbrev N_shows_questions : List Str := ["book", "modulus", "thing", "places", "place", "value"]
theorem sc_shows_questions : FnScope N_shows_questions ["book", "modulus", "thing"] (defScope s_shows_questions) := ⟨rfl, rfl, rfl, by decide +kernel, rfl, by decide +kernel, by decide +kernel⟩
def sp_shows_questions : Sp := SpP (α := (List (Int × Int)) × Int × (List Int)) (fun x => ((Bk x.1 ∧ confs x.1 = []) ∧ 1 ≤ x.2.1 ∧ x.2.1 ≤ 30) ∧ x.2.2.length ≤ 100 ∧ (fsts x.1 ++ x.2.2).Nodup ∧ mostF (fsts x.1 ++ x.2.2) x.2.1 = 0) (fun x => [bkD x.1, .int x.2.1, iD x.2.2]) (fun x => .bool true)
theorem ev_shows_questions {tr : TA} {G : Gm} {b : List (Int × Int)} {m : Int} {ts : List Int} (h : Ea tr G [bkD b, .int m, iD ts]) (c : ((Bk b ∧ confs b = []) ∧ 1 ≤ m ∧ m ≤ 30) ∧ ts.length ≤ 100 ∧ (b.map (·.1) ++ ts).Nodup ∧ mostF (b.map (·.1) ++ ts) m = 0) : Ep (tCall sp_shows_questions [] C8.E0 tr) G (.bool true) := ep_call (α := (List (Int × Int)) × Int × (List Int)) (b, m, ts) h rfl c
local macro_rules | `(tactic| walk_at "ev") => `(tactic| (with_reducible apply ev_shows_questions) <;> walk_at "ev")
theorem cal_shows_questions {P : Program} {w : World} {K : PySem.W.Frag} {mg : Str → Option Value} {base : Heap} (T : Txt K mg) : Cal P w K mg base 7 "shows_questions" sp_shows_questions [] := by
  obtain ⟨fd, F⟩ := T.c.def_ 51 (d := d_shows_questions) rfl
  refine ⟨⟨_, fd, ["book", "modulus", "thing"], [], ?_, T.glo 51, F.kp, F.bindsN (fun _ _ _ _ _ _ us hl => match us, hl with | [_, _, _], _ => rfl), .nil⟩⟩
  refine F.ok sc_shows_questions (fun vs H Q E h => len_of (α := (List (Int × Int)) × Int × (List Int)) (C := fun x => ((Bk x.1 ∧ confs x.1 = []) ∧ 1 ≤ x.2.1 ∧ x.2.1 ≤ 30) ∧ x.2.2.length ≤ 100 ∧ (fsts x.1 ++ x.2.2).Nodup ∧ mostF (fsts x.1 ++ x.2.2) x.2.1 = 0) (pre := fun x => [bkD x.1, .int x.2.1, iD x.2.2]) (post := fun x => .bool true) (p := 3) (fun _ => rfl) vs H Q E h) (fun cdv A outer s H vs Q E hr h => ?_)
  refine ⟨_, PSs.nox (pss_cons (ps_expr (pe_c (cal_need_asked2 T) hr (by decide) rfl (pa_cons (pv 0) (pa_cons (pv 1) pa_nil))))
      (pss_cons (ps_setLc (i := 3) (own := [("place", 4), ("value", 5)]) rfl sc_shows_questions.nd rfl rfl (sw_true rfl rfl rfl (by decide +kernel)) (piL (K := K) (pv 0)) (blkOk_by (N := N_shows_questions) (sc := defScope s_shows_questions) (by decide +kernel)) (fun _ _ _ _ _ => (pgT (K := K) (n := 2) rfl (pgs_cons (pg_name (i := 4) sc_shows_questions.nd rfl (Or.inl rfl)) (pgs_cons (pg_name (i := 5) sc_shows_questions.nd rfl (Or.inl rfl)) pgs_nil)))) (fun _ _ _ _ _ => pts_nil) (fun _ _ _ _ _ => (pv 4)))
      (pss_one (ps_ret (pe_and (pe_c (cal_are_questions T) hr (by decide) rfl (pa_cons (pv 3) (pa_cons (pv 2) pa_nil))) (pe_one (pe_cmpR op_eq (pe_c (cal_most_lacking T) hr (by decide) rfl (pa_cons (pe_op op_cat (pv 3) (pv 2)) (pa_cons (pv 1) pa_nil))) pe_int (nomark _)))))))), ?_⟩
  refine rd_of (α := (List (Int × Int)) × Int × (List Int)) (C := fun x => ((Bk x.1 ∧ confs x.1 = []) ∧ 1 ≤ x.2.1 ∧ x.2.1 ≤ 30) ∧ x.2.2.length ≤ 100 ∧ (fsts x.1 ++ x.2.2).Nodup ∧ mostF (fsts x.1 ++ x.2.2) x.2.1 = 0) (pre := fun x => [bkD x.1, .int x.2.1, iD x.2.2]) (post := fun x => .bool true) (p := 3) (N := N_shows_questions) (fun _ => rfl) ?rd vs H Q E h
  case rd =>
    rintro ⟨b, m, ts⟩ hh
    show Sx _ [some (.fro (bkD b)), some (.fro (.int m)), some (.fro (iD ts)), none, none, none] 0 _ _
    replace hh : ((Bk b ∧ confs b = []) ∧ 1 ≤ m ∧ m ≤ 30) ∧ ts.length ≤ 100 ∧ (b.map (·.1) ++ ts).Nodup ∧ mostF (b.map (·.1) ++ ts) m = 0 := hh
    obtain ⟨⟨⟨hb, hf⟩, hm⟩, tl, nd, hz⟩ := hh
    have hbl : b.length ≤ 24 := hb.len
    refine sx_then (sx_drop (d := .none) (by walk_at "ev"; exact ⟨⟨hb, hf⟩, by omega, by omega⟩) ⟨rfl, rfl⟩) ?_
    refine sx_then (G1 := [some (.fro (bkD b)), some (.fro (.int m)), some (.fro (iD ts)), some (.fro (iD (b.map (·.1)))), none, none]) (sx_asg (d := iD (b.map (·.1))) (ep_new ?_) ⟨rfl, rfl⟩) ?_
    · rw [fst_map]
      exact en_m2 b (fun q => .int q.1) (fun q => .int q.2) (fun q => .int q.1) (es_list (ep_var rfl)) (fun q hq => ep_var rfl) (by omega)
    have hc : Ep (tOp rCat (tVar 3) (tVar 2)) [some (.fro (bkD b)), some (.fro (.int m)), some (.fro (iD ts)), some (.fro (iD (b.map (·.1)))), none, none] (iD (b.map (·.1) ++ ts)) := by
      rw [iD_app]
      exact ep_new (en_op (ep_var rfl) (ep_var rfl) (on_cat (by simp only [List.length_map]; omega)))
    refine sx_ret (d := .bool (true && decide (mostF (b.map (·.1) ++ ts) m = 0))) (ep_andV (ev_are_questions (ps := b.map (·.1)) (ea_cons (ep_var rfl) (ea_cons (ep_var rfl) ea_nil)) ⟨⟨by rw [List.length_map]; omega, tl⟩, nd⟩) fun _ => ep_op (ev_most_lacking (ps := b.map (·.1) ++ ts) (ea_cons hc (ea_cons (ep_var rfl) ea_nil)) ⟨by rw [List.length_append, List.length_map]; omega, hm⟩) ep_int od_eqI) ?_
    rw [decide_eq_true hz]
    rfl
end Kr
end
section
namespace Kr
open PySem L2
open Evl (Ex)
open C8 (Cal pe_c)
local macro_rules | `(tactic| walk_at "ev") => `(tactic| skip)
local macro_rules | `(tactic| walk_at "ev") => `(tactic| first
  | with_reducible exact ep_int
  | with_reducible exact ep_bl
  | with_reducible exact ep_non
  | with_reducible exact ea_nil
  | with_reducible exact et_yes
  | with_reducible exact eo_no
  | ((with_reducible apply ep_var); rfl)
  | (with_reducible apply ea_cons) <;> walk_at "ev"
  | (with_reducible apply ep_op) <;> walk_at "ev"
  | (with_reducible apply ep_un) <;> walk_at "ev"
  | (with_reducible apply ep_isi) <;> walk_at "ev"
  | ((with_reducible apply ep_lenV); rfl)
  | (with_reducible apply ep_len) <;> walk_at "ev"
  | (with_reducible apply ep_abs) <;> walk_at "ev"
  | (with_reducible apply ep_int1) <;> walk_at "ev"
  | (with_reducible apply ep_max2) <;> walk_at "ev"
  | (with_reducible apply ep_min2) <;> walk_at "ev"
  | (with_reducible apply et_test) <;> walk_at "ev"
  | (with_reducible apply et_B) <;> walk_at "ev"
  | (with_reducible apply et_not) <;> walk_at "ev"
  | (with_reducible apply ep_notV) <;> walk_at "ev"
  | (with_reducible apply ep_tup) <;> walk_at "ev"
  | (with_reducible apply eo_part) <;> walk_at "ev"
  | with_reducible exact od_i
  | with_reducible exact od_b
  | with_reducible exact od_eqI
  | with_reducible exact od_neI
  | with_reducible exact od_isN
  | with_reducible exact od_notN
  | with_reducible exact od_notB
  | with_reducible apply od_c
  | with_reducible exact od_ixT0
  | with_reducible exact od_ixT1
  | with_reducible exact od_ixL0
  | with_reducible exact od_ixL1
  | with_reducible exact od_ixL2
  | with_reducible apply od_ixL
  | with_reducible apply od_ixT
  | with_reducible exact ud_neg
  | (with_reducible refine' et_or ?_ (fun _ => ?_)) <;> walk_at "ev"
  | (with_reducible refine' et_and ?_ (fun _ => ?_)) <;> walk_at "ev"
  | (with_reducible refine' ep_orV ?_ (fun _ => ?_)) <;> walk_at "ev"
  | (with_reducible refine' ep_andV ?_ (fun _ => ?_)) <;> walk_at "ev"
  | (with_reducible refine' ep_chain ?_ ?_ ?_ (fun _ => ?_) (fun _ => ?_)) <;> walk_at "ev"
  | exact isi_int
  | exact isi_intb
  | exact isi_lst
  | exact isi_tup
  | exact Nat.le_of_ble_eq_true rfl)
local macro_rules | `(tactic| walk_at "ev") => `(tactic| (with_reducible apply ev_divisor_of) <;> walk_at "ev")
local macro_rules | `(tactic| walk_at "ev") => `(tactic| (with_reducible apply ev_multiple_of) <;> walk_at "ev")
local macro_rules | `(tactic| walk_at "ev") => `(tactic| (with_reducible apply ev_divides) <;> walk_at "ev")
local macro_rules | `(tactic| walk_at "ev") => `(tactic| (with_reducible apply ev_do_fit) <;> walk_at "ev")
local macro_rules | `(tactic| walk_at "ev") => `(tactic| (with_reducible apply ev_conflicts_in) <;> walk_at "ev")
local macro_rules | `(tactic| walk_at "ev") => `(tactic| (with_reducible apply ev_is_integer) <;> walk_at "ev")
local macro_rules | `(tactic| walk_at "ev") => `(tactic| (with_reducible apply ev_is_told) <;> walk_at "ev")
local macro_rules | `(tactic| walk_at "ev") => `(tactic| (with_reducible apply ev_is_item) <;> walk_at "ev")
local macro_rules | `(tactic| walk_at "ev") => `(tactic| (with_reducible apply ev_is_book) <;> walk_at "ev")
local macro_rules | `(tactic| walk_at "ev") => `(tactic| (with_reducible apply ev_need_book) <;> walk_at "ev")
local macro_rules | `(tactic| walk_at "ev") => `(tactic| (with_reducible apply ev_conflict_in) <;> walk_at "ev")
local macro_rules | `(tactic| walk_at "ev") => `(tactic| (with_reducible apply ev_need_fitting) <;> walk_at "ev")
local macro_rules | `(tactic| walk_at "ev") => `(tactic| (with_reducible apply ev_need_possible) <;> walk_at "ev")
local macro_rules | `(tactic| walk_at "ev") => `(tactic| (with_reducible apply ev_conflict_of) <;> walk_at "ev")
local macro_rules | `(tactic| walk_at "ev") => `(tactic| (with_reducible apply ev_all_conflicts) <;> walk_at "ev")
local macro_rules | `(tactic| walk_at "ev") => `(tactic| (with_reducible apply ev_need_modulus1) <;> walk_at "ev")
local macro_rules | `(tactic| walk_at "ev") => `(tactic| (with_reducible apply ev_need_modulus2) <;> walk_at "ev")
local macro_rules | `(tactic| walk_at "ev") => `(tactic| (with_reducible apply ev_inverse_of) <;> walk_at "ev")
local macro_rules | `(tactic| walk_at "ev") => `(tactic| (with_reducible apply ev_met) <;> walk_at "ev")
local macro_rules | `(tactic| walk_at "ev") => `(tactic| (with_reducible apply ev_class_by) <;> walk_at "ev")
local macro_rules | `(tactic| walk_at "ev") => `(tactic| (with_reducible apply ev_class_at) <;> walk_at "ev")
local macro_rules | `(tactic| walk_at "ev") => `(tactic| (with_reducible apply ev_can_have) <;> walk_at "ev")
local macro_rules | `(tactic| walk_at "ev") => `(tactic| (with_reducible apply ev_far_in) <;> walk_at "ev")
local macro_rules | `(tactic| walk_at "ev") => `(tactic| (with_reducible apply ev_need_sure) <;> walk_at "ev")
local macro_rules | `(tactic| walk_at "ev") => `(tactic| (with_reducible apply ev_reason_for) <;> walk_at "ev")
local macro_rules | `(tactic| walk_at "ev") => `(tactic| (with_reducible apply ev_are_indices) <;> walk_at "ev")
local macro_rules | `(tactic| walk_at "ev") => `(tactic| (with_reducible apply ev_shows_reason) <;> walk_at "ev")
local macro_rules | `(tactic| walk_at "ev") => `(tactic| (with_reducible apply ev_need_places) <;> walk_at "ev")
local macro_rules | `(tactic| walk_at "ev") => `(tactic| (with_reducible apply ev_need_open) <;> walk_at "ev")
local macro_rules | `(tactic| walk_at "ev") => `(tactic| (with_reducible apply ev_steps_in) <;> walk_at "ev")
local macro_rules | `(tactic| walk_at "ev") => `(tactic| (with_reducible apply ev_size_in) <;> walk_at "ev")
local macro_rules | `(tactic| walk_at "ev") => `(tactic| (with_reducible apply ev_count_in) <;> walk_at "ev")
local macro_rules | `(tactic| walk_at "ev") => `(tactic| (with_reducible apply ev_need_size) <;> walk_at "ev")
local macro_rules | `(tactic| walk_at "ev") => `(tactic| (with_reducible apply ev_step_list) <;> walk_at "ev")
local macro_rules | `(tactic| walk_at "ev") => `(tactic| (with_reducible apply ev_common_size) <;> walk_at "ev")
local macro_rules | `(tactic| walk_at "ev") => `(tactic| (with_reducible apply ev_count_fillings) <;> walk_at "ev")
local macro_rules | `(tactic| walk_at "ev") => `(tactic| (with_reducible apply ev_nth_filling) <;> walk_at "ev")
local macro_rules | `(tactic| walk_at "ev") => `(tactic| (with_reducible apply ev_index_in) <;> walk_at "ev")
local macro_rules | `(tactic| walk_at "ev") => `(tactic| (with_reducible apply ev_filling_index) <;> walk_at "ev")
local macro_rules | `(tactic| walk_at "ev") => `(tactic| (with_reducible apply ev_vectors_in) <;> walk_at "ev")
local macro_rules | `(tactic| walk_at "ev") => `(tactic| (with_reducible apply ev_summed) <;> walk_at "ev")
local macro_rules | `(tactic| walk_at "ev") => `(tactic| (with_reducible apply ev_need_weights) <;> walk_at "ev")
local macro_rules | `(tactic| walk_at "ev") => `(tactic| (with_reducible apply ev_sure_sum) <;> walk_at "ev")
local macro_rules | `(tactic| walk_at "ev") => `(tactic| (with_reducible apply ev_need_asked2) <;> walk_at "ev")
local macro_rules | `(tactic| walk_at "ev") => `(tactic| (with_reducible apply ev_need_asked3) <;> walk_at "ev")
local macro_rules | `(tactic| walk_at "ev") => `(tactic| (with_reducible apply ev_prime_powers) <;> walk_at "ev")
local macro_rules | `(tactic| walk_at "ev") => `(tactic| (with_reducible apply ev_lacking_in) <;> walk_at "ev")
local macro_rules | `(tactic| walk_at "ev") => `(tactic| (with_reducible apply ev_most_lacking) <;> walk_at "ev")
local macro_rules | `(tactic| walk_at "ev") => `(tactic| (with_reducible apply ev_first_lacking) <;> walk_at "ev")
local macro_rules | `(tactic| walk_at "ev") => `(tactic| (with_reducible apply ev_sure_table) <;> walk_at "ev")
local macro_rules | `(tactic| walk_at "ev") => `(tactic| (with_reducible apply ev_fewest_more) <;> walk_at "ev")
local macro_rules | `(tactic| walk_at "ev") => `(tactic| (with_reducible apply ev_are_questions) <;> walk_at "ev")
local macro_rules | `(tactic| walk_at "ev") => `(tactic| (with_reducible apply ev_shows_questions) <;> walk_at "ev")

def rowD (ps : List Int) (many pw : Int) : D := .tuple [.int pw, iD (flF ps pw many)]
theorem ques_snoc {ps : List Int} {many : Int} {n : Nat} {pr : List Int} {pw : Int} {c : Int × Int} : (pr ++ [pw]).foldl (quesS ps many n) c = quesS ps many n (pr.foldl (quesS ps many n) c) pw := by rw [List.foldl_append]; rfl
theorem ques_ok {ps : List Int} {many : Int} {n : Nat} : ∀ (l : List Int), (∀ pw ∈ l, 2 ≤ pw ∧ pw ≤ 30) → (0 ≤ (l.foldl (quesS ps many n) (0, 1)).1 ∧ (l.foldl (quesS ps many n) (0, 1)).1 < (l.foldl (quesS ps many n) (0, 1)).2) ∧ Sm (8 * l.length + 1) (l.foldl (quesS ps many n) (0, 1)).2 := by
  have g : ∀ (l : List Int) (c : Int × Int) (k : Nat), (∀ pw ∈ l, 2 ≤ pw ∧ pw ≤ 30) → (0 ≤ c.1 ∧ c.1 < c.2) → Sm k c.2 → (0 ≤ (l.foldl (quesS ps many n) c).1 ∧ (l.foldl (quesS ps many n) c).1 < (l.foldl (quesS ps many n) c).2) ∧ Sm (8 * l.length + k) (l.foldl (quesS ps many n) c).2 := by
    intro l
    induction l with
    | nil => intro c k _ h s; exact ⟨h, by simpa using s⟩
    | cons pw l ih =>
      intro c k hl h s
      have hp := hl pw (by simp)
      have h2 := ih (quesS ps many n c pw) (k + 8) (fun x hx => hl x (by simp [hx])) (metF_bd h (by show 0 < pw; omega)) (metF_sz (by omega) (by show 0 < pw; omega) s ((sm_of (k := 5) 30 ⟨by show -30 ≤ pw; omega, by show pw ≤ 30; omega⟩ (by decide)).mono (by decide)))
      refine ⟨h2.1, h2.2.mono ?_⟩
      rw [List.length_cons]
      omega
  exact fun l hl => g l (0, 1) 1 hl (by decide) (by unfold Sm; decide)

/-! ### questions -/
abbrev N_questions : List Str := ["book", "modulus", "places", "many", "rows", "found", "number", "own_class", "power", "rests", "place", "value"]
theorem sc_questions : FnScope N_questions ["book", "modulus"] (defScope s_questions) := ⟨rfl, rfl, rfl, by decide +kernel, rfl, by decide +kernel, by decide +kernel⟩
def sp_questions : Sp := SpP (α := (List (Int × Int)) × Int) (fun x => (Bk x.1 ∧ confs x.1 = []) ∧ 1 ≤ x.2 ∧ x.2 ≤ 30) (fun x => [bkD x.1, .int x.2]) (fun x => iD (quesF x.1 x.2))
theorem ev_questions {tr : TA} {G : Gm} {b : List (Int × Int)} {m : Int} (h : Ea tr G [bkD b, .int m]) (c : (Bk b ∧ confs b = []) ∧ 1 ≤ m ∧ m ≤ 30) : Ep (tCall sp_questions [] C8.E0 tr) G (iD (quesF b m)) := ep_call (α := (List (Int × Int)) × Int) (b, m) h rfl c
local macro_rules | `(tactic| walk_at "ev") => `(tactic| (with_reducible apply ev_questions) <;> walk_at "ev")
theorem cal_questions {P : Program} {w : World} {K : PySem.W.Frag} {mg : Str → Option Value} {base : Heap} (T : Txt K mg) : Cal P w K mg base 7 "questions" sp_questions [] := by
  obtain ⟨fd, F⟩ := T.c.def_ 49 (d := d_questions) rfl
  obtain ⟨t_MOST_QUESTIONS, g_MOST_QUESTIONS⟩ := cst_MOST_QUESTIONS T
  refine ⟨⟨_, fd, ["book", "modulus"], [], ?_, T.glo 49, F.kp, F.bindsN (fun _ _ _ _ _ _ us hl => match us, hl with | [_, _], _ => rfl), .nil⟩⟩
  refine F.ok sc_questions (fun vs H Q E h => len_of (α := (List (Int × Int)) × Int) (C := fun x => (Bk x.1 ∧ confs x.1 = []) ∧ 1 ≤ x.2 ∧ x.2 ≤ 30) (pre := fun x => [bkD x.1, .int x.2]) (post := fun x => iD (quesF x.1 x.2)) (p := 2) (fun _ => rfl) vs H Q E h) (fun cdv A outer s H vs Q E hr h => ?_)
  refine ⟨_, PSs.nox (pss_cons (ps_expr (pe_c (cal_need_asked2 T) hr (by decide) rfl (pa_cons (pv 0) (pa_cons (pv 1) pa_nil))))
      (pss_cons (ps_set (i := 2) sc_questions.nd rfl (Or.inr rfl) (pe_lc (own := [("place", 10), ("value", 11)]) rfl sc_questions.nd (piL (K := K) (pv 0)) (blkOk_by (N := N_questions) (sc := defScope s_questions) (by decide +kernel)) (fun _ _ _ _ _ => (pgT (K := K) (n := 2) rfl (pgs_cons (pg_name (i := 10) sc_questions.nd rfl (Or.inl rfl)) (pgs_cons (pg_name (i := 11) sc_questions.nd rfl (Or.inl rfl)) pgs_nil)))) (fun _ _ _ _ _ => pts_nil) (fun _ _ _ _ _ => (pv 10))))
      (pss_cons (ps_set (i := 3) sc_questions.nd rfl (Or.inr rfl) (pe_c (cal_most_lacking T) hr (by decide) rfl (pa_cons (pv 2) (pa_cons (pv 1) pa_nil))))
      (pss_cons (ps_if (pt_cmpR op_gt (pv 3) (pe_glob (v := .int 200) rfl g_MOST_QUESTIONS ⟨_, rfl⟩) (nomark _)) pss_never pss_nil)
      (pss_cons (ps_setLc (i := 4) (own := [("power", 8)]) rfl sc_questions.nd rfl rfl (sw_true rfl rfl rfl (by decide +kernel)) (piL (K := K) (pe_c (cal_prime_powers T) hr (by decide) rfl (pa_cons (pv 1) pa_nil))) (blkOk_by (N := N_questions) (sc := defScope s_questions) (by decide +kernel)) (fun _ _ _ _ _ => (pg_name (i := 8) sc_questions.nd rfl (Or.inl rfl))) (fun _ _ _ _ _ => pts_nil) (fun _ _ _ _ _ => (pe_tup (pa_cons (pv 8) (pa_cons (pe_c (cal_first_lacking T) hr (by decide) rfl (pa_cons (pv 2) (pa_cons (pv 8) (pa_cons (pv 3) pa_nil)))) pa_nil)))))
      (pss_cons (ps_set (i := 5) sc_questions.nd rfl (Or.inl rfl) (pe_lst pa_nil))
      (pss_cons (ps_for PassesOwn.never rfl (pi_range1 rfl (free_range T) (pa_cons (pv 3) pa_nil)) (pg_name (i := 6) sc_questions.nd rfl (Or.inl rfl)) (pss_cons (ps_set (i := 7) sc_questions.nd rfl (Or.inl rfl) (pe_tup (pa_cons pe_int (pa_cons pe_int pa_nil))))
      (pss_cons (ps_for PassesOwn.never rfl (piL (K := K) (pv 4)) (pgT (K := K) (n := 2) rfl (pgs_cons (pg_name (i := 8) sc_questions.nd rfl (Or.inl rfl)) (pgs_cons (pg_name (i := 9) sc_questions.nd rfl (Or.inl rfl)) pgs_nil))) (pss_one (ps_set (i := 7) sc_questions.nd rfl (Or.inl rfl) (pe_c (cal_met T) hr (by decide) rfl (pa_cons (pv 7) (pa_cons (pe_tup (pa_cons (pe_ix (ixL (K := K)) (pv 9) (pv 6) (fun _ _ => rfl)) (pa_cons (pv 8) pa_nil))) pa_nil))))))
      (pss_one (ps_expr (pe_bm PySem.F.plainAttrs_list PySem.F.slot_list_append PySem.F.type_list_append mt_append (pv 5) (pa_cons (pe_ix (ixT (K := K)) (pv 7) pe_int (fun _ _ => rfl)) pa_nil)))))))
      (pss_one (ps_ret (pv 5)))))))))), ?_⟩
  refine rd_of (α := (List (Int × Int)) × Int) (C := fun x => (Bk x.1 ∧ confs x.1 = []) ∧ 1 ≤ x.2 ∧ x.2 ≤ 30) (pre := fun x => [bkD x.1, .int x.2]) (post := fun x => iD (quesF x.1 x.2)) (p := 2) (N := N_questions) (fun _ => rfl) ?rd vs H Q E h
  case rd =>
    rintro ⟨b, m⟩ hh
    show Sx _ [some (.fro (bkD b)), some (.fro (.int m)), none, none, none, none, none, none, none, none, none, none] 0 _ _
    replace hh : (Bk b ∧ confs b = []) ∧ 1 ≤ m ∧ m ≤ 30 := hh
    obtain ⟨⟨hb, hf⟩, hm⟩ := hh
    have hbl : b.length ≤ 24 := hb.len
    have hp := pp_ok hm
    refine sx_then (sx_drop (d := .none) (by walk_at "ev"; exact ⟨⟨hb, hf⟩, by omega, by omega⟩) ⟨rfl, rfl⟩) ?_
    refine sx_then (G1 := [some (.fro (bkD b)), some (.fro (.int m)), some (.fro (iD (fsts b))), none, none, none, none, none, none, none, none, none]) (sx_asg (d := iD (fsts b)) (ep_new (bk_fst (es_list (ep_var rfl)) (fun q hq => ep_var rfl) (by omega) (by decide) (by decide))) ⟨rfl, rfl⟩) ?_
    have hpl : (fsts b).length ≤ 24 := by rw [List.length_map]; exact hbl
    have hmb := most_bd (ps := fsts b) hm
    have eq : quesF b m = (List.range (mostF (fsts b) m).toNat).map fun n => (quesC (fsts b) m (mostF (fsts b) m) n).1 := rfl
    rw [eq]
    generalize fsts b = ps at *
    refine sx_then (G1 := [some (.fro (bkD b)), some (.fro (.int m)), some (.fro (iD ps)), some (.fro (.int (mostF ps m))), none, none, none, none, none, none, none, none]) (sx_asg (d := .int (mostF ps m)) (ev_most_lacking (ea_cons (ep_var rfl) (ea_cons (ep_var rfl) ea_nil)) ⟨by omega, hm⟩) ⟨rfl, rfl⟩) ?_
    generalize mostF ps m = mn at *
    refine sx_seq (M := fun G n' => G = [some (.fro (bkD b)), some (.fro (.int m)), some (.fro (iD ps)), some (.fro (.int mn)), none, none, none, none, none, none, none, none]) ?_ ?_
    · refine sx_if (b := decide (mn > 200)) (by walk_at "ev") (fun z => ?_) (fun _ => sx_next rfl)
      have z : mn > 200 := by simpa using z
      omega
    rintro G n' rfl
    refine sx_then (G1 := [some (.fro (bkD b)), some (.fro (.int m)), some (.fro (iD ps)), some (.fro (.int mn)), some (.fro (.list ((ppF m).map (rowD ps mn)))), none, none, none, none, none, none, none]) (sx_asg (d := .list ((ppF m).map (rowD ps mn))) (ep_new ?_) ⟨rfl, rfl⟩) ?_
    · refine en_m1 (ppF m) (fun x => PyData.int x) (rowD ps mn) (es_list (ev_prime_powers (ea_cons (ep_var rfl) ea_nil) hm)) (fun x hx => ?_) (by omega)
      have hx2 := hp.1 x hx
      exact ep_tup (ea_cons (ep_var rfl) (ea_cons (ev_first_lacking (ea_cons (ep_var rfl) (ea_cons (ep_var rfl) (ea_cons (ep_var rfl) ea_nil))) ⟨by omega, ⟨by omega, hx2.2⟩, hmb⟩) ea_nil)) (by show 2 ≤ 100000; decide)
    refine sx_then (G1 := [some (.fro (bkD b)), some (.fro (.int m)), some (.fro (iD ps)), some (.fro (.int mn)), some (.fro (.list ((ppF m).map (rowD ps mn)))), some (.own []), none, none, none, none, none, none]) (sx_new (xs := []) (en_lst ea_nil (by decide)) ⟨rfl, rfl⟩) ?_
    refine sx_seq (M := fun G n' => ∃ a6 a7 a8 a9, G = [some (.fro (bkD b)), some (.fro (.int m)), some (.fro (iD ps)), some (.fro (.int mn)), some (.fro (.list ((ppF m).map (rowD ps mn)))), some (.own (((List.range mn.toNat).map fun n => (quesC ps m mn n).1).map PyData.int)), a6, a7, a8, a9, none, none]) ?_ ?_
    · refine sx_forP (List.range mn.toNat) (fun (r : Nat) => PyData.int (r : Int)) (fun pr G n' => ∃ a6 a7 a8 a9, G = [some (.fro (bkD b)), some (.fro (.int m)), some (.fro (iD ps)), some (.fro (.int mn)), some (.fro (.list ((ppF m).map (rowD ps mn)))), some (.own ((pr.map fun n => (quesC ps m mn n).1).map PyData.int)), a6, a7, a8, a9, none, none]) (es_rng1e (j := mn) (by walk_at "ev") (rng_map _) (by omega) (by omega)) ⟨none, none, none, none, rfl⟩ ?_ (fun G n' h => h)
      rintro pr r po G n' e0 ⟨a6, a7, a8, a9, rfl⟩
      have hr : r < mn.toNat := List.mem_range.mp (by rw [e0]; simp)
      have hprl : pr.length ≤ 30 := by
        have := congrArg List.length e0
        rw [List.length_range, List.length_append, List.length_cons] at this
        omega
      refine ⟨_, _, tg_name, ?_⟩
      show Sx _ [some (.fro (bkD b)), some (.fro (.int m)), some (.fro (iD ps)), some (.fro (.int mn)), some (.fro (.list ((ppF m).map (rowD ps mn)))), some (.own ((pr.map fun n => (quesC ps m mn n).1).map PyData.int)), some (.fro (.int (r : Int))), a7, a8, a9, none, none] _ _ _
      refine sx_then (G1 := [some (.fro (bkD b)), some (.fro (.int m)), some (.fro (iD ps)), some (.fro (.int mn)), some (.fro (.list ((ppF m).map (rowD ps mn)))), some (.own ((pr.map fun n => (quesC ps m mn n).1).map PyData.int)), some (.fro (.int (r : Int))), some (.fro (prD (0, 1))), a8, a9, none, none]) (sx_asg (d := prD (0, 1)) (by walk_at "ev") ⟨rfl, rfl⟩) ?_
      refine sx_seq (M := fun G n' => ∃ a8 a9, G = [some (.fro (bkD b)), some (.fro (.int m)), some (.fro (iD ps)), some (.fro (.int mn)), some (.fro (.list ((ppF m).map (rowD ps mn)))), some (.own ((pr.map fun n => (quesC ps m mn n).1).map PyData.int)), some (.fro (.int (r : Int))), some (.fro (prD (quesC ps m mn r))), a8, a9, none, none]) ?_ ?_
      · refine sx_forP (ppF m) (rowD ps mn) (fun p2 G n' => ∃ a8 a9, G = [some (.fro (bkD b)), some (.fro (.int m)), some (.fro (iD ps)), some (.fro (.int mn)), some (.fro (.list ((ppF m).map (rowD ps mn)))), some (.own ((pr.map fun n => (quesC ps m mn n).1).map PyData.int)), some (.fro (.int (r : Int))), some (.fro (prD (p2.foldl (quesS ps mn r) (0, 1)))), a8, a9, none, none]) (es_list (ep_var rfl)) ⟨_, _, rfl⟩ ?_ (fun G n' h => h)
        rintro p2 pw po2 G n' e2 ⟨a8, a9, rfl⟩
        have hw : ∀ x ∈ p2, 2 ≤ x ∧ x ≤ 30 := fun x hx => hp.1 x (by rw [e2]; exact List.mem_append_left _ hx)
        have hpw := hp.1 pw (by rw [e2]; simp)
        have hp2 : p2.length ≤ 3 := by
          have := congrArg List.length e2
          rw [List.length_append, List.length_cons] at this
          have := hp.2
          omega
        have ok := ques_ok (ps := ps) (many := mn) (n := r) p2 hw
        rw [ques_snoc]
        generalize p2.foldl (quesS ps mn r) (0, 1) = c at *
        have fo := fl_ok (ps := ps) (pw := pw) (many := mn) (by omega) hmb.1
        have rl : r < (flF ps pw mn).length := by omega
        have fm := fo.1 _ (getI_mem rl)
        refine ⟨_, _, tg_two, ?_⟩
        show Sx _ [some (.fro (bkD b)), some (.fro (.int m)), some (.fro (iD ps)), some (.fro (.int mn)), some (.fro (.list ((ppF m).map (rowD ps mn)))), some (.own ((pr.map fun n => (quesC ps m mn n).1).map PyData.int)), some (.fro (.int (r : Int))), some (.fro (prD c)), some (.fro (.int pw)), some (.fro (iD (flF ps pw mn))), none, none] _ _ _
        refine sx_asg (d := prD (quesS ps mn r c pw)) ?_ ⟨_, _, rfl⟩
        unfold quesS
        refine ev_met (a := c) (b := ((flF ps pw mn).getD r 0, pw)) (ea_cons (ep_var rfl) (ea_cons (ep_tup (ea_cons (ep_op (ep_var rfl) (ep_var rfl) (od_ixL (getI rl))) (ea_cons (ep_var rfl) ea_nil)) (by show 2 ≤ 100000; decide)) ea_nil)) ⟨ok.1, fm, ok.2.mono (by omega), ?_⟩
        exact (sm_of (k := 5) 30 ⟨by show -30 ≤ pw; omega, by show pw ≤ 30; omega⟩ (by decide)).mono (by decide)
      · rintro G n' ⟨a8, a9, rfl⟩
        have e3 : ((pr ++ [r]).map fun n => (quesC ps m mn n).1).map PyData.int = ((pr.map fun n => (quesC ps m mn n).1).map PyData.int) ++ [.int (quesC ps m mn r).1] := by
          rw [List.map_append, List.map_append]
          rfl
        rw [e3]
        exact sx_app (xs := (pr.map fun n => (quesC ps m mn n).1).map PyData.int) (d := .int (quesC ps m mn r).1) rfl (ep_op (ep_var rfl) ep_int od_ixT0) (by rw [List.length_map, List.length_map]; omega) ⟨_, _, _, _, rfl⟩
    · rintro G n' ⟨a6, a7, a8, a9, rfl⟩
      exact sx_ret (d := iD ((List.range mn.toNat).map fun n => (quesC ps m mn n).1)) (ep_var rfl) rfl
end Kr
end
section
/-! K8: what is drawn from the purse. -/
namespace Kr
open PySem L2
open Evl (Ex)
theorem Mv.tr {pu : Option Addr} {W H W1 H1 W2 H2 : Hp} {n : Nat} (a : Mv pu W H W1 H1) (b : Mv pu W1 H1 W2 H2) (p : Pu pu n W1 H1) : Mv pu W H W2 H2 := a.trans b fun q e _ => p.there q e

/-- an expression gives some d, the purse's count then n' -/
def Ev (te : TE) (G : Gm) (n : Nat) (P : D → Nat → Prop) : Prop := ∀ pu W0 H0 σ W H, S0 pu W0 H0 G n σ W H → ∀ Q : VK, (∀ d n' v W' H', P d n' → Mv pu W H W' H' → Pu pu n' W' H' → Rp W' v d → Q v H') → te σ H Q
def Eva (ta : TA) (G : Gm) (n : Nat) (P : List D → Nat → Prop) : Prop := ∀ pu W0 H0 σ W H, S0 pu W0 H0 G n σ W H → ∀ Q : List V → Hp → Prop, (∀ ds n' vs W' H', P ds n' → Mv pu W H W' H' → Pu pu n' W' H' → Rps W' vs ds → Q vs H') → ta σ H Q
def Env (te : TE) (G : Gm) (n : Nat) (P : List D → Nat → Prop) : Prop := ∀ pu W0 H0 σ W H, S0 pu W0 H0 G n σ W H → ∀ Q : VK,
  (∀ xs n' p vs W' H', P xs n' → Mv pu W H W' H' → Pu pu n' W' H' → H p = none → H' p = some (.lst vs) → W' p = none → Rps W' vs xs → Q (.ref p) H') → te σ H Q
def Evt (tt : TT) (G : Gm) (n : Nat) (P : Bool → Nat → Prop) : Prop := ∀ pu W0 H0 σ W H, S0 pu W0 H0 G n σ W H → ∀ Q : Bool → Hp → Prop, (∀ b n' W' H', P b n' → Mv pu W H W' H' → Pu pu n' W' H' → Q b H') → tt σ H Q
def Esv (ti : TI) (G : Gm) (n : Nat) (P : List D → Nat → Prop) : Prop := ∀ pu W0 H0 σ W H, S0 pu W0 H0 G n σ W H → ∀ R : It → Hp → Prop, (∀ J ds n' W' H', P ds n' → Mv pu W H W' H' → Pu pu n' W' H' → Wk J ds W' → R J H') → ti σ H R
section
variable {te ta tb : TE} {tt tu : TT} {tr : TA} {G : Gm} {n : Nat} {d : D} {ds xs : List D} {r : R2} {K : PySem.W.Frag} {P P1 : D → Nat → Prop} {PL : List D → Nat → Prop}
theorem ev_ep (h : Ep te G d) (k : P d n) : Ev te G n P := fun pu W0 H0 σ W H S Q q => h _ _ _ _ _ _ _ S _ fun v W' H' m r => q _ _ v W' H' k m.any (S.pn.mv m) r
theorem eva_ea (h : Ea tr G ds) (k : PL ds n) : Eva tr G n PL := fun pu W0 H0 σ W H S Q q => h _ _ _ _ _ _ _ S _ fun v W' H' m r => q _ _ v W' H' k m.any (S.pn.mv m) r
theorem env_en (h : En te G xs) (k : PL xs n) : Env te G n PL := fun pu W0 H0 σ W H S Q q => h _ _ _ _ _ _ _ S _ fun p vs W' H' m f hp wp r => q _ _ p vs W' H' k m.any (S.pn.mv m) f hp wp r
theorem evt_et {b : Bool} {PB : Bool → Nat → Prop} (h : Et tt G b) (k : PB b n) : Evt tt G n PB := fun pu W0 H0 σ W H S Q q => h _ _ _ _ _ _ _ S _ fun W' H' m => q _ _ W' H' k m.any (S.pn.mv m)
theorem ev_mono (h : Ev te G n P1) (k : ∀ d n', P1 d n' → P d n') : Ev te G n P := fun pu W0 H0 σ W H S Q q => h _ _ _ _ _ _ S Q fun d n' v W' H' p => q d n' v W' H' (k _ _ p)
theorem ev_new (h : Env te G n PL) (k : ∀ xs n', PL xs n' → P (.list xs) n') : Ev te G n P := fun pu W0 H0 σ W H S Q q => h _ _ _ _ _ _ S Q fun xs n' p vs W' H' pl m pn f hp wp rs => by
  have mm := mvN (Mv.rfl' m.sub) (vs := vs) (p := p) |> fun _ => trivial
  refine q _ n' _ (upd W' p (.lst vs)) H' (k _ _ pl) ⟨fun x o h => ?_, fun x o h => ?_, m.keep, fun x h z => ?_⟩ (fun a e => ?_) (rpN wp rs)
  · have h2 := m.ww x o h
    rw [upd_ne (ne_of_none h2 wp)]; exact h2
  · by_cases q : x = p
    · subst q; rw [upd_same] at h; cases h; exact hp
    · rw [upd_ne q] at h; exact m.sub x o h
  · have q : x ≠ p := fun e => z (e ▸ f)
    rw [upd_ne q]; exact m.new x h z
  · obtain ⟨w, rest⟩ := pn a e
    have q : a ≠ p := fun z => (S.pn.there a e) (z ▸ f)
    exact ⟨by rw [upd_ne q]; exact w, rest⟩
theorem ev_op {P2 : D → D → Nat → Prop} (ha : Ev ta G n P1) (hb : ∀ d n1, P1 d n1 → Ev tb G n1 (P2 d)) (hr : ∀ d e n2, P2 d e n2 → ∃ f, OpD r d e f ∧ P f n2) : Ev (tOp r ta tb) G n P := fun pu W0 H0 σ W H S Q q =>
  ha _ _ _ _ _ _ S _ fun d n1 x W1 H1 p1 m1 u1 r1 => hb d n1 p1 _ _ _ _ _ _ (S.step m1 u1) _ fun e n2 y W2 H2 p2 m2 u2 r2 => by
    obtain ⟨f, ho, pf⟩ := hr d e n2 p2
    exact ho W2 H2 x y m2.sub (r1.up m2.ww) r2 Q fun v W3 H3 m3 r3 => q f n2 v W3 H3 pf ((m1.tr m2 u1).tr m3.any u2) (u2.mv m3) r3
theorem eva_nil (k : PL [] n) : Eva tNil G n PL := eva_ea ea_nil k
theorem eva_cons (ha : Ev ta G n P1) (hr : ∀ d n1, P1 d n1 → Eva tr G n1 fun ds n2 => PL (d :: ds) n2) : Eva (tCons ta tr) G n PL := fun pu W0 H0 σ W H S Q q =>
  ha _ _ _ _ _ _ S _ fun d n1 x W1 H1 p1 m1 u1 r1 => hr d n1 p1 _ _ _ _ _ _ (S.step m1 u1) _ fun ds n2 ys W2 H2 p2 m2 u2 r2 => q (d :: ds) n2 _ W2 H2 p2 (m1.tr m2 u1) u2 (.cons (r1.up m2.ww) r2)
theorem ev_cb {rr : List V → Hp → VK → Prop} (ha : Eva tr G n PL) (hr : ∀ ds n', PL ds n' → ∃ d, CbD rr ds d ∧ P d n') : Ev (tCB rr tr) G n P := fun pu W0 H0 σ W H S Q q =>
  ha _ _ _ _ _ _ S _ fun ds n1 vs W1 H1 p1 m1 u1 r1 => by
    obtain ⟨d, h, pd⟩ := hr ds n1 p1
    exact h W1 H1 vs m1.sub r1 Q fun v W2 H2 m2 r2 => q d n1 v W2 H2 pd (m1.tr m2.any u1) (u1.mv m2) r2
theorem ev_tup (ha : Eva tr G n PL) (hr : ∀ ds n', PL ds n' → ds.length ≤ 100000 ∧ P (.tuple ds) n') : Ev (tTup tr) G n P := fun pu W0 H0 σ W H S Q q =>
  ha _ _ _ _ _ _ S _ fun ds n1 vs W1 H1 p1 m1 u1 r1 => by
    obtain ⟨hl, pd⟩ := hr ds n1 p1
    refine ⟨by rw [r1.length]; exact small hl, fun p hp => ?_⟩
    have L := Mv.laid (o := .tup vs) m1.sub hp
    exact q _ n1 _ _ _ pd (m1.tr L.any u1) (u1.mv L) (.tup upd_same (r1.up L.ww))
theorem env_lst {PR : List D → Nat → Prop} (ha : Eva tr G n PL) (hr : ∀ ds n', PL ds n' → ds.length ≤ 100000 ∧ PR ds n') : Env (tLst tr) G n PR := fun pu W0 H0 σ W H S Q q =>
  ha _ _ _ _ _ _ S _ fun ds n1 vs W1 H1 p1 m1 u1 r1 => by
    obtain ⟨hl, pd⟩ := hr ds n1 p1
    refine ⟨by rw [r1.length]; exact small hl, fun p hp => ?_⟩
    have L := Mv.fresh (o := .lst vs) m1.sub hp
    have f : H p = none := by
      cases z : H p with
      | none => rfl
      | some o =>
        by_cases e : pu = some p
        · exact absurd hp (u1.there p e)
        · rw [m1.keep p o z e] at hp; cases hp
    exact q _ n1 p vs W1 _ pd (m1.tr L.any u1) (u1.mv L) f upd_same (wnone m1.sub hp) r1
theorem evt_B {PB : Bool → Nat → Prop} (h : Ev te G n P) (k : ∀ d n', P d n' → ∃ b, d = .bool b ∧ PB b n') : Evt (tB te) G n PB := fun pu W0 H0 σ W H S Q q =>
  h _ _ _ _ _ _ S _ fun d n1 x W1 H1 p1 m1 u1 r1 => by
    obtain ⟨b, rfl, pb⟩ := k d n1 p1
    cases r1
    exact ⟨b, rfl, q _ n1 W1 H1 pb m1 u1⟩
theorem evt_not {PB PC : Bool → Nat → Prop} (h : Evt tt G n PB) (k : ∀ b n', PB b n' → PC (!b) n') : Evt (tNot tt) G n PC := fun pu W0 H0 σ W H S Q q => h _ _ _ _ _ _ S _ fun b n1 W1 H1 p1 m1 u1 => q _ n1 W1 H1 (k b n1 p1) m1 u1
theorem evt_or {PB PC : Bool → Nat → Prop} (h : Evt tt G n PB) (k : ∀ b n', PB b n' → if b = true then PC true n' else Evt tu G n' PC) : Evt (tOr tt tu) G n PC := fun pu W0 H0 σ W H S Q q => h _ _ _ _ _ _ S _ fun b n1 W1 H1 p1 m1 u1 => by
  have := k b n1 p1
  cases b with
  | true => exact q _ n1 W1 H1 this m1 u1
  | false => exact this _ _ _ _ _ _ (S.step m1 u1) _ fun b2 n2 W2 H2 p2 m2 u2 => q b2 n2 W2 H2 p2 (m1.tr m2 u1) u2

/-! ### statements -/
variable {ts tv tw : TS} {N M : Gm → Nat → Prop} {R : D → Nat → Prop} {g : TG}
theorem sx_asgV {i : Nat} (h : Ev te G n P) (k : ∀ d n', P d n' → N (G.set i (some (.fro d))) n') : Sx (tAsg te (gName i)) G n N R := fun pu W0 H0 σ W H E S hn hr =>
  h _ _ _ _ _ _ S _ fun d n1 v W1 H1 p1 m1 u1 r1 => hn _ _ _ _ _ (k _ _ p1) m1.ww ((S.step m1 u1).put r1)
theorem sx_tgtV (h : Ev te G n P) (k : ∀ d n', P d n' → ∃ G1 js, Tg g d G G1 js ∧ N G1 n') : Sx (tAsg te g) G n N R := fun pu W0 H0 σ W H E S hn hr =>
  h _ _ _ _ _ _ S _ fun d n1 v W1 H1 p1 m1 u1 r1 => by
    obtain ⟨G1, js, t, kk⟩ := k d n1 p1
    exact t _ _ _ _ _ _ _ _ (S.step m1 u1) r1 _ fun σ' S' _ => hn _ _ _ _ _ kk m1.ww S'
theorem sx_retV (h : Ev te G n P) (k : ∀ d n', P d n' → R d n') : Sx (tRet te) G n N R := fun pu W0 H0 σ W H E S hn hr =>
  h _ _ _ _ _ _ S _ fun d n1 v W1 H1 p1 m1 u1 r1 => hr _ _ v W1 H1 (k _ _ p1) (S.step m1 u1).mv u1 r1
theorem sx_ifV {PB : Bool → Nat → Prop} (h : Evt tt G n PB) (k : ∀ b n', PB b n' → if b = true then Sx tv G n' N R else Sx tw G n' N R) : Sx (tIfS tt tv tw) G n N R := fun pu W0 H0 σ W H E S hn hr =>
  h _ _ _ _ _ _ S _ fun b n1 W1 H1 p1 m1 u1 => by
    have := k b n1 p1
    cases b with
    | true => exact this _ _ _ _ _ _ _ (S.step m1 u1) (fun G2 n2 σ2 W2 H2 a e => hn G2 n2 σ2 W2 H2 a (m1.ww.trans e)) hr
    | false => exact this _ _ _ _ _ _ _ (S.step m1 u1) (fun G2 n2 σ2 W2 H2 a e => hn G2 n2 σ2 W2 H2 a (m1.ww.trans e)) hr
theorem S0.putV {pu : Option Addr} {W0 H0 W H W' H' : Hp} {σ : St} {m : Nat} {i : Nat} {p : Addr} {vs : List V} (S : S0 pu W0 H0 G n σ W H) (v : Mv pu W H W' H') (u : Pu pu m W' H') (f : H p = none) (hp : H' p = some (.lst vs)) (wp : W' p = none) (rs : Rps W' vs xs) :
    S0 pu W0 H0 (G.set i (some (.own xs))) m (σ.set i (some (.ref p))) W' H' := by
  have S' := S.step v u
  have h0 : H0 p = none := by
    cases q : H0 p with
    | none => rfl
    | some o =>
      by_cases z : pu = some p
      · exact absurd f (S.pn.there p z)
      · have q2 := S.mv.keep p o q z
        rw [f] at q2
        cases q2
  have np : pu ≠ some p := fun z => S.pn.there p z f
  have other : ∀ (j : Nat) (ys : List D), G[j]? = some (some (.own ys)) → σ[j]? ≠ some (some (.ref p)) := fun j ys e1 e2 => by
    obtain ⟨x, h1, q, ws, e3, e4, _⟩ := S.bd j _ e1
    rw [h1] at e2
    cases e2
    cases e3
    rw [f] at e4
    cases e4
  refine ⟨S'.mv, S'.pn, fun j b e => ?_, fun j k xs ys q ne e1 e2 e3 e4 => ?_, by rw [List.length_set, List.length_set]; exact S.len⟩
  · by_cases q : i = j
    · subst q
      by_cases l : i < G.length
      · rw [List.getElem?_set_self l] at e
        cases e
        exact ⟨.ref p, by rw [List.getElem?_set_self (by rw [S.len]; exact l)], p, vs, rfl, hp, wp, h0, np, rs⟩
      · rw [List.getElem?_eq_none (by simpa using l)] at e
        cases e
    · rw [List.getElem?_set_ne q] at e
      obtain ⟨x, h1, h2⟩ := S'.bd j b e
      exact ⟨x, by rw [List.getElem?_set_ne q]; exact h1, h2⟩
  · by_cases q1 : i = j
    · subst q1
      have l : i < G.length := by
        have := (List.getElem?_eq_some_iff.mp e1).1
        simpa using this
      rw [List.getElem?_set_self (by rw [S.len]; exact l)] at e3
      cases e3
      rw [List.getElem?_set_ne ne] at e2 e4
      exact other k ys e2 e4
    · rw [List.getElem?_set_ne q1] at e1 e3
      by_cases q2 : i = k
      · subst q2
        have l : i < G.length := by
          have := (List.getElem?_eq_some_iff.mp e2).1
          simpa using this
        rw [List.getElem?_set_self (by rw [S.len]; exact l)] at e4
        cases e4
        exact other j xs e1 e3
      · rw [List.getElem?_set_ne q2] at e2 e4
        exact S.sep j k xs ys q ne e1 e2 e3 e4
theorem sx_newV {i : Nat} (h : Env te G n PL) (k : ∀ xs n', PL xs n' → N (G.set i (some (.own xs))) n') : Sx (tAsg te (gName i)) G n N R := fun pu W0 H0 σ W H E S hn hr =>
  h _ _ _ _ _ _ S _ fun xs n1 p vs W1 H1 p1 m1 u1 f hp wp rs => hn _ _ _ _ _ (k _ _ p1) m1.ww (S.putV m1 u1 f hp wp rs)
/-- own.append(e) -/
theorem sx_appV {i : Nat} (ho : G[i]? = some (some (.own xs))) (h : Ev te G n P) (hz : xs.length < 100000) (k : ∀ d n', P d n' → N (G.set i (some (.own (xs ++ [d])))) n') : Sx (tDrop (tBM K "list" rAppend (tVar i) (tCons te tNil))) G n N R := fun pu W0 H0 σ W H E S hn hr => by
  obtain ⟨p, vs, e1, e2, e3, e4, e6⟩ := ownL S ho
  refine ⟨_, e1, .inl ⟨rfl, vs, SqL.of e2⟩, h _ _ _ _ _ _ S _ fun d n1 v W1 H1 p1 m1 u1 r1 => ?_⟩
  have S1 := S.step m1 u1
  obtain ⟨q, ws, f1, f2, f3, f4, f6⟩ := ownL S1 ho
  rw [e1] at f1
  cases f1
  have np : pu ≠ some p := by
    obtain ⟨v, h1, p', vs', f1, f2, f3, f4, f5, f6⟩ := S.bd i _ ho
    rw [e1] at h1; cases h1; cases f1; exact f5
  have hk := m1.keep p _ e2 np
  refine ⟨p, vs, v, rfl, rfl, hk, by rw [e6.length]; exact sz1 hz, hn _ _ _ _ _ (k _ _ p1) m1.ww ?_⟩
  exact S1.own ho e1 ((e6.up m1.ww).app (.cons r1 .nil))
theorem esv_es {ti : TI} (h : Es ti G ds) (k : PL ds n) : Esv ti G n PL := fun pu W0 H0 σ W H S Q q => h _ _ _ _ _ _ _ S _ fun J W' H' m r => q J _ _ W' H' k m.any (S.pn.mv m) r
theorem esv_list (h : Ev te G n P) (k : ∀ d n', P d n' → ∃ ds, d = .list ds ∧ PL ds n') : Esv (iList K te) G n PL := fun pu W0 H0 σ W H S Q q =>
  h _ _ _ _ _ _ S _ fun d n1 x W1 H1 p1 m1 u1 r1 => by
    obtain ⟨ds, rfl, pl⟩ := k d n1 p1
    cases r1 with
    | lst h1 h2 =>
      rename_i a vs
      refine ⟨a, rfl, ⟨vs, SqL.of (m1.sub _ _ h1)⟩, q _ ds n1 W1 H1 pl m1 u1 ⟨YAt vs, fun H => SqL K H a vs, by rw [← h2.length]; exact walk_list, fun H e => SqL.of (e _ _ h1), ?_⟩⟩
      rintro i d H x H' hd e ⟨rfl, hx⟩ W2 e2 e3
      obtain ⟨v, g1, g2⟩ := h2.get hd
      rw [hx] at g1
      cases g1
      exact ⟨W2, Mv.rfl' e3, g2.up e2⟩
theorem esv_rng1 {PI : Int → Nat → Prop} (h : Eva tr G n fun ds n' => ∃ j, ds = [.int j] ∧ PI j n') (k : ∀ j n', PI j n' → (-1000000 ≤ j ∧ j ≤ 1000000) ∧ PL (rngD 0 j.toNat) n') : Esv (iRng1 tr) G n PL := fun pu W0 H0 σ W H S Q q =>
  h _ _ _ _ _ _ S _ fun d n1 vs W1 H1 p1 m1 u1 r1 => by
    obtain ⟨j, rfl, pj⟩ := p1
    obtain ⟨b, pl⟩ := k j n1 pj
    cases r1 with
    | cons a c => cases a; cases c; exact ⟨j, rfl, by omega, by omega, q _ _ n1 W1 H1 pl m1 u1 wk_rng⟩
/-- for, over what was drawn -/
theorem sx_forV {ti : TI} (Inv : List D → Nat → Gm → Nat → Prop) (hs : Esv ti G n PL) (h0 : ∀ ds n', PL ds n' → Inv ds 0 G n')
    (ht : ∀ ds i x G' n', ds[i]? = some x → Inv ds i G' n' → ∃ G2 js, Tg g x G' G2 js ∧ Sx ts G2 n' (Inv ds (i + 1)) R) (hd : ∀ ds G' n', Inv ds ds.length G' n' → N G' n') : Sx (tFor ti g ts) G n N R := fun pu W0 H0 σ W H E S hn hr =>
  hs _ _ _ _ _ _ S _ fun J ds n1 W1 H1 p1 m1 u1 ⟨Y, Gd, wk, hG, hY⟩ => by
    refine for_it wk (fun i σ' H' => ∃ G' n' W', Inv ds i G' n' ∧ Ex W1 W' ∧ S0 pu W0 H0 G' n' σ' W' H') ⟨G, n1, W1, h0 _ _ p1, Ex.refl W1, S.step m1 u1⟩ (fun i σ' H' _ ⟨G', n', W', _, e, S'⟩ => hG H' (e.trans S'.sub)) ?_ ?_
    · rintro i x σ' H' H'' hi ⟨G', n', W', hI, e, S'⟩ y
      obtain ⟨W2, m2, r2⟩ := hY i _ H' x H'' (List.getElem?_eq_getElem hi) (e.trans S'.sub) y W' e S'.sub
      obtain ⟨G2, js, t, hb⟩ := ht ds i _ G' n' (List.getElem?_eq_getElem hi) hI
      have S2 := S'.go m2
      refine t _ _ _ _ _ _ _ _ S2 r2 _ fun σ2 S3 _ => hb pu W0 H0 σ2 W2 H'' _ S3 (fun G3 n3 σ3 W3 H3 hI3 e3 S4 => ⟨G3, n3, W3, hI3, (e.trans m2.ww).trans e3, S4⟩) hr
    · rintro σ' H' ⟨G', n', W', hI, e, S'⟩
      exact hn _ _ _ _ _ (hd _ _ _ hI) (m1.ww.trans e) S'
end
/-- a comprehension, over what was drawn, its items drawn -/
theorem env_lc {ti : TI} {g : TG} {te : TE} {vs : List Nat} {G : Gm} {n : Nat} {PL R : List D → Nat → Prop} (Inv : List D → Nat → List D → Nat → Prop) (hs : Esv ti G n PL) (h0 : ∀ ds n1, PL ds n1 → ds.length ≤ 100000 ∧ Inv ds 0 [] n1)
    (hx : ∀ ds i x acc n', ds[i]? = some x → acc.length = i → Inv ds i acc n' → ∃ G' js, Tg g x (wpG G vs) G' js ∧ (∀ j ∈ js, j ∈ vs) ∧ Ev te G' n' fun d n2 => Inv ds (i + 1) (acc ++ [d]) n2)
    (hd : ∀ ds acc n', Inv ds ds.length acc n' → R acc n') : Env (tLc ti g tYes te vs) G n R :=
  fun pu W0 H0 σ W H S Q q => hs _ _ _ _ _ _ S _ fun J ds n1 W1 H1 p1 m1 u1 ⟨Y, Gd, wk, hG, hY⟩ => fun Dl hD => by
    obtain ⟨hz, i0⟩ := h0 ds n1 p1
    have wD : W1 Dl = none := wnone m1.sub hD
    have np : pu ≠ some Dl := fun z => u1.there Dl z hD
    have S1 := S.step m1 u1
    have fD : H Dl = none := by
      cases z : H Dl with
      | none => rfl
      | some o => rw [m1.keep Dl o z np] at hD; cases hD
    refine lc_it wk (fun i H' => ∃ W' acc es n', Inv ds i es n' ∧ es.length = i ∧ Mv pu W1 H1 W' H' ∧ Pu pu n' W' H' ∧ H' Dl = some (.lst acc) ∧ W' Dl = none ∧ Rps W' acc es) ⟨W1, [], [], n1, i0, rfl, (Mv.fresh m1.sub hD).any, u1.mv (Mv.fresh m1.sub hD), upd_same, wD, .nil⟩
      (fun i H' _ ⟨W', acc, es, n', _, _, m, _⟩ => hG H' (m.ww.trans m.sub)) ?_ ?_
    · rintro i x H' H'' hi ⟨W', acc, es, n', hI, hl0, m, u, hl, hw, rs⟩ y
      have hxi : ds[i]? = some ds[i] := List.getElem?_eq_getElem hi
      obtain ⟨W2, m2, r2⟩ := hY i _ H' x H'' hxi (m.ww.trans m.sub) y W' m.ww m.sub
      obtain ⟨G', js, t, hj, h2⟩ := hx ds i _ es n' hxi hl0 hI
      have S2 := ((S1.step m u).go m2).wp vs
      have hl2 : H'' Dl = some (.lst acc) := m2.ex _ _ hl
      have hw2 : W2 Dl = none := m2.new _ hw (by rw [hl]; exact fun z => nomatch z)
      refine t _ _ _ _ _ _ _ _ S2 r2 _ fun σ2 S3 es3 => ⟨wipe_same es3 hj, ?_⟩
      refine h2 _ _ _ _ _ _ S3 _ fun d n4 v W4 H4 pd m4 u4 r4 => ?_
      have hl4 : H4 Dl = some (.lst acc) := m4.keep _ _ hl2 np
      have hw4 : W4 Dl = none := m4.new _ hw2 (by rw [hl2]; exact fun z => nomatch z)
      have M : Mv pu W1 H1 W4 H4 := (m.tr m2.any u).tr m4 (u.mv m2)
      refine ⟨acc, hl4, ?_, W4, acc ++ [v], es ++ [d], n4, pd, by rw [List.length_append, hl0]; rfl, ⟨M.ww, fun a o h => ?_, fun a o h z => ?_, M.new⟩, fun a e => ?_, upd_same, hw4, ?_⟩
      · rw [rs.length, hl0]
        have l3 : (100000 : Nat) < sizeLine := by decide
        omega
      · rw [upd_ne (ne_of_none h hw4)]; exact M.sub a o h
      · rw [upd_ne (ne_of_none h hD)]; exact M.keep a o h z
      · obtain ⟨w, a', b', c', g1, rest⟩ := u4 a e
        exact ⟨w, a', b', c', by rw [upd_ne (show a ≠ Dl from fun z => np (z ▸ e))]; exact g1, rest⟩
      · exact (rs.up (m2.ww.trans m4.ww)).app (.cons r4 .nil)
    · rintro H' ⟨W', acc, es, n', hI, _, m, u, hl, hw, rs⟩
      exact q es n' Dl acc W' H' (hd _ _ _ hI) (m1.tr m u1) u fD hl hw rs

/-! ### promises of functions that draw -/
/-- the purse first; k: how many tosses at the most -/
def SpX {α : Type} (C : α → Prop) (pre : α → List D) (post : α → D → Prop) (k : Nat) : Sp := fun vs H Q _ => ∃ (x : α) (p : Addr) (W : Hp) (n : Nat) (ws : List V), Ex W H ∧ Pu (some p) n W H ∧ n + k ≤ 100000 ∧ C x ∧ vs = .ref p :: ws ∧ Rps W ws (pre x) ∧
  ∀ v W' H' d, post x d → Mv (some p) W H W' H' → Pu (some p) (n + k) W' H' → Rp W' v d → Q v H'
section
variable {α : Type} {C : α → Prop} {pre : α → List D} {post : α → D → Prop} {tr : TA} {G : Gm} {n k : Nat} {P : D → Nat → Prop}
/-- f(purse, e, ..) -/
theorem ev_callX {i : Nat} {PL : List D → Nat → Prop} (hi : G[i]? = some (some .pur)) (ha : Eva tr G n PL) (hc : ∀ ds n', PL ds n' → n' + k ≤ 100000 ∧ ∃ x, ds = pre x ∧ C x ∧ ∀ d, post x d → P d (n' + k)) : Ev (tCall (SpX C pre post k) [] C8.E0 (tCons (tVar i) tr)) G n P := fun pu W0 H0 σ W H S Q q => by
  obtain ⟨v0, e0, p, hp, rfl⟩ := S.bd i _ hi
  subst hp
  refine ⟨_, e0, ha _ _ _ _ _ _ S _ fun ds n1 vs W1 H1 p1 m1 u1 r1 => ?_⟩
  obtain ⟨hk, x, rfl, cx, kk⟩ := hc ds n1 p1
  exact ⟨x, p, W1, n1, vs, m1.sub, u1, hk, cx, by rw [List.append_nil], r1, fun v W2 H2 d pd m2 u2 r2 => q d _ v W2 H2 (kk d pd) (m1.tr m2 u1) u2 r2⟩
theorem ev_callX0 {i : Nat} {ds : List D} (x : α) (hi : G[i]? = some (some .pur)) (ha : Ea tr G ds) (hp : ds = pre x) (hc : C x) (hk : n + k ≤ 100000) (kk : ∀ d, post x d → P d (n + k)) : Ev (tCall (SpX C pre post k) [] C8.E0 (tCons (tVar i) tr)) G n P :=
  ev_callX hi (eva_ea (PL := fun ds' n' => ds' = ds ∧ n' = n) ha ⟨rfl, rfl⟩) fun ds' n' ⟨e1, e2⟩ => by
    subst e1 e2
    exact ⟨hk, x, hp, hc, kk⟩
/-- f(e, ..), what is drawn among the arguments -/
theorem ev_callV {post' : α → D} {PL : List D → Nat → Prop} (ha : Eva tr G n PL) (hc : ∀ ds n', PL ds n' → ∃ x, ds = pre x ∧ C x ∧ P (post' x) n') : Ev (tCall (SpP C pre post') [] C8.E0 tr) G n P := fun pu W0 H0 σ W H S Q q =>
  ha _ _ _ _ _ _ S _ fun ds n1 vs W1 H1 p1 m1 u1 r1 => by
    obtain ⟨x, rfl, cx, kk⟩ := hc ds n1 p1
    exact ⟨x, W1, m1.sub, cx, by rw [List.append_nil]; exact r1, fun v W2 H2 m2 r2 => q _ n1 v W2 H2 kk (m1.tr m2.any u1) (u1.mv m2) r2⟩
def iniX (ds : List D) (k : Nat) : Gm := some .pur :: ini ds k
theorem s0_iniX {W H : Hp} {p : Addr} {n : Nat} {vs : List V} {ds : List D} {k : Nat} (e : Ex W H) (u : Pu (some p) n W H) (h : Rps W vs ds) : S0 (some p) W H (iniX ds k) n (some (.ref p) :: (vs.map some ++ List.replicate k none)) W H where
  mv := Mv.rfl' e
  pn := u
  bd := fun i b z => by
    cases i with
    | zero => cases z; exact ⟨_, rfl, p, rfl, rfl⟩
    | succ i =>
      obtain ⟨v, d, h1, h2, h3⟩ := rps_get (k := k) (i := i) h z
      subst h2
      exact ⟨v, h1, h3⟩
  sep := fun i j xs ys q _ z _ _ _ => by
    cases i with
    | zero => cases z
    | succ i =>
      obtain ⟨v, d, h1, h2, h3⟩ := rps_get (k := k) (i := i) h z
      cases h2
  len := by unfold iniX ini; simp [h.length]
theorem rd_ofX {t : TS} {N : List Str} {p : Nat} (hl : ∀ x, (pre x).length = p)
    (h : ∀ x n, C x → n + k ≤ 100000 → Sx t (iniX (pre x) (N.length - (p + 1))) n (fun _ _ => False) (fun d n' => n' ≤ n + k ∧ post x d)) (vs : List V) (H : Hp) (Q : VK) (E : XK) (s : SpX C pre post k vs H Q E) : t { nx := fun _ H' => Q .non H', rt := Q } (L2.start N vs) H := by
  obtain ⟨x, a, W, n, ws, e, u, hk, hc, rfl, r, q⟩ := s
  have es : L2.start N (.ref a :: ws) = some (.ref a) :: (ws.map some ++ List.replicate (N.length - (p + 1)) none) := by
    unfold L2.start
    rw [List.length_cons, r.length, hl x]
    rfl
  rw [es]
  exact h x n hc hk (some a) W H _ W H _ (s0_iniX e u r) (fun G' n' σ' W' H' z => z.elim) fun d n' v W' H' z m u' r' => q v W' H' d z.2 m (u'.more z.1) r'
theorem len_ofX {p : Nat} (hl : ∀ x, (pre x).length = p) (vs : List V) (H : Hp) (Q : VK) (E : XK) (s : SpX C pre post k vs H Q E) : vs.length = p + 1 := by
  obtain ⟨x, a, W, n, ws, e, u, hk, hc, rfl, r, q⟩ := s
  rw [List.length_cons, r.length, hl x]
end
end Kr
end
section
/-! K9: the purse itself; ints that are drawn. -/
namespace Kr
open PySem L2
open Evl (Ex)
/-- no hook sees a division by _pylong -/
structure SeerP (P : Program) (base : Heap) : Prop where
  ns : base.NoSeer
  tree : P.given.tree = none
section
variable {X : Cx} {k : Nat}
theorem op_fdivS (NS : SeerP X.prog X.base) (hr : Room k X.A) (hk : 32 ≤ k := by decide) (hs : X.stack = X.env :: X.outer := by rfl) (hg : X.env.scope.isGenerator = false := by rfl) (hc : X.env.scope.isCoroutine = false := by rfl) : OpR X (binaryOp .FloorDiv) (rI CDivP fun i j => .int (i / j)) := by
  intro pins s σ H x y v u Q I rx ry h
  obtain ⟨i, j, rfl, rfl, hc1, q⟩ := h
  obtain ⟨t, rfl⟩ := rx
  obtain ⟨t', rfl⟩ := ry
  have h1 : (0 : Int) < j := hc1
  have hd : X.A.depth + Builtin.pylongFrames < recursionLimit := by
    have := hr.dp
    have e : Builtin.pylongFrames = 100 := rfl
    omega
  have room : PylongRoom (model X.prog X.w) X.A s := PylongRoom.of I.nolimit hd (SeerAt.of (NS.ns.keeps I.bk) NS.tree (I.ok.frames.trans (by rw [hs])) hg hc I.ok.blt I.ok.glob)
  refine PyProof.Rows.floordiv_int (by omega) ?_ (.inr room)
  rw [Int.fdiv_eq_ediv_of_nonneg i (by omega)]
  exact ⟨.int (i / j), H, I.tok _, ⟨_, rfl⟩, q⟩
end
/-- ints that are drawn: k tosses at the most -/
def EvI (te : TE) (G : Gm) (n k : Nat) (A : Int → Prop) : Prop := Ev te G n fun d n' => n' = n + k ∧ ∃ z, d = .int z ∧ A z
def EaI (ta : TA) (G : Gm) (n k : Nat) (Z : List Int → Prop) : Prop := Eva ta G n fun ds n' => n' = n + k ∧ ∃ zs : List Int, ds = zs.map PyData.int ∧ Z zs
section
variable {te ta tb : TE} {tr : TA} {G : Gm} {n k l : Nat} {r : R2} {A B C : Int → Prop} {K : PySem.W.Frag} {z : Int}
theorem evi_ep (h : Ep te G (.int z)) (a : A z) : EvI te G n 0 A := ev_ep h ⟨rfl, z, rfl, a⟩
theorem evi_mono (h : EvI te G n k A) (a : ∀ z, A z → B z) : EvI te G n k B := ev_mono h fun d n' ⟨e, z, e2, az⟩ => ⟨e, z, e2, a z az⟩
theorem evi_op {f : Int → Int → Int} (ha : EvI ta G n k A) (hb : EvI tb G (n + k) l B) (hr : ∀ x y, A x → B y → OpD r (.int x) (.int y) (.int (f x y)) ∧ C (f x y)) : EvI (tOp r ta tb) G n (k + l) C :=
  ev_op (P2 := fun d e n2 => (∃ x y, d = .int x ∧ e = .int y ∧ A x ∧ B y) ∧ n2 = n + (k + l)) ha (fun d n1 ⟨e1, x, ex, ax⟩ => by
    subst e1
    exact ev_mono hb fun e n2 ⟨e2, y, ey, by'⟩ => ⟨⟨x, y, ex, ey, ax, by'⟩, by omega⟩) fun d e n2 ⟨⟨x, y, ex, ey, ax, by'⟩, en⟩ => by
    subst ex ey
    exact ⟨_, (hr x y ax by').1, en, _, rfl, (hr x y ax by').2⟩
theorem eai_nil {Z : List Int → Prop} (h : Z []) : EaI tNil G n 0 Z := eva_nil ⟨rfl, [], rfl, h⟩
theorem eai_cons {Z : List Int → Prop} (ha : EvI ta G n k A) (hr : ∀ z, A z → EaI tr G (n + k) l fun zs => Z (z :: zs)) : EaI (tCons ta tr) G n (k + l) Z :=
  eva_cons ha fun d n1 ⟨e1, z, ez, az⟩ => by
    subst e1 ez
    intro pu W0 H0 σ W H S Q q
    exact hr z az _ _ _ _ _ _ S Q fun ds n2 vs W' H' ⟨e2, zs, ezs, hz⟩ => q ds n2 vs W' H' ⟨by omega, z :: zs, by rw [ezs]; rfl, hz⟩
/-- one of a few -/
theorem evi_pick {L : Nat} (h1 : EaI tr G n k fun zs => zs.length = L ∧ ∀ z ∈ zs, A z) (h2 : EvI tb G (n + k) l fun r => 0 ≤ r ∧ r < (L : Int)) (hL : L ≤ 100000) : EvI (tOp (rIxL K) (tLst tr) tb) G n (k + l) A := by
  refine ev_op (P1 := fun d n1 => n1 = n + k ∧ ∃ zs : List Int, d = .list (zs.map PyData.int) ∧ zs.length = L ∧ ∀ z ∈ zs, A z) (P2 := fun d e n2 => n2 = n + (k + l) ∧ ∃ (zs : List Int) (r : Int), d = .list (zs.map PyData.int) ∧ e = .int r ∧ (zs.length = L ∧ ∀ z ∈ zs, A z) ∧ 0 ≤ r ∧ r < (L : Int)) (ev_new (env_lst (PR := fun ds n1 => n1 = n + k ∧ ∃ zs : List Int, ds = zs.map PyData.int ∧ zs.length = L ∧ ∀ z ∈ zs, A z) h1 fun ds n' ⟨e, zs, e2, hz⟩ => ⟨by rw [e2, List.length_map, hz.1]; exact hL, e, zs, e2, hz⟩) fun xs n' ⟨e, zs, e2, hz⟩ => ⟨e, zs, by rw [e2], hz⟩) (fun d n1 ⟨e1, zs, ez, hz⟩ => ?_) fun d e n2 ⟨en, zs, r, ed, ee, hz, r0, r1⟩ => ?_
  · subst e1
    exact ev_mono h2 fun e n2 ⟨e2, r, er, hr⟩ => ⟨by omega, zs, r, ez, er, hz, hr⟩
  · subst ed ee
    obtain ⟨m, rfl⟩ : ∃ m : Nat, r = (m : Int) := ⟨r.toNat, by omega⟩
    have hl : m < zs.length := by omega
    refine ⟨.int zs[m], od_ixL ?_, en, _, rfl, hz.2 _ (List.getElem_mem hl)⟩
    refine atI_nat ?_
    rw [List.getElem?_map, List.getElem?_eq_getElem hl]
    rfl
/-- one of the purse's ints -/
theorem ev_pur {i j : Nat} (hi : G[i]? = some (some .pur)) (hj : j < 3) : EvI (tOp (rIxL K) (tVar i) (tC (.int (j : Int)))) G n 0 fun z => (j = 1 → 0 ≤ z ∧ z < 10 ^ 44) ∧ (j = 2 → 0 ≤ z ∧ z ≤ n) := fun pu W0 H0 σ W H S Q q => by
  obtain ⟨v0, e0, p, hp, rfl⟩ := S.bd i _ hi
  subst hp
  obtain ⟨w, a, b, c, g, b0, b1, c0, c1⟩ := S.pn p rfl
  have key : ∀ z : Int, ([V.int a, V.int b, V.int c] : List V)[j]? = some (.int z) → ((j = 1 → 0 ≤ z ∧ z < 10 ^ 44) ∧ (j = 2 → 0 ≤ z ∧ z ≤ n)) → tOp (rIxL K) (tVar i) (tC (.int (j : Int))) σ H Q := fun z hz hc =>
    ⟨_, e0, p, _, (j : Int), .int z, rfl, rfl, SqL.of g, atI_nat hz, q (.int z) n (.int z) W H ⟨rfl, z, rfl, hc⟩ (Mv.rfl' S.sub) S.pn (.int z)⟩
  match j, hj with
  | 0, _ => exact key a rfl ⟨(fun z => by cases z), (fun z => by cases z)⟩
  | 1, _ => exact key b rfl ⟨(fun _ => ⟨b0, b1⟩), (fun z => by cases z)⟩
  | 2, _ => exact key c rfl ⟨(fun z => by cases z), (fun _ => ⟨c0, c1⟩)⟩
theorem S0.purse {pu : Option Addr} {W0 H0 W H : Hp} {σ : St} {p : Addr} {a b c : Int} {m : Nat} (S : S0 pu W0 H0 G n σ W H) (hp : pu = some p) (hb : 0 ≤ b ∧ b < 10 ^ 44) (hc : 0 ≤ c ∧ c ≤ m) : S0 pu W0 H0 G m σ W (upd H p (.lst [.int a, .int b, .int c])) := by
  obtain ⟨w, _, _, _, g, _⟩ := S.pn p hp
  refine S.step ⟨Ex.refl W, fun x o h => ?_, fun x o h z => ?_, fun _ h _ => h⟩ fun x e => ?_
  · rw [upd_ne (ne_of_none h w)]; exact S.sub x o h
  · rw [upd_ne (fun e => z (by rw [hp, e]))]; exact h
  · rw [hp] at e
    cases e
    exact ⟨w, a, b, c, upd_same, hb.1, hb.2, hc.1, hc.2⟩
variable {N : Gm → Nat → Prop} {R : D → Nat → Prop}
theorem sx_pur0 {i : Nat} (hi : G[i]? = some (some .pur)) (h : EvI te G n 0 fun _ => True) (k : N G n) : Sx (tAsg te (gSub (tVar i) (tC (.int 0)) L2.rSetL)) G n N R := fun pu W0 H0 σ W H E S hn hr =>
  h _ _ _ _ _ _ S _ fun d n1 v W1 H1 p1 m1 u1 r1 => by
    obtain ⟨e1, z, e2, _⟩ := p1
    subst e1 e2
    cases r1
    have S1 := S.step m1 u1
    obtain ⟨v0, e0, p, hp, rfl⟩ := S1.bd i _ hi
    obtain ⟨w, a, b, c, g, b0, b1, c0, c1⟩ := S1.pn p hp
    exact ⟨_, e0, p, _, 0, 0, rfl, rfl, g, rfl, hn _ _ _ _ _ k m1.ww (S1.purse hp ⟨b0, b1⟩ ⟨c0, c1⟩)⟩
theorem sx_pur2 {i : Nat} (hi : G[i]? = some (some .pur)) (h : EvI te G n 0 fun z => 0 ≤ z ∧ z ≤ n + 1) (k : N G (n + 1)) : Sx (tAsg te (gSub (tVar i) (tC (.int 2)) L2.rSetL)) G n N R := fun pu W0 H0 σ W H E S hn hr =>
  h _ _ _ _ _ _ S _ fun d n1 v W1 H1 p1 m1 u1 r1 => by
    obtain ⟨e1, z, e2, hz⟩ := p1
    subst e1 e2
    cases r1
    have S1 := S.step m1 u1
    obtain ⟨v0, e0, p, hp, rfl⟩ := S1.bd i _ hi
    obtain ⟨w, a, b, c, g, b0, b1, c0, c1⟩ := S1.pn p hp
    exact ⟨_, e0, p, _, 2, 2, rfl, rfl, g, rfl, hn _ _ _ _ _ k m1.ww (S1.purse hp ⟨b0, b1⟩ ⟨hz.1, by have := hz.2; omega⟩)⟩
theorem evt_test {P : D → Nat → Prop} {PB : Bool → Nat → Prop} (h : Ev te G n P) (k : ∀ d n', P d n' → ∃ b, d = .bool b ∧ PB b n') : Evt (tTest te) G n PB := evt_B h k
theorem evi_int (h : EvI te G n k A) : EvI (tCB rInt (tCons te tNil)) G n k A :=
  ev_cb (PL := fun ds n' => n' = n + k ∧ ∃ z, ds = [.int z] ∧ A z) (eva_cons h fun d n1 ⟨e, z, e2, az⟩ => eva_nil ⟨e, z, by rw [e2], az⟩) fun ds n' ⟨e, z, e2, az⟩ => ⟨.int z, by rw [e2]; exact cd_int, e, z, rfl, az⟩
/-- name = an int that is drawn -/
theorem sx_asgI {i : Nat} (h : EvI te G n k A) (kk : ∀ z, A z → N (G.set i (some (.fro (.int z)))) (n + k)) : Sx (tAsg te (gName i)) G n N R :=
  sx_asgV h fun d n' ⟨e, z, e2, az⟩ => by subst e e2; exact kk z az
theorem eai_ea {zs : List Int} {Z : List Int → Prop} (h : Ea tr G (zs.map PyData.int)) (hz : Z zs) : EaI tr G n 0 Z := eva_ea h ⟨rfl, zs, rfl, hz⟩
theorem ep_pick {zs : List Int} {s : Int} (h : Ea tr G (zs.map PyData.int)) (h2 : Ep tb G (.int s)) (h0 : 0 ≤ s) (h1 : s.toNat < zs.length) (hl : zs.length ≤ 100000) : Ep (tOp (rIxL K) (tLst tr) tb) G (.int (zs.getD s.toNat 0)) := by
  refine ep_op (ep_new (en_lst h (by rw [List.length_map]; exact hl))) h2 (od_ixL ?_)
  obtain ⟨m, rfl⟩ : ∃ m : Nat, s = (m : Int) := ⟨s.toNat, by omega⟩
  have hl : m < zs.length := by omega
  refine atI_nat ?_
  rw [Int.toNat_natCast, List.getElem?_map, List.getElem?_eq_getElem hl, List.getD_eq_getElem?_getD, List.getElem?_eq_getElem hl]
  rfl
theorem esv_rngI (h : EvI te G n k A) (hA : ∀ z, A z → 0 ≤ z ∧ z ≤ 1000) : Esv (iRng1 (tCons te tNil)) G n fun ds n' => n' = n + k ∧ ∃ z, A z ∧ (ds.length : Int) = z :=
  esv_rng1 (PI := fun j n' => n' = n + k ∧ A j) (eva_cons h fun d n1 ⟨e, z, e2, az⟩ => eva_nil ⟨z, by rw [e2], e, az⟩) fun j n' ⟨e, aj⟩ => by
    have hj := hA j aj
    refine ⟨⟨by omega, by omega⟩, e, j, aj, ?_⟩
    unfold rngD
    rw [List.length_map, List.length_range]
    omega
end
end Kr
end
section
namespace Kr
open PySem L2
open Evl (Ex)
open C8 (Cal pe_c)
local macro_rules | `(tactic| walk_at "ev") => `(tactic| skip)
local macro_rules | `(tactic| walk_at "ev") => `(tactic| first
  | with_reducible exact ep_int
  | with_reducible exact ep_bl
  | with_reducible exact ep_non
  | with_reducible exact ea_nil
  | with_reducible exact et_yes
  | with_reducible exact eo_no
  | ((with_reducible apply ep_var); rfl)
  | (with_reducible apply ea_cons) <;> walk_at "ev"
  | (with_reducible apply ep_op) <;> walk_at "ev"
  | (with_reducible apply ep_un) <;> walk_at "ev"
  | (with_reducible apply ep_isi) <;> walk_at "ev"
  | ((with_reducible apply ep_lenV); rfl)
  | (with_reducible apply ep_len) <;> walk_at "ev"
  | (with_reducible apply ep_abs) <;> walk_at "ev"
  | (with_reducible apply ep_int1) <;> walk_at "ev"
  | (with_reducible apply ep_max2) <;> walk_at "ev"
  | (with_reducible apply ep_min2) <;> walk_at "ev"
  | (with_reducible apply et_test) <;> walk_at "ev"
  | (with_reducible apply et_B) <;> walk_at "ev"
  | (with_reducible apply et_not) <;> walk_at "ev"
  | (with_reducible apply ep_notV) <;> walk_at "ev"
  | (with_reducible apply ep_tup) <;> walk_at "ev"
  | (with_reducible apply eo_part) <;> walk_at "ev"
  | with_reducible exact od_i
  | with_reducible exact od_b
  | with_reducible exact od_eqI
  | with_reducible exact od_neI
  | with_reducible exact od_isN
  | with_reducible exact od_notN
  | with_reducible exact od_notB
  | with_reducible apply od_c
  | with_reducible exact od_ixT0
  | with_reducible exact od_ixT1
  | with_reducible exact od_ixL0
  | with_reducible exact od_ixL1
  | with_reducible exact od_ixL2
  | with_reducible apply od_ixL
  | with_reducible apply od_ixT
  | with_reducible exact ud_neg
  | (with_reducible refine' et_or ?_ (fun _ => ?_)) <;> walk_at "ev"
  | (with_reducible refine' et_and ?_ (fun _ => ?_)) <;> walk_at "ev"
  | (with_reducible refine' ep_orV ?_ (fun _ => ?_)) <;> walk_at "ev"
  | (with_reducible refine' ep_andV ?_ (fun _ => ?_)) <;> walk_at "ev"
  | (with_reducible refine' ep_chain ?_ ?_ ?_ (fun _ => ?_) (fun _ => ?_)) <;> walk_at "ev"
  | exact isi_int
  | exact isi_intb
  | exact isi_lst
  | exact isi_tup
  | exact Nat.le_of_ble_eq_true rfl)
local macro_rules | `(tactic| walk_at "ev") => `(tactic| (with_reducible apply ev_divisor_of) <;> walk_at "ev")
local macro_rules | `(tactic| walk_at "ev") => `(tactic| (with_reducible apply ev_multiple_of) <;> walk_at "ev")
local macro_rules | `(tactic| walk_at "ev") => `(tactic| (with_reducible apply ev_divides) <;> walk_at "ev")
local macro_rules | `(tactic| walk_at "ev") => `(tactic| (with_reducible apply ev_do_fit) <;> walk_at "ev")
local macro_rules | `(tactic| walk_at "ev") => `(tactic| (with_reducible apply ev_conflicts_in) <;> walk_at "ev")
local macro_rules | `(tactic| walk_at "ev") => `(tactic| (with_reducible apply ev_is_integer) <;> walk_at "ev")
local macro_rules | `(tactic| walk_at "ev") => `(tactic| (with_reducible apply ev_is_told) <;> walk_at "ev")
local macro_rules | `(tactic| walk_at "ev") => `(tactic| (with_reducible apply ev_is_item) <;> walk_at "ev")
local macro_rules | `(tactic| walk_at "ev") => `(tactic| (with_reducible apply ev_is_book) <;> walk_at "ev")
local macro_rules | `(tactic| walk_at "ev") => `(tactic| (with_reducible apply ev_need_book) <;> walk_at "ev")
local macro_rules | `(tactic| walk_at "ev") => `(tactic| (with_reducible apply ev_conflict_in) <;> walk_at "ev")
local macro_rules | `(tactic| walk_at "ev") => `(tactic| (with_reducible apply ev_need_fitting) <;> walk_at "ev")
local macro_rules | `(tactic| walk_at "ev") => `(tactic| (with_reducible apply ev_need_possible) <;> walk_at "ev")
local macro_rules | `(tactic| walk_at "ev") => `(tactic| (with_reducible apply ev_conflict_of) <;> walk_at "ev")
local macro_rules | `(tactic| walk_at "ev") => `(tactic| (with_reducible apply ev_all_conflicts) <;> walk_at "ev")
local macro_rules | `(tactic| walk_at "ev") => `(tactic| (with_reducible apply ev_need_modulus1) <;> walk_at "ev")
local macro_rules | `(tactic| walk_at "ev") => `(tactic| (with_reducible apply ev_need_modulus2) <;> walk_at "ev")
local macro_rules | `(tactic| walk_at "ev") => `(tactic| (with_reducible apply ev_inverse_of) <;> walk_at "ev")
local macro_rules | `(tactic| walk_at "ev") => `(tactic| (with_reducible apply ev_met) <;> walk_at "ev")
local macro_rules | `(tactic| walk_at "ev") => `(tactic| (with_reducible apply ev_class_by) <;> walk_at "ev")
local macro_rules | `(tactic| walk_at "ev") => `(tactic| (with_reducible apply ev_class_at) <;> walk_at "ev")
local macro_rules | `(tactic| walk_at "ev") => `(tactic| (with_reducible apply ev_can_have) <;> walk_at "ev")
local macro_rules | `(tactic| walk_at "ev") => `(tactic| (with_reducible apply ev_far_in) <;> walk_at "ev")
local macro_rules | `(tactic| walk_at "ev") => `(tactic| (with_reducible apply ev_need_sure) <;> walk_at "ev")
local macro_rules | `(tactic| walk_at "ev") => `(tactic| (with_reducible apply ev_reason_for) <;> walk_at "ev")
local macro_rules | `(tactic| walk_at "ev") => `(tactic| (with_reducible apply ev_are_indices) <;> walk_at "ev")
local macro_rules | `(tactic| walk_at "ev") => `(tactic| (with_reducible apply ev_shows_reason) <;> walk_at "ev")
local macro_rules | `(tactic| walk_at "ev") => `(tactic| (with_reducible apply ev_need_places) <;> walk_at "ev")
local macro_rules | `(tactic| walk_at "ev") => `(tactic| (with_reducible apply ev_need_open) <;> walk_at "ev")
local macro_rules | `(tactic| walk_at "ev") => `(tactic| (with_reducible apply ev_steps_in) <;> walk_at "ev")
local macro_rules | `(tactic| walk_at "ev") => `(tactic| (with_reducible apply ev_size_in) <;> walk_at "ev")
local macro_rules | `(tactic| walk_at "ev") => `(tactic| (with_reducible apply ev_count_in) <;> walk_at "ev")
local macro_rules | `(tactic| walk_at "ev") => `(tactic| (with_reducible apply ev_need_size) <;> walk_at "ev")
local macro_rules | `(tactic| walk_at "ev") => `(tactic| (with_reducible apply ev_step_list) <;> walk_at "ev")
local macro_rules | `(tactic| walk_at "ev") => `(tactic| (with_reducible apply ev_common_size) <;> walk_at "ev")
local macro_rules | `(tactic| walk_at "ev") => `(tactic| (with_reducible apply ev_count_fillings) <;> walk_at "ev")
local macro_rules | `(tactic| walk_at "ev") => `(tactic| (with_reducible apply ev_nth_filling) <;> walk_at "ev")
local macro_rules | `(tactic| walk_at "ev") => `(tactic| (with_reducible apply ev_index_in) <;> walk_at "ev")
local macro_rules | `(tactic| walk_at "ev") => `(tactic| (with_reducible apply ev_filling_index) <;> walk_at "ev")
local macro_rules | `(tactic| walk_at "ev") => `(tactic| (with_reducible apply ev_vectors_in) <;> walk_at "ev")
local macro_rules | `(tactic| walk_at "ev") => `(tactic| (with_reducible apply ev_summed) <;> walk_at "ev")
local macro_rules | `(tactic| walk_at "ev") => `(tactic| (with_reducible apply ev_need_weights) <;> walk_at "ev")
local macro_rules | `(tactic| walk_at "ev") => `(tactic| (with_reducible apply ev_sure_sum) <;> walk_at "ev")
local macro_rules | `(tactic| walk_at "ev") => `(tactic| (with_reducible apply ev_need_asked2) <;> walk_at "ev")
local macro_rules | `(tactic| walk_at "ev") => `(tactic| (with_reducible apply ev_need_asked3) <;> walk_at "ev")
local macro_rules | `(tactic| walk_at "ev") => `(tactic| (with_reducible apply ev_prime_powers) <;> walk_at "ev")
local macro_rules | `(tactic| walk_at "ev") => `(tactic| (with_reducible apply ev_lacking_in) <;> walk_at "ev")
local macro_rules | `(tactic| walk_at "ev") => `(tactic| (with_reducible apply ev_most_lacking) <;> walk_at "ev")
local macro_rules | `(tactic| walk_at "ev") => `(tactic| (with_reducible apply ev_first_lacking) <;> walk_at "ev")
local macro_rules | `(tactic| walk_at "ev") => `(tactic| (with_reducible apply ev_sure_table) <;> walk_at "ev")
local macro_rules | `(tactic| walk_at "ev") => `(tactic| (with_reducible apply ev_fewest_more) <;> walk_at "ev")
local macro_rules | `(tactic| walk_at "ev") => `(tactic| (with_reducible apply ev_are_questions) <;> walk_at "ev")
local macro_rules | `(tactic| walk_at "ev") => `(tactic| (with_reducible apply ev_shows_questions) <;> walk_at "ev")
local macro_rules | `(tactic| walk_at "ev") => `(tactic| (with_reducible apply ev_questions) <;> walk_at "ev")

/-! ### _law_toss -/
abbrev N__law_toss : List Str := ["_law_purse_here", "_law_many", "_law_side", "_law_mixed"]
theorem sc__law_toss : FnScope N__law_toss ["_law_purse_here", "_law_many"] (defScope s__law_toss) := ⟨rfl, rfl, rfl, by decide +kernel, rfl, by decide +kernel, by decide +kernel⟩
abbrev sp__law_toss : Sp := SpX (α := Int) (fun m => 1 ≤ m) (fun m => [.int m]) (fun m d => ∃ r, d = .int r ∧ 0 ≤ r ∧ r < m) 1
theorem cal__law_toss {P : Program} {w : World} {K : PySem.W.Frag} {mg : Str → Option Value} {base : Heap} (T : Txt K mg) (NS : SeerP P base) : Cal P w K mg base 40 "_law_toss" sp__law_toss [] := by
  obtain ⟨fd, F⟩ := T.c.def_ 53 (d := d__law_toss) rfl
  refine ⟨⟨_, fd, ["_law_purse_here", "_law_many"], [], ?_, T.glo 53, F.kp, F.bindsN (fun _ _ _ _ _ _ us hl => match us, hl with | [_, _], _ => rfl), .nil⟩⟩
  refine F.ok sc__law_toss (fun vs H Q E h => len_ofX (α := Int) (C := fun m => 1 ≤ m) (pre := fun m => [.int m]) (post := fun m d => ∃ r, d = .int r ∧ 0 ≤ r ∧ r < m) (k := 1) (p := 1) (fun _ => rfl) vs H Q E h) (fun cdv A outer s H vs Q E hr h => ?_)
  refine ⟨_, PSs.nox (pss_cons (ps_if (pt_cmpR op_gt (pe_ix (ixL (K := K)) (pv 0) pe_int (fun _ _ => rfl)) pe_int (nomark _)) (pss_cons (ps_set (i := 2) sc__law_toss.nd rfl (Or.inl rfl) (pe_op op_mod (pe_callTy k_int rfl (free_int T) bb_int (pa_cons (pe_ix (ixL (K := K)) (pv 0) pe_int (fun _ _ => rfl)) pa_nil)) (pv 1)))
      (pss_cons (ps_asg (pe_op (op_fdivS NS hr) (pe_ix (ixL (K := K)) (pv 0) pe_int (fun _ _ => rfl)) (pv 1)) (pg_sub (pv 0) pe_int set_list))
      (pss_one (ps_ret (pv 2))))) pss_nil)
      (pss_cons (ps_asg (pe_op op_add (pe_ix (ixL (K := K)) (pv 0) pe_int (fun _ _ => rfl)) pe_int) (pg_sub (pv 0) pe_int set_list))
      (pss_cons (ps_set (i := 3) sc__law_toss.nd rfl (Or.inl rfl) (pe_op op_mod (pe_callTy k_int rfl (free_int T) bb_int (pa_cons (pe_op op_cube (pe_op op_add (pe_ix (ixL (K := K)) (pv 0) pe_int (fun _ _ => rfl)) (pe_op op_mulW pe_int (pe_ix (ixL (K := K)) (pv 0) pe_int (fun _ _ => rfl)))) pe_int) pa_nil)) (pe_op op_add (pe_op op_pow pe_int pe_int) pe_int)))
      (pss_cons (ps_set (i := 3) sc__law_toss.nd rfl (Or.inl rfl) (pe_op op_mod (pe_callTy k_int rfl (free_int T) bb_int (pa_cons (pe_op op_cube (pe_op op_add (pv 3) (pe_op op_mulW pe_int (pe_ix (ixL (K := K)) (pv 0) pe_int (fun _ _ => rfl)))) pe_int) pa_nil)) (pe_op op_add (pe_op op_pow pe_int pe_int) pe_int)))
      (pss_one (ps_ret (pe_op op_mod (pe_callTy k_int rfl (free_int T) bb_int (pa_cons (pe_op op_fdivW (pv 3) pe_int) pa_nil)) (pv 1)))))))), ?_⟩
  refine rd_ofX (α := Int) (C := fun m => 1 ≤ m) (pre := fun m => [.int m]) (post := fun m d => ∃ r, d = .int r ∧ 0 ≤ r ∧ r < m) (k := 1) (p := 1) (N := N__law_toss) (fun _ => rfl) ?rd vs H Q E h
  case rd =>
    intro m n hm hk
    show Sx _ [some .pur, some (.fro (.int m)), none, none] n _ _
    replace hm : 1 ≤ m := hm
    have md : ∀ x y : Int, True → y = m → OpD (rI (fun _ j => 0 < j) fun i j => .int (i % j)) (.int x) (.int y) (.int (x % y)) ∧ (0 ≤ x % y ∧ x % y < m) := fun x y _ hy => by
      subst hy
      exact ⟨od_c (by show 0 < y; omega), Int.emod_nonneg _ (by omega), Int.emod_lt_of_pos _ (by omega)⟩
    refine sx_seq (M := fun G n' => G = [some .pur, some (.fro (.int m)), none, none] ∧ n' = n) (sx_ifV (PB := fun b n' => n' = n) (evt_test (P := fun d n' => n' = n ∧ ∃ b, d = .bool b) (ev_op (P2 := fun d e n' => n' = n ∧ ∃ z : Int, d = .int z ∧ e = .int 0) (ev_pur (j := 0) rfl (by decide)) (fun d n1 ⟨e1, z, e2, _⟩ => ev_ep ep_int ⟨e1, z, e2, rfl⟩) (fun d e n2 ⟨e1, z, e2, e3⟩ => ?_)) (fun d n' ⟨e1, b, e2⟩ => ⟨b, e2, e1⟩)) (fun b n1 e1 => ?_)) ?_
    · subst e2 e3
      exact ⟨_, od_b, e1, _, rfl⟩
    · subst e1
      cases b with
      | false => exact sx_next ⟨rfl, rfl⟩
      | true =>
        refine sx_seq (M := fun G n' => n' = n1 ∧ ∃ r : Int, G = [some .pur, some (.fro (.int m)), some (.fro (.int r)), none] ∧ 0 ≤ r ∧ r < m) (sx_asgI (evi_op (k := 0) (l := 0) (f := fun i j => i % j) (evi_mono (B := fun _ => True) (evi_int (ev_pur (j := 0) rfl (by decide))) fun _ _ => True.intro) (evi_ep (A := fun y => y = m) (ep_var rfl) rfl) md) fun z hz => ⟨rfl, z, rfl, hz⟩) ?_
        rintro G n1 ⟨rfl, r, rfl, hr⟩
        refine sx_seq (M := fun G n' => n' = n1 ∧ G = [some .pur, some (.fro (.int m)), some (.fro (.int r)), none]) (sx_pur0 rfl (evi_op (k := 0) (l := 0) (B := fun y => y = m) (f := fun i j => i / j) (evi_mono (B := fun _ => True) (ev_pur (j := 0) rfl (by decide)) fun _ _ => True.intro) (evi_ep (ep_var rfl) rfl) fun x y _ hy => ⟨od_c (by show 0 < y; omega), True.intro⟩) ⟨rfl, rfl⟩) ?_
        rintro G n' ⟨rfl, rfl⟩
        exact sx_ret (d := .int r) (ep_var rfl) ⟨Nat.le_succ _, r, rfl, hr⟩
    · rintro G n1 ⟨rfl, rfl⟩
      refine sx_seq (M := fun G n' => n' = n1 + 1 ∧ G = [some .pur, some (.fro (.int m)), none, none]) (sx_pur2 rfl (evi_op (k := 0) (l := 0) (B := fun y => y = 1) (f := fun i j => i + j) (ev_pur (j := 2) rfl (by decide)) (evi_ep ep_int rfl) fun x y hx hy => ⟨od_i, by have := hx.2 rfl; omega⟩) ⟨rfl, rfl⟩) ?_
      rintro G n' ⟨rfl, rfl⟩
      have c9 : Sm 900 (((n1 + 1 : Nat) : Int)) := Sm.nat (Nat.lt_of_lt_of_le (show n1 + 1 < 2 ^ 17 by omega) (Nat.pow_le_pow_right (by decide) (by decide)))
      have mul1 : ∀ (a : Int) (ha : Sm 100 a) (x y : Int), x = a → (2 = 1 → 0 ≤ y ∧ y < 10 ^ 44) ∧ (2 = 2 → 0 ≤ y ∧ y ≤ ((n1 + 1 : Nat) : Int)) → OpD (rI CMulW fun i j => .int (i * j)) (.int x) (.int y) (.int (x * y)) ∧ Sm 1000 (x * y) := fun a ha x y hx hy => by
        subst hx
        have hy2 := hy.2 rfl
        have sy : Sm 900 y := sm_le c9 hy2.1 hy2.2
        exact ⟨od_c (Sm.cmul ha sy (by decide)), (ha.mul sy).mono (by decide)⟩
      have cube : ∀ x y : Int, Sm 2000 x → y = 3 → OpD (rI CCube fun i j => .int (i ^ j.toNat)) (.int x) (.int y) (.int (x ^ y.toNat)) ∧ True := fun x y hx hy => ⟨od_c ⟨hy, by
        by_cases z : x.natAbs = 0
        · rw [z]; decide
        · exact Nat.lt_trans ((Nat.log2_lt z).mpr hx) (by decide)⟩, True.intro⟩
      refine sx_seq (M := fun G n' => n' = n1 + 1 ∧ ∃ r : Int, G = [some .pur, some (.fro (.int m)), none, some (.fro (.int r))] ∧ Sm 1000 r) ?_ ?_
      · refine sx_asgI (k := 0) (A := Sm 1000) (evi_op (k := 0) (l := 0) (A := fun _ => True) (B := fun y => y = 10 ^ (45 : Int).toNat + 9) (f := fun i j => i % j) (evi_int (evi_op (k := 0) (l := 0) (f := fun i j => i ^ j.toNat) (evi_op (k := 0) (l := 0) (f := fun i j => i + j) (ev_pur (j := 1) rfl (by decide)) (evi_op (k := 0) (l := 0) (f := fun i j => i * j) (evi_ep (A := fun y => y = 50000017) ep_int rfl) (ev_pur (j := 2) rfl (by decide)) (mul1 50000017 (sm_of 50000017 ⟨by decide, by decide⟩ (by decide)))) ?_) (evi_ep (A := fun y => y = 3) ep_int rfl) cube)) (evi_ep ?_ rfl) ?_) fun z hz => ⟨rfl, z, rfl, hz⟩
        · intro x y hx hy
          have hx2 := hx.1 rfl
          exact ⟨od_i, (Sm.add ((sm_of (k := 200) (10 ^ 44) ⟨by omega, by omega⟩ (by decide)).mono (l := 1000) (by decide)) hy).mono (by decide)⟩
        · refine ep_op (ep_op ep_int ep_int (od_c ⟨by decide, by decide, by decide⟩)) ep_int od_i
        · intro x y _ hy
          subst hy
          have p : (0 : Int) < 10 ^ (45 : Int).toNat + 9 := by decide
          exact ⟨od_c p, sm_le ((sm_of (k := 200) (10 ^ 46) (n := 10 ^ (45 : Int).toNat + 9) ⟨by decide, by decide⟩ (by decide)).mono (by decide)) (Int.emod_nonneg _ (by omega)) (Int.le_of_lt (Int.emod_lt_of_pos _ p))⟩
      · rintro G n' ⟨rfl, r, rfl, hr⟩
        refine sx_seq (M := fun G n' => n' = n1 + 1 ∧ ∃ r : Int, G = [some .pur, some (.fro (.int m)), none, some (.fro (.int r))]) ?_ ?_
        · refine sx_asgI (k := 0) (A := fun _ => True) (evi_op (k := 0) (l := 0) (A := fun _ => True) (B := fun y => y = 10 ^ (46 : Int).toNat + 121) (f := fun i j => i % j) (evi_int (evi_op (k := 0) (l := 0) (f := fun i j => i ^ j.toNat) (evi_op (k := 0) (l := 0) (A := Sm 1000) (B := Sm 1000) (f := fun i j => i + j) (evi_ep (ep_var rfl) hr) (evi_op (k := 0) (l := 0) (f := fun i j => i * j) (evi_ep (A := fun y => y = 25000009) ep_int rfl) (ev_pur (j := 2) rfl (by decide)) (mul1 25000009 (sm_of 25000009 ⟨by decide, by decide⟩ (by decide)))) ?_) (evi_ep (A := fun y => y = 3) ep_int rfl) cube)) (evi_ep ?_ rfl) ?_) fun z hz => ⟨rfl, z, rfl⟩
          · intro x y hx hy
            exact ⟨od_i, (Sm.add hx hy).mono (by decide)⟩
          · refine ep_op (ep_op ep_int ep_int (od_c ⟨by decide, by decide, by decide⟩)) ep_int od_i
          · intro x y _ hy
            subst hy
            have p : (0 : Int) < 10 ^ (46 : Int).toNat + 121 := by decide
            exact ⟨od_c p, True.intro⟩
        · rintro G n' ⟨rfl, r, rfl⟩
          refine sx_ret (d := .int (r / 1073741789 % m)) ?_ ⟨Nat.le_refl _, _, rfl, Int.emod_nonneg _ (by omega), Int.emod_lt_of_pos _ (by omega)⟩
          refine ep_op (ep_int1 (ep_op (ep_var rfl) ep_int (od_c ⟨by decide, by decide⟩))) (ep_var rfl) (od_c ?_)
          show 0 < m
          omega
/-- a toss: k more tosses than the number of sides takes -/
theorem evi_toss {i : Nat} {tm : TE} {G : Gm} {n k : Nat} {A : Int → Prop} (hi : G[i]? = some (some .pur)) (hm : EvI tm G n k fun m => 1 ≤ m ∧ ∀ r, 0 ≤ r → r < m → A r) (hk : n + k + 1 ≤ 100000) : EvI (tCall sp__law_toss [] C8.E0 (tCons (tVar i) (tCons tm tNil))) G n (k + 1) A :=
  ev_callX (PL := fun ds n' => n' = n + k ∧ ∃ m, ds = [.int m] ∧ 1 ≤ m ∧ ∀ r, 0 ≤ r → r < m → A r) hi (eva_cons hm fun d n1 ⟨e1, z, e2, hz⟩ => eva_nil ⟨e1, z, by rw [e2], hz⟩) fun ds n' ⟨e1, m, e2, h1, h2⟩ => by
    subst e1
    refine ⟨hk, m, e2, h1, fun d hd => ?_⟩
    obtain ⟨r, e3, r0, r1⟩ := hd
    exact ⟨rfl, r, e3, h2 r r0 r1⟩
/-- .. of a known number of sides -/
theorem evi_toss1 {i : Nat} {tm : TE} {G : Gm} {n : Nat} {m : Int} (hi : G[i]? = some (some .pur)) (hm : Ep tm G (.int m)) (h1 : 1 ≤ m) (hk : n + 1 ≤ 100000) : EvI (tCall sp__law_toss [] C8.E0 (tCons (tVar i) (tCons tm tNil))) G n 1 fun r => 0 ≤ r ∧ r < m :=
  evi_toss (k := 0) hi (evi_ep hm ⟨h1, fun r a b => ⟨a, b⟩⟩) hk

end Kr
end
section
/-! K10: pairs of ints, sorted. -/
namespace Kr
open PySem L2
open Evl (Ex)
def insP (p : Int × Int) : List (Int × Int) → List (Int × Int)
  | [] => [p]
  | q :: l => if SrtO.lexB q p = true then q :: insP p l else p :: q :: l
def srtP : List (Int × Int) → List (Int × Int)
  | [] => []
  | p :: l => insP p (srtP l)
theorem insP_perm (p : Int × Int) : ∀ l, (insP p l).Perm (p :: l)
  | [] => List.Perm.refl _
  | q :: l => by
    unfold insP
    split
    · exact ((insP_perm p l).cons q).trans (List.Perm.swap p q l)
    · exact List.Perm.refl _
theorem srtP_perm : ∀ l, (srtP l).Perm l
  | [] => List.Perm.refl _
  | p :: l => (insP_perm p _).trans ((srtP_perm l).cons p)
theorem lex_trans {x y z : Int × Int} (h1 : SrtO.lexB y x = false) (h2 : SrtO.lexB z y = false) : SrtO.lexB z x = false := by
  have a := SrtO.lexB_no.mp h1
  have b := SrtO.lexB_no.mp h2
  refine SrtO.lexB_no.mpr ?_
  omega
theorem lex_asym {x y : Int × Int} (h : SrtO.lexB x y = true) : SrtO.lexB y x = false := by
  have a := SrtO.lexB_iff.mp h
  refine SrtO.lexB_no.mpr ?_
  omega
theorem insP_srtd (p : Int × Int) : ∀ l, SrtO.Srtd SrtO.lexB l → SrtO.Srtd SrtO.lexB (insP p l)
  | [], _ => List.pairwise_singleton _ _
  | q :: l, h => by
    have h' := List.pairwise_cons.mp h
    unfold insP
    split
    · rename_i e
      refine List.pairwise_cons.mpr ⟨fun z hz => ?_, insP_srtd p l h'.2⟩
      rcases List.mem_cons.mp ((insP_perm p l).mem_iff.mp hz) with u | u
      · rw [u]; exact lex_asym e
      · exact h'.1 z u
    · rename_i e
      have e : SrtO.lexB q p = false := by simpa using e
      refine List.pairwise_cons.mpr ⟨fun z hz => ?_, h⟩
      rcases List.mem_cons.mp hz with u | u
      · rw [u]; exact e
      · exact lex_trans e (h'.1 z u)
theorem srtP_srtd : ∀ l, SrtO.Srtd SrtO.lexB (srtP l)
  | [] => List.Pairwise.nil
  | p :: l => insP_srtd p _ (srtP_srtd l)
theorem lex_eq {x y : Int × Int} (h1 : SrtO.lexB x y = false) (h2 : SrtO.lexB y x = false) : x = y := by
  have a := SrtO.lexB_no.mp h1
  have b := SrtO.lexB_no.mp h2
  refine Prod.ext ?_ ?_ <;> omega
theorem srt_uniq : ∀ {l m : List (Int × Int)}, SrtO.Srtd SrtO.lexB l → SrtO.Srtd SrtO.lexB m → l.Perm m → l = m
  | [], m, _, _, h => (List.Perm.eq_nil h.symm).symm
  | x :: l, [], _, _, h => absurd h.length_eq (by simp)
  | x :: l, y :: m, hl, hm, h => by
    have hl' := List.pairwise_cons.mp hl
    have hm' := List.pairwise_cons.mp hm
    have rf : ∀ z : Int × Int, SrtO.lexB z z = false := fun z => SrtO.lexB_no.mpr (by omega)
    have h1 : SrtO.lexB x y = false := by
      rcases List.mem_cons.mp (h.mem_iff.mp (List.mem_cons_self (a := x) (l := l))) with e | hx
      · rw [e]; exact rf y
      · exact hm'.1 x hx
    have h2 : SrtO.lexB y x = false := by
      rcases List.mem_cons.mp (h.mem_iff.mpr (List.mem_cons_self (a := y) (l := m))) with e | hy
      · rw [e]; exact rf x
      · exact hl'.1 y hy
    have e := lex_eq h1 h2
    subst e
    rw [srt_uniq hl'.2 hm'.2 h.cons_inv]
theorem srtP_eq {l m : List (Int × Int)} (h : SrtO.Srtd SrtO.lexB m) (p : l.Perm m) : srtP l = m := srt_uniq (srtP_srtd l) h ((srtP_perm l).trans p)
/-- the pair that stands at a ref -/
def pkW (W : Hp) : V → Int × Int
  | .ref t => match W t with
    | some (.tup [.int a, .int b]) => (a, b)
    | _ => (0, 0)
  | _ => (0, 0)
theorem pk_rp {W : Hp} {v : V} {p : Int × Int} (h : Rp W v (prD p)) : pkW W v = p ∧ ∃ t, v = .ref t ∧ W t = some (.tup [.int p.1, .int p.2]) := by
  cases h with
  | tup h1 h2 =>
    cases h2 with
    | cons a b =>
      cases b with
      | cons b c =>
        cases c
        cases a
        cases b
        refine ⟨?_, _, rfl, h1⟩
        simp only [pkW, h1]
theorem pk_rps {W : Hp} : ∀ {vs : List V} {l : List (Int × Int)}, Rps W vs (l.map prD) → vs.map (pkW W) = l ∧ ∀ v ∈ vs, Rp W v (prD (pkW W v))
  | _, [], .nil => ⟨rfl, fun _ h => by cases h⟩
  | _, p :: l, h => by
    cases h with
    | cons a b =>
      have ih := pk_rps (l := l) b
      have e := (pk_rp a).1
      refine ⟨by rw [List.map_cons, e, ih.1], fun v hv => ?_⟩
      rcases List.mem_cons.mp hv with z | z
      · rw [z, e]; exact a
      · exact ih.2 v z
theorem rps_pk {W : Hp} : ∀ (vs : List V), (∀ v ∈ vs, Rp W v (prD (pkW W v))) → Rps W vs ((vs.map (pkW W)).map prD)
  | [], _ => .nil
  | v :: vs, h => .cons (h v (by simp)) (rps_pk vs fun u hu => h u (by simp [hu]))
theorem en_sortedP {te : TE} {G : Gm} {l : List (Int × Int)} {K : PySem.W.Frag} (h : Ep te G (bkD l)) : En (tCB (rSortedPO K) (tCons te tNil)) G ((srtP l).map prD) := fun pu W0 H0 n σ W H S Q q =>
  h _ _ _ _ _ _ _ S _ fun x W1 H1 m1 r1 => by
    cases r1 with
    | lst h1 h2 =>
      rename_i a vs
      obtain ⟨e, hv⟩ := pk_rps h2
      refine ⟨a, vs, pkW W1, rfl, SqL.of (m1.sub _ _ h1), fun v hvm => ?_, fun ys p hs hb hp => ?_⟩
      · obtain ⟨_, t, e1, e2⟩ := pk_rp (hv v hvm)
        exact ⟨t, e1, m1.sub _ _ e2⟩
      · have ey : ys.map (pkW W1) = srtP l := by
          refine (srtP_eq (SrtO.srtd_map (f := pkW W1) hs) ?_).symm
          rw [← e]
          exact (hb.perm.map (pkW W1)).symm
        refine q p ys W1 _ (m1.trans0 (Mv.fresh m1.sub hp)) (freshB m1.ex hp) upd_same (wnone m1.sub hp) ?_
        rw [← ey]
        exact rps_pk ys fun v hvm => hv v (hb.perm.mem_iff.mp hvm)
theorem sortPK {X : Cx} {K : PySem.W.Frag} (h : X.K = K := by rfl) : CallR X (.builtin "sorted") (rSortedPO K) := h ▸ cr_sortedPO
end Kr
end
section
/-! M4: what the law's own functions compute. -/
namespace Kr
/-- found, ring, upper, lower -/
structure AtS where
  f : Int
  r : Int
  u : Int
  l : Int
def atN (sh spot : Int) (s : AtS) (q : Int × Nat) : AtS :=
  if 0 < q.2 then ⟨s.f + q.1 * ((lcmN [s.r, (q.2 : Int)] : Int) * (s.u * (spot - sh - (q.2 : Int) + 1)) / (s.l * (q.2 : Int))), (lcmN [s.r, (q.2 : Int)] : Int), s.u * (spot - sh - (q.2 : Int) + 1), s.l * (q.2 : Int)⟩
  else ⟨s.f + q.1 * (s.r * s.u / s.l), s.r, s.u, s.l⟩
def atF (own : List Int) (sh spot : Int) : Int := (own.zipIdx.foldl (atN sh spot) ⟨0, 1, 1, 1⟩).f
/-- a row: its integers, from where it is counted, how far its places go -/
structure Row where
  own : List Int
  sh : Int
  top : Int
def rowDt (r : Row) : D := .list [iD r.own, .int r.sh, .int r.top]
def movF (b : List (Int × Int)) (far sg : Int) : List (Int × Int) := srtP (b.map fun q => (sg * q.1 + far, q.2))
end Kr
end
section
namespace Kr
open PySem L2
open Evl (Ex)
open C8 (Cal pe_c)
local macro_rules | `(tactic| walk_at "ev") => `(tactic| skip)
local macro_rules | `(tactic| walk_at "ev") => `(tactic| first
  | with_reducible exact ep_int
  | with_reducible exact ep_bl
  | with_reducible exact ep_non
  | with_reducible exact ea_nil
  | with_reducible exact et_yes
  | with_reducible exact eo_no
  | ((with_reducible apply ep_var); rfl)
  | (with_reducible apply ea_cons) <;> walk_at "ev"
  | (with_reducible apply ep_op) <;> walk_at "ev"
  | (with_reducible apply ep_un) <;> walk_at "ev"
  | (with_reducible apply ep_isi) <;> walk_at "ev"
  | ((with_reducible apply ep_lenV); rfl)
  | (with_reducible apply ep_len) <;> walk_at "ev"
  | (with_reducible apply ep_abs) <;> walk_at "ev"
  | (with_reducible apply ep_int1) <;> walk_at "ev"
  | (with_reducible apply ep_max2) <;> walk_at "ev"
  | (with_reducible apply ep_min2) <;> walk_at "ev"
  | (with_reducible apply et_test) <;> walk_at "ev"
  | (with_reducible apply et_B) <;> walk_at "ev"
  | (with_reducible apply et_not) <;> walk_at "ev"
  | (with_reducible apply ep_notV) <;> walk_at "ev"
  | (with_reducible apply ep_tup) <;> walk_at "ev"
  | (with_reducible apply eo_part) <;> walk_at "ev"
  | with_reducible exact od_i
  | with_reducible exact od_b
  | with_reducible exact od_eqI
  | with_reducible exact od_neI
  | with_reducible exact od_isN
  | with_reducible exact od_notN
  | with_reducible exact od_notB
  | with_reducible apply od_c
  | with_reducible exact od_ixT0
  | with_reducible exact od_ixT1
  | with_reducible exact od_ixL0
  | with_reducible exact od_ixL1
  | with_reducible exact od_ixL2
  | with_reducible apply od_ixL
  | with_reducible apply od_ixT
  | with_reducible exact ud_neg
  | (with_reducible refine' et_or ?_ (fun _ => ?_)) <;> walk_at "ev"
  | (with_reducible refine' et_and ?_ (fun _ => ?_)) <;> walk_at "ev"
  | (with_reducible refine' ep_orV ?_ (fun _ => ?_)) <;> walk_at "ev"
  | (with_reducible refine' ep_andV ?_ (fun _ => ?_)) <;> walk_at "ev"
  | (with_reducible refine' ep_chain ?_ ?_ ?_ (fun _ => ?_) (fun _ => ?_)) <;> walk_at "ev"
  | exact isi_int
  | exact isi_intb
  | exact isi_lst
  | exact isi_tup
  | exact Nat.le_of_ble_eq_true rfl)
local macro_rules | `(tactic| walk_at "ev") => `(tactic| (with_reducible apply ev_divisor_of) <;> walk_at "ev")
local macro_rules | `(tactic| walk_at "ev") => `(tactic| (with_reducible apply ev_multiple_of) <;> walk_at "ev")
local macro_rules | `(tactic| walk_at "ev") => `(tactic| (with_reducible apply ev_divides) <;> walk_at "ev")
local macro_rules | `(tactic| walk_at "ev") => `(tactic| (with_reducible apply ev_do_fit) <;> walk_at "ev")
local macro_rules | `(tactic| walk_at "ev") => `(tactic| (with_reducible apply ev_conflicts_in) <;> walk_at "ev")
local macro_rules | `(tactic| walk_at "ev") => `(tactic| (with_reducible apply ev_is_integer) <;> walk_at "ev")
local macro_rules | `(tactic| walk_at "ev") => `(tactic| (with_reducible apply ev_is_told) <;> walk_at "ev")
local macro_rules | `(tactic| walk_at "ev") => `(tactic| (with_reducible apply ev_is_item) <;> walk_at "ev")
local macro_rules | `(tactic| walk_at "ev") => `(tactic| (with_reducible apply ev_is_book) <;> walk_at "ev")
local macro_rules | `(tactic| walk_at "ev") => `(tactic| (with_reducible apply ev_need_book) <;> walk_at "ev")
local macro_rules | `(tactic| walk_at "ev") => `(tactic| (with_reducible apply ev_conflict_in) <;> walk_at "ev")
local macro_rules | `(tactic| walk_at "ev") => `(tactic| (with_reducible apply ev_need_fitting) <;> walk_at "ev")
local macro_rules | `(tactic| walk_at "ev") => `(tactic| (with_reducible apply ev_need_possible) <;> walk_at "ev")
local macro_rules | `(tactic| walk_at "ev") => `(tactic| (with_reducible apply ev_conflict_of) <;> walk_at "ev")
local macro_rules | `(tactic| walk_at "ev") => `(tactic| (with_reducible apply ev_all_conflicts) <;> walk_at "ev")
local macro_rules | `(tactic| walk_at "ev") => `(tactic| (with_reducible apply ev_need_modulus1) <;> walk_at "ev")
local macro_rules | `(tactic| walk_at "ev") => `(tactic| (with_reducible apply ev_need_modulus2) <;> walk_at "ev")
local macro_rules | `(tactic| walk_at "ev") => `(tactic| (with_reducible apply ev_inverse_of) <;> walk_at "ev")
local macro_rules | `(tactic| walk_at "ev") => `(tactic| (with_reducible apply ev_met) <;> walk_at "ev")
local macro_rules | `(tactic| walk_at "ev") => `(tactic| (with_reducible apply ev_class_by) <;> walk_at "ev")
local macro_rules | `(tactic| walk_at "ev") => `(tactic| (with_reducible apply ev_class_at) <;> walk_at "ev")
local macro_rules | `(tactic| walk_at "ev") => `(tactic| (with_reducible apply ev_can_have) <;> walk_at "ev")
local macro_rules | `(tactic| walk_at "ev") => `(tactic| (with_reducible apply ev_far_in) <;> walk_at "ev")
local macro_rules | `(tactic| walk_at "ev") => `(tactic| (with_reducible apply ev_need_sure) <;> walk_at "ev")
local macro_rules | `(tactic| walk_at "ev") => `(tactic| (with_reducible apply ev_reason_for) <;> walk_at "ev")
local macro_rules | `(tactic| walk_at "ev") => `(tactic| (with_reducible apply ev_are_indices) <;> walk_at "ev")
local macro_rules | `(tactic| walk_at "ev") => `(tactic| (with_reducible apply ev_shows_reason) <;> walk_at "ev")
local macro_rules | `(tactic| walk_at "ev") => `(tactic| (with_reducible apply ev_need_places) <;> walk_at "ev")
local macro_rules | `(tactic| walk_at "ev") => `(tactic| (with_reducible apply ev_need_open) <;> walk_at "ev")
local macro_rules | `(tactic| walk_at "ev") => `(tactic| (with_reducible apply ev_steps_in) <;> walk_at "ev")
local macro_rules | `(tactic| walk_at "ev") => `(tactic| (with_reducible apply ev_size_in) <;> walk_at "ev")
local macro_rules | `(tactic| walk_at "ev") => `(tactic| (with_reducible apply ev_count_in) <;> walk_at "ev")
local macro_rules | `(tactic| walk_at "ev") => `(tactic| (with_reducible apply ev_need_size) <;> walk_at "ev")
local macro_rules | `(tactic| walk_at "ev") => `(tactic| (with_reducible apply ev_step_list) <;> walk_at "ev")
local macro_rules | `(tactic| walk_at "ev") => `(tactic| (with_reducible apply ev_common_size) <;> walk_at "ev")
local macro_rules | `(tactic| walk_at "ev") => `(tactic| (with_reducible apply ev_count_fillings) <;> walk_at "ev")
local macro_rules | `(tactic| walk_at "ev") => `(tactic| (with_reducible apply ev_nth_filling) <;> walk_at "ev")
local macro_rules | `(tactic| walk_at "ev") => `(tactic| (with_reducible apply ev_index_in) <;> walk_at "ev")
local macro_rules | `(tactic| walk_at "ev") => `(tactic| (with_reducible apply ev_filling_index) <;> walk_at "ev")
local macro_rules | `(tactic| walk_at "ev") => `(tactic| (with_reducible apply ev_vectors_in) <;> walk_at "ev")
local macro_rules | `(tactic| walk_at "ev") => `(tactic| (with_reducible apply ev_summed) <;> walk_at "ev")
local macro_rules | `(tactic| walk_at "ev") => `(tactic| (with_reducible apply ev_need_weights) <;> walk_at "ev")
local macro_rules | `(tactic| walk_at "ev") => `(tactic| (with_reducible apply ev_sure_sum) <;> walk_at "ev")
local macro_rules | `(tactic| walk_at "ev") => `(tactic| (with_reducible apply ev_need_asked2) <;> walk_at "ev")
local macro_rules | `(tactic| walk_at "ev") => `(tactic| (with_reducible apply ev_need_asked3) <;> walk_at "ev")
local macro_rules | `(tactic| walk_at "ev") => `(tactic| (with_reducible apply ev_prime_powers) <;> walk_at "ev")
local macro_rules | `(tactic| walk_at "ev") => `(tactic| (with_reducible apply ev_lacking_in) <;> walk_at "ev")
local macro_rules | `(tactic| walk_at "ev") => `(tactic| (with_reducible apply ev_most_lacking) <;> walk_at "ev")
local macro_rules | `(tactic| walk_at "ev") => `(tactic| (with_reducible apply ev_first_lacking) <;> walk_at "ev")
local macro_rules | `(tactic| walk_at "ev") => `(tactic| (with_reducible apply ev_sure_table) <;> walk_at "ev")
local macro_rules | `(tactic| walk_at "ev") => `(tactic| (with_reducible apply ev_fewest_more) <;> walk_at "ev")
local macro_rules | `(tactic| walk_at "ev") => `(tactic| (with_reducible apply ev_are_questions) <;> walk_at "ev")
local macro_rules | `(tactic| walk_at "ev") => `(tactic| (with_reducible apply ev_shows_questions) <;> walk_at "ev")
local macro_rules | `(tactic| walk_at "ev") => `(tactic| (with_reducible apply ev_questions) <;> walk_at "ev")

/-! ### _law_divisor -/
abbrev N__law_divisor : List Str := ["_law_a", "_law_b"]
theorem sc__law_divisor : FnScope N__law_divisor ["_law_a", "_law_b"] (defScope s__law_divisor) := ⟨rfl, rfl, rfl, by decide +kernel, rfl, by decide +kernel, by decide +kernel⟩
def sp__law_divisor : Sp := SpP (α := Int × Int) (fun x => 0 ≤ x.1 ∧ 0 ≤ x.2) (fun x => [.int x.1, .int x.2]) (fun x => .int (Int.gcd x.1 x.2 : Int))
theorem ev__law_divisor {tr : TA} {G : Gm} {a b : Int} (h : Ea tr G [.int a, .int b]) (c : 0 ≤ a ∧ 0 ≤ b) : Ep (tCall sp__law_divisor [] C8.E0 tr) G (.int (Int.gcd a b : Int)) := ep_call (α := Int × Int) (a, b) h rfl c
local macro_rules | `(tactic| walk_at "ev") => `(tactic| (with_reducible apply ev__law_divisor) <;> walk_at "ev")
theorem cal__law_divisor {P : Program} {w : World} {K : PySem.W.Frag} {mg : Str → Option Value} {base : Heap} (T : Txt K mg) : Cal P w K mg base 1 "_law_divisor" sp__law_divisor [] := by
  obtain ⟨fd, F⟩ := T.c.def_ 54 (d := d__law_divisor) rfl
  refine ⟨⟨_, fd, ["_law_a", "_law_b"], [], ?_, T.glo 54, F.kp, F.bindsN (fun _ _ _ _ _ _ us hl => match us, hl with | [_, _], _ => rfl), .nil⟩⟩
  refine F.ok sc__law_divisor (fun vs H Q E h => len_of (α := Int × Int) (C := fun x => 0 ≤ x.1 ∧ 0 ≤ x.2) (pre := fun x => [.int x.1, .int x.2]) (post := fun x => .int (Int.gcd x.1 x.2 : Int)) (p := 2) (fun _ => rfl) vs H Q E h) (fun cdv A outer s H vs Q E hr h => ?_)
  refine ⟨_, PSs.nox (pss_cons (ps_while PassesOwn.never (pt_cmpR op_ne (pv 1) pe_int (nomark _)) (pss_one (ps_par (i := 0) (j := 1) rfl sc__law_divisor.nd rfl rfl (by decide) rfl rfl (pa_cons (pv 1) (pa_cons (pe_op op_mod (pe_callTy k_int rfl (free_int T) bb_int (pa_cons (pv 0) pa_nil)) (pv 1)) pa_nil)) rfl)))
      (pss_one (ps_ret (pe_callB k_abs rfl (free_abs T) bb_abs (pa_cons (pv 0) pa_nil))))), ?_⟩
  refine rd_of (α := Int × Int) (C := fun x => 0 ≤ x.1 ∧ 0 ≤ x.2) (pre := fun x => [.int x.1, .int x.2]) (post := fun x => .int (Int.gcd x.1 x.2 : Int)) (p := 2) (N := N__law_divisor) (fun _ => rfl) ?rd vs H Q E h
  case rd =>
    rintro ⟨a, b⟩ hh
    show Sx _ [some (.fro (.int a)), some (.fro (.int b))] 0 _ _
    replace hh : 0 ≤ a ∧ 0 ≤ b := hh
    refine sx_seq (M := fun G n' => ∃ x : Int, x.natAbs = Int.gcd a b ∧ G = [some (.fro (.int x)), some (.fro (.int 0))]) ?_ ?_
    · refine sx_while (fun k G n' => ∃ x y : Int, 0 ≤ x ∧ 0 ≤ y ∧ Int.gcd x y = Int.gcd a b ∧ k = y.toNat ∧ G = [some (.fro (.int x)), some (.fro (.int y))]) b.toNat ⟨a, b, hh.1, hh.2, rfl, rfl, rfl⟩ ?_
      rintro k G n' ⟨x, y, x0, y0, e, rfl, rfl⟩
      refine ⟨!decide (y = 0), by walk_at "ev", fun hb => ?_, fun hb => ?_⟩
      · have z : y ≠ 0 := by simpa using hb
        have r0 := Int.emod_nonneg x z
        have r1 := Int.emod_lt_of_pos x (show 0 < y by omega)
        refine sx_par (a := .int y) (c := .int (x % y)) ?_ ⟨(x % y).toNat, by omega, y, x % y, by omega, r0, ?_, rfl, rfl⟩
        · walk_at "ev"
          show 0 < y
          omega
        · rw [← e, Int.gcd_comm, Int.emod_def, Int.gcd_comm]
          rw [show x - y * (x / y) = x + -(x / y) * y by rw [Int.neg_mul, Int.mul_comm]; rfl]
          rw [Int.gcd_comm y, Int.gcd_add_mul_right_left]
      · have z : y = 0 := by simpa using hb
        subst z
        refine ⟨x, ?_, rfl⟩
        rw [← e, Int.gcd_zero_right]
    · rintro G n' ⟨x, e, rfl⟩
      refine sx_ret (d := .int (x.natAbs : Int)) (by walk_at "ev") ?_
      rw [e]
/-! ### _law_multiple -/
abbrev N__law_multiple : List Str := ["_law_some", "_law_found", "_law_far"]
theorem sc__law_multiple : FnScope N__law_multiple ["_law_some"] (defScope s__law_multiple) := ⟨rfl, rfl, rfl, by decide +kernel, rfl, by decide +kernel, by decide +kernel⟩
def sp__law_multiple : Sp := SpP (α := List Int) (fun ns => ns.length ≤ 2 ∧ ∀ n ∈ ns, 0 < n ∧ Sm 1000 n) (fun ns => [iD ns]) (fun ns => .int (lcmN ns : Int))
theorem ev__law_multiple {tr : TA} {G : Gm} {ns : List Int} (h : Ea tr G [iD ns]) (c : ns.length ≤ 2 ∧ ∀ n ∈ ns, 0 < n ∧ Sm 1000 n) : Ep (tCall sp__law_multiple [] C8.E0 tr) G (.int (lcmN ns : Int)) := ep_call (α := List Int) ns h rfl c
local macro_rules | `(tactic| walk_at "ev") => `(tactic| (with_reducible apply ev__law_multiple) <;> walk_at "ev")
theorem cal__law_multiple {P : Program} {w : World} {K : PySem.W.Frag} {mg : Str → Option Value} {base : Heap} (T : Txt K mg) : Cal P w K mg base 2 "_law_multiple" sp__law_multiple [] := by
  obtain ⟨fd, F⟩ := T.c.def_ 55 (d := d__law_multiple) rfl
  refine ⟨⟨_, fd, ["_law_some"], [], ?_, T.glo 55, F.kp, F.bindsN (fun _ _ _ _ _ _ us hl => match us, hl with | [_], _ => rfl), .nil⟩⟩
  refine F.ok sc__law_multiple (fun vs H Q E h => len_of (α := List Int) (C := fun ns => ns.length ≤ 2 ∧ ∀ n ∈ ns, 0 < n ∧ Sm 1000 n) (pre := fun ns => [iD ns]) (post := fun ns => .int (lcmN ns : Int)) (p := 1) (fun _ => rfl) vs H Q E h) (fun cdv A outer s H vs Q E hr h => ?_)
  refine ⟨_, PSs.nox (pss_cons (ps_set (i := 1) sc__law_multiple.nd rfl (Or.inl rfl) pe_int)
      (pss_cons (ps_for PassesOwn.never rfl (piL (K := K) (pv 0)) (pg_name (i := 2) sc__law_multiple.nd rfl (Or.inl rfl)) (pss_one (ps_set (i := 1) sc__law_multiple.nd rfl (Or.inl rfl) (pe_ifExp (PW.pt (pw_or (pt_cmpR op_eq (pv 1) pe_int (nomark _)) (pw_or1 (pt_cmpR op_eq (pv 2) pe_int (nomark _))))) pe_int (pe_op op_mulW (pe_op op_fdivW (pv 1) (pe_c (cal__law_divisor T) hr (by decide) rfl (pa_cons (pv 1) (pa_cons (pv 2) pa_nil)))) (pe_callB k_abs rfl (free_abs T) bb_abs (pa_cons (pv 2) pa_nil)))))))
      (pss_one (ps_ret (pv 1))))), ?_⟩
  refine rd_of (α := List Int) (C := fun ns => ns.length ≤ 2 ∧ ∀ n ∈ ns, 0 < n ∧ Sm 1000 n) (pre := fun ns => [iD ns]) (post := fun ns => .int (lcmN ns : Int)) (p := 1) (N := N__law_multiple) (fun _ => rfl) ?rd vs H Q E h
  case rd =>
    rintro ns hh
    show Sx _ [some (.fro (iD ns)), none, none] 0 _ _
    replace hh : ns.length ≤ 2 ∧ ∀ n ∈ ns, 0 < n ∧ Sm 1000 n := hh
    obtain ⟨hl, hn⟩ := hh
    refine sx_then (G1 := [some (.fro (iD ns)), some (.fro (.int 1)), none]) (sx_asg (d := .int 1) (by walk_at "ev") ⟨rfl, rfl⟩) ?_
    refine sx_seq (M := fun G n' => ∃ a, G = [some (.fro (iD ns)), some (.fro (.int (lcmN ns : Int))), a]) ?_ ?_
    · refine sx_forP ns (fun x => .int x) (fun pr G n' => ∃ a, G = [some (.fro (iD ns)), some (.fro (.int (lcmN pr : Int))), a]) (es_list (by walk_at "ev")) ⟨none, rfl⟩ ?_ (fun G n' h => h)
      rintro pr x po G n' e0 ⟨a, rfl⟩
      have hx := hn x (by rw [e0]; simp)
      have hpr : ∀ n ∈ pr, 0 < n ∧ Sm 1000 n := fun n h => hn n (by rw [e0]; exact List.mem_append_left _ h)
      have hpl : pr.length ≤ 2 := by rw [e0, List.length_append] at hl; omega
      have fp := lcmN_pos (ns := pr) fun n h => by have := (hpr n h).1; omega
      have fs : Sm 2001 (lcmN pr : Int) := Sm.mono (Sm.nat (lcmN_lt (B := 1000) pr fun n h => (hpr n h).2)) (by omega)
      refine ⟨_, _, tg_name, ?_⟩
      show Sx _ [some (.fro (iD ns)), some (.fro (.int (lcmN pr : Int))), some (.fro (.int x))] _ _ _
      rw [lcmN_snoc]
      generalize lcmN pr = f at *
      have ez : (decide ((f : Int) = 0) || decide (x = 0)) = false := by
        rw [decide_eq_false (show ¬ (f : Int) = 0 by omega), decide_eq_false (show ¬ x = 0 by omega)]
        rfl
      have xn : ((x.natAbs : Nat) : Int) = x := by omega
      have gp : 0 < (Int.gcd (f : Int) x : Int) := by
        have := Int.gcd_pos_of_ne_zero_right (f : Int) (b := x) (by omega)
        omega
      have gs : Sm 1000 (Int.gcd (f : Int) x : Int) := Sm.gcd hx.2 (by omega)
      have st := lcm_step (f := f) (n := x) (by omega)
      rw [xn] at st
      refine sx_asg (d := if (decide ((f : Int) = 0) || decide (x = 0)) = true then .int 0 else .int ((f : Int) / (Int.gcd (f : Int) x : Int) * (x.natAbs : Int))) (ep_if (by walk_at "ev") (fun _ => by walk_at "ev") fun _ => ?_) ⟨some (.fro (.int x)), ?_⟩
      · walk_at "ev"
        · exact ⟨by omega, by omega⟩
        · exact Sm.cdiv gs gp (by omega)
        · exact Sm.cmul fs.ediv hx.2.natAbs (by omega)
      · rw [ez, xn, st]
        rfl
    · rintro G n' ⟨a, rfl⟩
      exact sx_ret (d := .int (lcmN ns : Int)) (by walk_at "ev") rfl
structure RowOk (r : Row) : Prop where
  l : r.own.length ≤ 9
  c : ∀ c ∈ r.own, Sm 100 c
  s : Sm 10 r.sh
structure AtOk (k : Nat) (s : AtS) : Prop where
  r0 : 0 < s.r
  rs : Sm (10 * k + 1) s.r
  us : Sm (120 * k + 1) s.u
  l0 : 0 < s.l
  ls : Sm (10 * k + 1) s.l
  fs : Sm (1400 + k) s.f
theorem lcm2 {r k : Int} (h1 : 0 < r) (h2 : 0 < k) : 0 < (lcmN [r, k] : Int) ∧ (lcmN [r, k] : Int) ≤ r * k := by
  have h3 := lcm_mul r k
  have h4 : ((r.natAbs * k.natAbs : Nat) : Int) = r * k := by rw [Int.natCast_mul]; congr 1 <;> omega
  have h5 := lcmN_pos (ns := [r, k]) fun n hn => by
    rcases List.mem_cons.mp hn with e | e
    · omega
    · rw [List.mem_singleton.mp e]; omega
  exact ⟨by omega, by omega⟩
theorem at_snoc {sh spot : Int} {pr : List (Int × Nat)} {q : Int × Nat} {s : AtS} : (pr ++ [q]).foldl (atN sh spot) s = atN sh spot (pr.foldl (atN sh spot) s) q := by rw [List.foldl_append]; rfl

/-! ### _law_at -/
abbrev N__law_at : List Str := ["_law_row_here_here", "_law_spot", "_law_found", "_law_ring", "_law_upper", "_law_lower", "_law_k", "_law_own"]
theorem sc__law_at : FnScope N__law_at ["_law_row_here_here", "_law_spot"] (defScope s__law_at) := ⟨rfl, rfl, rfl, by decide +kernel, rfl, by decide +kernel, by decide +kernel⟩
def sp__law_at : Sp := SpP (α := Row × Int) (fun x => RowOk x.1 ∧ Sm 110 x.2) (fun x => [rowDt x.1, .int x.2]) (fun x => .int (atF x.1.own x.1.sh x.2))
theorem ev__law_at {tr : TA} {G : Gm} {r : Row} {spot : Int} (h : Ea tr G [rowDt r, .int spot]) (c : RowOk r ∧ Sm 110 spot) : Ep (tCall sp__law_at [] C8.E0 tr) G (.int (atF r.own r.sh spot)) := ep_call (α := Row × Int) (r, spot) h rfl c
local macro_rules | `(tactic| walk_at "ev") => `(tactic| (with_reducible apply ev__law_at) <;> walk_at "ev")
theorem cal__law_at {P : Program} {w : World} {K : PySem.W.Frag} {mg : Str → Option Value} {base : Heap} (T : Txt K mg) : Cal P w K mg base 3 "_law_at" sp__law_at [] := by
  obtain ⟨fd, F⟩ := T.c.def_ 57 (d := d__law_at) rfl
  refine ⟨⟨_, fd, ["_law_row_here_here", "_law_spot"], [], ?_, T.glo 57, F.kp, F.bindsN (fun _ _ _ _ _ _ us hl => match us, hl with | [_, _], _ => rfl), .nil⟩⟩
  refine F.ok sc__law_at (fun vs H Q E h => len_of (α := Row × Int) (C := fun x => RowOk x.1 ∧ Sm 110 x.2) (pre := fun x => [rowDt x.1, .int x.2]) (post := fun x => .int (atF x.1.own x.1.sh x.2)) (p := 2) (fun _ => rfl) vs H Q E h) (fun cdv A outer s H vs Q E hr h => ?_)
  refine ⟨_, PSs.nox (pss_cons (ps_asg (pe_tup (pa_cons pe_int (pa_cons pe_int (pa_cons pe_int (pa_cons pe_int pa_nil))))) (pgT (K := K) (n := 4) rfl (pgs_cons (pg_name (i := 2) sc__law_at.nd rfl (Or.inl rfl)) (pgs_cons (pg_name (i := 3) sc__law_at.nd rfl (Or.inl rfl)) (pgs_cons (pg_name (i := 4) sc__law_at.nd rfl (Or.inl rfl)) (pgs_cons (pg_name (i := 5) sc__law_at.nd rfl (Or.inl rfl)) pgs_nil))))))
      (pss_cons (ps_for PassesOwn.never rfl (pi_enum rfl (free_enumerate T) (pa_cons (pe_ix (ixL (K := K)) (pv 0) pe_int (fun _ _ => rfl)) pa_nil)) (pgT (K := K) (n := 2) rfl (pgs_cons (pg_name (i := 6) sc__law_at.nd rfl (Or.inl rfl)) (pgs_cons (pg_name (i := 7) sc__law_at.nd rfl (Or.inl rfl)) pgs_nil))) (pss_cons (ps_if (pt_cmpR op_gt (pv 6) pe_int (nomark _)) (pss_one (ps_par3 (i := 3) (j := 4) (l := 5) rfl sc__law_at.nd rfl rfl rfl (by decide) (by decide) (by decide) rfl rfl rfl (pa_cons (pe_c (cal__law_multiple T) hr (by decide) rfl (pa_cons (pe_lst (pa_cons (pv 3) (pa_cons (pv 6) pa_nil))) pa_nil)) (pa_cons (pe_op op_mulW (pv 4) (pe_op op_add (pe_op op_sub (pe_op op_sub (pv 1) (pe_ix (ixL (K := K)) (pv 0) pe_int (fun _ _ => rfl))) (pv 6)) pe_int)) (pa_cons (pe_op op_mulW (pv 5) (pv 6)) pa_nil))) rfl)) pss_nil)
      (pss_one (ps_set (i := 2) sc__law_at.nd rfl (Or.inl rfl) (pe_op op_add (pv 2) (pe_op op_mulW (pv 7) (pe_op op_fdivW (pe_op op_mulW (pv 3) (pv 4)) (pv 5))))))))
      (pss_one (ps_ret (pv 2))))), ?_⟩
  refine rd_of (α := Row × Int) (C := fun x => RowOk x.1 ∧ Sm 110 x.2) (pre := fun x => [rowDt x.1, .int x.2]) (post := fun x => .int (atF x.1.own x.1.sh x.2)) (p := 2) (N := N__law_at) (fun _ => rfl) ?rd vs H Q E h
  case rd =>
    rintro ⟨r, spot⟩ hh
    show Sx _ [some (.fro (rowDt r)), some (.fro (.int spot)), none, none, none, none, none, none] 0 _ _
    replace hh : RowOk r ∧ Sm 110 spot := hh
    obtain ⟨hr, hs⟩ := hh
    have hl := hr.l
    refine sx_then (G1 := [some (.fro (rowDt r)), some (.fro (.int spot)), some (.fro (.int 0)), some (.fro (.int 1)), some (.fro (.int 1)), some (.fro (.int 1)), none, none]) (sx_tgt (d := .tuple [.int 0, .int 1, .int 1, .int 1]) (by walk_at "ev") tg_four ⟨rfl, rfl⟩) ?_
    refine sx_seq (M := fun G n' => ∃ a1 a2 a3 a4 a5, G = [some (.fro (rowDt r)), some (.fro (.int spot)), some (.fro (.int (atF r.own r.sh spot))), a1, a2, a3, a4, a5]) ?_ ?_
    · refine sx_forP r.own.zipIdx (fun q => .tuple [.int ((q.2 : Nat) : Int), .int q.1]) (fun pr G n' => ∃ (s : AtS) (a4 a5 : Option B), pr.foldl (atN r.sh spot) ⟨0, 1, 1, 1⟩ = s ∧ AtOk pr.length s ∧ (∀ q ∈ r.own.zipIdx, q.2 = 0 → q.2 ≤ 8) ∧
          G = [some (.fro (rowDt r)), some (.fro (.int spot)), some (.fro (.int s.f)), some (.fro (.int s.r)), some (.fro (.int s.u)), some (.fro (.int s.l)), a4, a5]) ?_ ⟨⟨0, 1, 1, 1⟩, none, none, rfl, ⟨by decide, by unfold Sm; decide, by unfold Sm; decide, by decide, by unfold Sm; decide, Nat.two_pow_pos _⟩, (fun _ _ h => by omega), rfl⟩ ?_ ?_
      · rw [← enumD_map (fun (x : Int) => PyData.int x) r.own 0]
        exact es_enum (ea_cons (ep_op (d1 := rowDt r) (ep_var rfl) ep_int od_ixL0) ea_nil)
      · rintro pr q po G n' e0 ⟨s, a4, a5, e1, ok, _, rfl⟩
        have hq : q ∈ r.own.zipIdx := by rw [e0]; simp
        have hpl : pr.length ≤ 8 := by
          have := congrArg List.length e0
          rw [List.length_zipIdx, List.length_append, List.length_cons] at this
          omega
        have hk := List.mem_zipIdx_iff_getElem?.mp hq
        have hq8 : q.2 ≤ 8 := by
          have := (List.getElem?_eq_some_iff.mp hk).1
          omega
        have hc : Sm 100 q.1 := hr.c _ (List.mem_of_getElem? hk)
        refine ⟨_, _, tg_two, ?_⟩
        show Sx _ [some (.fro (rowDt r)), some (.fro (.int spot)), some (.fro (.int s.f)), some (.fro (.int s.r)), some (.fro (.int s.u)), some (.fro (.int s.l)), some (.fro (.int ((q.2 : Nat) : Int))), some (.fro (.int q.1))] _ _ _
        refine sx_seq (M := fun G n' => ∃ R U L : Int, G = [some (.fro (rowDt r)), some (.fro (.int spot)), some (.fro (.int s.f)), some (.fro (.int R)), some (.fro (.int U)), some (.fro (.int L)), some (.fro (.int ((q.2 : Nat) : Int))), some (.fro (.int q.1))] ∧ atN r.sh spot s q = ⟨s.f + q.1 * (R * U / L), R, U, L⟩ ∧
            (0 < R ∧ Sm (10 * (pr.length + 1) + 1) R) ∧ Sm (120 * (pr.length + 1) + 1) U ∧ 0 < L ∧ Sm (10 * (pr.length + 1) + 1) L) ?_ ?_
        · refine sx_if (b := decide (((q.2 : Nat) : Int) > 0)) (by walk_at "ev") (fun z => ?_) (fun z => ?_)
          · have z : 0 < q.2 := by
              have : ((q.2 : Nat) : Int) > 0 := by simpa using z
              omega
            have ks : Sm 4 ((q.2 : Nat) : Int) := Sm.nat (by show q.2 < 16; omega)
            have l2 := lcm2 (r := s.r) (k := ((q.2 : Nat) : Int)) ok.r0 (by omega)
            have ts : Sm 115 (spot - r.sh - ((q.2 : Nat) : Int) + 1) := by
              have h1 := hs.sub (hr.s.mono (l := 110) (by decide))
              have h2 := h1.sub (ks.mono (l := 111) (by decide))
              exact (h2.add (m := 1) (Sm.mono (k := 1) (by unfold Sm; decide) (by decide))).mono (by decide)
            refine sx_par3 (a := .int (lcmN [s.r, ((q.2 : Nat) : Int)] : Int)) (c := .int (s.u * (spot - r.sh - ((q.2 : Nat) : Int) + 1))) (e := .int (s.l * ((q.2 : Nat) : Int))) ?_ ⟨_, _, _, rfl, ?_, ⟨l2.1, sm_le ((ok.rs.mul ks).mono (by omega)) (by omega) l2.2⟩, (ok.us.mul ts).mono (by omega), Int.mul_pos ok.l0 (by omega), (ok.ls.mul ks).mono (by omega)⟩
            · refine ea_cons (ev__law_multiple (ns := [s.r, ((q.2 : Nat) : Int)]) (ea_cons (ep_new (en_lst (ea_cons (ep_var rfl) (ea_cons (ep_var rfl) ea_nil)) (by show 2 ≤ 100000; decide))) ea_nil) ⟨Nat.le_refl 2, fun n hn => ?_⟩) (ea_cons (ep_op (ep_var rfl) (ep_op (ep_op (ep_op (ep_var rfl) (ep_op (d1 := rowDt r) (ep_var rfl) ep_int od_ixL1) od_i) (ep_var rfl) od_i) ep_int od_i) (od_c (Sm.cmul ok.us ts (by omega)))) (ea_cons (ep_op (ep_var rfl) (ep_var rfl) (od_c (Sm.cmul ok.ls ks (by omega)))) ea_nil))
              rcases List.mem_cons.mp hn with e | e
              · rw [e]; exact ⟨ok.r0, ok.rs.mono (by omega)⟩
              · rw [List.mem_singleton.mp e]; exact ⟨by omega, ks.mono (by decide)⟩
            · unfold atN
              rw [if_pos z]
          · have z : ¬ 0 < q.2 := by
              intro y
              have : ¬ ((q.2 : Nat) : Int) > 0 := by simpa using z
              omega
            refine sx_next ⟨s.r, s.u, s.l, rfl, ?_, ⟨ok.r0, ok.rs.mono (by omega)⟩, ok.us.mono (by omega), ok.l0, ok.ls.mono (by omega)⟩
            unfold atN
            rw [if_neg z]
        · rintro G n' ⟨R, U, L, rfl, eN, ⟨R0, RS⟩, US, L0, LS⟩
          have m1 : Sm 1200 (R * U) := (RS.mul US).mono (by omega)
          refine sx_asg (d := .int (s.f + q.1 * (R * U / L))) ?_ ⟨⟨s.f + q.1 * (R * U / L), R, U, L⟩, _, _, by rw [at_snoc, e1, eN], ?_, (fun _ _ h => by omega), rfl⟩
          · refine ep_op (ep_var rfl) (ep_op (ep_var rfl) (ep_op (ep_op (ep_var rfl) (ep_var rfl) (od_c (Sm.cmul RS US (by omega)))) (ep_var rfl) (od_c (Sm.cdiv LS L0 (by omega)))) (od_c (Sm.cmul hc m1.ediv (by decide)))) od_i
          · rw [List.length_append, List.length_singleton]
            exact ⟨R0, RS, US, L0, LS, (Sm.add (ok.fs) ((hc.mul m1.ediv).mono (by omega))).mono (by omega)⟩
      · rintro G n' ⟨s, a4, a5, e1, _, _, rfl⟩
        exact ⟨_, _, _, a4, a5, by unfold atF; rw [e1]⟩
    · rintro G n' ⟨a1, a2, a3, a4, a5, rfl⟩
      exact sx_ret (d := .int (atF r.own r.sh spot)) (ep_var rfl) rfl
/-! ### _law_moved -/
abbrev N__law_moved : List Str := ["_law_some", "_law_far", "_law_sign", "_law_spot", "_law_val"]
theorem sc__law_moved : FnScope N__law_moved ["_law_some", "_law_far", "_law_sign"] (defScope s__law_moved) := ⟨rfl, rfl, rfl, by decide +kernel, rfl, by decide +kernel, by decide +kernel⟩
def sp__law_moved : Sp := SpP (α := (List (Int × Int)) × Int × Int) (fun x => x.1.length ≤ 100 ∧ Sm 200 x.2.2 ∧ ∀ q ∈ x.1, Sm 200 q.1) (fun x => [bkD x.1, .int x.2.1, .int x.2.2]) (fun x => bkD (movF x.1 x.2.1 x.2.2))
theorem ev__law_moved {tr : TA} {G : Gm} {b : List (Int × Int)} {far sg : Int} (h : Ea tr G [bkD b, .int far, .int sg]) (c : b.length ≤ 100 ∧ Sm 200 sg ∧ ∀ q ∈ b, Sm 200 q.1) : Ep (tCall sp__law_moved [] C8.E0 tr) G (bkD (movF b far sg)) := ep_call (α := (List (Int × Int)) × Int × Int) (b, far, sg) h rfl c
local macro_rules | `(tactic| walk_at "ev") => `(tactic| (with_reducible apply ev__law_moved) <;> walk_at "ev")
theorem cal__law_moved {P : Program} {w : World} {K : PySem.W.Frag} {mg : Str → Option Value} {base : Heap} (T : Txt K mg) : Cal P w K mg base 1 "_law_moved" sp__law_moved [] := by
  obtain ⟨fd, F⟩ := T.c.def_ 63 (d := d__law_moved) rfl
  refine ⟨⟨_, fd, ["_law_some", "_law_far", "_law_sign"], [], ?_, T.glo 63, F.kp, F.bindsN (fun _ _ _ _ _ _ us hl => match us, hl with | [_, _, _], _ => rfl), .nil⟩⟩
  refine F.ok sc__law_moved (fun vs H Q E h => len_of (α := (List (Int × Int)) × Int × Int) (C := fun x => x.1.length ≤ 100 ∧ Sm 200 x.2.2 ∧ ∀ q ∈ x.1, Sm 200 q.1) (pre := fun x => [bkD x.1, .int x.2.1, .int x.2.2]) (post := fun x => bkD (movF x.1 x.2.1 x.2.2)) (p := 3) (fun _ => rfl) vs H Q E h) (fun cdv A outer s H vs Q E hr h => ?_)
  refine ⟨_, PSs.nox (pss_one (ps_ret (pe_callB (sortPK (K := K)) rfl (free_sorted T) bb_sorted (pa_cons (pe_lc (own := [("_law_spot", 3), ("_law_val", 4)]) rfl sc__law_moved.nd (piL (K := K) (pv 0)) (blkOk_by (N := N__law_moved) (sc := defScope s__law_moved) (by decide +kernel)) (fun _ _ _ _ _ => (pgT (K := K) (n := 2) rfl (pgs_cons (pg_name (i := 3) sc__law_moved.nd rfl (Or.inl rfl)) (pgs_cons (pg_name (i := 4) sc__law_moved.nd rfl (Or.inl rfl)) pgs_nil)))) (fun _ _ _ _ _ => pts_nil) (fun _ _ _ _ _ => (pe_tup (pa_cons (pe_op op_add (pe_op op_mulW (pv 2) (pv 3)) (pv 1)) (pa_cons (pv 4) pa_nil))))) pa_nil)))), ?_⟩
  refine rd_of (α := (List (Int × Int)) × Int × Int) (C := fun x => x.1.length ≤ 100 ∧ Sm 200 x.2.2 ∧ ∀ q ∈ x.1, Sm 200 q.1) (pre := fun x => [bkD x.1, .int x.2.1, .int x.2.2]) (post := fun x => bkD (movF x.1 x.2.1 x.2.2)) (p := 3) (N := N__law_moved) (fun _ => rfl) ?rd vs H Q E h
  case rd =>
    rintro ⟨b, far, sg⟩ hh
    show Sx _ [some (.fro (bkD b)), some (.fro (.int far)), some (.fro (.int sg)), none, none] 0 _ _
    replace hh : b.length ≤ 100 ∧ Sm 200 sg ∧ ∀ q ∈ b, Sm 200 q.1 := hh
    obtain ⟨hl, h1, h2⟩ := hh
    refine sx_ret (d := bkD (movF b far sg)) (ep_new (en_sortedP (l := b.map fun q => (sg * q.1 + far, q.2)) (ep_new ?_))) rfl
    rw [show (b.map fun q => (sg * q.1 + far, q.2)).map prD = b.map fun q => PyData.tuple [.int (sg * q.1 + far), .int q.2] by rw [List.map_map]; rfl]
    refine en_m2 b (fun q => .int q.1) (fun q => .int q.2) (fun q => PyData.tuple [.int (sg * q.1 + far), .int q.2]) (es_list (ep_var rfl)) (fun q hq => ?_) (by omega)
    exact ep_tup (ea_cons (ep_op (ep_op (ep_var rfl) (ep_var rfl) (od_c (Sm.cmul h1 (h2 q hq) (by decide)))) (ep_var rfl) od_i) (ea_cons (ep_var rfl) ea_nil)) (by show 2 ≤ 100000; decide)
end Kr
end
section
/-! M5: what may be drawn. -/
namespace Kr
def topT : List Int := [9, 10 ^ (14 : Int).toNat, 10 ^ (6 : Int).toNat, 10 ^ (6 : Int).toNat, 10 ^ (3 : Int).toNat, 99]
def cntT : List Int := [1, 1, 2, 3, 5, 8]
def rchT : List Int := [10 ^ (29 : Int).toNat, 10 ^ (14 : Int).toNat, 10 ^ (9 : Int).toNat, 10 ^ (6 : Int).toNat, 10 ^ (3 : Int).toNat, 12]
/-- a row as it is drawn -/
def RowP (r : Row) : Prop := ∃ (s : Nat) (c0 : Int) (cs : List Int), s < 6 ∧ r.own = c0 :: cs ∧ (0 ≤ c0 ∧ c0 < 10000000000000000000000000000) ∧ (cs.length : Int) ≤ cntT.getD s 0 ∧ (∀ c ∈ cs, -topT.getD s 0 ≤ c ∧ c ≤ topT.getD s 0) ∧ (-4 ≤ r.sh ∧ r.sh ≤ 4) ∧ r.top = rchT.getD s 0
/-- places as they are drawn -/
structure SpotP (r : Row) (most : Int) (ss : List Int) : Prop where
  asc : ss.Pairwise (· < ·)
  len : (ss.length : Int) ≤ most
  rng : ∀ s ∈ ss, -(r.top + 50) ≤ s ∧ s ≤ r.top + 50
  far : ∀ s ∈ ss, -100000000000000000000000000000 ≤ s ∧ s ≤ 100000000000000000000000000000
def bookF (r : Row) (ss : List Int) : List (Int × Int) := ss.map fun s => (s, atF r.own r.sh s)
/-- new places as they are drawn -/
structure NewP (b : List (Int × Int)) (most : Int) (ps : List Int) : Prop where
  n1 : 1 ≤ ps.length
  len : (ps.length : Int) ≤ most
  rg : ∀ p ∈ ps, -200000000000000000000000000000 ≤ p ∧ p ≤ 200000000000000000000000000000
  nd : (ps ++ b.map (·.1)).Nodup
theorem top_tab : ∀ s : Fin 6, 1 ≤ topT.getD s.val 0 ∧ topT.getD s.val 0 ≤ 100000000000000 := by decide
theorem cnt_tab : ∀ s : Fin 6, 1 ≤ cntT.getD s.val 0 ∧ cntT.getD s.val 0 ≤ 8 := by decide
theorem rch_tab : ∀ s : Fin 6, 12 ≤ rchT.getD s.val 0 ∧ rchT.getD s.val 0 ≤ 100000000000000000000000000000 := by decide
theorem RowP.reach {r : Row} (h : RowP r) : 12 ≤ r.top ∧ r.top ≤ 100000000000000000000000000000 := by
  obtain ⟨s, _, _, hs, _, _, _, _, _, e⟩ := h
  rw [e]
  exact rch_tab ⟨s, hs⟩
end Kr
end
section
namespace Kr
open PySem L2
open Evl (Ex)
open C8 (Cal pe_c)
local macro_rules | `(tactic| walk_at "ev") => `(tactic| skip)
local macro_rules | `(tactic| walk_at "ev") => `(tactic| first
  | with_reducible exact ep_int
  | with_reducible exact ep_bl
  | with_reducible exact ep_non
  | with_reducible exact ea_nil
  | with_reducible exact et_yes
  | with_reducible exact eo_no
  | ((with_reducible apply ep_var); rfl)
  | (with_reducible apply ea_cons) <;> walk_at "ev"
  | (with_reducible apply ep_op) <;> walk_at "ev"
  | (with_reducible apply ep_un) <;> walk_at "ev"
  | (with_reducible apply ep_isi) <;> walk_at "ev"
  | ((with_reducible apply ep_lenV); rfl)
  | (with_reducible apply ep_len) <;> walk_at "ev"
  | (with_reducible apply ep_abs) <;> walk_at "ev"
  | (with_reducible apply ep_int1) <;> walk_at "ev"
  | (with_reducible apply ep_max2) <;> walk_at "ev"
  | (with_reducible apply ep_min2) <;> walk_at "ev"
  | (with_reducible apply et_test) <;> walk_at "ev"
  | (with_reducible apply et_B) <;> walk_at "ev"
  | (with_reducible apply et_not) <;> walk_at "ev"
  | (with_reducible apply ep_notV) <;> walk_at "ev"
  | (with_reducible apply ep_tup) <;> walk_at "ev"
  | (with_reducible apply eo_part) <;> walk_at "ev"
  | with_reducible exact od_i
  | with_reducible exact od_b
  | with_reducible exact od_eqI
  | with_reducible exact od_neI
  | with_reducible exact od_isN
  | with_reducible exact od_notN
  | with_reducible exact od_notB
  | with_reducible apply od_c
  | with_reducible exact od_ixT0
  | with_reducible exact od_ixT1
  | with_reducible exact od_ixL0
  | with_reducible exact od_ixL1
  | with_reducible exact od_ixL2
  | with_reducible apply od_ixL
  | with_reducible apply od_ixT
  | with_reducible exact ud_neg
  | (with_reducible refine' et_or ?_ (fun _ => ?_)) <;> walk_at "ev"
  | (with_reducible refine' et_and ?_ (fun _ => ?_)) <;> walk_at "ev"
  | (with_reducible refine' ep_orV ?_ (fun _ => ?_)) <;> walk_at "ev"
  | (with_reducible refine' ep_andV ?_ (fun _ => ?_)) <;> walk_at "ev"
  | (with_reducible refine' ep_chain ?_ ?_ ?_ (fun _ => ?_) (fun _ => ?_)) <;> walk_at "ev"
  | exact isi_int
  | exact isi_intb
  | exact isi_lst
  | exact isi_tup
  | exact Nat.le_of_ble_eq_true rfl)
local macro_rules | `(tactic| walk_at "ev") => `(tactic| (with_reducible apply ev_divisor_of) <;> walk_at "ev")
local macro_rules | `(tactic| walk_at "ev") => `(tactic| (with_reducible apply ev_multiple_of) <;> walk_at "ev")
local macro_rules | `(tactic| walk_at "ev") => `(tactic| (with_reducible apply ev_divides) <;> walk_at "ev")
local macro_rules | `(tactic| walk_at "ev") => `(tactic| (with_reducible apply ev_do_fit) <;> walk_at "ev")
local macro_rules | `(tactic| walk_at "ev") => `(tactic| (with_reducible apply ev_conflicts_in) <;> walk_at "ev")
local macro_rules | `(tactic| walk_at "ev") => `(tactic| (with_reducible apply ev_is_integer) <;> walk_at "ev")
local macro_rules | `(tactic| walk_at "ev") => `(tactic| (with_reducible apply ev_is_told) <;> walk_at "ev")
local macro_rules | `(tactic| walk_at "ev") => `(tactic| (with_reducible apply ev_is_item) <;> walk_at "ev")
local macro_rules | `(tactic| walk_at "ev") => `(tactic| (with_reducible apply ev_is_book) <;> walk_at "ev")
local macro_rules | `(tactic| walk_at "ev") => `(tactic| (with_reducible apply ev_need_book) <;> walk_at "ev")
local macro_rules | `(tactic| walk_at "ev") => `(tactic| (with_reducible apply ev_conflict_in) <;> walk_at "ev")
local macro_rules | `(tactic| walk_at "ev") => `(tactic| (with_reducible apply ev_need_fitting) <;> walk_at "ev")
local macro_rules | `(tactic| walk_at "ev") => `(tactic| (with_reducible apply ev_need_possible) <;> walk_at "ev")
local macro_rules | `(tactic| walk_at "ev") => `(tactic| (with_reducible apply ev_conflict_of) <;> walk_at "ev")
local macro_rules | `(tactic| walk_at "ev") => `(tactic| (with_reducible apply ev_all_conflicts) <;> walk_at "ev")
local macro_rules | `(tactic| walk_at "ev") => `(tactic| (with_reducible apply ev_need_modulus1) <;> walk_at "ev")
local macro_rules | `(tactic| walk_at "ev") => `(tactic| (with_reducible apply ev_need_modulus2) <;> walk_at "ev")
local macro_rules | `(tactic| walk_at "ev") => `(tactic| (with_reducible apply ev_inverse_of) <;> walk_at "ev")
local macro_rules | `(tactic| walk_at "ev") => `(tactic| (with_reducible apply ev_met) <;> walk_at "ev")
local macro_rules | `(tactic| walk_at "ev") => `(tactic| (with_reducible apply ev_class_by) <;> walk_at "ev")
local macro_rules | `(tactic| walk_at "ev") => `(tactic| (with_reducible apply ev_class_at) <;> walk_at "ev")
local macro_rules | `(tactic| walk_at "ev") => `(tactic| (with_reducible apply ev_can_have) <;> walk_at "ev")
local macro_rules | `(tactic| walk_at "ev") => `(tactic| (with_reducible apply ev_far_in) <;> walk_at "ev")
local macro_rules | `(tactic| walk_at "ev") => `(tactic| (with_reducible apply ev_need_sure) <;> walk_at "ev")
local macro_rules | `(tactic| walk_at "ev") => `(tactic| (with_reducible apply ev_reason_for) <;> walk_at "ev")
local macro_rules | `(tactic| walk_at "ev") => `(tactic| (with_reducible apply ev_are_indices) <;> walk_at "ev")
local macro_rules | `(tactic| walk_at "ev") => `(tactic| (with_reducible apply ev_shows_reason) <;> walk_at "ev")
local macro_rules | `(tactic| walk_at "ev") => `(tactic| (with_reducible apply ev_need_places) <;> walk_at "ev")
local macro_rules | `(tactic| walk_at "ev") => `(tactic| (with_reducible apply ev_need_open) <;> walk_at "ev")
local macro_rules | `(tactic| walk_at "ev") => `(tactic| (with_reducible apply ev_steps_in) <;> walk_at "ev")
local macro_rules | `(tactic| walk_at "ev") => `(tactic| (with_reducible apply ev_size_in) <;> walk_at "ev")
local macro_rules | `(tactic| walk_at "ev") => `(tactic| (with_reducible apply ev_count_in) <;> walk_at "ev")
local macro_rules | `(tactic| walk_at "ev") => `(tactic| (with_reducible apply ev_need_size) <;> walk_at "ev")
local macro_rules | `(tactic| walk_at "ev") => `(tactic| (with_reducible apply ev_step_list) <;> walk_at "ev")
local macro_rules | `(tactic| walk_at "ev") => `(tactic| (with_reducible apply ev_common_size) <;> walk_at "ev")
local macro_rules | `(tactic| walk_at "ev") => `(tactic| (with_reducible apply ev_count_fillings) <;> walk_at "ev")
local macro_rules | `(tactic| walk_at "ev") => `(tactic| (with_reducible apply ev_nth_filling) <;> walk_at "ev")
local macro_rules | `(tactic| walk_at "ev") => `(tactic| (with_reducible apply ev_index_in) <;> walk_at "ev")
local macro_rules | `(tactic| walk_at "ev") => `(tactic| (with_reducible apply ev_filling_index) <;> walk_at "ev")
local macro_rules | `(tactic| walk_at "ev") => `(tactic| (with_reducible apply ev_vectors_in) <;> walk_at "ev")
local macro_rules | `(tactic| walk_at "ev") => `(tactic| (with_reducible apply ev_summed) <;> walk_at "ev")
local macro_rules | `(tactic| walk_at "ev") => `(tactic| (with_reducible apply ev_need_weights) <;> walk_at "ev")
local macro_rules | `(tactic| walk_at "ev") => `(tactic| (with_reducible apply ev_sure_sum) <;> walk_at "ev")
local macro_rules | `(tactic| walk_at "ev") => `(tactic| (with_reducible apply ev_need_asked2) <;> walk_at "ev")
local macro_rules | `(tactic| walk_at "ev") => `(tactic| (with_reducible apply ev_need_asked3) <;> walk_at "ev")
local macro_rules | `(tactic| walk_at "ev") => `(tactic| (with_reducible apply ev_prime_powers) <;> walk_at "ev")
local macro_rules | `(tactic| walk_at "ev") => `(tactic| (with_reducible apply ev_lacking_in) <;> walk_at "ev")
local macro_rules | `(tactic| walk_at "ev") => `(tactic| (with_reducible apply ev_most_lacking) <;> walk_at "ev")
local macro_rules | `(tactic| walk_at "ev") => `(tactic| (with_reducible apply ev_first_lacking) <;> walk_at "ev")
local macro_rules | `(tactic| walk_at "ev") => `(tactic| (with_reducible apply ev_sure_table) <;> walk_at "ev")
local macro_rules | `(tactic| walk_at "ev") => `(tactic| (with_reducible apply ev_fewest_more) <;> walk_at "ev")
local macro_rules | `(tactic| walk_at "ev") => `(tactic| (with_reducible apply ev_are_questions) <;> walk_at "ev")
local macro_rules | `(tactic| walk_at "ev") => `(tactic| (with_reducible apply ev_shows_questions) <;> walk_at "ev")
local macro_rules | `(tactic| walk_at "ev") => `(tactic| (with_reducible apply ev_questions) <;> walk_at "ev")
local macro_rules | `(tactic| walk_at "ev") => `(tactic| (with_reducible apply ev__law_divisor) <;> walk_at "ev")
local macro_rules | `(tactic| walk_at "ev") => `(tactic| (with_reducible apply ev__law_multiple) <;> walk_at "ev")
local macro_rules | `(tactic| walk_at "ev") => `(tactic| (with_reducible apply ev__law_at) <;> walk_at "ev")
local macro_rules | `(tactic| walk_at "ev") => `(tactic| (with_reducible apply ev__law_moved) <;> walk_at "ev")

/-- an int of some size, by constants -/
theorem ep_p10 {G : Gm} {k : Int} (h : 0 ≤ k ∧ k ≤ 1000000) : Ep (tOp (rI CPow fun i j => .int (i ^ j.toNat)) (tC (.int 10)) (tC (.int k))) G (.int (10 ^ k.toNat)) := ep_op ep_int ep_int (od_c ⟨h.1, h.2, by decide⟩)
theorem getD_nat {l : List Int} {s : Int} {A : Int → Prop} (h : ∀ k : Fin l.length, A (l.getD k.val 0)) (h0 : 0 ≤ s) (h1 : s < (l.length : Int)) : A (l.getD s.toNat 0) := h ⟨s.toNat, by omega⟩

/-! ### _law_row -/
abbrev N__law_row : List Str := ["_law_purse_here", "_law_style", "_law_top", "_law_own", "_law_turn"]
theorem sc__law_row : FnScope N__law_row ["_law_purse_here"] (defScope s__law_row) := ⟨rfl, rfl, rfl, by decide +kernel, rfl, by decide +kernel, by decide +kernel⟩
abbrev sp__law_row : Sp := SpX (α := Unit) (fun _ => True) (fun _ => []) (fun _ d => ∃ r, d = rowDt r ∧ RowP r) 20
theorem cal__law_row {P : Program} {w : World} {K : PySem.W.Frag} {mg : Str → Option Value} {base : Heap} (T : Txt K mg) (NS : SeerP P base) : Cal P w K mg base 41 "_law_row" sp__law_row [] := by
  obtain ⟨fd, F⟩ := T.c.def_ 56 (d := d__law_row) rfl
  refine ⟨⟨_, fd, ["_law_purse_here"], [], ?_, T.glo 56, F.kp, F.bindsN (fun _ _ _ _ _ _ us hl => match us, hl with | [_], _ => rfl), .nil⟩⟩
  refine F.ok sc__law_row (fun vs H Q E h => len_ofX (α := Unit) (C := fun _ => True) (pre := fun _ => []) (post := fun _ d => ∃ r, d = rowDt r ∧ RowP r) (k := 20) (p := 0) (fun _ => rfl) vs H Q E h) (fun cdv A outer s H vs Q E hr h => ?_)
  refine ⟨_, PSs.nox (pss_cons (ps_set (i := 1) sc__law_row.nd rfl (Or.inl rfl) (pe_c (cal__law_toss T NS) hr (by decide) rfl (pa_cons (pv 0) (pa_cons pe_int pa_nil))))
      (pss_cons (ps_set (i := 2) sc__law_row.nd rfl (Or.inl rfl) (pe_ix (ixL (K := K)) (pe_lst (pa_cons pe_int (pa_cons (pe_op op_pow pe_int pe_int) (pa_cons (pe_op op_pow pe_int pe_int) (pa_cons (pe_op op_pow pe_int pe_int) (pa_cons (pe_op op_pow pe_int pe_int) (pa_cons pe_int pa_nil))))))) (pv 1) (fun _ _ => rfl)))
      (pss_cons (ps_set (i := 3) sc__law_row.nd rfl (Or.inl rfl) (pe_lst (pa_cons (pe_c (cal__law_toss T NS) hr (by decide) rfl (pa_cons (pv 0) (pa_cons (pe_ix (ixL (K := K)) (pe_lst (pa_cons pe_int (pa_cons (pe_op op_pow pe_int pe_int) pa_nil))) (pe_c (cal__law_toss T NS) hr (by decide) rfl (pa_cons (pv 0) (pa_cons pe_int pa_nil))) (fun _ _ => rfl)) pa_nil))) pa_nil)))
      (pss_cons (ps_for PassesOwn.never rfl (pi_range1 rfl (free_range T) (pa_cons (pe_op op_add pe_int (pe_c (cal__law_toss T NS) hr (by decide) rfl (pa_cons (pv 0) (pa_cons (pe_ix (ixL (K := K)) (pe_lst (pa_cons pe_int (pa_cons pe_int (pa_cons pe_int (pa_cons pe_int (pa_cons pe_int (pa_cons pe_int pa_nil))))))) (pv 1) (fun _ _ => rfl)) pa_nil)))) pa_nil)) (pg_name (i := 4) sc__law_row.nd rfl (Or.inl rfl)) (pss_one (ps_expr (pe_bm PySem.F.plainAttrs_list PySem.F.slot_list_append PySem.F.type_list_append mt_append (pv 3) (pa_cons (pe_op op_sub (pe_c (cal__law_toss T NS) hr (by decide) rfl (pa_cons (pv 0) (pa_cons (pe_op op_add (pe_op op_mulW pe_int (pv 2)) pe_int) pa_nil))) (pv 2)) pa_nil)))))
      (pss_one (ps_ret (pe_lst (pa_cons (pv 3) (pa_cons (pe_op op_sub (pe_c (cal__law_toss T NS) hr (by decide) rfl (pa_cons (pv 0) (pa_cons pe_int pa_nil))) pe_int) (pa_cons (pe_ix (ixL (K := K)) (pe_lst (pa_cons (pe_op op_pow pe_int pe_int) (pa_cons (pe_op op_pow pe_int pe_int) (pa_cons (pe_op op_pow pe_int pe_int) (pa_cons (pe_op op_pow pe_int pe_int) (pa_cons (pe_op op_pow pe_int pe_int) (pa_cons pe_int pa_nil))))))) (pv 1) (fun _ _ => rfl)) pa_nil)))))))))), ?_⟩
  refine rd_ofX (α := Unit) (C := fun _ => True) (pre := fun _ => []) (post := fun _ d => ∃ r, d = rowDt r ∧ RowP r) (k := 20) (p := 0) (N := N__law_row) (fun _ => rfl) ?rd vs H Q E h
  case rd =>
    intro _ n _ hk
    show Sx _ [some .pur, none, none, none, none] n _ _
    refine sx_seq (M := fun G n' => n' = n + 1 ∧ ∃ s : Int, (0 ≤ s ∧ s < 6) ∧ G = [some .pur, some (.fro (.int s)), none, none, none]) (sx_asgI (evi_toss1 rfl ep_int (by decide) (by omega)) fun s hs => ⟨rfl, s, hs, rfl⟩) ?_
    rintro G n' ⟨rfl, s, ⟨s0, s6⟩, rfl⟩
    have tb : 1 ≤ topT.getD s.toNat 0 ∧ topT.getD s.toNat 0 ≤ 100000000000000 := top_tab ⟨s.toNat, by omega⟩
    have cb : 1 ≤ cntT.getD s.toNat 0 ∧ cntT.getD s.toNat 0 ≤ 8 := cnt_tab ⟨s.toNat, by omega⟩
    refine sx_then (G1 := [some .pur, some (.fro (.int s)), some (.fro (.int (topT.getD s.toNat 0))), none, none]) (sx_asg (ep_pick (zs := topT) (ea_cons ep_int (ea_cons (ep_p10 (by decide)) (ea_cons (ep_p10 (by decide)) (ea_cons (ep_p10 (by decide)) (ea_cons (ep_p10 (by decide)) (ea_cons ep_int ea_nil)))))) (ep_var rfl) s0 (by show s.toNat < 6; omega) (by decide)) ⟨rfl, rfl⟩) ?_
    refine sx_seq (M := fun G n' => n' = n + 1 + 2 ∧ ∃ c0 : Int, (0 ≤ c0 ∧ c0 < 10000000000000000000000000000) ∧ G = [some .pur, some (.fro (.int s)), some (.fro (.int (topT.getD s.toNat 0))), some (.own ([c0].map PyData.int)), none]) ?_ ?_
    · refine sx_newV (PL := fun xs n' => n' = n + 1 + 2 ∧ ∃ c0 : Int, xs = [c0].map PyData.int ∧ 0 ≤ c0 ∧ c0 < 10000000000000000000000000000) (env_lst (PL := fun xs n' => n' = n + 1 + 2 ∧ ∃ c0 : Int, xs = [c0].map PyData.int ∧ 0 ≤ c0 ∧ c0 < 10000000000000000000000000000) (eva_cons (evi_toss (k := 1) (A := fun r => 0 ≤ r ∧ r < 10000000000000000000000000000) rfl (evi_pick (k := 0) (l := 1) (L := 2) (eai_ea (zs := [9, 10 ^ (28 : Int).toNat]) (ea_cons ep_int (ea_cons (ep_p10 (by decide)) ea_nil)) ⟨rfl, fun z hz => ?_⟩) (evi_toss1 rfl ep_int (by decide) (by omega)) (by decide)) (by omega)) fun d n1 ⟨e1, z, e2, hz⟩ => eva_nil ⟨by omega, z, by rw [e2]; rfl, hz⟩) fun ds n' ⟨e1, z, e2, hz⟩ => ⟨by rw [e2]; show 1 ≤ 100000; decide, e1, z, e2, hz⟩) fun xs n' ⟨e1, z, e2, hz⟩ => ⟨e1, z, hz, by rw [e2]; rfl⟩
      have b9 : z = 9 ∨ z = 10 ^ (28 : Int).toNat := by simpa using hz
      rcases b9 with e | e
      · rw [e]; exact ⟨by decide, fun r a b => ⟨a, by omega⟩⟩
      · rw [e]
        have e28 : (10 : Int) ^ (28 : Int).toNat = 10000000000000000000000000000 := by decide
        rw [e28]
        exact ⟨by decide, fun r a b => ⟨a, b⟩⟩
    rintro G n' ⟨rfl, c0, hc0, rfl⟩
    generalize hT : topT.getD s.toNat 0 = T at *
    generalize hC : cntT.getD s.toNat 0 = C at *
    have e1 : ∀ cs : List Int, (c0 :: cs).map PyData.int = [c0].map PyData.int ++ cs.map PyData.int := fun _ => rfl
    refine sx_seq (M := fun G n' => n' ≤ n + 12 ∧ ∃ (cs : List Int) (a4 : Option B), ((cs.length : Int) ≤ C ∧ ∀ c ∈ cs, -T ≤ c ∧ c ≤ T) ∧ G = [some .pur, some (.fro (.int s)), some (.fro (.int T)), some (.own ((c0 :: cs).map PyData.int)), a4]) ?_ ?_
    · refine sx_forV (PL := fun ds n' => n' = n + 4 ∧ (ds.length : Int) ≤ C) (fun ds i G n' => n' = n + 4 + i ∧ i ≤ 8 ∧ i ≤ ds.length ∧ (ds.length : Int) ≤ C ∧ ∃ (cs : List Int) (a4 : Option B), cs.length = i ∧ (∀ c ∈ cs, -T ≤ c ∧ c ≤ T) ∧ G = [some .pur, some (.fro (.int s)), some (.fro (.int T)), some (.own ((c0 :: cs).map PyData.int)), a4]) ?_ (fun ds n' ⟨e, hl⟩ => ⟨e, Nat.zero_le _, Nat.zero_le _, hl, [], none, rfl, (fun c hc => by cases hc), rfl⟩) ?_ ?_
      · have hsrc := esv_rngI (te := _) (n := n + 1 + 2) (k := 1) (A := fun z => 0 ≤ z ∧ z ≤ C) (evi_op (k := 0) (l := 1) (A := fun x => x = 1) (f := fun i j => i + j) (r := rI0 fun i j => .int (i + j)) (evi_ep (G := [some .pur, some (.fro (.int s)), some (.fro (.int T)), some (.own ([c0].map PyData.int)), none]) ep_int rfl) (evi_toss (k := 0) (i := 0) (A := fun r => 0 ≤ r ∧ r < C) rfl (evi_ep (ep_pick (K := K) (zs := cntT) (ea_cons ep_int (ea_cons ep_int (ea_cons ep_int (ea_cons ep_int (ea_cons ep_int (ea_cons ep_int ea_nil)))))) (ep_var (i := 1) rfl) s0 (by show s.toNat < 6; omega) (by decide)) (by rw [hC]; exact ⟨cb.1, fun r a b => ⟨a, b⟩⟩)) (by omega)) fun x y hx hy => ⟨od_i, by omega, by omega⟩) fun z hz => ⟨hz.1, by omega⟩
        exact fun pu W0 H0 σ W H S R q => hsrc pu W0 H0 σ W H S R fun J ds n' W' H' ⟨e, z, hz, hl⟩ => q J ds n' W' H' ⟨by omega, by omega⟩
      · rintro ds i x G n' hx ⟨e, i8, il, hl, cs, a4, cl, hcs, rfl⟩
        have hi : i < ds.length := (List.getElem?_eq_some_iff.mp hx).1
        have tS : Sm 60 T := sm_of 100000000000000 ⟨by omega, by omega⟩ (by decide)
        refine ⟨_, _, tg_name, ?_⟩
        show Sx _ [some .pur, some (.fro (.int s)), some (.fro (.int T)), some (.own ((c0 :: cs).map PyData.int)), some (.fro x)] _ _ _
        refine sx_appV (xs := (c0 :: cs).map PyData.int) rfl (evi_op (k := 1) (l := 0) (A := fun z => 0 ≤ z ∧ z < 2 * T + 1) (B := fun y => y = T) (C := fun z => -T ≤ z ∧ z ≤ T) (f := fun i j => i - j) (evi_toss1 (m := 2 * T + 1) rfl (ep_op (ep_op ep_int (ep_var rfl) (od_c (Sm.cmul (k := 2) (sm_of 2 ⟨by decide, by decide⟩ (by decide)) tS (by decide)))) ep_int od_i) (by omega) (by omega)) (evi_ep (ep_var rfl) rfl) fun x y hx hy => ⟨od_i, by omega, by omega⟩) (by rw [List.length_map, List.length_cons]; omega) fun d n2 ⟨e2, z, ez, hz⟩ => ⟨by omega, by omega, hi, hl, cs ++ [z], some (.fro x), by rw [List.length_append, cl]; rfl, ?_, ?_⟩
        · intro c hc
          rcases List.mem_append.mp hc with h | h
          · exact hcs c h
          · rw [List.mem_singleton.mp h]; exact hz
        · rw [ez, show (c0 :: (cs ++ [z])).map PyData.int = (c0 :: cs).map PyData.int ++ [PyData.int z] by rw [List.map_cons, List.map_append]; rfl]
          rfl
      · rintro ds G n' ⟨e, i8, il, hl, cs, a4, cl, hcs, rfl⟩
        exact ⟨by omega, cs, a4, ⟨by omega, hcs⟩, rfl⟩
    · rintro G n' ⟨hn, cs, a4, ⟨cl, hcs⟩, rfl⟩
      refine sx_fz (i := 3) (xs := (c0 :: cs).map PyData.int) rfl ?_
      show Sx _ [some .pur, some (.fro (.int s)), some (.fro (.int T)), some (.fro (iD (c0 :: cs))), a4] _ _ _
      refine sx_retV (P := fun d n2 => n2 ≤ n + 20 ∧ ∃ r, d = rowDt r ∧ RowP r) (ev_new (env_lst (PL := fun ds n2 => n2 = n' + 1 ∧ ∃ sh : Int, (-4 ≤ sh ∧ sh ≤ 4) ∧ ds = [iD (c0 :: cs), .int sh, .int (rchT.getD s.toNat 0)]) (PR := fun ds n2 => n2 = n' + 1 ∧ ∃ sh : Int, (-4 ≤ sh ∧ sh ≤ 4) ∧ ds = [iD (c0 :: cs), .int sh, .int (rchT.getD s.toNat 0)]) (eva_cons (P1 := fun d n1 => d = iD (c0 :: cs) ∧ n1 = n') (ev_ep (ep_var rfl) ⟨rfl, rfl⟩) fun d n1 ⟨ed, en⟩ => ?_) fun ds n2 ⟨e, sh, hs, ed⟩ => ⟨by rw [ed]; show 3 ≤ 100000; decide, e, sh, hs, ed⟩) fun xs n2 ⟨e, sh, hs, ed⟩ => ⟨by omega, ⟨c0 :: cs, sh, rchT.getD s.toNat 0⟩, by rw [ed]; rfl, s.toNat, c0, cs, by omega, rfl, hc0, by rw [hC]; exact cl, by rw [hT]; exact hcs, hs, rfl⟩) fun d n2 h => h
      subst ed en
      exact eva_cons (evi_op (k := 1) (l := 0) (A := fun z => 0 ≤ z ∧ z < 9) (B := fun y => y = 4) (C := fun z => -4 ≤ z ∧ z ≤ 4) (f := fun i j => i - j) (evi_toss1 rfl ep_int (by decide) (by omega)) (evi_ep ep_int rfl) fun x y hx hy => ⟨od_i, by omega, by omega⟩) fun d n2 ⟨e2, sh, esh, hsh⟩ => eva_cons (P1 := fun d n3 => d = .int (rchT.getD s.toNat 0) ∧ n3 = n2) (ev_ep (ep_pick (zs := rchT) (ea_cons (ep_p10 (by decide)) (ea_cons (ep_p10 (by decide)) (ea_cons (ep_p10 (by decide)) (ea_cons (ep_p10 (by decide)) (ea_cons (ep_p10 (by decide)) (ea_cons ep_int ea_nil)))))) (ep_var rfl) s0 (by show s.toNat < 6; omega) (by decide)) ⟨rfl, rfl⟩) fun d3 n3 ⟨e3, e4⟩ => eva_nil ⟨by omega, sh, hsh, by rw [esh, e3]⟩
theorem RowP.ok {r : Row} (h : RowP r) : RowOk r := by
  obtain ⟨s, c0, cs, hs, e, hc0, hl, hc, hsh, _⟩ := h
  have tb : 1 ≤ topT.getD s 0 ∧ topT.getD s 0 ≤ 100000000000000 := top_tab ⟨s, hs⟩
  have cb : 1 ≤ cntT.getD s 0 ∧ cntT.getD s 0 ≤ 8 := cnt_tab ⟨s, hs⟩
  refine ⟨by rw [e, List.length_cons]; omega, fun c hm => ?_, sm_of 4 ⟨by omega, by omega⟩ (by decide)⟩
  rw [e] at hm
  rcases List.mem_cons.mp hm with z | z
  · rw [z]; exact sm_of 10000000000000000000000000000 ⟨by omega, by omega⟩ (by decide)
  · have := hc c z
    exact sm_of 100000000000000 ⟨by omega, by omega⟩ (by decide)
theorem p29 : (10 : Int) ^ (29 : Int).toNat = 100000000000000000000000000000 := by decide

/-! ### _law_spots -/
abbrev N__law_spots : List Str := ["_law_purse_here", "_law_row_here_here", "_law_most", "_law_found", "_law_last", "_law_turn", "_law_far"]
theorem sc__law_spots : FnScope N__law_spots ["_law_purse_here", "_law_row_here_here", "_law_most"] (defScope s__law_spots) := ⟨rfl, rfl, rfl, by decide +kernel, rfl, by decide +kernel, by decide +kernel⟩
abbrev sp__law_spots : Sp := SpX (α := Row × Int) (fun x => RowP x.1 ∧ 0 ≤ x.2 ∧ x.2 ≤ 16) (fun x => [rowDt x.1, .int x.2]) (fun x d => ∃ ss, d = iD ss ∧ SpotP x.1 x.2 ss) 60
theorem cal__law_spots {P : Program} {w : World} {K : PySem.W.Frag} {mg : Str → Option Value} {base : Heap} (T : Txt K mg) (NS : SeerP P base) : Cal P w K mg base 41 "_law_spots" sp__law_spots [] := by
  obtain ⟨fd, F⟩ := T.c.def_ 58 (d := d__law_spots) rfl
  refine ⟨⟨_, fd, ["_law_purse_here", "_law_row_here_here", "_law_most"], [], ?_, T.glo 58, F.kp, F.bindsN (fun _ _ _ _ _ _ us hl => match us, hl with | [_, _, _], _ => rfl), .nil⟩⟩
  refine F.ok sc__law_spots (fun vs H Q E h => len_ofX (α := Row × Int) (C := fun x => RowP x.1 ∧ 0 ≤ x.2 ∧ x.2 ≤ 16) (pre := fun x => [rowDt x.1, .int x.2]) (post := fun x d => ∃ ss, d = iD ss ∧ SpotP x.1 x.2 ss) (k := 60) (p := 2) (fun _ => rfl) vs H Q E h) (fun cdv A outer s H vs Q E hr h => ?_)
  refine ⟨_, PSs.nox (pss_cons (ps_par (i := 3) (j := 4) rfl sc__law_spots.nd rfl rfl (by decide) rfl rfl (pa_cons (pe_lst pa_nil) (pa_cons pe_int pa_nil)) rfl)
      (pss_cons (ps_for PassesOwn.never rfl (pi_range1 rfl (free_range T) (pa_cons (pe_c (cal__law_toss T NS) hr (by decide) rfl (pa_cons (pv 0) (pa_cons (pe_op op_add (pv 2) pe_int) pa_nil))) pa_nil)) (pg_name (i := 5) sc__law_spots.nd rfl (Or.inl rfl)) (pss_cons (ps_set (i := 6) sc__law_spots.nd rfl (Or.inl rfl) (pe_op op_sub (pe_c (cal__law_toss T NS) hr (by decide) rfl (pa_cons (pv 0) (pa_cons (pe_op op_add (pe_op op_mulW pe_int (pe_ix (ixL (K := K)) (pv 1) pe_int (fun _ _ => rfl))) pe_int) pa_nil))) (pe_ix (ixL (K := K)) (pv 1) pe_int (fun _ _ => rfl))))
      (pss_cons (ps_set (i := 4) sc__law_spots.nd rfl (Or.inl rfl) (pe_ix (ixL (K := K)) (pe_lst (pa_cons (pe_op op_add (pv 4) pe_int) (pa_cons (pe_op op_sub (pe_c (cal__law_toss T NS) hr (by decide) rfl (pa_cons (pv 0) (pa_cons pe_int pa_nil))) pe_int) (pa_cons (pv 6) (pa_cons (pv 6) (pa_cons (pe_op op_sub (pv 4) pe_int) pa_nil)))))) (pe_c (cal__law_toss T NS) hr (by decide) rfl (pa_cons (pv 0) (pa_cons pe_int pa_nil))) (fun _ _ => rfl)))
      (pss_cons (ps_set (i := 4) sc__law_spots.nd rfl (Or.inl rfl) (pe_callB (k_max2 rfl) rfl (free_max T) bb_max (pa_cons (pe_op op_sub pe_int (pe_op op_pow pe_int pe_int)) (pa_cons (pe_callB (k_min2 rfl) rfl (free_min T) bb_min (pa_cons (pe_op op_pow pe_int pe_int) (pa_cons (pv 4) pa_nil))) pa_nil))))
      (pss_one (ps_expr (pe_bm PySem.F.plainAttrs_list PySem.F.slot_list_append PySem.F.type_list_append mt_append (pv 3) (pa_cons (pv 4) pa_nil))))))))
      (pss_one (ps_ret (pe_callB (sortSetK (w := w) rfl) rfl (free_sorted T) bb_sorted (pa_cons (pe_callTy (setK (w := w) rfl) rfl (free_set T) bb_set (pa_cons (pv 3) pa_nil)) pa_nil)))))), ?_⟩
  refine rd_ofX (α := Row × Int) (C := fun x => RowP x.1 ∧ 0 ≤ x.2 ∧ x.2 ≤ 16) (pre := fun x => [rowDt x.1, .int x.2]) (post := fun x d => ∃ ss, d = iD ss ∧ SpotP x.1 x.2 ss) (k := 60) (p := 2) (N := N__law_spots) (fun _ => rfl) ?rd vs H Q E h
  case rd =>
    intro x n hx hk
    obtain ⟨r, most⟩ := x
    show Sx _ [some .pur, some (.fro (rowDt r)), some (.fro (.int most)), none, none, none, none] n _ _
    replace hx : RowP r ∧ 0 ≤ most ∧ most ≤ 16 := hx
    obtain ⟨hr, m0, m16⟩ := hx
    have rc := hr.reach
    refine sx_then (G1 := [some .pur, some (.fro (rowDt r)), some (.fro (.int most)), some (.own []), some (.fro (.int 0)), none, none]) (sx_parN (xs := []) (en_lst ea_nil (by decide)) (by walk_at "ev") ⟨rfl, rfl⟩) ?_
    refine sx_seq (M := fun G n' => n' ≤ n + 60 ∧ ∃ (fs : List Int) (a4 a5 a6 : Option B), ((fs.length : Int) ≤ most ∧ (∀ s ∈ fs, -(r.top + 50) ≤ s ∧ s ≤ r.top + 50) ∧ ∀ s ∈ fs, -100000000000000000000000000000 ≤ s ∧ s ≤ 100000000000000000000000000000) ∧ G = [some .pur, some (.fro (rowDt r)), some (.fro (.int most)), some (.own (fs.map PyData.int)), a4, a5, a6]) ?_ ?_
    · refine sx_forV (PL := fun ds n' => n' = n + 1 ∧ (ds.length : Int) ≤ most) (fun ds i G n' => n' = n + 1 + 3 * i ∧ i ≤ ds.length ∧ (ds.length : Int) ≤ most ∧ ∃ (fs : List Int) (L : Int) (a5 a6 : Option B), fs.length = i ∧ (-(r.top + 2 * i) ≤ L ∧ L ≤ r.top + 2 * i) ∧ (∀ s ∈ fs, -(r.top + 50) ≤ s ∧ s ≤ r.top + 50) ∧ (∀ s ∈ fs, -100000000000000000000000000000 ≤ s ∧ s ≤ 100000000000000000000000000000) ∧ G = [some .pur, some (.fro (rowDt r)), some (.fro (.int most)), some (.own (fs.map PyData.int)), some (.fro (.int L)), a5, a6]) ?_ (fun ds n' ⟨e, hl⟩ => ⟨by omega, Nat.zero_le _, hl, [], 0, none, none, rfl, ⟨by omega, by omega⟩, (fun s h => by cases h), (fun s h => by cases h), rfl⟩) ?_ ?_
      · have hsrc := esv_rngI (te := _) (n := n) (k := 1) (A := fun z => 0 ≤ z ∧ z ≤ most) (G := [some .pur, some (.fro (rowDt r)), some (.fro (.int most)), some (.own []), some (.fro (.int 0)), none, none]) (evi_mono (evi_toss1 (i := 0) (m := most + 1) rfl (ep_op (ep_var (i := 2) rfl) (ep_int (i := 1)) (od_i (f := fun i j => i + j))) (by omega) (by omega)) fun z hz => ⟨hz.1, by omega⟩) fun z hz => ⟨hz.1, by omega⟩
        exact fun pu W0 H0 σ W H S R q => hsrc pu W0 H0 σ W H S R fun J ds n' W' H' ⟨e, z, hz, hl⟩ => q J ds n' W' H' ⟨by omega, by omega⟩
      · rintro ds i x G n' hx ⟨e, il, hl, fs, L, a5, a6, cl, hL, h1, h2, rfl⟩
        have hi : i < ds.length := (List.getElem?_eq_some_iff.mp hx).1
        have tS : Sm 100 r.top := sm_of 100000000000000000000000000000 ⟨by omega, by omega⟩ (by decide)
        refine ⟨_, _, tg_name, ?_⟩
        show Sx _ [some .pur, some (.fro (rowDt r)), some (.fro (.int most)), some (.own (fs.map PyData.int)), some (.fro (.int L)), some (.fro x), a6] _ _ _
        have eT : ∀ G : Gm, G[1]? = some (some (.fro (rowDt r))) → Ep (tOp (rIxL K) (tVar 1) (tC (.int 2))) G (.int r.top) := fun G h => ep_op (d1 := rowDt r) (ep_var h) ep_int od_ixL2
        refine sx_seq (M := fun G n2 => n2 = n' + 1 ∧ ∃ F : Int, (-r.top ≤ F ∧ F ≤ r.top) ∧ G = [some .pur, some (.fro (rowDt r)), some (.fro (.int most)), some (.own (fs.map PyData.int)), some (.fro (.int L)), some (.fro x), some (.fro (.int F))]) (sx_asgI (k := 1) (evi_op (k := 1) (l := 0) (A := fun z => 0 ≤ z ∧ z < 2 * r.top + 1) (B := fun y => y = r.top) (C := fun z => -r.top ≤ z ∧ z ≤ r.top) (f := fun i j => i - j) (evi_toss1 (m := 2 * r.top + 1) rfl (ep_op (ep_op ep_int (eT _ rfl) (od_c (Sm.cmul (k := 2) (sm_of 2 ⟨by decide, by decide⟩ (by decide)) tS (by decide)))) ep_int od_i) (by omega) (by omega)) (evi_ep (eT _ rfl) rfl) fun x y hx hy => ⟨od_i, by omega, by omega⟩) fun z hz => ⟨rfl, z, hz, rfl⟩) ?_
        rintro G n2 ⟨rfl, F, hF, rfl⟩
        refine sx_seq (M := fun G n2 => n2 = n' + 1 + 2 ∧ ∃ L2 : Int, (-(r.top + 2 * (i + 1)) ≤ L2 ∧ L2 ≤ r.top + 2 * (i + 1)) ∧ G = [some .pur, some (.fro (rowDt r)), some (.fro (.int most)), some (.own (fs.map PyData.int)), some (.fro (.int L2)), some (.fro x), some (.fro (.int F))]) (sx_asgI (k := 1 + 1) (evi_pick (k := 1) (l := 1) (L := 5) (A := fun z => -(r.top + 2 * (i + 1)) ≤ z ∧ z ≤ r.top + 2 * (i + 1))
          (eai_cons (k := 0) (l := 1) (A := fun z => -(r.top + 2 * (i + 1)) ≤ z ∧ z ≤ r.top + 2 * (i + 1)) (evi_ep (ep_op (ep_var rfl) ep_int (od_i (f := fun i j => i + j))) ⟨by omega, by omega⟩) fun z1 h1 => eai_cons (k := 1) (l := 0) (A := fun z => -(r.top + 2 * (i + 1)) ≤ z ∧ z ≤ r.top + 2 * (i + 1)) (evi_op (k := 1) (l := 0) (A := fun z => 0 ≤ z ∧ z < 25) (B := fun y => y = 12) (f := fun i j => i - j) (evi_toss1 rfl ep_int (by decide) (by omega)) (evi_ep ep_int rfl) fun x y hx hy => ⟨od_i, by omega, by omega⟩) fun z2 h2 =>
            eai_ea (zs := [F, F, L - 2]) (ea_cons (ep_var rfl) (ea_cons (ep_var rfl) (ea_cons (ep_op (ep_var rfl) ep_int (od_i (f := fun i j => i - j))) ea_nil))) ⟨rfl, fun z hz => ?_⟩)
          (evi_toss1 rfl ep_int (by decide) (by omega)) (by decide)) fun z hz => ⟨rfl, z, hz, rfl⟩) ?_
        · have hz : z = z1 ∨ z = z2 ∨ z = F ∨ z = F ∨ z = L - 2 := by simpa using hz
          rcases hz with q | q | q | q | q
          · rw [q]; exact h1
          · rw [q]; exact h2
          · rw [q]; exact ⟨by omega, by omega⟩
          · rw [q]; exact ⟨by omega, by omega⟩
          · rw [q]; exact ⟨by omega, by omega⟩
        rintro G n2 ⟨rfl, L2, hL2, rfl⟩
        refine sx_then (G1 := [some .pur, some (.fro (rowDt r)), some (.fro (.int most)), some (.own (fs.map PyData.int)), some (.fro (.int (max (0 - 10 ^ (29 : Int).toNat) (min (10 ^ (29 : Int).toNat) L2)))), some (.fro x), some (.fro (.int F))]) (sx_asg (ep_max2 (ep_op ep_int (ep_p10 (by decide)) od_i) (ep_min2 (ep_p10 (by decide)) (ep_var rfl))) ⟨rfl, rfl⟩) ?_
        rw [p29]
        generalize hL3 : max (0 - 100000000000000000000000000000) (min 100000000000000000000000000000 L2) = L3
        have b1 : -100000000000000000000000000000 ≤ L3 ∧ L3 ≤ 100000000000000000000000000000 := by omega
        have b2 : -(r.top + 2 * (i + 1)) ≤ L3 ∧ L3 ≤ r.top + 2 * (i + 1) := by omega
        have ea : (fs ++ [L3]).map PyData.int = fs.map PyData.int ++ [.int L3] := by rw [List.map_append]; rfl
        refine sx_app (xs := fs.map PyData.int) (d := .int L3) rfl (ep_var rfl) (by rw [List.length_map]; omega) ⟨by omega, hi, hl, fs ++ [L3], L3, some (.fro x), some (.fro (.int F)), by rw [List.length_append, cl]; rfl, ⟨by omega, by omega⟩, ?_, ?_, by rw [ea]; rfl⟩
        · intro s hs
          rcases List.mem_append.mp hs with h | h
          · exact h1 s h
          · rw [List.mem_singleton.mp h]; omega
        · intro s hs
          rcases List.mem_append.mp hs with h | h
          · exact h2 s h
          · rw [List.mem_singleton.mp h]; exact b1
      · rintro ds G n' ⟨e, il, hl, fs, L, a5, a6, cl, hL, h1, h2, rfl⟩
        exact ⟨by omega, fs, some (.fro (.int L)), a5, a6, ⟨by omega, h1, h2⟩, rfl⟩
    · rintro G n' ⟨hn, fs, a4, a5, a6, ⟨fl, h1, h2⟩, rfl⟩
      refine sx_ret (d := iD (sortU fs)) (ep_new (en_sortedSet (ns := fs) (ep_var rfl) (by omega))) ⟨hn, sortU fs, rfl, ⟨sortU_asc fs, ?_, fun s hs => h1 s ((sortU_mem fs s).mp hs), fun s hs => h2 s ((sortU_mem fs s).mp hs)⟩⟩
      have := sortU_len fs
      show ((sortU fs).length : Int) ≤ most
      omega
/-! ### _law_book -/
abbrev N__law_book : List Str := ["_law_purse_here", "_law_row_here_here", "_law_most", "_law_spot"]
theorem sc__law_book : FnScope N__law_book ["_law_purse_here", "_law_row_here_here", "_law_most"] (defScope s__law_book) := ⟨rfl, rfl, rfl, by decide +kernel, rfl, by decide +kernel, by decide +kernel⟩
abbrev sp__law_book : Sp := SpX (α := Row × Int) (fun x => RowP x.1 ∧ 0 ≤ x.2 ∧ x.2 ≤ 16) (fun x => [rowDt x.1, .int x.2]) (fun x d => ∃ ss, d = bkD (bookF x.1 ss) ∧ SpotP x.1 x.2 ss) 60
theorem cal__law_book {P : Program} {w : World} {K : PySem.W.Frag} {mg : Str → Option Value} {base : Heap} (T : Txt K mg) (NS : SeerP P base) : Cal P w K mg base 42 "_law_book" sp__law_book [] := by
  obtain ⟨fd, F⟩ := T.c.def_ 59 (d := d__law_book) rfl
  refine ⟨⟨_, fd, ["_law_purse_here", "_law_row_here_here", "_law_most"], [], ?_, T.glo 59, F.kp, F.bindsN (fun _ _ _ _ _ _ us hl => match us, hl with | [_, _, _], _ => rfl), .nil⟩⟩
  refine F.ok sc__law_book (fun vs H Q E h => len_ofX (α := Row × Int) (C := fun x => RowP x.1 ∧ 0 ≤ x.2 ∧ x.2 ≤ 16) (pre := fun x => [rowDt x.1, .int x.2]) (post := fun x d => ∃ ss, d = bkD (bookF x.1 ss) ∧ SpotP x.1 x.2 ss) (k := 60) (p := 2) (fun _ => rfl) vs H Q E h) (fun cdv A outer s H vs Q E hr h => ?_)
  refine ⟨_, PSs.nox (pss_one (ps_ret (pe_lc (own := [("_law_spot", 3)]) rfl sc__law_book.nd (piL (K := K) (pe_c (cal__law_spots T NS) hr (by decide) rfl (pa_cons (pv 0) (pa_cons (pv 1) (pa_cons (pv 2) pa_nil))))) (blkOk_by (N := N__law_book) (sc := defScope s__law_book) (by decide +kernel)) (fun _ _ _ _ _ => (pg_name (i := 3) sc__law_book.nd rfl (Or.inl rfl))) (fun _ _ _ _ _ => pts_nil) (fun _ _ _ _ _ => (pe_tup (pa_cons (pv 3) (pa_cons (pe_c (cal__law_at T) hr (by decide) rfl (pa_cons (pv 1) (pa_cons (pv 3) pa_nil))) pa_nil))))))), ?_⟩
  refine rd_ofX (α := Row × Int) (C := fun x => RowP x.1 ∧ 0 ≤ x.2 ∧ x.2 ≤ 16) (pre := fun x => [rowDt x.1, .int x.2]) (post := fun x d => ∃ ss, d = bkD (bookF x.1 ss) ∧ SpotP x.1 x.2 ss) (k := 60) (p := 2) (N := N__law_book) (fun _ => rfl) ?rd vs H Q E h
  case rd =>
    intro x n hx hk
    obtain ⟨r, most⟩ := x
    show Sx _ [some .pur, some (.fro (rowDt r)), some (.fro (.int most)), none] n _ _
    replace hx : RowP r ∧ 0 ≤ most ∧ most ≤ 16 := hx
    have hr := hx.1
    refine sx_retV (P := fun d n' => n' ≤ n + 60 ∧ ∃ ss, d = bkD (bookF r ss) ∧ SpotP r most ss) (ev_new (env_lc (PL := fun ds n' => n' = n + 60 ∧ ∃ ss, ds = ss.map PyData.int ∧ SpotP r most ss) (R := fun xs n' => n' = n + 60 ∧ ∃ ss, xs = (bookF r ss).map prD ∧ SpotP r most ss)
      (fun ds i acc n' => n' = n + 60 ∧ ∃ ss, ds = ss.map PyData.int ∧ SpotP r most ss ∧ acc = (bookF r (ss.take i)).map prD) (esv_list (P := fun d n' => n' = n + 60 ∧ ∃ ss, d = iD ss ∧ SpotP r most ss) (ev_callX0 (α := Row × Int) (r, most) rfl (ea_cons (ep_var rfl) (ea_cons (ep_var rfl) ea_nil)) rfl hx (by omega) fun d hd => ⟨rfl, hd⟩) fun d n' ⟨e, ss, e2, h⟩ => ⟨_, e2, e, ss, rfl, h⟩) ?_ ?_ ?_) fun xs n' ⟨e, ss, e2, h⟩ => ⟨by omega, ss, by rw [e2], h⟩) fun d n' h => h
    · rintro ds n' ⟨e, ss, rfl, h⟩
      have := h.len
      exact ⟨by rw [List.length_map]; omega, e, ss, rfl, h, rfl⟩
    · rintro ds i x acc n' hx2 hl ⟨e, ss, rfl, h, rfl⟩
      rw [List.getElem?_map] at hx2
      cases q : ss[i]? with
      | none => rw [q] at hx2; cases hx2
      | some s =>
        rw [q] at hx2
        cases hx2
        have hs : s ∈ ss := List.mem_of_getElem? q
        have hf := h.far s hs
        refine ⟨_, [3], tg_name, by decide, ev_ep (d := prD (s, atF r.own r.sh s)) (ep_tup (ea_cons (ep_var rfl) (ea_cons (ev__law_at (r := r) (spot := s) (ea_cons (ep_var rfl) (ea_cons (ep_var rfl) ea_nil)) ⟨hr.ok, sm_of 100000000000000000000000000000 ⟨by omega, by omega⟩ (by decide)⟩) ea_nil)) (by show 2 ≤ 100000; decide)) ⟨e, ss, rfl, h, ?_⟩⟩
        rw [show ss.take (i + 1) = ss.take i ++ [s] by rw [List.take_succ, q]; rfl]
        unfold bookF
        rw [List.map_append, List.map_append]
        rfl
    · rintro ds acc n' ⟨e, ss, rfl, h, rfl⟩
      exact ⟨e, ss, by rw [List.length_map, List.take_length], h⟩
end Kr
end
section
namespace Kr
open PySem L2
open Evl (Ex)
open C8 (Cal pe_c)
local macro_rules | `(tactic| walk_at "ev") => `(tactic| skip)
local macro_rules | `(tactic| walk_at "ev") => `(tactic| first
  | with_reducible exact ep_int
  | with_reducible exact ep_bl
  | with_reducible exact ep_non
  | with_reducible exact ea_nil
  | with_reducible exact et_yes
  | with_reducible exact eo_no
  | ((with_reducible apply ep_var); rfl)
  | (with_reducible apply ea_cons) <;> walk_at "ev"
  | (with_reducible apply ep_op) <;> walk_at "ev"
  | (with_reducible apply ep_un) <;> walk_at "ev"
  | (with_reducible apply ep_isi) <;> walk_at "ev"
  | ((with_reducible apply ep_lenV); rfl)
  | (with_reducible apply ep_len) <;> walk_at "ev"
  | (with_reducible apply ep_abs) <;> walk_at "ev"
  | (with_reducible apply ep_int1) <;> walk_at "ev"
  | (with_reducible apply ep_max2) <;> walk_at "ev"
  | (with_reducible apply ep_min2) <;> walk_at "ev"
  | (with_reducible apply et_test) <;> walk_at "ev"
  | (with_reducible apply et_B) <;> walk_at "ev"
  | (with_reducible apply et_not) <;> walk_at "ev"
  | (with_reducible apply ep_notV) <;> walk_at "ev"
  | (with_reducible apply ep_tup) <;> walk_at "ev"
  | (with_reducible apply eo_part) <;> walk_at "ev"
  | with_reducible exact od_i
  | with_reducible exact od_b
  | with_reducible exact od_eqI
  | with_reducible exact od_neI
  | with_reducible exact od_isN
  | with_reducible exact od_notN
  | with_reducible exact od_notB
  | with_reducible apply od_c
  | with_reducible exact od_ixT0
  | with_reducible exact od_ixT1
  | with_reducible exact od_ixL0
  | with_reducible exact od_ixL1
  | with_reducible exact od_ixL2
  | with_reducible apply od_ixL
  | with_reducible apply od_ixT
  | with_reducible exact ud_neg
  | (with_reducible refine' et_or ?_ (fun _ => ?_)) <;> walk_at "ev"
  | (with_reducible refine' et_and ?_ (fun _ => ?_)) <;> walk_at "ev"
  | (with_reducible refine' ep_orV ?_ (fun _ => ?_)) <;> walk_at "ev"
  | (with_reducible refine' ep_andV ?_ (fun _ => ?_)) <;> walk_at "ev"
  | (with_reducible refine' ep_chain ?_ ?_ ?_ (fun _ => ?_) (fun _ => ?_)) <;> walk_at "ev"
  | exact isi_int
  | exact isi_intb
  | exact isi_lst
  | exact isi_tup
  | exact Nat.le_of_ble_eq_true rfl)
local macro_rules | `(tactic| walk_at "ev") => `(tactic| (with_reducible apply ev_divisor_of) <;> walk_at "ev")
local macro_rules | `(tactic| walk_at "ev") => `(tactic| (with_reducible apply ev_multiple_of) <;> walk_at "ev")
local macro_rules | `(tactic| walk_at "ev") => `(tactic| (with_reducible apply ev_divides) <;> walk_at "ev")
local macro_rules | `(tactic| walk_at "ev") => `(tactic| (with_reducible apply ev_do_fit) <;> walk_at "ev")
local macro_rules | `(tactic| walk_at "ev") => `(tactic| (with_reducible apply ev_conflicts_in) <;> walk_at "ev")
local macro_rules | `(tactic| walk_at "ev") => `(tactic| (with_reducible apply ev_is_integer) <;> walk_at "ev")
local macro_rules | `(tactic| walk_at "ev") => `(tactic| (with_reducible apply ev_is_told) <;> walk_at "ev")
local macro_rules | `(tactic| walk_at "ev") => `(tactic| (with_reducible apply ev_is_item) <;> walk_at "ev")
local macro_rules | `(tactic| walk_at "ev") => `(tactic| (with_reducible apply ev_is_book) <;> walk_at "ev")
local macro_rules | `(tactic| walk_at "ev") => `(tactic| (with_reducible apply ev_need_book) <;> walk_at "ev")
local macro_rules | `(tactic| walk_at "ev") => `(tactic| (with_reducible apply ev_conflict_in) <;> walk_at "ev")
local macro_rules | `(tactic| walk_at "ev") => `(tactic| (with_reducible apply ev_need_fitting) <;> walk_at "ev")
local macro_rules | `(tactic| walk_at "ev") => `(tactic| (with_reducible apply ev_need_possible) <;> walk_at "ev")
local macro_rules | `(tactic| walk_at "ev") => `(tactic| (with_reducible apply ev_conflict_of) <;> walk_at "ev")
local macro_rules | `(tactic| walk_at "ev") => `(tactic| (with_reducible apply ev_all_conflicts) <;> walk_at "ev")
local macro_rules | `(tactic| walk_at "ev") => `(tactic| (with_reducible apply ev_need_modulus1) <;> walk_at "ev")
local macro_rules | `(tactic| walk_at "ev") => `(tactic| (with_reducible apply ev_need_modulus2) <;> walk_at "ev")
local macro_rules | `(tactic| walk_at "ev") => `(tactic| (with_reducible apply ev_inverse_of) <;> walk_at "ev")
local macro_rules | `(tactic| walk_at "ev") => `(tactic| (with_reducible apply ev_met) <;> walk_at "ev")
local macro_rules | `(tactic| walk_at "ev") => `(tactic| (with_reducible apply ev_class_by) <;> walk_at "ev")
local macro_rules | `(tactic| walk_at "ev") => `(tactic| (with_reducible apply ev_class_at) <;> walk_at "ev")
local macro_rules | `(tactic| walk_at "ev") => `(tactic| (with_reducible apply ev_can_have) <;> walk_at "ev")
local macro_rules | `(tactic| walk_at "ev") => `(tactic| (with_reducible apply ev_far_in) <;> walk_at "ev")
local macro_rules | `(tactic| walk_at "ev") => `(tactic| (with_reducible apply ev_need_sure) <;> walk_at "ev")
local macro_rules | `(tactic| walk_at "ev") => `(tactic| (with_reducible apply ev_reason_for) <;> walk_at "ev")
local macro_rules | `(tactic| walk_at "ev") => `(tactic| (with_reducible apply ev_are_indices) <;> walk_at "ev")
local macro_rules | `(tactic| walk_at "ev") => `(tactic| (with_reducible apply ev_shows_reason) <;> walk_at "ev")
local macro_rules | `(tactic| walk_at "ev") => `(tactic| (with_reducible apply ev_need_places) <;> walk_at "ev")
local macro_rules | `(tactic| walk_at "ev") => `(tactic| (with_reducible apply ev_need_open) <;> walk_at "ev")
local macro_rules | `(tactic| walk_at "ev") => `(tactic| (with_reducible apply ev_steps_in) <;> walk_at "ev")
local macro_rules | `(tactic| walk_at "ev") => `(tactic| (with_reducible apply ev_size_in) <;> walk_at "ev")
local macro_rules | `(tactic| walk_at "ev") => `(tactic| (with_reducible apply ev_count_in) <;> walk_at "ev")
local macro_rules | `(tactic| walk_at "ev") => `(tactic| (with_reducible apply ev_need_size) <;> walk_at "ev")
local macro_rules | `(tactic| walk_at "ev") => `(tactic| (with_reducible apply ev_step_list) <;> walk_at "ev")
local macro_rules | `(tactic| walk_at "ev") => `(tactic| (with_reducible apply ev_common_size) <;> walk_at "ev")
local macro_rules | `(tactic| walk_at "ev") => `(tactic| (with_reducible apply ev_count_fillings) <;> walk_at "ev")
local macro_rules | `(tactic| walk_at "ev") => `(tactic| (with_reducible apply ev_nth_filling) <;> walk_at "ev")
local macro_rules | `(tactic| walk_at "ev") => `(tactic| (with_reducible apply ev_index_in) <;> walk_at "ev")
local macro_rules | `(tactic| walk_at "ev") => `(tactic| (with_reducible apply ev_filling_index) <;> walk_at "ev")
local macro_rules | `(tactic| walk_at "ev") => `(tactic| (with_reducible apply ev_vectors_in) <;> walk_at "ev")
local macro_rules | `(tactic| walk_at "ev") => `(tactic| (with_reducible apply ev_summed) <;> walk_at "ev")
local macro_rules | `(tactic| walk_at "ev") => `(tactic| (with_reducible apply ev_need_weights) <;> walk_at "ev")
local macro_rules | `(tactic| walk_at "ev") => `(tactic| (with_reducible apply ev_sure_sum) <;> walk_at "ev")
local macro_rules | `(tactic| walk_at "ev") => `(tactic| (with_reducible apply ev_need_asked2) <;> walk_at "ev")
local macro_rules | `(tactic| walk_at "ev") => `(tactic| (with_reducible apply ev_need_asked3) <;> walk_at "ev")
local macro_rules | `(tactic| walk_at "ev") => `(tactic| (with_reducible apply ev_prime_powers) <;> walk_at "ev")
local macro_rules | `(tactic| walk_at "ev") => `(tactic| (with_reducible apply ev_lacking_in) <;> walk_at "ev")
local macro_rules | `(tactic| walk_at "ev") => `(tactic| (with_reducible apply ev_most_lacking) <;> walk_at "ev")
local macro_rules | `(tactic| walk_at "ev") => `(tactic| (with_reducible apply ev_first_lacking) <;> walk_at "ev")
local macro_rules | `(tactic| walk_at "ev") => `(tactic| (with_reducible apply ev_sure_table) <;> walk_at "ev")
local macro_rules | `(tactic| walk_at "ev") => `(tactic| (with_reducible apply ev_fewest_more) <;> walk_at "ev")
local macro_rules | `(tactic| walk_at "ev") => `(tactic| (with_reducible apply ev_are_questions) <;> walk_at "ev")
local macro_rules | `(tactic| walk_at "ev") => `(tactic| (with_reducible apply ev_shows_questions) <;> walk_at "ev")
local macro_rules | `(tactic| walk_at "ev") => `(tactic| (with_reducible apply ev_questions) <;> walk_at "ev")
local macro_rules | `(tactic| walk_at "ev") => `(tactic| (with_reducible apply ev__law_divisor) <;> walk_at "ev")
local macro_rules | `(tactic| walk_at "ev") => `(tactic| (with_reducible apply ev__law_multiple) <;> walk_at "ev")
local macro_rules | `(tactic| walk_at "ev") => `(tactic| (with_reducible apply ev__law_at) <;> walk_at "ev")
local macro_rules | `(tactic| walk_at "ev") => `(tactic| (with_reducible apply ev__law_moved) <;> walk_at "ev")

theorem evi_pickD {tl tb : TE} {G : Gm} {n l : Nat} {A : Int → Prop} {K : PySem.W.Frag} {zs : List Int} (h1 : Ep tl G (iD zs)) (h2 : EvI tb G n l fun r => 0 ≤ r ∧ r < (zs.length : Int)) (hA : ∀ z ∈ zs, A z) : EvI (tOp (rIxL K) tl tb) G n l A := by
  refine ev_op (P1 := fun d n1 => n1 = n ∧ d = iD zs) (P2 := fun d e n2 => n2 = n + l ∧ d = iD zs ∧ ∃ r : Int, e = .int r ∧ 0 ≤ r ∧ r < (zs.length : Int)) (ev_ep h1 ⟨rfl, rfl⟩) (fun d n1 ⟨e1, ed⟩ => ?_) fun d e n2 ⟨en, ed, r, ee, r0, r1⟩ => ?_
  · subst e1
    exact ev_mono h2 fun e n2 ⟨e2, r, er, hr⟩ => ⟨e2, ed, r, er, hr⟩
  · subst ed ee
    obtain ⟨m, rfl⟩ : ∃ m : Nat, r = (m : Int) := ⟨r.toNat, by omega⟩
    have hl : m < zs.length := by omega
    refine ⟨.int zs[m], od_ixL ?_, en, _, rfl, hA _ (List.getElem_mem hl)⟩
    refine atI_nat ?_
    rw [List.getElem?_map, List.getElem?_eq_getElem hl]
    rfl
theorem p28 : (10 : Int) ^ (28 : Int).toNat = 10000000000000000000000000000 := by decide
theorem p30 : (10 : Int) ^ (30 : Int).toNat = 1000000000000000000000000000000 := by decide
/-- the same places, other values -/
structure BentP (b bs : List (Int × Int)) : Prop where
  fs : bs.map (·.1) = b.map (·.1)
  rg : ∀ q ∈ bs, -1000000000000000000000000000000 ≤ q.2 ∧ q.2 ≤ 1000000000000000000000000000000
theorem BentP.bk {b bs : List (Int × Int)} (h : BentP b bs) (hb : Bk b) : Bk bs where
  len := by
    have := congrArg List.length h.fs
    rw [List.length_map, List.length_map] at this
    rw [this]
    exact hb.len
  rng := fun q hq => by
    refine ⟨?_, h.rg q hq⟩
    have : q.1 ∈ bs.map (·.1) := List.mem_map.mpr ⟨q, hq, rfl⟩
    rw [h.fs] at this
    obtain ⟨p, hp, e⟩ := List.mem_map.mp this
    rw [← e]
    exact (hb.rng p hp).1
  asc := by
    have h1 : (b.map (·.1)).Pairwise (· < ·) := List.pairwise_map.mpr hb.asc
    rw [← h.fs] at h1
    exact List.pairwise_map.mp h1

/-! ### _law_bent -/
abbrev N__law_bent : List Str := ["_law_purse_here", "_law_book_here", "_law_found", "_law_turn", "_law_k", "_law_more"]
theorem sc__law_bent : FnScope N__law_bent ["_law_purse_here", "_law_book_here"] (defScope s__law_bent) := ⟨rfl, rfl, rfl, by decide +kernel, rfl, by decide +kernel, by decide +kernel⟩
abbrev sp__law_bent : Sp := SpX (α := List (Int × Int)) (fun b => Bk b) (fun b => [bkD b]) (fun b d => ∃ bs, d = bkD bs ∧ BentP b bs) 20
theorem cal__law_bent {P : Program} {w : World} {K : PySem.W.Frag} {mg : Str → Option Value} {base : Heap} (T : Txt K mg) (NS : SeerP P base) : Cal P w K mg base 41 "_law_bent" sp__law_bent [] := by
  obtain ⟨fd, F⟩ := T.c.def_ 60 (d := d__law_bent) rfl
  refine ⟨⟨_, fd, ["_law_purse_here", "_law_book_here"], [], ?_, T.glo 60, F.kp, F.bindsN (fun _ _ _ _ _ _ us hl => match us, hl with | [_, _], _ => rfl), .nil⟩⟩
  refine F.ok sc__law_bent (fun vs H Q E h => len_ofX (α := List (Int × Int)) (C := fun b => Bk b) (pre := fun b => [bkD b]) (post := fun b d => ∃ bs, d = bkD bs ∧ BentP b bs) (k := 20) (p := 1) (fun _ => rfl) vs H Q E h) (fun cdv A outer s H vs Q E hr h => ?_)
  refine ⟨_, PSs.nox (pss_cons (ps_set (i := 2) sc__law_bent.nd rfl (Or.inl rfl) (pe_callTy (lstK (K := K)) rfl (free_list T) bb_list (pa_cons (pv 1) pa_nil)))
      (pss_cons (ps_for PassesOwn.never rfl (pi_range1 rfl (free_range T) (pa_cons (pe_op op_add pe_int (pe_c (cal__law_toss T NS) hr (by decide) rfl (pa_cons (pv 0) (pa_cons pe_int pa_nil)))) pa_nil)) (pg_name (i := 3) sc__law_bent.nd rfl (Or.inl rfl)) (pss_one (ps_if (pt_cmpR (neK (K := K) hr.units) (pv 2) (pe_lst pa_nil) (nomark _)) (pss_cons (ps_set (i := 4) sc__law_bent.nd rfl (Or.inl rfl) (pe_c (cal__law_toss T NS) hr (by decide) rfl (pa_cons (pv 0) (pa_cons (pe_callB (lenK (K := K)) rfl (free_len T) bb_len (pa_cons (pv 2) pa_nil)) pa_nil))))
      (pss_cons (ps_set (i := 5) sc__law_bent.nd rfl (Or.inl rfl) (pe_ix (ixL (K := K)) (pe_lst (pa_cons pe_int (pa_cons (pe_un un_neg pe_int) (pa_cons pe_int (pa_cons pe_int (pa_cons pe_int (pa_cons (pe_c (cal__law_toss T NS) hr (by decide) rfl (pa_cons (pv 0) (pa_cons pe_int pa_nil))) (pa_cons (pe_op op_pow pe_int pe_int) (pa_cons (pe_op op_sub pe_int (pe_op op_pow pe_int pe_int)) pa_nil))))))))) (pe_c (cal__law_toss T NS) hr (by decide) rfl (pa_cons (pv 0) (pa_cons pe_int pa_nil))) (fun _ _ => rfl)))
      (pss_one (ps_asg (pe_tup (pa_cons (pe_ix (ixT (K := K)) (pe_ix (ixL (K := K)) (pv 2) (pv 4) (fun _ _ => rfl)) pe_int (fun _ _ => rfl)) (pa_cons (pe_callB (k_max2 rfl) rfl (free_max T) bb_max (pa_cons (pe_op op_sub pe_int (pe_op op_pow pe_int pe_int)) (pa_cons (pe_callB (k_min2 rfl) rfl (free_min T) bb_min (pa_cons (pe_op op_pow pe_int pe_int) (pa_cons (pe_op op_add (pe_ix (ixT (K := K)) (pe_ix (ixL (K := K)) (pv 2) (pv 4) (fun _ _ => rfl)) pe_int (fun _ _ => rfl)) (pv 5)) pa_nil))) pa_nil))) pa_nil))) (pg_sub (pv 2) (pv 4) set_list))))) pss_nil)))
      (pss_one (ps_ret (pv 2))))), ?_⟩
  refine rd_ofX (α := List (Int × Int)) (C := fun b => Bk b) (pre := fun b => [bkD b]) (post := fun b d => ∃ bs, d = bkD bs ∧ BentP b bs) (k := 20) (p := 1) (N := N__law_bent) (fun _ => rfl) ?rd vs H Q E h
  case rd =>
    intro b n hb hk
    show Sx _ [some .pur, some (.fro (bkD b)), none, none, none, none] n _ _
    replace hb : Bk b := hb
    have hbl := hb.len
    refine sx_then (G1 := [some .pur, some (.fro (bkD b)), some (.own (b.map prD)), none, none, none]) (sx_new (xs := b.map prD) (en_cb (ea_cons (ep_var rfl) ea_nil) cn_list) ⟨rfl, rfl⟩) ?_
    refine sx_seq (M := fun G n' => n' ≤ n + 20 ∧ ∃ (bs : List (Int × Int)) (a3 a4 a5 : Option B), BentP b bs ∧ G = [some .pur, some (.fro (bkD b)), some (.own (bs.map prD)), a3, a4, a5]) ?_ ?_
    · refine sx_forV (PL := fun ds n' => n' = n + 1 ∧ (ds.length : Int) ≤ 3) (fun ds i G n' => n' ≤ n + 1 + 3 * i ∧ i ≤ ds.length ∧ (ds.length : Int) ≤ 3 ∧ ∃ (bs : List (Int × Int)) (a3 a4 a5 : Option B), BentP b bs ∧ G = [some .pur, some (.fro (bkD b)), some (.own (bs.map prD)), a3, a4, a5]) ?_ (fun ds n' ⟨e, hl⟩ => ⟨by omega, Nat.zero_le _, hl, b, none, none, none, ⟨rfl, fun q hq => (hb.rng q hq).2⟩, rfl⟩) ?_ ?_
      · have hsrc := esv_rngI (te := _) (n := n) (k := 1) (A := fun z => 0 ≤ z ∧ z ≤ 3) (G := [some .pur, some (.fro (bkD b)), some (.own (b.map prD)), none, none, none]) (evi_op (k := 0) (l := 1) (A := fun x => x = 1) (f := fun i j => i + j) (r := rI0 fun i j => .int (i + j)) (evi_ep ep_int rfl) (evi_toss1 (i := 0) (m := 3) rfl ep_int (by decide) (by omega)) fun x y hx hy => ⟨od_i, by omega, by omega⟩) fun z hz => ⟨hz.1, by omega⟩
        exact fun pu W0 H0 σ W H S R q => hsrc pu W0 H0 σ W H S R fun J ds n' W' H' ⟨e, z, hz, hl⟩ => q J ds n' W' H' ⟨by omega, by omega⟩
      · rintro ds i x G n' hx ⟨e, il, hl, bs, a3, a4, a5, hP, rfl⟩
        have hi : i < ds.length := (List.getElem?_eq_some_iff.mp hx).1
        have bsl : bs.length = b.length := by
          have := congrArg List.length hP.fs
          rw [List.length_map, List.length_map] at this
          exact this
        refine ⟨_, _, tg_name, ?_⟩
        show Sx _ [some .pur, some (.fro (bkD b)), some (.own (bs.map prD)), some (.fro x), a4, a5] _ _ _
        refine sx_if (b := !PyData.eqv (bkD bs) (.list [])) ?_ (fun hz => ?_) (fun hz => ?_)
        · show Et _ [some .pur, some (.fro (bkD b)), some (.fro (bkD bs)), some (.fro x), _, _] _
          exact et_test (ep_op (ep_var rfl) (ep_new (en_lst ea_nil (by decide))) (od_neD (sh_bkD bs) (sh_bkD [])))
        · have hz : bs ≠ [] := by
            intro z
            rw [z, show PyData.list [] = bkD [] from rfl, eqv_bkD] at hz
            simp at hz
          have hpos : 0 < bs.length := List.length_pos_iff.mpr hz
          refine sx_seq (M := fun G n2 => n2 = n' + 1 ∧ ∃ k : Nat, k < bs.length ∧ G = [some .pur, some (.fro (bkD b)), some (.own (bs.map prD)), some (.fro x), some (.fro (.int (k : Int))), a5]) (sx_asgI (k := 1) (evi_toss1 (m := (bs.length : Int)) rfl (ep_fz ?_ rfl) (by omega) (by omega)) fun z hz => ⟨rfl, z.toNat, by omega, by rw [show ((z.toNat : Nat) : Int) = z by omega]; rfl⟩) ?_
          · show Ep _ [some .pur, some (.fro (bkD b)), some (.fro (bkD bs)), some (.fro x), _, _] _
            rw [show (bs.length : Int) = ((bs.map prD).length : Int) by rw [List.length_map]]
            exact ep_len (ep_var rfl)
          rintro G n2 ⟨rfl, k, hk2, rfl⟩
          refine sx_seq (M := fun G n2 => n2 = n' + 1 + 2 ∧ ∃ m : Int, G = [some .pur, some (.fro (bkD b)), some (.own (bs.map prD)), some (.fro x), some (.fro (.int (k : Int))), some (.fro (.int m))]) (sx_asgI (k := 1 + 1) (evi_pick (k := 1) (l := 1) (L := 8) (A := fun _ => True)
            (eai_cons (k := 0) (l := 1) (A := fun _ => True) (evi_ep ep_int True.intro) fun z1 _ => eai_cons (k := 0) (l := 1) (A := fun _ => True) (evi_ep (ep_un ep_int ud_neg) True.intro) fun z2 _ => eai_cons (k := 0) (l := 1) (A := fun _ => True) (evi_ep ep_int True.intro) fun z3 _ => eai_cons (k := 0) (l := 1) (A := fun _ => True) (evi_ep ep_int True.intro) fun z4 _ => eai_cons (k := 0) (l := 1) (A := fun _ => True) (evi_ep ep_int True.intro) fun z5 _ =>
              eai_cons (k := 1) (l := 0) (A := fun _ => True) (evi_mono (evi_toss1 (m := 99) rfl ep_int (by decide) (by omega)) fun _ _ => True.intro) fun z6 _ => eai_ea (zs := [10 ^ (28 : Int).toNat, 0 - 10 ^ (28 : Int).toNat]) (ea_cons (ep_p10 (by decide)) (ea_cons (ep_op ep_int (ep_p10 (by decide)) (od_i (f := fun i j => i - j))) ea_nil)) ⟨rfl, fun _ _ => True.intro⟩)
            (evi_toss1 (m := 8) rfl ep_int (by decide) (by omega)) (by decide)) fun z hz => ⟨rfl, z, rfl⟩) ?_
          rintro G n2 ⟨rfl, m, rfl⟩
          have hat : atI (bs.map prD) ((k : Nat) : Int) = some (prD (bs.getD k (0, 0))) := bk_at hk2
          generalize bs.getD k (0, 0) = p at hat
          have eP : Ep (tOp (rIxL K) (tVar 2) (tVar 4)) (frz [some .pur, some (.fro (bkD b)), some (.own (bs.map prD)), some (.fro x), some (.fro (.int (k : Int))), some (.fro (.int m))]) (prD p) := ep_op (ep_var (d := .list (bs.map prD)) rfl) (ep_var rfl) (od_ixL hat)
          generalize hv : max (0 - 10 ^ (30 : Int).toNat) (min (10 ^ (30 : Int).toNat) (p.2 + m)) = v
          have hv2 : -1000000000000000000000000000000 ≤ v ∧ v ≤ 1000000000000000000000000000000 := by
            rw [← hv, p30]
            omega
          have em : (bs.map prD).set k (prD (p.1, v)) = (bs.set k (p.1, v)).map prD := by rw [List.map_set]
          refine sx_put (xs := bs.map prD) (j := k) (d := prD (p.1, v)) rfl ?_ (ep_var rfl) (by rw [List.length_map]; exact hk2) ⟨by omega, hi, hl, bs.set k (p.1, v), some (.fro x), _, _, ⟨?_, ?_⟩, by rw [← em]; rfl⟩
          · refine ep_tup (ea_cons (ep_fz (ep_op eP ep_int od_ixT0) rfl) (ea_cons ?_ ea_nil)) (by show 2 ≤ 100000; decide)
            rw [← hv]
            exact ep_max2 (ep_op ep_int (ep_p10 (by decide)) od_i) (ep_min2 (ep_p10 (by decide)) (ep_fz (ep_op (ep_op eP ep_int od_ixT1) (ep_var rfl) (od_i (f := fun i j => i + j))) rfl))
          · have hg : bs[k]? = some p := by
              have h2 : atI (bs.map prD) ((k : Nat) : Int) = (bs.map prD)[k]? := by
                have h3 := atI_nat (xs := bs.map prD) (j := k) (v := prD bs[k]) (by rw [List.getElem?_map, List.getElem?_eq_getElem hk2]; rfl)
                rw [h3, List.getElem?_map, List.getElem?_eq_getElem hk2]
                rfl
              rw [h2, List.getElem?_map, List.getElem?_eq_getElem hk2] at hat
              have e4 : prD bs[k] = prD p := Option.some.inj hat
              have e5 : bs[k] = p := by
                have e6 : PyData.tuple [.int bs[k].1, .int bs[k].2] = PyData.tuple [.int p.1, .int p.2] := e4
                injection e6 with e7
                injection e7 with e8 e9
                injection e8 with e8
                injection e9 with e9 _
                injection e9 with e9
                exact Prod.ext e8 e9
              rw [List.getElem?_eq_getElem hk2, e5]
            rw [← hP.fs, List.map_set]
            refine List.ext_getElem? fun j => ?_
            by_cases hj : k = j
            · subst hj
              rw [List.getElem?_set_self (by rw [List.length_map]; exact hk2), List.getElem?_map, hg]
              rfl
            · rw [List.getElem?_set_ne hj]
          · intro q hq
            rcases List.mem_or_eq_of_mem_set hq with h | h
            · exact hP.rg q h
            · rw [h]; exact hv2
        · exact sx_next ⟨by omega, hi, hl, bs, some (.fro x), a4, a5, hP, rfl⟩
      · rintro ds G n' ⟨e, il, hl, bs, a3, a4, a5, hP, rfl⟩
        exact ⟨by omega, bs, a3, a4, a5, hP, rfl⟩
    · rintro G n' ⟨hn, bs, a3, a4, a5, hP, rfl⟩
      exact sx_ret (d := bkD bs) (ep_var rfl) ⟨hn, bs, rfl, hP⟩
theorem ep_maxN {te : TE} {G : Gm} {zs : List Int} {K : PySem.W.Frag} (h : Ep te G (iD zs)) (hz : zs ≠ []) : Ep (tCB (rMax K) (tCons te tNil)) G (.int (maxL zs)) := by
  cases zs with
  | nil => exact absurd rfl hz
  | cons a l => exact ep_cb (ea_cons h ea_nil) (cd_max a l)
theorem maxN_mem {zs : List Int} (hz : zs ≠ []) : maxL zs ∈ zs ∧ ∀ z ∈ zs, z ≤ maxL zs := by
  cases zs with
  | nil => exact absurd rfl hz
  | cons a l => exact ⟨maxL_mem a l, maxL_ge a l⟩

/-! ### _law_new -/
abbrev N__law_new : List Str := ["_law_purse_here", "_law_book_here", "_law_row_here_here", "_law_most", "_law_told", "_law_found", "_law_turn", "_law_far", "_law_beside", "_law_spot", "_law_row_here"]
theorem sc__law_new : FnScope N__law_new ["_law_purse_here", "_law_book_here", "_law_row_here_here", "_law_most"] (defScope s__law_new) := ⟨rfl, rfl, rfl, by decide +kernel, rfl, by decide +kernel, by decide +kernel⟩
abbrev sp__law_new : Sp := SpX (α := (List (Int × Int)) × Row × Int) (fun x => (x.1.length ≤ 16 ∧ (fsts x.1).Nodup ∧ ∀ s ∈ fsts x.1, -100000000000000000000000000000 ≤ s ∧ s ≤ 100000000000000000000000000000) ∧ RowP x.2.1 ∧ 1 ≤ x.2.2 ∧ x.2.2 ≤ 4) (fun x => [bkD x.1, rowDt x.2.1, .int x.2.2]) (fun x d => ∃ ps, d = iD ps ∧ NewP x.1 x.2.2 ps) 20
theorem cal__law_new {P : Program} {w : World} {K : PySem.W.Frag} {mg : Str → Option Value} {base : Heap} (T : Txt K mg) (NS : SeerP P base) : Cal P w K mg base 41 "_law_new" sp__law_new [] := by
  obtain ⟨fd, F⟩ := T.c.def_ 62 (d := d__law_new) rfl
  refine ⟨⟨_, fd, ["_law_purse_here", "_law_book_here", "_law_row_here_here", "_law_most"], [], ?_, T.glo 62, F.kp, F.bindsN (fun _ _ _ _ _ _ us hl => match us, hl with | [_, _, _, _], _ => rfl), .nil⟩⟩
  refine F.ok sc__law_new (fun vs H Q E h => len_ofX (α := (List (Int × Int)) × Row × Int) (C := fun x => (x.1.length ≤ 16 ∧ (fsts x.1).Nodup ∧ ∀ s ∈ fsts x.1, -100000000000000000000000000000 ≤ s ∧ s ≤ 100000000000000000000000000000) ∧ RowP x.2.1 ∧ 1 ≤ x.2.2 ∧ x.2.2 ≤ 4) (pre := fun x => [bkD x.1, rowDt x.2.1, .int x.2.2]) (post := fun x d => ∃ ps, d = iD ps ∧ NewP x.1 x.2.2 ps) (k := 20) (p := 3) (fun _ => rfl) vs H Q E h) (fun cdv A outer s H vs Q E hr h => ?_)
  refine ⟨_, PSs.nox (pss_cons (ps_par (i := 4) (j := 5) rfl sc__law_new.nd rfl rfl (by decide) rfl rfl (pa_cons (pe_lc (own := [("_law_row_here", 10)]) rfl sc__law_new.nd (piL (K := K) (pv 1)) (blkOk_by (N := N__law_new) (sc := defScope s__law_new) (by decide +kernel)) (fun _ _ _ _ _ => (pg_name (i := 10) sc__law_new.nd rfl (Or.inl rfl))) (fun _ _ _ _ _ => pts_nil) (fun _ _ _ _ _ => (pe_ix (ixT (K := K)) (pv 10) pe_int (fun _ _ => rfl)))) (pa_cons (pe_lst pa_nil) pa_nil)) rfl)
      (pss_cons (ps_for PassesOwn.never rfl (pi_range1 rfl (free_range T) (pa_cons (pe_op op_add pe_int (pe_c (cal__law_toss T NS) hr (by decide) rfl (pa_cons (pv 0) (pa_cons (pv 3) pa_nil)))) pa_nil)) (pg_name (i := 6) sc__law_new.nd rfl (Or.inl rfl)) (pss_cons (ps_set (i := 7) sc__law_new.nd rfl (Or.inl rfl) (pe_op op_sub (pe_c (cal__law_toss T NS) hr (by decide) rfl (pa_cons (pv 0) (pa_cons (pe_op op_add (pe_op op_mulW pe_int (pe_ix (ixL (K := K)) (pv 2) pe_int (fun _ _ => rfl))) pe_int) pa_nil))) (pe_ix (ixL (K := K)) (pv 2) pe_int (fun _ _ => rfl))))
      (pss_cons (ps_set (i := 8) sc__law_new.nd rfl (Or.inl rfl) (pe_op op_add (pe_ix (ixL (K := K)) (pe_op op_cat (pv 4) (pe_lst (pa_cons pe_int pa_nil))) (pe_c (cal__law_toss T NS) hr (by decide) rfl (pa_cons (pv 0) (pa_cons (pe_op op_add (pe_callB (lenK (K := K)) rfl (free_len T) bb_len (pa_cons (pv 4) pa_nil)) pe_int) pa_nil))) (fun _ _ => rfl)) pe_int))
      (pss_cons (ps_set (i := 9) sc__law_new.nd rfl (Or.inl rfl) (pe_ix (ixL (K := K)) (pe_lst (pa_cons (pe_op op_sub (pe_c (cal__law_toss T NS) hr (by decide) rfl (pa_cons (pv 0) (pa_cons pe_int pa_nil))) pe_int) (pa_cons (pv 7) (pa_cons (pv 7) (pa_cons (pv 8) pa_nil))))) (pe_c (cal__law_toss T NS) hr (by decide) rfl (pa_cons (pv 0) (pa_cons pe_int pa_nil))) (fun _ _ => rfl)))
      (pss_one (ps_if (PW.pt (pw_and (pt_cmpR (ninK (K := K)) (pv 9) (pv 4) rfl) (pw_and1 (pt_cmpR (ninK (K := K)) (pv 9) (pv 5) rfl)))) (pss_one (ps_expr (pe_bm PySem.F.plainAttrs_list PySem.F.slot_list_append PySem.F.type_list_append mt_append (pv 5) (pa_cons (pv 9) pa_nil)))) pss_nil))))))
      (pss_one (ps_ret (pe_ifExp (pt_cmpR (neK (K := K) hr.units) (pv 5) (pe_lst pa_nil) (nomark _)) (pv 5) (pe_lst (pa_cons (pe_op op_add (pe_callB (maxK (K := K) rfl) rfl (free_max T) bb_max (pa_cons (pe_op op_cat (pv 4) (pe_lst (pa_cons pe_int pa_nil))) pa_nil)) pe_int) pa_nil))))))), ?_⟩
  refine rd_ofX (α := (List (Int × Int)) × Row × Int) (C := fun x => (x.1.length ≤ 16 ∧ (fsts x.1).Nodup ∧ ∀ s ∈ fsts x.1, -100000000000000000000000000000 ≤ s ∧ s ≤ 100000000000000000000000000000) ∧ RowP x.2.1 ∧ 1 ≤ x.2.2 ∧ x.2.2 ≤ 4) (pre := fun x => [bkD x.1, rowDt x.2.1, .int x.2.2]) (post := fun x d => ∃ ps, d = iD ps ∧ NewP x.1 x.2.2 ps) (k := 20) (p := 3) (N := N__law_new) (fun _ => rfl) ?rd vs H Q E h
  case rd =>
    intro x n hx hk
    obtain ⟨b, r, most⟩ := x
    show Sx _ [some .pur, some (.fro (bkD b)), some (.fro (rowDt r)), some (.fro (.int most)), none, none, none, none, none, none, none] n _ _
    replace hx : (b.length ≤ 16 ∧ (fsts b).Nodup ∧ ∀ s ∈ fsts b, -100000000000000000000000000000 ≤ s ∧ s ≤ 100000000000000000000000000000) ∧ RowP r ∧ 1 ≤ most ∧ most ≤ 4 := hx
    obtain ⟨⟨bl, nd, bt⟩, hr, m1, m4⟩ := hx
    have rc := hr.reach
    have tl : (fsts b).length = b.length := List.length_map _
    refine sx_then (G1 := [some .pur, some (.fro (bkD b)), some (.fro (rowDt r)), some (.fro (.int most)), some (.fro (iD (fsts b))), some (.own []), none, none, none, none, none]) (sx_par2N2 (a := iD (fsts b)) (xs := []) (ep_new ?_) (en_lst ea_nil (by decide)) ⟨rfl, rfl⟩) ?_
    · rw [fst_map]
      exact en_m1 b prD (fun q => .int q.1) (es_list (ep_var rfl)) (fun q hq => ep_op (ep_var rfl) ep_int od_ixT0) (by omega)
    have eT0 : ∀ G : Gm, G[4]? = some (some (.fro (iD (fsts b)))) → Ep (tOp rCat (tVar 4) (tLst (tCons (tC (.int 0)) tNil))) G (iD (fsts b ++ [0])) := fun G h => by
      rw [iD_app]
      exact ep_new (en_op (ep_var h) (ep_new (en_lst (ea_cons ep_int ea_nil) (by decide))) (on_cat (by rw [List.length_map, tl]; show b.length + 1 ≤ 100000; omega)))
    have b0 : ∀ z ∈ fsts b ++ [0], -100000000000000000000000000000 ≤ z ∧ z ≤ 100000000000000000000000000000 := fun z hz => by
      rcases List.mem_append.mp hz with h | h
      · exact bt z h
      · rw [List.mem_singleton.mp h]; decide
    refine sx_seq (M := fun G n' => n' ≤ n + 20 ∧ ∃ (fs : List Int) (a1 a2 a3 a4 a5 : Option B), ((fs.length : Int) ≤ most ∧ (∀ p ∈ fs, -200000000000000000000000000000 ≤ p ∧ p ≤ 200000000000000000000000000000) ∧ (fs ++ fsts b).Nodup) ∧ G = [some .pur, some (.fro (bkD b)), some (.fro (rowDt r)), some (.fro (.int most)), some (.fro (iD (fsts b))), some (.own (fs.map PyData.int)), a1, a2, a3, a4, a5]) ?_ ?_
    · refine sx_forV (PL := fun ds n' => n' = n + 1 ∧ (ds.length : Int) ≤ most) (fun ds i G n' => n' = n + 1 + 4 * i ∧ i ≤ ds.length ∧ (ds.length : Int) ≤ most ∧ ∃ (fs : List Int) (a1 a2 a3 a4 a5 : Option B), (fs.length ≤ i ∧ (∀ p ∈ fs, -200000000000000000000000000000 ≤ p ∧ p ≤ 200000000000000000000000000000) ∧ (fs ++ fsts b).Nodup) ∧ G = [some .pur, some (.fro (bkD b)), some (.fro (rowDt r)), some (.fro (.int most)), some (.fro (iD (fsts b))), some (.own (fs.map PyData.int)), a1, a2, a3, a4, a5]) ?_ (fun ds n' ⟨e, hl⟩ => ⟨by omega, Nat.zero_le _, hl, [], none, none, none, none, none, ⟨Nat.le_refl _, (fun p h => by cases h), nd⟩, rfl⟩) ?_ ?_
      · have hsrc := esv_rngI (te := _) (n := n) (k := 1) (A := fun z => 0 ≤ z ∧ z ≤ most) (G := [some .pur, some (.fro (bkD b)), some (.fro (rowDt r)), some (.fro (.int most)), some (.fro (iD (fsts b))), some (.own []), none, none, none, none, none]) (evi_op (k := 0) (l := 1) (A := fun x => x = 1) (f := fun i j => i + j) (r := rI0 fun i j => .int (i + j)) (evi_ep ep_int rfl) (evi_toss1 (i := 0) (m := most) rfl (ep_var (i := 3) rfl) m1 (by omega)) fun x y hx hy => ⟨od_i, by omega, by omega⟩) fun z hz => ⟨hz.1, by omega⟩
        exact fun pu W0 H0 σ W H S R q => hsrc pu W0 H0 σ W H S R fun J ds n' W' H' ⟨e, z, hz, hl⟩ => q J ds n' W' H' ⟨by omega, by omega⟩
      · rintro ds i x G n' hx ⟨e, il, hl, fs, a1, a2, a3, a4, a5, ⟨fl, fr, fn⟩, rfl⟩
        have hi : i < ds.length := (List.getElem?_eq_some_iff.mp hx).1
        have tS : Sm 100 r.top := sm_of 100000000000000000000000000000 ⟨by omega, by omega⟩ (by decide)
        refine ⟨_, _, tg_name, ?_⟩
        show Sx _ [some .pur, some (.fro (bkD b)), some (.fro (rowDt r)), some (.fro (.int most)), some (.fro (iD (fsts b))), some (.own (fs.map PyData.int)), some (.fro x), a2, a3, a4, a5] _ _ _
        have eT : ∀ G : Gm, G[2]? = some (some (.fro (rowDt r))) → Ep (tOp (rIxL K) (tVar 2) (tC (.int 2))) G (.int r.top) := fun G h => ep_op (d1 := rowDt r) (ep_var h) ep_int od_ixL2
        refine sx_seq (M := fun G n2 => n2 = n' + 1 ∧ ∃ F : Int, (-r.top ≤ F ∧ F ≤ r.top) ∧ G = [some .pur, some (.fro (bkD b)), some (.fro (rowDt r)), some (.fro (.int most)), some (.fro (iD (fsts b))), some (.own (fs.map PyData.int)), some (.fro x), some (.fro (.int F)), a3, a4, a5]) (sx_asgI (k := 1) (evi_op (k := 1) (l := 0) (A := fun z => 0 ≤ z ∧ z < 2 * r.top + 1) (B := fun y => y = r.top) (C := fun z => -r.top ≤ z ∧ z ≤ r.top) (f := fun i j => i - j) (evi_toss1 (m := 2 * r.top + 1) rfl (ep_op (ep_op ep_int (eT _ rfl) (od_c (Sm.cmul (k := 2) (sm_of 2 ⟨by decide, by decide⟩ (by decide)) tS (by decide)))) ep_int od_i) (by omega) (by omega)) (evi_ep (eT _ rfl) rfl) fun x y hx hy => ⟨od_i, by omega, by omega⟩) fun z hz => ⟨rfl, z, hz, rfl⟩) ?_
        rintro G n2 ⟨rfl, F, hF, rfl⟩
        refine sx_seq (M := fun G n2 => n2 = n' + 1 + 1 ∧ ∃ Z : Int, (-200000000000000000000000000000 ≤ Z ∧ Z ≤ 200000000000000000000000000000) ∧ G = [some .pur, some (.fro (bkD b)), some (.fro (rowDt r)), some (.fro (.int most)), some (.fro (iD (fsts b))), some (.own (fs.map PyData.int)), some (.fro x), some (.fro (.int F)), some (.fro (.int Z)), a4, a5]) (sx_asgI (k := 1 + 0) (evi_op (k := 1) (l := 0) (A := fun z => -100000000000000000000000000000 ≤ z ∧ z ≤ 100000000000000000000000000000) (B := fun y => y = 1) (C := fun z => -200000000000000000000000000000 ≤ z ∧ z ≤ 200000000000000000000000000000) (f := fun i j => i + j) (evi_pickD (zs := fsts b ++ [0]) (eT0 _ rfl) (evi_mono (evi_toss1 (m := ((fsts b).length : Int) + 1) rfl ?_ (by omega) (by omega)) fun z hz => ⟨hz.1, by rw [List.length_append]; show z < (((fsts b).length + 1 : Nat) : Int); omega⟩) b0) (evi_ep ep_int rfl) fun x y hx hy => ⟨od_i, by omega, by omega⟩) fun z hz => ⟨rfl, z, hz, rfl⟩) ?_
        · rw [show ((fsts b).length : Int) = (((fsts b).map PyData.int).length : Int) by simp only [List.length_map]]
          exact ep_op (ep_len (ep_var rfl)) ep_int od_i
        rintro G n2 ⟨rfl, Z, hZ, rfl⟩
        refine sx_seq (M := fun G n2 => n2 = n' + 1 + 1 + 2 ∧ ∃ S : Int, (-200000000000000000000000000000 ≤ S ∧ S ≤ 200000000000000000000000000000) ∧ G = [some .pur, some (.fro (bkD b)), some (.fro (rowDt r)), some (.fro (.int most)), some (.fro (iD (fsts b))), some (.own (fs.map PyData.int)), some (.fro x), some (.fro (.int F)), some (.fro (.int Z)), some (.fro (.int S)), a5]) (sx_asgI (k := 1 + 1) (evi_pick (k := 1) (l := 1) (L := 4) (A := fun z => -200000000000000000000000000000 ≤ z ∧ z ≤ 200000000000000000000000000000)
          (eai_cons (k := 1) (l := 0) (A := fun z => -200000000000000000000000000000 ≤ z ∧ z ≤ 200000000000000000000000000000) (evi_op (k := 1) (l := 0) (A := fun z => 0 ≤ z ∧ z < 25) (B := fun y => y = 12) (f := fun i j => i - j) (evi_toss1 rfl ep_int (by decide) (by omega)) (evi_ep ep_int rfl) fun x y hx hy => ⟨od_i, by omega, by omega⟩) fun z2 h2 =>
            eai_ea (zs := [F, F, Z]) (ea_cons (ep_var rfl) (ea_cons (ep_var rfl) (ea_cons (ep_var rfl) ea_nil))) ⟨rfl, fun z hz => ?_⟩)
          (evi_toss1 rfl ep_int (by decide) (by omega)) (by decide)) fun z hz => ⟨rfl, z, hz, rfl⟩) ?_
        · have hz : z = z2 ∨ z = F ∨ z = F ∨ z = Z := by simpa using hz
          rcases hz with q | q | q | q
          · rw [q]; exact h2
          · rw [q]; exact ⟨by omega, by omega⟩
          · rw [q]; exact ⟨by omega, by omega⟩
          · rw [q]; exact hZ
        rintro G n2 ⟨rfl, S, hS, rfl⟩
        refine sx_if (b := !decide (S ∈ fsts b) && !decide (S ∈ fs)) ?_ (fun hz => ?_) (fun hz => ?_)
        · show Et _ [some .pur, some (.fro (bkD b)), some (.fro (rowDt r)), some (.fro (.int most)), some (.fro (iD (fsts b))), some (.fro (iD fs)), some (.fro x), some (.fro (.int F)), some (.fro (.int Z)), some (.fro (.int S)), _] _
          exact et_and (et_test (ep_op (ep_var rfl) (ep_var rfl) (od_notIn S (fsts b)))) fun _ => et_test (ep_op (ep_var rfl) (ep_var rfl) (od_notIn S fs))
        · simp only [Bool.and_eq_true, Bool.not_eq_true', decide_eq_false_iff_not] at hz
          have ea : (fs ++ [S]).map PyData.int = fs.map PyData.int ++ [.int S] := by rw [List.map_append]; rfl
          refine sx_app (xs := fs.map PyData.int) (d := .int S) rfl (ep_var rfl) (by rw [List.length_map]; omega) ⟨by omega, hi, hl, fs ++ [S], some (.fro x), some (.fro (.int F)), some (.fro (.int Z)), some (.fro (.int S)), a5, ⟨?_, ?_, ?_⟩, by rw [ea]; rfl⟩
          · rw [List.length_append, List.length_singleton]; omega
          · intro p hp
            rcases List.mem_append.mp hp with h | h
            · exact fr p h
            · rw [List.mem_singleton.mp h]; exact hS
          · have fn2 := List.nodup_append.mp fn
            refine List.nodup_append.mpr ⟨List.nodup_append.mpr ⟨fn2.1, by simp, fun a ha c hc => ?_⟩, fn2.2.1, fun a ha c hc => ?_⟩
            · rw [List.mem_singleton.mp hc]
              exact fun z => hz.2 (z ▸ ha)
            · rcases List.mem_append.mp ha with h | h
              · exact fn2.2.2 a h c hc
              · rw [List.mem_singleton.mp h]
                exact fun z => hz.1 (z ▸ hc)
        · exact sx_next ⟨by omega, hi, hl, fs, some (.fro x), some (.fro (.int F)), some (.fro (.int Z)), some (.fro (.int S)), a5, ⟨by omega, fr, fn⟩, rfl⟩
      · rintro ds G n' ⟨e, il, hl, fs, a1, a2, a3, a4, a5, ⟨fl, fr, fn⟩, rfl⟩
        exact ⟨by omega, fs, a1, a2, a3, a4, a5, ⟨by omega, fr, fn⟩, rfl⟩
    · rintro G n' ⟨hn, fs, a1, a2, a3, a4, a5, ⟨fl, fr, fn⟩, rfl⟩
      have hmx := maxN_mem (zs := fsts b ++ [0]) (by simp)
      refine sx_ret (d := if (!PyData.eqv (iD fs) (.list [])) = true then iD fs else iD [maxL (fsts b ++ [0]) + 1]) (ep_if ?_ (fun _ => ep_var rfl) (fun _ => ?_)) ?_
      · show Et _ [some .pur, some (.fro (bkD b)), some (.fro (rowDt r)), some (.fro (.int most)), some (.fro (iD (fsts b))), some (.fro (iD fs)), _, _, _, _, _] _
        exact et_test (ep_op (ep_var rfl) (ep_new (en_lst ea_nil (by decide))) (od_neD (sh_iD fs) (sh_iD [])))
      · exact ep_new (en_lst (ea_cons (ep_op (ep_maxN (eT0 _ rfl) (by simp)) ep_int (od_i (f := fun i j => i + j))) ea_nil) (by show 1 ≤ 100000; decide))
      · refine ⟨hn, ?_⟩
        rw [show PyData.list [] = iD [] from rfl, eqv_iD]
        by_cases z : fs = []
        · rw [if_neg (by simp [z])]
          have hm := b0 _ hmx.1
          refine ⟨_, rfl, Nat.le_refl _, by show (1 : Int) ≤ most; exact m1, fun p hp => ?_, ?_⟩
          · rw [List.mem_singleton.mp hp]; omega
          · refine List.nodup_append.mpr ⟨by simp, nd, fun a ha c hc => ?_⟩
            rw [List.mem_singleton.mp ha]
            have := hmx.2 c (List.mem_append_left _ hc)
            omega
        · rw [if_pos (by simp [z])]
          exact ⟨fs, rfl, List.length_pos_iff.mpr z, fl, fr, fn⟩
end Kr
end
section
/-! M6: what the plain law must give to the walk. -/
namespace Kr
def turnB (b : List (Int × Int)) : List (Int × Int) := b.map fun q => (q.1, 7 - q.2)
def smallB (b : List (Int × Int)) : List (Int × Int) := b.map fun q => (q.1, q.2 % 1000000000)
def longB (b : List (Int × Int)) (fac : Int) : List (Int × Int) := (smallB b).map fun q => (q.1, q.2 * fac)
structure CfOk (b : List (Int × Int)) (far fac : Int) : Prop where
  bk : Bk b
  m1 : Bk (movF b far 1)
  m2 : Bk (movF b far (-1))
  f1 : 1 ≤ fac ∧ fac ≤ 1000000
  c1 : confs (movF b far 1) = confs b
  c2 : confs (movF b far (-1)) = srtP ((confs b).map fun p => ((b.length : Int) - 1 - p.2, (b.length : Int) - 1 - p.1))
  c3 : confs (turnB b) = confs b
  c4 : ∀ p ∈ confs (longB b fac), p ∈ confs (smallB b)
def upB (b : List (Int × Int)) (more : Int) : List (Int × Int) := b.map fun q => (q.1, q.2 + more)
def downB (b : List (Int × Int)) : List (Int × Int) := b.map fun q => (q.1, 0 - q.2)
structure VlOk (b : List (Int × Int)) (r : Row) (more : Int) : Prop where
  bk : Bk b ∧ confs b = []
  bu : Bk (upB b more) ∧ confs (upB b more) = []
  bd : Bk (downB b) ∧ confs (downB b) = []
  cl : ∀ p : Int, (-200000000000000000000000000000 ≤ p ∧ p ≤ 200000000000000000000000000000) → p ∉ b.map (·.1) → 0 < (classF b p).2 ∧
    classF (upB b more) p = (((classF b p).1 + more) % (classF b p).2, (classF b p).2) ∧ classF (downB b) p = ((0 - (classF b p).1) % (classF b p).2, (classF b p).2) ∧
    (classF b p).2 ∣ atF r.own r.sh p - (classF b p).1 ∧ (classF (upB b more) p).2 ∣ atF r.own r.sh p + more - (classF (upB b more) p).1 ∧ (classF (downB b) p).2 ∣ 0 - atF r.own r.sh p - (classF (downB b) p).1
def thereF (ps : List Int) (far sg : Int) : List Int := ps.map fun p => sg * p + far
def mirK (b : List (Int × Int)) (sg : Int) (ks : List Nat) : List Nat := if sg > 0 then ks else ks.reverse.map fun k => b.length - 1 - k
structure RtOk (b : List (Int × Int)) (far sg m : Int) (ps : List Int) : Prop where
  fr : Fr b ps
  fr2 : Fr (movF b far sg) (thereF ps far sg)
  cl : ∀ p ∈ ps, classF (movF b far sg) (sg * p + far) = classF b p
  st : stepsF (movF b far sg) (thereF ps far sg) = stepsF b ps
  nth : ∀ k, 0 ≤ k → k < countF (stepsF b ps) (sizeF b ps) → nthF (movF b far sg) (thereF ps far sg) (sizeF b ps) k = nthF b ps (sizeF b ps) k ∧
    OkV (movF b far sg) (thereF ps far sg) (sizeF b ps) (nthF b ps (sizeF b ps) k) ∧ idxF (movF b far sg) (thereF ps far sg) (sizeF b ps) (nthF b ps (sizeF b ps) k) = k
  cnt : 1 ≤ countF (stepsF b ps) (sizeF b ps)
  sum : ∀ ws, ws.length = ps.length → sumF (movF b far sg) (thereF ps far sg) ws = sumF b ps ws
  tab : ∀ rest : Nat, (rest : Int) < m → (tabF (movF b far sg) m).getD ((sg * (rest : Int) + far) % m).toNat (0, 0) = (tabF b m).getD rest (0, 0)
  q1 : mostF ((movF b far sg).map (·.1)) m = ((quesF b m).length : Int)
  q2 : ((movF b far sg).map (·.1) ++ thereF (quesF b m) far sg).Nodup
  q3 : mostF ((movF b far sg).map (·.1) ++ thereF (quesF b m) far sg) m = 0
  rs : ∀ p0, ps[0]? = some p0 → ∀ ks, reasonF b p0 m = some ks → (((mirK b sg ks).length ≤ 24 ∧ ∀ k ∈ mirK b sg ks, k < (movF b far sg).length) ∧ (mirK b sg ks).Pairwise (· < ·)) ∧ m ∣ (farF (movF b far sg) (sg * p0 + far) (mirK b sg ks) : Int) ∧ ∀ k ∈ ks, k < b.length
/-- what the plain law says of all that may be drawn -/
structure PlainLaw : Prop where
  bk : ∀ (r : Row) (ss : List Int) (most : Int), RowP r → most ≤ 16 → SpotP r most ss → Bk (bookF r ss) ∧ confs (bookF r ss) = []
  rt : ∀ (r : Row) (ss : List Int) (most far m sg : Int) (ps : List Int), RowP r → most ≤ 16 → SpotP r most ss → (-50 ≤ far ∧ far ≤ 10000000000000000000000000000) → NewP (bookF r ss) 3 ps → (1 ≤ m ∧ m ≤ 30) → sg = 1 ∨ sg = -1 → RtOk (bookF r ss) far sg m ps
  vl : ∀ (r : Row) (ss : List Int) (most more : Int), RowP r → most ≤ 16 → SpotP r most ss → 0 ≤ more → more < 1000000 → VlOk (bookF r ss) r more
  cf : ∀ (r : Row) (ss : List Int) (most far fac : Int) (bs : List (Int × Int)), RowP r → most ≤ 16 → SpotP r most ss → (-50 ≤ far ∧ far ≤ 10000000000000000000000000000) → (1 ≤ fac ∧ fac ≤ 1000000) → bs.map (·.1) = (bookF r ss).map (·.1) →
    (∀ q ∈ bs, -1000000000000000000000000000000 ≤ q.2 ∧ q.2 ≤ 1000000000000000000000000000000) → CfOk bs far fac
end Kr
end
section
namespace Kr
open PySem L2
open Evl (Ex)
open C8 (Cal pe_c)
local macro_rules | `(tactic| walk_at "ev") => `(tactic| skip)
local macro_rules | `(tactic| walk_at "ev") => `(tactic| first
  | with_reducible exact ep_int
  | with_reducible exact ep_bl
  | with_reducible exact ep_non
  | with_reducible exact ea_nil
  | with_reducible exact et_yes
  | with_reducible exact eo_no
  | ((with_reducible apply ep_var); rfl)
  | (with_reducible apply ea_cons) <;> walk_at "ev"
  | (with_reducible apply ep_op) <;> walk_at "ev"
  | (with_reducible apply ep_un) <;> walk_at "ev"
  | (with_reducible apply ep_isi) <;> walk_at "ev"
  | ((with_reducible apply ep_lenV); rfl)
  | (with_reducible apply ep_len) <;> walk_at "ev"
  | (with_reducible apply ep_abs) <;> walk_at "ev"
  | (with_reducible apply ep_int1) <;> walk_at "ev"
  | (with_reducible apply ep_max2) <;> walk_at "ev"
  | (with_reducible apply ep_min2) <;> walk_at "ev"
  | (with_reducible apply et_test) <;> walk_at "ev"
  | (with_reducible apply et_B) <;> walk_at "ev"
  | (with_reducible apply et_not) <;> walk_at "ev"
  | (with_reducible apply ep_notV) <;> walk_at "ev"
  | (with_reducible apply ep_tup) <;> walk_at "ev"
  | (with_reducible apply eo_part) <;> walk_at "ev"
  | with_reducible exact od_i
  | with_reducible exact od_b
  | with_reducible exact od_eqI
  | with_reducible exact od_neI
  | with_reducible exact od_isN
  | with_reducible exact od_notN
  | with_reducible exact od_notB
  | with_reducible apply od_c
  | with_reducible exact od_ixT0
  | with_reducible exact od_ixT1
  | with_reducible exact od_ixL0
  | with_reducible exact od_ixL1
  | with_reducible exact od_ixL2
  | with_reducible apply od_ixL
  | with_reducible apply od_ixT
  | with_reducible exact ud_neg
  | (with_reducible refine' et_or ?_ (fun _ => ?_)) <;> walk_at "ev"
  | (with_reducible refine' et_and ?_ (fun _ => ?_)) <;> walk_at "ev"
  | (with_reducible refine' ep_orV ?_ (fun _ => ?_)) <;> walk_at "ev"
  | (with_reducible refine' ep_andV ?_ (fun _ => ?_)) <;> walk_at "ev"
  | (with_reducible refine' ep_chain ?_ ?_ ?_ (fun _ => ?_) (fun _ => ?_)) <;> walk_at "ev"
  | exact isi_int
  | exact isi_intb
  | exact isi_lst
  | exact isi_tup
  | exact Nat.le_of_ble_eq_true rfl)
local macro_rules | `(tactic| walk_at "ev") => `(tactic| (with_reducible apply ev_divisor_of) <;> walk_at "ev")
local macro_rules | `(tactic| walk_at "ev") => `(tactic| (with_reducible apply ev_multiple_of) <;> walk_at "ev")
local macro_rules | `(tactic| walk_at "ev") => `(tactic| (with_reducible apply ev_divides) <;> walk_at "ev")
local macro_rules | `(tactic| walk_at "ev") => `(tactic| (with_reducible apply ev_do_fit) <;> walk_at "ev")
local macro_rules | `(tactic| walk_at "ev") => `(tactic| (with_reducible apply ev_conflicts_in) <;> walk_at "ev")
local macro_rules | `(tactic| walk_at "ev") => `(tactic| (with_reducible apply ev_is_integer) <;> walk_at "ev")
local macro_rules | `(tactic| walk_at "ev") => `(tactic| (with_reducible apply ev_is_told) <;> walk_at "ev")
local macro_rules | `(tactic| walk_at "ev") => `(tactic| (with_reducible apply ev_is_item) <;> walk_at "ev")
local macro_rules | `(tactic| walk_at "ev") => `(tactic| (with_reducible apply ev_is_book) <;> walk_at "ev")
local macro_rules | `(tactic| walk_at "ev") => `(tactic| (with_reducible apply ev_need_book) <;> walk_at "ev")
local macro_rules | `(tactic| walk_at "ev") => `(tactic| (with_reducible apply ev_conflict_in) <;> walk_at "ev")
local macro_rules | `(tactic| walk_at "ev") => `(tactic| (with_reducible apply ev_need_fitting) <;> walk_at "ev")
local macro_rules | `(tactic| walk_at "ev") => `(tactic| (with_reducible apply ev_need_possible) <;> walk_at "ev")
local macro_rules | `(tactic| walk_at "ev") => `(tactic| (with_reducible apply ev_conflict_of) <;> walk_at "ev")
local macro_rules | `(tactic| walk_at "ev") => `(tactic| (with_reducible apply ev_all_conflicts) <;> walk_at "ev")
local macro_rules | `(tactic| walk_at "ev") => `(tactic| (with_reducible apply ev_need_modulus1) <;> walk_at "ev")
local macro_rules | `(tactic| walk_at "ev") => `(tactic| (with_reducible apply ev_need_modulus2) <;> walk_at "ev")
local macro_rules | `(tactic| walk_at "ev") => `(tactic| (with_reducible apply ev_inverse_of) <;> walk_at "ev")
local macro_rules | `(tactic| walk_at "ev") => `(tactic| (with_reducible apply ev_met) <;> walk_at "ev")
local macro_rules | `(tactic| walk_at "ev") => `(tactic| (with_reducible apply ev_class_by) <;> walk_at "ev")
local macro_rules | `(tactic| walk_at "ev") => `(tactic| (with_reducible apply ev_class_at) <;> walk_at "ev")
local macro_rules | `(tactic| walk_at "ev") => `(tactic| (with_reducible apply ev_can_have) <;> walk_at "ev")
local macro_rules | `(tactic| walk_at "ev") => `(tactic| (with_reducible apply ev_far_in) <;> walk_at "ev")
local macro_rules | `(tactic| walk_at "ev") => `(tactic| (with_reducible apply ev_need_sure) <;> walk_at "ev")
local macro_rules | `(tactic| walk_at "ev") => `(tactic| (with_reducible apply ev_reason_for) <;> walk_at "ev")
local macro_rules | `(tactic| walk_at "ev") => `(tactic| (with_reducible apply ev_are_indices) <;> walk_at "ev")
local macro_rules | `(tactic| walk_at "ev") => `(tactic| (with_reducible apply ev_shows_reason) <;> walk_at "ev")
local macro_rules | `(tactic| walk_at "ev") => `(tactic| (with_reducible apply ev_need_places) <;> walk_at "ev")
local macro_rules | `(tactic| walk_at "ev") => `(tactic| (with_reducible apply ev_need_open) <;> walk_at "ev")
local macro_rules | `(tactic| walk_at "ev") => `(tactic| (with_reducible apply ev_steps_in) <;> walk_at "ev")
local macro_rules | `(tactic| walk_at "ev") => `(tactic| (with_reducible apply ev_size_in) <;> walk_at "ev")
local macro_rules | `(tactic| walk_at "ev") => `(tactic| (with_reducible apply ev_count_in) <;> walk_at "ev")
local macro_rules | `(tactic| walk_at "ev") => `(tactic| (with_reducible apply ev_need_size) <;> walk_at "ev")
local macro_rules | `(tactic| walk_at "ev") => `(tactic| (with_reducible apply ev_step_list) <;> walk_at "ev")
local macro_rules | `(tactic| walk_at "ev") => `(tactic| (with_reducible apply ev_common_size) <;> walk_at "ev")
local macro_rules | `(tactic| walk_at "ev") => `(tactic| (with_reducible apply ev_count_fillings) <;> walk_at "ev")
local macro_rules | `(tactic| walk_at "ev") => `(tactic| (with_reducible apply ev_nth_filling) <;> walk_at "ev")
local macro_rules | `(tactic| walk_at "ev") => `(tactic| (with_reducible apply ev_index_in) <;> walk_at "ev")
local macro_rules | `(tactic| walk_at "ev") => `(tactic| (with_reducible apply ev_filling_index) <;> walk_at "ev")
local macro_rules | `(tactic| walk_at "ev") => `(tactic| (with_reducible apply ev_vectors_in) <;> walk_at "ev")
local macro_rules | `(tactic| walk_at "ev") => `(tactic| (with_reducible apply ev_summed) <;> walk_at "ev")
local macro_rules | `(tactic| walk_at "ev") => `(tactic| (with_reducible apply ev_need_weights) <;> walk_at "ev")
local macro_rules | `(tactic| walk_at "ev") => `(tactic| (with_reducible apply ev_sure_sum) <;> walk_at "ev")
local macro_rules | `(tactic| walk_at "ev") => `(tactic| (with_reducible apply ev_need_asked2) <;> walk_at "ev")
local macro_rules | `(tactic| walk_at "ev") => `(tactic| (with_reducible apply ev_need_asked3) <;> walk_at "ev")
local macro_rules | `(tactic| walk_at "ev") => `(tactic| (with_reducible apply ev_prime_powers) <;> walk_at "ev")
local macro_rules | `(tactic| walk_at "ev") => `(tactic| (with_reducible apply ev_lacking_in) <;> walk_at "ev")
local macro_rules | `(tactic| walk_at "ev") => `(tactic| (with_reducible apply ev_most_lacking) <;> walk_at "ev")
local macro_rules | `(tactic| walk_at "ev") => `(tactic| (with_reducible apply ev_first_lacking) <;> walk_at "ev")
local macro_rules | `(tactic| walk_at "ev") => `(tactic| (with_reducible apply ev_sure_table) <;> walk_at "ev")
local macro_rules | `(tactic| walk_at "ev") => `(tactic| (with_reducible apply ev_fewest_more) <;> walk_at "ev")
local macro_rules | `(tactic| walk_at "ev") => `(tactic| (with_reducible apply ev_are_questions) <;> walk_at "ev")
local macro_rules | `(tactic| walk_at "ev") => `(tactic| (with_reducible apply ev_shows_questions) <;> walk_at "ev")
local macro_rules | `(tactic| walk_at "ev") => `(tactic| (with_reducible apply ev_questions) <;> walk_at "ev")
local macro_rules | `(tactic| walk_at "ev") => `(tactic| (with_reducible apply ev__law_divisor) <;> walk_at "ev")
local macro_rules | `(tactic| walk_at "ev") => `(tactic| (with_reducible apply ev__law_multiple) <;> walk_at "ev")
local macro_rules | `(tactic| walk_at "ev") => `(tactic| (with_reducible apply ev__law_at) <;> walk_at "ev")
local macro_rules | `(tactic| walk_at "ev") => `(tactic| (with_reducible apply ev__law_moved) <;> walk_at "ev")

theorem p9 : (10 : Int) ^ (9 : Int).toNat = 1000000000 := by decide
theorem any_pr (l : List (Int × Int)) (p : Int × Int) : ((l.map prD).any fun z => PyData.eqv z (prD p)) = decide (p ∈ l) := by
  induction l with
  | nil => simp
  | cons q l ih =>
    rw [List.map_cons, List.any_cons, ih, eqv_pr]
    by_cases h : q = p
    · subst h; simp
    · have h2 : ¬ p = q := fun z => h z.symm
      simp [h, h2]
theorem Bk.same {b c : List (Int × Int)} (hb : Bk b) (e : c.map (·.1) = b.map (·.1)) (h : ∀ q ∈ c, -1000000000000000000000000000000 ≤ q.2 ∧ q.2 ≤ 1000000000000000000000000000000) : Bk c := BentP.bk ⟨e, h⟩ hb
theorem Bk.sm {b : List (Int × Int)} (hb : Bk b) : ∀ q ∈ b, Sm 200 q.1 := fun q hq => (sm_of (k := 110) 1000000000000000000000000000000 (hb.rng q hq).1 (by decide)).mono (by decide)

/-! ### _law_conflicts_right -/
abbrev N__law_conflicts_right : List Str := ["_law_book_here", "_law_far", "_law_factor", "_law_due", "_law_last", "_law_turned", "_law_small", "_law_longer_here", "_law_i", "_law_j", "_law_spot", "_law_val", "_law_pair"]
theorem sc__law_conflicts_right : FnScope N__law_conflicts_right ["_law_book_here", "_law_far", "_law_factor"] (defScope s__law_conflicts_right) := ⟨rfl, rfl, rfl, by decide +kernel, rfl, by decide +kernel, by decide +kernel⟩
def sp__law_conflicts_right : Sp := SpP (α := (List (Int × Int)) × Int × Int) (fun x => CfOk x.1 x.2.1 x.2.2) (fun x => [bkD x.1, .int x.2.1, .int x.2.2]) (fun x => .bool true)
theorem ev__law_conflicts_right {tr : TA} {G : Gm} {b : List (Int × Int)} {far fac : Int} (h : Ea tr G [bkD b, .int far, .int fac]) (c : CfOk b far fac) : Ep (tCall sp__law_conflicts_right [] C8.E0 tr) G (.bool true) := ep_call (α := (List (Int × Int)) × Int × Int) (b, far, fac) h rfl c
local macro_rules | `(tactic| walk_at "ev") => `(tactic| (with_reducible apply ev__law_conflicts_right) <;> walk_at "ev")
theorem cal__law_conflicts_right {P : Program} {w : World} {K : PySem.W.Frag} {mg : Str → Option Value} {base : Heap} (T : Txt K mg) : Cal P w K mg base 7 "_law_conflicts_right" sp__law_conflicts_right [] := by
  obtain ⟨fd, F⟩ := T.c.def_ 64 (d := d__law_conflicts_right) rfl
  refine ⟨⟨_, fd, ["_law_book_here", "_law_far", "_law_factor"], [], ?_, T.glo 64, F.kp, F.bindsN (fun _ _ _ _ _ _ us hl => match us, hl with | [_, _, _], _ => rfl), .nil⟩⟩
  refine F.ok sc__law_conflicts_right (fun vs H Q E h => len_of (α := (List (Int × Int)) × Int × Int) (C := fun x => CfOk x.1 x.2.1 x.2.2) (pre := fun x => [bkD x.1, .int x.2.1, .int x.2.2]) (post := fun x => .bool true) (p := 3) (fun _ => rfl) vs H Q E h) (fun cdv A outer s H vs Q E hr h => ?_)
  refine ⟨_, PSs.nox (pss_cons (ps_set (i := 3) sc__law_conflicts_right.nd rfl (Or.inl rfl) (pe_c (cal_all_conflicts T) hr (by decide) rfl (pa_cons (pv 0) pa_nil)))
      (pss_cons (ps_if (pt_cmpR (neK (K := K) hr.units) (pe_c (cal_all_conflicts T) hr (by decide) rfl (pa_cons (pe_c (cal__law_moved T) hr (by decide) rfl (pa_cons (pv 0) (pa_cons (pv 1) (pa_cons pe_int pa_nil)))) pa_nil)) (pv 3) (nomark _)) (pss_one (ps_ret pe_bl)) pss_nil)
      (pss_cons (ps_set (i := 4) sc__law_conflicts_right.nd rfl (Or.inr rfl) (pe_op op_sub (pe_callB (lenK (K := K)) rfl (free_len T) bb_len (pa_cons (pv 0) pa_nil)) pe_int))
      (pss_cons (ps_if (pt_cmpR (neK (K := K) hr.units) (pe_c (cal_all_conflicts T) hr (by decide) rfl (pa_cons (pe_c (cal__law_moved T) hr (by decide) rfl (pa_cons (pv 0) (pa_cons (pv 1) (pa_cons (pe_un un_neg pe_int) pa_nil)))) pa_nil)) (pe_callB (sortPK (K := K)) rfl (free_sorted T) bb_sorted (pa_cons (pe_lc (own := [("_law_i", 8), ("_law_j", 9)]) rfl sc__law_conflicts_right.nd (piL (K := K) (pv 3)) (blkOk_by (N := N__law_conflicts_right) (sc := defScope s__law_conflicts_right) (by decide +kernel)) (fun _ _ _ _ _ => (pgT (K := K) (n := 2) rfl (pgs_cons (pg_name (i := 8) sc__law_conflicts_right.nd rfl (Or.inl rfl)) (pgs_cons (pg_name (i := 9) sc__law_conflicts_right.nd rfl (Or.inl rfl)) pgs_nil)))) (fun _ _ _ _ _ => pts_nil) (fun _ _ _ _ _ => (pe_tup (pa_cons (pe_op op_sub (pv 4) (pv 9)) (pa_cons (pe_op op_sub (pv 4) (pv 8)) pa_nil))))) pa_nil)) (nomark _)) (pss_one (ps_ret pe_bl)) pss_nil)
      (pss_cons (ps_setLc (i := 5) (own := [("_law_spot", 10), ("_law_val", 11)]) rfl sc__law_conflicts_right.nd rfl rfl (sw_true rfl rfl rfl (by decide +kernel)) (piL (K := K) (pv 0)) (blkOk_by (N := N__law_conflicts_right) (sc := defScope s__law_conflicts_right) (by decide +kernel)) (fun _ _ _ _ _ => (pgT (K := K) (n := 2) rfl (pgs_cons (pg_name (i := 10) sc__law_conflicts_right.nd rfl (Or.inl rfl)) (pgs_cons (pg_name (i := 11) sc__law_conflicts_right.nd rfl (Or.inl rfl)) pgs_nil)))) (fun _ _ _ _ _ => (pts_one (pt_cmpR op_lt (pe_callB k_abs rfl (free_abs T) bb_abs (pa_cons (pv 11) pa_nil)) (pe_op op_sub (pe_op op_pow pe_int pe_int) pe_int) (nomark _)))) (fun _ _ _ _ _ => (pe_tup (pa_cons (pv 10) (pa_cons (pe_op op_sub pe_int (pv 11)) pa_nil)))))
      (pss_cons (ps_if (PW.pt (pw_and (pt_cmpR op_eq (pe_callB (lenK (K := K)) rfl (free_len T) bb_len (pa_cons (pv 5) pa_nil)) (pe_callB (lenK (K := K)) rfl (free_len T) bb_len (pa_cons (pv 0) pa_nil)) (nomark _)) (pw_and1 (pt_cmpR (neK (K := K) hr.units) (pe_c (cal_all_conflicts T) hr (by decide) rfl (pa_cons (pv 5) pa_nil)) (pv 3) (nomark _))))) (pss_one (ps_ret pe_bl)) pss_nil)
      (pss_cons (ps_set (i := 6) sc__law_conflicts_right.nd rfl (Or.inr rfl) (pe_lc (own := [("_law_spot", 10), ("_law_val", 11)]) rfl sc__law_conflicts_right.nd (piL (K := K) (pv 0)) (blkOk_by (N := N__law_conflicts_right) (sc := defScope s__law_conflicts_right) (by decide +kernel)) (fun _ _ _ _ _ => (pgT (K := K) (n := 2) rfl (pgs_cons (pg_name (i := 10) sc__law_conflicts_right.nd rfl (Or.inl rfl)) (pgs_cons (pg_name (i := 11) sc__law_conflicts_right.nd rfl (Or.inl rfl)) pgs_nil)))) (fun _ _ _ _ _ => pts_nil) (fun _ _ _ _ _ => (pe_tup (pa_cons (pv 10) (pa_cons (pe_op op_mod (pe_callTy k_int rfl (free_int T) bb_int (pa_cons (pv 11) pa_nil)) (pe_op op_pow pe_int pe_int)) pa_nil))))))
      (pss_cons (ps_setLc (i := 7) (own := [("_law_spot", 10), ("_law_val", 11)]) rfl sc__law_conflicts_right.nd rfl rfl (sw_true rfl rfl rfl (by decide +kernel)) (piL (K := K) (pv 6)) (blkOk_by (N := N__law_conflicts_right) (sc := defScope s__law_conflicts_right) (by decide +kernel)) (fun _ _ _ _ _ => (pgT (K := K) (n := 2) rfl (pgs_cons (pg_name (i := 10) sc__law_conflicts_right.nd rfl (Or.inl rfl)) (pgs_cons (pg_name (i := 11) sc__law_conflicts_right.nd rfl (Or.inl rfl)) pgs_nil)))) (fun _ _ _ _ _ => pts_nil) (fun _ _ _ _ _ => (pe_tup (pa_cons (pv 10) (pa_cons (pe_op op_mulW (pv 11) (pv 2)) pa_nil)))))
      (pss_one (ps_ret (pe_cmpR (eqK (K := K) hr.units) (pe_lc (own := [("_law_pair", 12)]) rfl sc__law_conflicts_right.nd (piL (K := K) (pe_c (cal_all_conflicts T) hr (by decide) rfl (pa_cons (pv 7) pa_nil))) (blkOk_by (N := N__law_conflicts_right) (sc := defScope s__law_conflicts_right) (by decide +kernel)) (fun _ _ _ _ _ => (pg_name (i := 12) sc__law_conflicts_right.nd rfl (Or.inl rfl))) (fun _ _ _ _ _ => (pts_one (pt_cmpR (ninDK (K := K) (hu65 hr)) (pv 12) (pe_c (cal_all_conflicts T) hr (by decide) rfl (pa_cons (pv 6) pa_nil)) rfl))) (fun _ _ _ _ _ => (pv 12))) (pe_lst pa_nil) (nomark _)))))))))))), ?_⟩
  refine rd_of (α := (List (Int × Int)) × Int × Int) (C := fun x => CfOk x.1 x.2.1 x.2.2) (pre := fun x => [bkD x.1, .int x.2.1, .int x.2.2]) (post := fun x => .bool true) (p := 3) (N := N__law_conflicts_right) (fun _ => rfl) ?rd vs H Q E h
  case rd =>
    rintro ⟨b, far, fac⟩ h
    show Sx _ [some (.fro (bkD b)), some (.fro (.int far)), some (.fro (.int fac)), none, none, none, none, none, none, none, none, none, none] 0 _ _
    replace h : CfOk b far fac := h
    have hbl := h.bk.len
    have f1 := h.f1
    have s1 : Sm 200 1 := (sm_of (k := 1) 1 ⟨by decide, by decide⟩ (by decide)).mono (by decide)
    have s2 : Sm 200 (-1) := (sm_of (k := 1) 1 ⟨by decide, by decide⟩ (by decide)).mono (by decide)
    refine sx_then (G1 := [some (.fro (bkD b)), some (.fro (.int far)), some (.fro (.int fac)), some (.fro (bkD (confs b))), none, none, none, none, none, none, none, none, none]) (sx_asg (d := bkD (confs b)) (ev_all_conflicts (ea_cons (ep_var rfl) ea_nil) h.bk) ⟨rfl, rfl⟩) ?_
    refine sx_seq (M := fun G n' => n' = 0 ∧ G = [some (.fro (bkD b)), some (.fro (.int far)), some (.fro (.int fac)), some (.fro (bkD (confs b))), none, none, none, none, none, none, none, none, none]) (sx_if (b := !PyData.eqv (bkD (confs (movF b far 1))) (bkD (confs b))) (et_test (ep_op (ev_all_conflicts (ea_cons (ev__law_moved (b := b) (far := far) (sg := 1) (ea_cons (ep_var rfl) (ea_cons (ep_var rfl) (ea_cons ep_int ea_nil))) ⟨by omega, s1, h.bk.sm⟩) ea_nil) h.m1) (ep_var rfl) (od_neD (sh_bkD _) (sh_bkD _)))) (fun z => ?_) (fun _ => sx_next ⟨rfl, rfl⟩)) ?_
    · rw [eqv_bkD, h.c1, decide_eq_true rfl] at z
      cases z
    rintro G n' ⟨rfl, rfl⟩
    refine sx_then (G1 := [some (.fro (bkD b)), some (.fro (.int far)), some (.fro (.int fac)), some (.fro (bkD (confs b))), some (.fro (.int ((b.length : Int) - 1))), none, none, none, none, none, none, none, none]) (sx_asg (d := .int ((b.length : Int) - 1)) ?_ ⟨rfl, rfl⟩) ?_
    · rw [show (b.length : Int) = ((b.map prD).length : Int) by rw [List.length_map]]
      exact ep_op (ep_len (ep_var rfl)) ep_int od_i
    refine sx_seq (M := fun G n' => n' = 0 ∧ G = [some (.fro (bkD b)), some (.fro (.int far)), some (.fro (.int fac)), some (.fro (bkD (confs b))), some (.fro (.int ((b.length : Int) - 1))), none, none, none, none, none, none, none, none]) (sx_if (b := !PyData.eqv (bkD (confs (movF b far (-1)))) (bkD (srtP ((confs b).map fun p => ((b.length : Int) - 1 - p.2, (b.length : Int) - 1 - p.1))))) (et_test (ep_op (ev_all_conflicts (ea_cons (ev__law_moved (b := b) (far := far) (sg := -1) (ea_cons (ep_var rfl) (ea_cons (ep_var rfl) (ea_cons (ep_un ep_int ud_neg) ea_nil))) ⟨by omega, s2, h.bk.sm⟩) ea_nil) h.m2) (ep_new (en_sortedP (ep_new ?_))) (od_neD (sh_bkD _) (sh_bkD _)))) (fun z => ?_) (fun _ => sx_next ⟨rfl, rfl⟩)) ?_
    · rw [show ((confs b).map fun p => ((b.length : Int) - 1 - p.2, (b.length : Int) - 1 - p.1)).map prD = (confs b).map fun p => PyData.tuple [.int ((b.length : Int) - 1 - p.2), .int ((b.length : Int) - 1 - p.1)] by rw [List.map_map]; rfl]
      exact en_m2 (confs b) (fun q => .int q.1) (fun q => .int q.2) (fun p => PyData.tuple [.int ((b.length : Int) - 1 - p.2), .int ((b.length : Int) - 1 - p.1)]) (es_list (ep_var rfl)) (fun q hq => ep_tup (ea_cons (ep_op (ep_var rfl) (ep_var rfl) od_i) (ea_cons (ep_op (ep_var rfl) (ep_var rfl) od_i) ea_nil)) (by show 2 ≤ 100000; decide)) (by have := confs_len hbl; omega)
    · rw [eqv_bkD, h.c2, decide_eq_true rfl] at z
      cases z
    rintro G n' ⟨rfl, rfl⟩
    generalize hf : (fun q : Int × Int => decide ((q.2.natAbs : Int) < 10 ^ (30 : Int).toNat - 9)) = f
    generalize hT : ((b.filter f).map fun q : Int × Int => (q.1, 7 - q.2)) = TB
    refine sx_then (G1 := [some (.fro (bkD b)), some (.fro (.int far)), some (.fro (.int fac)), some (.fro (bkD (confs b))), some (.fro (.int ((b.length : Int) - 1))), some (.fro (bkD TB)), none, none, none, none, none, none, none]) (sx_asg (d := bkD TB) (ep_new ?_) ⟨rfl, rfl⟩) ?_
    · rw [← hT, show ((b.filter f).map fun q : Int × Int => (q.1, 7 - q.2)).map prD = (b.filter f).map fun q => PyData.tuple [.int q.1, .int (7 - q.2)] by rw [List.map_map]; rfl]
      refine en_f2 b (fun q => .int q.1) (fun q => .int q.2) f (fun q => PyData.tuple [.int q.1, .int (7 - q.2)]) (es_list (ep_var rfl)) (fun q hq => ⟨?_, fun _ => ep_tup (ea_cons (ep_var rfl) (ea_cons (ep_op ep_int (ep_var rfl) (od_i (f := fun i j => i - j))) ea_nil)) (by show 2 ≤ 100000; decide)⟩) (by omega)
      rw [← hf]
      exact et_test (ep_op (ep_abs (ep_var rfl)) (ep_op (ep_p10 (by decide)) ep_int (od_i (f := fun i j => i - j))) od_b)
    have full : TB.length = b.length → TB = turnB b ∧ Bk TB := fun hl => by
      have e1 : (b.filter f).length = b.length := by rw [← hl, ← hT, List.length_map]
      have e2 : b.filter f = b := List.length_filter_eq_length_iff.mp e1 |> List.filter_eq_self.mpr
      have e3 : TB = turnB b := by rw [← hT, e2]; rfl
      refine ⟨e3, h.bk.same ?_ fun q hq => ?_⟩
      · rw [e3]
        unfold turnB
        rw [List.map_map]
        rfl
      · rw [e3] at hq
        obtain ⟨p, hp, rfl⟩ := List.mem_map.mp hq
        have e4 : f p = true := by
          rw [← e2] at hp
          exact (List.mem_filter.mp hp).2
        rw [← hf] at e4
        have e5 : (p.2.natAbs : Int) < 10 ^ (30 : Int).toNat - 9 := by simpa using e4
        rw [p30] at e5
        show -1000000000000000000000000000000 ≤ 7 - p.2 ∧ 7 - p.2 ≤ 1000000000000000000000000000000
        omega
    refine sx_seq (M := fun G n' => n' = 0 ∧ G = [some (.fro (bkD b)), some (.fro (.int far)), some (.fro (.int fac)), some (.fro (bkD (confs b))), some (.fro (.int ((b.length : Int) - 1))), some (.fro (bkD TB)), none, none, none, none, none, none, none]) (sx_if (b := decide (((TB.map prD).length : Int) = ((b.map prD).length : Int)) && !PyData.eqv (bkD (confs TB)) (bkD (confs b))) (et_and (et_test (ep_op (ep_len (ep_var rfl)) (ep_len (ep_var rfl)) od_eqI)) fun z => ?_) (fun z => ?_) (fun _ => sx_next ⟨rfl, rfl⟩)) ?_
    · have z : TB.length = b.length := by
        rw [List.length_map, List.length_map] at z
        have : (TB.length : Int) = (b.length : Int) := by simpa using z
        omega
      exact et_test (ep_op (ev_all_conflicts (ea_cons (ep_var rfl) ea_nil) (full z).2) (ep_var rfl) (od_neD (sh_bkD _) (sh_bkD _)))
    · simp only [Bool.and_eq_true, decide_eq_true_eq, List.length_map] at z
      have z1 : TB.length = b.length := by have := z.1; omega
      have z2 := z.2
      rw [eqv_bkD, (full z1).1, h.c3, decide_eq_true rfl] at z2
      cases z2
    rintro G n' ⟨rfl, rfl⟩
    have fs : (smallB b).map (·.1) = b.map (·.1) := by unfold smallB; rw [List.map_map]; rfl
    have vs : ∀ q ∈ smallB b, 0 ≤ q.2 ∧ q.2 < 1000000000 := fun q hq => by
      obtain ⟨p, hp, rfl⟩ := List.mem_map.mp hq
      exact ⟨Int.emod_nonneg _ (by decide), Int.emod_lt_of_pos _ (by decide)⟩
    have bs : Bk (smallB b) := h.bk.same fs fun q hq => by have := vs q hq; omega
    have bL : Bk (longB b fac) := h.bk.same (by unfold longB; rw [List.map_map]; exact fs) fun q hq => by
      obtain ⟨p, hp, rfl⟩ := List.mem_map.mp hq
      have := vs p hp
      have h1 : 0 ≤ p.2 * fac := Int.mul_nonneg this.1 (by omega)
      have h2 : p.2 * fac ≤ 1000000000 * 1000000 := Int.mul_le_mul (by omega) f1.2 (by omega) (by decide)
      show _ ≤ p.2 * fac ∧ p.2 * fac ≤ _
      omega
    refine sx_then (G1 := [some (.fro (bkD b)), some (.fro (.int far)), some (.fro (.int fac)), some (.fro (bkD (confs b))), some (.fro (.int ((b.length : Int) - 1))), some (.fro (bkD TB)), some (.fro (bkD (smallB b))), none, none, none, none, none, none]) (sx_asg (d := bkD (smallB b)) (ep_new ?_) ⟨rfl, rfl⟩) ?_
    · rw [show (smallB b).map prD = b.map fun q => PyData.tuple [.int q.1, .int (q.2 % 1000000000)] by unfold smallB; rw [List.map_map]; rfl]
      refine en_m2 b (fun q => .int q.1) (fun q => .int q.2) (fun q => PyData.tuple [.int q.1, .int (q.2 % 1000000000)]) (es_list (ep_var rfl)) (fun q hq => ep_tup (ea_cons (ep_var rfl) (ea_cons ?_ ea_nil)) (by show 2 ≤ 100000; decide)) (by omega)
      rw [← p9]
      exact ep_op (ep_int1 (ep_var rfl)) (ep_p10 (by decide)) (od_c (by decide))
    refine sx_then (G1 := [some (.fro (bkD b)), some (.fro (.int far)), some (.fro (.int fac)), some (.fro (bkD (confs b))), some (.fro (.int ((b.length : Int) - 1))), some (.fro (bkD TB)), some (.fro (bkD (smallB b))), some (.fro (bkD (longB b fac))), none, none, none, none, none]) (sx_asg (d := bkD (longB b fac)) (ep_new ?_) ⟨rfl, rfl⟩) ?_
    · rw [show (longB b fac).map prD = (smallB b).map fun q => PyData.tuple [.int q.1, .int (q.2 * fac)] by unfold longB; rw [List.map_map]; rfl]
      refine en_m2 (smallB b) (fun q => .int q.1) (fun q => .int q.2) (fun q => PyData.tuple [.int q.1, .int (q.2 * fac)]) (es_list (ep_var rfl)) (fun q hq => ep_tup (ea_cons (ep_var rfl) (ea_cons (ep_op (ep_var rfl) (ep_var rfl) (od_c ?_)) ea_nil)) (by show 2 ≤ 100000; decide)) (by have := bs.len; omega)
      have := vs q hq
      exact Sm.cmul (k := 40) (l := 40) (sm_of 1000000000 ⟨by omega, by omega⟩ (by decide)) (sm_of 1000000 ⟨by omega, by omega⟩ (by decide)) (by decide)
    refine sx_ret (d := .bool (PyData.eqv (.list ((((confs (longB b fac)).filter fun p => !(((confs (smallB b)).map prD).any fun z => PyData.eqv z (prD p)))).map prD)) (.list []))) ?_ ?_
    · refine ep_op (ep_new (en_f1 (confs (longB b fac)) prD (fun p => !(((confs (smallB b)).map prD).any fun z => PyData.eqv z (prD p))) prD (es_list (ev_all_conflicts (ea_cons (ep_var rfl) ea_nil) bL)) (fun p hp => ⟨et_test (ep_op (ep_var rfl) (ev_all_conflicts (ea_cons (ep_var rfl) ea_nil) bs) (od_notInD (sh_prD p) (sh_bkD _))), fun _ => ep_var rfl⟩) (by have := confs_len bL.len; omega))) (ep_new (en_lst ea_nil (by decide))) (od_eqD (sh_bkD _) (sh_bkD []))
    · have e : ((confs (longB b fac)).filter fun p => !(((confs (smallB b)).map prD).any fun z => PyData.eqv z (prD p))) = [] := List.filter_eq_nil_iff.mpr fun p hp => by
        rw [any_pr, decide_eq_true (h.c4 p hp)]
        decide
      rw [e, show PyData.list [] = bkD [] from rfl]
      show PyData.bool (PyData.eqv (bkD []) (bkD [])) = _
      rw [eqv_bkD]
      rfl
end Kr
end
section
namespace Kr
open PySem L2
open Evl (Ex)
open C8 (Cal pe_c)
local macro_rules | `(tactic| walk_at "ev") => `(tactic| skip)
local macro_rules | `(tactic| walk_at "ev") => `(tactic| first
  | with_reducible exact ep_int
  | with_reducible exact ep_bl
  | with_reducible exact ep_non
  | with_reducible exact ea_nil
  | with_reducible exact et_yes
  | with_reducible exact eo_no
  | ((with_reducible apply ep_var); rfl)
  | (with_reducible apply ea_cons) <;> walk_at "ev"
  | (with_reducible apply ep_op) <;> walk_at "ev"
  | (with_reducible apply ep_un) <;> walk_at "ev"
  | (with_reducible apply ep_isi) <;> walk_at "ev"
  | ((with_reducible apply ep_lenV); rfl)
  | (with_reducible apply ep_len) <;> walk_at "ev"
  | (with_reducible apply ep_abs) <;> walk_at "ev"
  | (with_reducible apply ep_int1) <;> walk_at "ev"
  | (with_reducible apply ep_max2) <;> walk_at "ev"
  | (with_reducible apply ep_min2) <;> walk_at "ev"
  | (with_reducible apply et_test) <;> walk_at "ev"
  | (with_reducible apply et_B) <;> walk_at "ev"
  | (with_reducible apply et_not) <;> walk_at "ev"
  | (with_reducible apply ep_notV) <;> walk_at "ev"
  | (with_reducible apply ep_tup) <;> walk_at "ev"
  | (with_reducible apply eo_part) <;> walk_at "ev"
  | with_reducible exact od_i
  | with_reducible exact od_b
  | with_reducible exact od_eqI
  | with_reducible exact od_neI
  | with_reducible exact od_isN
  | with_reducible exact od_notN
  | with_reducible exact od_notB
  | with_reducible apply od_c
  | with_reducible exact od_ixT0
  | with_reducible exact od_ixT1
  | with_reducible exact od_ixL0
  | with_reducible exact od_ixL1
  | with_reducible exact od_ixL2
  | with_reducible apply od_ixL
  | with_reducible apply od_ixT
  | with_reducible exact ud_neg
  | (with_reducible refine' et_or ?_ (fun _ => ?_)) <;> walk_at "ev"
  | (with_reducible refine' et_and ?_ (fun _ => ?_)) <;> walk_at "ev"
  | (with_reducible refine' ep_orV ?_ (fun _ => ?_)) <;> walk_at "ev"
  | (with_reducible refine' ep_andV ?_ (fun _ => ?_)) <;> walk_at "ev"
  | (with_reducible refine' ep_chain ?_ ?_ ?_ (fun _ => ?_) (fun _ => ?_)) <;> walk_at "ev"
  | exact isi_int
  | exact isi_intb
  | exact isi_lst
  | exact isi_tup
  | exact Nat.le_of_ble_eq_true rfl)
local macro_rules | `(tactic| walk_at "ev") => `(tactic| (with_reducible apply ev_divisor_of) <;> walk_at "ev")
local macro_rules | `(tactic| walk_at "ev") => `(tactic| (with_reducible apply ev_multiple_of) <;> walk_at "ev")
local macro_rules | `(tactic| walk_at "ev") => `(tactic| (with_reducible apply ev_divides) <;> walk_at "ev")
local macro_rules | `(tactic| walk_at "ev") => `(tactic| (with_reducible apply ev_do_fit) <;> walk_at "ev")
local macro_rules | `(tactic| walk_at "ev") => `(tactic| (with_reducible apply ev_conflicts_in) <;> walk_at "ev")
local macro_rules | `(tactic| walk_at "ev") => `(tactic| (with_reducible apply ev_is_integer) <;> walk_at "ev")
local macro_rules | `(tactic| walk_at "ev") => `(tactic| (with_reducible apply ev_is_told) <;> walk_at "ev")
local macro_rules | `(tactic| walk_at "ev") => `(tactic| (with_reducible apply ev_is_item) <;> walk_at "ev")
local macro_rules | `(tactic| walk_at "ev") => `(tactic| (with_reducible apply ev_is_book) <;> walk_at "ev")
local macro_rules | `(tactic| walk_at "ev") => `(tactic| (with_reducible apply ev_need_book) <;> walk_at "ev")
local macro_rules | `(tactic| walk_at "ev") => `(tactic| (with_reducible apply ev_conflict_in) <;> walk_at "ev")
local macro_rules | `(tactic| walk_at "ev") => `(tactic| (with_reducible apply ev_need_fitting) <;> walk_at "ev")
local macro_rules | `(tactic| walk_at "ev") => `(tactic| (with_reducible apply ev_need_possible) <;> walk_at "ev")
local macro_rules | `(tactic| walk_at "ev") => `(tactic| (with_reducible apply ev_conflict_of) <;> walk_at "ev")
local macro_rules | `(tactic| walk_at "ev") => `(tactic| (with_reducible apply ev_all_conflicts) <;> walk_at "ev")
local macro_rules | `(tactic| walk_at "ev") => `(tactic| (with_reducible apply ev_need_modulus1) <;> walk_at "ev")
local macro_rules | `(tactic| walk_at "ev") => `(tactic| (with_reducible apply ev_need_modulus2) <;> walk_at "ev")
local macro_rules | `(tactic| walk_at "ev") => `(tactic| (with_reducible apply ev_inverse_of) <;> walk_at "ev")
local macro_rules | `(tactic| walk_at "ev") => `(tactic| (with_reducible apply ev_met) <;> walk_at "ev")
local macro_rules | `(tactic| walk_at "ev") => `(tactic| (with_reducible apply ev_class_by) <;> walk_at "ev")
local macro_rules | `(tactic| walk_at "ev") => `(tactic| (with_reducible apply ev_class_at) <;> walk_at "ev")
local macro_rules | `(tactic| walk_at "ev") => `(tactic| (with_reducible apply ev_can_have) <;> walk_at "ev")
local macro_rules | `(tactic| walk_at "ev") => `(tactic| (with_reducible apply ev_far_in) <;> walk_at "ev")
local macro_rules | `(tactic| walk_at "ev") => `(tactic| (with_reducible apply ev_need_sure) <;> walk_at "ev")
local macro_rules | `(tactic| walk_at "ev") => `(tactic| (with_reducible apply ev_reason_for) <;> walk_at "ev")
local macro_rules | `(tactic| walk_at "ev") => `(tactic| (with_reducible apply ev_are_indices) <;> walk_at "ev")
local macro_rules | `(tactic| walk_at "ev") => `(tactic| (with_reducible apply ev_shows_reason) <;> walk_at "ev")
local macro_rules | `(tactic| walk_at "ev") => `(tactic| (with_reducible apply ev_need_places) <;> walk_at "ev")
local macro_rules | `(tactic| walk_at "ev") => `(tactic| (with_reducible apply ev_need_open) <;> walk_at "ev")
local macro_rules | `(tactic| walk_at "ev") => `(tactic| (with_reducible apply ev_steps_in) <;> walk_at "ev")
local macro_rules | `(tactic| walk_at "ev") => `(tactic| (with_reducible apply ev_size_in) <;> walk_at "ev")
local macro_rules | `(tactic| walk_at "ev") => `(tactic| (with_reducible apply ev_count_in) <;> walk_at "ev")
local macro_rules | `(tactic| walk_at "ev") => `(tactic| (with_reducible apply ev_need_size) <;> walk_at "ev")
local macro_rules | `(tactic| walk_at "ev") => `(tactic| (with_reducible apply ev_step_list) <;> walk_at "ev")
local macro_rules | `(tactic| walk_at "ev") => `(tactic| (with_reducible apply ev_common_size) <;> walk_at "ev")
local macro_rules | `(tactic| walk_at "ev") => `(tactic| (with_reducible apply ev_count_fillings) <;> walk_at "ev")
local macro_rules | `(tactic| walk_at "ev") => `(tactic| (with_reducible apply ev_nth_filling) <;> walk_at "ev")
local macro_rules | `(tactic| walk_at "ev") => `(tactic| (with_reducible apply ev_index_in) <;> walk_at "ev")
local macro_rules | `(tactic| walk_at "ev") => `(tactic| (with_reducible apply ev_filling_index) <;> walk_at "ev")
local macro_rules | `(tactic| walk_at "ev") => `(tactic| (with_reducible apply ev_vectors_in) <;> walk_at "ev")
local macro_rules | `(tactic| walk_at "ev") => `(tactic| (with_reducible apply ev_summed) <;> walk_at "ev")
local macro_rules | `(tactic| walk_at "ev") => `(tactic| (with_reducible apply ev_need_weights) <;> walk_at "ev")
local macro_rules | `(tactic| walk_at "ev") => `(tactic| (with_reducible apply ev_sure_sum) <;> walk_at "ev")
local macro_rules | `(tactic| walk_at "ev") => `(tactic| (with_reducible apply ev_need_asked2) <;> walk_at "ev")
local macro_rules | `(tactic| walk_at "ev") => `(tactic| (with_reducible apply ev_need_asked3) <;> walk_at "ev")
local macro_rules | `(tactic| walk_at "ev") => `(tactic| (with_reducible apply ev_prime_powers) <;> walk_at "ev")
local macro_rules | `(tactic| walk_at "ev") => `(tactic| (with_reducible apply ev_lacking_in) <;> walk_at "ev")
local macro_rules | `(tactic| walk_at "ev") => `(tactic| (with_reducible apply ev_most_lacking) <;> walk_at "ev")
local macro_rules | `(tactic| walk_at "ev") => `(tactic| (with_reducible apply ev_first_lacking) <;> walk_at "ev")
local macro_rules | `(tactic| walk_at "ev") => `(tactic| (with_reducible apply ev_sure_table) <;> walk_at "ev")
local macro_rules | `(tactic| walk_at "ev") => `(tactic| (with_reducible apply ev_fewest_more) <;> walk_at "ev")
local macro_rules | `(tactic| walk_at "ev") => `(tactic| (with_reducible apply ev_are_questions) <;> walk_at "ev")
local macro_rules | `(tactic| walk_at "ev") => `(tactic| (with_reducible apply ev_shows_questions) <;> walk_at "ev")
local macro_rules | `(tactic| walk_at "ev") => `(tactic| (with_reducible apply ev_questions) <;> walk_at "ev")
local macro_rules | `(tactic| walk_at "ev") => `(tactic| (with_reducible apply ev__law_divisor) <;> walk_at "ev")
local macro_rules | `(tactic| walk_at "ev") => `(tactic| (with_reducible apply ev__law_multiple) <;> walk_at "ev")
local macro_rules | `(tactic| walk_at "ev") => `(tactic| (with_reducible apply ev__law_at) <;> walk_at "ev")
local macro_rules | `(tactic| walk_at "ev") => `(tactic| (with_reducible apply ev__law_moved) <;> walk_at "ev")
local macro_rules | `(tactic| walk_at "ev") => `(tactic| (with_reducible apply ev__law_conflicts_right) <;> walk_at "ev")

/-- a book whose places leave room -/
def BkN (b : List (Int × Int)) : Prop := b.length ≤ 16 ∧ (fsts b).Nodup ∧ ∀ s ∈ fsts b, -100000000000000000000000000000 ≤ s ∧ s ≤ 100000000000000000000000000000
theorem ea3 {t1 t2 t3 : TE} {G : Gm} {a b c : D} (h1 : Ep t1 G a) (h2 : Ep t2 G b) (h3 : Ep t3 G c) : Ea (tCons t1 (tCons t2 (tCons t3 tNil))) G [a, b, c] := ea_cons h1 (ea_cons h2 (ea_cons h3 ea_nil))
theorem ea2 {t1 t2 : TE} {G : Gm} {a b : D} (h1 : Ep t1 G a) (h2 : Ep t2 G b) : Ea (tCons t1 (tCons t2 tNil)) G [a, b] := ea_cons h1 (ea_cons h2 ea_nil)
theorem ep_t2 {t1 t2 : TE} {G : Gm} {a b : D} (h1 : Ep t1 G a) (h2 : Ep t2 G b) : Ep (tTup (tCons t1 (tCons t2 tNil))) G (.tuple [a, b]) := ep_tup (ea2 h1 h2) (by show 2 ≤ 100000; decide)

/-! ### _law_values_right -/
abbrev N__law_values_right : List Str := ["_law_purse_here", "_law_book_here", "_law_row_here_here", "_law_more", "_law_up", "_law_down", "_law_spot", "_law_rest", "_law_ring", "_law_mate", "_law_own", "_law_told", "_law_val"]
theorem sc__law_values_right : FnScope N__law_values_right ["_law_purse_here", "_law_book_here", "_law_row_here_here"] (defScope s__law_values_right) := ⟨rfl, rfl, rfl, by decide +kernel, rfl, by decide +kernel, by decide +kernel⟩
abbrev sp__law_values_right : Sp := SpX (α := (List (Int × Int)) × Row) (fun x => (BkN x.1 ∧ RowP x.2) ∧ ∀ more : Int, 0 ≤ more → more < 1000000 → VlOk x.1 x.2 more) (fun x => [bkD x.1, rowDt x.2]) (fun _ d => d = .bool true) 30
theorem cal__law_values_right {P : Program} {w : World} {K : PySem.W.Frag} {mg : Str → Option Value} {base : Heap} (T : Txt K mg) (NS : SeerP P base) : Cal P w K mg base 45 "_law_values_right" sp__law_values_right [] := by
  obtain ⟨fd, F⟩ := T.c.def_ 66 (d := d__law_values_right) rfl
  refine ⟨⟨_, fd, ["_law_purse_here", "_law_book_here", "_law_row_here_here"], [], ?_, T.glo 66, F.kp, F.bindsN (fun _ _ _ _ _ _ us hl => match us, hl with | [_, _, _], _ => rfl), .nil⟩⟩
  refine F.ok sc__law_values_right (fun vs H Q E h => len_ofX (α := (List (Int × Int)) × Row) (C := fun x => (BkN x.1 ∧ RowP x.2) ∧ ∀ more : Int, 0 ≤ more → more < 1000000 → VlOk x.1 x.2 more) (pre := fun x => [bkD x.1, rowDt x.2]) (post := fun _ d => d = .bool true) (k := 30) (p := 2) (fun _ => rfl) vs H Q E h) (fun cdv A outer s H vs Q E hr h => ?_)
  refine ⟨_, PSs.nox (pss_cons (ps_set (i := 3) sc__law_values_right.nd rfl (Or.inr rfl) (pe_c (cal__law_toss T NS) hr (by decide) rfl (pa_cons (pv 0) (pa_cons (pe_op op_pow pe_int pe_int) pa_nil))))
      (pss_cons (ps_setLc (i := 4) (own := [("_law_spot", 6), ("_law_val", 12)]) rfl sc__law_values_right.nd rfl rfl (sw_true rfl rfl rfl (by decide +kernel)) (piL (K := K) (pv 1)) (blkOk_by (N := N__law_values_right) (sc := defScope s__law_values_right) (by decide +kernel)) (fun _ _ _ _ _ => (pgT (K := K) (n := 2) rfl (pgs_cons (pg_name (i := 6) sc__law_values_right.nd rfl (Or.inl rfl)) (pgs_cons (pg_name (i := 12) sc__law_values_right.nd rfl (Or.inl rfl)) pgs_nil)))) (fun _ _ _ _ _ => pts_nil) (fun _ _ _ _ _ => (pe_tup (pa_cons (pv 6) (pa_cons (pe_op op_add (pv 12) (pv 3)) pa_nil)))))
      (pss_cons (ps_setLc (i := 5) (own := [("_law_spot", 6), ("_law_val", 12)]) rfl sc__law_values_right.nd rfl rfl (sw_true rfl rfl rfl (by decide +kernel)) (piL (K := K) (pv 1)) (blkOk_by (N := N__law_values_right) (sc := defScope s__law_values_right) (by decide +kernel)) (fun _ _ _ _ _ => (pgT (K := K) (n := 2) rfl (pgs_cons (pg_name (i := 6) sc__law_values_right.nd rfl (Or.inl rfl)) (pgs_cons (pg_name (i := 12) sc__law_values_right.nd rfl (Or.inl rfl)) pgs_nil)))) (fun _ _ _ _ _ => pts_nil) (fun _ _ _ _ _ => (pe_tup (pa_cons (pv 6) (pa_cons (pe_op op_sub pe_int (pv 12)) pa_nil)))))
      (pss_cons (ps_for PassesOwn.never rfl (piL (K := K) (pe_c (cal__law_new T NS) hr (by decide) rfl (pa_cons (pv 0) (pa_cons (pv 1) (pa_cons (pv 2) (pa_cons pe_int pa_nil)))))) (pg_name (i := 6) sc__law_values_right.nd rfl (Or.inl rfl)) (pss_cons (ps_asg (pe_c (cal_class_at T) hr (by decide) rfl (pa_cons (pv 1) (pa_cons (pv 6) pa_nil))) (pgT (K := K) (n := 2) rfl (pgs_cons (pg_name (i := 7) sc__law_values_right.nd rfl (Or.inl rfl)) (pgs_cons (pg_name (i := 8) sc__law_values_right.nd rfl (Or.inl rfl)) pgs_nil))))
      (pss_cons (ps_if (pt_cmpR (neK (K := K) hr.units) (pe_c (cal_class_at T) hr (by decide) rfl (pa_cons (pv 4) (pa_cons (pv 6) pa_nil))) (pe_tup (pa_cons (pe_op op_mod (pe_callTy k_int rfl (free_int T) bb_int (pa_cons (pe_op op_add (pv 7) (pv 3)) pa_nil)) (pv 8)) (pa_cons (pv 8) pa_nil))) (nomark _)) (pss_one (ps_ret pe_bl)) pss_nil)
      (pss_cons (ps_if (pt_cmpR (neK (K := K) hr.units) (pe_c (cal_class_at T) hr (by decide) rfl (pa_cons (pv 5) (pa_cons (pv 6) pa_nil))) (pe_tup (pa_cons (pe_op op_mod (pe_callTy k_int rfl (free_int T) bb_int (pa_cons (pe_op op_sub pe_int (pv 7)) pa_nil)) (pv 8)) (pa_cons (pv 8) pa_nil))) (nomark _)) (pss_one (ps_ret pe_bl)) pss_nil)
      (pss_cons (ps_for PassesOwn.never rfl (piT (K := K) (pe_tup (pa_cons (pv 4) (pa_cons (pv 5) pa_nil)))) (pg_name (i := 9) sc__law_values_right.nd rfl (Or.inl rfl)) (pss_one (ps_if (pt_cmpR op_notBl (pe_c (cal_can_have T) hr (by decide) rfl (pa_cons (pv 9) (pa_cons (pv 6) (pa_cons (pe_ix (ixT (K := K)) (pe_c (cal_class_at T) hr (by decide) rfl (pa_cons (pv 9) (pa_cons (pv 6) pa_nil))) pe_int (fun _ _ => rfl)) pa_nil)))) pe_bl (nomark _)) (pss_one (ps_ret pe_bl)) pss_nil)))
      (pss_cons (ps_set (i := 10) sc__law_values_right.nd rfl (Or.inl rfl) (pe_c (cal__law_at T) hr (by decide) rfl (pa_cons (pv 2) (pa_cons (pv 6) pa_nil))))
      (pss_cons (ps_set (i := 11) sc__law_values_right.nd rfl (Or.inl rfl) (pe_lst (pa_cons (pe_c (cal_can_have T) hr (by decide) rfl (pa_cons (pv 1) (pa_cons (pv 6) (pa_cons (pv 10) pa_nil)))) (pa_cons (pe_c (cal_can_have T) hr (by decide) rfl (pa_cons (pv 4) (pa_cons (pv 6) (pa_cons (pe_op op_add (pv 10) (pv 3)) pa_nil)))) (pa_cons (pe_c (cal_can_have T) hr (by decide) rfl (pa_cons (pv 5) (pa_cons (pv 6) (pa_cons (pe_op op_sub pe_int (pv 10)) pa_nil)))) pa_nil)))))
      (pss_one (ps_if (pt_cmpR (neK (K := K) hr.units) (pv 11) (pe_op op_rep (pe_lst (pa_cons pe_bl pa_nil)) pe_int) (nomark _)) (pss_one (ps_ret pe_bl)) pss_nil)))))))))
      (pss_one (ps_ret pe_bl)))))), ?_⟩
  refine rd_ofX (α := (List (Int × Int)) × Row) (C := fun x => (BkN x.1 ∧ RowP x.2) ∧ ∀ more : Int, 0 ≤ more → more < 1000000 → VlOk x.1 x.2 more) (pre := fun x => [bkD x.1, rowDt x.2]) (post := fun _ d => d = .bool true) (k := 30) (p := 2) (N := N__law_values_right) (fun _ => rfl) ?rd vs H Q E h
  case rd =>
    intro x n hx hk
    obtain ⟨b, r⟩ := x
    show Sx _ [some .pur, some (.fro (bkD b)), some (.fro (rowDt r)), none, none, none, none, none, none, none, none, none, none] n _ _
    replace hx : (BkN b ∧ RowP r) ∧ ∀ more : Int, 0 ≤ more → more < 1000000 → VlOk b r more := hx
    obtain ⟨⟨hb, hr⟩, hv⟩ := hx
    have bl := hb.1
    have p6 : (10 : Int) ^ (6 : Int).toNat = 1000000 := by decide
    refine sx_seq (M := fun G n' => n' = n + 1 ∧ ∃ more : Int, (0 ≤ more ∧ more < 1000000) ∧ G = [some .pur, some (.fro (bkD b)), some (.fro (rowDt r)), some (.fro (.int more)), none, none, none, none, none, none, none, none, none]) (sx_asgI (k := 1) (evi_mono (evi_toss1 (m := 10 ^ (6 : Int).toNat) rfl (ep_p10 (by decide)) (by decide) (by omega)) fun z hz => by rw [p6] at hz; exact hz) fun z hz => ⟨rfl, z, hz, rfl⟩) ?_
    rintro G n' ⟨rfl, more, hm, rfl⟩
    have V := hv more hm.1 hm.2
    refine sx_seq (M := fun G n' => n' = n + 1 ∧ G = [some .pur, some (.fro (bkD b)), some (.fro (rowDt r)), some (.fro (.int more)), some (.fro (bkD (upB b more))), none, none, none, none, none, none, none, none]) (sx_asg (d := bkD (upB b more)) (ep_new ?_) ⟨rfl, rfl⟩) ?_
    · rw [show (upB b more).map prD = b.map fun q => PyData.tuple [.int q.1, .int (q.2 + more)] by unfold upB; rw [List.map_map]; rfl]
      exact en_m2 b (fun q => .int q.1) (fun q => .int q.2) (fun q => PyData.tuple [.int q.1, .int (q.2 + more)]) (es_list (ep_var rfl)) (fun q hq => ep_t2 (ep_var rfl) (ep_op (ep_var rfl) (ep_var rfl) (od_i (f := fun i j => i + j)))) (by omega)
    rintro G n' ⟨rfl, rfl⟩
    refine sx_seq (M := fun G n' => n' = n + 1 ∧ G = [some .pur, some (.fro (bkD b)), some (.fro (rowDt r)), some (.fro (.int more)), some (.fro (bkD (upB b more))), some (.fro (bkD (downB b))), none, none, none, none, none, none, none]) (sx_asg (d := bkD (downB b)) (ep_new ?_) ⟨rfl, rfl⟩) ?_
    · rw [show (downB b).map prD = b.map fun q => PyData.tuple [.int q.1, .int (0 - q.2)] by unfold downB; rw [List.map_map]; rfl]
      exact en_m2 b (fun q => .int q.1) (fun q => .int q.2) (fun q => PyData.tuple [.int q.1, .int (0 - q.2)]) (es_list (ep_var rfl)) (fun q hq => ep_t2 (ep_var rfl) (ep_op ep_int (ep_var rfl) (od_i (f := fun i j => i - j)))) (by omega)
    rintro G n' ⟨rfl, rfl⟩
    refine sx_seq (M := fun G n' => n' ≤ n + 30 ∧ ∃ a1 a2 a3 a4 a5 a6 a7, G = [some .pur, some (.fro (bkD b)), some (.fro (rowDt r)), some (.fro (.int more)), some (.fro (bkD (upB b more))), some (.fro (bkD (downB b))), a1, a2, a3, a4, a5, a6, a7]) ?_ ?_
    · refine sx_forV (PL := fun ds n' => n' = n + 21 ∧ ∃ ps, ds = ps.map PyData.int ∧ NewP b 4 ps) (fun ds i G n' => n' = n + 21 ∧ (∃ ps, ds = ps.map PyData.int ∧ NewP b 4 ps) ∧ ∃ a1 a2 a3 a4 a5 a6 a7, G = [some .pur, some (.fro (bkD b)), some (.fro (rowDt r)), some (.fro (.int more)), some (.fro (bkD (upB b more))), some (.fro (bkD (downB b))), a1, a2, a3, a4, a5, a6, a7]) (esv_list (P := fun d n' => n' = n + 21 ∧ ∃ ps, d = iD ps ∧ NewP b 4 ps) (ev_callX0 (α := (List (Int × Int)) × Row × Int) (b, r, 4) rfl (ea3 (ep_var rfl) (ep_var rfl) ep_int) rfl ⟨hb, hr, show (1 : Int) ≤ 4 by decide, show (4 : Int) ≤ 4 by decide⟩ (by omega) fun d hd => ⟨by omega, hd⟩) fun d n' ⟨e, ps, e2, h⟩ => ⟨_, e2, e, ps, rfl, h⟩) (fun ds n' ⟨e, h⟩ => ⟨e, h, none, none, none, none, none, none, none, rfl⟩) ?_ (fun ds G n' ⟨e, _, h⟩ => ⟨by omega, h⟩)
      rintro ds i x G n' hx ⟨rfl, ⟨ps, rfl, hP⟩, a1, a2, a3, a4, a5, a6, a7, rfl⟩
      rw [List.getElem?_map] at hx
      cases q : ps[i]? with
      | none => rw [q] at hx; cases hx
      | some p =>
        rw [q] at hx
        cases hx
        have hp : p ∈ ps := List.mem_of_getElem? q
        have pr := hP.rg p hp
        have pn : p ∉ b.map (·.1) := fun z => (List.nodup_append.mp hP.nd).2.2 p hp p z rfl
        obtain ⟨c0, cu, cd, v1, v2, v3⟩ := V.cl p pr pn
        have pP : Pl p := ⟨by omega, by omega⟩
        refine ⟨_, _, tg_name, ?_⟩
        show Sx _ [some .pur, some (.fro (bkD b)), some (.fro (rowDt r)), some (.fro (.int more)), some (.fro (bkD (upB b more))), some (.fro (bkD (downB b))), some (.fro (.int p)), a2, a3, a4, a5, a6, a7] _ _ _
        generalize hc : classF b p = c at *
        refine sx_seq (M := fun G n' => n' = n + 21 ∧ G = [some .pur, some (.fro (bkD b)), some (.fro (rowDt r)), some (.fro (.int more)), some (.fro (bkD (upB b more))), some (.fro (bkD (downB b))), some (.fro (.int p)), some (.fro (.int c.1)), some (.fro (.int c.2)), a4, a5, a6, a7]) (sx_tgt (d := prD c) (by rw [← hc]; exact ev_class_at (ea2 (ep_var rfl) (ep_var rfl)) ⟨V.bk, pP⟩) tg_two ⟨rfl, rfl⟩) ?_
        rintro G n' ⟨rfl, rfl⟩
        refine sx_seq (M := fun G n' => n' = n + 21 ∧ G = [some .pur, some (.fro (bkD b)), some (.fro (rowDt r)), some (.fro (.int more)), some (.fro (bkD (upB b more))), some (.fro (bkD (downB b))), some (.fro (.int p)), some (.fro (.int c.1)), some (.fro (.int c.2)), a4, a5, a6, a7]) (sx_if (b := !PyData.eqv (prD (classF (upB b more) p)) (prD ((c.1 + more) % c.2, c.2))) (et_test (ep_op (ev_class_at (ea2 (ep_var rfl) (ep_var rfl)) ⟨V.bu, pP⟩) (ep_t2 (ep_op (ep_int1 (ep_op (ep_var rfl) (ep_var rfl) (od_i (f := fun i j => i + j)))) (ep_var rfl) (od_c c0)) (ep_var rfl)) (od_neD (sh_prD _) (sh_prD _)))) (fun z => ?_) (fun _ => sx_next ⟨rfl, rfl⟩)) ?_
        · rw [cu, eqv_pr, decide_eq_true rfl] at z
          cases z
        rintro G n' ⟨rfl, rfl⟩
        refine sx_seq (M := fun G n' => n' = n + 21 ∧ G = [some .pur, some (.fro (bkD b)), some (.fro (rowDt r)), some (.fro (.int more)), some (.fro (bkD (upB b more))), some (.fro (bkD (downB b))), some (.fro (.int p)), some (.fro (.int c.1)), some (.fro (.int c.2)), a4, a5, a6, a7]) (sx_if (b := !PyData.eqv (prD (classF (downB b) p)) (prD ((0 - c.1) % c.2, c.2))) (et_test (ep_op (ev_class_at (ea2 (ep_var rfl) (ep_var rfl)) ⟨V.bd, pP⟩) (ep_t2 (ep_op (ep_int1 (ep_op ep_int (ep_var rfl) (od_i (f := fun i j => i - j)))) (ep_var rfl) (od_c c0)) (ep_var rfl)) (od_neD (sh_prD _) (sh_prD _)))) (fun z => ?_) (fun _ => sx_next ⟨rfl, rfl⟩)) ?_
        · rw [cd, eqv_pr, decide_eq_true rfl] at z
          cases z
        rintro G n' ⟨rfl, rfl⟩
        refine sx_seq (M := fun G n' => n' = n + 21 ∧ ∃ a4, G = [some .pur, some (.fro (bkD b)), some (.fro (rowDt r)), some (.fro (.int more)), some (.fro (bkD (upB b more))), some (.fro (bkD (downB b))), some (.fro (.int p)), some (.fro (.int c.1)), some (.fro (.int c.2)), a4, a5, a6, a7]) ?_ ?_
        · refine sx_forP [upB b more, downB b] bkD (fun _ G n' => n' = n + 21 ∧ ∃ a4, G = [some .pur, some (.fro (bkD b)), some (.fro (rowDt r)), some (.fro (.int more)), some (.fro (bkD (upB b more))), some (.fro (bkD (downB b))), some (.fro (.int p)), some (.fro (.int c.1)), some (.fro (.int c.2)), a4, a5, a6, a7]) (es_tup (ep_t2 (ep_var rfl) (ep_var rfl))) ⟨rfl, a4, rfl⟩ ?_ (fun _ _ h => h)
          rintro pr2 mt po G n' e0 ⟨rfl, a4, rfl⟩
          have hmt : mt = upB b more ∨ mt = downB b := by
            have : mt ∈ [upB b more, downB b] := by rw [e0]; simp
            simpa using this
          have bm : Bk mt ∧ confs mt = [] := by
            rcases hmt with e | e
            · rw [e]; exact V.bu
            · rw [e]; exact V.bd
          refine ⟨_, _, tg_name, ?_⟩
          show Sx _ [some .pur, some (.fro (bkD b)), some (.fro (rowDt r)), some (.fro (.int more)), some (.fro (bkD (upB b more))), some (.fro (bkD (downB b))), some (.fro (.int p)), some (.fro (.int c.1)), some (.fro (.int c.2)), some (.fro (bkD mt)), a5, a6, a7] _ _ _
          refine sx_if (b := !decide (decide ((classF mt p).2 ∣ (classF mt p).1 - (classF mt p).1) = true)) (et_test (ep_op (ev_can_have (ea3 (ep_var rfl) (ep_var rfl) (ep_op (d1 := prD (classF mt p)) (ev_class_at (ea2 (ep_var rfl) (ep_var rfl)) ⟨bm, pP⟩) ep_int od_ixT0)) ⟨bm, pP⟩) ep_bl od_notB)) (fun z => ?_) (fun _ => sx_next ⟨rfl, _, rfl⟩)
          rw [Int.sub_self, decide_eq_true (Int.dvd_zero _)] at z
          cases z
        rintro G n' ⟨rfl, a4, rfl⟩
        refine sx_seq (M := fun G n' => n' = n + 21 ∧ G = [some .pur, some (.fro (bkD b)), some (.fro (rowDt r)), some (.fro (.int more)), some (.fro (bkD (upB b more))), some (.fro (bkD (downB b))), some (.fro (.int p)), some (.fro (.int c.1)), some (.fro (.int c.2)), a4, some (.fro (.int (atF r.own r.sh p))), a6, a7]) (sx_asg (d := .int (atF r.own r.sh p)) (ev__law_at (ea2 (ep_var rfl) (ep_var rfl)) ⟨hr.ok, sm_lit ⟨by omega, by omega⟩⟩) ⟨rfl, rfl⟩) ?_
        rintro G n' ⟨rfl, rfl⟩
        generalize atF r.own r.sh p = o at *
        refine sx_seq (M := fun G n' => n' = n + 21 ∧ G = [some .pur, some (.fro (bkD b)), some (.fro (rowDt r)), some (.fro (.int more)), some (.fro (bkD (upB b more))), some (.fro (bkD (downB b))), some (.fro (.int p)), some (.fro (.int c.1)), some (.fro (.int c.2)), a4, some (.fro (.int o)), some (.fro (.list [.bool true, .bool true, .bool true])), a7]) (sx_asg (d := .list [.bool true, .bool true, .bool true]) (ep_new (en_lst (ea3 ?_ ?_ ?_) (by show 3 ≤ 100000; decide))) ⟨rfl, rfl⟩) ?_
        · rw [show PyData.bool true = .bool (decide ((classF b p).2 ∣ o - (classF b p).1)) by rw [hc, decide_eq_true v1]]
          exact ev_can_have (ea3 (ep_var rfl) (ep_var rfl) (ep_var rfl)) ⟨V.bk, pP⟩
        · rw [show PyData.bool true = .bool (decide ((classF (upB b more) p).2 ∣ o + more - (classF (upB b more) p).1)) by rw [decide_eq_true v2]]
          exact ev_can_have (ea3 (ep_var rfl) (ep_var rfl) (ep_op (ep_var rfl) (ep_var rfl) (od_i (f := fun i j => i + j)))) ⟨V.bu, pP⟩
        · rw [show PyData.bool true = .bool (decide ((classF (downB b) p).2 ∣ 0 - o - (classF (downB b) p).1)) by rw [decide_eq_true v3]]
          exact ev_can_have (ea3 (ep_var rfl) (ep_var rfl) (ep_op ep_int (ep_var rfl) (od_i (f := fun i j => i - j)))) ⟨V.bd, pP⟩
        rintro G n' ⟨rfl, rfl⟩
        have ev3 : PyData.eqv (.list [.bool true, .bool true, .bool true]) (.list (List.replicate 3 [PyData.bool true]).flatten) = true := by decide
        have sh3 : SeqAt.shaped (.list [.bool true, .bool true, .bool true]) = true := by decide
        refine sx_if (b := !PyData.eqv (.list [.bool true, .bool true, .bool true]) (.list (List.replicate 3 [PyData.bool true]).flatten)) (et_test (ep_op (ep_var rfl) (ep_new (en_repN (xs := [.bool true]) (k := 3) (ep_new (en_lst (ea_cons ep_bl ea_nil) (by decide))) ep_int (by decide) (by decide))) (od_neD sh3 sh3))) (fun z => ?_) (fun _ => sx_next ⟨rfl, ⟨ps, rfl, hP⟩, _, _, _, _, _, _, _, rfl⟩)
        rw [ev3] at z
        cases z
    · rintro G n' ⟨hn, a1, a2, a3, a4, a5, a6, a7, rfl⟩
      exact sx_ret (d := .bool true) ep_bl ⟨hn, rfl⟩
end Kr
end
section
namespace Kr
open PySem L2
open Evl (Ex)
open C8 (Cal pe_c)
local macro_rules | `(tactic| walk_at "ev") => `(tactic| skip)
local macro_rules | `(tactic| walk_at "ev") => `(tactic| first
  | with_reducible exact ep_int
  | with_reducible exact ep_bl
  | with_reducible exact ep_non
  | with_reducible exact ea_nil
  | with_reducible exact et_yes
  | with_reducible exact eo_no
  | ((with_reducible apply ep_var); rfl)
  | (with_reducible apply ea_cons) <;> walk_at "ev"
  | (with_reducible apply ep_op) <;> walk_at "ev"
  | (with_reducible apply ep_un) <;> walk_at "ev"
  | (with_reducible apply ep_isi) <;> walk_at "ev"
  | ((with_reducible apply ep_lenV); rfl)
  | (with_reducible apply ep_len) <;> walk_at "ev"
  | (with_reducible apply ep_abs) <;> walk_at "ev"
  | (with_reducible apply ep_int1) <;> walk_at "ev"
  | (with_reducible apply ep_max2) <;> walk_at "ev"
  | (with_reducible apply ep_min2) <;> walk_at "ev"
  | (with_reducible apply et_test) <;> walk_at "ev"
  | (with_reducible apply et_B) <;> walk_at "ev"
  | (with_reducible apply et_not) <;> walk_at "ev"
  | (with_reducible apply ep_notV) <;> walk_at "ev"
  | (with_reducible apply ep_tup) <;> walk_at "ev"
  | (with_reducible apply eo_part) <;> walk_at "ev"
  | with_reducible exact od_i
  | with_reducible exact od_b
  | with_reducible exact od_eqI
  | with_reducible exact od_neI
  | with_reducible exact od_isN
  | with_reducible exact od_notN
  | with_reducible exact od_notB
  | with_reducible apply od_c
  | with_reducible exact od_ixT0
  | with_reducible exact od_ixT1
  | with_reducible exact od_ixL0
  | with_reducible exact od_ixL1
  | with_reducible exact od_ixL2
  | with_reducible apply od_ixL
  | with_reducible apply od_ixT
  | with_reducible exact ud_neg
  | (with_reducible refine' et_or ?_ (fun _ => ?_)) <;> walk_at "ev"
  | (with_reducible refine' et_and ?_ (fun _ => ?_)) <;> walk_at "ev"
  | (with_reducible refine' ep_orV ?_ (fun _ => ?_)) <;> walk_at "ev"
  | (with_reducible refine' ep_andV ?_ (fun _ => ?_)) <;> walk_at "ev"
  | (with_reducible refine' ep_chain ?_ ?_ ?_ (fun _ => ?_) (fun _ => ?_)) <;> walk_at "ev"
  | exact isi_int
  | exact isi_intb
  | exact isi_lst
  | exact isi_tup
  | exact Nat.le_of_ble_eq_true rfl)
local macro_rules | `(tactic| walk_at "ev") => `(tactic| (with_reducible apply ev_divisor_of) <;> walk_at "ev")
local macro_rules | `(tactic| walk_at "ev") => `(tactic| (with_reducible apply ev_multiple_of) <;> walk_at "ev")
local macro_rules | `(tactic| walk_at "ev") => `(tactic| (with_reducible apply ev_divides) <;> walk_at "ev")
local macro_rules | `(tactic| walk_at "ev") => `(tactic| (with_reducible apply ev_do_fit) <;> walk_at "ev")
local macro_rules | `(tactic| walk_at "ev") => `(tactic| (with_reducible apply ev_conflicts_in) <;> walk_at "ev")
local macro_rules | `(tactic| walk_at "ev") => `(tactic| (with_reducible apply ev_is_integer) <;> walk_at "ev")
local macro_rules | `(tactic| walk_at "ev") => `(tactic| (with_reducible apply ev_is_told) <;> walk_at "ev")
local macro_rules | `(tactic| walk_at "ev") => `(tactic| (with_reducible apply ev_is_item) <;> walk_at "ev")
local macro_rules | `(tactic| walk_at "ev") => `(tactic| (with_reducible apply ev_is_book) <;> walk_at "ev")
local macro_rules | `(tactic| walk_at "ev") => `(tactic| (with_reducible apply ev_need_book) <;> walk_at "ev")
local macro_rules | `(tactic| walk_at "ev") => `(tactic| (with_reducible apply ev_conflict_in) <;> walk_at "ev")
local macro_rules | `(tactic| walk_at "ev") => `(tactic| (with_reducible apply ev_need_fitting) <;> walk_at "ev")
local macro_rules | `(tactic| walk_at "ev") => `(tactic| (with_reducible apply ev_need_possible) <;> walk_at "ev")
local macro_rules | `(tactic| walk_at "ev") => `(tactic| (with_reducible apply ev_conflict_of) <;> walk_at "ev")
local macro_rules | `(tactic| walk_at "ev") => `(tactic| (with_reducible apply ev_all_conflicts) <;> walk_at "ev")
local macro_rules | `(tactic| walk_at "ev") => `(tactic| (with_reducible apply ev_need_modulus1) <;> walk_at "ev")
local macro_rules | `(tactic| walk_at "ev") => `(tactic| (with_reducible apply ev_need_modulus2) <;> walk_at "ev")
local macro_rules | `(tactic| walk_at "ev") => `(tactic| (with_reducible apply ev_inverse_of) <;> walk_at "ev")
local macro_rules | `(tactic| walk_at "ev") => `(tactic| (with_reducible apply ev_met) <;> walk_at "ev")
local macro_rules | `(tactic| walk_at "ev") => `(tactic| (with_reducible apply ev_class_by) <;> walk_at "ev")
local macro_rules | `(tactic| walk_at "ev") => `(tactic| (with_reducible apply ev_class_at) <;> walk_at "ev")
local macro_rules | `(tactic| walk_at "ev") => `(tactic| (with_reducible apply ev_can_have) <;> walk_at "ev")
local macro_rules | `(tactic| walk_at "ev") => `(tactic| (with_reducible apply ev_far_in) <;> walk_at "ev")
local macro_rules | `(tactic| walk_at "ev") => `(tactic| (with_reducible apply ev_need_sure) <;> walk_at "ev")
local macro_rules | `(tactic| walk_at "ev") => `(tactic| (with_reducible apply ev_reason_for) <;> walk_at "ev")
local macro_rules | `(tactic| walk_at "ev") => `(tactic| (with_reducible apply ev_are_indices) <;> walk_at "ev")
local macro_rules | `(tactic| walk_at "ev") => `(tactic| (with_reducible apply ev_shows_reason) <;> walk_at "ev")
local macro_rules | `(tactic| walk_at "ev") => `(tactic| (with_reducible apply ev_need_places) <;> walk_at "ev")
local macro_rules | `(tactic| walk_at "ev") => `(tactic| (with_reducible apply ev_need_open) <;> walk_at "ev")
local macro_rules | `(tactic| walk_at "ev") => `(tactic| (with_reducible apply ev_steps_in) <;> walk_at "ev")
local macro_rules | `(tactic| walk_at "ev") => `(tactic| (with_reducible apply ev_size_in) <;> walk_at "ev")
local macro_rules | `(tactic| walk_at "ev") => `(tactic| (with_reducible apply ev_count_in) <;> walk_at "ev")
local macro_rules | `(tactic| walk_at "ev") => `(tactic| (with_reducible apply ev_need_size) <;> walk_at "ev")
local macro_rules | `(tactic| walk_at "ev") => `(tactic| (with_reducible apply ev_step_list) <;> walk_at "ev")
local macro_rules | `(tactic| walk_at "ev") => `(tactic| (with_reducible apply ev_common_size) <;> walk_at "ev")
local macro_rules | `(tactic| walk_at "ev") => `(tactic| (with_reducible apply ev_count_fillings) <;> walk_at "ev")
local macro_rules | `(tactic| walk_at "ev") => `(tactic| (with_reducible apply ev_nth_filling) <;> walk_at "ev")
local macro_rules | `(tactic| walk_at "ev") => `(tactic| (with_reducible apply ev_index_in) <;> walk_at "ev")
local macro_rules | `(tactic| walk_at "ev") => `(tactic| (with_reducible apply ev_filling_index) <;> walk_at "ev")
local macro_rules | `(tactic| walk_at "ev") => `(tactic| (with_reducible apply ev_vectors_in) <;> walk_at "ev")
local macro_rules | `(tactic| walk_at "ev") => `(tactic| (with_reducible apply ev_summed) <;> walk_at "ev")
local macro_rules | `(tactic| walk_at "ev") => `(tactic| (with_reducible apply ev_need_weights) <;> walk_at "ev")
local macro_rules | `(tactic| walk_at "ev") => `(tactic| (with_reducible apply ev_sure_sum) <;> walk_at "ev")
local macro_rules | `(tactic| walk_at "ev") => `(tactic| (with_reducible apply ev_need_asked2) <;> walk_at "ev")
local macro_rules | `(tactic| walk_at "ev") => `(tactic| (with_reducible apply ev_need_asked3) <;> walk_at "ev")
local macro_rules | `(tactic| walk_at "ev") => `(tactic| (with_reducible apply ev_prime_powers) <;> walk_at "ev")
local macro_rules | `(tactic| walk_at "ev") => `(tactic| (with_reducible apply ev_lacking_in) <;> walk_at "ev")
local macro_rules | `(tactic| walk_at "ev") => `(tactic| (with_reducible apply ev_most_lacking) <;> walk_at "ev")
local macro_rules | `(tactic| walk_at "ev") => `(tactic| (with_reducible apply ev_first_lacking) <;> walk_at "ev")
local macro_rules | `(tactic| walk_at "ev") => `(tactic| (with_reducible apply ev_sure_table) <;> walk_at "ev")
local macro_rules | `(tactic| walk_at "ev") => `(tactic| (with_reducible apply ev_fewest_more) <;> walk_at "ev")
local macro_rules | `(tactic| walk_at "ev") => `(tactic| (with_reducible apply ev_are_questions) <;> walk_at "ev")
local macro_rules | `(tactic| walk_at "ev") => `(tactic| (with_reducible apply ev_shows_questions) <;> walk_at "ev")
local macro_rules | `(tactic| walk_at "ev") => `(tactic| (with_reducible apply ev_questions) <;> walk_at "ev")
local macro_rules | `(tactic| walk_at "ev") => `(tactic| (with_reducible apply ev__law_divisor) <;> walk_at "ev")
local macro_rules | `(tactic| walk_at "ev") => `(tactic| (with_reducible apply ev__law_multiple) <;> walk_at "ev")
local macro_rules | `(tactic| walk_at "ev") => `(tactic| (with_reducible apply ev__law_at) <;> walk_at "ev")
local macro_rules | `(tactic| walk_at "ev") => `(tactic| (with_reducible apply ev__law_moved) <;> walk_at "ev")
local macro_rules | `(tactic| walk_at "ev") => `(tactic| (with_reducible apply ev__law_conflicts_right) <;> walk_at "ev")

theorem tabF_len {b : List (Int × Int)} {m : Int} : (tabF b m).length = m.toNat := by unfold tabF; rw [List.length_map, List.length_range]
theorem quesF_sm {b : List (Int × Int)} {m : Int} (hm : 1 ≤ m ∧ m ≤ 30) : (quesF b m).length ≤ 30 ∧ ∀ x ∈ quesF b m, Sm 100 x := by
  have hb := most_bd (ps := b.map (·.1)) hm
  refine ⟨?_, fun x hx => ?_⟩
  · unfold quesF
    rw [List.length_map, List.length_range]
    omega
  · obtain ⟨n, _, rfl⟩ := List.mem_map.mp hx
    have ok := ques_ok (ps := b.map (·.1)) (many := mostF (b.map (·.1)) m) (n := n) (ppF m) (pp_ok hm).1
    have hl := (pp_ok hm).2
    exact (sm_le ok.2 ok.1.1 (Int.le_of_lt ok.1.2)).mono (by omega)
theorem ep_there {te : TE} {ti : TI} {vs : List Nat} {i : Nat} {G : Gm} {ps : List Int} {far sg : Int} (hs : Es ti G (ps.map PyData.int)) (hx : ∀ x ∈ ps, Ep te ((wpG G vs).set i (some (.fro (.int x)))) (.int (sg * x + far))) (hz : ps.length ≤ 100000) (hi : i ∈ vs) : Ep (tLc ti (gName i) tYes te vs) G (iD (thereF ps far sg)) := by
  refine ep_new ?_
  unfold thereF
  rw [map_int (fun p => sg * p + far)]
  exact en_m1 ps (fun x => PyData.int x) (fun x => PyData.int (sg * x + far)) hs hx hz hi
theorem no_ne (d : PyData) (e : PyData.eqv d d = true) (h : (!PyData.eqv d d) = true) : False := by rw [e] at h; cases h

/-! ### _law_right -/
abbrev N__law_right : List Str := ["_law_purse_here", "_law_row_here_here", "_law_book_here", "_law_far", "_law_fresh", "_law_modulo", "_law_sign", "_law_mate", "_law_there", "_law_whole", "_law_place", "_law_told", "_law_factors", "_law_table_here", "_law_moved_here", "_law_asked", "_law_some", "_law_turned", "_law_spot", "_law_rest", "_law_k"]
theorem sc__law_right : FnScope N__law_right ["_law_purse_here", "_law_row_here_here", "_law_book_here", "_law_far"] (defScope s__law_right) := ⟨rfl, rfl, rfl, by decide +kernel, rfl, by decide +kernel, by decide +kernel⟩
abbrev sp__law_right : Sp := SpX (α := Row × (List (Int × Int)) × Int) (fun x => (BkN x.2.1 ∧ RowP x.1) ∧ (Bk x.2.1 ∧ confs x.2.1 = []) ∧ ∀ (ps : List Int) (m sg : Int), NewP x.2.1 3 ps → (1 ≤ m ∧ m ≤ 30) → sg = 1 ∨ sg = -1 → RtOk x.2.1 x.2.2 sg m ps) (fun x => [rowDt x.1, bkD x.2.1, .int x.2.2]) (fun _ d => d = .bool true) 40
theorem cal__law_right {P : Program} {w : World} {K : PySem.W.Frag} {mg : Str → Option Value} {base : Heap} (T : Txt K mg) (NS : SeerP P base) : Cal P w K mg base 45 "_law_right" sp__law_right [] := by
  obtain ⟨fd, F⟩ := T.c.def_ 65 (d := d__law_right) rfl
  refine ⟨⟨_, fd, ["_law_purse_here", "_law_row_here_here", "_law_book_here", "_law_far"], [], ?_, T.glo 65, F.kp, F.bindsN (fun _ _ _ _ _ _ us hl => match us, hl with | [_, _, _, _], _ => rfl), .nil⟩⟩
  refine F.ok sc__law_right (fun vs H Q E h => len_ofX (α := Row × (List (Int × Int)) × Int) (C := fun x => (BkN x.2.1 ∧ RowP x.1) ∧ (Bk x.2.1 ∧ confs x.2.1 = []) ∧ ∀ (ps : List Int) (m sg : Int), NewP x.2.1 3 ps → (1 ≤ m ∧ m ≤ 30) → sg = 1 ∨ sg = -1 → RtOk x.2.1 x.2.2 sg m ps) (pre := fun x => [rowDt x.1, bkD x.2.1, .int x.2.2]) (post := fun _ d => d = .bool true) (k := 40) (p := 3) (fun _ => rfl) vs H Q E h) (fun cdv A outer s H vs Q E hr h => ?_)
  refine ⟨_, PSs.nox (pss_cons (ps_asg (pe_tup (pa_cons (pe_c (cal__law_new T NS) hr (by decide) rfl (pa_cons (pv 0) (pa_cons (pv 2) (pa_cons (pv 1) (pa_cons pe_int pa_nil))))) (pa_cons (pe_op op_add pe_int (pe_c (cal__law_toss T NS) hr (by decide) rfl (pa_cons (pv 0) (pa_cons pe_int pa_nil)))) pa_nil))) (pgT (K := K) (n := 2) rfl (pgs_cons (pg_name (i := 4) sc__law_right.nd rfl (Or.inl rfl)) (pgs_cons (pg_name (i := 5) sc__law_right.nd rfl (Or.inr rfl)) pgs_nil))))
      (pss_cons (ps_for PassesOwn.never rfl (piT (K := K) (pe_tup (pa_cons pe_int (pa_cons (pe_un un_neg pe_int) pa_nil)))) (pg_name (i := 6) sc__law_right.nd rfl (Or.inr rfl)) (pss_cons (ps_asg (pe_tup (pa_cons (pe_c (cal__law_moved T) hr (by decide) rfl (pa_cons (pv 2) (pa_cons (pv 3) (pa_cons (pv 6) pa_nil)))) (pa_cons (pe_lc (own := [("_law_spot", 18)]) rfl sc__law_right.nd (piL (K := K) (pv 4)) (blkOk_by (N := N__law_right) (sc := defScope s__law_right) (by decide +kernel)) (fun _ _ _ _ _ => (pg_name (i := 18) sc__law_right.nd rfl (Or.inl rfl))) (fun _ _ _ _ _ => pts_nil) (fun _ _ _ _ _ => (pe_op op_add (pe_op op_mulW (pv 6) (pv 18)) (pv 3)))) pa_nil))) (pgT (K := K) (n := 2) rfl (pgs_cons (pg_name (i := 7) sc__law_right.nd rfl (Or.inr rfl)) (pgs_cons (pg_name (i := 8) sc__law_right.nd rfl (Or.inl rfl)) pgs_nil))))
      (pss_cons (ps_if (pt_cmpR (neK (K := K) hr.units) (pe_lc (own := [("_law_spot", 18)]) rfl sc__law_right.nd (piL (K := K) (pv 8)) (blkOk_by (N := N__law_right) (sc := defScope s__law_right) (by decide +kernel)) (fun _ _ _ _ _ => (pg_name (i := 18) sc__law_right.nd rfl (Or.inl rfl))) (fun _ _ _ _ _ => pts_nil) (fun _ _ _ _ _ => (pe_c (cal_class_at T) hr (by decide) rfl (pa_cons (pv 7) (pa_cons (pv 18) pa_nil))))) (pe_lc (own := [("_law_spot", 18)]) rfl sc__law_right.nd (piL (K := K) (pv 4)) (blkOk_by (N := N__law_right) (sc := defScope s__law_right) (by decide +kernel)) (fun _ _ _ _ _ => (pg_name (i := 18) sc__law_right.nd rfl (Or.inl rfl))) (fun _ _ _ _ _ => pts_nil) (fun _ _ _ _ _ => (pe_c (cal_class_at T) hr (by decide) rfl (pa_cons (pv 2) (pa_cons (pv 18) pa_nil))))) (nomark _)) (pss_one (ps_ret pe_bl)) pss_nil)
      (pss_cons (ps_set (i := 9) sc__law_right.nd rfl (Or.inl rfl) (pe_c (cal_common_size T) hr (by decide) rfl (pa_cons (pv 2) (pa_cons (pv 4) pa_nil))))
      (pss_cons (ps_if (PW.pt (pw_or (pt_cmpR (neK (K := K) hr.units) (pe_c (cal_step_list T) hr (by decide) rfl (pa_cons (pv 7) (pa_cons (pv 8) pa_nil))) (pe_c (cal_step_list T) hr (by decide) rfl (pa_cons (pv 2) (pa_cons (pv 4) pa_nil))) (nomark _)) (pw_or1 (pt_cmpR op_ne (pe_c (cal_common_size T) hr (by decide) rfl (pa_cons (pv 7) (pa_cons (pv 8) pa_nil))) (pv 9) (nomark _))))) (pss_one (ps_ret pe_bl)) pss_nil)
      (pss_cons (ps_set (i := 10) sc__law_right.nd rfl (Or.inl rfl) (pe_c (cal__law_toss T NS) hr (by decide) rfl (pa_cons (pv 0) (pa_cons (pe_c (cal_count_fillings T) hr (by decide) rfl (pa_cons (pv 2) (pa_cons (pv 4) (pa_cons (pv 9) pa_nil)))) pa_nil))))
      (pss_cons (ps_set (i := 11) sc__law_right.nd rfl (Or.inl rfl) (pe_c (cal_nth_filling T) hr (by decide) rfl (pa_cons (pv 2) (pa_cons (pv 4) (pa_cons (pv 9) (pa_cons (pv 10) pa_nil))))))
      (pss_cons (ps_if (PW.pt (pw_or (pt_cmpR (neK (K := K) hr.units) (pe_c (cal_nth_filling T) hr (by decide) rfl (pa_cons (pv 7) (pa_cons (pv 8) (pa_cons (pv 9) (pa_cons (pv 10) pa_nil))))) (pv 11) (nomark _)) (pw_or1 (pt_cmpR op_ne (pe_c (cal_filling_index T) hr (by decide) rfl (pa_cons (pv 7) (pa_cons (pv 8) (pa_cons (pv 9) (pa_cons (pv 11) pa_nil))))) (pv 10) (nomark _))))) (pss_one (ps_ret pe_bl)) pss_nil)
      (pss_cons (ps_setLc (i := 12) (own := [("_law_spot", 18)]) rfl sc__law_right.nd rfl rfl (sw_true rfl rfl rfl (by decide +kernel)) (piL (K := K) (pv 4)) (blkOk_by (N := N__law_right) (sc := defScope s__law_right) (by decide +kernel)) (fun _ _ _ _ _ => (pg_name (i := 18) sc__law_right.nd rfl (Or.inl rfl))) (fun _ _ _ _ _ => pts_nil) (fun _ _ _ _ _ => (pe_op op_sub (pe_c (cal__law_toss T NS) hr (by decide) rfl (pa_cons (pv 0) (pa_cons pe_int pa_nil))) pe_int)))
      (pss_cons (ps_if (pt_cmpR (neK (K := K) hr.units) (pe_c (cal_sure_sum T) hr (by decide) rfl (pa_cons (pv 7) (pa_cons (pv 8) (pa_cons (pv 12) pa_nil)))) (pe_c (cal_sure_sum T) hr (by decide) rfl (pa_cons (pv 2) (pa_cons (pv 4) (pa_cons (pv 12) pa_nil)))) (nomark _)) (pss_one (ps_ret pe_bl)) pss_nil)
      (pss_cons (ps_asg (pe_tup (pa_cons (pe_c (cal_sure_table T) hr (by decide) rfl (pa_cons (pv 2) (pa_cons (pv 5) pa_nil))) (pa_cons (pe_c (cal_sure_table T) hr (by decide) rfl (pa_cons (pv 7) (pa_cons (pv 5) pa_nil))) pa_nil))) (pgT (K := K) (n := 2) rfl (pgs_cons (pg_name (i := 13) sc__law_right.nd rfl (Or.inl rfl)) (pgs_cons (pg_name (i := 14) sc__law_right.nd rfl (Or.inr rfl)) pgs_nil))))
      (pss_cons (ps_if (pt_cmpR (neK (K := K) hr.units) (pe_lc (own := [("_law_rest", 19)]) rfl sc__law_right.nd (pi_range1 rfl (free_range T) (pa_cons (pv 5) pa_nil)) (blkOk_by (N := N__law_right) (sc := defScope s__law_right) (by decide +kernel)) (fun _ _ _ _ _ => (pg_name (i := 19) sc__law_right.nd rfl (Or.inl rfl))) (fun _ _ _ _ _ => pts_nil) (fun _ _ _ _ _ => (pe_ix (ixL (K := K)) (pv 14) (pe_op op_mod (pe_callTy k_int rfl (free_int T) bb_int (pa_cons (pe_op op_add (pe_op op_mulW (pv 6) (pv 19)) (pv 3)) pa_nil)) (pv 5)) (fun _ _ => rfl)))) (pv 13) (nomark _)) (pss_one (ps_ret pe_bl)) pss_nil)
      (pss_cons (ps_set (i := 15) sc__law_right.nd rfl (Or.inl rfl) (pe_c (cal_questions T) hr (by decide) rfl (pa_cons (pv 2) (pa_cons (pv 5) pa_nil))))
      (pss_cons (ps_if (pt_cmpR op_ne (pe_c (cal_fewest_more T) hr (by decide) rfl (pa_cons (pv 7) (pa_cons (pv 5) pa_nil))) (pe_callB (lenK (K := K)) rfl (free_len T) bb_len (pa_cons (pv 15) pa_nil)) (nomark _)) (pss_one (ps_ret pe_bl)) pss_nil)
      (pss_cons (ps_if (pt_not (pt_val (pe_c (cal_shows_questions T) hr (by decide) rfl (pa_cons (pv 7) (pa_cons (pv 5) (pa_cons (pe_lc (own := [("_law_spot", 18)]) rfl sc__law_right.nd (piL (K := K) (pv 15)) (blkOk_by (N := N__law_right) (sc := defScope s__law_right) (by decide +kernel)) (fun _ _ _ _ _ => (pg_name (i := 18) sc__law_right.nd rfl (Or.inl rfl))) (fun _ _ _ _ _ => pts_nil) (fun _ _ _ _ _ => (pe_op op_add (pe_op op_mulW (pv 6) (pv 18)) (pv 3)))) pa_nil)))))) (pss_one (ps_ret pe_bl)) pss_nil)
      (pss_cons (ps_set (i := 16) sc__law_right.nd rfl (Or.inl rfl) (pe_c (cal_reason_for T) hr (by decide) rfl (pa_cons (pv 2) (pa_cons (pe_ix (ixL (K := K)) (pv 4) pe_int (fun _ _ => rfl)) (pa_cons (pv 5) pa_nil)))))
      (pss_one (ps_if (pt_cmpR op_notN (pv 16) pe_non (nomark _)) (pss_cons (ps_set (i := 17) sc__law_right.nd rfl (Or.inl rfl) (pe_ifExp (pt_cmpR op_gt (pv 6) pe_int (nomark _)) (pv 16) (pe_lc (own := [("_law_k", 20)]) rfl sc__law_right.nd (piL (K := K) (pe_revL (pv 16))) (blkOk_by (N := N__law_right) (sc := defScope s__law_right) (by decide +kernel)) (fun _ _ _ _ _ => (pg_name (i := 20) sc__law_right.nd rfl (Or.inl rfl))) (fun _ _ _ _ _ => pts_nil) (fun _ _ _ _ _ => (pe_op op_sub (pe_op op_sub (pe_callB (lenK (K := K)) rfl (free_len T) bb_len (pa_cons (pv 2) pa_nil)) pe_int) (pv 20))))))
      (pss_one (ps_if (pt_not (pt_val (pe_c (cal_shows_reason T) hr (by decide) rfl (pa_cons (pv 7) (pa_cons (pe_ix (ixL (K := K)) (pv 8) pe_int (fun _ _ => rfl)) (pa_cons (pv 5) (pa_cons (pv 17) pa_nil))))))) (pss_one (ps_ret pe_bl)) pss_nil))) pss_nil))))))))))))))))))
      (pss_one (ps_ret pe_bl)))), ?_⟩
  refine rd_ofX (α := Row × (List (Int × Int)) × Int) (C := fun x => (BkN x.2.1 ∧ RowP x.1) ∧ (Bk x.2.1 ∧ confs x.2.1 = []) ∧ ∀ (ps : List Int) (m sg : Int), NewP x.2.1 3 ps → (1 ≤ m ∧ m ≤ 30) → sg = 1 ∨ sg = -1 → RtOk x.2.1 x.2.2 sg m ps) (pre := fun x => [rowDt x.1, bkD x.2.1, .int x.2.2]) (post := fun _ d => d = .bool true) (k := 40) (p := 3) (N := N__law_right) (fun _ => rfl) ?rd vs H Q E h
  case rd =>
    intro x n hx hk
    obtain ⟨r, b, far⟩ := x
    show Sx _ [some .pur, some (.fro (rowDt r)), some (.fro (bkD b)), some (.fro (.int far)), none, none, none, none, none, none, none, none, none, none, none, none, none, none, none, none, none] n _ _
    replace hx : (BkN b ∧ RowP r) ∧ (Bk b ∧ confs b = []) ∧ ∀ (ps : List Int) (m sg : Int), NewP b 3 ps → (1 ≤ m ∧ m ≤ 30) → sg = 1 ∨ sg = -1 → RtOk b far sg m ps := hx
    obtain ⟨⟨hb, hr⟩, hbf, hv⟩ := hx
    have bl := hb.1
    refine sx_seq (M := fun G n' => n' = n + 21 ∧ ∃ (ps : List Int) (m : Int), NewP b 3 ps ∧ (1 ≤ m ∧ m ≤ 30) ∧ G = [some .pur, some (.fro (rowDt r)), some (.fro (bkD b)), some (.fro (.int far)), some (.fro (iD ps)), some (.fro (.int m)), none, none, none, none, none, none, none, none, none, none, none, none, none, none, none]) (sx_tgtV (P := fun d n' => n' = n + 21 ∧ ∃ (ps : List Int) (m : Int), d = .tuple [iD ps, .int m] ∧ NewP b 3 ps ∧ (1 ≤ m ∧ m ≤ 30)) (ev_tup (PL := fun ds n' => n' = n + 21 ∧ ∃ (ps : List Int) (m : Int), ds = [iD ps, .int m] ∧ NewP b 3 ps ∧ (1 ≤ m ∧ m ≤ 30)) (eva_cons (P1 := fun d n' => n' = n + 20 ∧ ∃ ps, d = iD ps ∧ NewP b 3 ps) (ev_callX0 (α := (List (Int × Int)) × Row × Int) (b, r, 3) rfl (ea3 (ep_var rfl) (ep_var rfl) ep_int) rfl ⟨hb, hr, show (1 : Int) ≤ 3 by decide, show (3 : Int) ≤ 4 by decide⟩ (by omega) fun d hd => ⟨rfl, hd⟩) fun d n1 ⟨e1, ps, e2, hP⟩ => ?_) fun ds n' ⟨e, ps, m, ed, hP, hm⟩ => ⟨by rw [ed]; show 2 ≤ 100000; decide, e, ps, m, by rw [ed], hP, hm⟩) fun d n' ⟨e, ps, m, ed, hP, hm⟩ => ?_) ?_
    · subst e1 e2
      exact eva_cons (evi_op (k := 0) (l := 1) (A := fun x => x = 1) (C := fun z => 1 ≤ z ∧ z ≤ 30) (f := fun i j => i + j) (evi_ep ep_int rfl) (evi_toss1 rfl ep_int (by decide) (by omega)) fun x y hx hy => ⟨od_i, by omega, by omega⟩) fun d n2 ⟨e2, m, em, hm⟩ => eva_nil ⟨by omega, ps, m, by rw [em], hP, hm⟩
    · subst e ed
      exact ⟨_, _, tg_two, rfl, ps, m, hP, hm, rfl⟩
    rintro G n' ⟨rfl, ps, m, hP, hm, rfl⟩
    have farS : True := True.intro
    refine sx_seq (M := fun G n' => n' ≤ n + 40 ∧ ∃ G', G = G') ?_ ?_
    · refine sx_forP [(1 : Int), -1] (fun x => .int x) (fun pr G n' => n' ≤ n + 21 + 4 * pr.length ∧ ∃ a6 a7 a8 a9 a10 a11 a12 a13 a14 a15 a16 a17 a18 a19 a20, G = [some .pur, some (.fro (rowDt r)), some (.fro (bkD b)), some (.fro (.int far)), some (.fro (iD ps)), some (.fro (.int m)), a6, a7, a8, a9, a10, a11, a12, a13, a14, a15, a16, a17, a18, a19, a20]) (es_tup (ep_t2 ep_int (ep_un ep_int ud_neg))) ⟨Nat.le_refl _, none, none, none, none, none, none, none, none, none, none, none, none, none, none, none, rfl⟩ ?_ (fun G n' ⟨e, _⟩ => ⟨by have : ([(1 : Int), -1] : List Int).length = 2 := rfl; omega, G, rfl⟩)
      rintro pr sg po G n' e0 ⟨hn, a6, a7, a8, a9, a10, a11, a12, a13, a14, a15, a16, a17, a18, a19, a20, rfl⟩
      have hsg : sg = 1 ∨ sg = -1 := by
        have : sg ∈ [(1 : Int), -1] := by rw [e0]; simp
        simpa using this
      have hpr : pr.length ≤ 1 := by
        have h1 : ([(1 : Int), -1] : List Int).length = pr.length + (po.length + 1) := by rw [e0, List.length_append, List.length_cons]
        have h2 : ([(1 : Int), -1] : List Int).length = 2 := rfl
        omega
      rw [show (pr ++ [sg]).length = pr.length + 1 by rw [List.length_append]; rfl]
      have R := hv ps m sg hP hm hsg
      have ps3 := R.fr.n3
      have sgS : Sm 200 sg := (sm_of (k := 1) 1 ⟨by omega, by omega⟩ (by decide)).mono (by decide)
      have mul : ∀ x : Int, Sm 200 x → OpD (rI CMulW fun i j => .int (i * j)) (.int sg) (.int x) (.int (sg * x)) := fun x hx => od_c (Sm.cmul sgS hx (by decide))
      have psS : ∀ p ∈ ps, Sm 200 p := fun p hp => (sm_lit (n := p) (by have := hP.rg p hp; omega)).mono (by decide)
      have psP : ∀ p ∈ ps, Pl p := fun p hp => by have := hP.rg p hp; exact ⟨by omega, by omega⟩
      have fr2 := R.fr2
      have Rcl := R.cl
      have Rst := R.st
      have Rnth := R.nth
      have Rcnt := R.cnt
      have Rsum := R.sum
      have Rtab := R.tab
      have q1 := R.q1
      have q2 := R.q2
      have q3 := R.q3
      have Rr := R.rs
      have Rfr := R.fr
      generalize hmt : movF b far sg = mt at *
      generalize hth : thereF ps far sg = th at *
      have thP : ∀ p ∈ ps, sg * p + far ∈ th := fun p hp => by rw [← hth]; exact List.mem_map.mpr ⟨p, hp, rfl⟩
      have thL : th.length = ps.length := by rw [← hth]; exact List.length_map _
      have thR : ∀ q ∈ th, Pl q := fun q hq => by have := fr2.rg q hq; exact ⟨by omega, by omega⟩
      have mbf : Bk mt ∧ confs mt = [] := ⟨fr2.bk, fr2.cf⟩
      refine ⟨_, _, tg_name, ?_⟩
      show Sx _ [some .pur, some (.fro (rowDt r)), some (.fro (bkD b)), some (.fro (.int far)), some (.fro (iD ps)), some (.fro (.int m)), some (.fro (.int sg)), a7, a8, a9, a10, a11, a12, a13, a14, a15, a16, a17, a18, a19, a20] _ _ _
      refine sx_seq (M := fun G n2 => n2 = n' ∧ G = [some .pur, some (.fro (rowDt r)), some (.fro (bkD b)), some (.fro (.int far)), some (.fro (iD ps)), some (.fro (.int m)), some (.fro (.int sg)), some (.fro (bkD mt)), some (.fro (iD th)), a9, a10, a11, a12, a13, a14, a15, a16, a17, a18, a19, a20]) (sx_tgt (d := .tuple [bkD mt, iD th]) (ep_t2 (by rw [← hmt]; exact ev__law_moved (ea3 (ep_var rfl) (ep_var rfl) (ep_var rfl)) ⟨by omega, sgS, hbf.1.sm⟩) (by rw [← hth]; exact ep_there (es_list (ep_var rfl)) (fun x hx => ep_op (ep_op (ep_var rfl) (ep_var rfl) (mul x (psS x hx))) (ep_var rfl) od_i) (by omega) (by decide))) tg_two ⟨rfl, rfl⟩) ?_
      rintro G n2 ⟨rfl, rfl⟩
      -- the same classes
      refine sx_seq (M := fun G n' => n' = n2 ∧ G = [some .pur, some (.fro (rowDt r)), some (.fro (bkD b)), some (.fro (.int far)), some (.fro (iD ps)), some (.fro (.int m)), some (.fro (.int sg)), some (.fro (bkD mt)), some (.fro (iD th)), a9, a10, a11, a12, a13, a14, a15, a16, a17, a18, a19, a20]) (sx_if (b := !PyData.eqv (bkD (th.map (classF mt))) (bkD (ps.map (classF b)))) (et_test (ep_op (ep_new ?_) (ep_new ?_) (od_neD (sh_bkD _) (sh_bkD _)))) (fun z => ?_) (fun _ => sx_next ⟨rfl, rfl⟩)) ?_
      · rw [List.map_map]
        exact en_m1 th (fun x => PyData.int x) (fun x => prD (classF mt x)) (es_list (ep_var rfl)) (fun x hx => ev_class_at (ea2 (ep_var rfl) (ep_var rfl)) ⟨mbf, thR x hx⟩) (by omega)
      · rw [List.map_map]
        exact en_m1 ps (fun x => PyData.int x) (fun x => prD (classF b x)) (es_list (ep_var rfl)) (fun x hx => ev_class_at (ea2 (ep_var rfl) (ep_var rfl)) ⟨hbf, psP x hx⟩) (by omega)
      · have e : th.map (classF mt) = ps.map (classF b) := by
          rw [← hth]
          unfold thereF
          rw [List.map_map]
          exact List.map_congr_left fun p hp => Rcl p hp
        rw [e, eqv_bkD, decide_eq_true rfl] at z
        cases z
      rintro G n' ⟨rfl, rfl⟩
      have szE : sizeF mt th = sizeF b ps := by unfold sizeF; rw [Rst]
      generalize hwh : sizeF b ps = wh at *
      refine sx_seq (M := fun G n2 => n2 = n' ∧ G = [some .pur, some (.fro (rowDt r)), some (.fro (bkD b)), some (.fro (.int far)), some (.fro (iD ps)), some (.fro (.int m)), some (.fro (.int sg)), some (.fro (bkD mt)), some (.fro (iD th)), some (.fro (.int wh)), a10, a11, a12, a13, a14, a15, a16, a17, a18, a19, a20]) (sx_asg (d := .int wh) (by rw [← hwh]; exact ev_common_size (ea2 (ep_var rfl) (ep_var rfl)) Rfr) ⟨rfl, rfl⟩) ?_
      rintro G n2 ⟨rfl, rfl⟩
      refine sx_seq (M := fun G n' => n' = n2 ∧ G = [some .pur, some (.fro (rowDt r)), some (.fro (bkD b)), some (.fro (.int far)), some (.fro (iD ps)), some (.fro (.int m)), some (.fro (.int sg)), some (.fro (bkD mt)), some (.fro (iD th)), some (.fro (.int wh)), a10, a11, a12, a13, a14, a15, a16, a17, a18, a19, a20]) (sx_if (b := !PyData.eqv (iD (stepsF mt th)) (iD (stepsF b ps)) || !decide (sizeF mt th = wh)) (et_or (et_test (ep_op (ev_step_list (ea2 (ep_var rfl) (ep_var rfl)) fr2) (ev_step_list (ea2 (ep_var rfl) (ep_var rfl)) Rfr) (od_neD (sh_iD _) (sh_iD _)))) fun _ => et_test (ep_op (ev_common_size (ea2 (ep_var rfl) (ep_var rfl)) fr2) (ep_var rfl) od_neI)) (fun z => ?_) (fun _ => sx_next ⟨rfl, rfl⟩)) ?_
      · rw [Rst, eqv_iD, decide_eq_true rfl, decide_eq_true szE] at z
        cases z
      rintro G n' ⟨rfl, rfl⟩
      refine sx_seq (M := fun G n2 => n2 = n' + 1 ∧ ∃ pl : Int, (0 ≤ pl ∧ pl < countF (stepsF b ps) wh) ∧ G = [some .pur, some (.fro (rowDt r)), some (.fro (bkD b)), some (.fro (.int far)), some (.fro (iD ps)), some (.fro (.int m)), some (.fro (.int sg)), some (.fro (bkD mt)), some (.fro (iD th)), some (.fro (.int wh)), some (.fro (.int pl)), a11, a12, a13, a14, a15, a16, a17, a18, a19, a20]) (sx_asgI (k := 1) (evi_toss1 (m := countF (stepsF b ps) wh) rfl (by rw [← hwh]; exact ev_count_fillings (ea3 (ep_var rfl) (ep_var rfl) (ep_var rfl)) ⟨Rfr, rfl⟩) Rcnt (by omega)) fun z hz => ⟨rfl, z, hz, rfl⟩) ?_
      rintro G n2 ⟨rfl, pl, hpl, rfl⟩
      obtain ⟨nt1, nt2, nt3⟩ := Rnth pl hpl.1 hpl.2
      generalize htd : nthF b ps wh pl = td at *
      refine sx_seq (M := fun G n2 => n2 = n' + 1 ∧ G = [some .pur, some (.fro (rowDt r)), some (.fro (bkD b)), some (.fro (.int far)), some (.fro (iD ps)), some (.fro (.int m)), some (.fro (.int sg)), some (.fro (bkD mt)), some (.fro (iD th)), some (.fro (.int wh)), some (.fro (.int pl)), some (.fro (iD td)), a12, a13, a14, a15, a16, a17, a18, a19, a20]) (sx_asg (d := iD td) (by rw [← htd, ← hwh]; exact ev_nth_filling (m := sizeF b ps) (by rw [hwh]; exact ea_cons (ep_var rfl) (ea3 (ep_var rfl) (ep_var rfl) (ep_var rfl))) ⟨⟨Rfr, rfl⟩, hpl.1, by rw [hwh]; exact hpl.2⟩) ⟨rfl, rfl⟩) ?_
      rintro G n2 ⟨rfl, rfl⟩
      have hpl2 : pl < countF (stepsF mt th) (sizeF mt th) := by rw [Rst, szE]; exact hpl.2
      refine sx_seq (M := fun G n2 => n2 = n' + 1 ∧ G = [some .pur, some (.fro (rowDt r)), some (.fro (bkD b)), some (.fro (.int far)), some (.fro (iD ps)), some (.fro (.int m)), some (.fro (.int sg)), some (.fro (bkD mt)), some (.fro (iD th)), some (.fro (.int wh)), some (.fro (.int pl)), some (.fro (iD td)), a12, a13, a14, a15, a16, a17, a18, a19, a20]) (sx_if (b := !PyData.eqv (iD (nthF mt th (sizeF mt th) pl)) (iD td) || !decide (idxF mt th (sizeF mt th) td = pl)) (et_or (et_test (ep_op (ev_nth_filling (m := wh) (ea_cons (ep_var rfl) (ea3 (ep_var rfl) (ep_var rfl) (ep_var rfl))) ⟨⟨fr2, szE.symm⟩, hpl.1, hpl2⟩) (ep_var rfl) (od_neD (sh_iD _) (sh_iD _)))) fun _ => et_test (ep_op (ev_filling_index (m := wh) (ea_cons (ep_var rfl) (ea3 (ep_var rfl) (ep_var rfl) (ep_var rfl))) ⟨⟨fr2, szE.symm⟩, by rw [szE]; exact nt2⟩) (ep_var rfl) od_neI)) (fun z => ?_) (fun _ => sx_next ⟨rfl, rfl⟩)) ?_
      · rw [szE, nt1, eqv_iD, decide_eq_true rfl, decide_eq_true nt3] at z
        cases z
      rintro G n2 ⟨rfl, rfl⟩
      -- the sums
      refine sx_seq (M := fun G n2 => n2 ≤ n' + 4 ∧ ∃ ws : List Int, (ws.length = ps.length ∧ ∀ w ∈ ws, Sm 20 w) ∧ G = [some .pur, some (.fro (rowDt r)), some (.fro (bkD b)), some (.fro (.int far)), some (.fro (iD ps)), some (.fro (.int m)), some (.fro (.int sg)), some (.fro (bkD mt)), some (.fro (iD th)), some (.fro (.int wh)), some (.fro (.int pl)), some (.fro (iD td)), some (.fro (iD ws)), a13, a14, a15, a16, a17, a18, a19, a20]) (sx_asgV (P := fun d n2 => n2 ≤ n' + 4 ∧ ∃ ws : List Int, (ws.length = ps.length ∧ ∀ w ∈ ws, Sm 20 w) ∧ d = iD ws) (ev_new (env_lc (PL := fun ds n2 => ds = ps.map PyData.int ∧ n2 = n' + 1) (R := fun xs n2 => n2 ≤ n' + 4 ∧ ∃ ws : List Int, (ws.length = ps.length ∧ ∀ w ∈ ws, Sm 20 w) ∧ xs = ws.map PyData.int) (fun ds i acc n2 => ds = ps.map PyData.int ∧ i ≤ 3 ∧ n2 = n' + 1 + i ∧ ∃ ws : List Int, acc = ws.map PyData.int ∧ ws.length = i ∧ ∀ w ∈ ws, Sm 20 w) (esv_es (es_list (ep_var rfl)) ⟨rfl, rfl⟩) ?_ ?_ ?_) fun xs n2 ⟨e, ws, h, e2⟩ => ⟨e, ws, h, by rw [e2]⟩) fun d n2 ⟨e, ws, h, e2⟩ => ⟨e, ws, h, by rw [e2]; rfl⟩) ?_
      · rintro ds n2 ⟨rfl, rfl⟩
        exact ⟨by rw [List.length_map]; omega, rfl, by omega, rfl, [], rfl, rfl, fun w h => by cases h⟩
      · rintro ds i x acc n2 hx hl ⟨rfl, i3, rfl, ws, rfl, wl, hw⟩
        have hi : i < ps.length := by
          have := (List.getElem?_eq_some_iff.mp hx).1
          rw [List.length_map] at this
          exact this
        refine ⟨_, [18], tg_name, by decide, ev_mono (evi_op (k := 1) (l := 0) (A := fun z => 0 ≤ z ∧ z < 9) (B := fun y => y = 4) (C := fun z => -4 ≤ z ∧ z ≤ 4) (f := fun i j => i - j) (evi_toss1 rfl ep_int (by decide) (by omega)) (evi_ep ep_int rfl) fun x y hx hy => ⟨od_i, by omega, by omega⟩) fun d n3 ⟨e3, z, ez, hz⟩ => ⟨rfl, by omega, by omega, ws ++ [z], by rw [ez, List.map_append]; rfl, by rw [List.length_append, wl]; rfl, fun w h => ?_⟩⟩
        rcases List.mem_append.mp h with q | q
        · exact hw w q
        · rw [List.mem_singleton.mp q]
          exact (sm_of (k := 3) 4 hz (by decide)).mono (by decide)
      · rintro ds acc n2 ⟨rfl, i3, rfl, ws, rfl, wl, hw⟩
        rw [List.length_map] at wl i3 ⊢
        exact ⟨by omega, ws, ⟨wl, hw⟩, rfl⟩
      rintro G n2 ⟨hn2, ws, ⟨wl, hw⟩, rfl⟩
      refine sx_seq (M := fun G n' => n' = n2 ∧ G = [some .pur, some (.fro (rowDt r)), some (.fro (bkD b)), some (.fro (.int far)), some (.fro (iD ps)), some (.fro (.int m)), some (.fro (.int sg)), some (.fro (bkD mt)), some (.fro (iD th)), some (.fro (.int wh)), some (.fro (.int pl)), some (.fro (iD td)), some (.fro (iD ws)), a13, a14, a15, a16, a17, a18, a19, a20]) (sx_if (b := !PyData.eqv (prD (sumF mt th ws)) (prD (sumF b ps ws))) (et_test (ep_op (ev_sure_sum (ea3 (ep_var rfl) (ep_var rfl) (ep_var rfl)) ⟨fr2, by omega, hw⟩) (ev_sure_sum (ea3 (ep_var rfl) (ep_var rfl) (ep_var rfl)) ⟨Rfr, wl, hw⟩) (od_neD (sh_prD _) (sh_prD _)))) (fun z => ?_) (fun _ => sx_next ⟨rfl, rfl⟩)) ?_
      · rw [Rsum ws wl, eqv_pr, decide_eq_true rfl] at z
        cases z
      rintro G n3 ⟨rfl, rfl⟩
      -- the tables
      refine sx_seq (M := fun G n' => n' = n3 ∧ G = [some .pur, some (.fro (rowDt r)), some (.fro (bkD b)), some (.fro (.int far)), some (.fro (iD ps)), some (.fro (.int m)), some (.fro (.int sg)), some (.fro (bkD mt)), some (.fro (iD th)), some (.fro (.int wh)), some (.fro (.int pl)), some (.fro (iD td)), some (.fro (iD ws)), some (.fro (bkD (tabF b m))), some (.fro (bkD (tabF mt m))), a15, a16, a17, a18, a19, a20]) (sx_tgt (d := .tuple [bkD (tabF b m), bkD (tabF mt m)]) (ep_t2 (ev_sure_table (ea2 (ep_var rfl) (ep_var rfl)) ⟨hbf, by omega, by omega⟩) (ev_sure_table (ea2 (ep_var rfl) (ep_var rfl)) ⟨mbf, by omega, by omega⟩)) tg_two ⟨rfl, rfl⟩) ?_
      rintro G n3 ⟨rfl, rfl⟩
      have tbE : ((List.range m.toNat).map fun (k : Nat) => (tabF mt m).getD ((sg * (k : Int) + far) % m).toNat (0, 0)) = tabF b m := by
        refine List.ext_getElem? fun k => ?_
        by_cases hk2 : k < m.toNat
        · rw [List.getElem?_map, List.getElem?_range hk2]
          have := Rtab k (by omega)
          show some ((tabF mt m).getD ((sg * (k : Int) + far) % m).toNat (0, 0)) = _
          rw [this, List.getD_eq_getElem?_getD, List.getElem?_eq_getElem (by rw [tabF_len]; exact hk2)]
          rfl
        · rw [List.getElem?_eq_none (by rw [List.length_map, List.length_range]; omega), List.getElem?_eq_none (by rw [tabF_len]; omega)]
      refine sx_seq (M := fun G n' => n' = n3 ∧ G = [some .pur, some (.fro (rowDt r)), some (.fro (bkD b)), some (.fro (.int far)), some (.fro (iD ps)), some (.fro (.int m)), some (.fro (.int sg)), some (.fro (bkD mt)), some (.fro (iD th)), some (.fro (.int wh)), some (.fro (.int pl)), some (.fro (iD td)), some (.fro (iD ws)), some (.fro (bkD (tabF b m))), some (.fro (bkD (tabF mt m))), a15, a16, a17, a18, a19, a20]) (sx_if (b := !PyData.eqv (bkD ((List.range m.toNat).map fun (k : Nat) => (tabF mt m).getD ((sg * (k : Int) + far) % m).toNat (0, 0))) (bkD (tabF b m))) (et_test (ep_op (ep_new ?_) (ep_var rfl) (od_neD (sh_bkD _) (sh_bkD _)))) (fun z => ?_) (fun _ => sx_next ⟨rfl, rfl⟩)) ?_
      · rw [List.map_map]
        refine en_m1 (List.range m.toNat) (fun (k : Nat) => PyData.int (k : Int)) (fun (k : Nat) => prD ((tabF mt m).getD ((sg * (k : Int) + far) % m).toNat (0, 0))) (es_rng1e (j := m) (ea_cons (ep_var rfl) ea_nil) (rng_map _) (by omega) (by omega)) (fun k hk2 => ?_) (by rw [List.length_range]; omega)
        have k1 := List.mem_range.mp hk2
        have em := Int.emod_lt_of_pos (sg * (k : Int) + far) (show 0 < m by omega)
        have e0 := Int.emod_nonneg (sg * (k : Int) + far) (show m ≠ 0 by omega)
        refine ep_op (ep_var rfl) (ep_op (ep_int1 (ep_op (ep_op (ep_var rfl) (ep_var rfl) (mul _ ((sm_of (k := 6) 30 ⟨by omega, by omega⟩ (by decide)).mono (by decide)))) (ep_var rfl) (od_i (f := fun i j => i + j)))) (ep_var rfl) (od_c (C := fun _ j => 0 < j) (f := fun i j => i % j) (show 0 < m by omega))) (od_ixL ?_)
        have b1 := bk_at (b := tabF mt m) (k := ((sg * (k : Int) + far) % m).toNat) (by rw [tabF_len]; omega)
        rw [show ((((sg * (k : Int) + far) % m).toNat : Nat) : Int) = (sg * (k : Int) + far) % m by omega] at b1
        exact b1
      · rw [tbE, eqv_bkD, decide_eq_true rfl] at z
        cases z
      rintro G n3 ⟨rfl, rfl⟩
      -- the questions
      have qs := quesF_sm (b := b) hm
      refine sx_seq (M := fun G n' => n' = n3 ∧ G = [some .pur, some (.fro (rowDt r)), some (.fro (bkD b)), some (.fro (.int far)), some (.fro (iD ps)), some (.fro (.int m)), some (.fro (.int sg)), some (.fro (bkD mt)), some (.fro (iD th)), some (.fro (.int wh)), some (.fro (.int pl)), some (.fro (iD td)), some (.fro (iD ws)), some (.fro (bkD (tabF b m))), some (.fro (bkD (tabF mt m))), some (.fro (iD (quesF b m))), a16, a17, a18, a19, a20]) (sx_asg (d := iD (quesF b m)) (ev_questions (ea2 (ep_var rfl) (ep_var rfl)) ⟨hbf, hm⟩) ⟨rfl, rfl⟩) ?_
      rintro G n3 ⟨rfl, rfl⟩
      generalize quesF b m = qv at *
      refine sx_seq (M := fun G n' => n' = n3 ∧ G = [some .pur, some (.fro (rowDt r)), some (.fro (bkD b)), some (.fro (.int far)), some (.fro (iD ps)), some (.fro (.int m)), some (.fro (.int sg)), some (.fro (bkD mt)), some (.fro (iD th)), some (.fro (.int wh)), some (.fro (.int pl)), some (.fro (iD td)), some (.fro (iD ws)), some (.fro (bkD (tabF b m))), some (.fro (bkD (tabF mt m))), some (.fro (iD qv)), a16, a17, a18, a19, a20]) (sx_if (b := !decide (mostF (fsts mt) m = ((qv.map PyData.int).length : Int))) (et_test (ep_op (ev_fewest_more (ea2 (ep_var rfl) (ep_var rfl)) ⟨mbf, hm⟩) (ep_len (ep_var rfl)) od_neI)) (fun z => ?_) (fun _ => sx_next ⟨rfl, rfl⟩)) ?_
      · rw [List.length_map, q1, decide_eq_true rfl] at z
        cases z
      rintro G n3 ⟨rfl, rfl⟩
      refine sx_seq (M := fun G n' => n' = n3 ∧ G = [some .pur, some (.fro (rowDt r)), some (.fro (bkD b)), some (.fro (.int far)), some (.fro (iD ps)), some (.fro (.int m)), some (.fro (.int sg)), some (.fro (bkD mt)), some (.fro (iD th)), some (.fro (.int wh)), some (.fro (.int pl)), some (.fro (iD td)), some (.fro (iD ws)), some (.fro (bkD (tabF b m))), some (.fro (bkD (tabF mt m))), some (.fro (iD qv)), a16, a17, a18, a19, a20]) (sx_if (b := !true) (et_not (et_test (ev_shows_questions (ts := thereF qv far sg) (ea3 (ep_var rfl) (ep_var rfl) (ep_there (es_list (ep_var rfl)) (fun x hx => ep_op (ep_op (ep_var rfl) (ep_var rfl) (mul x ((qs.2 x hx).mono (by decide)))) (ep_var rfl) od_i) (by omega) (by decide))) ⟨⟨mbf, hm⟩, by unfold thereF; rw [List.length_map]; omega, q2, q3⟩))) (fun z => nomatch z) (fun _ => sx_next ⟨rfl, rfl⟩)) ?_
      rintro G n3 ⟨rfl, rfl⟩
      -- the reason
      cases ps with
      | nil => have := hP.n1; simp at this
      | cons p0 prest =>
        have hp0 : p0 ∈ p0 :: prest := List.mem_cons_self
        have Rr := Rr p0 rfl
        refine sx_seq (M := fun G n' => n' = n3 ∧ G = [some .pur, some (.fro (rowDt r)), some (.fro (bkD b)), some (.fro (.int far)), some (.fro (iD (p0 :: prest))), some (.fro (.int m)), some (.fro (.int sg)), some (.fro (bkD mt)), some (.fro (iD th)), some (.fro (.int wh)), some (.fro (.int pl)), some (.fro (iD td)), some (.fro (iD ws)), some (.fro (bkD (tabF b m))), some (.fro (bkD (tabF mt m))), some (.fro (iD qv)), some (.fro (reasonD (reasonF b p0 m))), a17, a18, a19, a20]) (sx_asg (d := reasonD (reasonF b p0 m)) (ev_reason_for (ea3 (ep_var rfl) (ep_op (d1 := .list (PyData.int p0 :: prest.map PyData.int)) (ep_var rfl) ep_int od_ixL0) (ep_var rfl)) ⟨hbf, psP p0 hp0, hm.1⟩) ⟨rfl, rfl⟩) ?_
        rintro G n3 ⟨rfl, rfl⟩
        cases hrs : reasonF b p0 m with
        | none =>
          refine sx_if (b := false) (et_test (ep_op (ep_var rfl) ep_non (od_notN (d := .none)))) (fun z => nomatch z) (fun _ => sx_next ⟨by omega, _, _, _, _, _, _, _, _, _, _, _, _, _, _, _, rfl⟩)
        | some ks =>
          obtain ⟨⟨hk1, hk2⟩, hk3, hk4⟩ := Rr ks hrs
          have hkl : (mirK b sg ks).length = ks.length := by
            unfold mirK
            split
            · rfl
            · rw [List.length_map, List.length_reverse]
          refine sx_if (b := true) (et_test (ep_op (d1 := nD ks) (ep_var rfl) ep_non (od_notN (d := nD ks)))) (fun _ => ?_) (fun z => nomatch z)
          refine sx_seq (M := fun G n' => n' = n3 ∧ G = [some .pur, some (.fro (rowDt r)), some (.fro (bkD b)), some (.fro (.int far)), some (.fro (iD (p0 :: prest))), some (.fro (.int m)), some (.fro (.int sg)), some (.fro (bkD mt)), some (.fro (iD th)), some (.fro (.int wh)), some (.fro (.int pl)), some (.fro (iD td)), some (.fro (iD ws)), some (.fro (bkD (tabF b m))), some (.fro (bkD (tabF mt m))), some (.fro (iD qv)), some (.fro (reasonD (some ks))), some (.fro (nD (mirK b sg ks))), a18, a19, a20]) (sx_asg (d := if decide (sg > 0) = true then nD ks else nD (ks.reverse.map fun k => b.length - 1 - k)) (ep_if (et_test (ep_op (ep_var rfl) ep_int od_b)) (fun _ => ep_var rfl) (fun _ => ?_)) ⟨rfl, ?_⟩) ?_
          · have hkr : ∀ k ∈ ks.reverse, k < b.length := fun k hk => hk4 k (List.mem_reverse.mp hk)
            rw [nD_get]
            refine ep_new ?_
            rw [List.map_map]
            refine en_m1 ks.reverse (fun (k : Nat) => PyData.int (k : Int)) ((fun (k : Nat) => PyData.int (k : Int)) ∘ fun k => b.length - 1 - k) (es_list (ep_new ?_)) (fun k hk => ?_) (by rw [List.length_reverse]; omega)
            · rw [List.map_reverse]
              exact en_rev (by rw [← nD_get]; exact ep_var rfl)
            · have := hkr k hk
              rw [show ((fun (k : Nat) => PyData.int (k : Int)) ∘ fun k => b.length - 1 - k) k = .int (((b.map prD).length : Int) - 1 - (k : Int)) by
                show PyData.int ((b.length - 1 - k : Nat) : Int) = _
                rw [List.length_map]
                congr 1
                omega]
              exact ep_op (ep_op (ep_len (ep_var rfl)) ep_int (od_i (f := fun i j => i - j))) (ep_var rfl) (od_i (f := fun i j => i - j))
          · unfold mirK
            by_cases z : sg > 0
            · rw [if_pos z, if_pos (by simpa using z)]; rfl
            · rw [if_neg z, if_neg (by simpa using z)]; rfl
          rintro G n4 ⟨rfl, rfl⟩
          refine sx_if (b := !true) (et_not (et_test (ev_shows_reason (pl := sg * p0 + far) (ea_cons (ep_var rfl) (ea3 ?_ (ep_var rfl) (ep_var rfl))) ⟨⟨mbf, thR _ (thP p0 hp0), hm.1⟩, ⟨hk1, hk2⟩, hk3⟩))) (fun z => nomatch z) (fun _ => sx_next ⟨by omega, _, _, _, _, _, _, _, _, _, _, _, _, _, _, _, rfl⟩)
          refine ep_op (d1 := .list (PyData.int (sg * p0 + far) :: (thereF prest far sg).map PyData.int)) (ep_var ?_) ep_int od_ixL0
          rw [← hth]
          rfl
    · rintro G n' ⟨hn, _, _⟩
      exact sx_ret (d := .bool true) ep_bl ⟨hn, rfl⟩
end Kr
end
section
namespace Kr
open PySem L2
open Evl (Ex)
open C8 (Cal pe_c)
local macro_rules | `(tactic| walk_at "ev") => `(tactic| skip)
local macro_rules | `(tactic| walk_at "ev") => `(tactic| first
  | with_reducible exact ep_int
  | with_reducible exact ep_bl
  | with_reducible exact ep_non
  | with_reducible exact ea_nil
  | with_reducible exact et_yes
  | with_reducible exact eo_no
  | ((with_reducible apply ep_var); rfl)
  | (with_reducible apply ea_cons) <;> walk_at "ev"
  | (with_reducible apply ep_op) <;> walk_at "ev"
  | (with_reducible apply ep_un) <;> walk_at "ev"
  | (with_reducible apply ep_isi) <;> walk_at "ev"
  | ((with_reducible apply ep_lenV); rfl)
  | (with_reducible apply ep_len) <;> walk_at "ev"
  | (with_reducible apply ep_abs) <;> walk_at "ev"
  | (with_reducible apply ep_int1) <;> walk_at "ev"
  | (with_reducible apply ep_max2) <;> walk_at "ev"
  | (with_reducible apply ep_min2) <;> walk_at "ev"
  | (with_reducible apply et_test) <;> walk_at "ev"
  | (with_reducible apply et_B) <;> walk_at "ev"
  | (with_reducible apply et_not) <;> walk_at "ev"
  | (with_reducible apply ep_notV) <;> walk_at "ev"
  | (with_reducible apply ep_tup) <;> walk_at "ev"
  | (with_reducible apply eo_part) <;> walk_at "ev"
  | with_reducible exact od_i
  | with_reducible exact od_b
  | with_reducible exact od_eqI
  | with_reducible exact od_neI
  | with_reducible exact od_isN
  | with_reducible exact od_notN
  | with_reducible exact od_notB
  | with_reducible apply od_c
  | with_reducible exact od_ixT0
  | with_reducible exact od_ixT1
  | with_reducible exact od_ixL0
  | with_reducible exact od_ixL1
  | with_reducible exact od_ixL2
  | with_reducible apply od_ixL
  | with_reducible apply od_ixT
  | with_reducible exact ud_neg
  | (with_reducible refine' et_or ?_ (fun _ => ?_)) <;> walk_at "ev"
  | (with_reducible refine' et_and ?_ (fun _ => ?_)) <;> walk_at "ev"
  | (with_reducible refine' ep_orV ?_ (fun _ => ?_)) <;> walk_at "ev"
  | (with_reducible refine' ep_andV ?_ (fun _ => ?_)) <;> walk_at "ev"
  | (with_reducible refine' ep_chain ?_ ?_ ?_ (fun _ => ?_) (fun _ => ?_)) <;> walk_at "ev"
  | exact isi_int
  | exact isi_intb
  | exact isi_lst
  | exact isi_tup
  | exact Nat.le_of_ble_eq_true rfl)
local macro_rules | `(tactic| walk_at "ev") => `(tactic| (with_reducible apply ev_divisor_of) <;> walk_at "ev")
local macro_rules | `(tactic| walk_at "ev") => `(tactic| (with_reducible apply ev_multiple_of) <;> walk_at "ev")
local macro_rules | `(tactic| walk_at "ev") => `(tactic| (with_reducible apply ev_divides) <;> walk_at "ev")
local macro_rules | `(tactic| walk_at "ev") => `(tactic| (with_reducible apply ev_do_fit) <;> walk_at "ev")
local macro_rules | `(tactic| walk_at "ev") => `(tactic| (with_reducible apply ev_conflicts_in) <;> walk_at "ev")
local macro_rules | `(tactic| walk_at "ev") => `(tactic| (with_reducible apply ev_is_integer) <;> walk_at "ev")
local macro_rules | `(tactic| walk_at "ev") => `(tactic| (with_reducible apply ev_is_told) <;> walk_at "ev")
local macro_rules | `(tactic| walk_at "ev") => `(tactic| (with_reducible apply ev_is_item) <;> walk_at "ev")
local macro_rules | `(tactic| walk_at "ev") => `(tactic| (with_reducible apply ev_is_book) <;> walk_at "ev")
local macro_rules | `(tactic| walk_at "ev") => `(tactic| (with_reducible apply ev_need_book) <;> walk_at "ev")
local macro_rules | `(tactic| walk_at "ev") => `(tactic| (with_reducible apply ev_conflict_in) <;> walk_at "ev")
local macro_rules | `(tactic| walk_at "ev") => `(tactic| (with_reducible apply ev_need_fitting) <;> walk_at "ev")
local macro_rules | `(tactic| walk_at "ev") => `(tactic| (with_reducible apply ev_need_possible) <;> walk_at "ev")
local macro_rules | `(tactic| walk_at "ev") => `(tactic| (with_reducible apply ev_conflict_of) <;> walk_at "ev")
local macro_rules | `(tactic| walk_at "ev") => `(tactic| (with_reducible apply ev_all_conflicts) <;> walk_at "ev")
local macro_rules | `(tactic| walk_at "ev") => `(tactic| (with_reducible apply ev_need_modulus1) <;> walk_at "ev")
local macro_rules | `(tactic| walk_at "ev") => `(tactic| (with_reducible apply ev_need_modulus2) <;> walk_at "ev")
local macro_rules | `(tactic| walk_at "ev") => `(tactic| (with_reducible apply ev_inverse_of) <;> walk_at "ev")
local macro_rules | `(tactic| walk_at "ev") => `(tactic| (with_reducible apply ev_met) <;> walk_at "ev")
local macro_rules | `(tactic| walk_at "ev") => `(tactic| (with_reducible apply ev_class_by) <;> walk_at "ev")
local macro_rules | `(tactic| walk_at "ev") => `(tactic| (with_reducible apply ev_class_at) <;> walk_at "ev")
local macro_rules | `(tactic| walk_at "ev") => `(tactic| (with_reducible apply ev_can_have) <;> walk_at "ev")
local macro_rules | `(tactic| walk_at "ev") => `(tactic| (with_reducible apply ev_far_in) <;> walk_at "ev")
local macro_rules | `(tactic| walk_at "ev") => `(tactic| (with_reducible apply ev_need_sure) <;> walk_at "ev")
local macro_rules | `(tactic| walk_at "ev") => `(tactic| (with_reducible apply ev_reason_for) <;> walk_at "ev")
local macro_rules | `(tactic| walk_at "ev") => `(tactic| (with_reducible apply ev_are_indices) <;> walk_at "ev")
local macro_rules | `(tactic| walk_at "ev") => `(tactic| (with_reducible apply ev_shows_reason) <;> walk_at "ev")
local macro_rules | `(tactic| walk_at "ev") => `(tactic| (with_reducible apply ev_need_places) <;> walk_at "ev")
local macro_rules | `(tactic| walk_at "ev") => `(tactic| (with_reducible apply ev_need_open) <;> walk_at "ev")
local macro_rules | `(tactic| walk_at "ev") => `(tactic| (with_reducible apply ev_steps_in) <;> walk_at "ev")
local macro_rules | `(tactic| walk_at "ev") => `(tactic| (with_reducible apply ev_size_in) <;> walk_at "ev")
local macro_rules | `(tactic| walk_at "ev") => `(tactic| (with_reducible apply ev_count_in) <;> walk_at "ev")
local macro_rules | `(tactic| walk_at "ev") => `(tactic| (with_reducible apply ev_need_size) <;> walk_at "ev")
local macro_rules | `(tactic| walk_at "ev") => `(tactic| (with_reducible apply ev_step_list) <;> walk_at "ev")
local macro_rules | `(tactic| walk_at "ev") => `(tactic| (with_reducible apply ev_common_size) <;> walk_at "ev")
local macro_rules | `(tactic| walk_at "ev") => `(tactic| (with_reducible apply ev_count_fillings) <;> walk_at "ev")
local macro_rules | `(tactic| walk_at "ev") => `(tactic| (with_reducible apply ev_nth_filling) <;> walk_at "ev")
local macro_rules | `(tactic| walk_at "ev") => `(tactic| (with_reducible apply ev_index_in) <;> walk_at "ev")
local macro_rules | `(tactic| walk_at "ev") => `(tactic| (with_reducible apply ev_filling_index) <;> walk_at "ev")
local macro_rules | `(tactic| walk_at "ev") => `(tactic| (with_reducible apply ev_vectors_in) <;> walk_at "ev")
local macro_rules | `(tactic| walk_at "ev") => `(tactic| (with_reducible apply ev_summed) <;> walk_at "ev")
local macro_rules | `(tactic| walk_at "ev") => `(tactic| (with_reducible apply ev_need_weights) <;> walk_at "ev")
local macro_rules | `(tactic| walk_at "ev") => `(tactic| (with_reducible apply ev_sure_sum) <;> walk_at "ev")
local macro_rules | `(tactic| walk_at "ev") => `(tactic| (with_reducible apply ev_need_asked2) <;> walk_at "ev")
local macro_rules | `(tactic| walk_at "ev") => `(tactic| (with_reducible apply ev_need_asked3) <;> walk_at "ev")
local macro_rules | `(tactic| walk_at "ev") => `(tactic| (with_reducible apply ev_prime_powers) <;> walk_at "ev")
local macro_rules | `(tactic| walk_at "ev") => `(tactic| (with_reducible apply ev_lacking_in) <;> walk_at "ev")
local macro_rules | `(tactic| walk_at "ev") => `(tactic| (with_reducible apply ev_most_lacking) <;> walk_at "ev")
local macro_rules | `(tactic| walk_at "ev") => `(tactic| (with_reducible apply ev_first_lacking) <;> walk_at "ev")
local macro_rules | `(tactic| walk_at "ev") => `(tactic| (with_reducible apply ev_sure_table) <;> walk_at "ev")
local macro_rules | `(tactic| walk_at "ev") => `(tactic| (with_reducible apply ev_fewest_more) <;> walk_at "ev")
local macro_rules | `(tactic| walk_at "ev") => `(tactic| (with_reducible apply ev_are_questions) <;> walk_at "ev")
local macro_rules | `(tactic| walk_at "ev") => `(tactic| (with_reducible apply ev_shows_questions) <;> walk_at "ev")
local macro_rules | `(tactic| walk_at "ev") => `(tactic| (with_reducible apply ev_questions) <;> walk_at "ev")
local macro_rules | `(tactic| walk_at "ev") => `(tactic| (with_reducible apply ev__law_divisor) <;> walk_at "ev")
local macro_rules | `(tactic| walk_at "ev") => `(tactic| (with_reducible apply ev__law_multiple) <;> walk_at "ev")
local macro_rules | `(tactic| walk_at "ev") => `(tactic| (with_reducible apply ev__law_at) <;> walk_at "ev")
local macro_rules | `(tactic| walk_at "ev") => `(tactic| (with_reducible apply ev__law_moved) <;> walk_at "ev")
local macro_rules | `(tactic| walk_at "ev") => `(tactic| (with_reducible apply ev__law_conflicts_right) <;> walk_at "ev")

theorem SqL.keepA {K : PySem.W.Frag} {H H' : Hp} {a : Addr} {xs : List V} (h : SqL K H a xs) (k : ∀ o, H a = some o → H' a = some o) : SqL K H' a xs := by
  rcases h with (h | ⟨o, h⟩) | h
  · exact .inl (.inl (k _ h))
  · exact .inl (.inr ⟨o, k _ h⟩)
  · exact .inr h
/-- the purse is made of the script -/
def spPurse (K : PySem.W.Frag) : Sp := fun vs H Q _ => ∃ (a : Addr) (ns : List Int) (k : Int), vs = [.ref a, .int k] ∧ SqL K H a (ns.map V.int) ∧ (0 ≤ k ∧ k ≤ 2) ∧
  ∀ (p : Addr) (H' : Hp) (x y : Int), Ex H H' → H p = none → H' p = some (.lst [.int x, .int y, .int 0]) → 0 ≤ y → y < 10 ^ 44 → Q (.ref p) H'
def spLaw (K : PySem.W.Frag) : Sp := fun vs H Q _ => ∃ (a : Addr) (ns : List Int), vs = [.ref a] ∧ SqL K H a (ns.map V.int) ∧ ∀ H', Q (.bl true) H'
abbrev W0 : Hp := fun _ => none
theorem sx_run {ts : TS} {G : Gm} {n : Nat} {N : Gm → Nat → Prop} {R : D → Nat → Prop} {pu : Option Addr} {W H W1 H1 : Hp} {σ : L2.St} {E : Ends} (S : S0 pu W1 H1 G n σ W H) (h : Sx ts G n N R)
    (hn : ∀ G' n' σ' W' H', N G' n' → Ex W W' → S0 pu W1 H1 G' n' σ' W' H' → E.nx σ' H') (hr : ∀ d n' v W' H', R d n' → Mv pu W1 H1 W' H' → Pu pu n' W' H' → Rp W' v d → E.rt v H') : ts E σ H := h _ _ _ _ _ _ _ S hn hr

/-! ### _law_purse -/
abbrev N__law_purse : List Str := ["_law_script", "_law_k", "_law_cell_here"]
theorem sc__law_purse : FnScope N__law_purse ["_law_script", "_law_k"] (defScope s__law_purse) := ⟨rfl, rfl, rfl, by decide +kernel, rfl, by decide +kernel, by decide +kernel⟩
theorem cal__law_purse {P : Program} {w : World} {K : PySem.W.Frag} {mg : Str → Option Value} {base : Heap} (T : Txt K mg) : Cal P w K mg base 41 "_law_purse" (spPurse K) [] := by
  obtain ⟨fd, F⟩ := T.c.def_ 52 (d := d__law_purse) rfl
  refine ⟨⟨_, fd, ["_law_script", "_law_k"], [], ?_, T.glo 52, F.kp, F.bindsN (fun _ _ _ _ _ _ us hl => match us, hl with | [_, _], _ => rfl), .nil⟩⟩
  refine F.ok sc__law_purse (fun vs H Q E h => ?_) (fun cdv A outer s H vs Q E hr h => ?_)
  · obtain ⟨a, ns, k, rfl, _⟩ := h
    rfl
  refine ⟨_, PSs.nox (pss_cons (ps_set (i := 2) sc__law_purse.nd rfl (Or.inl rfl) (pe_ifExp (pt_cmpR op_lt (pv 1) (pe_callB (lenK (K := K)) rfl (free_len T) bb_len (pa_cons (pv 0) pa_nil)) (nomark _)) (pe_ix (ixL (K := K)) (pv 0) (pv 1) (fun _ _ => rfl)) pe_int))
      (pss_one (ps_ret (pe_lst (pa_cons (pe_callB (k_max2 rfl) rfl (free_max T) bb_max (pa_cons pe_int (pa_cons (pe_op op_sub (pe_callB k_abs rfl (free_abs T) bb_abs (pa_cons (pv 2) pa_nil)) (pe_op op_pow pe_int pe_int)) pa_nil))) (pa_cons (pe_op op_add (pe_op op_mulW (pe_op op_mod (pe_callTy k_int rfl (free_int T) bb_int (pa_cons (pv 2) pa_nil)) (pe_op op_add (pe_op op_pow pe_int pe_int) pe_int)) pe_int) (pe_op op_mulW pe_int (pv 1))) (pa_cons pe_int pa_nil))))))), ?_⟩
  obtain ⟨a, ns, k, rfl, hs, hk, q⟩ := h
  have cell : ∃ z : Int, ∀ Q' : VK, Q' (.int z) H → tIf (tTest (tOp (rI0 fun i j => .bl (decide (i < j))) (tVar 1) (tCB (rLen K) (tCons (tVar 0) tNil)))) (tOp (rIxL K) (tVar 0) (tVar 1)) (tC (.int 0)) (L2.start N__law_purse [.ref a, .int k]) H Q' := by
    by_cases z : k < (ns.length : Int)
    · have hl : k.toNat < ns.length := by omega
      refine ⟨ns[k.toNat], fun Q' h' => ⟨_, rfl, _, rfl, a, ns.map V.int, rfl, .inl hs, k, ((ns.map V.int).length : Int), rfl, rfl, _, rfl, ?_⟩⟩
      rw [List.length_map, decide_eq_true z]
      refine ⟨_, rfl, _, rfl, a, ns.map V.int, k, .int ns[k.toNat], rfl, rfl, hs, ?_, h'⟩
      obtain ⟨m, rfl⟩ : ∃ m : Nat, k = (m : Int) := ⟨k.toNat, by omega⟩
      refine atI_nat ?_
      rw [List.getElem?_map, List.getElem?_eq_getElem (by omega)]
      rfl
    · refine ⟨0, fun Q' h' => ⟨_, rfl, _, rfl, a, ns.map V.int, rfl, .inl hs, k, ((ns.map V.int).length : Int), rfl, rfl, _, rfl, ?_⟩⟩
      rw [List.length_map, decide_eq_false z]
      exact h'
  obtain ⟨z, hz⟩ := cell
  refine hz _ ?_
  have S : S0 none W0 H [none, some (.fro (.int k)), some (.fro (.int z))] 0 [some (.ref a), some (.int k), some (.int z)] W0 H :=
    { mv := Mv.rfl' (fun _ _ h => nomatch h), pn := (fun _ h => nomatch h), len := rfl
      bd := fun i b e => by
        match i, e with
        | 0, e => cases e
        | 1, e => cases e; exact ⟨_, rfl, .int k⟩
        | 2, e => cases e; exact ⟨_, rfl, .int z⟩
        | i + 3, e => simp at e
      sep := fun i j xs ys p _ e _ _ _ => by
        match i, e with
        | 0, e => cases e
        | 1, e => cases e
        | 2, e => cases e
        | i + 3, e => simp at e }
  have p41 : (10 : Int) ^ (41 : Int).toNat + 37 = 100000000000000000000000000000000000000037 := by decide
  have hm0 := Int.emod_nonneg z (show (100000000000000000000000000000000000000037 : Int) ≠ 0 by decide)
  have hm1 := Int.emod_lt_of_pos z (show (0 : Int) < 100000000000000000000000000000000000000037 by decide)
  have En1 : En (tLst (tCons _ (tCons _ (tCons (tC (.int 0)) tNil)))) [none, some (.fro (.int k)), some (.fro (.int z))] [.int (max 0 ((z.natAbs : Int) - 10 ^ (18 : Int).toNat)), .int (z % (10 ^ (41 : Int).toNat + 37) * 89 + 60013 * k), .int 0] :=
    en_lst (ea3 (ep_max2 ep_int (ep_op (ep_abs (ep_var (i := 2) rfl)) (ep_p10 (by decide)) (od_i (f := fun i j => i - j)))) (ep_op (ep_op (ep_op (ep_int1 (ep_var (i := 2) rfl)) (ep_op (ep_p10 (by decide)) ep_int (od_i (f := fun i j => i + j))) (od_c (C := fun _ j => 0 < j) (f := fun i j => i % j) (by rw [p41]; decide))) ep_int (od_c (C := CMulW) (f := fun i j => i * j) (Sm.cmul (k := 200) (l := 10) ((sm_of (k := 140) 100000000000000000000000000000000000000037 (by rw [p41]; omega) (by decide)).mono (by decide)) (sm_of 89 ⟨by decide, by decide⟩ (by decide)) (by decide)))) (ep_op ep_int (ep_var (i := 1) rfl) (od_c (C := CMulW) (f := fun i j => i * j) (Sm.cmul (k := 20) (l := 10) (sm_of 60013 ⟨by decide, by decide⟩ (by decide)) (sm_of 2 ⟨by omega, by omega⟩ (by decide)) (by decide)))) (od_i (f := fun i j => i + j))) ep_int) (by show 3 ≤ 100000; decide)
  refine En1 none W0 H 0 _ W0 H S _ fun p vs W' H' m f hp wp rs => ?_
  have ev : vs = [.int (max 0 ((z.natAbs : Int) - 10 ^ (18 : Int).toNat)), .int (z % (10 ^ (41 : Int).toNat + 37) * 89 + 60013 * k), .int 0] := Rps.ints (ns := [_, _, _]) rs
  rw [ev] at hp
  refine q p H' _ _ m.ex f hp ?_ ?_
  · rw [p41]; omega
  · rw [p41]; omega
/-! ### law -/
abbrev N_law : List Str := ["_law_script", "_law_k", "_law_purse_here", "_law_most", "_law_row_here_here", "_law_book_here", "_law_far"]
theorem sc_law : FnScope N_law ["_law_script"] (defScope s_law) := ⟨rfl, rfl, rfl, by decide +kernel, rfl, by decide +kernel, by decide +kernel⟩
theorem cal_law {P : Program} {w : World} {K : PySem.W.Frag} {mg : Str → Option Value} {base : Heap} (T : Txt K mg) (NS : SeerP P base) (PL : PlainLaw) : Cal P w K mg base 50 "law" (spLaw K) [] := by
  obtain ⟨fd, F⟩ := T.c.def_ 67 (d := d_law) rfl
  refine ⟨⟨_, fd, ["_law_script"], [], ?_, T.glo 67, F.kp, F.bindsN (fun _ _ _ _ _ _ us hl => match us, hl with | [_], _ => rfl), .nil⟩⟩
  refine F.ok sc_law (fun vs H Q E h => ?_) (fun cdv A outer s H vs Q E hr h => ?_)
  · obtain ⟨a, ns, rfl, _⟩ := h
    rfl
  refine ⟨_, PSs.nox (pss_cons (ps_for PassesOwn.never rfl (pi_range1 rfl (free_range T) (pa_cons (pe_callB (k_max2 rfl) rfl (free_max T) bb_max (pa_cons pe_int (pa_cons (pe_callB (k_min2 rfl) rfl (free_min T) bb_min (pa_cons pe_int (pa_cons (pe_callB (lenK (K := K)) rfl (free_len T) bb_len (pa_cons (pv 0) pa_nil)) pa_nil))) pa_nil))) pa_nil)) (pg_name (i := 1) sc_law.nd rfl (Or.inl rfl)) (pss_cons (ps_set (i := 2) sc_law.nd rfl (Or.inl rfl) (pe_c (cal__law_purse T) hr (by decide) rfl (pa_cons (pv 0) (pa_cons (pv 1) pa_nil))))
      (pss_one (ps_for PassesOwn.never rfl (piT (K := K) (pe_tup (pa_cons pe_int (pa_cons pe_int pa_nil)))) (pg_name (i := 3) sc_law.nd rfl (Or.inl rfl)) (pss_cons (ps_set (i := 4) sc_law.nd rfl (Or.inl rfl) (pe_c (cal__law_row T NS) hr (by decide) rfl (pa_cons (pv 2) pa_nil)))
      (pss_cons (ps_set (i := 5) sc_law.nd rfl (Or.inl rfl) (pe_c (cal__law_book T NS) hr (by decide) rfl (pa_cons (pv 2) (pa_cons (pv 4) (pa_cons (pv 3) pa_nil)))))
      (pss_cons (ps_set (i := 6) sc_law.nd rfl (Or.inl rfl) (pe_ix (ixL (K := K)) (pe_lst (pa_cons (pe_op op_sub (pe_c (cal__law_toss T NS) hr (by decide) rfl (pa_cons (pv 2) (pa_cons pe_int pa_nil))) pe_int) (pa_cons (pe_c (cal__law_toss T NS) hr (by decide) rfl (pa_cons (pv 2) (pa_cons (pe_op op_pow pe_int pe_int) pa_nil))) pa_nil))) (pe_c (cal__law_toss T NS) hr (by decide) rfl (pa_cons (pv 2) (pa_cons pe_int pa_nil))) (fun _ _ => rfl)))
      (pss_cons (ps_if (PW.pt (pw_or (pt_cmpR op_notN (pe_c (cal_conflict_of T) hr (by decide) rfl (pa_cons (pv 5) pa_nil)) pe_non (nomark _)) (pw_or1 (pt_not (pt_val (pe_c (cal__law_right T NS) hr (by decide) rfl (pa_cons (pv 2) (pa_cons (pv 4) (pa_cons (pv 5) (pa_cons (pv 6) pa_nil)))))))))) (pss_one (ps_ret pe_bl)) pss_nil)
      (pss_cons (ps_if (pt_not (pt_val (pe_c (cal__law_values_right T NS) hr (by decide) rfl (pa_cons (pv 2) (pa_cons (pv 5) (pa_cons (pv 4) pa_nil)))))) (pss_one (ps_ret pe_bl)) pss_nil)
      (pss_one (ps_if (pt_not (pt_val (pe_c (cal__law_conflicts_right T) hr (by decide) rfl (pa_cons (pe_c (cal__law_bent T NS) hr (by decide) rfl (pa_cons (pv 2) (pa_cons (pv 5) pa_nil))) (pa_cons (pv 6) (pa_cons (pe_op op_add (pe_c (cal__law_toss T NS) hr (by decide) rfl (pa_cons (pv 2) (pa_cons (pe_op op_pow pe_int pe_int) pa_nil))) pe_int) pa_nil)))))) (pss_one (ps_ret pe_bl)) pss_nil)))))))))))
      (pss_one (ps_ret pe_bl))), ?_⟩
  obtain ⟨a, ns, rfl, hs, q⟩ := h
  refine ⟨_, rfl, a, ns.map V.int, rfl, .inl hs, 3, ((ns.map V.int).length : Int), rfl, 1, _, rfl, _, rfl, ?_, ?_, ?_⟩
  · split <;> split <;> omega
  · split <;> split <;> omega
  generalize hj : (if (if ((ns.map V.int).length : Int) < 3 then ((ns.map V.int).length : Int) else 3) > 1 then (if ((ns.map V.int).length : Int) < 3 then ((ns.map V.int).length : Int) else 3) else 1) = j
  have j3 : j ≤ 3 := by
    rw [← hj]
    split <;> split <;> omega
  refine for_it walk_range (fun i σ H' => σ.length = 7 ∧ σ[0]? = some (some (.ref a)) ∧ SqL K H' a (ns.map V.int)) ⟨rfl, rfl, hs⟩ (fun _ _ _ _ _ => True.intro) ?_ (fun σ H' _ => q H')
  rintro i x σ H1 H2 hi ⟨sl, s0, hs1⟩ ⟨rfl, rfl⟩
  refine ⟨_, by rw [List.getElem?_set_ne (by decide)]; exact s0, _, by rw [List.getElem?_set_self (by omega)], a, ns, 0 + (i : Int), rfl, hs1, ⟨by omega, by omega⟩, fun p H3 x y ex hp hl y0 y1 => ?_⟩
  have S3 : S0 (some p) W0 H3 [some (.cst (.ref a)), none, some .pur, none, none, none, none] 0 ((σ.set 1 (some (.int (0 + (i : Int))))).set 2 (some (.ref p))) W0 H3 :=
    { mv := Mv.rfl' (fun _ _ h => nomatch h)
      pn := (fun c h => by cases h; exact ⟨rfl, x, y, 0, hl, y0, y1, Int.le_refl 0, Int.le_refl 0⟩)
      len := (by rw [List.length_set, List.length_set, sl]; rfl)
      bd := (fun l b e => by
        match l, e with
        | 0, e => cases e; exact ⟨_, by rw [List.getElem?_set_ne (by decide), List.getElem?_set_ne (by decide)]; exact s0, rfl⟩
        | 1, e => cases e
        | 2, e => cases e; exact ⟨_, by rw [List.getElem?_set_self (by rw [List.length_set]; omega)], p, rfl, rfl⟩
        | 3, e => cases e
        | 4, e => cases e
        | 5, e => cases e
        | 6, e => cases e
        | l + 7, e => simp at e)
      sep := (fun l m xs ys c _ e _ _ _ => by
        match l, e with
        | 0, e => cases e
        | 1, e => cases e
        | 2, e => cases e
        | 3, e => cases e
        | 4, e => cases e
        | 5, e => cases e
        | 6, e => cases e
        | l + 7, e => simp at e) }
  show gName 2 (.ref p) (σ.set 1 (some (.int (0 + (i : Int))))) H3 _
  unfold gName
  dsimp only
  refine sx_run (N := fun G' n' => ∃ o1 o3 o4 o5 o6, G' = [some (.cst (.ref a)), o1, some .pur, o3, o4, o5, o6]) (R := fun _ _ => False) S3 ?_ (fun G' n' σ' W' H' hN e S' => ?_) (fun d n' v W' H' z => z.elim)
  rotate_left
  · obtain ⟨o1, o3, o4, o5, o6, rfl⟩ := hN
    obtain ⟨v, e1, e2⟩ := S'.bd 0 _ rfl
    refine ⟨S'.len, by rw [e1, show v = .ref a from e2], Kr.SqL.keepA hs1 fun o ho => S'.mv.keep a o (ex a o ho) fun z => ?_⟩
    cases z
    rw [hp] at ho
    cases ho
  · have n0 : True := True.intro
    obtain ⟨n, hn⟩ : ∃ n : Nat, n = 0 := ⟨0, rfl⟩
    rw [← hn]
    have hn : n ≤ 100 := by omega
    refine sx_forP [(5 : Int), 16] (fun x => .int x) (fun pr G n' => n' ≤ n + 300 * pr.length ∧ ∃ o1 o3 o4 o5 o6, G = [some (.cst (.ref a)), o1, some .pur, o3, o4, o5, o6]) (es_tup (ep_t2 ep_int ep_int)) ⟨Nat.le_refl _, none, none, none, none, none, rfl⟩ ?_ (fun G n' h => h.2)
    rintro pr most po G n' e0 ⟨hn', o1, o3, o4, o5, o6, rfl⟩
    have hmost : 0 ≤ most ∧ most ≤ 16 := by
      have : most ∈ [(5 : Int), 16] := by rw [e0]; simp
      have h2 : most = 5 ∨ most = 16 := by simpa using this
      omega
    have hpr : pr.length ≤ 1 := by
      have h1 : ([(5 : Int), 16] : List Int).length = pr.length + (po.length + 1) := by rw [e0, List.length_append, List.length_cons]
      have h2 : ([(5 : Int), 16] : List Int).length = 2 := rfl
      omega
    rw [show (pr ++ [most]).length = pr.length + 1 by rw [List.length_append]; rfl]
    refine ⟨_, _, tg_name, ?_⟩
    show Sx _ [some (.cst (.ref a)), o1, some .pur, some (.fro (.int most)), o4, o5, o6] _ _ _
    refine sx_seq (M := fun G n2 => n2 = n' + 20 ∧ ∃ r, RowP r ∧ G = [some (.cst (.ref a)), o1, some .pur, some (.fro (.int most)), some (.fro (rowDt r)), o5, o6]) (sx_asgV (P := fun d n2 => n2 = n' + 20 ∧ ∃ r, d = rowDt r ∧ RowP r) (ev_callX0 (α := Unit) () rfl ea_nil rfl True.intro (by omega) fun d hd => ⟨rfl, hd⟩) fun d n2 ⟨e, r, ed, hr⟩ => ⟨e, r, hr, by rw [ed]; rfl⟩) ?_
    rintro G n2 ⟨rfl, r, hr, rfl⟩
    refine sx_seq (M := fun G n2 => n2 = n' + 80 ∧ ∃ ss, SpotP r most ss ∧ G = [some (.cst (.ref a)), o1, some .pur, some (.fro (.int most)), some (.fro (rowDt r)), some (.fro (bkD (bookF r ss))), o6]) (sx_asgV (P := fun d n2 => n2 = n' + 80 ∧ ∃ ss, d = bkD (bookF r ss) ∧ SpotP r most ss) (ev_callX0 (α := Row × Int) (r, most) rfl (ea2 (ep_var rfl) (ep_var rfl)) rfl ⟨hr, hmost⟩ (by omega) fun d hd => ⟨by omega, hd⟩) fun d n2 ⟨e, ss, ed, hss⟩ => ⟨e, ss, hss, by rw [ed]; rfl⟩) ?_
    rintro G n2 ⟨rfl, ss, hss, rfl⟩
    have hbf := PL.bk r ss most hr hmost.2 hss
    have hrt := fun far m sg ps => PL.rt r ss most far m sg ps hr hmost.2 hss
    have hvl := fun more => PL.vl r ss most more hr hmost.2 hss
    have hcf := fun far fac bs => PL.cf r ss most far fac bs hr hmost.2 hss
    have fsE : fsts (bookF r ss) = ss := by
      show (bookF r ss).map (·.1) = ss
      unfold bookF
      rw [List.map_map]
      exact List.map_id' ss
    have hN : BkN (bookF r ss) := by
      have hl := hss.len
      refine ⟨by unfold bookF; rw [List.length_map]; omega, ?_, ?_⟩
      · rw [fsE]
        exact hss.asc.imp fun h => Int.ne_of_lt h
      · rw [fsE]
        exact hss.far
    generalize bookF r ss = b at *
    refine sx_seq (M := fun G n2 => n2 = n' + 83 ∧ ∃ far : Int, (-50 ≤ far ∧ far ≤ 10000000000000000000000000000) ∧ G = [some (.cst (.ref a)), o1, some .pur, some (.fro (.int most)), some (.fro (rowDt r)), some (.fro (bkD b)), some (.fro (.int far))]) (sx_asgI (k := 2 + 1) (evi_pick (k := 2) (l := 1) (L := 2) (A := fun z => -50 ≤ z ∧ z ≤ 10000000000000000000000000000)
      (eai_cons (k := 1) (l := 1) (A := fun z => -50 ≤ z ∧ z ≤ 10000000000000000000000000000) (evi_op (k := 1) (l := 0) (A := fun z => 0 ≤ z ∧ z < 99) (B := fun y => y = 50) (f := fun i j => i - j) (evi_toss1 rfl ep_int (by decide) (by omega)) (evi_ep ep_int rfl) fun x y hx hy => ⟨od_i, by omega, by omega⟩) fun z1 h1 => eai_cons (k := 1) (l := 0) (A := fun z => -50 ≤ z ∧ z ≤ 10000000000000000000000000000) (evi_mono (evi_toss1 (m := 10 ^ (28 : Int).toNat) rfl (ep_p10 (by decide)) (by decide) (by omega)) fun z hz => by rw [p28] at hz; omega) fun z2 h2 => eai_nil ⟨rfl, fun z hz => ?_⟩)
      (evi_toss1 rfl ep_int (by decide) (by omega)) (by decide)) fun z hz => ⟨by omega, z, hz, rfl⟩) ?_
    · have hz : z = z1 ∨ z = z2 := by simpa using hz
      rcases hz with e | e
      · rw [e]; exact h1
      · rw [e]; exact h2
    rintro G n2 ⟨rfl, far, hfar, rfl⟩
    refine sx_seq (M := fun G n2 => n2 = n' + 123 ∧ G = [some (.cst (.ref a)), o1, some .pur, some (.fro (.int most)), some (.fro (rowDt r)), some (.fro (bkD b)), some (.fro (.int far))]) (sx_ifV (PB := fun bb n2 => bb = false ∧ n2 = n' + 123) (evt_or (PB := fun bb n2 => bb = false ∧ n2 = n' + 83) (evt_et (b := false) (et_test (ep_op (ev_conflict_of (ea_cons (ep_var rfl) ea_nil) hbf) ep_non (od_notN (d := .none)))) ⟨rfl, rfl⟩) fun bb n2 ⟨e1, e2⟩ => ?_) fun bb n2 ⟨e1, e2⟩ => ?_) ?_
    · subst e1 e2
      exact evt_not (PB := fun bb n2 => bb = true ∧ n2 = n' + 123) (evt_B (P := fun d n2 => d = .bool true ∧ n2 = n' + 123) (ev_callX0 (α := Row × (List (Int × Int)) × Int) (r, b, far) rfl (ea3 (ep_var rfl) (ep_var rfl) (ep_var rfl)) rfl ⟨⟨hN, hr⟩, hbf, fun ps m sg h1 h2 h3 => hrt far m sg ps hfar h1 h2 h3⟩ (by omega) fun d hd => ⟨hd, by omega⟩) fun d n2 ⟨e1, e2⟩ => ⟨true, e1, rfl, e2⟩) fun bb n2 ⟨e1, e2⟩ => ⟨by rw [e1]; rfl, e2⟩
    · subst e1 e2
      exact sx_next ⟨rfl, rfl⟩
    rintro G n2 ⟨rfl, rfl⟩
    refine sx_seq (M := fun G n2 => n2 = n' + 153 ∧ G = [some (.cst (.ref a)), o1, some .pur, some (.fro (.int most)), some (.fro (rowDt r)), some (.fro (bkD b)), some (.fro (.int far))]) (sx_ifV (PB := fun bb n2 => bb = false ∧ n2 = n' + 153) (evt_not (PB := fun bb n2 => bb = true ∧ n2 = n' + 153) (evt_B (P := fun d n2 => d = .bool true ∧ n2 = n' + 153) (ev_callX0 (α := (List (Int × Int)) × Row) (b, r) rfl (ea2 (ep_var rfl) (ep_var rfl)) rfl ⟨⟨hN, hr⟩, fun more h1 h2 => hvl more h1 h2⟩ (by omega) fun d hd => ⟨hd, by omega⟩) fun d n2 ⟨e1, e2⟩ => ⟨true, e1, rfl, e2⟩) fun bb n2 ⟨e1, e2⟩ => ⟨by rw [e1]; rfl, e2⟩) fun bb n2 ⟨e1, e2⟩ => ?_) ?_
    · subst e1 e2
      exact sx_next ⟨rfl, rfl⟩
    rintro G n2 ⟨rfl, rfl⟩
    refine sx_ifV (PB := fun bb n2 => bb = false ∧ n2 = n' + 174) (evt_not (PB := fun bb n2 => bb = true ∧ n2 = n' + 174) (evt_B (P := fun d n2 => d = .bool true ∧ n2 = n' + 174) (ev_callV (PL := fun ds n2 => n2 = n' + 174 ∧ ∃ (bs : List (Int × Int)) (fac : Int), ds = [bkD bs, .int far, .int fac] ∧ CfOk bs far fac) (eva_cons (P1 := fun d n2 => n2 = n' + 173 ∧ ∃ bs, d = bkD bs ∧ BentP b bs) (ev_callX0 (α := List (Int × Int)) b rfl (ea_cons (ep_var rfl) ea_nil) rfl hbf.1 (by omega) fun d hd => ⟨by omega, hd⟩) fun d n2 ⟨e1, bs, e2, hP⟩ => ?_) fun ds n2 ⟨e1, bs, fac, e2, hC⟩ => ⟨(bs, far, fac), e2, hC, rfl, e1⟩) fun d n2 ⟨e1, e2⟩ => ⟨true, e1, rfl, e2⟩) fun bb n2 ⟨e1, e2⟩ => ⟨by rw [e1]; rfl, e2⟩) fun bb n2 ⟨e1, e2⟩ => ?_
    · subst e1 e2
      refine eva_cons (P1 := fun d n2 => d = .int far ∧ n2 = n' + 173) (ev_ep (ep_var rfl) ⟨rfl, rfl⟩) fun d n2 ⟨e1, e2⟩ => ?_
      subst e1 e2
      have p6 : (10 : Int) ^ (6 : Int).toNat = 1000000 := by decide
      exact eva_cons (evi_op (k := 1) (l := 0) (A := fun z => 0 ≤ z ∧ z < 1000000) (B := fun y => y = 1) (C := fun z => 1 ≤ z ∧ z ≤ 1000000) (f := fun i j => i + j) (evi_mono (evi_toss1 (m := 10 ^ (6 : Int).toNat) rfl (ep_p10 (by decide)) (by decide) (by omega)) fun z hz => by rw [p6] at hz; exact hz) (evi_ep ep_int rfl) fun x y hx hy => ⟨od_i, by omega, by omega⟩) fun d n3 ⟨e3, fac, ef, hf⟩ => eva_nil ⟨by omega, bs, fac, by rw [ef], hcf far fac bs hfar hf hP.fs hP.rg⟩
    · subst e1 e2
      exact sx_next ⟨by omega, _, _, _, _, _, rfl⟩

end Kr
end
section
/-! M7: classes by remainders: the one class that meets all. -/
namespace Kr
theorem gcdStep (a b q : Int) : Int.gcd b (a - q * b) = Int.gcd a b := by
  rw [show a - q * b = a + -q * b by rw [Int.neg_mul]; rfl, Int.gcd_comm b, Int.gcd_add_mul_right_left]
theorem invL_ok (n m : Int) : ∀ (k : Nat) (one other fa fo : Int), other.toNat < k → 0 ≤ one → 0 ≤ other → m ∣ one - fa * n → m ∣ other - fo * n → m ∣ (Int.gcd one other : Int) - invL k one other fa fo * n := by
  intro k
  induction k with
  | zero => intro one other fa fo h; omega
  | succ k ih =>
    intro one other fa fo h o1 o2 d1 d2
    show m ∣ _ - (if other = 0 then fa else invL k other (one - one / other * other) fo (fa - one / other * fo)) * n
    by_cases z : other = 0
    · rw [if_pos z, z, Int.gcd_zero_right, show ((one.natAbs : Nat) : Int) = one by omega]
      exact d1
    · rw [if_neg z, ← gcdStep one other (one / other)]
      have e := emod_sub one other
      have r0 := Int.emod_nonneg one z
      have r1 := Int.emod_lt_of_pos one (show 0 < other by omega)
      refine ih other (one - one / other * other) fo (fa - one / other * fo) (by omega) o2 (by omega) d2 ?_
      have h3 : one - one / other * other - (fa - one / other * fo) * n = (one - fa * n) - one / other * (other - fo * n) := by
        rw [Int.sub_mul, Int.mul_sub, Int.mul_assoc]
        omega
      rw [h3]
      exact Int.dvd_sub d1 (Int.dvd_trans d2 (Int.dvd_mul_left _ _))
theorem invF_ok {n m : Int} (h : 1 ≤ m) : m ∣ (Int.gcd n m : Int) - invF n m * n := by
  have h0 := invL_ok n m ((n % m).toNat + 1) m (n % m) 0 1 (by omega) (by omega) (Int.emod_nonneg n (by omega)) (by simp) (by
    rw [Int.one_mul]
    exact ⟨-(n / m), by rw [Int.emod_def, Int.mul_neg]; omega⟩)
  have e : Int.gcd m (n % m) = Int.gcd n m := by
    rw [Int.emod_def, Int.mul_comm m]
    exact gcdStep n m (n / m)
  rw [e] at h0
  unfold invF
  generalize invL _ _ _ _ _ = v at *
  obtain ⟨t, ht⟩ := h0
  refine ⟨t + v / m * n, ?_⟩
  rw [Int.emod_def, Int.mul_add, ← ht, Int.sub_mul, Int.mul_assoc m]
  omega
theorem bez {n m : Int} (h : 1 ≤ m) : ∃ u v : Int, (Int.gcd n m : Int) = u * n + v * m := by
  obtain ⟨t, ht⟩ := invF_ok (n := n) h
  exact ⟨invF n m, t, by rw [Int.mul_comm t]; omega⟩
theorem comb {a c d : Int} (hc : 1 ≤ c) (h : (Int.gcd a c : Int) ∣ d) : ∃ x y : Int, d = a * x + c * y := by
  obtain ⟨u, v, e⟩ := bez (n := a) hc
  obtain ⟨k, hk⟩ := h
  refine ⟨u * k, v * k, ?_⟩
  rw [hk, e, Int.add_mul, Int.mul_comm u, Int.mul_comm v, Int.mul_assoc, Int.mul_assoc]
theorem gcd_parts {a b : Int} (ha : 1 ≤ a) (hb : 1 ≤ b) : 0 < (Int.gcd a b : Int) ∧ a / (Int.gcd a b : Int) * (Int.gcd a b : Int) = a ∧ b / (Int.gcd a b : Int) * (Int.gcd a b : Int) = b ∧ 0 < a / (Int.gcd a b : Int) ∧ 0 < b / (Int.gcd a b : Int) ∧ Int.gcd (a / (Int.gcd a b : Int)) (b / (Int.gcd a b : Int)) = 1 := by
  have g0 : 0 < (Int.gcd a b : Int) := by
    have := Int.gcd_pos_of_ne_zero_left b (a := a) (by omega)
    omega
  have d1 := Int.gcd_dvd_left a b
  have d2 := Int.gcd_dvd_right a b
  refine ⟨g0, Int.ediv_mul_cancel d1, Int.ediv_mul_cancel d2, Int.ediv_pos_of_pos_of_dvd (by omega) (by omega) d1, Int.ediv_pos_of_pos_of_dvd (by omega) (by omega) d2, ?_⟩
  exact Int.gcd_ediv_gcd_ediv_gcd (by omega)
/-- what both parts by c divide, the least common multiple's part by c divides -/
theorem gcd_lcm {a b c d : Int} (ha : 1 ≤ a) (hb : 1 ≤ b) (hc : 1 ≤ c) (h1 : (Int.gcd a c : Int) ∣ d) (h2 : (Int.gcd b c : Int) ∣ d) : (Int.gcd (a * (b / (Int.gcd a b : Int))) c : Int) ∣ d := by
  obtain ⟨g0, ea, eb, pa, pb, e1⟩ := gcd_parts ha hb
  generalize (Int.gcd a b : Int) = g at *
  generalize a / g = a' at *
  generalize b / g = b' at *
  obtain ⟨s, t, st⟩ := bez (n := a') (m := b') (by omega)
  rw [e1] at st
  obtain ⟨x, y, ex⟩ := comb hc h1
  obtain ⟨z, w, ez⟩ := comb hc h2
  have dl := Int.gcd_dvd_left (a * b') c
  have dr := Int.gcd_dvd_right (a * b') c
  generalize (Int.gcd (a * b') c : Int) = G at *
  have k1 : G ∣ a' * d := by
    rw [ez, Int.mul_add]
    refine Int.dvd_add ?_ ?_
    · rw [show a' * (b * z) = a * b' * z by rw [← eb, ← ea]; ac_rfl]
      exact Int.dvd_trans dl (Int.dvd_mul_right _ _)
    · rw [show a' * (c * w) = c * (a' * w) by ac_rfl]
      exact Int.dvd_trans dr (Int.dvd_mul_right _ _)
  have k2 : G ∣ b' * d := by
    rw [ex, Int.mul_add]
    refine Int.dvd_add ?_ ?_
    · rw [show b' * (a * x) = a * b' * x by ac_rfl]
      exact Int.dvd_trans dl (Int.dvd_mul_right _ _)
    · rw [show b' * (c * y) = c * (b' * y) by ac_rfl]
      exact Int.dvd_trans dr (Int.dvd_mul_right _ _)
  have e : d = s * (a' * d) + t * (b' * d) := by
    rw [← Int.mul_assoc, ← Int.mul_assoc, ← Int.add_mul, ← st]
    show d = ((1 : Nat) : Int) * d
    rw [Int.natCast_one, Int.one_mul]
  rw [e]
  exact Int.dvd_add (Int.dvd_trans k1 (Int.dvd_mul_left _ _)) (Int.dvd_trans k2 (Int.dvd_mul_left _ _))
theorem metF_ok {a b : Int × Int} (ha : 1 ≤ a.2) (hb : 1 ≤ b.2) (hc : (Int.gcd a.2 b.2 : Int) ∣ b.1 - a.1) : a.2 ∣ (metF a b).1 - a.1 ∧ b.2 ∣ (metF a b).1 - b.1 := by
  obtain ⟨g0, ea, eb, pa, pb, e1⟩ := gcd_parts ha hb
  unfold metF
  obtain ⟨k, hk⟩ := hc
  rw [hk]
  generalize (Int.gcd a.2 b.2 : Int) = g at *
  have i1 := invF_ok (n := a.2 / g) (m := b.2 / g) (by omega)
  rw [e1] at i1
  generalize hm : a.2 / g = m' at *
  generalize hp : b.2 / g = p at *
  rw [Int.mul_ediv_cancel_left _ (by omega)]
  generalize invF m' p = i at *
  show a.2 ∣ a.1 + a.2 * (k * i % p) - a.1 ∧ b.2 ∣ a.1 + a.2 * (k * i % p) - b.1
  have ht : p ∣ k * i - k * i % p := ⟨k * i / p, by rw [Int.emod_def]; omega⟩
  generalize k * i % p = t at *
  refine ⟨⟨t, by omega⟩, ?_⟩
  have e2 : a.1 + a.2 * t - b.1 = g * (m' * t - k) := by
    rw [Int.mul_sub, ← Int.mul_assoc, Int.mul_comm g m', ea, ← hk]
    omega
  rw [e2, ← eb, Int.mul_comm p g]
  refine Int.mul_dvd_mul (Int.dvd_refl g) ?_
  have h3 : p ∣ k * (1 - i * m') := Int.dvd_trans i1 (Int.dvd_mul_left _ _)
  have h4 : p ∣ m' * (k * i - t) := Int.dvd_trans ht (Int.dvd_mul_left _ _)
  have e5 : m' * t - k = -(k * (1 - i * m')) - m' * (k * i - t) := by
    rw [Int.mul_sub, Int.mul_sub, Int.mul_one, show m' * (k * i) = k * (i * m') by ac_rfl]
    omega
  rw [e5]
  exact Int.dvd_sub (Int.dvd_neg.mpr h3) h4
theorem metF_2 (a b : Int × Int) : (metF a b).2 = a.2 * (b.2 / (Int.gcd a.2 b.2 : Int)) := rfl
theorem met_bd {a b : Int × Int} (ra : 0 ≤ a.1 ∧ a.1 < a.2) (hb : 1 ≤ b.2) : 0 ≤ (metF a b).1 ∧ (metF a b).1 < (metF a b).2 := by
  obtain ⟨g0, ea, eb, pa, pb, e1⟩ := gcd_parts (a := a.2) (b := b.2) (by omega) hb
  unfold metF
  show 0 ≤ a.1 + a.2 * _ ∧ a.1 + a.2 * _ < a.2 * _
  generalize b.2 / (Int.gcd a.2 b.2 : Int) = p at *
  generalize (b.1 - a.1) / (Int.gcd a.2 b.2 : Int) * invF (a.2 / (Int.gcd a.2 b.2 : Int)) p = t
  have h1 := Int.emod_nonneg t (show p ≠ 0 by omega)
  have h2 := Int.emod_lt_of_pos t pb
  have h3 : 0 ≤ a.2 * (t % p) := Int.mul_nonneg (by omega) h1
  have h4 : a.2 * (t % p) ≤ a.2 * (p - 1) := Int.mul_le_mul_of_nonneg_left (by omega) (by omega)
  rw [Int.mul_sub, Int.mul_one] at h4
  exact ⟨by omega, by omega⟩
theorem met_div {a b : Int × Int} (ha : 1 ≤ a.2) (hb : 1 ≤ b.2) : a.2 ∣ (metF a b).2 ∧ b.2 ∣ (metF a b).2 ∧ ∀ X : Int, a.2 ∣ X → b.2 ∣ X → (metF a b).2 ∣ X := by
  obtain ⟨g0, ea, eb, pa, pb, e1⟩ := gcd_parts ha hb
  rw [metF_2]
  generalize (Int.gcd a.2 b.2 : Int) = g at *
  generalize hm : a.2 / g = m' at *
  generalize hp : b.2 / g = p at *
  refine ⟨Int.dvd_mul_right _ _, ⟨m', ?_⟩, fun X h1 h2 => ?_⟩
  · rw [← ea, ← eb]; ac_rfl
  · obtain ⟨x, hx⟩ := h1
    obtain ⟨y, hy⟩ := h2
    obtain ⟨s, t, st⟩ := bez (n := m') (m := p) (by omega)
    rw [e1] at st
    refine ⟨s * y + t * x, ?_⟩
    have e3 : X = (s * m' + t * p) * X := by rw [← st]; show X = ((1 : Nat) : Int) * X; rw [Int.natCast_one, Int.one_mul]
    rw [e3, Int.add_mul, Int.mul_add]
    have e4 : s * m' * X = a.2 * p * (s * y) := by rw [hy, ← eb, ← ea]; ac_rfl
    have e5 : t * p * X = a.2 * p * (t * x) := by rw [hx]; ac_rfl
    rw [e4, e5]
/-- what a class that meets all is -/
structure Meets (c0 : Int × Int) (cs : List (Int × Int)) (c : Int × Int) : Prop where
  bd : 0 ≤ c.1 ∧ c.1 < c.2
  d0 : c0.2 ∣ c.1 - c0.1
  ds : ∀ q ∈ cs, q.2 ∣ c.1 - q.1
  m0 : c0.2 ∣ c.2
  ms : ∀ q ∈ cs, q.2 ∣ c.2
  least : ∀ X : Int, c0.2 ∣ X → (∀ q ∈ cs, q.2 ∣ X) → c.2 ∣ X
theorem fold_ok : ∀ (cs : List (Int × Int)) (c0 : Int × Int), (0 ≤ c0.1 ∧ c0.1 < c0.2) → (∀ q ∈ cs, 1 ≤ q.2) → (∀ q ∈ cs, (Int.gcd c0.2 q.2 : Int) ∣ q.1 - c0.1) → cs.Pairwise (fun p q => (Int.gcd p.2 q.2 : Int) ∣ q.1 - p.1) → Meets c0 cs (cs.foldl metF c0)
  | [], c0, hb, _, _, _ => ⟨hb, ⟨0, by simp⟩, (fun q h => by cases h), Int.dvd_refl _, (fun q h => by cases h), fun X h _ => h⟩
  | q :: cs, c0, hb, hm, hc, hp => by
    have hp' := List.pairwise_cons.mp hp
    have hq := hm q (by simp)
    have h0 : 1 ≤ c0.2 := by omega
    have mo := metF_ok h0 hq (hc q (by simp))
    have md := met_div h0 hq
    have mb := met_bd hb hq
    have ih := fold_ok cs (metF c0 q) mb (fun p h => hm p (by simp [h])) (fun p h => ?_) hp'.2
    · show Meets c0 (q :: cs) (cs.foldl metF (metF c0 q))
      generalize cs.foldl metF (metF c0 q) = c at *
      have e1 : c.1 - c0.1 = (c.1 - (metF c0 q).1) + ((metF c0 q).1 - c0.1) := by omega
      have e2 : c.1 - q.1 = (c.1 - (metF c0 q).1) + ((metF c0 q).1 - q.1) := by omega
      refine ⟨ih.bd, ?_, fun p h => ?_, Int.dvd_trans md.1 ih.m0, fun p h => ?_, fun X x0 xs => ih.least X (md.2.2 X x0 (xs q (by simp))) fun p h => xs p (by simp [h])⟩
      · rw [e1]; exact Int.dvd_add (Int.dvd_trans md.1 ih.d0) mo.1
      · rcases List.mem_cons.mp h with z | z
        · rw [z, e2]; exact Int.dvd_add (Int.dvd_trans md.2.1 ih.d0) mo.2
        · exact ih.ds p z
      · rcases List.mem_cons.mp h with z | z
        · rw [z]; exact Int.dvd_trans md.2.1 ih.m0
        · exact ih.ms p z
    · have hpm := hm p (by simp [h])
      rw [metF_2]
      refine gcd_lcm h0 hq hpm ?_ ?_
      · rw [show p.1 - (metF c0 q).1 = (p.1 - c0.1) - ((metF c0 q).1 - c0.1) by omega]
        exact Int.dvd_sub (hc p (by simp [h])) (Int.dvd_trans (Int.gcd_dvd_left _ _) mo.1)
      · rw [show p.1 - (metF c0 q).1 = (p.1 - q.1) - ((metF c0 q).1 - q.1) by omega]
        exact Int.dvd_sub (hp'.1 p h) (Int.dvd_trans (Int.gcd_dvd_left _ _) mo.2)
end Kr
end
section
/-! M8: the class at a place. -/
namespace Kr
def clq (pl : Int) (q : Int × Int) : Int × Int := (q.2 % ((pl - q.1).natAbs : Int), ((pl - q.1).natAbs : Int))
theorem clsG_fold (pl : Int) : ∀ (l : List (Int × Int)) (f : Int × Int), (∀ q ∈ l, q.1 ≠ pl) → clsG pl f l = (l.map (clq pl)).foldl metF f
  | [], f, _ => rfl
  | q :: l, f, h => by
    show (if q.1 = pl then (q.2, 0) else clsG pl (metF f (clq pl q)) l) = _
    rw [if_neg (h q (by simp)), clsG_fold pl l _ fun p hp => h p (by simp [hp])]
    rfl
/-- two told values fit -/
def Fit (p q : Int × Int) : Prop := p.1 - q.1 ∣ p.2 - q.2
theorem Fit.symm {p q : Int × Int} (h : Fit p q) : Fit q p := by
  unfold Fit at *
  rw [show q.1 - p.1 = -(p.1 - q.1) by omega, show q.2 - p.2 = -(p.2 - q.2) by omega]
  exact Int.neg_dvd.mpr (Int.dvd_neg.mpr h)
/-- the one class at a place -/
structure ClsIs (l : List (Int × Int)) (pl : Int) (c : Int × Int) : Prop where
  bd : 0 ≤ c.1 ∧ c.1 < c.2
  ds : ∀ q ∈ l, pl - q.1 ∣ c.1 - q.2
  ms : ∀ q ∈ l, pl - q.1 ∣ c.2
  least : ∀ X : Int, (∀ q ∈ l, pl - q.1 ∣ X) → c.2 ∣ X
theorem ClsIs.uniq {l l' : List (Int × Int)} {pl pl' : Int} {c c' : Int × Int} (h : ClsIs l pl c) (h' : ClsIs l' pl' c') (e : ∀ X : Int, (∀ q ∈ l, pl - q.1 ∣ X) ↔ (∀ q ∈ l', pl' - q.1 ∣ X)) (es : ∀ v : Int, (∀ q ∈ l, pl - q.1 ∣ v - q.2) ↔ (∀ q ∈ l', pl' - q.1 ∣ v - q.2)) : c = c' := by
  have m1 : c.2 ∣ c'.2 := h.least _ ((e _).mpr h'.ms)
  have m2 : c'.2 ∣ c.2 := h'.least _ ((e _).mp h.ms)
  have b1 := h.bd
  have b2 := h'.bd
  have em : c.2 = c'.2 := Int.dvd_antisymm (by omega) (by omega) m1 m2
  have d : c.2 ∣ c.1 - c'.1 := h.least _ fun q hq => by
    have x1 := h.ds q hq
    have x2 := (es c'.1).mpr h'.ds q hq
    rw [show c.1 - c'.1 = (c.1 - q.2) - (c'.1 - q.2) by omega]
    exact Int.dvd_sub x1 x2
  have e1 : c.1 = c'.1 := by
    obtain ⟨k, hk⟩ := d
    by_cases z : k = 0
    · rw [z, Int.mul_zero] at hk; omega
    · have : k ≤ -1 ∨ 1 ≤ k := by omega
      rcases this with y | y
      · have := Int.mul_le_mul_of_nonneg_left y (show 0 ≤ c.2 by omega)
        omega
      · have := Int.mul_le_mul_of_nonneg_left y (show 0 ≤ c.2 by omega)
        omega
  exact Prod.ext e1 em
theorem nat_dvd {a b : Int} : (a.natAbs : Int) ∣ b ↔ a ∣ b := ⟨fun h => Int.dvd_trans Int.dvd_natAbs_self h, fun h => Int.dvd_trans (Int.natAbs_dvd_self) h⟩
theorem classF_is {l : List (Int × Int)} {pl : Int} (hn : ∀ q ∈ l, q.1 ≠ pl) (hf : l.Pairwise Fit) : ClsIs l pl (classF l pl) := by
  unfold classF
  rw [clsG_fold pl l _ hn]
  have M := fold_ok (l.map (clq pl)) (0, 1) (by decide) (fun q hq => ?_) (fun q hq => ?_) ?_
  · refine ⟨M.bd, fun q hq => ?_, fun q hq => nat_dvd.mp (M.ms _ (List.mem_map.mpr ⟨q, hq, rfl⟩)), fun X h => M.least X (Int.one_dvd X) fun q hq => ?_⟩
    · have h1 : ((pl - q.1).natAbs : Int) ∣ _ - q.2 % ((pl - q.1).natAbs : Int) := M.ds _ (List.mem_map.mpr ⟨q, hq, rfl⟩)
      generalize (List.foldl metF (0, 1) (l.map (clq pl))).1 = v at *
      refine nat_dvd.mp ?_
      rw [show v - q.2 = (v - q.2 % ((pl - q.1).natAbs : Int)) - (q.2 - q.2 % ((pl - q.1).natAbs : Int)) by omega]
      exact Int.dvd_sub h1 ⟨q.2 / ((pl - q.1).natAbs : Int), by rw [Int.emod_def]; omega⟩
    · obtain ⟨p, hp, rfl⟩ := List.mem_map.mp hq
      exact nat_dvd.mpr (h p hp)
  · obtain ⟨p, hp, rfl⟩ := List.mem_map.mp hq
    have := hn p hp
    show 1 ≤ ((pl - p.1).natAbs : Int)
    omega
  · rw [Int.gcd_one_left]
    exact Int.one_dvd _
  · refine List.pairwise_map.mpr (hf.imp fun {p q} h => ?_)
    show (Int.gcd ((pl - p.1).natAbs : Int) ((pl - q.1).natAbs : Int) : Int) ∣ q.2 % ((pl - q.1).natAbs : Int) - p.2 % ((pl - p.1).natAbs : Int)
    have d1 := Int.gcd_dvd_left ((pl - p.1).natAbs : Int) ((pl - q.1).natAbs : Int)
    have d2 := Int.gcd_dvd_right ((pl - p.1).natAbs : Int) ((pl - q.1).natAbs : Int)
    generalize (Int.gcd ((pl - p.1).natAbs : Int) ((pl - q.1).natAbs : Int) : Int) = g at *
    have e1 : g ∣ p.2 - p.2 % ((pl - p.1).natAbs : Int) := Int.dvd_trans d1 ⟨p.2 / ((pl - p.1).natAbs : Int), by rw [Int.emod_def]; omega⟩
    have e2 : g ∣ q.2 - q.2 % ((pl - q.1).natAbs : Int) := Int.dvd_trans d2 ⟨q.2 / ((pl - q.1).natAbs : Int), by rw [Int.emod_def]; omega⟩
    have e3 : g ∣ p.1 - q.1 := by
      rw [show p.1 - q.1 = (pl - q.1) - (pl - p.1) by omega]
      exact Int.dvd_sub (Int.dvd_trans d2 (nat_dvd.mpr (Int.dvd_refl _))) (Int.dvd_trans d1 (nat_dvd.mpr (Int.dvd_refl _)))
    have e4 : g ∣ p.2 - q.2 := Int.dvd_trans e3 h
    rw [show q.2 % ((pl - q.1).natAbs : Int) - p.2 % ((pl - p.1).natAbs : Int) = (p.2 - p.2 % ((pl - p.1).natAbs : Int)) - (q.2 - q.2 % ((pl - q.1).natAbs : Int)) - (p.2 - q.2) by omega]
    exact Int.dvd_sub (Int.dvd_sub e1 e2) e4
end Kr
end
section
/-! M9: conflicts. -/
namespace Kr
theorem getD_at {b : List (Int × Int)} {k : Nat} (h : k < b.length) : b.getD k (0, 0) = b[k] := by rw [List.getD_eq_getElem?_getD, List.getElem?_eq_getElem h]; rfl
theorem confs_mem (b : List (Int × Int)) (p : Int × Int) : p ∈ confs b ↔ ∃ i j : Nat, i < j ∧ j < b.length ∧ p = ((i : Int), (j : Int)) ∧ ¬ Fit (b.getD i (0, 0)) (b.getD j (0, 0)) := by
  unfold confs
  rw [List.mem_flatMap]
  constructor
  · rintro ⟨q, hq, hp⟩
    have hq2 := List.mem_zipIdx_iff_getElem?.mp hq
    obtain ⟨hl, e⟩ := List.getElem?_eq_some_iff.mp hq2
    unfold crow at hp
    obtain ⟨k, hk, rfl⟩ := List.mem_map.mp hp
    obtain ⟨h1, h2⟩ := List.mem_filter.mp hk
    have h1 := List.mem_range.mp h1
    refine ⟨q.2, q.2 + 1 + k, by omega, by omega, by simp only [Int.natCast_add]; rfl, ?_⟩
    rw [getD_at hl, e]
    unfold fitB at h2
    unfold Fit
    simpa using h2
  · rintro ⟨i, j, hij, hj, rfl, hf⟩
    refine ⟨(b[i], i), List.mem_zipIdx_iff_getElem?.mpr (List.getElem?_eq_getElem (by omega)), ?_⟩
    unfold crow
    refine List.mem_map.mpr ⟨j - (i + 1), List.mem_filter.mpr ⟨List.mem_range.mpr (by show j - (i + 1) < b.length - (i + 1); omega), ?_⟩, ?_⟩
    · show (!fitB b[i] (b.getD (i + 1 + (j - (i + 1))) (0, 0))) = true
      rw [show i + 1 + (j - (i + 1)) = j by omega, ← getD_at (show i < b.length by omega)]
      unfold fitB
      unfold Fit at hf
      simpa using hf
    · show ((i : Int), (i : Int) + 1 + ((j - (i + 1) : Nat) : Int)) = ((i : Int), (j : Int))
      congr 1
      omega
theorem confs_nil {b : List (Int × Int)} : confs b = [] ↔ b.Pairwise Fit := by
  constructor
  · intro h
    refine List.pairwise_iff_getElem.mpr fun i j hi hj hij => ?_
    by_cases z : Fit b[i] b[j]
    · exact z
    · have : ((i : Int), (j : Int)) ∈ confs b := (confs_mem b _).mpr ⟨i, j, hij, hj, rfl, by rw [getD_at hi, getD_at hj]; exact z⟩
      rw [h] at this
      cases this
  · intro h
    refine List.eq_nil_iff_forall_not_mem.mpr fun p hp => ?_
    obtain ⟨i, j, hij, hj, _, hf⟩ := (confs_mem b p).mp hp
    rw [getD_at (show i < b.length by omega), getD_at hj] at hf
    exact hf (List.pairwise_iff_getElem.mp h i j (by omega) hj hij)
/-- strictly before -/
def Lx (p q : Int × Int) : Prop := p.1 < q.1 ∨ p.1 = q.1 ∧ p.2 < q.2
theorem crow_asc (b : List (Int × Int)) (q : (Int × Int) × Nat) : (crow b q).Pairwise Lx := by
  unfold crow
  refine List.pairwise_map.mpr ?_
  refine ((List.pairwise_lt_range (n := b.length - (q.2 + 1))).filter _).imp fun {i j} h => .inr ⟨rfl, ?_⟩
  show (q.2 : Int) + 1 + (i : Int) < (q.2 : Int) + 1 + (j : Int)
  omega
theorem confs_asc (b : List (Int × Int)) : (confs b).Pairwise Lx := by
  unfold confs
  refine List.pairwise_flatMap.mpr ⟨fun q _ => crow_asc b q, ?_⟩
  have h : (b.zipIdx).Pairwise fun p q => p.2 < q.2 := by
    refine List.pairwise_iff_getElem.mpr fun i j hi hj hij => ?_
    rw [List.getElem_zipIdx, List.getElem_zipIdx]
    show 0 + i < 0 + j
    omega
  refine h.imp fun {p q} hpq x hx y hy => .inl ?_
  unfold crow at hx hy
  obtain ⟨k, _, rfl⟩ := List.mem_map.mp hx
  obtain ⟨l, _, rfl⟩ := List.mem_map.mp hy
  show (p.2 : Int) < (q.2 : Int)
  omega
theorem Lx.ne {p q : Int × Int} (h : Lx p q) : p ≠ q := fun e => by
  subst e
  unfold Lx at h
  omega
theorem lx_srtd {l : List (Int × Int)} (h : l.Pairwise Lx) : SrtO.Srtd SrtO.lexB l := h.imp fun {p q} h => SrtO.lexB_no.mpr (by unfold Lx at h; omega)
theorem lx_same {l m : List (Int × Int)} (hl : l.Pairwise Lx) (hm : m.Pairwise Lx) (h : ∀ p, p ∈ l ↔ p ∈ m) : l = m :=
  srt_uniq (lx_srtd hl) (lx_srtd hm) ((List.perm_ext_iff_of_nodup (hl.imp Lx.ne) (hm.imp Lx.ne)).mpr h)
theorem srt_same {l m : List (Int × Int)} (hl : l.Nodup) (hm : m.Pairwise Lx) (h : ∀ p, p ∈ l ↔ p ∈ m) : srtP l = m := srtP_eq (lx_srtd hm) ((List.perm_ext_iff_of_nodup hl (hm.imp Lx.ne)).mpr h)
end Kr
end
section
/-! M10: books moved and mirrored. -/
namespace Kr
def shB (b : List (Int × Int)) (far sg : Int) : List (Int × Int) := b.map fun q => (sg * q.1 + far, q.2)
theorem mov_1 {b : List (Int × Int)} {far : Int} (h : b.Pairwise fun p q => p.1 < q.1) : movF b far 1 = shB b far 1 := by
  unfold movF
  refine srtP_eq (lx_srtd (List.pairwise_map.mpr (h.imp fun {p q} h => .inl ?_))) (List.Perm.refl _)
  show 1 * p.1 + far < 1 * q.1 + far
  omega
theorem mov_m {b : List (Int × Int)} {far : Int} (h : b.Pairwise fun p q => p.1 < q.1) : movF b far (-1) = (shB b far (-1)).reverse := by
  unfold movF
  refine srtP_eq (lx_srtd (List.pairwise_reverse.mpr (List.pairwise_map.mpr (h.imp fun {p q} h => .inl ?_)))) (List.reverse_perm _).symm
  show -1 * q.1 + far < -1 * p.1 + far
  omega
theorem mov_perm (b : List (Int × Int)) (far sg : Int) : (movF b far sg).Perm (shB b far sg) := srtP_perm _
theorem confs_same {b c : List (Int × Int)} (hl : c.length = b.length) (h : ∀ i j : Nat, i < b.length → j < b.length → (Fit (c.getD i (0, 0)) (c.getD j (0, 0)) ↔ Fit (b.getD i (0, 0)) (b.getD j (0, 0)))) : confs c = confs b :=
  lx_same (confs_asc c) (confs_asc b) fun p => by
    rw [confs_mem, confs_mem]
    constructor
    · rintro ⟨i, j, h1, h2, e, hf⟩
      exact ⟨i, j, h1, by omega, e, fun z => hf ((h i j (by omega) (by omega)).mpr z)⟩
    · rintro ⟨i, j, h1, h2, e, hf⟩
      exact ⟨i, j, h1, by omega, e, fun z => hf ((h i j (by omega) (by omega)).mp z)⟩
theorem getD_map {b : List (Int × Int)} (f : Int × Int → Int × Int) {i : Nat} (h : i < b.length) : (b.map f).getD i (0, 0) = f (b.getD i (0, 0)) := by
  rw [getD_at (by rw [List.length_map]; exact h), getD_at h, List.getElem_map]
theorem sg_dvd {sg x y : Int} (h : sg = 1 ∨ sg = -1) : sg * x ∣ y ↔ x ∣ y := by
  rcases h with e | e
  · rw [e, Int.one_mul]
  · rw [e, Int.neg_mul, Int.one_mul]
    exact Int.neg_dvd
theorem fit_sh {p q : Int × Int} {far sg : Int} (h : sg = 1 ∨ sg = -1) : Fit (sg * p.1 + far, p.2) (sg * q.1 + far, q.2) ↔ Fit p q := by
  unfold Fit
  show sg * p.1 + far - (sg * q.1 + far) ∣ _ ↔ _
  rw [show sg * p.1 + far - (sg * q.1 + far) = sg * (p.1 - q.1) by rw [Int.mul_sub]; omega]
  exact sg_dvd h
theorem confs_m1 {b : List (Int × Int)} {far : Int} (h : b.Pairwise fun p q => p.1 < q.1) : confs (movF b far 1) = confs b := by
  rw [mov_1 h]
  unfold shB
  refine confs_same (List.length_map _) fun i j hi hj => ?_
  rw [getD_map _ hi, getD_map _ hj]
  exact fit_sh (.inl rfl)
theorem confs_turn (b : List (Int × Int)) : confs (turnB b) = confs b := by
  unfold turnB
  refine confs_same (List.length_map _) fun i j hi hj => ?_
  rw [getD_map _ hi, getD_map _ hj]
  unfold Fit
  show _ ∣ 7 - (b.getD i (0, 0)).2 - (7 - (b.getD j (0, 0)).2) ↔ _
  rw [show 7 - (b.getD i (0, 0)).2 - (7 - (b.getD j (0, 0)).2) = -((b.getD i (0, 0)).2 - (b.getD j (0, 0)).2) by omega]
  exact Int.dvd_neg
theorem getD_rev {c : List (Int × Int)} {i : Nat} (h : i < c.length) : c.reverse.getD i (0, 0) = c.getD (c.length - 1 - i) (0, 0) := by
  rw [getD_at (by rw [List.length_reverse]; exact h), getD_at (by omega), List.getElem_reverse]
theorem confs_m2 {b : List (Int × Int)} {far : Int} (h : b.Pairwise fun p q => p.1 < q.1) : confs (movF b far (-1)) = srtP ((confs b).map fun p => ((b.length : Int) - 1 - p.2, (b.length : Int) - 1 - p.1)) := by
  refine (srt_same ?_ (confs_asc _) fun p => ?_).symm
  · refine List.pairwise_map.mpr ((confs_asc b).imp fun {p q} h e => h.ne ?_)
    have h1 := congrArg Prod.fst e
    have h2 := congrArg Prod.snd e
    have h1 : (b.length : Int) - 1 - p.2 = (b.length : Int) - 1 - q.2 := h1
    have h2 : (b.length : Int) - 1 - p.1 = (b.length : Int) - 1 - q.1 := h2
    exact Prod.ext (by omega) (by omega)
  · rw [mov_m h, confs_mem, List.length_reverse]
    have hl : (shB b far (-1)).length = b.length := List.length_map _
    rw [hl]
    have key : ∀ i j : Nat, i < b.length → j < b.length → (Fit ((shB b far (-1)).reverse.getD i (0, 0)) ((shB b far (-1)).reverse.getD j (0, 0)) ↔ Fit (b.getD (b.length - 1 - j) (0, 0)) (b.getD (b.length - 1 - i) (0, 0))) := fun i j hi hj => by
      rw [getD_rev (by omega), getD_rev (by omega), hl]
      unfold shB
      rw [getD_map _ (by omega), getD_map _ (by omega)]
      exact (fit_sh (.inr rfl)).trans ⟨Fit.symm, Fit.symm⟩
    constructor
    · intro hp
      obtain ⟨q, hq, rfl⟩ := List.mem_map.mp hp
      obtain ⟨i, j, hij, hj, rfl, hf⟩ := (confs_mem b q).mp hq
      refine ⟨b.length - 1 - j, b.length - 1 - i, by omega, by omega, ?_, fun z => hf ?_⟩
      · show ((b.length : Int) - 1 - (j : Int), (b.length : Int) - 1 - (i : Int)) = _
        congr 1 <;> omega
      · have := (key _ _ (by omega) (by omega)).mp z
        rw [show b.length - 1 - (b.length - 1 - i) = i by omega, show b.length - 1 - (b.length - 1 - j) = j by omega] at this
        exact this
    · rintro ⟨i, j, hij, hj, rfl, hf⟩
      refine List.mem_map.mpr ⟨(((b.length - 1 - j : Nat) : Int), ((b.length - 1 - i : Nat) : Int)), (confs_mem b _).mpr ⟨b.length - 1 - j, b.length - 1 - i, by omega, by omega, rfl, fun z => hf ((key i j (by omega) hj).mpr z)⟩, ?_⟩
      show ((b.length : Int) - 1 - ((b.length - 1 - i : Nat) : Int), (b.length : Int) - 1 - ((b.length - 1 - j : Nat) : Int)) = _
      congr 1 <;> omega
theorem confs_long {b : List (Int × Int)} {fac : Int} : ∀ p ∈ confs (longB b fac), p ∈ confs (smallB b) := fun p hp => by
  obtain ⟨i, j, hij, hj, rfl, hf⟩ := (confs_mem _ p).mp hp
  have hl : (longB b fac).length = (smallB b).length := List.length_map _
  rw [hl] at hj
  refine (confs_mem _ _).mpr ⟨i, j, hij, hj, rfl, fun z => hf ?_⟩
  unfold longB
  rw [getD_map _ (by omega), getD_map _ hj]
  unfold Fit at *
  show _ ∣ ((smallB b).getD i (0, 0)).2 * fac - ((smallB b).getD j (0, 0)).2 * fac
  rw [← Int.sub_mul]
  exact Int.dvd_trans z (Int.dvd_mul_right _ _)
/-- places that leave room for a move -/
def Room29 (b : List (Int × Int)) : Prop := ∀ q ∈ b, -100000000000000000000000000000 ≤ q.1 ∧ q.1 ≤ 100000000000000000000000000000
theorem mov_bk {b : List (Int × Int)} {far sg : Int} (hb : Bk b) (hr : Room29 b) (hf : -50 ≤ far ∧ far ≤ 10000000000000000000000000000) (hs : sg = 1 ∨ sg = -1) : Bk (movF b far sg) := by
  have pm := mov_perm b far sg
  refine ⟨by rw [pm.length_eq]; unfold shB; rw [List.length_map]; exact hb.len, fun p hp => ?_, ?_⟩
  · obtain ⟨q, hq, rfl⟩ := List.mem_map.mp (pm.mem_iff.mp hp)
    have h1 := hr q hq
    refine ⟨?_, (hb.rng q hq).2⟩
    show _ ≤ sg * q.1 + far ∧ sg * q.1 + far ≤ _
    rcases hs with e | e
    · rw [e]; omega
    · rw [e]; omega
  · rcases hs with e | e
    · rw [e, mov_1 hb.asc]
      refine List.pairwise_map.mpr (hb.asc.imp fun {p q} h => ?_)
      show 1 * p.1 + far < 1 * q.1 + far
      omega
    · rw [e, mov_m hb.asc]
      refine List.pairwise_reverse.mpr (List.pairwise_map.mpr (hb.asc.imp fun {p q} h => ?_))
      show -1 * q.1 + far < -1 * p.1 + far
      omega
theorem cf_ok {b : List (Int × Int)} {far fac : Int} (hb : Bk b) (hr : Room29 b) (hf : -50 ≤ far ∧ far ≤ 10000000000000000000000000000) (h1 : 1 ≤ fac ∧ fac ≤ 1000000) : CfOk b far fac :=
  ⟨hb, mov_bk hb hr hf (.inl rfl), mov_bk hb hr hf (.inr rfl), h1, confs_m1 hb.asc, confs_m2 hb.asc, confs_turn b, confs_long⟩
end Kr
end
section
/-! M11: rows keep remainders. -/
namespace Kr
/-! ### binomials -/
def ffal (x : Int) : Nat → Int
  | 0 => 1
  | k + 1 => ffal x k * (x - (k : Int))
def facZ : Nat → Int
  | 0 => 1
  | k + 1 => facZ k * ((k : Int) + 1)
theorem facZ_pos : ∀ k, 0 < facZ k
  | 0 => by decide
  | k + 1 => Int.mul_pos (facZ_pos k) (by omega)
theorem ffal_sh (x : Int) : ∀ k, ffal x (k + 1) = x * ffal (x - 1) k
  | 0 => by show 1 * (x - ((0 : Nat) : Int)) = x * 1; simp
  | k + 1 => by
    show ffal x (k + 1) * (x - ((k + 1 : Nat) : Int)) = x * (ffal (x - 1) k * (x - 1 - (k : Int)))
    rw [ffal_sh x k, Int.mul_assoc, show x - ((k + 1 : Nat) : Int) = x - 1 - (k : Int) by omega]
theorem ffal_step (x : Int) (k : Nat) : ffal (x + 1) (k + 1) - ffal x (k + 1) = ((k : Int) + 1) * ffal x k := by
  rw [ffal_sh (x + 1) k, show x + 1 - 1 = x by omega]
  show (x + 1) * ffal x k - ffal x k * (x - (k : Int)) = _
  rw [Int.mul_comm (ffal x k), ← Int.sub_mul]
  congr 1
  omega
theorem ffal_0 (k : Nat) : ffal 0 (k + 1) = 0 := by rw [ffal_sh, Int.zero_mul]
theorem dvd_all {d : Int} {F : Int → Int} (h0 : d ∣ F 0) (hs : ∀ y, d ∣ F (y + 1) - F y) (y : Int) : d ∣ F y := by
  have up : ∀ n : Nat, d ∣ F (n : Int) := fun n => by
    induction n with
    | zero => exact h0
    | succ n ih =>
      have := Int.dvd_add (hs (n : Int)) ih
      rw [show F ((n : Int) + 1) - F n + F n = F ((n : Int) + 1) by omega] at this
      exact this
  have dn : ∀ n : Nat, d ∣ F (-(n : Int)) := fun n => by
    induction n with
    | zero => exact h0
    | succ n ih =>
      have h1 := hs (-((n : Int) + 1))
      rw [show -((n : Int) + 1) + 1 = -(n : Int) by omega] at h1
      have := Int.dvd_sub ih h1
      rw [show F (-(n : Int)) - (F (-(n : Int)) - F (-((n : Int) + 1))) = F (-((n : Int) + 1)) by omega] at this
      exact this
  rcases Int.le_total 0 y with h | h
  · have := up y.toNat
    rw [show ((y.toNat : Nat) : Int) = y by omega] at this
    exact this
  · have := dn (-y).toNat
    rw [show -(((-y).toNat : Nat) : Int) = y by omega] at this
    exact this
theorem fac_dvd : ∀ (k : Nat) (x : Int), facZ k ∣ ffal x k
  | 0, x => Int.dvd_refl _
  | k + 1, x => by
    refine dvd_all (F := fun x => ffal x (k + 1)) ?_ (fun y => ?_) x
    · show _ ∣ ffal 0 (k + 1)
      rw [ffal_0]
      exact Int.dvd_zero _
    · show _ ∣ ffal (y + 1) (k + 1) - ffal y (k + 1)
      rw [ffal_step, Int.mul_comm]
      exact Int.mul_dvd_mul (fac_dvd k y) (Int.dvd_refl _)
def binZ (x : Int) (k : Nat) : Int := ffal x k / facZ k
theorem binZ_eq (x : Int) (k : Nat) : binZ x k * facZ k = ffal x k := Int.ediv_mul_cancel (fac_dvd k x)
theorem binZ_0 (x : Int) : binZ x 0 = 1 := by
  have := binZ_eq x 0
  rw [show facZ 0 = 1 from rfl, Int.mul_one] at this
  rw [this]; rfl
theorem binZ_z (k : Nat) : binZ 0 (k + 1) = 0 := by unfold binZ; rw [ffal_0, Int.zero_ediv]
theorem binZ_sh (x : Int) (k : Nat) : ((k : Int) + 1) * binZ x (k + 1) = x * binZ (x - 1) k := by
  have h1 := binZ_eq x (k + 1)
  have h2 := binZ_eq (x - 1) k
  rw [ffal_sh, ← h2] at h1
  have p := facZ_pos k
  refine Int.eq_of_mul_eq_mul_right (show facZ k ≠ 0 by omega) ?_
  rw [Int.mul_assoc x, ← h1]
  show _ = binZ x (k + 1) * (facZ k * ((k : Int) + 1))
  ac_rfl
theorem binZ_step (x : Int) (k : Nat) : binZ (x + 1) (k + 1) - binZ x (k + 1) = binZ x k := by
  have h1 := binZ_eq x (k + 1)
  have h2 := binZ_eq (x + 1) (k + 1)
  have h3 := ffal_step x k
  have h4 := binZ_eq x k
  rw [← h1, ← h2, ← h4, ← Int.sub_mul] at h3
  have p := facZ_pos k
  have p2 : 0 < facZ k * ((k : Int) + 1) := facZ_pos (k + 1)
  refine Int.eq_of_mul_eq_mul_right (show facZ k * ((k : Int) + 1) ≠ 0 by omega) ?_
  refine Eq.trans h3 ?_
  ac_rfl
/-- a multiple of 1 .. k, times the k-th binomial, keeps remainders -/
theorem binZ_keeps (h W : Int) : ∀ (k : Nat), (∀ j : Nat, 1 ≤ j → j ≤ k → (j : Int) ∣ W) → ∀ y : Int, h ∣ W * (binZ (y + h) k - binZ y k)
  | 0, _, y => by rw [binZ_0, binZ_0]; simp
  | k + 1, hw, y => by
    refine dvd_all (F := fun y => W * (binZ (y + h) (k + 1) - binZ y (k + 1))) ?_ (fun y => ?_) y
    · show h ∣ W * (binZ (0 + h) (k + 1) - binZ 0 (k + 1))
      rw [binZ_z, Int.zero_add, Int.sub_zero]
      obtain ⟨w, e⟩ := hw (k + 1) (by omega) (by omega)
      rw [e, show ((k + 1 : Nat) : Int) = (k : Int) + 1 by omega, Int.mul_comm ((k : Int) + 1), Int.mul_assoc, binZ_sh]
      exact ⟨w * binZ (h - 1) k, by ac_rfl⟩
    · have ih := binZ_keeps h W k (fun j h1 h2 => hw j h1 (by omega)) y
      show h ∣ W * (binZ (y + 1 + h) (k + 1) - binZ (y + 1) (k + 1)) - W * (binZ (y + h) (k + 1) - binZ y (k + 1))
      rw [← Int.mul_sub, show y + 1 + h = y + h + 1 by omega]
      have s1 := binZ_step (y + h) k
      have s2 := binZ_step y k
      rw [show binZ (y + h + 1) (k + 1) - binZ (y + 1) (k + 1) - (binZ (y + h) (k + 1) - binZ y (k + 1)) = binZ (y + h) k - binZ y k by omega]
      exact ih
/-! ### the values of a drawn row -/
theorem lcmTwo (r : Int) (k : Nat) : lcmN [r, (k : Int)] = Nat.lcm r.natAbs k := by
  show Nat.lcm (Nat.lcm 1 r.natAbs) ((k : Int).natAbs) = _
  rw [Nat.lcm_one_left, Int.natAbs_natCast]
theorem at_two {sh x y : Int} : ∀ (cs : List Int) (k : Nat) (s t : AtS), s.r = t.r → s.l = facZ k → t.l = facZ k → s.u = ffal (x - sh) k → t.u = ffal (y - sh) k → (∀ j : Nat, 1 ≤ j → j ≤ k → (j : Int) ∣ s.r) → x - y ∣ s.f - t.f → x - y ∣ ((cs.zipIdx (k + 1)).foldl (atN sh x) s).f - ((cs.zipIdx (k + 1)).foldl (atN sh y) t).f
  | [], k, s, t, _, _, _, _, _, _, h => h
  | c :: cs, k, s, t, e1, e2, e3, e4, e5, hr, h => by
    rw [List.zipIdx_cons, List.foldl_cons, List.foldl_cons]
    have st : ∀ (z : Int) (s : AtS), s.l = facZ k → s.u = ffal (z - sh) k → atN sh z s (c, k + 1) = ⟨s.f + c * ((lcmN [s.r, ((k + 1 : Nat) : Int)] : Int) * binZ (z - sh) (k + 1)), (lcmN [s.r, ((k + 1 : Nat) : Int)] : Int), ffal (z - sh) (k + 1), facZ (k + 1)⟩ := fun z s a b => by
      unfold atN
      rw [if_pos (show 0 < k + 1 by omega)]
      show AtS.mk (s.f + c * ((lcmN [s.r, ((k + 1 : Nat) : Int)] : Int) * (s.u * (z - sh - ((k + 1 : Nat) : Int) + 1)) / (s.l * ((k + 1 : Nat) : Int)))) _ (s.u * (z - sh - ((k + 1 : Nat) : Int) + 1)) (s.l * ((k + 1 : Nat) : Int)) = _
      have u : s.u * (z - sh - ((k + 1 : Nat) : Int) + 1) = ffal (z - sh) (k + 1) := by
        show _ = ffal (z - sh) k * (z - sh - (k : Int))
        rw [b, show z - sh - ((k + 1 : Nat) : Int) + 1 = z - sh - (k : Int) by omega]
      have l : s.l * ((k + 1 : Nat) : Int) = facZ (k + 1) := by
        show _ = facZ k * ((k : Int) + 1)
        rw [a, show ((k + 1 : Nat) : Int) = (k : Int) + 1 by omega]
      rw [u, l, ← binZ_eq (z - sh) (k + 1), ← Int.mul_assoc, Int.mul_ediv_cancel _ (show facZ (k + 1) ≠ 0 by have := facZ_pos (k + 1); omega)]
    rw [st x s e2 e4, st y t e3 e5, e1]
    have hr' : ∀ j : Nat, 1 ≤ j → j ≤ k + 1 → (j : Int) ∣ (lcmN [t.r, ((k + 1 : Nat) : Int)] : Int) := fun j h1 h2 => by
      by_cases z : j = k + 1
      · rw [z]
        exact Int.natCast_dvd_natCast.mpr (dvd_lcmN (n := ((k + 1 : Nat) : Int)) (by simp))
      · refine Int.dvd_trans (e1 ▸ hr j h1 (by omega)) ?_
        exact Int.dvd_trans Int.dvd_natAbs_self (Int.natCast_dvd_natCast.mpr (dvd_lcmN (n := t.r) (by simp)))
    refine at_two cs (k + 1) _ _ rfl rfl rfl rfl rfl hr' ?_
    show x - y ∣ s.f + c * (_ * binZ (x - sh) (k + 1)) - (t.f + c * (_ * binZ (y - sh) (k + 1)))
    have kp := binZ_keeps (x - y) (lcmN [t.r, ((k + 1 : Nat) : Int)] : Int) (k + 1) hr' (y - sh)
    rw [show y - sh + (x - y) = x - sh by omega] at kp
    generalize (lcmN [t.r, ((k + 1 : Nat) : Int)] : Int) = W at *
    rw [show s.f + c * (W * binZ (x - sh) (k + 1)) - (t.f + c * (W * binZ (y - sh) (k + 1))) = (s.f - t.f) + c * (W * (binZ (x - sh) (k + 1) - binZ (y - sh) (k + 1))) by rw [Int.mul_sub W, Int.mul_sub c]; omega]
    exact Int.dvd_add h (Int.dvd_trans kp (Int.dvd_mul_left _ _))
theorem at_0 (c0 sh z : Int) : atN sh z ⟨0, 1, 1, 1⟩ (c0, 0) = ⟨c0, 1, 1, 1⟩ := by
  unfold atN
  rw [if_neg (Nat.lt_irrefl 0)]
  show AtS.mk (0 + c0 * (1 * 1 / 1)) 1 1 1 = _
  rw [show (1 * 1 / 1 : Int) = 1 by decide, Int.mul_one, Int.zero_add]
theorem at_keeps (c0 : Int) (cs : List Int) (sh x y : Int) : x - y ∣ atF (c0 :: cs) sh x - atF (c0 :: cs) sh y := by
  unfold atF
  rw [List.zipIdx_cons, List.foldl_cons, List.foldl_cons, at_0, at_0]
  refine at_two cs 0 _ _ rfl rfl rfl rfl rfl (fun j h1 h2 => absurd h1 (by omega)) ?_
  show x - y ∣ c0 - c0
  rw [Int.sub_self]
  exact Int.dvd_zero _

/-! ### how great they are -/
def bdL (top X : Nat) : Nat → Nat → Nat → Nat → Nat → Nat → Nat
  | 0, _, f, _, _, _ => f
  | n + 1, k, f, r, u, l => bdL top X n (k + 1) (f + top * (Nat.lcm r (k + 1) * (u * (X + k)) / (l * (k + 1)) + 1)) (Nat.lcm r (k + 1)) (u * (X + k)) (l * (k + 1))
theorem bdL_ge (top X : Nat) : ∀ (n k f r u l : Nat), f ≤ bdL top X n k f r u l
  | 0, _, f, _, _, _ => Nat.le_refl f
  | n + 1, k, f, r, u, l => Nat.le_trans (Nat.le_add_right f _) (bdL_ge top X n _ _ _ _ _)
theorem ediv_bd (a : Int) (b : Nat) (h : 0 < b) : (a / (b : Int)).natAbs ≤ a.natAbs / b + 1 := by
  have h1 : a / (b : Int) ≤ ((a.natAbs / b : Nat) : Int) := by
    rw [Int.natCast_ediv]
    exact Int.ediv_le_ediv (by omega) (by omega)
  have h2 : -(((a.natAbs / b : Nat) : Int) + 1) ≤ a / (b : Int) := by
    refine (Int.le_ediv_iff_mul_le (by omega)).mpr ?_
    have := Nat.lt_mul_div_succ a.natAbs h
    have h3 : ((a.natAbs : Nat) : Int) < (b : Int) * (((a.natAbs / b : Nat) : Int) + 1) := by
      have h4 := Int.ofNat_lt.mpr this
      rw [Int.natCast_mul, Int.natCast_add] at h4
      exact h4
    rw [Int.neg_mul, Int.mul_comm _ (b : Int)]
    generalize (b : Int) * (((a.natAbs / b : Nat) : Int) + 1) = P at *
    omega
  generalize a.natAbs / b = q at *
  omega
theorem at_bd {sh x : Int} {top X : Nat} (hx : (x - sh).natAbs ≤ X) : ∀ (cs : List Int) (n k f r u l : Nat) (s : AtS), cs.length ≤ n → (∀ c ∈ cs, c.natAbs ≤ top) → 0 < l → s.f.natAbs ≤ f → s.r = (r : Int) → s.u.natAbs ≤ u → s.l = (l : Int) →
    ((cs.zipIdx (k + 1)).foldl (atN sh x) s).f.natAbs ≤ bdL top X n k f r u l
  | [], n, k, f, r, u, l, s, _, _, _, h, _, _, _ => Nat.le_trans h (bdL_ge ..)
  | c :: cs, 0, k, f, r, u, l, s, hn, _, _, _, _, _, _ => absurd hn (by simp)
  | c :: cs, n + 1, k, f, r, u, l, s, hn, hc, hl, e1, e2, e3, e4 => by
    rw [List.zipIdx_cons, List.foldl_cons]
    have hu : (s.u * (x - sh - ((k + 1 : Nat) : Int) + 1)).natAbs ≤ u * (X + k) := by
      rw [Int.natAbs_mul]
      exact Nat.mul_le_mul e3 (by omega)
    have hL : s.l * ((k + 1 : Nat) : Int) = ((l * (k + 1) : Nat) : Int) := by rw [e4, Int.natCast_mul]
    have hR : (lcmN [s.r, ((k + 1 : Nat) : Int)] : Int) = ((Nat.lcm r (k + 1) : Nat) : Int) := by rw [lcmTwo, e2, Int.natAbs_natCast]
    have hp : 0 < l * (k + 1) := Nat.mul_pos hl (by omega)
    refine at_bd hx cs n (k + 1) _ _ _ _ _ (by simpa using hn) (fun d hd => hc d (by simp [hd])) hp ?_ ?_ ?_ ?_
    · unfold atN
      rw [if_pos (show 0 < k + 1 by omega)]
      show (s.f + c * ((lcmN [s.r, ((k + 1 : Nat) : Int)] : Int) * (s.u * (x - sh - ((k + 1 : Nat) : Int) + 1)) / (s.l * ((k + 1 : Nat) : Int)))).natAbs ≤ _
      rw [hR, hL]
      refine Nat.le_trans (Int.natAbs_add_le _ _) (Nat.add_le_add e1 ?_)
      rw [Int.natAbs_mul]
      refine Nat.mul_le_mul (hc c (by simp)) (Nat.le_trans (ediv_bd _ _ hp) (Nat.add_le_add (Nat.div_le_div_right ?_) (Nat.le_refl 1)))
      rw [Int.natAbs_mul, Int.natAbs_natCast]
      exact Nat.mul_le_mul (Nat.le_refl _) hu
    · unfold atN
      rw [if_pos (show 0 < k + 1 by omega)]
      exact hR
    · unfold atN
      rw [if_pos (show 0 < k + 1 by omega)]
      exact hu
    · unfold atN
      rw [if_pos (show 0 < k + 1 by omega)]
      exact hL
def farX (s : Nat) : Nat := min ((rchT.getD s 0).toNat + 50) (10 ^ 29) + 4
theorem bd_tab : ∀ s : Fin 6, bdL (topT.getD s.val 0).toNat (farX s.val) (cntT.getD s.val 0).toNat 0 10000000000000000000000000000 1 1 1 ≤ 999999999999999999999999000000 := by decide +kernel
theorem at_size {r : Row} (h : RowP r) {p : Int} (h1 : -(r.top + 50) ≤ p ∧ p ≤ r.top + 50) (h2 : -100000000000000000000000000000 ≤ p ∧ p ≤ 100000000000000000000000000000) : (atF r.own r.sh p).natAbs ≤ 999999999999999999999999000000 := by
  obtain ⟨s, c0, cs, hs, e, hc0, hl, hc, hsh, ht⟩ := h
  rw [e]
  unfold atF
  rw [List.zipIdx_cons, List.foldl_cons, at_0]
  have tt := top_tab ⟨s, hs⟩
  have ct := cnt_tab ⟨s, hs⟩
  have rt := rch_tab ⟨s, hs⟩
  rw [ht] at h1
  have bt := bd_tab ⟨s, hs⟩
  have tt := tt.1
  have ct := ct.1
  have hx : (p - r.sh).natAbs ≤ farX s := by
    clear hc hl tt ct bt hc0
    unfold farX
    generalize rchT.getD s 0 = T at *
    rw [show (10 : Nat) ^ 29 = 100000000000000000000000000000 from rfl]
    omega
  have hc : ∀ c ∈ cs, c.natAbs ≤ (topT.getD s 0).toNat := fun c h => by
    have := hc c h
    clear bt hx rt h1 hl ct hc0
    show c.natAbs ≤ (topT.getD s 0).toNat
    have tt : 1 ≤ topT.getD s 0 := tt
    generalize topT.getD s 0 = T at *
    omega
  have hl : cs.length ≤ (cntT.getD s 0).toNat := by
    clear bt hx rt h1 hc hc0 tt
    have ct : 1 ≤ cntT.getD s 0 := ct
    generalize cntT.getD s 0 = T at *
    omega
  have h0 : c0.natAbs ≤ 10000000000000000000000000000 := by
    clear bt hx rt h1 hc hl tt ct
    omega
  exact Nat.le_trans (at_bd hx cs (cntT.getD s 0).toNat 0 10000000000000000000000000000 1 1 1 ⟨c0, 1, 1, 1⟩ hl hc Nat.one_pos h0 rfl (Nat.le_refl 1) rfl) bt
theorem row_keeps {r : Row} (h : RowP r) (x y : Int) : x - y ∣ atF r.own r.sh x - atF r.own r.sh y := by
  obtain ⟨s, c0, cs, hs, e, _⟩ := h
  rw [e]
  exact at_keeps c0 cs r.sh x y
theorem book_fit {r : Row} (h : RowP r) (ss : List Int) : (bookF r ss).Pairwise Fit :=
  List.pairwise_map.mpr (List.pairwise_of_forall fun x y => row_keeps h x y)
theorem book_fst (r : Row) (ss : List Int) : (bookF r ss).map (·.1) = ss := by
  unfold bookF
  rw [List.map_map]
  exact List.map_id'' (fun _ => rfl) ss
theorem book_bk {r : Row} {ss : List Int} {most : Int} (h : RowP r) (hm : most ≤ 16) (hs : SpotP r most ss) : Bk (bookF r ss) := by
  refine ⟨?_, fun p hp => ?_, ?_⟩
  · unfold bookF
    rw [List.length_map]
    have := hs.len
    omega
  · unfold bookF at hp
    obtain ⟨x, hx, rfl⟩ := List.mem_map.mp hp
    have h1 := at_size h (hs.rng x hx) (hs.far x hx)
    have h2 := hs.far x hx
    show (_ ≤ x ∧ x ≤ _) ∧ (_ ≤ atF r.own r.sh x ∧ atF r.own r.sh x ≤ _)
    omega
  · unfold bookF
    exact List.pairwise_map.mpr hs.asc
theorem pl_bk : ∀ (r : Row) (ss : List Int) (most : Int), RowP r → most ≤ 16 → SpotP r most ss → Bk (bookF r ss) ∧ confs (bookF r ss) = [] := fun r ss most h hm hs => ⟨book_bk h hm hs, confs_nil.mpr (book_fit h ss)⟩
/-- a book beside a drawn one: the same places -/
theorem pl_cf : ∀ (r : Row) (ss : List Int) (most far fac : Int) (bs : List (Int × Int)), RowP r → most ≤ 16 → SpotP r most ss → (-50 ≤ far ∧ far ≤ 10000000000000000000000000000) → (1 ≤ fac ∧ fac ≤ 1000000) → bs.map (·.1) = (bookF r ss).map (·.1) →
    (∀ q ∈ bs, -1000000000000000000000000000000 ≤ q.2 ∧ q.2 ≤ 1000000000000000000000000000000) → CfOk bs far fac := fun r ss most far fac bs h hm hs hf h1 e hv => by
  rw [book_fst] at e
  have hb : ∀ q ∈ bs, -100000000000000000000000000000 ≤ q.1 ∧ q.1 ≤ 100000000000000000000000000000 := fun q hq => hs.far q.1 (e ▸ List.mem_map.mpr ⟨q, hq, rfl⟩)
  refine cf_ok ⟨?_, fun q hq => ⟨?_, hv q hq⟩, ?_⟩ hb hf h1
  · have := congrArg List.length e
    rw [List.length_map] at this
    have := hs.len
    omega
  · have := hb q hq
    omega
  · have := hs.asc
    rw [← e] at this
    exact List.pairwise_map.mp this
end Kr
end
section
/-! M12: the values moved. -/
namespace Kr
theorem ClsIs.mem {l : List (Int × Int)} {pl v : Int} {c : Int × Int} (h : ClsIs l pl c) (hv : ∀ q ∈ l, pl - q.1 ∣ v - q.2) : c.2 ∣ v - c.1 := h.least _ fun q hq => by
  rw [show v - c.1 = (v - q.2) - (c.1 - q.2) by omega]
  exact Int.dvd_sub (hv q hq) (h.ds q hq)
theorem ClsIs.same {l : List (Int × Int)} {pl : Int} {c c' : Int × Int} (h : ClsIs l pl c) (h' : ClsIs l pl c') : c = c' := h.uniq h' (fun _ => Iff.rfl) (fun _ => Iff.rfl)
theorem dvd_emod (m x : Int) : m ∣ x - x % m := ⟨x / m, by rw [Int.emod_def]; omega⟩
/-- a class put on other values -/
theorem ClsIs.put {l l' : List (Int × Int)} {pl v : Int} {c : Int × Int} (h : ClsIs l pl c) (e : ∀ X : Int, (∀ q ∈ l, pl - q.1 ∣ X) ↔ (∀ q ∈ l', pl - q.1 ∣ X)) (hv : ∀ q ∈ l', pl - q.1 ∣ v - q.2) : ClsIs l' pl (v % c.2, c.2) := by
  have b := h.bd
  have m := (e c.2).mp h.ms
  refine ⟨⟨Int.emod_nonneg v (by omega), Int.emod_lt_of_pos v (by omega)⟩, fun q hq => ?_, m, fun X hX => h.least X ((e X).mpr hX)⟩
  show pl - q.1 ∣ v % c.2 - q.2
  rw [show v % c.2 - q.2 = (v - q.2) - (v - v % c.2) by omega]
  exact Int.dvd_sub (hv q hq) (Int.dvd_trans (m q hq) (dvd_emod c.2 v))
theorem up_fit {b : List (Int × Int)} {more : Int} (h : b.Pairwise Fit) : (upB b more).Pairwise Fit :=
  List.pairwise_map.mpr (h.imp fun {p q} h => by
    show p.1 - q.1 ∣ p.2 + more - (q.2 + more)
    rw [show p.2 + more - (q.2 + more) = p.2 - q.2 by omega]
    exact h)
theorem down_fit {b : List (Int × Int)} (h : b.Pairwise Fit) : (downB b).Pairwise Fit :=
  List.pairwise_map.mpr (h.imp fun {p q} h => by
    show p.1 - q.1 ∣ 0 - p.2 - (0 - q.2)
    rw [show 0 - p.2 - (0 - q.2) = -(p.2 - q.2) by omega]
    exact Int.dvd_neg.mpr h)
theorem pl_vl : ∀ (r : Row) (ss : List Int) (most more : Int), RowP r → most ≤ 16 → SpotP r most ss → 0 ≤ more → more < 1000000 → VlOk (bookF r ss) r more := fun r ss most more h hm hs m0 m1 => by
  have hb := book_bk h hm hs
  have hf := book_fit h ss
  have hz : ∀ q ∈ bookF r ss, ∃ x, x ∈ ss ∧ q = (x, atF r.own r.sh x) := fun q hq => by
    unfold bookF at hq
    obtain ⟨x, hx, e⟩ := List.mem_map.mp hq
    exact ⟨x, hx, e.symm⟩
  have hv : ∀ q ∈ bookF r ss, -(999999999999999999999999000000 : Int) ≤ q.2 ∧ q.2 ≤ 999999999999999999999999000000 := fun q hq => by
    obtain ⟨x, hx, rfl⟩ := hz q hq
    have h1 := at_size h (hs.rng x hx) (hs.far x hx)
    show _ ≤ atF r.own r.sh x ∧ atF r.own r.sh x ≤ _
    omega
  have fu : (upB (bookF r ss) more).Pairwise Fit := up_fit hf
  have fd : (downB (bookF r ss)).Pairwise Fit := down_fit hf
  refine ⟨⟨hb, confs_nil.mpr hf⟩, ⟨⟨by unfold upB; rw [List.length_map]; exact hb.len, fun p hp => ?_, List.pairwise_map.mpr hb.asc⟩, confs_nil.mpr fu⟩, ⟨⟨by unfold downB; rw [List.length_map]; exact hb.len, fun p hp => ?_, List.pairwise_map.mpr hb.asc⟩, confs_nil.mpr fd⟩, fun p hp hn => ?_⟩
  · unfold upB at hp
    obtain ⟨q, hq, rfl⟩ := List.mem_map.mp hp
    have h1 := hv q hq
    have h2 := (hb.rng q hq).1
    show (_ ≤ q.1 ∧ q.1 ≤ _) ∧ (_ ≤ q.2 + more ∧ q.2 + more ≤ _)
    omega
  · unfold downB at hp
    obtain ⟨q, hq, rfl⟩ := List.mem_map.mp hp
    have h1 := hv q hq
    have h2 := (hb.rng q hq).1
    show (_ ≤ q.1 ∧ q.1 ≤ _) ∧ (_ ≤ 0 - q.2 ∧ 0 - q.2 ≤ _)
    omega
  · have n0 : ∀ q ∈ bookF r ss, q.1 ≠ p := fun q hq e => hn (List.mem_map.mpr ⟨q, hq, e⟩)
    have nu : ∀ q ∈ upB (bookF r ss) more, q.1 ≠ p := fun q hq => by
      obtain ⟨q', h', rfl⟩ := List.mem_map.mp hq
      exact n0 q' h'
    have nd : ∀ q ∈ downB (bookF r ss), q.1 ≠ p := fun q hq => by
      obtain ⟨q', h', rfl⟩ := List.mem_map.mp hq
      exact n0 q' h'
    have C := classF_is n0 hf
    have Cu := classF_is nu fu
    have Cd := classF_is nd fd
    have eu : ∀ X : Int, (∀ q ∈ bookF r ss, p - q.1 ∣ X) ↔ (∀ q ∈ upB (bookF r ss) more, p - q.1 ∣ X) := fun X => by
      unfold upB
      rw [List.forall_mem_map]
    have ed : ∀ X : Int, (∀ q ∈ bookF r ss, p - q.1 ∣ X) ↔ (∀ q ∈ downB (bookF r ss), p - q.1 ∣ X) := fun X => by
      unfold downB
      rw [List.forall_mem_map]
    have a0 : ∀ q ∈ bookF r ss, p - q.1 ∣ atF r.own r.sh p - q.2 := fun q hq => by
      obtain ⟨x, hx, rfl⟩ := hz q hq
      exact row_keeps h p x
    refine ⟨by have := C.bd; omega, Cu.same (C.put eu ?_), Cd.same (C.put ed ?_), C.mem a0, Cu.mem ?_, Cd.mem ?_⟩
    · intro q hq
      obtain ⟨q', h', rfl⟩ := List.mem_map.mp hq
      show p - q'.1 ∣ _ + more - (q'.2 + more)
      rw [show (classF (bookF r ss) p).1 + more - (q'.2 + more) = (classF (bookF r ss) p).1 - q'.2 by omega]
      exact C.ds q' h'
    · intro q hq
      obtain ⟨q', h', rfl⟩ := List.mem_map.mp hq
      show p - q'.1 ∣ 0 - _ - (0 - q'.2)
      rw [show 0 - (classF (bookF r ss) p).1 - (0 - q'.2) = -((classF (bookF r ss) p).1 - q'.2) by omega]
      exact Int.dvd_neg.mpr (C.ds q' h')
    · intro q hq
      obtain ⟨q', h', rfl⟩ := List.mem_map.mp hq
      show p - q'.1 ∣ _ + more - (q'.2 + more)
      rw [show atF r.own r.sh p + more - (q'.2 + more) = atF r.own r.sh p - q'.2 by omega]
      exact a0 q' h'
    · intro q hq
      obtain ⟨q', h', rfl⟩ := List.mem_map.mp hq
      show p - q'.1 ∣ 0 - _ - (0 - q'.2)
      rw [show 0 - atF r.own r.sh p - (0 - q'.2) = -(atF r.own r.sh p - q'.2) by omega]
      exact Int.dvd_neg.mpr (a0 q' h')
end Kr
end
section
/-! M13: classes and fillings go along with the places. -/
namespace Kr
/-- an item moved -/
def mu (far sg : Int) (q : Int × Int) : Int × Int := (sg * q.1 + far, q.2)
theorem mov_mu (b : List (Int × Int)) (far sg : Int) : (movF b far sg).Perm (b.map (mu far sg)) := mov_perm b far sg
theorem dvd_mov {pl x far sg X : Int} (hs : sg = 1 ∨ sg = -1) : sg * pl + far - (sg * x + far) ∣ X ↔ pl - x ∣ X := by
  rw [show sg * pl + far - (sg * x + far) = sg * (pl - x) by rw [Int.mul_sub]; omega]
  exact sg_dvd hs
theorem mu_inj {x y far sg : Int} (hs : sg = 1 ∨ sg = -1) : sg * x + far = sg * y + far ↔ x = y := by
  rcases hs with e | e <;> rw [e] <;> omega
theorem fit_mov {L L' : List (Int × Int)} {far sg : Int} (hs : sg = 1 ∨ sg = -1) (hp : L'.Perm (L.map (mu far sg))) (hf : L.Pairwise Fit) : L'.Pairwise Fit := by
  refine (hp.pairwise_iff (fun {x y} h => Fit.symm h)).mpr ?_
  exact List.pairwise_map.mpr (hf.imp fun {p q} h => (fit_sh hs).mpr h)
theorem all_mov {L L' : List (Int × Int)} {far sg : Int} (hp : L'.Perm (L.map (mu far sg))) (P : Int × Int → Prop) : (∀ q ∈ L', P q) ↔ ∀ q ∈ L, P (mu far sg q) := by
  constructor
  · intro h q hq
    exact h _ (hp.mem_iff.mpr (List.mem_map.mpr ⟨q, hq, rfl⟩))
  · intro h q hq
    obtain ⟨q', h', rfl⟩ := List.mem_map.mp (hp.mem_iff.mp hq)
    exact h q' h'
theorem cls_mov {L L' : List (Int × Int)} {far sg pl : Int} (hs : sg = 1 ∨ sg = -1) (hp : L'.Perm (L.map (mu far sg))) (hn : ∀ q ∈ L, q.1 ≠ pl) (hf : L.Pairwise Fit) : classF L' (sg * pl + far) = classF L pl := by
  have hn' : ∀ q ∈ L', q.1 ≠ sg * pl + far := (all_mov hp _).mpr fun q hq e => hn q hq ((mu_inj hs).mp e)
  have C := classF_is hn hf
  have C' := classF_is hn' (fit_mov hs hp hf)
  refine C'.uniq C (fun X => ?_) (fun v => ?_)
  · rw [all_mov hp]
    exact ⟨fun h q hq => (dvd_mov hs).mp (h q hq), fun h q hq => (dvd_mov hs).mpr (h q hq)⟩
  · rw [all_mov hp]
    exact ⟨fun h q hq => (dvd_mov hs).mp (h q hq), fun h q hq => (dvd_mov hs).mpr (h q hq)⟩
/-! ### the least common multiple of like lists -/
theorem lcmN_iff {ns : List Int} {X : Nat} : lcmN ns ∣ X ↔ ∀ n ∈ ns, n ∣ (X : Int) := by
  constructor
  · intro h n hn
    exact Int.dvd_trans Int.dvd_natAbs_self (Int.natCast_dvd_natCast.mpr (Nat.dvd_trans (dvd_lcmN hn) h))
  · intro h
    refine lcmN_dvd fun n hn => ?_
    have := h n hn
    exact Int.natCast_dvd_natCast.mp (Int.dvd_trans Int.natAbs_dvd_self this)
theorem lcmN_same {ns ms : List Int} (h : ∀ X : Nat, (∀ n ∈ ns, n ∣ (X : Int)) ↔ (∀ n ∈ ms, n ∣ (X : Int))) : lcmN ns = lcmN ms :=
  Nat.dvd_antisymm (lcmN_iff.mpr ((h _).mpr (lcmN_iff.mp (Nat.dvd_refl _)))) (lcmN_iff.mpr ((h _).mp (lcmN_iff.mp (Nat.dvd_refl _))))
theorem lcmN_all {ns : List Int} {X : Int} : (lcmN ns : Int) ∣ X ↔ ∀ n ∈ ns, n ∣ X := by
  rw [← Int.dvd_natAbs, Int.natCast_dvd_natCast, lcmN_iff]
  exact ⟨fun h n hn => Int.dvd_natAbs.mp (h n hn), fun h n hn => Int.dvd_natAbs.mpr (h n hn)⟩
/-! ### zipped lists -/
theorem zip_snoc : ∀ (ps vs : List Int) (p v : Int), ps[vs.length]? = some p → ps.zip (vs ++ [v]) = ps.zip vs ++ [(p, v)]
  | [], vs, p, v, h => by simp at h
  | a :: ps, [], p, v, h => by
    have : a = p := by simpa using h
    rw [this]
    simp
  | a :: ps, w :: vs, p, v, h => by
    have ih := zip_snoc ps vs p v (by simpa using h)
    show (a, w) :: ps.zip (vs ++ [v]) = (a, w) :: (ps.zip vs ++ [(p, v)])
    rw [ih]
theorem zip_take (k : Nat) : ∀ (ps vs : List Int), (ps.take k).zip vs = ps.zip (vs.take k) := by
  induction k with
  | zero => intro ps vs; simp
  | succ k ih =>
    intro ps vs
    cases ps with
    | nil => simp
    | cons a ps =>
      cases vs with
      | nil => simp
      | cons v vs =>
        show (a, v) :: (ps.take k).zip vs = (a, v) :: ps.zip (vs.take k)
        rw [ih]
theorem zip_mem_fst : ∀ {ps vs : List Int} {q : Int × Int}, q ∈ ps.zip vs → q.1 ∈ ps.take vs.length
  | [], vs, q, h => by simp at h
  | a :: ps, [], q, h => by simp at h
  | a :: ps, v :: vs, q, h => by
    rcases List.mem_cons.mp (show q ∈ (a, v) :: ps.zip vs from h) with e | e
    · rw [e]
      simp
    · have := zip_mem_fst e
      simp [this]
theorem mem_zip_fst : ∀ {ps vs : List Int} {o : Int}, o ∈ ps.take vs.length → ∃ v, (o, v) ∈ ps.zip vs
  | [], vs, o, h => by simp at h
  | a :: ps, [], o, h => by simp at h
  | a :: ps, v :: vs, o, h => by
    rcases List.mem_cons.mp (show o ∈ a :: ps.take vs.length from h) with e | e
    · exact ⟨v, by rw [e]; simp⟩
    · obtain ⟨w, hw⟩ := mem_zip_fst e
      exact ⟨w, by simp [hw]⟩
theorem zip_mov (ps vs : List Int) (far sg : Int) : (thereF ps far sg).zip vs = (ps.zip vs).map (mu far sg) := by
  unfold thereF
  rw [List.zip_map_left]
  rfl
theorem book_mov {b c : List (Int × Int)} {far sg : Int} (h : c.Perm (b.map (mu far sg))) (ps vs : List Int) : (c ++ (thereF ps far sg).zip vs).Perm ((b ++ ps.zip vs).map (mu far sg)) := by
  rw [zip_mov, List.map_append]
  exact h.append_right _
/-! ### new places, one by one -/
/-- places beside a book that are all unlike -/
def Apart (b : List (Int × Int)) (ps : List Int) : Prop := (ps ++ b.map (·.1)).Nodup
theorem Apart.ne {b : List (Int × Int)} {ps vs : List Int} {p : Int} (h : Apart b ps) (hp : ps[vs.length]? = some p) : ∀ q ∈ b ++ ps.zip vs, q.1 ≠ p := fun q hq e => by
  have nd := List.nodup_append.mp h
  have hx : p ∈ ps := List.mem_of_getElem? hp
  rcases List.mem_append.mp hq with h1 | h1
  · exact nd.2.2 p hx q.1 (List.mem_map.mpr ⟨q, h1, rfl⟩) e.symm
  · obtain ⟨j, hj, ej⟩ := List.mem_take_iff_getElem.mp (zip_mem_fst h1)
    obtain ⟨l, e2⟩ := List.getElem?_eq_some_iff.mp hp
    exact List.pairwise_iff_getElem.mp nd.1 j vs.length (by omega) l (by omega) (by rw [ej, e2, e])
theorem fit_snoc {L : List (Int × Int)} {p v : Int} (h : L.Pairwise Fit) (hv : ∀ q ∈ L, p - q.1 ∣ v - q.2) : (L ++ [(p, v)]).Pairwise Fit :=
  List.pairwise_append.mpr ⟨h, List.pairwise_singleton _ _, fun q hq r hr => by
    rw [List.mem_singleton.mp hr]
    exact Fit.symm (hv q hq)⟩
theorem cls_all {L : List (Int × Int)} {pl r : Int} {c : Int × Int} (C : ClsIs L pl c) : ∀ q ∈ L, pl - q.1 ∣ c.1 + c.2 * r - q.2 := fun q hq => by
  rw [show c.1 + c.2 * r - q.2 = (c.1 - q.2) + c.2 * r by omega]
  exact Int.dvd_add (C.ds q hq) (Int.dvd_trans (C.ms q hq) (Int.dvd_mul_right _ _))
/-- a value of the class fits -/
theorem fit_more {b : List (Int × Int)} {ps vs : List Int} {p r : Int} (ha : Apart b ps) (hp : ps[vs.length]? = some p) (hf : (b ++ ps.zip vs).Pairwise Fit) : (b ++ ps.zip (vs ++ [(classF (b ++ ps.zip vs) p).1 + (classF (b ++ ps.zip vs) p).2 * r])).Pairwise Fit := by
  rw [zip_snoc ps vs p _ hp, ← List.append_assoc]
  exact fit_snoc hf (cls_all (classF_is (ha.ne hp) hf))
theorem cls_step {b : List (Int × Int)} {ps vs : List Int} {p : Int} (ha : Apart b ps) (hp : ps[vs.length]? = some p) (hf : (b ++ ps.zip vs).Pairwise Fit) : (classF (b ++ ps.zip vs) p).2 = stepD b ps (p, vs.length) := by
  have C := classF_is (ha.ne hp) hf
  have b1 := C.bd
  unfold stepD
  have hm : ∀ X : Int, (∀ q ∈ b ++ ps.zip vs, p - q.1 ∣ X) ↔ ∀ n ∈ ((b.map (·.1)) ++ ps.take vs.length).map fun o => p - o, n ∣ X := fun X => by
    constructor
    · intro h n hn
      obtain ⟨o, ho, rfl⟩ := List.mem_map.mp hn
      rcases List.mem_append.mp ho with z | z
      · obtain ⟨q, hq, rfl⟩ := List.mem_map.mp z
        exact h q (List.mem_append_left _ hq)
      · obtain ⟨v, hv⟩ := mem_zip_fst z
        exact h (o, v) (List.mem_append_right _ hv)
    · intro h q hq
      refine h _ (List.mem_map.mpr ⟨q.1, ?_, rfl⟩)
      rcases List.mem_append.mp hq with z | z
      · exact List.mem_append_left _ (List.mem_map.mpr ⟨q, z, rfl⟩)
      · exact List.mem_append_right _ (zip_mem_fst z)
  refine Int.dvd_antisymm (by omega) (by omega) ?_ ?_
  · exact C.least _ ((hm _).mpr (lcmN_all.mp (Int.dvd_refl _)))
  · exact lcmN_all.mpr ((hm _).mp C.ms)
/-! ### steps -/
theorem st_mov {b c : List (Int × Int)} {far sg : Int} (hs : sg = 1 ∨ sg = -1) (h : c.Perm (b.map (mu far sg))) (ps : List Int) : stepsF c (thereF ps far sg) = stepsF b ps := by
  unfold stepsF
  have e : (thereF ps far sg).zipIdx = ps.zipIdx.map fun q => (sg * q.1 + far, q.2) := by
    unfold thereF
    rw [List.zipIdx_map]
    rfl
  rw [e, List.map_map]
  refine List.map_congr_left fun q hq => ?_
  show stepD c (thereF ps far sg) (sg * q.1 + far, q.2) = stepD b ps q
  unfold stepD
  congr 1
  refine lcmN_same fun X => ?_
  rw [List.forall_mem_map, List.forall_mem_map, List.forall_mem_append, List.forall_mem_append, List.forall_mem_map, List.forall_mem_map, all_mov h]
  have k : ∀ o : Int, sg * q.1 + far - (sg * o + far) ∣ (X : Int) ↔ q.1 - o ∣ (X : Int) := fun o => dvd_mov hs
  refine and_congr ⟨fun H q' hq' => (k _).mp (H q' hq'), fun H q' hq' => (k _).mpr (H q' hq')⟩ ?_
  unfold thereF
  rw [← List.map_take, List.forall_mem_map]
  exact ⟨fun H o ho => (k o).mp (H o ho), fun H o ho => (k o).mpr (H o ho)⟩
end Kr
end
section
/-! M14: fillings go along with the places, and their indices lead back. -/
namespace Kr
theorem fold_idx {σ τ : Type} {f : σ → Int × Nat → σ} {g : τ → Int × Nat → τ} {m : Int → Int} {R : Nat → σ → τ → Prop} : ∀ (ps : List Int) (k : Nat) (s : σ) (t : τ), R k s t → (∀ j p s t, ps[j]? = some p → R (k + j) s t → R (k + j + 1) (f s (p, k + j)) (g t (m p, k + j))) → R (k + ps.length) ((ps.zipIdx k).foldl f s) (((ps.map m).zipIdx k).foldl g t)
  | [], k, s, t, h, _ => h
  | p :: ps, k, s, t, h, hs => by
    have h1 := hs 0 p s t rfl h
    have ih := fold_idx ps (k + 1) _ _ h1 fun j q s t hq hr => by
      have := hs (j + 1) q s t (by simpa using hq) (by rw [show k + (j + 1) = k + 1 + j by omega]; exact hr)
      rw [show k + (j + 1) = k + 1 + j by omega] at this
      exact this
    rw [List.length_cons, show k + (ps.length + 1) = k + 1 + ps.length by omega]
    exact ih
theorem count_mul (size : Int) : ∀ (l : List Int) (a : Int), l.foldl (fun f st => f * (size / st)) a = a * countF l size
  | [], a => by unfold countF; simp
  | s :: l, a => by
    unfold countF
    rw [List.foldl_cons, List.foldl_cons, count_mul size l, count_mul size l, Int.one_mul, Int.mul_assoc]
theorem count_cons (s : Int) (l : List Int) (size : Int) : countF (s :: l) size = size / s * countF l size := by
  unfold countF
  rw [List.foldl_cons, count_mul, Int.one_mul]
  rfl
theorem count_pos {size : Int} (hz : 0 < size) : ∀ l : List Int, (∀ s ∈ l, 0 < s ∧ s ∣ size) → 1 ≤ countF l size
  | [], _ => Int.le_refl 1
  | s :: l, h => by
    rw [count_cons]
    have h1 := h s (by simp)
    have h2 := Int.ediv_pos_of_pos_of_dvd hz (by omega) h1.2
    have h3 := count_pos hz l fun t ht => h t (by simp [ht])
    have := Int.mul_pos h2 (show 0 < countF l size by omega)
    omega
section
variable {b : List (Int × Int)} {ps : List Int}
theorem Fr.apartM (h : Fr b ps) : Apart b ps := h.nd
theorem Fr.fit (h : Fr b ps) : b.Pairwise Fit := confs_nil.mp h.cf
theorem steps_at {k : Nat} {p : Int} (h : ps[k]? = some p) : (stepsF b ps)[k]? = some (stepD b ps (p, k)) := by
  unfold stepsF
  rw [List.getElem?_map, List.getElem?_zipIdx, h]
  simp
theorem steps_drop {k : Nat} {p : Int} (h : ps[k]? = some p) : (stepsF b ps).drop k = stepD b ps (p, k) :: (stepsF b ps).drop (k + 1) := by
  obtain ⟨l, e⟩ := List.getElem?_eq_some_iff.mp (steps_at (b := b) h)
  rw [List.drop_eq_getElem_cons l, e]
theorem steps_getD {k : Nat} {p : Int} (h : ps[k]? = some p) : (stepsF b ps).getD k 0 = stepD b ps (p, k) := by
  rw [List.getD_eq_getElem?_getD, steps_at h]
  rfl
theorem Fr.cntM (h : Fr b ps) (k : Nat) : 1 ≤ countF ((stepsF b ps).drop k) (sizeF b ps) :=
  count_pos h.size.1 _ fun s hs => ⟨(h.steps s (List.mem_of_mem_drop hs)).1, h.dvd (List.mem_of_mem_drop hs)⟩
theorem idxC_eq (vs : List Int) (q : Int × Nat) : idxC b ps vs q = classF (b ++ ps.zip (vs.take q.2)) q.1 := by
  unfold idxC
  rw [zip_take]
theorem take_snoc {k : Nat} {p : Int} (h : ps[k]? = some p) : ps.take (k + 1) = ps.take k ++ [p] := by
  obtain ⟨l, e⟩ := List.getElem?_eq_some_iff.mp h
  rw [List.take_add_one, List.getElem?_eq_getElem l, e]
  rfl
theorem zipIdx_snoc {k : Nat} {p : Int} (h : ps[k]? = some p) : (ps.take (k + 1)).zipIdx = (ps.take k).zipIdx ++ [(p, k)] := by
  obtain ⟨l, e⟩ := List.getElem?_eq_some_iff.mp h
  rw [take_snoc h, List.zipIdx_append, List.length_take, show 0 + min k ps.length = k by omega]
  rfl
/-- what holds of a filling begun -/
structure NthI (b : List (Int × Int)) (ps : List Int) (size idx : Int) (k : Nat) (s : List Int × Int) : Prop where
  len : s.1.length = k
  fit : (b ++ ps.zip s.1).Pairwise Fit
  r0 : 0 ≤ s.2
  r1 : s.2 < countF ((stepsF b ps).drop k) size
  ok : ∀ vs : List Int, vs.take k = s.1 → ∀ q ∈ (ps.take k).zipIdx, (0 ≤ vs.getD q.2 0 ∧ vs.getD q.2 0 < size) ∧ (idxC b ps vs q).2 ∣ vs.getD q.2 0 - (idxC b ps vs q).1
  ix : ∀ vs : List Int, vs.take k = s.1 → ((ps.take k).zipIdx.foldl (idxS b ps (stepsF b ps) size vs) 0) * countF ((stepsF b ps).drop k) size + s.2 = idx
theorem take_getD {vs pre : List Int} {v : Int} {k : Nat} (h : vs.take (k + 1) = pre ++ [v]) (hl : pre.length = k) : vs.take k = pre ∧ vs.getD k 0 = v := by
  have h1 : (vs.take (k + 1)).take k = pre := by rw [h, ← hl]; simp
  rw [List.take_take, show min k (k + 1) = k by omega] at h1
  refine ⟨h1, ?_⟩
  have h2 : (vs.take (k + 1))[k]? = some v := by rw [h, ← hl]; simp
  rw [List.getElem?_take, if_pos (by omega)] at h2
  rw [List.getD_eq_getElem?_getD, h2]
  rfl
theorem NthI.step (F : Fr b ps) {idx : Int} {k : Nat} {p : Int} {s : List Int × Int} (hp : ps[k]? = some p) (h : NthI b ps (sizeF b ps) idx k s) : NthI b ps (sizeF b ps) idx (k + 1) (nthS b ps (stepsF b ps) (sizeF b ps) s (p, k)) := by
  obtain ⟨vs0, rest⟩ := s
  have hl : vs0.length = k := h.len
  have hp' : ps[vs0.length]? = some p := by rw [hl]; exact hp
  have hf : (b ++ ps.zip vs0).Pairwise Fit := h.fit
  have r0 : 0 ≤ rest := h.r0
  have r1 : rest < countF ((stepsF b ps).drop k) (sizeF b ps) := h.r1
  have C := classF_is (F.apartM.ne hp') hf
  have cs := cls_step F.apartM hp' hf
  rw [hl] at cs
  have lat := F.cntM (k + 1)
  rw [steps_drop hp, count_cons] at r1
  have mem : (p, k) ∈ ps.zipIdx := List.mem_zipIdx_iff_getElem?.mpr hp
  have s0 := (F.step mem).1
  have sd : stepD b ps (p, k) ∣ sizeF b ps := F.dvd (List.mem_map.mpr ⟨_, mem, rfl⟩)
  have z := F.size.1
  unfold nthS
  show NthI b ps (sizeF b ps) idx (k + 1) (vs0 ++ [(classF (b ++ ps.zip vs0) p).1 + (classF (b ++ ps.zip vs0) p).2 * (rest / countF ((stepsF b ps).drop (k + 1)) (sizeF b ps))], rest % countF ((stepsF b ps).drop (k + 1)) (sizeF b ps))
  have more := fit_more (r := rest / countF ((stepsF b ps).drop (k + 1)) (sizeF b ps)) F.apartM hp' hf
  have bd := C.bd
  have ih_ok := h.ok
  have ih_ix := h.ix
  generalize hc : classF (b ++ ps.zip vs0) p = c at *
  rw [steps_drop hp, count_cons] at ih_ix
  generalize hL : countF ((stepsF b ps).drop (k + 1)) (sizeF b ps) = L at *
  have q0 : 0 ≤ rest / L := Int.ediv_nonneg r0 (by omega)
  have q1 : rest / L < sizeF b ps / stepD b ps (p, k) := Int.ediv_lt_of_lt_mul (by omega) r1
  have e1 : stepD b ps (p, k) * (sizeF b ps / stepD b ps (p, k)) = sizeF b ps := Int.mul_ediv_cancel' sd
  have v1 : c.2 * (rest / L) ≤ c.2 * (sizeF b ps / stepD b ps (p, k) - 1) := Int.mul_le_mul_of_nonneg_left (by omega) (by omega)
  have v0 : 0 ≤ c.2 * (rest / L) := Int.mul_nonneg (by omega) q0
  rw [Int.mul_sub, Int.mul_one, cs, e1] at v1
  have em := Int.emod_nonneg rest (show L ≠ 0 by omega)
  have em2 := Int.emod_lt_of_pos rest (show 0 < L by omega)
  have ed := Int.emod_def rest L
  refine ⟨by rw [List.length_append, hl]; rfl, more, em, by rw [hL]; exact em2, fun vs hv q hq => ?_, fun vs hv => ?_⟩
  · obtain ⟨t1, t2⟩ := take_getD hv hl
    rw [zipIdx_snoc hp] at hq
    rcases List.mem_append.mp hq with m | m
    · exact ih_ok vs t1 q m
    · rw [List.mem_singleton.mp m, idxC_eq]
      show (0 ≤ vs.getD k 0 ∧ vs.getD k 0 < sizeF b ps) ∧ (classF (b ++ ps.zip (vs.take k)) p).2 ∣ vs.getD k 0 - (classF (b ++ ps.zip (vs.take k)) p).1
      rw [t1, hc, t2]
      refine ⟨⟨by omega, by rw [cs] at bd ⊢; omega⟩, ⟨rest / L, by omega⟩⟩
  · obtain ⟨t1, t2⟩ := take_getD hv hl
    rw [zipIdx_snoc hp, List.foldl_append, List.foldl_cons, List.foldl_nil, hL]
    show idxS b ps (stepsF b ps) (sizeF b ps) vs _ (p, k) * L + rest % L = idx
    have ih := ih_ix vs t1
    generalize (ps.take k).zipIdx.foldl (idxS b ps (stepsF b ps) (sizeF b ps) vs) 0 = f at *
    unfold idxS
    rw [idxC_eq]
    show (f * (sizeF b ps / (stepsF b ps).getD k 0) + (vs.getD k 0 - (classF (b ++ ps.zip (vs.take k)) p).1) / (classF (b ++ ps.zip (vs.take k)) p).2) * L + rest % L = idx
    rw [t1, hc, t2, steps_getD hp, show c.1 + c.2 * (rest / L) - c.1 = c.2 * (rest / L) by omega, Int.mul_ediv_cancel_left _ (show c.2 ≠ 0 by omega), Int.add_mul, Int.mul_assoc, ed, Int.mul_comm (rest / L) L]
    have ih : f * (sizeF b ps / stepD b ps (p, k) * L) + rest = idx := ih
    omega
/-- the filling that is counted is one, and its index leads back; moved places have the same -/
theorem nth_mov {c : List (Int × Int)} {far sg : Int} (hs : sg = 1 ∨ sg = -1) (F : Fr b ps) (hc : c.Perm (b.map (mu far sg))) {idx : Int} (h0 : 0 ≤ idx) (h1 : idx < countF (stepsF b ps) (sizeF b ps)) :
    nthF c (thereF ps far sg) (sizeF b ps) idx = nthF b ps (sizeF b ps) idx ∧ (nthF b ps (sizeF b ps) idx).length = ps.length ∧ (b ++ ps.zip (nthF b ps (sizeF b ps) idx)).Pairwise Fit ∧ OkV b ps (sizeF b ps) (nthF b ps (sizeF b ps) idx) ∧ idxF b ps (sizeF b ps) (nthF b ps (sizeF b ps) idx) = idx := by
  have key := fold_idx (f := nthS b ps (stepsF b ps) (sizeF b ps)) (g := nthS c (thereF ps far sg) (stepsF c (thereF ps far sg)) (sizeF b ps)) (m := fun p => sg * p + far) (R := fun k s t => t = s ∧ NthI b ps (sizeF b ps) idx k s) ps 0 ([], idx) ([], idx) ⟨rfl, ⟨rfl, by simpa using F.fit, h0, h1, fun vs _ q hq => by simp at hq, fun vs _ => by simp⟩⟩ (fun j p s t hp h => by
    rw [Nat.zero_add] at h ⊢
    obtain ⟨e, h⟩ := h
    refine ⟨?_, h.step F hp⟩
    rw [e]
    unfold nthS
    have hl : s.1.length = j := h.len
    have ec : classF (c ++ (thereF ps far sg).zip s.1) (sg * p + far) = classF (b ++ ps.zip s.1) p := cls_mov hs (book_mov hc ps s.1) (F.apartM.ne (by rw [hl]; exact hp)) h.fit
    show (s.1 ++ [(classF (c ++ (thereF ps far sg).zip s.1) (sg * p + far)).1 + (classF (c ++ (thereF ps far sg).zip s.1) (sg * p + far)).2 * _], _) = _
    rw [ec, st_mov hs hc])
  obtain ⟨e, I⟩ := key
  have e : nthF c (thereF ps far sg) (sizeF b ps) idx = nthF b ps (sizeF b ps) idx := congrArg Prod.fst e
  rw [Nat.zero_add] at I
  have hl : (nthF b ps (sizeF b ps) idx).length = ps.length := I.len
  have tk : (nthF b ps (sizeF b ps) idx).take ps.length = nthF b ps (sizeF b ps) idx := List.take_of_length_le (by omega)
  refine ⟨e, hl, I.fit, ⟨hl, fun q hq => ?_⟩, ?_⟩
  · have := I.ok _ tk q
    rw [List.take_length] at this
    exact this hq
  · have x := I.ix _ tk
    rw [List.take_length, List.drop_eq_nil_of_le (by rw [stepsF_len]; exact Nat.le_refl _)] at x
    have r0 := I.r0
    have r1 := I.r1
    rw [List.drop_eq_nil_of_le (by rw [stepsF_len]; exact Nat.le_refl _)] at r1
    have one : countF [] (sizeF b ps) = 1 := rfl
    rw [one] at x r1
    unfold idxF
    generalize (nthF b ps (sizeF b ps) idx) = vs at *
    generalize (ps.zipIdx.foldl (nthS b ps (stepsF b ps) (sizeF b ps)) ([], idx)).2 = r at *
    omega
theorem idxC_mov {c : List (Int × Int)} {far sg : Int} (hs : sg = 1 ∨ sg = -1) (F : Fr b ps) (hc : c.Perm (b.map (mu far sg))) {vs : List Int} (hl : vs.length = ps.length) (hf : (b ++ ps.zip vs).Pairwise Fit) {q : Int × Nat} (hq : q ∈ ps.zipIdx) : idxC c (thereF ps far sg) vs (sg * q.1 + far, q.2) = idxC b ps vs q := by
  obtain ⟨p, k⟩ := q
  have hp : ps[k]? = some p := List.mem_zipIdx_iff_getElem?.mp hq
  obtain ⟨l, _⟩ := List.getElem?_eq_some_iff.mp hp
  rw [idxC_eq, idxC_eq]
  have hk : (vs.take k).length = k := by rw [List.length_take]; omega
  refine cls_mov hs (book_mov hc ps (vs.take k)) (F.apartM.ne (by rw [hk]; exact hp)) (List.Pairwise.sublist ?_ hf)
  rw [← zip_take]
  refine List.Sublist.append (List.Sublist.refl _) ?_
  have : ∀ (k : Nat) (a c : List Int), ((a.take k).zip c).Sublist (a.zip c) := by
    intro k
    induction k with
    | zero => intro a c; simp
    | succ k ih =>
      intro a c
      cases a with
      | nil => simp
      | cons x a =>
        cases c with
        | nil => simp
        | cons y c => exact (ih a c).cons_cons (x, y)
  exact this k ps vs
theorem there_idx (far sg : Int) : (thereF ps far sg).zipIdx = ps.zipIdx.map fun q => (sg * q.1 + far, q.2) := by
  unfold thereF
  rw [List.zipIdx_map]
  rfl
theorem okv_mov {c : List (Int × Int)} {far sg size : Int} (hs : sg = 1 ∨ sg = -1) (F : Fr b ps) (hc : c.Perm (b.map (mu far sg))) {vs : List Int} (hf : (b ++ ps.zip vs).Pairwise Fit) (h : OkV b ps size vs) : OkV c (thereF ps far sg) size vs := by
  refine ⟨by unfold thereF; rw [List.length_map]; exact h.1, ?_⟩
  rw [there_idx, List.forall_mem_map]
  intro q hq
  rw [idxC_mov hs F hc h.1 hf hq]
  exact h.2 q hq
theorem foldl_cong {α β : Type} {f g : α → β → α} : ∀ (l : List β) (a : α), (∀ x ∈ l, ∀ a, f a x = g a x) → l.foldl f a = l.foldl g a
  | [], a, _ => rfl
  | x :: l, a, h => by
    rw [List.foldl_cons, List.foldl_cons, h x (by simp)]
    exact foldl_cong l _ fun y hy => h y (by simp [hy])
theorem idx_mov {c : List (Int × Int)} {far sg size : Int} (hs : sg = 1 ∨ sg = -1) (F : Fr b ps) (hc : c.Perm (b.map (mu far sg))) {vs : List Int} (hl : vs.length = ps.length) (hf : (b ++ ps.zip vs).Pairwise Fit) : idxF c (thereF ps far sg) size vs = idxF b ps size vs := by
  unfold idxF
  rw [there_idx, List.foldl_map, st_mov hs hc]
  refine foldl_cong _ _ fun q hq f => ?_
  unfold idxS
  rw [idxC_mov hs F hc hl hf hq]
end
/-! ### sums -/
def zeroM (b : List (Int × Int)) : List (Int × Int) := b.map fun q => (q.1, 0)
theorem zero_mov {b c : List (Int × Int)} {far sg : Int} (h : c.Perm (b.map (mu far sg))) : (zeroM c).Perm ((zeroM b).map (mu far sg)) := by
  unfold zeroM
  have := h.map fun q : Int × Int => (q.1, (0 : Int))
  rw [List.map_map] at this
  rw [List.map_map]
  exact this
theorem zero_fit (b : List (Int × Int)) : (zeroM b).Pairwise Fit := List.pairwise_map.mpr (List.pairwise_of_forall fun x y => by
  show _ ∣ (0 : Int) - 0
  exact Int.dvd_zero _)
theorem zero_apart {b : List (Int × Int)} {ps : List Int} (h : Apart b ps) : Apart (zeroM b) ps := by
  unfold Apart zeroM
  rw [List.map_map]
  exact h
theorem vals_mov {b c : List (Int × Int)} {ps : List Int} {far sg : Int} (hs : sg = 1 ∨ sg = -1) (ha : Apart b ps) (hc : c.Perm (b.map (mu far sg))) : ∀ (rest pre row : List Int), ps = pre ++ rest → row.length = pre.length → (b ++ ps.zip row).Pairwise Fit → (rest.map fun p => sg * p + far).foldl (valS c (thereF ps far sg)) row = rest.foldl (valS b ps) row
  | [], pre, row, _, _, _ => rfl
  | p :: rest, pre, row, e, hl, hf => by
    have hp : ps[row.length]? = some p := by rw [e, hl]; simp
    rw [List.map_cons, List.foldl_cons, List.foldl_cons]
    have ec : classF (c ++ (thereF ps far sg).zip row) (sg * p + far) = classF (b ++ ps.zip row) p := cls_mov hs (book_mov hc ps row) (ha.ne hp) hf
    have e1 : valS c (thereF ps far sg) row (sg * p + far) = valS b ps row p := by
      unfold valS
      rw [ec]
    rw [e1]
    refine vals_mov hs ha hc rest (pre ++ [p]) _ (by rw [e]; simp) (by unfold valS; simp [hl]) ?_
    have := fit_more (r := 0) ha hp hf
    rw [Int.mul_zero, Int.add_zero] at this
    exact this
theorem rowS_eq (b : List (Int × Int)) (ps : List Int) : rowS b ps = valS (zeroM b) ps := rfl
theorem row_mov {b c : List (Int × Int)} {ps : List Int} {far sg : Int} (hs : sg = 1 ∨ sg = -1) (F : Fr b ps) (hc : c.Perm (b.map (mu far sg))) {q : Int × Nat} (hq : q ∈ (stepsF b ps).zipIdx) : rowF c (thereF ps far sg) q = rowF b ps q := by
  obtain ⟨st, k⟩ := q
  have h1 : (stepsF b ps)[k]? = some st := List.mem_zipIdx_iff_getElem?.mp hq
  obtain ⟨l, e1⟩ := List.getElem?_eq_some_iff.mp h1
  rw [stepsF_len] at l
  have hp : ps[k]? = some ps[k] := List.getElem?_eq_getElem l
  have e2 : st = stepD b ps (ps[k], k) := by
    have := steps_at (b := b) hp
    rw [h1] at this
    exact Option.some.inj this
  unfold rowF
  show ((thereF ps far sg).drop (k + 1)).foldl (rowS c (thereF ps far sg)) (List.replicate k 0 ++ [st]) = (ps.drop (k + 1)).foldl (rowS b ps) (List.replicate k 0 ++ [st])
  rw [rowS_eq, rowS_eq]
  have e3 : (thereF ps far sg).drop (k + 1) = (ps.drop (k + 1)).map fun p => sg * p + far := by
    unfold thereF
    rw [List.map_drop]
  rw [e3]
  refine vals_mov hs (zero_apart F.apartM) (zero_mov hc) _ (ps.take (k + 1)) _ (List.take_append_drop _ _).symm (by rw [List.length_append, List.length_replicate, List.length_take, List.length_singleton]; omega) ?_
  have hl : (List.replicate k (0 : Int)).length = k := List.length_replicate
  rw [zip_snoc ps _ ps[k] _ (by rw [hl]; exact hp), ← List.append_assoc]
  refine fit_snoc ?_ ?_
  · have hz : ∀ q ∈ zeroM b ++ ps.zip (List.replicate k 0), q.2 = 0 := fun q hq => by
      rcases List.mem_append.mp hq with m | m
      · unfold zeroM at m
        obtain ⟨_, _, rfl⟩ := List.mem_map.mp m
        rfl
      · have m : (q.1, q.2) ∈ ps.zip (List.replicate k 0) := m
        exact (List.mem_replicate.mp (List.of_mem_zip m).2).2
    refine List.pairwise_iff_forall_sublist.mpr fun {x y} hxy => ?_
    have hx := hz x (hxy.subset (by simp))
    have hy := hz y (hxy.subset (by simp))
    unfold Fit
    rw [hx, hy]
    exact Int.dvd_zero _
  · intro q hq
    have key : ps[k] - q.1 ∣ st := by
      rw [e2]
      unfold stepD
      refine lcmN_all.mp (Int.dvd_refl _) _ (List.mem_map.mpr ⟨q.1, ?_, rfl⟩)
      rcases List.mem_append.mp hq with m | m
      · unfold zeroM at m
        obtain ⟨q', h', rfl⟩ := List.mem_map.mp m
        exact List.mem_append_left _ (List.mem_map.mpr ⟨q', h', rfl⟩)
      · have := zip_mem_fst m
        rw [hl] at this
        exact List.mem_append_right _ this
    have z : q.2 = 0 := by
      rcases List.mem_append.mp hq with m | m
      · unfold zeroM at m
        obtain ⟨_, _, rfl⟩ := List.mem_map.mp m
        rfl
      · have m : (q.1, q.2) ∈ ps.zip (List.replicate k 0) := m
        exact (List.mem_replicate.mp (List.of_mem_zip m).2).2
    rw [z, Int.sub_zero]
    exact key
theorem sum_mov {b c : List (Int × Int)} {ps : List Int} {far sg : Int} (hs : sg = 1 ∨ sg = -1) (F : Fr b ps) (hc : c.Perm (b.map (mu far sg))) (ws : List Int) : sumF c (thereF ps far sg) ws = sumF b ps ws := by
  have e1 : vecsF c (thereF ps far sg) = vecsF b ps := by
    unfold vecsF
    rw [st_mov hs hc]
    exact List.map_congr_left fun q hq => row_mov hs F hc hq
  have e2 : valsF c (thereF ps far sg) = valsF b ps := by
    unfold valsF
    exact vals_mov hs F.apartM hc ps [] [] rfl rfl (by simpa using F.fit)
  have e3 : sumM c (thereF ps far sg) ws = sumM b ps ws := by
    unfold sumM
    rw [e1]
  unfold sumF
  rw [e2, e3]
end Kr
end
section
/-! M15: tables and reasons go along with the places. -/
namespace Kr
theorem Meets.uniq {c0 c c' : Int × Int} {cs cs' : List (Int × Int)} (h : Meets c0 cs c) (h' : Meets c0 cs' c') (e : ∀ q, q ∈ cs ↔ q ∈ cs') : c = c' := by
  have m1 : c.2 ∣ c'.2 := h.least _ h'.m0 fun q hq => h'.ms q ((e q).mp hq)
  have m2 : c'.2 ∣ c.2 := h'.least _ h.m0 fun q hq => h.ms q ((e q).mpr hq)
  have b1 := h.bd
  have b2 := h'.bd
  have em : c.2 = c'.2 := Int.dvd_antisymm (by omega) (by omega) m1 m2
  have d : c.2 ∣ c.1 - c'.1 := h.least _ (by
    rw [show c.1 - c'.1 = (c.1 - c0.1) - (c'.1 - c0.1) by omega]
    exact Int.dvd_sub h.d0 h'.d0) fun q hq => by
    rw [show c.1 - c'.1 = (c.1 - q.1) - (c'.1 - q.1) by omega]
    exact Int.dvd_sub (h.ds q hq) (h'.ds q ((e q).mp hq))
  have e1 : c.1 = c'.1 := by
    obtain ⟨k, hk⟩ := d
    by_cases z : k = 0
    · rw [z, Int.mul_zero] at hk; omega
    · have : k ≤ -1 ∨ 1 ≤ k := by omega
      rcases this with y | y
      · have := Int.mul_le_mul_of_nonneg_left y (show 0 ≤ c.2 by omega)
        omega
      · have := Int.mul_le_mul_of_nonneg_left y (show 0 ≤ c.2 by omega)
        omega
  exact Prod.ext e1 em
theorem gcd_same {x y m : Int} (h : ∀ d : Int, d ∣ m → (d ∣ x ↔ d ∣ y)) : Int.gcd x m = Int.gcd y m := by
  refine Nat.dvd_antisymm ?_ ?_
  · exact Int.natCast_dvd_natCast.mp (Int.dvd_coe_gcd ((h _ (Int.gcd_dvd_right x m)).mp (Int.gcd_dvd_left x m)) (Int.gcd_dvd_right x m))
  · exact Int.natCast_dvd_natCast.mp (Int.dvd_coe_gcd ((h _ (Int.gcd_dvd_right y m)).mpr (Int.gcd_dvd_left y m)) (Int.gcd_dvd_right y m))
/-- what an item says of a remainder's places -/
def tq (m r : Int) (q : Int × Int) : Int × Int := (q.2 % (Int.gcd ((r - q.1).natAbs : Int) m : Int), (Int.gcd ((r - q.1).natAbs : Int) m : Int))
theorem tabC_fold (b : List (Int × Int)) (m r : Int) : tabC b m r = (b.map (tq m r)).foldl metF (0, 1) := by
  unfold tabC
  rw [List.foldl_map]
  rfl
theorem tab_meets {b : List (Int × Int)} {m : Int} (hm : 1 ≤ m) (hf : b.Pairwise Fit) (r : Int) : Meets (0, 1) (b.map (tq m r)) (tabC b m r) := by
  rw [tabC_fold]
  refine fold_ok (b.map (tq m r)) (0, 1) (by decide) (fun q hq => ?_) (fun q hq => ?_) ?_
  · obtain ⟨p, hp, rfl⟩ := List.mem_map.mp hq
    have := Int.gcd_pos_of_ne_zero_right ((r - p.1).natAbs : Int) (b := m) (by omega)
    show 1 ≤ (Int.gcd ((r - p.1).natAbs : Int) m : Int)
    omega
  · rw [Int.gcd_one_left]
    exact Int.one_dvd _
  · refine List.pairwise_map.mpr (hf.imp fun {p q} h => ?_)
    show (Int.gcd (Int.gcd ((r - p.1).natAbs : Int) m : Int) (Int.gcd ((r - q.1).natAbs : Int) m : Int) : Int) ∣ q.2 % (Int.gcd ((r - q.1).natAbs : Int) m : Int) - p.2 % (Int.gcd ((r - p.1).natAbs : Int) m : Int)
    have a1 : (Int.gcd ((r - p.1).natAbs : Int) m : Int) ∣ r - p.1 := Int.dvd_trans (Int.gcd_dvd_left _ _) (nat_dvd.mpr (Int.dvd_refl _))
    have a2 : (Int.gcd ((r - q.1).natAbs : Int) m : Int) ∣ r - q.1 := Int.dvd_trans (Int.gcd_dvd_left _ _) (nat_dvd.mpr (Int.dvd_refl _))
    generalize (Int.gcd ((r - p.1).natAbs : Int) m : Int) = g1 at *
    generalize (Int.gcd ((r - q.1).natAbs : Int) m : Int) = g2 at *
    have d1 := Int.gcd_dvd_left g1 g2
    have d2 := Int.gcd_dvd_right g1 g2
    generalize (Int.gcd g1 g2 : Int) = g at *
    have e1 : g ∣ p.2 - p.2 % g1 := Int.dvd_trans d1 (dvd_emod g1 p.2)
    have e2 : g ∣ q.2 - q.2 % g2 := Int.dvd_trans d2 (dvd_emod g2 q.2)
    have e3 : g ∣ p.1 - q.1 := by
      rw [show p.1 - q.1 = (r - q.1) - (r - p.1) by omega]
      exact Int.dvd_sub (Int.dvd_trans d2 a2) (Int.dvd_trans d1 a1)
    have e4 : g ∣ p.2 - q.2 := Int.dvd_trans e3 h
    rw [show q.2 % g2 - p.2 % g1 = (p.2 - p.2 % g1) - (q.2 - q.2 % g2) - (p.2 - q.2) by omega]
    exact Int.dvd_sub (Int.dvd_sub e1 e2) e4
theorem sg_dvd' {sg d x : Int} (h : sg = 1 ∨ sg = -1) : d ∣ sg * x ↔ d ∣ x := by
  rcases h with e | e
  · rw [e, Int.one_mul]
  · rw [e, Int.neg_mul, Int.one_mul]
    exact Int.dvd_neg
theorem tq_mov {m r far sg : Int} (hs : sg = 1 ∨ sg = -1) (q : Int × Int) : tq m ((sg * r + far) % m) (mu far sg q) = tq m r q := by
  have e : Int.gcd ((((sg * r + far) % m - (sg * q.1 + far)).natAbs : Nat) : Int) m = Int.gcd (((r - q.1).natAbs : Nat) : Int) m := by
    refine gcd_same fun d hd => ?_
    rw [Int.dvd_natAbs, Int.dvd_natAbs]
    have h1 := Int.dvd_trans hd (dvd_emod m (sg * r + far))
    rw [← sg_dvd' hs (x := r - q.1), Int.mul_sub]
    constructor
    · intro h
      have := Int.dvd_add h1 h
      rw [show sg * r + far - (sg * r + far) % m + ((sg * r + far) % m - (sg * q.1 + far)) = sg * r - sg * q.1 by omega] at this
      exact this
    · intro h
      have := Int.dvd_sub h h1
      rw [show sg * r - sg * q.1 - (sg * r + far - (sg * r + far) % m) = (sg * r + far) % m - (sg * q.1 + far) by omega] at this
      exact this
  unfold tq mu
  show (q.2 % (Int.gcd ((((sg * r + far) % m - (sg * q.1 + far)).natAbs : Nat) : Int) m : Int), (Int.gcd ((((sg * r + far) % m - (sg * q.1 + far)).natAbs : Nat) : Int) m : Int)) = _
  rw [e]
theorem tabC_mov {b c : List (Int × Int)} {m far sg : Int} (hs : sg = 1 ∨ sg = -1) (hm : 1 ≤ m) (hf : b.Pairwise Fit) (hc : c.Perm (b.map (mu far sg))) (r : Int) : tabC c m ((sg * r + far) % m) = tabC b m r := by
  refine (tab_meets hm (fit_mov hs hc hf) _).uniq (tab_meets hm hf r) fun q => ?_
  have h1 : (c.map (tq m ((sg * r + far) % m))).Perm (b.map (tq m r)) := by
    have := hc.map (tq m ((sg * r + far) % m))
    rw [List.map_map] at this
    rw [show b.map (tq m r) = b.map (tq m ((sg * r + far) % m) ∘ mu far sg) from List.map_congr_left fun q hq => (tq_mov hs q).symm]
    exact this
  exact h1.mem_iff
theorem tabF_at (b : List (Int × Int)) {m : Int} {k : Nat} (h : (k : Int) < m) : (tabF b m).getD k (0, 0) = tabC b m k := by
  unfold tabF
  rw [List.getD_eq_getElem?_getD, List.getElem?_map, List.getElem?_range (by omega)]
  rfl
theorem tab_mov {b c : List (Int × Int)} {m far sg : Int} (hs : sg = 1 ∨ sg = -1) (hm : 1 ≤ m) (hf : b.Pairwise Fit) (hc : c.Perm (b.map (mu far sg))) (rest : Nat) (hr : (rest : Int) < m) : (tabF c m).getD ((sg * (rest : Int) + far) % m).toNat (0, 0) = (tabF b m).getD rest (0, 0) := by
  have h1 := Int.emod_nonneg (sg * (rest : Int) + far) (show m ≠ 0 by omega)
  have h2 := Int.emod_lt_of_pos (sg * (rest : Int) + far) (show 0 < m by omega)
  rw [tabF_at c (by omega), tabF_at b hr, show ((((sg * (rest : Int) + far) % m).toNat : Nat) : Int) = (sg * (rest : Int) + far) % m by omega]
  exact tabC_mov hs hm hf hc rest
/-! ### reasons -/
theorem keep_inv {b : List (Int × Int)} {pl m : Int} {n : Nat} : ∀ (l : List Nat) (kept : List Nat), kept.Sublist (List.range n) → m ∣ (farF b pl kept : Int) → (l.foldl (keepF b pl m) kept).Sublist (List.range n) ∧ m ∣ (farF b pl (l.foldl (keepF b pl m) kept) : Int)
  | [], kept, h1, h2 => ⟨h1, h2⟩
  | i :: l, kept, h1, h2 => by
    rw [List.foldl_cons]
    refine keep_inv l _ ?_ ?_
    · unfold keepF
      split
      · exact List.filter_sublist.trans h1
      · exact h1
    · unfold keepF
      split
      · rename_i h; exact h
      · exact h2
theorem reason_ok {b : List (Int × Int)} {pl m : Int} {ks : List Nat} (h : reasonF b pl m = some ks) : ks.Sublist (List.range b.length) ∧ m ∣ (farF b pl ks : Int) := by
  unfold reasonF at h
  split at h
  · rename_i hm
    have e := Option.some.inj h
    rw [← e]
    exact keep_inv _ _ (List.Sublist.refl _) hm
  · cases h
theorem mov_at {b : List (Int × Int)} {far sg : Int} (hs : sg = 1 ∨ sg = -1) (ha : b.Pairwise fun p q => p.1 < q.1) {k : Nat} (hk : k < b.length) : (movF b far sg).getD (if sg > 0 then k else b.length - 1 - k) (0, 0) = mu far sg (b.getD k (0, 0)) := by
  rcases hs with e | e
  · rw [e, if_pos (by decide), mov_1 ha]
    unfold shB
    rw [getD_map _ hk]
    rfl
  · have hl : (shB b far (-1)).length = b.length := List.length_map _
    rw [e, if_neg (by decide), mov_m ha, getD_rev (by omega), hl, show b.length - 1 - (b.length - 1 - k) = k by omega]
    unfold shB
    rw [getD_map _ hk]
    rfl
theorem mirK_mem {b : List (Int × Int)} {sg : Int} {ks : List Nat} {j : Nat} : j ∈ mirK b sg ks ↔ ∃ k ∈ ks, j = if sg > 0 then k else b.length - 1 - k := by
  unfold mirK
  split
  · constructor
    · intro h; exact ⟨j, h, rfl⟩
    · rintro ⟨k, h, rfl⟩; exact h
  · rw [List.mem_map]
    constructor
    · rintro ⟨k, h, rfl⟩
      exact ⟨k, List.mem_reverse.mp h, rfl⟩
    · rintro ⟨k, h, rfl⟩
      exact ⟨k, List.mem_reverse.mpr h, rfl⟩
theorem far_mov {b : List (Int × Int)} {far sg pl : Int} {ks : List Nat} (hs : sg = 1 ∨ sg = -1) (ha : b.Pairwise fun p q => p.1 < q.1) (hk : ∀ k ∈ ks, k < b.length) : farF (movF b far sg) (sg * pl + far) (mirK b sg ks) = farF b pl ks := by
  unfold farF
  refine lcmN_same fun X => ?_
  rw [List.forall_mem_map, List.forall_mem_map]
  have key : ∀ k : Nat, k < b.length → (sg * pl + far - ((movF b far sg).getD (if sg > 0 then k else b.length - 1 - k) (0, 0)).1 ∣ (X : Int) ↔ pl - (b.getD k (0, 0)).1 ∣ (X : Int)) := fun k h => by
    rw [mov_at hs ha h]
    exact dvd_mov hs
  constructor
  · intro h k hk'
    exact (key k (hk k hk')).mp (h _ (mirK_mem.mpr ⟨k, hk', rfl⟩))
  · intro h j hj
    obtain ⟨k, hk', rfl⟩ := mirK_mem.mp hj
    exact (key k (hk k hk')).mpr (h k hk')
theorem rs_mov {b : List (Int × Int)} {far sg m p0 : Int} (hs : sg = 1 ∨ sg = -1) (hb : Bk b) {ks : List Nat} (h : reasonF b p0 m = some ks) : (((mirK b sg ks).length ≤ 24 ∧ ∀ k ∈ mirK b sg ks, k < (movF b far sg).length) ∧ (mirK b sg ks).Pairwise (· < ·)) ∧ m ∣ (farF (movF b far sg) (sg * p0 + far) (mirK b sg ks) : Int) ∧ ∀ k ∈ ks, k < b.length := by
  obtain ⟨h1, h2⟩ := reason_ok h
  have hk : ∀ k ∈ ks, k < b.length := fun k hk => List.mem_range.mp (h1.subset hk)
  have ha : ks.Pairwise (· < ·) := List.pairwise_lt_range.sublist h1
  have hl : ks.length ≤ b.length := by
    have := h1.length_le
    rw [List.length_range] at this
    exact this
  have hL : (movF b far sg).length = b.length := by rw [(mov_mu b far sg).length_eq, List.length_map]
  have bl := hb.len
  refine ⟨⟨⟨?_, fun j hj => ?_⟩, ?_⟩, ?_, hk⟩
  · unfold mirK
    split
    · omega
    · rw [List.length_map, List.length_reverse]; omega
  · obtain ⟨k, hk', rfl⟩ := mirK_mem.mp hj
    have := hk k hk'
    rw [hL]
    split <;> omega
  · unfold mirK
    split
    · exact ha
    · refine List.pairwise_map.mpr (List.pairwise_reverse.mpr ?_)
      refine ha.imp_of_mem fun {x y} hx hy h => ?_
      have := hk x hx
      have := hk y hy
      omega
  · rw [far_mov hs hb.asc hk]
    exact h2
end Kr
end
section
/-! M16: questions go along with the places, and make all sure. -/
namespace Kr
/-- the remainders from r on, n of them, that are not among kn -/
def fre (kn : List Int) : Nat → Int → List Int
  | 0, _ => []
  | n + 1, r => if r ∈ kn then fre kn n (r + 1) else r :: fre kn n (r + 1)
theorem fre_mem (kn : List Int) : ∀ (n : Nat) (r x : Int), x ∈ fre kn n r ↔ (r ≤ x ∧ x < r + n) ∧ x ∉ kn
  | 0, r, x => by
    unfold fre
    constructor
    · intro h; cases h
    · rintro ⟨h, _⟩; omega
  | n + 1, r, x => by
    have ih := fre_mem kn n (r + 1) x
    unfold fre
    split
    · rename_i h
      rw [ih]
      constructor
      · rintro ⟨h1, h2⟩; exact ⟨by omega, h2⟩
      · rintro ⟨h1, h2⟩
        have : x ≠ r := fun e => h2 (e ▸ h)
        exact ⟨by omega, h2⟩
    · rename_i h
      rw [List.mem_cons, ih]
      constructor
      · rintro (e | ⟨h1, h2⟩)
        · rw [e]; exact ⟨by omega, h⟩
        · exact ⟨by omega, h2⟩
      · rintro ⟨h1, h2⟩
        by_cases e : x = r
        · exact .inl e
        · exact .inr ⟨by omega, h2⟩
theorem fre_asc (kn : List Int) : ∀ (n : Nat) (r : Int), (fre kn n r).Pairwise (· < ·)
  | 0, r => List.Pairwise.nil
  | n + 1, r => by
    unfold fre
    split
    · exact fre_asc kn n (r + 1)
    · refine List.pairwise_cons.mpr ⟨fun x hx => ?_, fre_asc kn n (r + 1)⟩
      have := ((fre_mem kn n (r + 1) x).mp hx).1
      omega
theorem fl_fre {kn : List Int} {pw many : Int} : ∀ (k : Nat) (f : List Int) (r : Int), (pw - r).toNat ≤ k → (f.length : Int) ≤ many → flL k kn pw many f r = f ++ (fre kn (pw - r).toNat r).take (many - f.length).toNat
  | 0, f, r, h, _ => by
    rw [show (pw - r).toNat = 0 by omega]
    simp [flL, fre]
  | k + 1, f, r, h, l => by
    unfold flL
    split
    · rename_i c
      have e : (pw - r).toNat = (pw - (r + 1)).toNat + 1 := by omega
      rw [e]
      unfold fre
      split
      · exact fl_fre k f (r + 1) (by omega) l
      · rw [fl_fre k (f ++ [r]) (r + 1) (by omega) (by rw [List.length_append, List.length_singleton]; omega), List.append_assoc, List.length_append, List.length_singleton, show (many - (f.length : Int)).toNat = (many - ((f.length + 1 : Nat) : Int)).toNat + 1 by omega]
        rfl
    · rename_i c
      by_cases z : (f.length : Int) < many
      · rw [show (pw - r).toNat = 0 by omega]
        simp [fre]
      · rw [show (many - (f.length : Int)).toNat = 0 by omega]
        simp
theorem res_mem {ps : List Int} {pw x : Int} : x ∈ resF ps pw ↔ ∃ p ∈ ps, p % pw = x := by
  unfold resF
  rw [List.mem_map]
theorem res_bd {ps : List Int} {pw x : Int} (hp : 0 < pw) (h : x ∈ resF ps pw) : 0 ≤ x ∧ x < pw := by
  obtain ⟨p, _, rfl⟩ := res_mem.mp h
  exact ⟨Int.emod_nonneg p (by omega), Int.emod_lt_of_pos p hp⟩
/-- what is lacking, listed -/
def lackL (ps : List Int) (pw : Int) : List Int := fre (sortU (resF ps pw)) pw.toNat 0
theorem lackL_asc (ps : List Int) (pw : Int) : (lackL ps pw).Pairwise (· < ·) := fre_asc _ _ _
theorem lackL_mem {ps : List Int} {pw x : Int} (hp : 0 < pw) : x ∈ lackL ps pw ↔ (0 ≤ x ∧ x < pw) ∧ x ∉ resF ps pw := by
  unfold lackL
  rw [fre_mem, sortU_mem]
  constructor
  · rintro ⟨h1, h2⟩; exact ⟨by omega, h2⟩
  · rintro ⟨h1, h2⟩; exact ⟨by omega, h2⟩
theorem lack_len {ps : List Int} {pw : Int} (hp : 0 < pw) : lackF ps pw = ((lackL ps pw).length : Int) := by
  have h := len_same (a := dd (resF ps pw) ++ lackL ps pw) (b := (List.range pw.toNat).map fun (k : Nat) => (k : Int)) ?_ ?_ fun k => ?_
  · rw [List.length_append, List.length_map, List.length_range] at h
    unfold lackF
    omega
  · refine List.nodup_append.mpr ⟨dd_nodup _, (fre_asc _ _ _).imp fun {x y} h => by omega, fun x hx y hy e => ?_⟩
    rw [← e] at hy
    exact ((lackL_mem hp).mp hy).2 ((dd_mem _ _).mp hx)
  · exact List.pairwise_map.mpr (List.pairwise_lt_range.imp fun {x y} h => by omega)
  · rw [List.mem_append, dd_mem, lackL_mem hp, List.mem_map]
    constructor
    · rintro (h | h)
      · have := res_bd hp h
        exact ⟨k.toNat, List.mem_range.mpr (by omega), by omega⟩
      · exact ⟨k.toNat, List.mem_range.mpr (by omega), by omega⟩
    · rintro ⟨n, hn, rfl⟩
      have hn := List.mem_range.mp hn
      by_cases z : (n : Int) ∈ resF ps pw
      · exact .inl z
      · exact .inr ⟨by omega, z⟩
theorem lack_mov {ps ps' : List Int} {pw far sg : Int} (hs : sg = 1 ∨ sg = -1) (hp : 0 < pw) (h : ∀ x, x ∈ ps' ↔ ∃ y ∈ ps, sg * y + far = x) : lackF ps' pw = lackF ps pw := by
  unfold lackF
  have mv : ∀ y : Int, (sg * (y % pw) + far) % pw = (sg * y + far) % pw := fun y => by
    refine (Int.emod_emod_of_dvd _ (Int.dvd_refl pw)).symm.trans ?_
    rw [Int.emod_emod_of_dvd _ (Int.dvd_refl pw)]
    refine Int.emod_eq_emod_iff_emod_sub_eq_zero.mpr (Int.emod_eq_zero_of_dvd ?_)
    rw [show sg * (y % pw) + far - (sg * y + far) = -(sg * (y - y % pw)) by rw [Int.mul_sub]; omega]
    exact Int.dvd_neg.mpr (Int.dvd_trans (dvd_emod pw y) (Int.dvd_mul_left _ _))
  have e : (dd (resF ps' pw)).length = ((dd (resF ps pw)).map fun r => (sg * r + far) % pw).length := by
    refine len_same (dd_nodup _) ?_ fun k => ?_
    · refine List.pairwise_map.mpr ((dd_nodup (resF ps pw)).imp_of_mem fun {x y} hx hy hxy e => hxy ?_)
      have bx := res_bd hp ((dd_mem _ _).mp hx)
      have by' := res_bd hp ((dd_mem _ _).mp hy)
      have d : pw ∣ sg * (x - y) := by
        have := Int.dvd_of_emod_eq_zero (Int.emod_eq_emod_iff_emod_sub_eq_zero.mp e)
        rw [show sg * x + far - (sg * y + far) = sg * (x - y) by rw [Int.mul_sub]; omega] at this
        exact this
      have d := (sg_dvd' hs).mp d
      obtain ⟨t, ht⟩ := d
      by_cases z : t = 0
      · rw [z, Int.mul_zero] at ht; omega
      · have : t ≤ -1 ∨ 1 ≤ t := by omega
        rcases this with u | u
        · have := Int.mul_le_mul_of_nonneg_left u (show 0 ≤ pw by omega)
          omega
        · have := Int.mul_le_mul_of_nonneg_left u (show 0 ≤ pw by omega)
          omega
    · rw [dd_mem, res_mem, List.mem_map]
      constructor
      · rintro ⟨p, h1, rfl⟩
        obtain ⟨y, hy, rfl⟩ := (h p).mp h1
        exact ⟨y % pw, (dd_mem _ _).mpr (res_mem.mpr ⟨y, hy, rfl⟩), mv y⟩
      · rintro ⟨r, hr, rfl⟩
        obtain ⟨y, hy, rfl⟩ := res_mem.mp ((dd_mem _ _).mp hr)
        exact ⟨sg * y + far, (h _).mpr ⟨y, hy, rfl⟩, (mv y).symm⟩
  rw [e, List.length_map]
theorem most_mov {ps ps' : List Int} {m far sg : Int} (hs : sg = 1 ∨ sg = -1) (hm : 1 ≤ m ∧ m ≤ 30) (h : ∀ x, x ∈ ps' ↔ ∃ y ∈ ps, sg * y + far = x) : mostF ps' m = mostF ps m := by
  unfold mostF
  congr 2
  refine List.map_congr_left fun pw hpw => lack_mov hs ?_ h
  have := (pp_ok hm).1 pw hpw
  omega
/-! ### the questions' places -/
theorem cop_nat : ∀ m : Fin 31, 1 ≤ m.val → (ppF (m.val : Int)).Pairwise (fun p q => Int.gcd p q = 1) := by decide +kernel
theorem cop_ok {m : Int} (h : 1 ≤ m ∧ m ≤ 30) : (ppF m).Pairwise (fun p q => Int.gcd p q = 1) := by
  have := cop_nat ⟨m.toNat, by omega⟩ (by show 1 ≤ m.toNat; omega)
  have e : ((m.toNat : Nat) : Int) = m := by omega
  simp only [e] at this
  exact this
theorem quesM_ok {ps : List Int} {m many : Int} (hm : 1 ≤ m ∧ m ≤ 30) (h0 : 0 ≤ many) {n : Nat} (hn : (n : Int) < many) {pw : Int} (hp : pw ∈ ppF m) : (quesC ps m many n).1 % pw = (flF ps pw many).getD n 0 := by
  have bp := (pp_ok hm).1
  have M := fold_ok ((ppF m).map fun pw => ((flF ps pw many).getD n 0, pw)) (0, 1) (by decide) (fun q hq => by
    obtain ⟨p, h1, rfl⟩ := List.mem_map.mp hq
    have := bp p h1
    show 1 ≤ p
    omega) (fun q hq => by
    rw [Int.gcd_one_left]
    exact Int.one_dvd _) (List.pairwise_map.mpr ((cop_ok hm).imp fun {p q} h => by
    show (Int.gcd p q : Int) ∣ _
    rw [h]
    exact Int.one_dvd _))
  have e : quesC ps m many n = ((ppF m).map fun pw => ((flF ps pw many).getD n 0, pw)).foldl metF (0, 1) := by
    unfold quesC
    rw [List.foldl_map]
    rfl
  rw [← e] at M
  have d := M.ds _ (List.mem_map.mpr ⟨pw, hp, rfl⟩)
  have d : pw ∣ (quesC ps m many n).1 - (flF ps pw many).getD n 0 := d
  have b2 := bp pw hp
  have fo := fl_ok (ps := ps) (pw := pw) (many := many) (by omega) h0
  have hl : n < (flF ps pw many).length := by have := fo.2; omega
  have bd := fo.1 ((flF ps pw many).getD n 0) (by
    rw [List.getD_eq_getElem?_getD, List.getElem?_eq_getElem hl]
    exact List.getElem_mem hl)
  generalize (flF ps pw many).getD n 0 = x at *
  have e2 : (quesC ps m many n).1 % pw = x % pw := Int.emod_eq_emod_iff_emod_sub_eq_zero.mpr (Int.emod_eq_zero_of_dvd d)
  rw [e2]
  exact Int.emod_eq_of_lt bd.1 bd.2
theorem fl_is {ps : List Int} {pw many : Int} (hp : 0 < pw ∧ pw ≤ 30) (h0 : 0 ≤ many) (h : lackF ps pw ≤ many) : flF ps pw many = lackL ps pw ++ List.replicate (many - (lackF ps pw)).toNat 0 := by
  have hl := lack_len (ps := ps) hp.1
  have e : flL 40 (sortU (resF ps pw)) pw many [] 0 = lackL ps pw := by
    rw [fl_fre 40 [] 0 (by omega) (by simpa using h0), List.nil_append, show (pw - 0).toNat = pw.toNat by omega]
    refine List.take_of_length_le ?_
    show (lackL ps pw).length ≤ _
    rw [List.length_nil]
    omega
  unfold flF
  rw [e, hl]
theorem fl_get {ps : List Int} {pw many : Int} (hp : 0 < pw ∧ pw ≤ 30) (h0 : 0 ≤ many) (h : lackF ps pw ≤ many) {n : Nat} (hn : n < (lackL ps pw).length) : (flF ps pw many).getD n 0 = (lackL ps pw)[n] := by
  rw [fl_is hp h0 h, List.getD_eq_getElem?_getD, List.getElem?_append_left hn, List.getElem?_eq_getElem hn]
  rfl
theorem most_ge {ps : List Int} {m pw : Int} (h : pw ∈ ppF m) : lackF ps pw ≤ mostF ps m := maxL_ge 0 ((ppF m).map (lackF ps)) _ (List.mem_cons_of_mem _ (List.mem_map.mpr ⟨pw, h, rfl⟩))
theorem most_at {ps : List Int} {m : Int} (h : 0 < mostF ps m) : ∃ pw ∈ ppF m, lackF ps pw = mostF ps m := by
  have h2 := maxL_mem 0 ((ppF m).map (lackF ps))
  have h2 : mostF ps m ∈ 0 :: (ppF m).map (lackF ps) := h2
  rcases List.mem_cons.mp h2 with e | e
  · omega
  · exact List.mem_map.mp e
theorem most_zero {ps : List Int} {m : Int} (h : ∀ pw ∈ ppF m, lackF ps pw = 0) : mostF ps m = 0 := by
  have h2 := maxL_mem 0 ((ppF m).map (lackF ps))
  have h2 : mostF ps m ∈ 0 :: (ppF m).map (lackF ps) := h2
  rcases List.mem_cons.mp h2 with e | e
  · exact e
  · obtain ⟨pw, h1, h3⟩ := List.mem_map.mp e
    rw [← h3]
    exact h pw h1
theorem ques_len {b : List (Int × Int)} {m : Int} (hm : 1 ≤ m ∧ m ≤ 30) : ((quesF b m).length : Int) = mostF (b.map (·.1)) m := by
  unfold quesF
  rw [List.length_map, List.length_range]
  have := (most_bd (ps := b.map (·.1)) hm).1
  omega
/-- the questions' places are new -/
theorem ques_new {b : List (Int × Int)} {m : Int} (hm : 1 ≤ m ∧ m ≤ 30) (hb : (b.map (·.1)).Nodup) : (b.map (·.1) ++ quesF b m).Nodup := by
  have m0 := (most_bd (ps := b.map (·.1)) hm).1
  by_cases z : mostF (b.map (·.1)) m = 0
  · have : quesF b m = [] := List.length_eq_zero_iff.mp (by have := ques_len (b := b) hm; omega)
    rw [this, List.append_nil]
    exact hb
  · obtain ⟨pw, hp, e⟩ := most_at (show 0 < mostF (b.map (·.1)) m by omega)
    have bp := (pp_ok hm).1 pw hp
    have hl := lack_len (ps := b.map (·.1)) (pw := pw) (by omega)
    have key : ∀ n : Nat, (n : Int) < mostF (b.map (·.1)) m → ∃ h : n < (lackL (b.map (·.1)) pw).length, (quesC (b.map (·.1)) m (mostF (b.map (·.1)) m) n).1 % pw = (lackL (b.map (·.1)) pw)[n] := fun n hn => by
      have h : n < (lackL (b.map (·.1)) pw).length := by omega
      exact ⟨h, by rw [quesM_ok hm m0 hn hp, fl_get ⟨by omega, bp.2⟩ m0 (by omega) h]⟩
    refine List.nodup_append.mpr ⟨hb, ?_, fun x hx y hy exy => ?_⟩
    · unfold quesF
      refine List.pairwise_map.mpr (List.pairwise_lt_range.imp_of_mem fun {i j} hi hj hij e => ?_)
      obtain ⟨h1, e1⟩ := key i (by have := List.mem_range.mp hi; omega)
      obtain ⟨h2, e2⟩ := key j (by have := List.mem_range.mp hj; omega)
      rw [e, e2] at e1
      have := List.pairwise_iff_getElem.mp (lackL_asc (b.map (·.1)) pw) i j h1 h2 hij
      omega
    · unfold quesF at hy
      obtain ⟨n, hn, rfl⟩ := List.mem_map.mp hy
      obtain ⟨h1, e1⟩ := key n (by have := List.mem_range.mp hn; omega)
      have := ((lackL_mem (by omega)).mp (List.getElem_mem h1)).2
      exact this (res_mem.mpr ⟨x, hx, by rw [exy]; exact e1⟩)
/-- with the questions' places nothing is lacking -/
theorem ques_all {b : List (Int × Int)} {m : Int} (hm : 1 ≤ m ∧ m ≤ 30) {pw : Int} (hp : pw ∈ ppF m) : lackF (b.map (·.1) ++ quesF b m) pw = 0 := by
  have m0 := (most_bd (ps := b.map (·.1)) hm).1
  have bp := (pp_ok hm).1 pw hp
  have hl := lack_len (ps := b.map (·.1)) (pw := pw) (by omega)
  have hg := most_ge (ps := b.map (·.1)) hp
  rw [lack_len (by omega)]
  have : lackL (b.map (·.1) ++ quesF b m) pw = [] := List.eq_nil_iff_forall_not_mem.mpr fun x hx => by
    obtain ⟨h1, h2⟩ := (lackL_mem (by omega)).mp hx
    by_cases z : x ∈ resF (b.map (·.1)) pw
    · obtain ⟨p, hp', e⟩ := res_mem.mp z
      exact h2 (res_mem.mpr ⟨p, List.mem_append_left _ hp', e⟩)
    · have h3 := (lackL_mem (ps := b.map (·.1)) (by omega)).mpr ⟨h1, z⟩
      obtain ⟨n, hn, e⟩ := List.mem_iff_getElem.mp h3
      refine h2 (res_mem.mpr ⟨(quesC (b.map (·.1)) m (mostF (b.map (·.1)) m) n).1, List.mem_append_right _ ?_, ?_⟩)
      · unfold quesF
        exact List.mem_map.mpr ⟨n, List.mem_range.mpr (by omega), rfl⟩
      · rw [quesM_ok hm m0 (by omega) hp, fl_get ⟨by omega, bp.2⟩ m0 hg hn, e]
  rw [this]
  rfl
theorem there_mem {ps : List Int} {far sg x : Int} : x ∈ thereF ps far sg ↔ ∃ y ∈ ps, sg * y + far = x := by
  unfold thereF
  rw [List.mem_map]
theorem fst_mov {b c : List (Int × Int)} {far sg : Int} (hc : c.Perm (b.map (mu far sg))) : (c.map (·.1)).Perm (thereF (b.map (·.1)) far sg) := by
  have := hc.map (·.1)
  rw [List.map_map] at this
  unfold thereF
  rw [List.map_map]
  exact this
theorem q1_mov {b c : List (Int × Int)} {m far sg : Int} (hs : sg = 1 ∨ sg = -1) (hm : 1 ≤ m ∧ m ≤ 30) (hc : c.Perm (b.map (mu far sg))) : mostF (c.map (·.1)) m = ((quesF b m).length : Int) := by
  rw [ques_len hm]
  exact most_mov hs hm fun x => by rw [(fst_mov hc).mem_iff, there_mem]
theorem there_nodup {ps : List Int} {far sg : Int} (hs : sg = 1 ∨ sg = -1) (h : ps.Nodup) : (thereF ps far sg).Nodup :=
  List.pairwise_map.mpr (h.imp fun {x y} h e => h ((mu_inj hs).mp e))
theorem q2_mov {b c : List (Int × Int)} {m far sg : Int} (hs : sg = 1 ∨ sg = -1) (hm : 1 ≤ m ∧ m ≤ 30) (hb : (b.map (·.1)).Nodup) (hc : c.Perm (b.map (mu far sg))) : (c.map (·.1) ++ thereF (quesF b m) far sg).Nodup := by
  have p := (fst_mov hc).append_right (thereF (quesF b m) far sg)
  have e : thereF (b.map (·.1)) far sg ++ thereF (quesF b m) far sg = thereF (b.map (·.1) ++ quesF b m) far sg := by
    unfold thereF
    rw [List.map_append]
  rw [e] at p
  exact p.nodup_iff.mpr (there_nodup hs (ques_new hm hb))
theorem q3_mov {b c : List (Int × Int)} {m far sg : Int} (hs : sg = 1 ∨ sg = -1) (hm : 1 ≤ m ∧ m ≤ 30) (hc : c.Perm (b.map (mu far sg))) : mostF (c.map (·.1) ++ thereF (quesF b m) far sg) m = 0 := by
  have e : mostF (c.map (·.1) ++ thereF (quesF b m) far sg) m = mostF (b.map (·.1) ++ quesF b m) m := most_mov hs hm fun x => by
    rw [List.mem_append, (fst_mov hc).mem_iff, there_mem, there_mem]
    constructor
    · rintro (⟨y, h, e⟩ | ⟨y, h, e⟩)
      · exact ⟨y, List.mem_append_left _ h, e⟩
      · exact ⟨y, List.mem_append_right _ h, e⟩
    · rintro ⟨y, h, e⟩
      rcases List.mem_append.mp h with h | h
      · exact .inl ⟨y, h, e⟩
      · exact .inr ⟨y, h, e⟩
  rw [e]
  exact most_zero fun pw hp => ques_all hm hp
end Kr
end
section
/-! M17: the plain law. -/
namespace Kr
theorem pl_rt : ∀ (r : Row) (ss : List Int) (most far m sg : Int) (ps : List Int), RowP r → most ≤ 16 → SpotP r most ss → (-50 ≤ far ∧ far ≤ 10000000000000000000000000000) → NewP (bookF r ss) 3 ps → (1 ≤ m ∧ m ≤ 30) → sg = 1 ∨ sg = -1 → RtOk (bookF r ss) far sg m ps := fun r ss most far m sg ps h hm hs hf hn m1 hsg => by
  have hb := book_bk h hm hs
  have fit := book_fit h ss
  have len : (bookF r ss).length ≤ 16 := by
    unfold bookF
    rw [List.length_map]
    have := hs.len
    omega
  have room : Room29 (bookF r ss) := fun q hq => by
    unfold bookF at hq
    obtain ⟨x, hx, rfl⟩ := List.mem_map.mp hq
    exact hs.far x hx
  have F : Fr (bookF r ss) ps := ⟨hb, len, confs_nil.mpr fit, hn.n1, by have := hn.len; omega, fun p hp => by have := hn.rg p hp; omega, hn.nd⟩
  have nds : ((bookF r ss).map (·.1)).Nodup := (List.nodup_append.mp hn.nd).2.1
  generalize bookF r ss = b at *
  have hc := mov_mu b far sg
  have tl : (thereF ps far sg).length = ps.length := by unfold thereF; rw [List.length_map]
  have F2 : Fr (movF b far sg) (thereF ps far sg) := by
    refine ⟨mov_bk hb room hf hsg, by rw [hc.length_eq, List.length_map]; exact len, confs_nil.mpr (fit_mov hsg hc fit), by rw [tl]; exact F.n1, by rw [tl]; exact F.n3, fun p hp => ?_, ?_⟩
    · obtain ⟨y, hy, rfl⟩ := there_mem.mp hp
      have := hn.rg y hy
      rcases hsg with e | e
      · rw [e]; omega
      · rw [e]; omega
    · have p1 := (fst_mov hc).append_left (thereF ps far sg)
      have e : thereF ps far sg ++ thereF (b.map (·.1)) far sg = thereF (ps ++ b.map (·.1)) far sg := by
        unfold thereF
        rw [List.map_append]
      rw [e] at p1
      exact p1.nodup_iff.mpr (there_nodup hsg hn.nd)
  refine ⟨F, F2, fun p hp => ?_, st_mov hsg hc ps, fun k h0 h1 => ?_, by have := F.cntM 0; exact this, fun ws _ => sum_mov hsg F hc ws, fun rest hr => tab_mov hsg m1.1 fit hc rest hr, q1_mov hsg m1 hc, q2_mov hsg m1 nds hc, q3_mov hsg m1 hc, fun p0 _ ks hk => rs_mov hsg hb hk⟩
  · refine cls_mov hsg hc (fun q hq e => ?_) fit
    exact (List.nodup_append.mp hn.nd).2.2 p hp q.1 (List.mem_map.mpr ⟨q, hq, rfl⟩) e.symm
  · obtain ⟨e1, e2, e3, e4, e5⟩ := nth_mov hsg F hc h0 h1
    exact ⟨e1, okv_mov hsg F hc e3 e4, by rw [idx_mov hsg F hc e2 e3]; exact e5⟩
theorem plainLaw : PlainLaw := ⟨pl_bk, pl_rt, pl_vl, pl_cf⟩
end Kr
end
section
/-! E1: the end: the law's call over a base that no hook sees. -/
namespace Kr
open PySem PySem.Spec PyProof.Rows L2
/-- the script's object -/
abbrev scr (vs : List Value) : Obj := { cls := .type "list", data := .seq vs.toArray }
/-- nothing is tracked but what stands at one place, the script -/
structure Scr (h : Heap) (a : Addr) (vs : List Value) (H : Hp) : Prop where
  here : h.get? a = some (scr vs)
  one : ∀ c, H c ≠ none → c = a
section
variable {h : Heap} {a : Addr} {vs : List Value} {H : Hp}
theorem Scr.off (S : Scr h a vs H) {c : Addr} {o : Obj} (e : h.get? c = some o) (n : o ≠ scr vs) : H c = none := by
  by_cases z : H c = none
  · exact z
  · have hc := S.one c z
    rw [hc, S.here] at e
    exact absurd (Option.some.inj e).symm n
theorem Scr.out (S : Scr h a vs H) {c : Addr} {o : Obj} (e : h.get? c = some o) (n : o ≠ scr vs) : (hidT h H).get? c = some o := hidT_get e (S.off e n)
theorem Scr.ns (S : Scr h a vs H) {c : Addr} {m : Str → Option Value} (x : h.Ns c m) : (hidT h H).Ns c m := by
  obtain ⟨o, es, ep, e, d, more⟩ := x
  refine ⟨o, es, ep, S.out e fun z => ?_, d, more⟩
  rw [z] at d
  cases d
theorem Scr.lim (S : Scr h a vs H) (x : h.NoLimit) : (hidT h H).NoLimit := by
  obtain ⟨mc, x1, x2⟩ := x
  exact ⟨mc, S.ns x1, x2⟩
theorem Scr.seer (S : Scr h a vs H) (x : h.NoSeer) : (hidT h H).NoSeer := by
  obtain ⟨⟨mc, n1, c1, c2⟩, ⟨mm, n2, m1⟩, ⟨mb, n3, b1⟩, ⟨mg, bm, ob, n4, g1, g2, g3, g4⟩⟩ := x
  refine ⟨⟨mc, S.ns n1, c1, c2⟩, ⟨mm, S.ns n2, m1⟩, ⟨mb, S.ns n3, b1⟩, ⟨mg, bm, ob, S.ns n4, g1, S.out g2 fun z => ?_, g3, g4⟩⟩
  rw [z] at g3
  have g3 : Value.type "list" = Value.type "module" := g3
  exact absurd g3 (by decide)
end
theorem ints_V {vs : List Value} {ns : List Int} (h : IntsAre vs ns) : Vals (ns.map V.int) vs := by
  induction h with
  | nil => exact .nil
  | cons n t _ ih => exact .cons ⟨t, rfl⟩ ih
section
variable {P : Program} {w : World} {K : PySem.W.Frag} {mg mb : Str → Option Value} {k : Nat} {fa a : Addr} {s : Shared} {vs : List Value} {ns : List Int}
/-- what the law's row asks of the call -/
def Asked (s : Shared) (r : Result) (s' : Shared) : Prop := r = .ok (.ret (.bool true)) ∧ OldK s.heap s'.heap ∧ s'.os = s.os ∧ AllBare s'.gens
theorem run_at {H : Hp} (S : Scr s.heap a vs H) (hz : ∀ b u, H b = some u → u = .frz (scr vs) (.lst (ns.map V.int))) (hS : SqL K H a (ns.map V.int)) (ok : HOk P w H s.heap) (kin : K.In (hidT s.heap H))
    (g : s.heap.Ns mainGlobals mg) (b : s.heap.Ns builtinsNs mb) (bb : ∀ x : Str, x ≠ "__name__" → mb x = bootBuiltins x) (lim : s.heap.NoLimit) (gens : s.gens = #[]) (hr : Room k callerA)
    (KX : K.In s.heap) (hm : mg ("law" : Str) = some (.ref fa)) (F : C8.Cal P w K mg (hidT s.heap H) k "law" (spLaw K) []) : codeAny (model P w) callerA (.call (.ref fa) ⟨[.ref a], []⟩) (Asked s) s := by
  have env : Env0 P w K mg (hidT s.heap H) callerA [] s H := {
    frames := rfl
    mod := { kin := kin, glob := S.ns g, blt := ⟨mb, S.ns b, bb⟩, nolimit := S.lim lim }
    bs := fun _ _ => of_hidT
    bsz := by rw [hidT_size]; exact Nat.le_refl _
    funs := True.intro
    frf := fun c hc => by cases hc
    hok := ok
    bare := AllBare.of_eq gens }
  obtain ⟨f2, fd, ps, ds, ok2, hm2, _, bi, vd⟩ := F.ex
  have ef := Option.some.inj (hm.symm.trans hm2)
  cases ef
  cases vd
  have asks : spLaw K [.ref a] H (fun v _ => v = .bl true) (fun _ _ _ => False) := ⟨a, ns, rfl, hS, fun _ => rfl⟩
  have vv : Vals [V.ref a] ([Value.ref a] ++ []) := .cons rfl .nil
  have go := ok2.run callerA [] s H ⟨[.ref a], []⟩ ([Value.ref a] ++ []) [.ref a] _ _ hr env (bi s [.ref a] KX (ok2.len _ _ _ _ asks)) vv asks
  refine codeAny_mono go fun r s' back => ?_
  match r, back with
  | .ok (.ret u), ⟨v, H', e1, e2, un, ok', rel, e3⟩ =>
    have e3 : v = .bl true := e3
    subst e3
    have rel : u = Value.bool true := rel
    subst rel
    refine ⟨rfl, OldK.of_keep fun c o ho => ?_, e1, e2⟩
    match hc : H c with
    | none => exact un.keep c o ho hc (fun z => by cases z) (fun z => by cases z)
    | some u =>
      have hu := hz c u hc
      subst hu
      obtain ⟨here, _⟩ := ok c _ hc
      obtain ⟨there, _⟩ := ok' c _ (un.frzs c _ _ hc)
      rw [here] at ho
      rw [there, ← ho]
theorem run_law (KX : K.In s.heap) (g : s.heap.Ns mainGlobals mg) (b : s.heap.Ns builtinsNs mb) (bb : ∀ x : Str, x ≠ "__name__" → mb x = bootBuiltins x) (lim : s.heap.NoLimit) (see : s.heap.NoSeer) (gens : s.gens = #[])
    (here : s.heap.get? a = some (scr vs)) (hi : IntsAre vs ns) (hl : ns.length ≤ sizeLine) (hr : Room k callerA)
    (hm : mg ("law" : Str) = some (.ref fa)) (F : ∀ base : Heap, base.NoSeer → C8.Cal P w K mg base k "law" (spLaw K) []) :
    codeAny (model P w) callerA (.call (.ref fa) ⟨[.ref a], []⟩) (Asked s) s := by
  have vi := ints_V hi
  have len := hi.length
  match hk : K.lookup a with
  | some o =>
    have eo := KX a o hk
    rw [here] at eo
    have eo := Option.some.inj eo
    subst eo
    have S : Scr s.heap a vs (fun _ => none) := ⟨here, fun c z => absurd rfl z⟩
    have kin : K.In (hidT s.heap fun _ => none) := fun c o ho => hidT_get (KX c o ho) rfl
    refine run_at (ns := ns) S (fun _ _ z => by cases z) (Or.inr ⟨scr vs, vs.toArray, _, hk, rfl, rfl, rfl, ?_, ?_⟩) (fun _ _ z => by cases z) kin g b bb lim gens hr KX hm (F _ (S.seer see))
    · rw [List.size_toArray, len]; exact hl
    · simpa using vi
  | none =>
    let H : Hp := fun c => if c = a then some (.frz (scr vs) (.lst (ns.map V.int))) else none
    have atA : H a = some (.frz (scr vs) (.lst (ns.map V.int))) := if_pos rfl
    have offA : ∀ c, c ≠ a → H c = none := fun c z => if_neg z
    have S : Scr s.heap a vs H := ⟨here, fun c z => by
      by_cases q : c = a
      · exact q
      · exact absurd (offA c q) z⟩
    have val : ∀ c u, H c = some u → c = a ∧ u = .frz (scr vs) (.lst (ns.map V.int)) := fun c u z => by
      by_cases q : c = a
      · rw [q, atA] at z
        exact ⟨q, (Option.some.inj z).symm⟩
      · rw [offA c q] at z
        cases z
    have kin : K.In (hidT s.heap H) := fun c o ho => hidT_get (KX c o ho) (offA c fun z => by rw [z, hk] at ho; cases ho)
    refine run_at S (fun c u z => (val c u z).2) (Or.inl (Or.inr ⟨scr vs, atA⟩)) (fun c u z => ?_) kin g b bb lim gens hr KX hm (F _ (S.seer see))
    obtain ⟨e1, e2⟩ := val c u z
    subst e1 e2
    exact ⟨here, by rw [List.length_map]; exact hl, vs, _, vi, here⟩
end
end Kr
end
set_option maxHeartbeats 0
/-! E3: the law. -/
namespace Kr
open PySem PySem.W PySem.Calls PyProof.Rows
theorem lawName : (HandSHeadRun.topDef Rw.prog 90).name = ("law" : PySem.Str) := by kernel_rfl
theorem walked : WalkO Vw nm (XL Vw []) Hk.says Rw.toRowW (HandSHeadRun.topDef Rw.prog 90) [] fun f vs => PySem.call f vs := by
  refine Att.attach_call (l := PySem.Challenge.rw_keeprests_k19_whole_places_moved_and_mir) (n := 63) rfl (by kernel_rfl) ?_
  intro w s0 s mg mb f o pm cd doc a vs ns G Y _ _ _ hm here hi hl gens
  obtain ⟨K, KX, c⟩ := Y
  rw [lawName] at hm
  have T : Txt K mg := ⟨c, _, KX, G.T.g⟩
  exact run_law (k := 50) KX G.T.g G.T.b G.T.builtins G.T.nolimit (G.T.seer (by decide +kernel)) gens here hi (Nat.le_trans hl (by decide)) ⟨rfl, by decide, by decide⟩ hm fun base see => cal_law T ⟨see, rfl⟩ plainLaw
end Kr
open PySem PySem.W PySem.Calls PyProof.Rows
theorem PySem.Challenge.cw_keeprests_k19_whole_places_moved_and_mir_holds : PySem.Challenge.rw_keeprests_k19_whole_places_moved_and_mir.Holds := by
  w_on; o_law
  refine HandSHeadRun.head_any (r := Kr.Rw) (q := Kr.Vw) (H := Kr.Hk) (ob := Kr.seenBy) (M := 20000) (loose := Kr.nm) (d := HandSHeadRun.topDef Kr.Rw.prog 90) (kwd := []) Kr.seenBy_eq
    (by kernel_rfl) (fun t => by kernel_rfl) Kr.ran (by kernel_rfl) (by kernel_rfl) (by kernel_rfl) rfl (by first | assumption | decide +kernel) (by decide +kernel) ⟨rfl, rfl, rfl, rfl, rfl, by decide +kernel⟩ ?hw Kr.walked
  case hw => w_witness2
#print axioms PySem.Challenge.cw_keeprests_k19_whole_places_moved_and_mir_holds
